import PyProof.Rows.All
import HandS.RaiseMore
import HandS.StrSplit
import HandS.ForMost
import HandS.Wide
import HandS.WordsExc
import HandS.CallSlots
import HandS.IsInst
import HandS.Deep
import HandS.SortInts
import HandS.TupAny
import HandS.NoneIn
import HandS.Style
import HandS.Conv
import HandS.More
import KE.SortData
import KE.DataCmp
import KE.DataMinMax
import KE.KDictZip
import HandS.StrMore
import HandS.Nested
import HandS.Lambda
import HandS.Flow
import HandS.Dict
import HandS.TupMul
import HandS.ListItems
import HandS.TupSets
import HandS.Strs
import HandS.Exc
import HandS.ExcIs
import HandS.ExcOwn
import HandS.TryOnly
import HandS.HotCalls
import HandS.Defaults
import HandS.HeadHook1
import KE.KRevSl
import HandS.SortKw
import HandS.Comp
import HandS.TryMany
import HandS.HeadHook4
import HandS.Head0
import HandS.Head1
import HandS.Head2
import HandS.HeadEnd
import HandS.HeadHook2
import HandS.EndTab
import HandS.HeadWalk
import HandS.NestedK
import KE.KStateDown
import HandS.HeadHook3
import PySem.Challenge.RW_leafpages_k48_texts_refused
set_option Elab.async false
set_option linter.all false
set_option maxRecDepth 100000
/-! L3, part 1: values, cells, the relation to HandS's heap. -/
namespace L3
open PySem PySem.Spec PyProof.Rows L2

/-- a value: tuples and frozen lists by value, live cells by address -/
inductive Val where
  | non | bl (b : Bool) | int (i : Int) | str (s : Str)
  | tup (xs : List Val) | fl (xs : List Val) | sc (ns : List Int) | ref (a : Addr)
  | fd (ks : List Key) (vs : List Val)
  | wd (ks : List Key) (vs : List Val)
  | exc (c : Nat)
  | clo (g : Nat) (ws : List Val)
  deriving Inhabited

/-- what a live cell holds -/
inductive Cell where
  | lst (xs : List Val)
  | dic (kvs : List (Key × Val))
  | ins (c : Nat) (fs : List (Str × Val))
  | tab (q : Str)
  deriving Inhabited

abbrev Hq := Addr → Option Cell
def up (h : Hq) (a : Addr) (c : Cell) : Hq := fun b => if b = a then some c else h b
def er (h : Hq) (a : Addr) : Hq := fun b => if b = a then none else h b
theorem up_same {h : Hq} {a : Addr} {c : Cell} : up h a c a = some c := if_pos rfl
theorem up_ne {h : Hq} {a b : Addr} {c : Cell} (n : b ≠ a) : up h a c b = h b := if_neg n
theorem er_same {h : Hq} {a : Addr} : er h a a = none := if_pos rfl
theorem er_ne {h : Hq} {a b : Addr} (n : b ≠ a) : er h a b = h b := if_neg n
theorem er_up {h : Hq} {a : Addr} {c : Cell} (n : h a = none) : er (up h a c) a = h := by
  funext b; unfold er up; by_cases e : b = a
  · rw [if_pos e, e, n]
  · rw [if_neg e, if_neg e]
theorem er_up' {h : Hq} {a : Addr} {c : Cell} : er (up h a c) a = er h a := by
  funext b; unfold er up; by_cases e : b = a
  · rw [if_pos e, if_pos e]
  · rw [if_neg e, if_neg e, if_neg e]
theorem up_up {h : Hq} {a : Addr} {c d : Cell} : up (up h a c) a d = up h a d := by
  funext b; unfold up; split <;> rfl
theorem up_id {h : Hq} {a : Addr} {c : Cell} (e : h a = some c) : up h a c = h := by
  funext b; unfold up; split
  · rename_i q; rw [q, e]
  · rfl
theorem up_comm {h : Hq} {a b : Addr} {c d : Cell} (n : a ≠ b) : up (up h a c) b d = up (up h b d) a c := by
  funext x; unfold up
  by_cases e : x = a <;> by_cases e2 : x = b
  · exact absurd (e.symm.trans e2) n
  · rw [if_neg e2, if_pos e, if_pos e]
  · rw [if_pos e2, if_neg e, if_pos e2]
  · rw [if_neg e2, if_neg e, if_neg e, if_neg e2]
theorem er_comm_up {h : Hq} {a b : Addr} {c : Cell} (n : a ≠ b) : er (up h a c) b = up (er h b) a c := by
  funext x
  show (if x = b then none else (if x = a then some c else h x)) = (if x = a then some c else (if x = b then none else h x))
  by_cases e : x = a <;> by_cases e2 : x = b
  · exact absurd (e.symm.trans e2) n
  · simp [e, n]
  · simp [e2, Ne.symm n]
  · simp [e, e2]
theorem ne_of_live {h : Hq} {a b : Addr} {c : Cell} (x : h a = some c) (y : h b = none) : a ≠ b := by
  intro e; rw [e, y] at x; cases x
theorem ne_of_live' {h : Hq} {a b : Addr} {c : Cell} (x : h a = some c) (y : h b = none) : b ≠ a := fun e => ne_of_live x y e.symm

/-- the module's own objects -/
class Mo where
  K : PySem.W.Frag
  xc : Nat → Addr
  cc : Nat → Addr
  nd : Nat → Option (Str × Str × Stmt)
  ta : Str → Addr
  io : Bool
  lm : Nat → Expr → Prop
/-- an exception of the class C, caught, at a -/
def ExcH (C a : Addr) : HO := .ext fun h => ∃ (oe : Obj) (vs : Array Value), h.get? a = some oe ∧ Zc (.ref C) none oe ∧ oe.data = .fields vs
/-- the cell at c holds v -/
def CellO (c : Addr) (v : V) : HO := .ext fun h => ∃ u, RelV v u ∧ h.IsCell c (some u)
/-- .. as it is, or frozen (the cell of a frame that runs on) -/
def HoldC (H : Hp) (c : Addr) (v : V) : Prop := H c = some (CellO c v) ∨ ∃ o, H c = some (.frz o (CellO c v))
/-- what a nested def captures, in its scope's order -/
def freeS (sc : Scope) : List Str := sc.names.filterMap fun y => match y.2 with | .free => some y.1 | _ => none
def freeN (st : Stmt) : List Str := freeS (C8.fnScope st)
/-- the object at f is a lambda -/
def LmO (f : Addr) (q : Str) (ps : Arguments) (body : Expr) (sc : Scope) (cl : List (Str × Addr)) (c : Addr) : HO := .ext fun h => ∃ (od : Option Addr) (sl : Array (Option Value)) (pm ctv : Value), h.get? f = some (⟨.type "function", od, .func (PySem.W.kla_fn (Str.ofString "<lambda>") q ps body sc cl pm (.ref c) ctv), sl⟩ : Obj)
/-- the cells are held, each with its value -/
structure CellsH (h : Hq) (H : Hp) (cl : List (Str × Addr)) (fr : List Str) (us : List V) : Prop where
  len : us.length = fr.length
  at_ : ∀ (i : Nat) (y : Str) (v : V), fr[i]? = some y → us[i]? = some v → ∃ c, cl.lookup y = some c ∧ h c = none ∧ HoldC H c v
  all : ∀ y c, cl.lookup y = some c → y ∈ fr
  inj : ∀ x y c, cl.lookup x = some c → cl.lookup y = some c → x = y
/-! ### the relation of values -/
variable [Mo]
/-- the object of the closure g -/
def FnA (g : Nat) (f : Addr) (q : Str) (fr : List Str) (cl : List (Str × Addr)) (c : Addr) (o : HO) : Prop :=
  (∃ nm st, Mo.nd g = some (nm, q, st) ∧ fr = freeN st ∧ o = NdefX.FnO f (NdefX.NF.of st nm q cl c)) ∨ ∃ ps body sc pos, Mo.lm g (.Lambda ps body sc pos) ∧ fr = freeS sc ∧ o = LmO f q ps body sc cl c
mutual
/-- v, over the live cells h and the abstract heap H, is the value V -/
def RV (h : Hq) (H : Hp) : Val → V → Prop
  | .non, x => x = .non
  | .bl b, x => x = .bl b
  | .int i, x => x = .int i
  | .str s, x => x = .str s
  | .tup xs, x => ∃ a vs, x = .ref a ∧ h a = none ∧ H a = some (.tup vs) ∧ RVs h H xs vs
  | .fl xs, x => ∃ a vs, x = .ref a ∧ h a = none ∧ H a = some (.lst vs) ∧ RVs h H xs vs
  | .sc ns, x => ∃ a, x = .ref a ∧ ((h a = none ∧ Rd H a (.lst (ns.map V.int))) ∨ ∀ H', SqL Mo.K H' a (ns.map V.int))
  | .ref a, x => x = .ref a
  | .fd ks ws, x => ∃ a kvs, x = .ref a ∧ h a = none ∧ H a = some (.dK kvs) ∧ kvs.map (·.1) = ks ∧ RVs h H ws (kvs.map (·.2))
  | .wd ks ws, x => ∃ a kvs, x = .ref a ∧ h a = none ∧ (∃ o, H a = some (.frz o (.dK kvs))) ∧ kvs.map (·.1) = ks ∧ RVs h H ws (kvs.map (·.2))
  | .exc c, x => ∃ a, x = .ref a ∧ h a = none ∧ H a = some (ExcH (Mo.xc c) a)
  | .clo g ws, x => ∃ (f c : Addr) (q : Str) (fr : List Str) (cl : List (Str × Addr)) (us : List V) (o : HO), x = .ref f ∧ FnA g f q fr cl c o ∧ h f = none ∧ H f = some o ∧ h c = none ∧ H c = some (LamX.CodeO c q) ∧ CellsH h H cl fr us ∧ RVs h H ws us
def RVs (h : Hq) (H : Hp) : List Val → List V → Prop
  | [], ys => ys = []
  | v :: vs, ys => ∃ y r, ys = y :: r ∧ RV h H v y ∧ RVs h H vs r
end

/-- what is no live cell stays -/
def Stab (h : Hq) (H : Hp) (h' : Hq) (H' : Hp) : Prop := ∀ a o, H a = some o → h a = none → H' a = some o ∧ h' a = none
theorem Stab.refl {h : Hq} {H : Hp} : Stab h H h H := fun _ _ e n => ⟨e, n⟩
theorem Stab.trans {h h1 h2 : Hq} {H H1 H2 : Hp} (a : Stab h H h1 H1) (b : Stab h1 H1 h2 H2) : Stab h H h2 H2 := fun c o e n => let ⟨e1, n1⟩ := a c o e n; b c o e1 n1

theorem CellsH.keep {h h' : Hq} {H H' : Hp} (k : Stab h H h' H') {cl : List (Str × Addr)} {fr : List Str} {us : List V} (c : CellsH h H cl fr us) : CellsH h' H' cl fr us :=
  ⟨c.len, fun i y v e1 e2 => by
    obtain ⟨a, b1, b2, b3⟩ := c.at_ i y v e1 e2
    rcases b3 with b3 | ⟨o, b3⟩
    · exact ⟨a, b1, (k a _ b3 b2).2, .inl (k a _ b3 b2).1⟩
    · exact ⟨a, b1, (k a _ b3 b2).2, .inr ⟨o, (k a _ b3 b2).1⟩⟩, c.all, c.inj⟩
section
variable {h h' : Hq} {H H' : Hp}
mutual
theorem RV.keep (k : Stab h H h' H') : ∀ {v : Val} {x : V}, RV h H v x → RV h' H' v x
  | .non, _, r => r
  | .bl _, _, r => r
  | .int _, _, r => r
  | .str _, _, r => r
  | .ref _, _, r => r
  | .exc c, _, r => by
    obtain ⟨a, e, n, ho⟩ := r
    obtain ⟨ho', n'⟩ := k a _ ho n
    exact ⟨a, e, n', ho'⟩
  | .clo g ws, _, r => by
    obtain ⟨f, c, q, fr, cl, us, o, e, n0, n, ho, m, hc, cs, rv⟩ := r
    obtain ⟨ho', n'⟩ := k f _ ho n
    obtain ⟨hc', m'⟩ := k c _ hc m
    exact ⟨f, c, q, fr, cl, us, o, e, n0, n', ho', m', hc', cs.keep k, RVs.keep k rv⟩
  | .fd ks ws, _, r => by
    obtain ⟨a, kvs, e, n, ho, q1, q2⟩ := r
    obtain ⟨ho', n'⟩ := k a _ ho n
    exact ⟨a, kvs, e, n', ho', q1, RVs.keep k q2⟩
  | .wd ks ws, _, r => by
    obtain ⟨a, kvs, e, n, ⟨o, ho⟩, q1, q2⟩ := r
    obtain ⟨ho', n'⟩ := k a _ ho n
    exact ⟨a, kvs, e, n', ⟨o, ho'⟩, q1, RVs.keep k q2⟩
  | .tup xs, _, r => by
    obtain ⟨a, vs, e, n, ho, q⟩ := r
    obtain ⟨ho', n'⟩ := k a _ ho n
    exact ⟨a, vs, e, n', ho', RVs.keep k q⟩
  | .fl xs, _, r => by
    obtain ⟨a, vs, e, n, ho, q⟩ := r
    obtain ⟨ho', n'⟩ := k a _ ho n
    exact ⟨a, vs, e, n', ho', RVs.keep k q⟩
  | .sc ns, _, r => by
    obtain ⟨a, e, q⟩ := r
    rcases q with ⟨n, ho | ⟨o, ho⟩⟩ | q
    · obtain ⟨ho', n'⟩ := k a _ ho n
      exact ⟨a, e, .inl ⟨n', .inl ho'⟩⟩
    · obtain ⟨ho', n'⟩ := k a _ ho n
      exact ⟨a, e, .inl ⟨n', .inr ⟨o, ho'⟩⟩⟩
    · exact ⟨a, e, .inr q⟩
theorem RVs.keep (k : Stab h H h' H') : ∀ {vs : List Val} {xs : List V}, RVs h H vs xs → RVs h' H' vs xs
  | [], _, r => r
  | v :: vs, _, r => by
    obtain ⟨y, t, e, r1, r2⟩ := r
    exact ⟨y, t, e, RV.keep k r1, RVs.keep k r2⟩
end
end

section
variable {h : Hq} {H : Hp}
theorem RVs.nil : RVs h H [] [] := rfl
theorem RVs.cons {v : Val} {x : V} {vs : List Val} {xs : List V} (r : RV h H v x) (t : RVs h H vs xs) : RVs h H (v :: vs) (x :: xs) := ⟨x, xs, rfl, r, t⟩
theorem RVs.length : ∀ {vs : List Val} {xs : List V}, RVs h H vs xs → vs.length = xs.length
  | [], _, r => by cases r; rfl
  | _ :: _, _, ⟨_, _, e, _, t⟩ => by subst e; rw [List.length_cons, List.length_cons, RVs.length t]
theorem RVs.app : ∀ {vs ws : List Val} {xs ys : List V}, RVs h H vs xs → RVs h H ws ys → RVs h H (vs ++ ws) (xs ++ ys)
  | [], _, _, _, r, s => by cases r; exact s
  | _ :: _, _, _, _, ⟨_, _, e, r, t⟩, s => by subst e; exact .cons r (RVs.app t s)
theorem RVs.get : ∀ {vs : List Val} {xs : List V} {i : Nat} {v : Val}, RVs h H vs xs → vs[i]? = some v → ∃ x, xs[i]? = some x ∧ RV h H v x
  | [], _, _, _, _, e => by simp at e
  | _ :: _, _, 0, _, ⟨_, _, q, r, t⟩, e => by subst q; simp at e; subst e; exact ⟨_, rfl, r⟩
  | _ :: _, _, i + 1, v, ⟨_, _, q, r, t⟩, e => by
    subst q
    obtain ⟨x, h1, h2⟩ := RVs.get (i := i) (v := v) t (by simpa using e)
    exact ⟨x, by simpa using h1, h2⟩
theorem RVs.get' : ∀ {vs : List Val} {xs : List V} {i : Nat} {x : V}, RVs h H vs xs → xs[i]? = some x → ∃ v, vs[i]? = some v ∧ RV h H v x
  | [], _, _, _, r, e => by cases r; simp at e
  | v :: _, _, 0, _, ⟨_, _, q, r, t⟩, e => by subst q; simp at e; subst e; exact ⟨_, rfl, r⟩
  | _ :: _, _, i + 1, x, ⟨_, _, q, r, t⟩, e => by
    subst q
    obtain ⟨v, h1, h2⟩ := RVs.get' (i := i) (x := x) t (by simpa using e)
    exact ⟨v, by simpa using h1, h2⟩
theorem RVs.set : ∀ {vs : List Val} {xs : List V} (i : Nat) {v : Val} {x : V}, RVs h H vs xs → RV h H v x → RVs h H (vs.set i v) (xs.set i x)
  | [], _, _, _, _, r, _ => by cases r; exact rfl
  | _ :: _, _, 0, _, _, ⟨_, _, q, r, t⟩, s => by subst q; exact .cons s t
  | _ :: _, _, i + 1, _, _, ⟨_, _, q, r, t⟩, s => by subst q; exact .cons r (RVs.set i t s)
theorem RVs.take : ∀ {vs : List Val} {xs : List V} (n : Nat), RVs h H vs xs → RVs h H (vs.take n) (xs.take n)
  | _, _, 0, _ => rfl
  | [], _, _ + 1, r => by cases r; exact rfl
  | _ :: _, _, n + 1, ⟨_, _, q, r, t⟩ => by subst q; exact .cons r (RVs.take n t)
theorem RVs.drop : ∀ {vs : List Val} {xs : List V} (n : Nat), RVs h H vs xs → RVs h H (vs.drop n) (xs.drop n)
  | _, _, 0, r => r
  | [], _, _ + 1, r => by cases r; exact rfl
  | _ :: _, _, n + 1, ⟨_, _, q, r, t⟩ => by subst q; exact RVs.drop n t
theorem RVs.dropLast : ∀ {vs : List Val} {xs : List V}, RVs h H vs xs → RVs h H vs.dropLast xs.dropLast := fun {vs xs} r => by
  rw [List.dropLast_eq_take, List.dropLast_eq_take, r.length]; exact r.take _
theorem RVs.eraseIdx : ∀ {vs : List Val} {xs : List V} (i : Nat), RVs h H vs xs → RVs h H (vs.eraseIdx i) (xs.eraseIdx i)
  | [], _, _, r => by cases r; exact rfl
  | _ :: _, _, 0, ⟨_, _, q, _, t⟩ => by subst q; exact t
  | _ :: _, _, i + 1, ⟨_, _, q, r, t⟩ => by subst q; exact .cons r (RVs.eraseIdx i t)
theorem RVs.reverse : ∀ {vs : List Val} {xs : List V}, RVs h H vs xs → RVs h H vs.reverse xs.reverse
  | [], _, r => by cases r; exact rfl
  | _ :: _, _, ⟨_, _, q, r, t⟩ => by
    subst q
    rw [List.reverse_cons, List.reverse_cons]
    exact RVs.app (RVs.reverse t) (.cons r .nil)
theorem RVs.ints : ∀ {ns : List Int} {xs : List V}, RVs h H (ns.map Val.int) xs → xs = ns.map V.int
  | [], _, r => r
  | _ :: _, _, ⟨_, _, q, r, t⟩ => by
    rw [q, show _ = V.int _ from r, RVs.ints t]; rfl
theorem RVs.bls : ∀ {ns : List Bool} {xs : List V}, RVs h H (ns.map Val.bl) xs → xs = ns.map V.bl
  | [], _, r => r
  | _ :: _, _, ⟨_, _, q, r, t⟩ => by
    rw [q, show _ = V.bl _ from r, RVs.bls t]; rfl
theorem RVs.strs : ∀ {ns : List Str} {xs : List V}, RVs h H (ns.map Val.str) xs → xs = ns.map V.str
  | [], _, r => r
  | _ :: _, _, ⟨_, _, q, r, t⟩ => by
    rw [q, show _ = V.str _ from r, RVs.strs t]; rfl
end

/-! ### cells -/
def RKV (h : Hq) (H : Hp) (ps : List (Key × Val)) (ys : List (Key × V)) : Prop := ys.map (·.1) = ps.map (·.1) ∧ RVs h H (ps.map (·.2)) (ys.map (·.2))
def RFs (h : Hq) (H : Hp) (ps : List (Str × Val)) (ys : List (Str × V)) : Prop := ys.map (·.1) = ps.map (·.1) ∧ RVs h H (ps.map (·.2)) (ys.map (·.2))
/-- what stands at a live cell's address -/
def RC (h : Hq) (H : Hp) (a : Addr) : Cell → Prop
  | .lst xs => ∃ vs, H a = some (.lst vs) ∧ RVs h H xs vs
  | .dic kvs => ∃ vs, H a = some (.dK vs) ∧ RKV h H kvs vs
  | .ins c fs => Mo.io = true ∧ ∃ dx ys, H a = some (.ins (Mo.cc c) dx ys) ∧ RFs h H fs ys
  | .tab q => a = Mo.ta q ∧ ∃ ps : Array Value, H a = some (.tbl ps) ∧ TriplesOk ps.toList ∧ ∀ (pos : Pos) (cv : Value), codeAmong pos ps.toList = some cv → ∃ c, cv = Value.ref c ∧ h c = none ∧ H c = some (LamX.CodeO c q)
/-- the live cells are held -/
def RH (h : Hq) (H : Hp) : Prop := ∀ a c, h a = some c → RC h H a c
/-- the names -/
abbrev Env3 := List (Option Val)
def RE (h : Hq) (H : Hp) (ρ : Env3) (σ : L2.St) : Prop := ρ.length = σ.length ∧ ∀ (i : Nat) (v : Val), ρ[i]? = some (some v) → ∃ x, σ[i]? = some (some x) ∧ RV h H v x

section
variable {h h' : Hq} {H H' : Hp} {a : Addr}
theorem RKV.keep (k : Stab h H h' H') {vs : List (Key × Val)} {xs : List (Key × V)} (r : RKV h H vs xs) : RKV h' H' vs xs := ⟨r.1, RVs.keep k r.2⟩
theorem RKV.nil : RKV h H [] [] := ⟨rfl, rfl⟩
theorem RKV.cons {k : Key} {v : Val} {y : V} {vs : List (Key × Val)} {xs : List (Key × V)} (r : RV h H v y) (t : RKV h H vs xs) : RKV h H ((k, v) :: vs) ((k, y) :: xs) := ⟨by rw [List.map_cons, List.map_cons, t.1], .cons r t.2⟩
theorem RKV.un {k : Key} {v : Val} {vs : List (Key × Val)} {xs : List (Key × V)} (r : RKV h H ((k, v) :: vs) xs) : ∃ y t, xs = (k, y) :: t ∧ RV h H v y ∧ RKV h H vs t := by
  obtain ⟨r1, y, t, e, q1, q2⟩ := r
  cases xs with
  | nil => cases r1
  | cons p xs =>
    obtain ⟨j, z⟩ := p
    rw [List.map_cons, List.map_cons, List.cons.injEq] at r1
    rw [List.map_cons, List.cons.injEq] at e
    obtain ⟨e1, e2⟩ := r1
    obtain ⟨e3, e4⟩ := e
    dsimp only at e1 e3
    subst e1 e3 e4
    exact ⟨_, _, rfl, q1, e2, q2⟩
theorem RKV.app {vs ws : List (Key × Val)} {xs ys : List (Key × V)} (r : RKV h H vs xs) (t : RKV h H ws ys) : RKV h H (vs ++ ws) (xs ++ ys) := ⟨by rw [List.map_append, List.map_append, r.1, t.1], by rw [List.map_append, List.map_append]; exact r.2.app t.2⟩
theorem RKV.length {vs : List (Key × Val)} {xs : List (Key × V)} (r : RKV h H vs xs) : vs.length = xs.length := by
  have := congrArg List.length r.1
  rw [List.length_map, List.length_map] at this
  exact this.symm
theorem RE.keep (k : Stab h H h' H') {ρ : Env3} {σ : L2.St} (r : RE h H ρ σ) : RE h' H' ρ σ := ⟨r.1, fun i v e => let ⟨x, e1, r1⟩ := r.2 i v e; ⟨x, e1, RV.keep k r1⟩⟩
theorem RC.some {c : Cell} (r : RC h H a c) : ∃ o, H a = some o := by
  cases c with
  | lst xs => obtain ⟨vs, e, _⟩ := r; exact ⟨_, e⟩
  | dic xs => obtain ⟨vs, e, _⟩ := r; exact ⟨_, e⟩
  | ins c xs => obtain ⟨_, dx, vs, e, _⟩ := r; exact ⟨_, e⟩
  | tab q => obtain ⟨_, ps, e, _⟩ := r; exact ⟨_, e⟩
theorem RH.free (r : RH h H) (n : H a = none) : h a = none := by
  cases e : h a with
  | none => rfl
  | some c => obtain ⟨o, q⟩ := (r a c e).some; rw [n] at q; cases q
theorem RC.keep (k : Stab h H h' H') {c : Cell} (e : H' a = H a) (r : RC h H a c) : RC h' H' a c := by
  cases c with
  | lst xs => obtain ⟨vs, q, t⟩ := r; exact ⟨vs, e.trans q, RVs.keep k t⟩
  | dic xs => obtain ⟨vs, q, t⟩ := r; exact ⟨vs, e.trans q, RKV.keep k t⟩
  | ins c xs => obtain ⟨io, dx, vs, q, t⟩ := r; exact ⟨io, dx, vs, e.trans q, t.1, RVs.keep k t.2⟩
  | tab q => obtain ⟨ea, ps, y, t, z⟩ := r; exact ⟨ea, ps, e.trans y, t, fun pos cv hc => let ⟨c, e1, n1, e2⟩ := z pos cv hc; ⟨c, e1, (k c _ e2 n1).2, (k c _ e2 n1).1⟩⟩
/-- a new object that is no cell (a tuple, a frozen list) -/
theorem Stab.alloc {o : HO} (n : H a = none) : Stab h H h (upd H a o) := fun b u e m => ⟨by rw [upd_ne (ne_of_none e n)]; exact e, m⟩
theorem RH.alloc {o : HO} (r : RH h H) (n : H a = none) : RH h (upd H a o) := fun b c e => by
  have k := Stab.alloc (h := h) (o := o) n
  obtain ⟨u, q⟩ := (r b c e).some
  exact (r b c e).keep k (upd_ne (ne_of_none q n))
/-- a new cell -/
theorem Stab.cell {o : HO} {c : Cell} (n : H a = none) : Stab h H (up h a c) (upd H a o) := fun b u e m => by
  have hb := ne_of_none e n
  exact ⟨by rw [upd_ne hb]; exact e, by rw [up_ne hb]; exact m⟩
/-- a cell's write -/
theorem Stab.write {o : HO} {c d : Cell} (l : h a = some c) : Stab h H (up h a d) (upd H a o) := fun b u e m => by
  have hb : b ≠ a := ne_of_live' l m
  exact ⟨by rw [upd_ne hb]; exact e, by rw [up_ne hb]; exact m⟩
theorem RH.put {o : HO} {d : Cell} (r : RH h H) (k : Stab h H (up h a d) (upd H a o)) (new : RC (up h a d) (upd H a o) a d) : RH (up h a d) (upd H a o) := fun b c e => by
  by_cases hb : b = a
  · subst hb; rw [up_same] at e; cases e; exact new
  · rw [up_ne hb] at e
    exact (r b c e).keep k (upd_ne hb)
/-- a cell is given up (frozen, or forgotten) -/
theorem Stab.er : Stab h H (er h a) H := fun b u e m => ⟨e, by
  by_cases hb : b = a
  · rw [hb]; exact er_same
  · rw [er_ne hb]; exact m⟩
theorem RH.er (r : RH h H) : RH (L3.er h a) H := fun b c e => by
  by_cases hb : b = a
  · subst hb; rw [er_same] at e; cases e
  · rw [er_ne hb] at e
    exact (r b c e).keep Stab.er rfl
end
end L3

set_option Elab.async false
set_option linter.all false
set_option maxRecDepth 100000
/-! L3, part 2: the small language, its weakest preconditions, their monotony. -/
namespace L3
open PySem PySem.Spec PyProof.Rows L2
open PySem.W (alike dataLt AllAlike Sortable dataLe)

inductive BOp where | add | sub | mul | fdiv | mod | pow | shl | shr | band deriving DecidableEq
inductive COp where | eqd | eq | ne | lt | le | gt | ge | is | isnot | isin | notin deriving DecidableEq
/-- the built-in kinds that isinstance is asked for -/
inductive Ty where | int | bool | str | list | tuple | dict deriving DecidableEq
inductive Bl where
  | len | abs | max | min | sum | any | all | sorted | list | tuple | int | str | isi (ts : List Ty)
  deriving DecidableEq
inductive Mt where
  | append | extend | pop | insert | reverse | clear | index | count
  | dget | dupd | sjoin | ssplit | sfind
  deriving DecidableEq
/-- more operations, of one value and of two -/
inductive O1 where | lrange | rev | dictP | maxV | itemsS | lenSet | sortSet deriving DecidableEq
inductive O2 where | dictZ | tmul deriving DecidableEq
/-- targets: a name; some names at once -/
inductive Tg where | name (i : Nat) | names (is : List Nat) deriving DecidableEq

mutual
inductive Ex where
  | var (i : Nat) | int (i : Int) | bl (b : Bool) | non | str (s : Str)
  | con (x : Str) (v : Val)
  | bin (o : BOp) (fz : Bool) (a b : Ex)
  | neg (a : Ex) | not (a : Ex)
  | cmp (o : COp) (a b : Ex) | chain (o p : COp) (a b c : Ex) | chain3 (o p q : COp) (a b c d : Ex)
  | bop (isAnd : Bool) (es : Exs)
  | ite (t a b : Ex)
  | tup (es : Exs) | lst (fz : Bool) (es : Exs)
  | idx (a i : Ex)
  | slc (fz : Bool) (a lo hi : Ex)
  | call (f : Nat) (es : Exs)
  | blt (b : Bl) (fz : Bool) (es : Exs)
  | mth (m : Mt) (o : Ex) (es : Exs)
  | comp (fz : Bool) (elt : Ex) (tg : Tg) (it : Itx) (cond : Ex) (own : List Nat)
  | dic0 (fz : Bool) | dic1 (fz : Bool) (k v : Ex) | dic2 (fz : Bool) (k v k2 v2 : Ex)
  | op1 (o : O1) (fz : Bool) (a : Ex) | op2 (o : O2) (fz : Bool) (a b : Ex)
  | frz (a : Ex) | frzD (a : Ex)
  | isx (a : Ex) (ks cs : List Nat) (tp : Bool)
  | kin (neg : Bool) (x : Str) (tb : List (Str × Int)) (a : Ex)
  | kix (x : Str) (tb : List (Str × Int)) (a : Ex)
  | lck (a : Ex)
  | fld (c : Nat) (a : Ex) (f : Str)
  | meth (f c : Nat) (m : Str) (o : Ex) (es : Exs)
  | make (f c : Nat) (es : Exs)
  | callC (i : Nat) (es : Exs)
  | callF (fs : List Nat) (i : Ex) (es : Exs)
  | mxd (mx : Bool) (a : Ex)
  | nop
inductive Exs where | nil | cons (e : Ex) (es : Exs)
/-- what is walked -/
inductive Itx where
  | seq (e : Ex) | keys (e : Ex) | chars (e : Ex) | range1 (a : Ex) | range2 (a b : Ex) | range3 (a b c : Ex) | enum (e : Ex) | zip (a b : Ex) | rev (e : Ex)
end
mutual
inductive Sm where
  | asg (tg : Tg) (e : Ex)
  | asgI (o i e : Ex)
  | ex (e : Ex)
  | ret (e : Ex) | retN
  | ite (t : Ex) (a b : Sms)
  | for (tg : Tg) (it : Itx) (b : Sms)
  | whl (t : Ex) (b : Sms)
  | pass
  | raise (c : Nat)
  | asgF (c : Nat) (o : Ex) (f : Str) (e : Ex)
  | tryAs (b : Sms) (ks : List Nat) (c : Nat) (n x : Nat)
  | tryEx (b : Sms) (ks : List Nat) (c : Nat) (x : Nat) (v : Val)
  | tryEs (b : Sms) (ks : List Nat) (hs : List (Nat × Nat × Val))
  | tryG (b : Sms) (ks : List Nat) (x : Nat)
  | asgX (i : Nat) (fz : Bool) (elt : Ex) (tg : Tg) (it : Itx) (own : List Nat)
  | retX (fz : Bool) (elt : Ex) (tg : Tg) (it : Itx) (own : List Nat)
  | retc (g : Nat) (q : Str) (js : List Nat)
  | asgL (x f g : Nat) (q : Str) (js : List Nat) (es : Exs)
  | never
  | kill (i : Nat)
  | fzv (i : Nat)
inductive Sms where | nil | cons (s : Sm) (r : Sms)
end

/-- the refusals' classes: 0 LeafError, over 1 to 7; 8 ValueError -/
def subX (c d : Nat) : Bool := decide (c = d) || decide (d = 0) || decide (d = 8)
abbrev QV := Val → Hq → Prop
abbrev QE := Nat → Hq → Prop
abbrev CT := Nat → List Val → Hq → QV → QE → Prop

/-! ### what the operations do -/
/-- a list, live or frozen -/
def lv (h : Hq) : Val → Option (List Val)
  | .fl xs => some xs
  | .ref a => (match h a with | some (.lst xs) => some xs | _ => none)
  | _ => none
/-- a list, the script's one too -/
def ls (h : Hq) : Val → Option (List Val)
  | .sc ns => some (ns.map .int)
  | v => lv h v
/-- .. or a tuple -/
def sq (h : Hq) : Val → Option (List Val)
  | .tup xs => some xs
  | v => ls h v
theorem lv_fl (h : Hq) (xs : List Val) : lv h (.fl xs) = some xs := rfl
theorem lv_ref {h : Hq} {a : Addr} {xs : List Val} (e : h a = some (.lst xs)) : lv h (.ref a) = some xs := by simp [lv, e]
theorem ls_fl (h : Hq) (xs : List Val) : ls h (.fl xs) = some xs := rfl
theorem ls_sc (h : Hq) (ns : List Int) : ls h (.sc ns) = some (ns.map .int) := rfl
theorem ls_ref {h : Hq} {a : Addr} {xs : List Val} (e : h a = some (.lst xs)) : ls h (.ref a) = some xs := lv_ref e
theorem sq_tup (h : Hq) (xs : List Val) : sq h (.tup xs) = some xs := rfl
theorem sq_fl (h : Hq) (xs : List Val) : sq h (.fl xs) = some xs := rfl
theorem sq_sc (h : Hq) (ns : List Int) : sq h (.sc ns) = some (ns.map .int) := rfl
theorem sq_ref {h : Hq} {a : Addr} {xs : List Val} (e : h a = some (.lst xs)) : sq h (.ref a) = some xs := lv_ref e

/-! ### dicts -/
def keyOf : Val → Option Key | .int i => some (.inl i) | .str s => some (.inr s) | _ => none
abbrev KVs := List (Key × Val)
def dg (kvs : KVs) (k : Key) : Option Val := (kvs.find? fun kv => decide (kv.1 = k)).map (·.2)
def dp (kvs : KVs) (k : Key) (v : Val) : KVs := if kvs.any (fun kv => decide (kv.1 = k)) then kvs.map (fun kv => if kv.1 = k then (kv.1, v) else kv) else kvs ++ [(k, v)]
def dmerge (kvs more : KVs) : KVs := more.foldl (fun acc kv => dp acc kv.1 kv.2) kvs
def fdOf (kvs : KVs) : Val := .fd (kvs.map (·.1)) (kvs.map (·.2))
def wdOf (kvs : KVs) : Val := .wd (kvs.map (·.1)) (kvs.map (·.2))
def keyV : Key → Val | .inl i => .int i | .inr s => .str s
/-- a dict, frozen or live -/
def dr (h : Hq) : Val → Option KVs
  | .fd ks vs => some (ks.zip vs)
  | .wd ks vs => some (ks.zip vs)
  | .ref a => (match h a with | some (.dic kvs) => some kvs | _ => none)
  | _ => none
theorem zip_map (kvs : KVs) : (kvs.map (·.1)).zip (kvs.map (·.2)) = kvs := by
  induction kvs with
  | nil => rfl
  | cons p r ih => simp only [List.map_cons, List.zip_cons_cons, ih]
theorem dr_wd (h : Hq) (kvs : KVs) : dr h (wdOf kvs) = some kvs := by simp only [wdOf, dr, zip_map]
theorem dr_fd (h : Hq) (kvs : KVs) : dr h (fdOf kvs) = some kvs := by simp only [fdOf, dr, zip_map]
theorem dr_ref {h : Hq} {a : Addr} {kvs : KVs} (e : h a = some (.dic kvs)) : dr h (.ref a) = some kvs := by simp [dr, e]
theorem dr_lst {h : Hq} {a : Addr} {xs : List Val} (e : h a = some (.lst xs)) : dr h (.ref a) = none := by simp [dr, e]
def dicAt (h : Hq) (v : Val) : Option (Addr × KVs) := match v with
  | .ref a => (match h a with | some (.dic kvs) => some (a, kvs) | _ => none)
  | _ => none

/-- with what is there -/
def optW {α : Type} (o : Option α) (Q : α → Prop) : Prop := match o with
  | some a => Q a
  | none => False
theorem optW_some {α : Type} (a : α) (Q : α → Prop) : optW (some a) Q = Q a := rfl
theorem optW_none {α : Type} (Q : α → Prop) : optW none Q = False := rfl
theorem optW_mono {α : Type} {o : Option α} {Q Q' : α → Prop} (k : ∀ a, Q a → Q' a) (w : optW o Q) : optW o Q' := by
  cases o with
  | none => exact w
  | some a => exact k a w
theorem optW_ex {α : Type} {o : Option α} {Q : α → Prop} (w : optW o Q) : ∃ a, o = some a ∧ Q a := by
  cases o with
  | none => exact w.elim
  | some a => exact ⟨a, rfl, w⟩
/-- a new dict -/
def alcD (fz : Bool) (kvs : KVs) (h : Hq) (Q : QV) : Prop := if fz = true then Q (fdOf kvs) h else ∀ p, h p = none → Q (.ref p) (up h p (.dic kvs))
/-- a new list: frozen at once, or live -/
def alc (fz : Bool) (xs : List Val) (h : Hq) (Q : QV) : Prop := if fz = true then Q (.fl xs) h else ∀ p, h p = none → Q (.ref p) (up h p (.lst xs))


/-- what an operation ends with: a value, or a new list -/
inductive Out where
  | v (x : Val) (h : Hq)
  | al (fz : Bool) (xs : List Val) (h : Hq)
  | ad (fz : Bool) (kvs : KVs) (h : Hq)
def Out.w (Q : QV) : Out → Prop
  | .v x h => Q x h
  | .al fz xs h => alc fz xs h Q
  | .ad fz xs h => alcD fz xs h Q
/-- .. what it asks, and its end -/
abbrev Pr := Option (Prop × Out)
def prW (p : Pr) (Q : QV) : Prop := optW p fun q => q.1 ∧ q.2.w Q
theorem prW_some (c : Prop) (o : Out) (Q : QV) : prW (some (c, o)) Q = (c ∧ o.w Q) := rfl
theorem prW_none (Q : QV) : prW none Q = False := rfl
/-- a text many times -/
def repS (s : Str) (n : Nat) : Str := ⟨(List.replicate n s.cps).foldl (· ++ ·) #[]⟩
def binR (o : BOp) (fz : Bool) (x y : Val) (h : Hq) : Pr :=
  match o with
  | .add => (match x, y with
    | .int i, .int j => some (True, .v (.int (i + j)) h)
    | .str a, .str b => some (a.length + b.length ≤ 1000000, .v (.str (a ++ b)) h)
    | .tup a, .tup b => some (a.length + b.length ≤ 1000000, .v (.tup (a ++ b)) h)
    | x, y => (match lv h x, lv h y with | some xs, some ys => some (xs.length + ys.length ≤ 1000000, .al fz (xs ++ ys) h) | _, _ => none))
  | .sub => (match x, y with | .int i, .int j => some (True, .v (.int (i - j)) h) | _, _ => none)
  | .mul => (match x, y with
    | .int i, .int j => some ((-18446744073709551616 < i ∧ i < 18446744073709551616) ∨ (-18446744073709551616 < j ∧ j < 18446744073709551616) ∨ CMulW i j, .v (.int (i * j)) h)
    | .str s, .int j => some ((2 ≤ j ∧ j ≤ 1000000) ∧ 0 < s.length ∧ s.length * j.toNat ≤ 1000000, .v (.str (repS s j.toNat)) h)
    | x, .int j => (lv h x).map fun xs => ((-4611686018427387904 ≤ j ∧ j < 4611686018427387904) ∧ xs.length * j.toNat ≤ 1000000, .al fz (List.replicate j.toNat xs).flatten h)
    | _, _ => none)
  | .fdiv => (match x, y with | .int i, .int j => some (0 < j ∧ j < 2 ^ 250, .v (.int (i / j)) h) | _, _ => none)
  | .mod => (match x, y with | .int i, .int j => some (0 < j, .v (.int (i % j)) h) | _, _ => none)
  | .pow => (match x, y with | .int i, .int j => some (0 ≤ j ∧ j ≤ 1000000 ∧ -18446744073709551616 < i ∧ i < 18446744073709551616, .v (.int (i ^ j.toNat)) h) | _, _ => none)
  | .shl => (match x, y with | .int i, .int j => some (0 ≤ j ∧ j ≤ 1000000 ∧ -18446744073709551616 < i ∧ i < 18446744073709551616, .v (.int (i * 2 ^ j.toNat)) h) | _, _ => none)
  | .shr => (match x, y with | .int i, .int j => some (0 ≤ j, .v (.int (i / 2 ^ j.toNat)) h) | _, _ => none)
  | .band => (match x, y with | .int i, .int j => some (True, .v (.int (Builtin.bitAnd i j)) h) | _, _ => none)

mutual
/-- data without live cells -/
def pd : Val → Option PyData
  | .non => some .none
  | .bl b => some (.bool b)
  | .int i => some (.int i)
  | .str s => some (.str s)
  | .tup xs => (pds xs).map PyData.tuple
  | .fl xs => (pds xs).map PyData.list
  | .sc ns => some (.list (ns.map PyData.int))
  | .ref _ => none
  | .fd _ _ => none
  | .wd _ _ => none
  | .exc _ => none
  | .clo _ _ => none
def pds : List Val → Option (List PyData)
  | [] => some []
  | v :: vs => (match pd v, pds vs with | some d, some ds => some (d :: ds) | _, _ => none)
end
def mapO {α β : Type} (f : α → Option β) : List α → Option (List β)
  | [] => some []
  | x :: xs => (match f x, mapO f xs with | some y, some ys => some (y :: ys) | _, _ => none)
/-- .. with live lists of data, two deep -/
def dt1 (h : Hq) : Val → Option PyData
  | .ref a => (match h a with | some (.lst xs) => (mapO pd xs).map PyData.list | _ => none)
  | v => pd v
def dt (h : Hq) : Val → Option PyData
  | .ref a => (match h a with | some (.lst xs) => (mapO (dt1 h) xs).map PyData.list | _ => none)
  | v => pd v
/-- .. deep -/
def dtN : Nat → Hq → Val → Option PyData
  | 0, _, v => pd v
  | n + 1, h, v => match pd v with
    | some d => some d
    | none => match v with
      | .tup xs => (mapO (dtN n h) xs).map PyData.tuple
      | .fl xs => (mapO (dtN n h) xs).map PyData.list
      | .ref a => (match h a with | some (.lst xs) => (mapO (dtN n h) xs).map PyData.list | _ => none)
      | _ => none
def eqR (neg : Bool) (x y : Val) (h : Hq) : Pr :=
  match dt h x, dt h y with
  | some d, some e => some (SeqAt.shaped d = true ∧ SeqAt.shaped e = true, .v (.bl (if neg then !PyData.eqv d e else PyData.eqv d e)) h)
  | _, _ => match dtN 6 h x, dtN 6 h y with
  | some d, some e => some (SeqAt.shaped d = true ∧ SeqAt.shaped e = true, .v (.bl (if neg then !PyData.eqv d e else PyData.eqv d e)) h)
  | _, _ => match ls h x, ls h y with
  | some xs, some ys => if (xs.isEmpty != ys.isEmpty) = true then some (True, .v (.bl neg) h) else none
  | _, _ => match dr h x, dr h y with
  | some ks, some js => if (ks.isEmpty || js.isEmpty) = true then some (True, .v (.bl (if neg then !(ks.isEmpty && js.isEmpty) else (ks.isEmpty && js.isEmpty))) h) else none
  | _, _ => none
def excOf : Val → Option Nat | .exc c => some c | _ => none
def isN : Val → Bool | .non => true | _ => false
/-- flat values -/
def flt : Val → Bool | .non => true | .bl _ => true | .int _ => true | .str _ => true | _ => false
def flV : Val → V | .non => .non | .bl b => .bl b | .int i => .int i | .str s => .str s | _ => .non
def signOf (s : Str) : Option Nat := match s.cps.toList with | [c] => some c | _ => none
/-- one sign in a text -/
def sinR (x y : Val) : Option (Nat × Str) := match y with
  | .str z => (match x with | .str s => (signOf s).map fun c => (c, z) | _ => none)
  | _ => none
def inR (neg : Bool) (x y : Val) (h : Hq) : Pr :=
  match dr h y with
  | some kvs => (keyOf x).map fun k => (True, .v (.bl (if neg then !(dg kvs k).isSome else (dg kvs k).isSome)) h)
  | none => match sinR x y with
  | some q => some (True, .v (.bl (if neg then !decide (q.1 ∈ q.2.cps.toList) else decide (q.1 ∈ q.2.cps.toList))) h)
  | none => match sq h y with
  | some ys => if (flt x && ys.all flt) = true then some (True, .v (.bl (if neg then !(ys.any fun z => eqV (flV z) (flV x)) else (ys.any fun z => eqV (flV z) (flV x)))) h) else
    (match dt h x, dt h y with
    | some d, some (.list ds) => some (SeqAt.shaped d = true ∧ SeqAt.shaped (.list ds) = true, .v (.bl (if neg then !(ds.any fun z => PyData.eqv z d) else (ds.any fun z => PyData.eqv z d))) h)
    | _, _ => none)
  | none => none
/-- the order of data: what is asked, and the two -/
def ordR (f : PyData → PyData → Bool) (x y : Val) (h : Hq) : Pr :=
  match dt h x, dt h y with
  | some d, some e => some (alike d e = true ∧ d ≠ .none ∧ SeqAt.shaped d = true ∧ SeqAt.shaped e = true, .v (.bl (f d e)) h)
  | _, _ => none
/-- x is the truth b -/
def isBV (x : Val) (b : Bool) : Bool := match x with
  | .bl a => decide (a = b)
  | _ => false
def cmpR (o : COp) (x y : Val) (h : Hq) : Pr :=
  match o with
  | .eqd => (match dt h x, dt h y with
    | some d, some e => some ((d.canLay0 = true ∧ e.canLay0 = true ∧ (d.depth ≤ 64 ∨ e.depth ≤ 64)), .v (.bl (PyData.eqv d e)) h)
    | _, _ => none)
  | .eq => (match x, y with
    | .int i, .int j => some (True, .v (.bl (decide (i = j))) h)
    | .str i, .str j => some (True, .v (.bl (decide (i = j))) h)
    | x, y => eqR false x y h)
  | .ne => (match x, y with
    | .int i, .int j => some (True, .v (.bl (!decide (i = j))) h)
    | .str i, .str j => some (True, .v (.bl (!decide (i = j))) h)
    | x, y => eqR true x y h)
  | .lt => (match x, y with | .int i, .int j => some (True, .v (.bl (decide (i < j))) h) | x, y => ordR (fun d e => dataLt d e) x y h)
  | .le => (match x, y with | .int i, .int j => some (True, .v (.bl (decide (i ≤ j))) h) | x, y => ordR (fun d e => !dataLt e d) x y h)
  | .gt => (match x, y with | .int i, .int j => some (True, .v (.bl (decide (j < i))) h) | x, y => ordR (fun d e => dataLt e d) x y h)
  | .ge => (match x, y with | .int i, .int j => some (True, .v (.bl (decide (j ≤ i))) h) | x, y => ordR (fun d e => !dataLt d e) x y h)
  | .is => (match y with | .non => some (True, .v (.bl (isN x)) h) | .bl b => some (True, .v (.bl (isBV x b)) h) | _ => none)
  | .isnot => (match y with | .non => some (True, .v (.bl (!isN x)) h) | .bl b => some (True, .v (.bl (!isBV x b)) h) | _ => none)
  | .isin => inR false x y h
  | .notin => inR true x y h
def truR (x : Val) (h : Hq) : Option Bool :=
  match x with
  | .non => some false
  | .bl b => some b
  | .int i => some (i != 0)
  | v => (sq h v).map fun xs => !xs.isEmpty
def truW (x : Val) (h : Hq) (Q : Bool → Prop) : Prop := optW (truR x h) Q
def idxR (x y : Val) (h : Hq) : Pr :=
  match dr h x with
  | some kvs => (keyOf y).bind fun k => (dg kvs k).map fun v => (True, .v v h)
  | none => match y with
  | .int i => (match x with
    | .str s => (atI s.cps.toList i).map fun c => (s.length ≤ 1000000, .v (.str ⟨#[c]⟩) h)
    | x => ((sq h x).bind fun xs => atI xs i).map fun v => (True, .v v h))
  | _ => none
/-- a bound of a slice: the second part says that none is written -/
def optI : Bool → Val → Option (Option Int) | true, _ => some none | false, .int i => some (some i) | _, _ => none
def isNop : Ex → Bool | .nop => true | _ => false
def cutL (xs : List Val) (lo hi : Option Int) : List Val := (xs.drop (HT.sIx xs.length 0 lo)).take (HT.sIx xs.length xs.length hi - HT.sIx xs.length 0 lo)
def slcR (fz : Bool) (x : Val) (lo hi : Option Int) (h : Hq) : Pr := match x with
  | .tup xs => some (True, .v (.tup (cutL xs lo hi)) h)
  | .str s => some (s.length ≤ 1000000, .v (.str (cutS s lo hi)) h)
  | x => (ls h x).map fun xs => (True, .al fz (cutL xs lo hi) h)
def maxL : List Int → Int
  | [] => 0
  | [x] => x
  | x :: y :: r => max x (maxL (y :: r))
def minL : List Int → Int
  | [] => 0
  | [x] => x
  | x :: y :: r => min x (minL (y :: r))
def intOf : Val → Option Int | .int i => some i | _ => none
def blOf : Val → Option Bool | .bl i => some i | _ => none
def sortI (ns : List Int) : List Int := ns.mergeSort (fun a b => decide (a ≤ b))
/-- a value's datum, live lists in it too -/
def dtD (h : Hq) (v : Val) : PyData := (dt1 h v).getD .none
def shp (ds : List PyData) : Prop := ∀ d, d ∈ ds → SeqAt.shaped d = true
def tupI : Val → Option (List Int) | .tup xs => mapO intOf xs | _ => none
/-- the greatest of some tuples of ints -/
def bestL (l : List Int) (ls : List (List Int)) : List Int := ls.foldl (fun a y => if a < y then y else a) l
def mxD (xs : List Val) (h : Hq) : Pr :=
  match mapO tupI xs with
  | some (l :: ls) => some (True, .v (.tup ((bestL l ls).map .int)) h)
  | _ => none
def ordL (fz : Bool) (xs : List Val) (h : Hq) : Pr :=
  (mapO (dt1 h) xs).map fun ds => (AllAlike ds ∧ Sortable ds ∧ shp ds, .al fz (xs.mergeSort (dataLe false (dtD h))) h)
def keyI : Key → Option Int | .inl i => some i | _ => none
def pairOf : Val → Option (Key × Val) | .tup [k, v] => (keyOf k).map fun j => (j, v) | _ => none
/-- how many unlike ones -/
def dlen (ns : List Int) : Nat := (PyProof.Rows.firstMet (fun i => ns.getD i 0) ns.length).length
def insI (x : Int) : List Int → List Int
  | [] => [x]
  | y :: r => if x < y then x :: y :: r else if x = y then y :: r else y :: insI x r
/-- the unlike ones, rising -/
def ssetI (ns : List Int) : List Int := ns.foldr insI []
def o1R (o : O1) (fz : Bool) (x : Val) (h : Hq) : Pr :=
  match o with
  | .lrange => (match x with | .int n => some (n ≤ 1000000 ∧ -1000000 ≤ n, .al fz ((List.range n.toNat).map fun i => Val.int ((i : Nat) : Int)) h) | _ => none)
  | .rev => (match x with | .tup xs => some (True, .v (.tup xs.reverse) h) | x => (ls h x).map fun xs => (True, .al fz xs.reverse h))
  | .dictP => (match ls h x with
    | some xs => (mapO pairOf xs).map fun kvs => (kvs.length ≤ 1000000, .ad fz (dmerge [] kvs) h)
    | none => (dr h x).map fun kvs => (True, .ad fz kvs h))
  | .maxV => ((dr h x).bind fun kvs => mapO intOf (kvs.map (·.2))).map fun ns => (ns ≠ [], .v (.int (maxL ns)) h)
  | .lenSet => ((ls h x).bind (mapO intOf)).map fun ns => (ns.length ≤ 1000, .v (.int (dlen ns : Nat)) h)
  | .sortSet => ((ls h x).bind (mapO intOf)).map fun ns => (ns.length < 64, .al fz ((ssetI ns).map .int) h)
  | .itemsS => (dr h x).bind fun kvs => ordL fz (kvs.map fun kv => .tup [keyV kv.1, kv.2]) h
def o2R (o : O2) (fz : Bool) (x y : Val) (h : Hq) : Pr :=
  match o with
  | .dictZ => (((ls h x).bind (mapO keyOf)).bind fun ks => (ls h y).map fun vs => (ks, vs)).map fun q => (True, .ad fz (dmerge [] (q.1.zip q.2)) h)
  | .tmul => (match x, y with
    | .tup xs, .int k => some (xs ≠ [] ∧ 1 ≤ k ∧ k ≤ 1000 ∧ xs.length ≤ 1000, .v (.tup (List.replicate k.toNat xs).flatten) h)
    | _, _ => none)
/-- its kind: None has none -/
def tyOf (h : Hq) : Val → Option (List Ty)
  | .non => some []
  | .bl _ => some [.bool, .int]
  | .int _ => some [.int]
  | .str _ => some [.str]
  | .tup _ => some [.tuple]
  | .fl _ => some [.list]
  | .fd _ _ => some [.dict]
  | .wd _ _ => none
  | .exc _ => none
  | .clo _ _ => none
  | .sc _ => some [.list]
  | .ref a => (match h a with | some (.lst _) => some [.list] | some (.dic _) => some [.dict] | _ => none)
def stO : Val → Option Str | .str s => some s | _ => none
def bltR (b : Bl) (fz : Bool) (vs : List Val) (h : Hq) : Pr :=
  match b with
  | .len => (match vs with | [v] => (match sq h v with | some xs => some (True, .v (.int xs.length) h) | none => (match dr h v with | some kvs => some (True, .v (.int kvs.length) h) | none => (stO v).map fun s => (s.length ≤ 1000000, .v (.int s.length) h))) | _ => none)
  | .abs => (match vs with | [.int i] => some (True, .v (.int (if i < 0 then -i else i)) h) | _ => none)
  | .max => (match vs with
    | [.int i, .int j] => some (True, .v (.int (if j > i then j else i)) h)
    | [v] => (match (ls h v).bind (mapO intOf) with | some ns => some (ns ≠ [], .v (.int (maxL ns)) h) | none => (lv h v).bind fun xs => mxD xs h)
    | _ => none)
  | .min => (match vs with
    | [.int i, .int j] => some (True, .v (.int (if j < i then j else i)) h)
    | [v] => ((ls h v).bind (mapO intOf)).map fun ns => (ns ≠ [], .v (.int (minL ns)) h)
    | _ => none)
  | .sum => (match vs with | [v] => ((ls h v).bind (mapO intOf)).map fun ns => (True, .v (.int ns.sum) h) | _ => none)
  | .any => (match vs with | [v] => ((ls h v).bind (mapO blOf)).map fun bs => (True, .v (.bl (bs.any id)) h) | _ => none)
  | .all => (match vs with | [v] => ((ls h v).bind (mapO blOf)).map fun bs => (True, .v (.bl (bs.all id)) h) | _ => none)
  | .sorted => (match vs with
    | [v] => (match (ls h v).bind (mapO intOf) with | some ns => some (True, .al fz ((sortI ns).map .int) h) | none => (match ls h v with
      | some xs => ordL fz xs h
      | none => ((dr h v).bind fun kvs => mapO keyI (kvs.map (·.1))).map fun ks => (ks.length < 64, .al fz ((sortI ks).map .int) h)))
    | _ => none)
  | .list => (match vs with
    | [v] => (match sq h v with
      | some xs => some (True, .al fz xs h)
      | none => (dr h v).map fun kvs => (True, .al fz (kvs.map fun kv => keyV kv.1) h))
    | _ => none)
  | .tuple => (match vs with | [v] => (ls h v).map fun xs => (True, .v (.tup xs) h) | _ => none)
  | .int => (match vs with | [.int i] => some (True, .v (.int i) h) | [.bl b] => some (True, .v (.int (if b then 1 else 0)) h) | [.str s] => (PySem.intText? s).map fun n => (s.length ≤ 640, .v (.int n) h) | _ => none)
  | .str => (match vs with | [.int i] => some (i.natAbs.log2 < 1920, .v (.str (toString i)) h) | [.str s] => some (True, .v (.str s) h) | _ => none)
  | .isi ts => (match vs with | [v] => (tyOf h v).map fun us => (True, .v (.bl (ts.any fun t => decide (t ∈ us))) h) | _ => none)
/-- the methods of a list at a that holds xs -/
def lmR (m : Mt) (a : Addr) (xs : List Val) (vs : List Val) (h : Hq) : Pr :=
  match m with
  | .append => (match vs with | [v] => some (xs.length < 1000000, .v .non (up h a (.lst (xs ++ [v])))) | _ => none)
  | .extend => (match vs with | [v] => (lv h v).map fun ys => (xs.length + ys.length ≤ 1000000, .v .non (up h a (.lst (xs ++ ys)))) | _ => none)
  | .pop => (match vs with
    | [] => (xs[xs.length - 1]?).map fun v => (True, .v v (up h a (.lst xs.dropLast)))
    | [.int i] => (ixN xs.length i).bind fun k => (xs[k]?).map fun v => (True, .v v (up h a (.lst (xs.eraseIdx k))))
    | _ => none)
  | .reverse => (match vs with | [] => some (True, .v .non (up h a (.lst xs.reverse))) | _ => none)
  | .clear => (match vs with | [] => some (True, .v .non (up h a (.lst []))) | _ => none)
  | .insert => (match vs with | [.int i, v] => some (0 ≤ i ∧ i ≤ 1000000 ∧ xs.length < 1000000, .v .non (up h a (.lst (xs.take i.toNat ++ [v] ++ xs.drop i.toNat)))) | _ => none)
  | .index => none
  | .count => none
  | .dget => none
  | .dupd => none
  | .sjoin => none
  | .ssplit => none
  | .sfind => none
def joR (o : Val) (vs : List Val) (h : Hq) : Pr := (stO o).bind fun a => match vs with
  | [v] => ((sq h v).bind (mapO stO)).map fun ys => ((ys.map (·.length)).sum + ys.length * a.length ≤ 1000000, .v (.str (Txt.join a ys)) h)
  | _ => none
def spR (o : Val) (vs : List Val) (h : Hq) : Pr := (stO o).bind fun a => match vs with
  | [.str b] => some ((b.length == 0) = false ∧ a.length ≤ 1000000, .al true ((Txt.split a b).map Val.str) h)
  | [.str b, .int k] => some (((b.length == 0) = false ∧ a.length ≤ 1000000) ∧ -(2 ^ 63) ≤ k ∧ k < 2 ^ 63, .al true ((Txt.splitMax a b k).map Val.str) h)
  | _ => none
def fiR (o : Val) (vs : List Val) (h : Hq) : Pr := (stO o).bind fun a => match vs with
  | [.str b] => some (True, .v (.int (Txt.find a b)) h)
  | [.str b, .int i] => some (True, .v (.int (Txt.find3 a b i)) h)
  | _ => none
def lstAt (h : Hq) (v : Val) : Option (Addr × List Val) := match v with
  | .ref a => (match h a with | some (.lst xs) => some (a, xs) | _ => none)
  | _ => none
/-- a list's index: the first place of an equal one -/
def ixR (o : Val) (vs : List Val) (h : Hq) : Pr := match vs with
  | [y] => (ls h o).bind fun xs => (xs.findIdx? fun z => eqV (flV z) (flV y)).map fun j => (flt y = true ∧ xs.all flt = true, .v (.int (j : Nat)) h)
  | _ => none
/-- how many equal ones -/
def cnR (o : Val) (vs : List Val) (h : Hq) : Pr := match vs with
  | [y] => (ls h o).map fun xs => (flt y = true ∧ xs.all flt = true, .v (.int ((xs.countP fun z => eqV (flV z) (flV y) : Nat) : Int)) h)
  | _ => none
def mOk (m : Mt) (o : Val) (h : Hq) : Option Unit := match m with
  | .index => (ls h o).map fun _ => ()
  | .count => (ls h o).map fun _ => ()
  | .dget => (match o with | .wd _ _ => none | o => (dr h o).map fun _ => ())
  | .dupd => (dicAt h o).map fun _ => ()
  | .sjoin => (stO o).map fun _ => ()
  | .ssplit => (stO o).map fun _ => ()
  | .sfind => (stO o).map fun _ => ()
  | _ => (lstAt h o).map fun _ => ()
/-- a dict's get -/
def dgR (o : Val) (vs : List Val) (h : Hq) : Pr := (dr h o).bind fun kvs => match vs with
  | [.non] => some (True, .v .non h)
  | [.non, d] => some (True, .v d h)
  | [y] => (keyOf y).map fun k => (True, .v ((dg kvs k).getD .non) h)
  | [y, d] => (keyOf y).map fun k => (True, .v ((dg kvs k).getD d) h)
  | _ => none
/-- a dict's update by another one -/
def duR (o : Val) (vs : List Val) (h : Hq) : Pr := (dicAt h o).bind fun q => match vs with
  | [y] => (dr h y).map fun kvs => (y ≠ .ref q.1 ∧ q.2.length + kvs.length ≤ 1000000, .v .non (up h q.1 (.dic (dmerge q.2 kvs))))
  | _ => none
def mthR (m : Mt) (o : Val) (vs : List Val) (h : Hq) : Pr := match m with
  | .dget => dgR o vs h
  | .dupd => duR o vs h
  | .sjoin => joR o vs h
  | .ssplit => spR o vs h
  | .sfind => fiR o vs h
  | .index => ixR o vs h
  | .count => cnR o vs h
  | m => (lstAt h o).bind fun q => lmR m q.1 q.2 vs h
/-- a list or a dict -/
def noIns : Cell → Option Cell | .ins _ _ => none | .tab _ => none | c => some c
theorem noIns_is {o : Option Cell} {c : Cell} (e : o.bind noIns = some c) : o = some c ∧ noIns c = some c := by
  obtain ⟨d, e1, e2⟩ := Option.bind_eq_some_iff.mp e
  cases d <;> first | (cases e2; done) | (cases e2; exact ⟨e1, rfl⟩)
def cellAt (h : Hq) (v : Val) : Option (Addr × Cell) := match v with
  | .ref a => ((h a).bind noIns).map fun c => (a, c)
  | _ => none
def frzC : Cell → Val | .lst xs => .fl xs | .dic kvs => fdOf kvs | .ins _ _ => .non | .tab _ => .non
def cellO (h : Hq) (a : Addr) : Option Cell := (h a).bind noIns
def isWd : Val → Bool | .wd _ _ => true | _ => false
def lockC : Cell → Val | .lst xs => .fl xs | .dic kvs => wdOf kvs | .ins _ _ => .non | .tab _ => .non
/-- an object of one of the classes -/
def insAt (h : Hq) : Val → Option (Addr × Nat × List (Str × Val))
  | .ref a => (match h a with | some (.ins c fs) => some (a, c, fs) | _ => none)
  | _ => none
def pf (f : Str) (v : Val) : List (Str × Val) → List (Str × Val)
  | [] => [(f, v)]
  | (g, x) :: r => if g = f then (g, v) :: r else (g, x) :: pf f v r
def frzW (v : Val) (h : Hq) (Q : QV) : Prop := optW (cellAt h v) fun q => Q (frzC q.2) (er h q.1)
/-- some live lists, each frozen -/
def frzAll : List Val → Hq → (List Val → Hq → Prop) → Prop
  | [], h, Q => Q [] h
  | v :: vs, h, Q => frzW v h fun x h1 => frzAll vs h1 fun xs h2 => Q (x :: xs) h2
/-- a live list of live lists, frozen altogether -/
def frzDW (v : Val) (h : Hq) (Q : QV) : Prop := optW (lstAt h v) fun q => frzAll q.2 (er h q.1) fun ys h1 => Q (.fl ys) h1

/-! ### targets, loops -/
def lk : Env3 → Nat → Option Val
  | [], _ => none
  | v :: _, 0 => v
  | _ :: r, n + 1 => lk r n
theorem lk_eq : ∀ (ρ : Env3) (i : Nat) (v : Val), lk ρ i = some v → ρ[i]? = some (some v)
  | [], _, _, h => by simp [lk] at h
  | x :: _, 0, v, h => by simp [lk] at h; simp [h]
  | _ :: r, n + 1, v, h => by simpa using lk_eq r n v (by simpa [lk] using h)
/-- some names take some values, from the left -/
def bindL3 : List Nat → List Val → Env3 → Option Env3
  | [], [], ρ => some ρ
  | i :: is, v :: vs, ρ => bindL3 is vs (ρ.set i (some v))
  | _, _, _ => none
def bindT (tg : Tg) (v : Val) (ρ : Env3) : Option Env3 :=
  match tg with
  | .name i => some (ρ.set i (some v))
  | .names is => (match v with | .tup xs => bindL3 is xs ρ | .fl xs => bindL3 is xs ρ | _ => none)
def wipe3 (ρ : Env3) : List Nat → Env3
  | [] => ρ
  | v :: vs => (wipe3 ρ vs).set v none
/-- what stands behind a statement -/
structure Dn where
  nx : Env3 → Hq → Prop
  rt : QV
  ex : Nat → Env3 → Hq → Prop
abbrev WS := Dn → Env3 → Hq → Prop
def lstO (h : Hq) (p : Addr) : Option (List Val) := match h p with | some (.lst xs) => some xs | _ => none
theorem lstO_some {h : Hq} {p : Addr} {xs : List Val} : lstO h p = some xs ↔ h p = some (.lst xs) := by
  unfold lstO
  split
  · rename_i ys e; rw [e]; constructor <;> (intro z; cases z; rfl)
  · rename_i e; constructor
    · intro z; cases z
    · intro z; exact absurd z (e xs)
def compW (tg : Tg) (tst : Env3 → Hq → (Bool → Hq → Prop) → Prop) (el : Env3 → Hq → QV → Prop) (keep : Hq → Prop) (p : Addr) (fin : Hq → Prop) (ρw : Env3) : List Val → Hq → Prop
  | [], h => keep h ∧ fin h
  | x :: xs, h => keep h ∧ optW (bindT tg x ρw) fun ρ1 => tst ρ1 h fun b h1 =>
      if b = true then el ρ1 h1 fun v h2 => optW (lstO h2 p) fun acc => acc.length < 1000000 ∧ compW tg tst el keep p fin ρw xs (up h2 p (.lst (acc ++ [v])))
      else compW tg tst el keep p fin ρw xs h1
def compFin (fz : Bool) (p : Addr) (Q : QV) (h : Hq) : Prop := if fz = true then optW (lstO h p) (fun acc => Q (.fl acc) (er h p)) else Q (.ref p) h
def forW (tg : Tg) (body : WS) (keep : Hq → Prop) (D : Dn) : List Val → Env3 → Hq → Prop
  | [], ρ, h => keep h ∧ D.nx ρ h
  | x :: xs, ρ, h => keep h ∧ optW (bindT tg x ρ) fun ρ1 => body { D with nx := fun ρ' h' => forW tg body keep D xs ρ' h' } ρ1 h
def whlW (tst : Env3 → Hq → (Bool → Hq → Prop) → Prop) (body : WS) (D : Dn) : Nat → Env3 → Hq → Prop
  | 0, _, _ => False
  | n + 1, ρ, h => tst ρ h fun b h1 => if b = true then body { D with nx := whlW tst body D n } ρ h1 else D.nx ρ h1

def intsFrom (lo : Int) (n : Nat) : List Val := (List.range n).map fun i => Val.int (lo + (i : Nat))
def intsStep (lo c : Int) (n : Nat) : List Val := (List.range n).map fun i => Val.int (lo + (i : Nat) * c)
def stepN (i j k : Int) : Nat := if i < j then ((j - i - 1) / k + 1).toNat else 0
def chsO : Val → Option (List Val) | .str s => some (s.cps.toList.map fun c => Val.str ⟨#[c]⟩) | _ => none
def wdK : Val → Option (List Key) | .wd ks _ => some ks | _ => none
def enumL (xs : List Val) : List Val := (List.range xs.length).zipWith (fun i v => Val.tup [.int (i : Nat), v]) xs
def zipL (xs ys : List Val) : List Val := xs.zipWith (fun x y => Val.tup [x, y]) ys

/-- a closure -/
def cloOf : Val → Option (Nat × List Val) | .clo g ws => some (g, ws) | _ => none
/-- data, or an address -/
def NC (v : Val) : Prop := (∃ d, pd v = some d) ∨ ∃ a, v = .ref a
/-- no cell holds a closure -/
def ncC : Cell → Prop
  | .lst xs => ∀ v ∈ xs, NC v
  | .dic kvs => ∀ p ∈ kvs, NC p.2
  | .ins _ _ => False
  | .tab _ => True
/-- h' is a part of h without closures -/
def NCP (h h' : Hq) : Prop := ∀ a c, h' a = some c → h a = some c ∧ ncC c
/-- what a closure's run is shown: some live lists, of plain things -/
def CloW (h0 h1 : Hq) (vs ws : List Val) : Prop := (∀ a c, h0 a = some c → h1 a = some c ∧ ∃ xs, c = .lst xs ∧ ∀ v ∈ xs, NC v) ∧ (∀ v ∈ vs, NC v) ∧ ∀ v ∈ ws, NC v
/-- .. put back: what it was not shown is as it was -/
def mrg (h0 h1 h2 : Hq) : Hq := fun a => if (h1 a).isSome && (h0 a).isNone then h1 a else h2 a
/-- max, min with None for an empty list -/
def mxdR (mx : Bool) (x : Val) (h : Hq) : Pr := match ls h x with
  | some [] => some (True, .v .non h)
  | some xs => (mapO intOf xs).map fun ns => (True, .v (.int (if mx then maxL ns else minL ns)) h)
  | none => none
/-- the names' values -/
def lks (ρ : Env3) : List Nat → Option (List Val)
  | [] => some []
  | j :: js => (match lk ρ j, lks ρ js with | some v, some vs => some (v :: vs) | _, _ => none)
section
variable (C : CT)
mutual
def wpE : Ex → Env3 → Hq → QV → QE → Prop
  | .var i => fun ρ h Q _ => optW (lk ρ i) fun v => Q v h
  | .int i => fun _ h Q _ => Q (.int i) h
  | .bl b => fun _ h Q _ => Q (.bl b) h
  | .non => fun _ h Q _ => Q .non h
  | .str s => fun _ h Q _ => Q (.str s) h
  | .con _ v => fun _ h Q _ => Q v h
  | .bin o fz a b => fun ρ h Q E => wpE a ρ h (fun x h1 => wpE b ρ h1 (fun y h2 => prW (binR o fz x y h2) Q) E) E
  | .neg a => fun ρ h Q E => wpE a ρ h (fun x h1 => optW (intOf x) fun i => Q (.int (-i)) h1) E
  | .not a => fun ρ h Q E => wpE a ρ h (fun x h1 => truW x h1 fun k => Q (.bl (!k)) h1) E
  | .cmp o a b => fun ρ h Q E => wpE a ρ h (fun x h1 => wpE b ρ h1 (fun y h2 => prW (cmpR o x y h2) Q) E) E
  | .chain o p a b c => fun ρ h Q E => wpE a ρ h (fun x h1 => wpE b ρ h1 (fun y h2 => prW (cmpR o x y h2) fun z h3 => optW (blOf z) fun k =>
      if k = true then wpE c ρ h3 (fun z h4 => prW (cmpR p y z h4) Q) E else Q (.bl false) h3) E) E
  | .chain3 o p q a b c d => fun ρ h Q E => wpE a ρ h (fun x h1 => wpE b ρ h1 (fun y h2 => prW (cmpR o x y h2) fun z h3 => optW (blOf z) fun k =>
      if k = true then wpE c ρ h3 (fun z h4 => prW (cmpR p y z h4) fun u h5 => optW (blOf u) fun k =>
        if k = true then wpE d ρ h5 (fun w h6 => prW (cmpR q z w h6) Q) E else Q (.bl false) h5) E else Q (.bl false) h3) E) E
  | .bop isAnd es => fun ρ h Q E => wpB isAnd es ρ h Q E
  | .ite t a b => fun ρ h Q E => wpT t ρ h (fun k h1 => if k = true then wpE a ρ h1 Q E else wpE b ρ h1 Q E) E
  | .tup es => fun ρ h Q E => wpA es ρ h (fun vs h1 => vs.length ≤ 1000000 ∧ Q (.tup vs) h1) E
  | .lst fz es => fun ρ h Q E => wpA es ρ h (fun vs h1 => vs.length ≤ 1000000 ∧ alc fz vs h1 Q) E
  | .idx a i => fun ρ h Q E => wpE a ρ h (fun x h1 => wpE i ρ h1 (fun y h2 => prW (idxR x y h2) Q) E) E
  | .slc fz a lo hi => fun ρ h Q E => wpE a ρ h (fun x h1 => wpE lo ρ h1 (fun l h2 => optW (optI (isNop lo) l) fun l1 => wpE hi ρ h2 (fun u h3 => optW (optI (isNop hi) u) fun u1 => prW (slcR fz x l1 u1 h3) Q) E) E) E
  | .call f es => fun ρ h Q E => wpA es ρ h (fun vs h1 => C f vs h1 Q E) E
  | .blt b fz es => fun ρ h Q E => wpA es ρ h (fun vs h1 => prW (bltR b fz vs h1) Q) E
  | .mth m o es => fun ρ h Q E => wpE o ρ h (fun x h1 => optW (mOk m x h1) fun _ => wpA es ρ h1 (fun vs h2 => prW (mthR m x vs h2) Q) E) E
  | .comp fz elt tg it cond own => fun ρ h Q E => wpI it ρ h (fun items keep h1 => ∀ p, h1 p = none →
      compW tg (fun ρ1 h2 K => wpT cond ρ1 h2 K fun _ _ => False) (fun ρ1 h2 K => wpE elt ρ1 h2 K fun _ _ => False) keep p (compFin fz p Q) (wipe3 ρ own) items (up h1 p (.lst []))) E
  | .dic0 fz => fun _ h Q _ => alcD fz [] h Q
  | .op1 o fz a => fun ρ h Q E => wpE a ρ h (fun x h1 => prW (o1R o fz x h1) Q) E
  | .op2 o fz a b => fun ρ h Q E => wpE a ρ h (fun x h1 => wpE b ρ h1 (fun y h2 => prW (o2R o fz x y h2) Q) E) E
  | .dic1 fz k v => fun ρ h Q E => ∀ p, h p = none → wpE k ρ (up h p (.dic [])) (fun x h1 => wpE v ρ h1 (fun y h2 => optW (keyOf x) fun j => h2 p = some (.dic []) ∧
      if fz = true then Q (fdOf [(j, y)]) (er h2 p) else Q (.ref p) (up h2 p (.dic [(j, y)]))) E) E
  | .dic2 fz k v k2 v2 => fun ρ h Q E => ∀ p, h p = none → wpE k ρ (up h p (.dic [])) (fun x h1 => wpE v ρ h1 (fun y h2 => wpE k2 ρ h2 (fun x2 h3 => wpE v2 ρ h3 (fun y2 h4 => optW (keyOf x) fun j => optW (keyOf x2) fun j2 => h4 p = some (.dic []) ∧
      if fz = true then Q (fdOf (dmerge [] [(j, y), (j2, y2)])) (er h4 p) else Q (.ref p) (up h4 p (.dic (dmerge [] [(j, y), (j2, y2)])))) E) E) E) E
  | .frz a => fun ρ h Q E => wpE a ρ h (fun x h1 => frzW x h1 Q) E
  | .frzD a => fun ρ h Q E => wpE a ρ h (fun x h1 => frzDW x h1 Q) E
  | .isx a ks cs _ => fun ρ h Q E => wpE a ρ h (fun x h1 => optW (excOf x) fun c => c ∈ ks ∧ Q (.bl (cs.any fun d => subX c d)) h1) E
  | .kin neg _ tb a => fun ρ h Q E => wpE a ρ h (fun x h1 => optW (stO x) fun z => Q (.bl (if neg then !(tb.lookup z).isSome else (tb.lookup z).isSome)) h1) E
  | .kix _ tb a => fun ρ h Q E => wpE a ρ h (fun x h1 => optW (stO x) fun z => optW (tb.lookup z) fun i => Q (.int i) h1) E
  | .lck a => fun ρ h Q E => wpE a ρ h (fun x h1 => optW (cellAt h1 x) fun q => Q (lockC q.2) (er h1 q.1)) E
  | .fld c a f => fun ρ h Q E => wpE a ρ h (fun x h1 => optW (insAt h1 x) fun q => q.2.1 = c ∧ optW (q.2.2.lookup f) fun v => Q v h1) E
  | .meth f c m o es => fun ρ h Q E => wpE o ρ h (fun x h1 => optW (insAt h1 x) fun q => (q.2.1 = c ∧ q.2.2.lookup m = none) ∧ wpA es ρ h1 (fun vs h2 => C f (x :: vs) h2 Q E) E) E
  | .make f c es => fun ρ h Q E => wpA es ρ h (fun vs h1 => ∀ p, h1 p = none → C f (.ref p :: vs) (up h1 p (.ins c [])) (fun v h2 => v = .non ∧ Q (.ref p) h2) E) E
  | .callC i es => fun ρ h Q E => optW (lk ρ i) fun x => optW (cloOf x) fun q => wpA es ρ h (fun vs h1 => ∃ h0, CloW h0 h1 vs q.2 ∧ C q.1 (vs ++ q.2) h0 (fun v h2 => Q v (mrg h0 h1 h2)) fun _ _ => False) E
  | .callF fs i es => fun ρ h Q E => wpE i ρ h (fun x h1 => optW (intOf x) fun k => optW ((ixN fs.length k).bind fun j => fs[j]?) fun f => wpA es ρ h1 (fun vs h2 => C f vs h2 Q E) E) E
  | .mxd mx a => fun ρ h Q E => wpE a ρ h (fun x h1 => prW (mxdR mx x h1) Q) E
  | .nop => fun _ h Q _ => Q .non h
def wpA : Exs → Env3 → Hq → (List Val → Hq → Prop) → QE → Prop
  | .nil => fun _ h Q _ => Q [] h
  | .cons e es => fun ρ h Q E => wpE e ρ h (fun x h1 => wpA es ρ h1 (fun vs h2 => Q (x :: vs) h2) E) E
/-- a and b, a or b as a value: all but the last are truths -/
def wpB : Bool → Exs → Env3 → Hq → QV → QE → Prop
  | _, .nil => fun _ _ _ _ => False
  | _, .cons e .nil => fun ρ h Q E => wpE e ρ h Q E
  | isAnd, .cons e (.cons e2 es2) => fun ρ h Q E => wpE e ρ h (fun x h1 => optW (blOf x) fun k =>
      if k = isAnd then wpB isAnd (.cons e2 es2) ρ h1 Q E else Q (.bl k) h1) E
/-- an expression as a test -/
def wpT : Ex → Env3 → Hq → (Bool → Hq → Prop) → QE → Prop
  | .not a => fun ρ h Q E => wpT a ρ h (fun b h1 => Q (!b) h1) E
  | .bop isAnd es => fun ρ h Q E => wpTs isAnd es ρ h Q E
  | .nop => fun _ h Q _ => Q true h
  | .bl b => fun _ h Q _ => Q b h
  | .var i => fun ρ h Q _ => optW (lk ρ i) fun v => truW v h fun k => Q k h
  | .cmp o a b => fun ρ h Q E => wpE a ρ h (fun x h1 => wpE b ρ h1 (fun y h2 => prW (cmpR o x y h2) fun v h3 => optW (blOf v) fun k => Q k h3) E) E
  | .chain o p a b c => fun ρ h Q E => wpE a ρ h (fun x h1 => wpE b ρ h1 (fun y h2 => prW (cmpR o x y h2) fun z h3 => optW (blOf z) fun k =>
      if k = true then wpE c ρ h3 (fun z h4 => prW (cmpR p y z h4) fun v h5 => optW (blOf v) fun k => Q k h5) E else Q false h3) E) E
  | .call f es => fun ρ h Q E => wpA es ρ h (fun vs h1 => C f vs h1 (fun x h2 => truW x h2 fun k => Q k h2) E) E
  | .isx a ks cs _ => fun ρ h Q E => wpE a ρ h (fun x h1 => optW (excOf x) fun c => c ∈ ks ∧ Q (cs.any fun d => subX c d) h1) E
  | .kin neg _ tb a => fun ρ h Q E => wpE a ρ h (fun x h1 => optW (stO x) fun z => Q (if neg then !(tb.lookup z).isSome else (tb.lookup z).isSome) h1) E
  | .meth f c m o es => fun ρ h Q E => wpE o ρ h (fun x h1 => optW (insAt h1 x) fun q => (q.2.1 = c ∧ q.2.2.lookup m = none) ∧ wpA es ρ h1 (fun vs h2 => C f (x :: vs) h2 (fun x h2 => truW x h2 fun k => Q k h2) E) E) E
  | .blt b fz es => fun ρ h Q E => wpA es ρ h (fun vs h1 => prW (bltR b fz vs h1) fun x h2 => truW x h2 fun k => Q k h2) E
  | _ => fun _ _ _ _ => False
def wpTs : Bool → Exs → Env3 → Hq → (Bool → Hq → Prop) → QE → Prop
  | _, .nil => fun _ _ _ _ => False
  | _, .cons e .nil => fun ρ h Q E => wpT e ρ h Q E
  | isAnd, .cons e (.cons e2 es2) => fun ρ h Q E => wpT e ρ h (fun k h1 => if k = isAnd then wpTs isAnd (.cons e2 es2) ρ h1 Q E else Q k h1) E
/-- the items, and what must stay as it is while they are walked -/
def wpI : Itx → Env3 → Hq → (List Val → (Hq → Prop) → Hq → Prop) → QE → Prop
  | .seq e => fun ρ h Q E => wpE e ρ h (fun x h1 => optW (sq h1 x) fun xs => Q xs (fun h' => sq h' x = some xs) h1) E
  | .chars e => fun ρ h Q E => wpE e ρ h (fun x h1 => optW (chsO x) fun xs => Q xs (fun _ => True) h1) E
  | .keys e => fun ρ h Q E => wpE e ρ h (fun x h1 => optW (wdK x) fun ks => Q (ks.map keyV) (fun _ => True) h1) E
  | .range1 a => fun ρ h Q E => wpE a ρ h (fun x h1 => optW (intOf x) fun j => (-4611686018427387904 ≤ j ∧ j < 4611686018427387904) ∧ Q (intsFrom 0 j.toNat) (fun _ => True) h1) E
  | .range2 a b => fun ρ h Q E => wpE a ρ h (fun x h1 => wpE b ρ h1 (fun y h2 => optW (intOf x) fun i => optW (intOf y) fun j =>
      (-4611686018427387904 ≤ i ∧ i < 4611686018427387904 ∧ -4611686018427387904 ≤ j ∧ j < 4611686018427387904) ∧ Q (intsFrom i (j - i).toNat) (fun _ => True) h2) E) E
  | .range3 a b c => fun ρ h Q E => wpE a ρ h (fun x h1 => wpE b ρ h1 (fun y h2 => wpE c ρ h2 (fun z h3 => optW (intOf x) fun i => optW (intOf y) fun j => optW (intOf z) fun k =>
      (0 ≤ i ∧ i ≤ 1000000 ∧ 0 ≤ j ∧ j ≤ 1000000 ∧ 0 < k ∧ k ≤ 1000000) ∧ Q (intsStep i k (stepN i j k)) (fun _ => True) h3) E) E) E
  | .enum e => fun ρ h Q E => wpE e ρ h (fun x h1 => optW (lv h1 x) fun xs => Q (enumL xs) (fun h' => lv h' x = some xs) h1) E
  | .zip a b => fun ρ h Q E => wpE a ρ h (fun x h1 => wpE b ρ h1 (fun y h2 => optW (lv h2 x) fun xs => optW (lv h2 y) fun ys =>
      Q (zipL xs ys) (fun h' => lv h' x = some xs ∧ lv h' y = some ys) h2) E) E
  | .rev e => fun ρ h Q E => wpE e ρ h (fun x h1 => optW (lv h1 x) fun xs => Q xs.reverse (fun h' => lv h' x = some xs) h1) E
end
def setW (o i v : Val) (h : Hq) (Q : Hq → Prop) : Prop := match dicAt h o with
  | some q => optW (keyOf i) fun k => q.2.length < 1000000 ∧ Q (up h q.1 (.dic (dp q.2 k v)))
  | none => optW (lstAt h o) fun q => optW (intOf i) fun k => optW (ixN q.2.length k) fun j => Q (up h q.1 (.lst (q.2.set j v)))
def refOf : Val → Option Addr | .ref a => some a | _ => none
/-- k02: a refusal's kind -/
def kindT : Nat → Option Str
  | 1 => some "no tree" | 2 => some "there" | 4 => some "full" | 3 => some "odd" | 5 => some "odd" | 6 => some "odd" | 7 => some "odd" | _ => none
def hsW (D : Dn) : List (Nat × Nat × Val) → Nat → Env3 → Hq → Prop
  | [], k, ρ, h => D.ex k ρ h
  | (c, x, v) :: r, k, ρ, h => if subX k c = true then D.nx (ρ.set x (some v)) h else hsW D r k ρ h
mutual
def wpS : Sm → WS
  | .asg tg e => fun D ρ h => wpE C e ρ h (fun x h1 => optW (bindT tg x ρ) fun ρ1 => D.nx ρ1 h1) fun x h' => D.ex x ρ h'
  | .asgI o i e => fun D ρ h => wpE C e ρ h (fun v h1 => wpE C o ρ h1 (fun x h2 => wpE C i ρ h2 (fun y h3 => setW x y v h3 (D.nx ρ)) fun x h' => D.ex x ρ h') fun x h' => D.ex x ρ h') fun x h' => D.ex x ρ h'
  | .ex e => fun D ρ h => wpE C e ρ h (fun _ h1 => D.nx ρ h1) fun x h' => D.ex x ρ h'
  | .ret e => fun D ρ h => wpE C e ρ h D.rt fun x h' => D.ex x ρ h'
  | .retN => fun D _ h => D.rt .non h
  | .ite t a b => fun D ρ h => wpT C t ρ h (fun k h1 => if k = true then wpSs a D ρ h1 else wpSs b D ρ h1) fun x h' => D.ex x ρ h'
  | .for tg it b => fun D ρ h => wpI C it ρ h (fun items keep h1 => forW tg (wpSs b) keep D items ρ h1) fun x h' => D.ex x ρ h'
  | .whl t b => fun D ρ h => ∃ n, whlW (fun ρ h K => wpT C t ρ h K fun x h' => D.ex x ρ h') (wpSs b) D n ρ h
  | .pass => fun D ρ h => D.nx ρ h
  | .raise c => fun D ρ h => D.ex c ρ h
  | .asgF c o f e => fun D ρ h => wpE C e ρ h (fun y h1 => wpE C o ρ h1 (fun x h2 => optW (insAt h2 x) fun q => (q.2.1 = c ∧ q.2.2.length < 1000) ∧ D.nx ρ (up h2 q.1 (.ins c (pf f y q.2.2)))) fun x h' => D.ex x ρ h') fun x h' => D.ex x ρ h'
  | .tryAs b ks c n x => fun D ρ h => wpSs b { D with ex := fun k ρ' h' => if subX k c = true then (k ∈ ks ∧ n < ρ'.length) ∧ D.nx ((ρ'.set x (some (.exc k))).set n none) h' else k ∈ ks ∧ D.ex k ρ' h' } ρ h
  | .tryEx b ks c x v => fun D ρ h => wpSs b { D with ex := fun k ρ' h' => if subX k c = true then k ∈ ks ∧ D.nx (ρ'.set x (some v)) h' else k ∈ ks ∧ D.ex k ρ' h' } ρ h
  | .tryEs b ks hs => fun D ρ h => wpSs b { D with ex := fun k ρ' h' => k ∈ ks ∧ hsW D hs k ρ' h' } ρ h
  | .tryG b ks x => fun D ρ h => wpSs b { D with ex := fun k ρ' h' => (k ∈ ks ∧ x < ρ'.length) ∧ optW (kindT k) fun t => D.rt (.str t) h' } ρ h
  | .asgL x f g q js es => fun D ρ h => (∃ P, h P = some (.tab q)) ∧ optW (lks ρ js) fun ws => wpA C es ρ h (fun vs h1 => C f (.clo g ws :: vs) h1 (fun v h2 => NC v ∧ ∃ h3, NCP h2 h3 ∧ D.nx (ρ.set x (some v)) h3) fun _ _ => False) fun _ _ => False
  | .asgX i fz elt tg it own => fun D ρ h => wpI C it ρ h (fun items keep h1 => ∀ p, h1 p = none → compW tg (fun ρ1 h2 K => K true h2) (fun ρ1 h2 K => wpE C elt ρ1 h2 K fun x h' => D.ex x ρ h') keep p (compFin fz p fun x h1 => D.nx (ρ.set i (some x)) h1) (wipe3 ρ own) items (up h1 p (.lst []))) fun x h' => D.ex x ρ h'
  | .retX fz elt tg it own => fun D ρ h => wpI C it ρ h (fun items keep h1 => ∀ p, h1 p = none → compW tg (fun ρ1 h2 K => K true h2) (fun ρ1 h2 K => wpE C elt ρ1 h2 K fun x h' => D.ex x ρ h') keep p (compFin fz p D.rt) (wipe3 ρ own) items (up h1 p (.lst []))) fun x h' => D.ex x ρ h'
  | .retc g q js => fun D ρ h => (∃ P, h P = some (.tab q)) ∧ optW (lks ρ js) fun ws => D.rt (.clo g ws) h
  | .never => fun _ _ _ => False
  | .kill i => fun D ρ h => optW ((lk ρ i).bind refOf) fun a => D.nx ρ (er h a)
  | .fzv i => fun D ρ h => optW ((lk ρ i).bind refOf) fun a => optW (cellO h a) fun c => D.nx (ρ.set i (some (lockC c))) (er h a)
def wpSs : Sms → WS
  | .nil => fun D ρ h => D.nx ρ h
  | .cons s r => fun D ρ h => wpS s { D with nx := fun ρ' h' => wpSs r D ρ' h' } ρ h
end
end

/-- a def: how many parameters, how many names, its body -/
structure Df where
  ps : Nat
  ns : Nat
  body : Sms
abbrev Fs := Nat → Option Df
/-- a call, n deep -/
def CN (F : Fs) : Nat → CT
  | 0 => fun _ _ _ _ _ => False
  | n + 1 => fun f vs h Q E => optW (F f) fun d =>
    vs.length = d.ps ∧ wpSs (CN F n) d.body { nx := fun _ h' => Q .non h', rt := Q, ex := fun x _ h' => E x h' } (vs.map some ++ List.replicate (d.ns - d.ps) none) h
end L3

set_option Elab.async false
set_option linter.all false
set_option maxRecDepth 100000
/-! L3, part 3: monotony. -/
namespace L3
open PySem PySem.Spec PyProof.Rows L2

theorem alcD_mono {fz : Bool} {xs : KVs} {h : Hq} {Q Q' : QV} (k : ∀ v h, Q v h → Q' v h) (x : alcD fz xs h Q) : alcD fz xs h Q' := by
  unfold alcD at *
  split
  · rename_i e; rw [if_pos e] at x; exact k _ _ x
  · rename_i e; rw [if_neg e] at x; exact fun p n => k _ _ (x p n)
theorem alc_mono {fz : Bool} {xs : List Val} {h : Hq} {Q Q' : QV} (k : ∀ v h, Q v h → Q' v h) (x : alc fz xs h Q) : alc fz xs h Q' := by
  unfold alc at *
  split
  · rename_i e; rw [if_pos e] at x; exact k _ _ x
  · rename_i e; rw [if_neg e] at x; exact fun p n => k _ _ (x p n)
theorem prW_mono {p : Pr} {Q Q' : QV} (k : ∀ v h, Q v h → Q' v h) (w : prW p Q) : prW p Q' :=
  optW_mono (fun ⟨c, o⟩ q => ⟨q.1, by
    cases o with
    | v x h => exact k _ _ q.2
    | al fz xs h => exact alc_mono k q.2
    | ad fz xs h => exact alcD_mono k q.2⟩) w
theorem truW_mono {x : Val} {h : Hq} {Q Q' : Bool → Prop} (k : ∀ b, Q b → Q' b) (w : truW x h Q) : truW x h Q' := optW_mono k w
theorem frzW_mono {x : Val} {h : Hq} {Q Q' : QV} (k : ∀ v h, Q v h → Q' v h) (w : frzW x h Q) : frzW x h Q' := optW_mono (fun _ q => k _ _ q) w
theorem frzAll_mono : ∀ {vs : List Val} {h : Hq} {Q Q' : List Val → Hq → Prop}, (∀ v h, Q v h → Q' v h) → frzAll vs h Q → frzAll vs h Q'
  | [], _, _, _, k, w => k _ _ w
  | v :: vs, _, _, _, k, w => frzW_mono (fun _ _ w => frzAll_mono (fun _ _ w => k _ _ w) w) w
theorem frzDW_mono {x : Val} {h : Hq} {Q Q' : QV} (k : ∀ v h, Q v h → Q' v h) (w : frzDW x h Q) : frzDW x h Q' := optW_mono (fun _ q => frzAll_mono (fun _ _ w => k _ _ w) q) w
theorem setW_mono {o i v : Val} {h : Hq} {Q Q' : Hq → Prop} (k : ∀ h, Q h → Q' h) (w : setW o i v h Q) : setW o i v h Q' := by
  unfold setW at *
  split
  · rename_i q e
    rw [e] at w
    exact optW_mono (fun _ q => ⟨q.1, k _ q.2⟩) w
  · rename_i e
    rw [e] at w
    exact optW_mono (fun _ q => optW_mono (fun _ q => optW_mono (fun _ q => k _ q) q) q) w

/-- wider wishes for tests, elements, bodies -/
theorem compW_mono {tg : Tg} {tst tst' : Env3 → Hq → (Bool → Hq → Prop) → Prop} {el el' : Env3 → Hq → QV → Prop} {keep : Hq → Prop} {p : Addr} {fin fin' : Hq → Prop} {ρw : Env3}
    (kt : ∀ ρ h Q Q', (∀ b h, Q b h → Q' b h) → tst ρ h Q → tst' ρ h Q') (ke : ∀ ρ h Q Q', (∀ b h, Q b h → Q' b h) → el ρ h Q → el' ρ h Q') (kf : ∀ h, fin h → fin' h) :
    ∀ (xs : List Val) (h : Hq), compW tg tst el keep p fin ρw xs h → compW tg tst' el' keep p fin' ρw xs h
  | [], h, w => ⟨w.1, kf _ w.2⟩
  | x :: xs, h, w => ⟨w.1, optW_mono (fun ρ1 q => kt _ _ _ _ (fun b h1 q => by
      cases b with
      | true => exact ke _ _ _ _ (fun v h2 q => optW_mono (fun acc q => ⟨q.1, compW_mono kt ke kf xs _ q.2⟩) q) q
      | false => exact compW_mono kt ke kf xs _ q) q) w.2⟩
theorem compFin_mono {fz : Bool} {p : Addr} {Q Q' : QV} (k : ∀ v h, Q v h → Q' v h) (h : Hq) (w : compFin fz p Q h) : compFin fz p Q' h := by
  cases fz with
  | true => exact optW_mono (fun _ q => k _ _ q) w
  | false => exact k _ _ w
def Dn.le (D D' : Dn) : Prop := (∀ ρ h, D.nx ρ h → D'.nx ρ h) ∧ (∀ v h, D.rt v h → D'.rt v h) ∧ ∀ x ρ h, D.ex x ρ h → D'.ex x ρ h
def MonoS (w w' : WS) : Prop := ∀ D D' ρ h, Dn.le D D' → w D ρ h → w' D' ρ h
theorem MonoS.go {b b' : WS} (kb : MonoS b b') {D D' : Dn} {ρ : Env3} {h : Hq} (w : b D ρ h) (k : Dn.le D D') : b' D' ρ h := kb D D' ρ h k w
theorem forW_mono {tg : Tg} {b b' : WS} {keep : Hq → Prop} {D D' : Dn} (kb : MonoS b b') (kd : Dn.le D D') : ∀ (xs : List Val) (ρ : Env3) (h : Hq), forW tg b keep D xs ρ h → forW tg b' keep D' xs ρ h
  | [], ρ, h, w => ⟨w.1, kd.1 _ _ w.2⟩
  | x :: xs, ρ, h, w => by
    refine ⟨w.1, optW_mono ?_ w.2⟩
    intro ρ1 q
    exact kb.go q ⟨fun ρ' h' q => forW_mono kb kd xs ρ' h' q, kd.2.1, kd.2.2⟩
theorem whlW_mono {tst tst' : Env3 → Hq → (Bool → Hq → Prop) → Prop} {b b' : WS} {D D' : Dn} (kt : ∀ ρ h Q Q', (∀ b h, Q b h → Q' b h) → tst ρ h Q → tst' ρ h Q') (kb : MonoS b b') (kd : Dn.le D D') :
    ∀ (n : Nat) (ρ : Env3) (h : Hq), whlW tst b D n ρ h → whlW tst' b' D' n ρ h
  | 0, _, _, w => w
  | n + 1, ρ, h, w => kt _ _ _ _ (fun b h1 q => by
    cases b with
    | true => exact kb.go q ⟨fun ρ' h' q => whlW_mono kt kb kd n ρ' h' q, kd.2.1, kd.2.2⟩
    | false => exact kd.1 _ _ q) w

/-- C' gives what C gives -/
def MonoC (C C' : CT) : Prop := ∀ f vs h Q Q' E E', (∀ v h, Q v h → Q' v h) → (∀ x h, E x h → E' x h) → C f vs h Q E → C' f vs h Q' E'
section
variable {C C' : CT} (kc : MonoC C C')
include kc
mutual
theorem wpE_mono : ∀ (e : Ex) (ρ : Env3) (h : Hq) (Q Q' : QV) (E E' : QE), (∀ v h, Q v h → Q' v h) → (∀ x h, E x h → E' x h) → wpE C e ρ h Q E → wpE C' e ρ h Q' E'
  | .var _, _, _, _, _, _, _, k, _, w => optW_mono (fun _ q => k _ _ q) w
  | .int _, _, _, _, _, _, _, k, _, w => k _ _ w
  | .bl _, _, _, _, _, _, _, k, _, w => k _ _ w
  | .non, _, _, _, _, _, _, k, _, w => k _ _ w
  | .str _, _, _, _, _, _, _, k, _, w => k _ _ w
  | .con _ _, _, _, _, _, _, _, k, _, w => k _ _ w
  | .nop, _, _, _, _, _, _, k, _, w => k _ _ w
  | .bin _ _ a b, _, _, _, _, _, _, k, ke, w => wpE_mono a _ _ _ _ _ _ (fun _ _ w => wpE_mono b _ _ _ _ _ _ (fun _ _ w => prW_mono k w) ke w) ke w
  | .neg a, _, _, _, _, _, _, k, ke, w => wpE_mono a _ _ _ _ _ _ (fun _ _ w => optW_mono (fun _ q => k _ _ q) w) ke w
  | .not a, _, _, _, _, _, _, k, ke, w => wpE_mono a _ _ _ _ _ _ (fun _ _ w => truW_mono (fun _ w => k _ _ w) w) ke w
  | .cmp _ a b, _, _, _, _, _, _, k, ke, w => wpE_mono a _ _ _ _ _ _ (fun _ _ w => wpE_mono b _ _ _ _ _ _ (fun _ _ w => prW_mono k w) ke w) ke w
  | .chain _ _ a b c, _, _, _, _, _, _, k, ke, w => wpE_mono a _ _ _ _ _ _ (fun _ _ w => wpE_mono b _ _ _ _ _ _ (fun _ _ w => prW_mono (fun _ _ w => optW_mono (fun t w => by
      cases t with
      | true => exact wpE_mono c _ _ _ _ _ _ (fun _ _ w => prW_mono k w) ke w
      | false => exact k _ _ w) w) w) ke w) ke w
  | .chain3 _ _ _ a b c d, _, _, _, _, _, _, k, ke, w => wpE_mono a _ _ _ _ _ _ (fun _ _ w => wpE_mono b _ _ _ _ _ _ (fun _ _ w => prW_mono (fun _ _ w => optW_mono (fun t w => by
      cases t with
      | true => exact wpE_mono c _ _ _ _ _ _ (fun _ _ w => prW_mono (fun _ _ w => optW_mono (fun t w => by
          cases t with
          | true => exact wpE_mono d _ _ _ _ _ _ (fun _ _ w => prW_mono k w) ke w
          | false => exact k _ _ w) w) w) ke w
      | false => exact k _ _ w) w) w) ke w) ke w
  | .bop i es, _, _, _, _, _, _, k, ke, w => wpB_mono i es _ _ _ _ _ _ k ke w
  | .ite t a b, _, _, _, _, _, _, k, ke, w => wpT_mono t _ _ _ _ _ _ (fun c _ w => by
      cases c with
      | true => exact wpE_mono a _ _ _ _ _ _ k ke w
      | false => exact wpE_mono b _ _ _ _ _ _ k ke w) ke w
  | .tup es, _, _, _, _, _, _, k, ke, w => wpA_mono es _ _ _ _ _ _ (fun _ _ w => ⟨w.1, k _ _ w.2⟩) ke w
  | .lst _ es, _, _, _, _, _, _, k, ke, w => wpA_mono es _ _ _ _ _ _ (fun _ _ w => ⟨w.1, alc_mono k w.2⟩) ke w
  | .idx a b, _, _, _, _, _, _, k, ke, w => wpE_mono a _ _ _ _ _ _ (fun _ _ w => wpE_mono b _ _ _ _ _ _ (fun _ _ w => prW_mono k w) ke w) ke w
  | .slc _ a lo hi, _, _, _, _, _, _, k, ke, w => wpE_mono a _ _ _ _ _ _ (fun _ _ w => wpE_mono lo _ _ _ _ _ _ (fun _ _ w => optW_mono (fun _ w => wpE_mono hi _ _ _ _ _ _ (fun _ _ w => optW_mono (fun _ w => prW_mono k w) w) ke w) w) ke w) ke w
  | .call _ es, _, _, _, _, _, _, k, ke, w => wpA_mono es _ _ _ _ _ _ (fun _ _ w => kc _ _ _ _ _ _ _ k ke w) ke w
  | .blt _ _ es, _, _, _, _, _, _, k, ke, w => wpA_mono es _ _ _ _ _ _ (fun _ _ w => prW_mono k w) ke w
  | .mth _ o es, _, _, _, _, _, _, k, ke, w => wpE_mono o _ _ _ _ _ _ (fun _ _ w => optW_mono (fun _ w => wpA_mono es _ _ _ _ _ _ (fun _ _ w => prW_mono k w) ke w) w) ke w
  | .comp _ elt _ it cond _, _, _, _, _, _, _, k, ke, w => wpI_mono it _ _ _ _ _ _ (fun _ _ _ w p n => compW_mono (fun ρ h Q Q' k w => wpT_mono cond ρ h Q Q' _ _ k (fun _ _ z => z) w) (fun ρ h Q Q' k w => wpE_mono elt ρ h Q Q' _ _ k (fun _ _ z => z) w) (fun h w => compFin_mono k h w) _ _ (w p n)) ke w
  | .dic0 _, _, _, _, _, _, _, k, _, w => alcD_mono k w
  | .dic1 fz a b, _, _, _, _, _, _, k, ke, w => fun p n => wpE_mono a _ _ _ _ _ _ (fun _ _ w => wpE_mono b _ _ _ _ _ _ (fun _ _ w => optW_mono (fun _ w => ⟨w.1, by
      have w2 := w.2
      split
      · rename_i e; rw [if_pos e] at w2; exact k _ _ w2
      · rename_i e; rw [if_neg e] at w2; exact k _ _ w2⟩) w) ke w) ke (w p n)
  | .dic2 fz a b c d, _, _, _, _, _, _, k, ke, w => fun p n => wpE_mono a _ _ _ _ _ _ (fun _ _ w => wpE_mono b _ _ _ _ _ _ (fun _ _ w => wpE_mono c _ _ _ _ _ _ (fun _ _ w => wpE_mono d _ _ _ _ _ _ (fun _ _ w => optW_mono (fun _ w => optW_mono (fun _ w => ⟨w.1, by
      have w2 := w.2
      split
      · rename_i e; rw [if_pos e] at w2; exact k _ _ w2
      · rename_i e; rw [if_neg e] at w2; exact k _ _ w2⟩) w) w) ke w) ke w) ke w) ke (w p n)
  | .op1 _ _ a, _, _, _, _, _, _, k, ke, w => wpE_mono a _ _ _ _ _ _ (fun _ _ w => prW_mono k w) ke w
  | .op2 _ _ a b, _, _, _, _, _, _, k, ke, w => wpE_mono a _ _ _ _ _ _ (fun _ _ w => wpE_mono b _ _ _ _ _ _ (fun _ _ w => prW_mono k w) ke w) ke w
  | .frz a, _, _, _, _, _, _, k, ke, w => wpE_mono a _ _ _ _ _ _ (fun _ _ w => frzW_mono k w) ke w
  | .frzD a, _, _, _, _, _, _, k, ke, w => wpE_mono a _ _ _ _ _ _ (fun _ _ w => frzDW_mono k w) ke w
  | .isx a _ _ _, _, _, _, _, _, _, k, ke, w => wpE_mono a _ _ _ _ _ _ (fun _ _ w => optW_mono (fun _ w => ⟨w.1, k _ _ w.2⟩) w) ke w
  | .kin _ _ _ a, _, _, _, _, _, _, k, ke, w => wpE_mono a _ _ _ _ _ _ (fun _ _ w => optW_mono (fun _ w => k _ _ w) w) ke w
  | .kix _ _ a, _, _, _, _, _, _, k, ke, w => wpE_mono a _ _ _ _ _ _ (fun _ _ w => optW_mono (fun _ w => optW_mono (fun _ w => k _ _ w) w) w) ke w
  | .lck a, _, _, _, _, _, _, k, ke, w => wpE_mono a _ _ _ _ _ _ (fun _ _ w => optW_mono (fun _ w => k _ _ w) w) ke w
  | .fld _ a _, _, _, _, _, _, _, k, ke, w => wpE_mono a _ _ _ _ _ _ (fun _ _ w => optW_mono (fun _ w => ⟨w.1, optW_mono (fun _ w => k _ _ w) w.2⟩) w) ke w
  | .meth _ _ _ a es, _, _, _, _, _, _, k, ke, w => wpE_mono a _ _ _ _ _ _ (fun _ _ w => optW_mono (fun _ w => ⟨w.1, wpA_mono es _ _ _ _ _ _ (fun _ _ w => kc _ _ _ _ _ _ _ k ke w) ke w.2⟩) w) ke w
  | .make _ _ es, _, _, _, _, _, _, k, ke, w => wpA_mono es _ _ _ _ _ _ (fun _ _ w p n => kc _ _ _ _ _ _ _ (fun _ _ w => ⟨w.1, k _ _ w.2⟩) ke (w p n)) ke w
  | .callF fs i es, _, _, _, _, _, _, k, ke, w => wpE_mono i _ _ _ _ _ _ (fun _ _ w => optW_mono (fun _ w => optW_mono (fun _ w => wpA_mono es _ _ _ _ _ _ (fun _ _ w => kc _ _ _ _ _ _ _ k ke w) ke w) w) w) ke w
  | .callC _ es, _, _, _, _, _, _, k, ke, w => optW_mono (fun _ w => optW_mono (fun _ w => wpA_mono es _ _ _ _ _ _ (fun _ _ ⟨h0, c, w⟩ => ⟨h0, c, kc _ _ _ _ _ _ _ (fun _ _ w => k _ _ w) (fun _ _ z => z) w⟩) ke w) w) w
  | .mxd _ a, _, _, _, _, _, _, k, ke, w => wpE_mono a _ _ _ _ _ _ (fun _ _ w => prW_mono k w) ke w
theorem wpA_mono : ∀ (es : Exs) (ρ : Env3) (h : Hq) (Q Q' : List Val → Hq → Prop) (E E' : QE), (∀ v h, Q v h → Q' v h) → (∀ x h, E x h → E' x h) → wpA C es ρ h Q E → wpA C' es ρ h Q' E'
  | .nil, _, _, _, _, _, _, k, _, w => k _ _ w
  | .cons e es, _, _, _, _, _, _, k, ke, w => wpE_mono e _ _ _ _ _ _ (fun _ _ w => wpA_mono es _ _ _ _ _ _ (fun _ _ w => k _ _ w) ke w) ke w
theorem wpB_mono : ∀ (i : Bool) (es : Exs) (ρ : Env3) (h : Hq) (Q Q' : QV) (E E' : QE), (∀ v h, Q v h → Q' v h) → (∀ x h, E x h → E' x h) → wpB C i es ρ h Q E → wpB C' i es ρ h Q' E'
  | _, .nil, _, _, _, _, _, _, _, _, w => w
  | _, .cons e .nil, _, _, _, _, _, _, k, ke, w => wpE_mono e _ _ _ _ _ _ k ke w
  | i, .cons e (.cons e2 es2), _, _, _, _, _, _, k, ke, w => wpE_mono e _ _ _ _ _ _ (fun _ _ w => optW_mono (fun t w => by
      split
      · rename_i q; rw [if_pos q] at w; exact wpB_mono i (.cons e2 es2) _ _ _ _ _ _ k ke w
      · rename_i q; rw [if_neg q] at w; exact k _ _ w) w) ke w
theorem wpT_mono : ∀ (e : Ex) (ρ : Env3) (h : Hq) (Q Q' : Bool → Hq → Prop) (E E' : QE), (∀ v h, Q v h → Q' v h) → (∀ x h, E x h → E' x h) → wpT C e ρ h Q E → wpT C' e ρ h Q' E'
  | .not a, _, _, _, _, _, _, k, ke, w => wpT_mono a _ _ _ _ _ _ (fun _ _ w => k _ _ w) ke w
  | .bop i es, _, _, _, _, _, _, k, ke, w => wpTs_mono i es _ _ _ _ _ _ k ke w
  | .nop, _, _, _, _, _, _, k, _, w => k _ _ w
  | .bl _, _, _, _, _, _, _, k, _, w => k _ _ w
  | .var _, _, _, _, _, _, _, k, ke, w => optW_mono (fun _ w => truW_mono (fun _ w => k _ _ w) w) w
  | .cmp _ a b, _, _, _, _, _, _, k, ke, w => wpE_mono a _ _ _ _ _ _ (fun _ _ w => wpE_mono b _ _ _ _ _ _ (fun _ _ w => prW_mono (fun _ _ w => optW_mono (fun _ w => k _ _ w) w) w) ke w) ke w
  | .chain _ _ a b c, _, _, _, _, _, _, k, ke, w => wpE_mono a _ _ _ _ _ _ (fun _ _ w => wpE_mono b _ _ _ _ _ _ (fun _ _ w => prW_mono (fun _ _ w => optW_mono (fun t w => by
      cases t with
      | true => exact wpE_mono c _ _ _ _ _ _ (fun _ _ w => prW_mono (fun _ _ w => optW_mono (fun _ w => k _ _ w) w) w) ke w
      | false => exact k _ _ w) w) w) ke w) ke w
  | .call _ es, _, _, _, _, _, _, k, ke, w => wpA_mono es _ _ _ _ _ _ (fun _ _ w => kc _ _ _ _ _ _ _ (fun _ _ w => truW_mono (fun _ w => k _ _ w) w) ke w) ke w
  | .blt _ _ es, _, _, _, _, _, _, k, ke, w => wpA_mono es _ _ _ _ _ _ (fun _ _ w => prW_mono (fun _ _ w => truW_mono (fun _ w => k _ _ w) w) w) ke w
  | .ite _ _ _, _, _, _, _, _, _, _, _, w => w
  | .chain3 _ _ _ _ _ _ _, _, _, _, _, _, _, _, _, w => w
  | .int _, _, _, _, _, _, _, _, _, w => w
  | .non, _, _, _, _, _, _, _, _, w => w
  | .str _, _, _, _, _, _, _, _, _, w => w
  | .con _ _, _, _, _, _, _, _, _, _, w => w
  | .bin _ _ _ _, _, _, _, _, _, _, _, _, w => w
  | .neg _, _, _, _, _, _, _, _, _, w => w
  | .tup _, _, _, _, _, _, _, _, _, w => w
  | .lst _ _, _, _, _, _, _, _, _, _, w => w
  | .idx _ _, _, _, _, _, _, _, _, _, w => w
  | .slc _ _ _ _, _, _, _, _, _, _, _, _, w => w
  | .mth _ _ _, _, _, _, _, _, _, _, _, w => w
  | .comp _ _ _ _ _ _, _, _, _, _, _, _, _, _, w => w
  | .dic0 _, _, _, _, _, _, _, _, _, w => w
  | .op1 _ _ _, _, _, _, _, _, _, _, _, w => w
  | .op2 _ _ _ _, _, _, _, _, _, _, _, _, w => w
  | .dic1 _ _ _, _, _, _, _, _, _, _, _, w => w
  | .dic2 _ _ _ _ _, _, _, _, _, _, _, _, _, w => w
  | .frz _, _, _, _, _, _, _, _, _, w => w
  | .frzD _, _, _, _, _, _, _, _, _, w => w
  | .lck _, _, _, _, _, _, _, _, _, w => w
  | .fld _ _ _, _, _, _, _, _, _, _, _, w => w
  | .make _ _ _, _, _, _, _, _, _, _, _, w => w
  | .meth _ _ _ a es, _, _, _, _, _, _, k, ke, w => wpE_mono a _ _ _ _ _ _ (fun _ _ w => optW_mono (fun _ w => ⟨w.1, wpA_mono es _ _ _ _ _ _ (fun _ _ w => kc _ _ _ _ _ _ _ (fun _ _ w => truW_mono (fun _ w => k _ _ w) w) ke w) ke w.2⟩) w) ke w
  | .isx a _ _ _, _, _, _, _, _, _, k, ke, w => wpE_mono a _ _ _ _ _ _ (fun _ _ w => optW_mono (fun _ w => ⟨w.1, k _ _ w.2⟩) w) ke w
  | .kin _ _ _ a, _, _, _, _, _, _, k, ke, w => wpE_mono a _ _ _ _ _ _ (fun _ _ w => optW_mono (fun _ w => k _ _ w) w) ke w
  | .kix _ _ _, _, _, _, _, _, _, _, _, w => w
  | .callC _ _, _, _, _, _, _, _, _, _, w => w
  | .callF _ _ _, _, _, _, _, _, _, _, _, w => w
  | .mxd _ _, _, _, _, _, _, _, _, _, w => w
theorem wpTs_mono : ∀ (i : Bool) (es : Exs) (ρ : Env3) (h : Hq) (Q Q' : Bool → Hq → Prop) (E E' : QE), (∀ v h, Q v h → Q' v h) → (∀ x h, E x h → E' x h) → wpTs C i es ρ h Q E → wpTs C' i es ρ h Q' E'
  | _, .nil, _, _, _, _, _, _, _, _, w => w
  | _, .cons e .nil, _, _, _, _, _, _, k, ke, w => wpT_mono e _ _ _ _ _ _ k ke w
  | i, .cons e (.cons e2 es2), _, _, _, _, _, _, k, ke, w => wpT_mono e _ _ _ _ _ _ (fun _ _ w => by
      split
      · rename_i q; rw [if_pos q] at w; exact wpTs_mono i (.cons e2 es2) _ _ _ _ _ _ k ke w
      · rename_i q; rw [if_neg q] at w; exact k _ _ w) ke w
theorem wpI_mono : ∀ (it : Itx) (ρ : Env3) (h : Hq) (Q Q' : List Val → (Hq → Prop) → Hq → Prop) (E E' : QE), (∀ v k h, Q v k h → Q' v k h) → (∀ x h, E x h → E' x h) → wpI C it ρ h Q E → wpI C' it ρ h Q' E'
  | .seq e, _, _, _, _, _, _, k, ke, w => wpE_mono e _ _ _ _ _ _ (fun _ _ w => optW_mono (fun _ w => k _ _ _ w) w) ke w
  | .chars e, _, _, _, _, _, _, k, ke, w => wpE_mono e _ _ _ _ _ _ (fun _ _ w => optW_mono (fun _ w => k _ _ _ w) w) ke w
  | .keys e, _, _, _, _, _, _, k, ke, w => wpE_mono e _ _ _ _ _ _ (fun _ _ w => optW_mono (fun _ w => k _ _ _ w) w) ke w
  | .range1 e, _, _, _, _, _, _, k, ke, w => wpE_mono e _ _ _ _ _ _ (fun _ _ w => optW_mono (fun _ w => ⟨w.1, k _ _ _ w.2⟩) w) ke w
  | .range2 a b, _, _, _, _, _, _, k, ke, w => wpE_mono a _ _ _ _ _ _ (fun _ _ w => wpE_mono b _ _ _ _ _ _ (fun _ _ w => optW_mono (fun _ w => optW_mono (fun _ w => ⟨w.1, k _ _ _ w.2⟩) w) w) ke w) ke w
  | .range3 a b c, _, _, _, _, _, _, k, ke, w => wpE_mono a _ _ _ _ _ _ (fun _ _ w => wpE_mono b _ _ _ _ _ _ (fun _ _ w => wpE_mono c _ _ _ _ _ _ (fun _ _ w => optW_mono (fun _ w => optW_mono (fun _ w => optW_mono (fun _ w => ⟨w.1, k _ _ _ w.2⟩) w) w) w) ke w) ke w) ke w
  | .enum e, _, _, _, _, _, _, k, ke, w => wpE_mono e _ _ _ _ _ _ (fun _ _ w => optW_mono (fun _ w => k _ _ _ w) w) ke w
  | .zip a b, _, _, _, _, _, _, k, ke, w => wpE_mono a _ _ _ _ _ _ (fun _ _ w => wpE_mono b _ _ _ _ _ _ (fun _ _ w => optW_mono (fun _ w => optW_mono (fun _ w => k _ _ _ w) w) w) ke w) ke w
  | .rev e, _, _, _, _, _, _, k, ke, w => wpE_mono e _ _ _ _ _ _ (fun _ _ w => optW_mono (fun _ w => k _ _ _ w) w) ke w
end
omit kc in
theorem hsW_mono {D D' : Dn} (k : Dn.le D D') : ∀ (hs : List (Nat × Nat × Val)) (z : Nat) (ρ : Env3) (h : Hq), hsW D hs z ρ h → hsW D' hs z ρ h
  | [], _, _, _, w => k.2.2 _ _ _ w
  | (c, x, v) :: r, z, _, _, w => by
    unfold hsW at w ⊢
    by_cases e : subX z c = true
    · rw [if_pos e] at w ⊢; exact k.1 _ _ w
    · rw [if_neg e] at w ⊢; exact hsW_mono k r _ _ _ w
mutual
theorem wpS_mono : ∀ (s : Sm), MonoS (wpS C s) (wpS C' s)
  | .asg _ e, _, _, _, _, k, w => wpE_mono kc e _ _ _ _ _ _ (fun _ _ w => optW_mono (fun _ w => k.1 _ _ w) w) (fun _ _ w => k.2.2 _ _ _ w) w
  | .asgI o i e, _, _, _, _, k, w => wpE_mono kc e _ _ _ _ _ _ (fun _ _ w => wpE_mono kc o _ _ _ _ _ _ (fun _ _ w => wpE_mono kc i _ _ _ _ _ _ (fun _ _ w => setW_mono (fun _ w => k.1 _ _ w) w) (fun _ _ w => k.2.2 _ _ _ w) w) (fun _ _ w => k.2.2 _ _ _ w) w) (fun _ _ w => k.2.2 _ _ _ w) w
  | .ex e, _, _, _, _, k, w => wpE_mono kc e _ _ _ _ _ _ (fun v _ w => k.1 _ _ w) (fun _ _ w => k.2.2 _ _ _ w) w
  | .ret e, _, _, _, _, k, w => wpE_mono kc e _ _ _ _ _ _ (fun v _ w => k.2.1 _ _ w) (fun _ _ w => k.2.2 _ _ _ w) w
  | .retN, _, _, _, _, k, w => k.2.1 _ _ w
  | .ite t a b, _, _, _, _, k, w => wpT_mono kc t _ _ _ _ _ _ (fun c _ w => by
      cases c with
      | true => exact wpSs_mono a _ _ _ _ k w
      | false => exact wpSs_mono b _ _ _ _ k w) (fun _ _ w => k.2.2 _ _ _ w) w
  | .for _ it b, _, _, _, _, k, w => wpI_mono kc it _ _ _ _ _ _ (fun _ _ _ w => forW_mono (wpSs_mono b) k _ _ _ w) (fun _ _ w => k.2.2 _ _ _ w) w
  | .whl t b, _, _, _, _, k, ⟨n, w⟩ => ⟨n, whlW_mono (fun _ _ _ _ kq w => wpT_mono kc t _ _ _ _ _ _ kq (fun _ _ w => k.2.2 _ _ _ w) w) (wpSs_mono b) k n _ _ w⟩
  | .pass, _, _, _, _, k, w => k.1 _ _ w
  | .raise _, _, _, _, _, k, w => k.2.2 _ _ _ w
  | .asgF _ o _ e, _, _, _, _, k, w => wpE_mono kc e _ _ _ _ _ _ (fun _ _ w => wpE_mono kc o _ _ _ _ _ _ (fun _ _ w => optW_mono (fun _ w => ⟨w.1, k.1 _ _ w.2⟩) w) (fun _ _ w => k.2.2 _ _ _ w) w) (fun _ _ w => k.2.2 _ _ _ w) w
  | .tryAs b ks c n x, _, _, _, _, k, w => (wpSs_mono b).go w ⟨k.1, k.2.1, fun z _ _ w => by
      dsimp only at w ⊢
      by_cases e : subX z c = true
      · rw [if_pos e] at w ⊢; exact ⟨w.1, k.1 _ _ w.2⟩
      · rw [if_neg e] at w ⊢; exact ⟨w.1, k.2.2 _ _ _ w.2⟩⟩
  | .tryEx b ks c x v, _, _, _, _, k, w => (wpSs_mono b).go w ⟨k.1, k.2.1, fun z _ _ w => by
      dsimp only at w ⊢
      by_cases e : subX z c = true
      · rw [if_pos e] at w ⊢; exact ⟨w.1, k.1 _ _ w.2⟩
      · rw [if_neg e] at w ⊢; exact ⟨w.1, k.2.2 _ _ _ w.2⟩⟩
  | .tryEs b ks hs, _, _, _, _, k, w => (wpSs_mono b).go w ⟨k.1, k.2.1, fun z _ _ w => ⟨w.1, hsW_mono k hs _ _ _ w.2⟩⟩
  | .tryG b ks x, _, _, _, _, k, w => (wpSs_mono b).go w ⟨k.1, k.2.1, fun z _ _ w => ⟨w.1, optW_mono (fun _ w => k.2.1 _ _ w) w.2⟩⟩
  | .asgL _ _ _ _ _ es, _, _, _, _, k, w => ⟨w.1, optW_mono (fun _ w => wpA_mono kc es _ _ _ _ _ _ (fun _ _ w => kc _ _ _ _ _ _ _ (fun _ _ w => ⟨w.1, w.2.choose, w.2.choose_spec.1, k.1 _ _ w.2.choose_spec.2⟩) (fun _ _ z => z) w) (fun _ _ z => z) w) w.2⟩
  | .asgX _ _ elt _ it _, _, _, _, _, k, w => wpI_mono kc it _ _ _ _ _ _ (fun _ _ _ w p hp => compW_mono (tst := fun _ h2 K => K true h2) (tst' := fun _ h2 K => K true h2) (fun _ _ _ _ k q => k _ _ q) (fun _ _ _ _ kq q => wpE_mono kc elt _ _ _ _ _ _ kq (fun _ _ q => k.2.2 _ _ _ q) q) (compFin_mono fun _ _ q => k.1 _ _ q) _ _ (w p hp)) (fun _ _ q => k.2.2 _ _ _ q) w
  | .retX _ elt _ it _, _, _, _, _, k, w => wpI_mono kc it _ _ _ _ _ _ (fun _ _ _ w p hp => compW_mono (tst := fun _ h2 K => K true h2) (tst' := fun _ h2 K => K true h2) (fun _ _ _ _ k q => k _ _ q) (fun _ _ _ _ kq q => wpE_mono kc elt _ _ _ _ _ _ kq (fun _ _ q => k.2.2 _ _ _ q) q) (compFin_mono k.2.1) _ _ (w p hp)) (fun _ _ q => k.2.2 _ _ _ q) w
  | .retc _ _ _, _, _, _, _, k, w => ⟨w.1, optW_mono (fun _ w => k.2.1 _ _ w) w.2⟩
  | .never, _, _, _, _, _, w => w
  | .kill _, _, _, _, _, k, w => optW_mono (fun _ w => k.1 _ _ w) w
  | .fzv _, _, _, _, _, k, w => optW_mono (fun _ w => optW_mono (fun _ w => k.1 _ _ w) w) w
theorem wpSs_mono : ∀ (s : Sms), MonoS (wpSs C s) (wpSs C' s)
  | .nil, _, _, _, _, k, w => k.1 _ _ w
  | .cons s r, _, _, _, _, k, w => (wpS_mono s).go w ⟨fun _ _ w => (wpSs_mono r).go w k, k.2.1, k.2.2⟩
end
end
theorem CN_mono (F : Fs) : ∀ n, MonoC (CN F n) (CN F n)
  | 0 => fun _ _ _ _ _ _ _ _ _ w => w
  | n + 1 => fun f vs h Q Q' E E' k ke w => optW_mono (fun d w => ⟨w.1, (wpSs_mono (CN_mono F n) d.body).go w.2 ⟨fun _ _ w => k _ _ w, k, fun _ _ _ w => ke _ _ w⟩⟩) w
theorem CN_up (F : Fs) : ∀ n, MonoC (CN F n) (CN F (n + 1))
  | 0 => fun _ _ _ _ _ _ _ _ _ w => w.elim
  | n + 1 => fun f vs h Q Q' E E' k ke w => optW_mono (fun d w => ⟨w.1, (wpSs_mono (CN_up F n) d.body).go w.2 ⟨fun _ _ w => k _ _ w, k, fun _ _ _ w => ke _ _ w⟩⟩) w
end L3

set_option Elab.async false
set_option linter.all false
set_option maxRecDepth 100000
/-! L3, part 4: the operations keep what they say. -/
namespace L3
open PySem PySem.Spec PyProof.Rows L2

variable [Mo]
/-! ### wishes -/
def KQ (h : Hq) (H : Hp) (Q : VK) : QV := fun v h' => ∀ V H', RH h' H' → Stab h H h' H' → RV h' H' v V → Q V H'
theorem KQ.later {h h1 h' : Hq} {H H1 : Hp} {Q : VK} {v : Val} (st : Stab h H h1 H1) (k : KQ h H Q v h') : KQ h1 H1 Q v h' := fun V H' rh s r => k V H' rh (st.trans s) r
theorem KQ.here {h : Hq} {H : Hp} {Q : VK} {v : Val} {V : V} (k : KQ h H Q v h) (rh : RH h H) (r : RV h H v V) : Q V H := k V H rh .refl r

/-- a new list comes -/
theorem alc_out {h : Hq} {H : Hp} {fz : Bool} {xs : List Val} {vs : List V} {Q : VK} (rh : RH h H) (r : RVs h H xs vs) (w : alc fz xs h (KQ h H Q)) (p : Addr) (n : H p = none) : Q (.ref p) (upd H p (.lst vs)) := by
  cases fz with
  | true =>
    have k := Stab.alloc (h := h) (o := .lst vs) n
    exact (show KQ h H Q (.fl xs) h from w) _ _ (rh.alloc n) k ⟨p, vs, rfl, rh.free n, upd_same, RVs.keep k r⟩
  | false =>
    have k := Stab.cell (h := h) (o := .lst vs) (c := .lst xs) n
    exact (show ∀ p, h p = none → KQ h H Q (.ref p) (up h p (.lst xs)) from w) p (rh.free n) _ _ (rh.put k ⟨vs, upd_same, RVs.keep k r⟩) k rfl
theorem out_list {h : Hq} {H : Hp} {fz : Bool} {xs : List Val} {vs : List V} {Q : VK} (rh : RH h H) (r : RVs h H xs vs) (w : (Out.al fz xs h).w (KQ h H Q)) : ∀ p, H p = none → Q (.ref p) (upd H p (.lst vs)) := fun p n => alc_out rh r w p n
/-- a cell is written -/
theorem write_out {h : Hq} {H : Hp} {a : Addr} {c : Cell} {xs : List Val} {vs : List V} {v : Val} {V : V} {Q : VK} (rh : RH h H) (l : h a = some c) (r : RVs h H xs vs) (rv : RV h H v V) (w : KQ h H Q v (up h a (.lst xs))) : Q V (upd H a (.lst vs)) := by
  have k := Stab.write (H := H) (o := .lst vs) (d := .lst xs) l
  exact w _ _ (rh.put k ⟨vs, upd_same, RVs.keep k r⟩) k (RV.keep k rv)

section
variable {h : Hq} {H : Hp} {v : Val} {x0 : V} {xs : List Val} {K : PySem.W.Frag}
/-- a list that is read -/
theorem lv_read (rh : RH h H) (r : RV h H v x0) (e : lv h v = some xs) : ∃ a vs, x0 = .ref a ∧ H a = some (.lst vs) ∧ RVs h H xs vs := by
  cases v with
  | fl ys =>
    cases e
    obtain ⟨a, vs, e1, _, e2, q⟩ := r
    exact ⟨a, vs, e1, e2, q⟩
  | ref a =>
    have e' : (match h a with | some (.lst xs) => some xs | _ => none) = some xs := e
    split at e'
    · rename_i ys e1
      cases e'
      obtain ⟨vs, e2, q⟩ := rh a _ e1
      exact ⟨a, vs, r, e2, q⟩
    · cases e'
  | _ => cases e
theorem RVs.of_ints {ns : List Int} : RVs h H (ns.map Val.int) (ns.map V.int) := by
  induction ns with
  | nil => exact rfl
  | cons n ns ih => exact .cons (show RV h H (.int n) (.int n) from rfl) ih
theorem ls_read (kk : K = Mo.K) (rh : RH h H) (r : RV h H v x0) (e : ls h v = some xs) : ∃ a vs, x0 = .ref a ∧ SqL K H a vs ∧ RVs h H xs vs := by
  cases v with
  | sc ns =>
    cases e
    obtain ⟨a, e1, q⟩ := r
    rcases q with ⟨_, e2⟩ | q
    · exact ⟨a, _, e1, .inl e2, RVs.of_ints⟩
    · exact ⟨a, _, e1, kk ▸ q H, RVs.of_ints⟩
  | ref b =>
    obtain ⟨a, vs, e1, e2, q⟩ := lv_read rh r (show lv h (.ref b) = some xs from e)
    exact ⟨a, vs, e1, SqL.of e2, q⟩
  | fl b =>
    obtain ⟨a, vs, e1, e2, q⟩ := lv_read rh r (show lv h (.fl b) = some xs from e)
    exact ⟨a, vs, e1, SqL.of e2, q⟩
  | _ => cases e
theorem sq_read (kk : K = Mo.K) (rh : RH h H) (r : RV h H v x0) (e : sq h v = some xs) : ∃ a vs, x0 = .ref a ∧ (SqL K H a vs ∨ SqT K H a vs) ∧ RVs h H xs vs := by
  cases v with
  | tup ys =>
    cases e
    obtain ⟨a, vs, e1, _, e2, q⟩ := r
    exact ⟨a, vs, e1, .inr (SqT.of e2), q⟩
  | sc b =>
    obtain ⟨a, vs, e1, e2, q⟩ := ls_read (K := K) kk rh r (show ls h (.sc b) = some xs from e)
    exact ⟨a, vs, e1, .inl e2, q⟩
  | ref b =>
    obtain ⟨a, vs, e1, e2, q⟩ := ls_read (K := K) kk rh r (show ls h (.ref b) = some xs from e)
    exact ⟨a, vs, e1, .inl e2, q⟩
  | fl b =>
    obtain ⟨a, vs, e1, e2, q⟩ := ls_read (K := K) kk rh r (show ls h (.fl b) = some xs from e)
    exact ⟨a, vs, e1, .inl e2, q⟩
  | _ => cases e
theorem lstAt_read {q : Addr × List Val} (rh : RH h H) (r : RV h H v x0) (e : lstAt h v = some q) : x0 = .ref q.1 ∧ h q.1 = some (.lst q.2) ∧ ∃ vs, H q.1 = some (.lst vs) ∧ RVs h H q.2 vs := by
  cases v with
  | ref a =>
    unfold lstAt at e
    dsimp only at e
    split at e
    · rename_i ys e1
      cases e
      obtain ⟨vs, e2, q⟩ := rh a _ e1
      exact ⟨r, e1, vs, e2, q⟩
    · cases e
  | _ => cases e
theorem RVs.ints' : ∀ {xs : List Val} {vs : List V} {ns : List Int}, RVs h H xs vs → mapO intOf xs = some ns → vs = ns.map V.int
  | [], _, _, r, e => by cases e; exact r
  | x :: xs, _, ns, ⟨y, t, q, r1, r2⟩, e => by
    subst q
    unfold mapO at e
    split at e
    · rename_i i is e1 e2
      cases e
      cases x with
      | int k => cases e1; rw [show y = V.int _ from r1, RVs.ints' r2 e2]; rfl
      | _ => cases e1
    · cases e
theorem RVs.bls' : ∀ {xs : List Val} {vs : List V} {ns : List Bool}, RVs h H xs vs → mapO blOf xs = some ns → vs = ns.map V.bl
  | [], _, _, r, e => by cases e; exact r
  | x :: xs, _, ns, ⟨y, t, q, r1, r2⟩, e => by
    subst q
    unfold mapO at e
    split at e
    · rename_i i is e1 e2
      cases e
      cases x with
      | bl k => cases e1; rw [show y = V.bl _ from r1, RVs.bls' r2 e2]; rfl
      | _ => cases e1
    · cases e
theorem flt_is (f : flt v = true) (r : RV h H v x0) : x0 = flV v ∧ flatV (flV v) = true := by
  cases v <;> first | (cases f; done) | exact ⟨r, rfl⟩
theorem flt_all : ∀ {xs : List Val} {vs : List V}, xs.all flt = true → RVs h H xs vs → vs = xs.map flV ∧ vs.all flatV = true
  | [], _, _, r => by cases r; exact ⟨rfl, rfl⟩
  | x :: xs, _, f, ⟨y, t, q, r1, r2⟩ => by
    subst q
    rw [List.all_cons, Bool.and_eq_true] at f
    obtain ⟨e1, e2⟩ := flt_is f.1 r1
    obtain ⟨e3, e4⟩ := flt_all f.2 r2
    subst e1
    exact ⟨by rw [List.map_cons, ← e3], by rw [List.all_cons, e2, e4]; rfl⟩
theorem isN_is (r : RV h H v x0) : decide (x0 = .non) = isN v := by
  cases v with
  | non => rw [show x0 = .non from r]; rfl
  | bl b => rw [show x0 = .bl b from r]; rfl
  | int b => rw [show x0 = .int b from r]; rfl
  | str b => rw [show x0 = .str b from r]; rfl
  | tup b => obtain ⟨a, _, e, _⟩ := r; rw [e]; rfl
  | fl b => obtain ⟨a, _, e, _⟩ := r; rw [e]; rfl
  | sc b => obtain ⟨a, e, _⟩ := r; rw [e]; rfl
  | ref b => rw [show x0 = .ref b from r]; rfl
  | fd ks ws => obtain ⟨a, _, e, _⟩ := r; rw [e]; rfl
  | wd ks ws => obtain ⟨a, _, e, _⟩ := r; rw [e]; rfl
  | exc c => obtain ⟨a, e, _⟩ := r; rw [e]; rfl
  | clo g ws => obtain ⟨f, _, _, _, _, _, _, e, _⟩ := r; rw [e]; rfl
end

/-! ### data -/
section
variable {h : Hq} {H : Hp} {K : PySem.W.Frag}
theorem dp_ints : ∀ ns : List Int, DpAll K H (ns.map V.int) (ns.map PyData.int)
  | [] => .nil
  | n :: ns => .cons (.int n) (dp_ints ns)
mutual
theorem pd_dp (kk : K = Mo.K) : ∀ (v : Val) (d : PyData) (V : V), pd v = some d → RV h H v V → Dp K H V d
  | .non, _, _, e, r => by cases e; cases r; exact .non
  | .bl b, _, _, e, r => by cases e; cases r; exact .bl b
  | .int b, _, _, e, r => by cases e; cases r; exact .int b
  | .str b, _, _, e, r => by cases e; cases r; exact .str b
  | .tup xs, _, _, e, r => by
    obtain ⟨a, vs, e1, _, e2, q⟩ := r
    unfold pd at e
    cases e3 : pds xs with
    | none => rw [e3] at e; cases e
    | some ds =>
      rw [e3] at e; cases e; subst e1
      exact .tup (SqT.of e2) (pds_dp kk xs ds vs e3 q)
  | .fl xs, _, _, e, r => by
    obtain ⟨a, vs, e1, _, e2, q⟩ := r
    unfold pd at e
    cases e3 : pds xs with
    | none => rw [e3] at e; cases e
    | some ds =>
      rw [e3] at e; cases e; subst e1
      exact .lst (SqL.of e2) (pds_dp kk xs ds vs e3 q)
  | .sc ns, _, _, e, r => by
    obtain ⟨a, e1, q⟩ := r
    cases e; subst e1
    rcases q with ⟨_, e2⟩ | q
    · exact .lst (.inl e2) (dp_ints ns)
    · exact .lst (kk ▸ q H) (dp_ints ns)
  | .ref a, _, _, e, r => by cases e
theorem pds_dp (kk : K = Mo.K) : ∀ (xs : List Val) (ds : List PyData) (vs : List V), pds xs = some ds → RVs h H xs vs → DpAll K H vs ds
  | [], _, _, e, r => by cases e; cases r; exact .nil
  | x :: xs, _, _, e, ⟨y, t, q, r1, r2⟩ => by
    subst q
    unfold pds at e
    split at e
    · rename_i d ds e1 e2
      cases e
      exact .cons (pd_dp kk x d y e1 r1) (pds_dp kk xs ds t e2 r2)
    · cases e
end
theorem mapO_dp {f : Val → Option PyData} (hf : ∀ v d V, f v = some d → RV h H v V → Dp K H V d) : ∀ (xs : List Val) (ds : List PyData) (vs : List V), mapO f xs = some ds → RVs h H xs vs → DpAll K H vs ds
  | [], _, _, e, r => by cases e; cases r; exact .nil
  | x :: xs, _, _, e, ⟨y, t, q, r1, r2⟩ => by
    subst q
    unfold mapO at e
    split at e
    · rename_i d ds e1 e2
      cases e
      exact .cons (hf x d y e1 r1) (mapO_dp hf xs ds t e2 r2)
    · cases e
theorem dt1_dp (kk : K = Mo.K) (rh : RH h H) (v : Val) (d : PyData) (V : V) (e : dt1 h v = some d) (r : RV h H v V) : Dp K H V d := by
  cases v with
  | ref a =>
    unfold dt1 at e
    dsimp only at e
    split at e
    · rename_i xs e1
      obtain ⟨vs, e2, q⟩ := rh a _ e1
      cases e3 : mapO pd xs with
      | none => rw [e3] at e; cases e
      | some ds =>
        rw [e3] at e; cases e
        cases (show V = .ref a from r)
        exact .lst (SqL.of e2) (mapO_dp (pd_dp kk) xs ds vs e3 q)
    · cases e
  | _ => exact pd_dp kk _ d V e r
theorem dt_dp (kk : K = Mo.K) (rh : RH h H) (v : Val) (d : PyData) (V : V) (e : dt h v = some d) (r : RV h H v V) : Dp K H V d := by
  cases v with
  | ref a =>
    unfold dt at e
    dsimp only at e
    split at e
    · rename_i xs e1
      obtain ⟨vs, e2, q⟩ := rh a _ e1
      cases e3 : mapO (dt1 h) xs with
      | none => rw [e3] at e; cases e
      | some ds =>
        rw [e3] at e; cases e
        cases (show V = .ref a from r)
        exact .lst (SqL.of e2) (mapO_dp (dt1_dp kk rh) xs ds vs e3 q)
    · cases e
  | _ => exact pd_dp kk _ d V e r
theorem dtN_dp (kk : K = Mo.K) (rh : RH h H) : ∀ (n : Nat) (v : Val) (d : PyData) (V : V), dtN n h v = some d → RV h H v V → Dp K H V d
  | 0, v, d, V, e, r => pd_dp kk v d V e r
  | n + 1, v, d, V, e, r => by
    unfold dtN at e
    split at e
    · rename_i d' e1
      cases e
      exact pd_dp kk v _ V e1 r
    · split at e
      · rename_i xs _
        obtain ⟨a, vs, e1, _, e2, q⟩ := r
        cases e3 : mapO (dtN n h) xs with
        | none => rw [e3] at e; cases e
        | some ds =>
          rw [e3] at e; cases e; subst e1
          exact .tup (SqT.of e2) (mapO_dp (dtN_dp kk rh n) xs ds vs e3 q)
      · rename_i xs _
        obtain ⟨a, vs, e1, _, e2, q⟩ := r
        cases e3 : mapO (dtN n h) xs with
        | none => rw [e3] at e; cases e
        | some ds =>
          rw [e3] at e; cases e; subst e1
          exact .lst (SqL.of e2) (mapO_dp (dtN_dp kk rh n) xs ds vs e3 q)
      · rename_i a _
        split at e
        · rename_i xs e1
          obtain ⟨vs, e2, q⟩ := rh a _ e1
          cases e3 : mapO (dtN n h) xs with
          | none => rw [e3] at e; cases e
          | some ds =>
            rw [e3] at e; cases e
            cases (show V = .ref a from r)
            exact .lst (SqL.of e2) (mapO_dp (dtN_dp kk rh n) xs ds vs e3 q)
        · cases e
      · cases e
end

/-! ### dicts -/
section
variable {h : Hq} {H : Hp}
theorem RKV.get {k : Key} : ∀ {kvs : KVs} {us : List (Key × V)}, RKV h H kvs us → (dg kvs k = none ∧ valV us k = none) ∨ ∃ v y, dg kvs k = some v ∧ valV us k = some y ∧ RV h H v y
  | [], us, r => by
    have : us = [] := List.map_eq_nil_iff.mp r.1
    subst this
    exact .inl ⟨rfl, rfl⟩
  | (j, v) :: kvs, us, r => by
    obtain ⟨y, t, rfl, r1, r2⟩ := r.un
    by_cases e : j = k
    · exact .inr ⟨v, y, by simp [dg, List.find?_cons, e], valV_pos e, r1⟩
    · rcases RKV.get (k := k) r2 with ⟨a, b⟩ | ⟨v', y', a, b, c⟩
      · exact .inl ⟨by simpa [dg, List.find?_cons, e] using a, by rw [valV_neg e]; exact b⟩
      · exact .inr ⟨v', y', by simpa [dg, List.find?_cons, e] using a, by rw [valV_neg e]; exact b, c⟩
theorem RKV.repl {k : Key} {v : Val} {y : V} (rv : RV h H v y) : ∀ {kvs : KVs} {us : List (Key × V)}, RKV h H kvs us → RKV h H (kvs.map fun kv => if kv.1 = k then (kv.1, v) else kv) (us.map fun kv => if kv.1 = k then (kv.1, y) else kv)
  | [], us, r => by
    have : us = [] := List.map_eq_nil_iff.mp r.1
    subst this
    exact .nil
  | (j, w) :: kvs, us, r => by
    obtain ⟨z, t, rfl, r1, r2⟩ := r.un
    have := RKV.repl (k := k) rv r2
    by_cases e : j = k
    · simp only [List.map_cons, if_pos e]; exact .cons rv this
    · simp only [List.map_cons, if_neg e]; exact .cons r1 this
theorem RKV.any {k : Key} {kvs : KVs} {us : List (Key × V)} (r : RKV h H kvs us) : (kvs.any fun kv => decide (kv.1 = k)) = us.any fun kv => decide (kv.1 = k) := by
  have e1 : (kvs.any fun kv => decide (kv.1 = k)) = (kvs.map (·.1)).any fun j => decide (j = k) := by rw [List.any_map]; rfl
  have e2 : (us.any fun kv => decide (kv.1 = k)) = (us.map (·.1)).any fun j => decide (j = k) := by rw [List.any_map]; rfl
  rw [e1, e2, r.1]
theorem RKV.put {k : Key} {v : Val} {y : V} {kvs : KVs} {us : List (Key × V)} (r : RKV h H kvs us) (rv : RV h H v y) : RKV h H (dp kvs k v) (putK us k y) := by
  unfold dp putK
  rw [r.any (k := k)]
  split
  · exact r.repl rv
  · exact r.app (.cons rv .nil)
theorem RKV.merge : ∀ {more kvs : KVs} {ms us : List (Key × V)}, RKV h H more ms → RKV h H kvs us → RKV h H (dmerge kvs more) (mergeK us ms)
  | [], _, ms, _, r, q => by
    have : ms = [] := List.map_eq_nil_iff.mp r.1
    subst this
    exact q
  | (j, w) :: more, _, ms, _, r, q => by
    obtain ⟨z, t, rfl, r1, r2⟩ := r.un
    have := RKV.merge r2 (RKV.put (k := j) q r1)
    exact this
theorem RKV.merge' {kvs more : KVs} {us ms : List (Key × V)} (q : RKV h H kvs us) (r : RKV h H more ms) : RKV h H (dmerge kvs more) (mergeK us ms) := RKV.merge r q
theorem key_read {v : Val} {x : V} {k : Key} (r : RV h H v x) (e : keyOf v = some k) : x = kV k := by
  cases v <;> first | (cases e; done) | (cases e; cases r; rfl)
theorem DGet.k' {H : Hp} {a : Addr} {kvs : List (Key × V)} {k : Key} (e : Rd H a (.dK kvs)) : DGet H a (kV k) (valV kvs k) := .inl ⟨kvs, k, e, rfl, rfl⟩
theorem dr_read {v : Val} {x : V} {kvs : KVs} (rh : RH h H) (r : RV h H v x) (e : dr h v = some kvs) : ∃ a us, x = .ref a ∧ Rd H a (.dK us) ∧ RKV h H kvs us := by
  cases v with
  | wd ks ws =>
    cases e
    obtain ⟨a, us, e1, _, e2, e3, e4⟩ := r
    refine ⟨a, us, e1, .inr e2, ?_⟩
    have l : ks.length = ws.length := by rw [← e3, List.length_map, e4.length, List.length_map]
    refine ⟨?_, ?_⟩
    · rw [List.map_fst_zip (by omega), e3]
    · rw [List.map_snd_zip (by omega)]; exact e4
  | fd ks ws =>
    cases e
    obtain ⟨a, us, e1, _, e2, e3, e4⟩ := r
    refine ⟨a, us, e1, .inl e2, ?_⟩
    have l : ks.length = ws.length := by rw [← e3, List.length_map, e4.length, List.length_map]
    refine ⟨?_, ?_⟩
    · rw [List.map_fst_zip (by omega), e3]
    · rw [List.map_snd_zip (by omega)]; exact e4
  | ref a =>
    have e' : (match h a with | some (.dic xs) => some xs | _ => none) = some kvs := e
    split at e'
    · rename_i ys e1
      cases e'
      obtain ⟨us, e2, q⟩ := rh a _ e1
      exact ⟨a, us, r, .inl e2, q⟩
    · cases e'
  | _ => cases e
theorem dicAt_read {v : Val} {x : V} {q : Addr × KVs} (rh : RH h H) (r : RV h H v x) (e : dicAt h v = some q) : x = .ref q.1 ∧ h q.1 = some (.dic q.2) ∧ ∃ us, H q.1 = some (.dK us) ∧ RKV h H q.2 us := by
  cases v with
  | ref a =>
    have e' : (match h a with | some (.dic xs) => some (a, xs) | _ => none) = some q := e
    split at e'
    · rename_i ys e1
      cases e'
      obtain ⟨us, e2, t⟩ := rh a _ e1
      exact ⟨r, e1, us, e2, t⟩
    · cases e'
  | _ => cases e
theorem fd_rv {a : Addr} {kvs : KVs} {us : List (Key × V)} (n : h a = none) (e : H a = some (.dK us)) (r : RKV h H kvs us) : RV h H (fdOf kvs) (.ref a) := ⟨a, us, rfl, n, e, r.1, r.2⟩
/-- a new dict comes -/
theorem alcD_out {fz : Bool} {kvs : KVs} {us : List (Key × V)} {Q : VK} (rh : RH h H) (r : RKV h H kvs us) (w : alcD fz kvs h (KQ h H Q)) (p : Addr) (n : H p = none) : Q (.ref p) (upd H p (.dK us)) := by
  cases fz with
  | true =>
    have k := Stab.alloc (h := h) (o := .dK us) n
    exact (show KQ h H Q (fdOf kvs) h from w) _ _ (rh.alloc n) k (fd_rv (rh.free n) upd_same (RKV.keep k r))
  | false =>
    have k := Stab.cell (h := h) (o := .dK us) (c := .dic kvs) n
    exact (show ∀ p, h p = none → KQ h H Q (.ref p) (up h p (.dic kvs)) from w) p (rh.free n) _ _ (rh.put k ⟨us, upd_same, RKV.keep k r⟩) k rfl
theorem writeD_out {a : Addr} {c : Cell} {kvs : KVs} {us : List (Key × V)} {v : Val} {V : V} {Q : VK} (rh : RH h H) (l : h a = some c) (r : RKV h H kvs us) (rv : RV h H v V) (w : KQ h H Q v (up h a (.dic kvs))) : Q V (upd H a (.dK us)) := by
  have k := Stab.write (H := H) (o := .dK us) (d := .dic kvs) l
  exact w _ _ (rh.put k ⟨us, upd_same, RKV.keep k r⟩) k (RV.keep k rv)
theorem cellAt_read {v : Val} {x : V} {q : Addr × Cell} (r : RV h H v x) (e : cellAt h v = some q) : x = .ref q.1 ∧ h q.1 = some q.2 ∧ noIns q.2 = some q.2 := by
  cases v with
  | ref a =>
    obtain ⟨c, e1, e2⟩ := Option.map_eq_some_iff.mp e
    cases e2
    exact ⟨r, noIns_is e1⟩
  | _ => cases e
/-- what was a cell, frozen -/
theorem frzC_rv {a : Addr} {c : Cell} (rh : RH h H) (e : h a = some c) (ni : noIns c = some c) : RV (er h a) H (frzC c) (.ref a) := by
  have k : Stab h H (er h a) H := Stab.er
  cases c with
  | lst xs =>
    obtain ⟨vs, e1, q⟩ := rh a _ e
    exact ⟨a, vs, rfl, er_same, e1, RVs.keep k q⟩
  | dic kvs =>
    obtain ⟨us, e1, q⟩ := rh a _ e
    exact fd_rv er_same e1 (RKV.keep k q)
  | ins c fs => cases ni
  | tab q => cases ni
end
theorem RVs.rep {h : Hq} {H : Hp} {xs : List Val} {vs : List V} (r : RVs h H xs vs) : ∀ n : Nat, RVs h H (List.replicate n xs).flatten (List.replicate n vs).flatten
  | 0 => RVs.nil
  | n + 1 => by rw [List.replicate_succ, List.replicate_succ, List.flatten_cons, List.flatten_cons]; exact r.app (RVs.rep r n)

/-! ### operators -/
/-- an operation's reading -/
def R2x (f : Val → Val → Hq → Pr) : R2 := fun x y H Q => ∃ h a b, RH h H ∧ RV h H a x ∧ RV h H b y ∧ prW (f a b h) (KQ h H Q)
theorem OpR.imp {X : Cx} {f : Value → Value → Sem Value} {r r' : R2} (o : OpR X f r) (k : ∀ x y H Q, r' x y H Q → r x y H Q) : OpR X f r' := fun pins s σ H x y v u Q I rx ry q => o pins s σ H x y v u Q I rx ry (k x y H Q q)
theorem len_ok {n : Nat} (e : n ≤ 1000000) : n ≤ sizeLine := Nat.le_trans e (by decide)
theorem len_lt {n : Nat} (e : n < 1000000) : n < sizeLine := Nat.lt_of_lt_of_le e (by decide)
theorem bits64 {i : Int} (h : -18446744073709551616 < i ∧ i < 18446744073709551616) : -(2 ^ 64) < i ∧ i < 2 ^ 64 := by omega

theorem op_mul_str {X : Cx} : OpR X (binaryOp .Mult) (fun x y H Q => ∃ i k, x = .str i ∧ y = .int k ∧ (2 ≤ k ∧ k ≤ 1000000) ∧ 0 < i.length ∧ i.length * k.toNat ≤ 1000000 ∧ Q (.str (repS i k.toNat)) H) := by
  intro pins s σ H x y v u Q I rx ry h
  obtain ⟨i, k, rfl, rfl, hk, h0, hz, q⟩ := h
  obtain ⟨t, rfl⟩ := rx
  obtain ⟨t', rfl⟩ := ry
  have e1 : ¬ k < 1 := by omega
  have e2 : (k == 1 || i.length == 0) = false := by
    simp only [Bool.or_eq_false_iff, beq_eq_false_iff_ne]; omega
  have hl : Builtin.Str.tooLong (i.length * k.toNat) = false := by
    unfold Builtin.Str.tooLong
    rw [sizeLine_eq]
    exact decide_eq_false (by omega)
  refine P.mul_str (by simp only [Bool.or_eq_false_iff, decide_eq_false_iff_not]; omega) (fun _ _ => ?_) (fun _ _ => hl) ?_
  · have h1 : (9223372036854775807 : Int) / k * k ≤ 9223372036854775807 := Int.ediv_mul_le _ (by omega)
    have h2 : (9223372036854775807 : Int) / k ≥ 1000000 := by
      have := Int.le_ediv_of_mul_le (a := 1000000) (b := 9223372036854775807) (c := k) (by omega) (by omega)
      omega
    have h3 : i.length ≤ i.length * k.toNat := Nat.le_mul_of_pos_right _ (by omega)
    show ¬ ((i.length : Nat) : Int) > 9223372036854775807 / k
    omega
  · rw [if_neg e1, if_neg (by rw [e2]; simp)]
    exact ⟨fits_reps hl, .str (repS i k.toNat), H, I.tok _, ⟨_, rfl⟩, q⟩
theorem sound_bin {X : Cx} {o : BOp} {fz : Bool} : OpR X (binaryOp (match o with | .add => .Add | .sub => .Sub | .mul => .Mult | .fdiv => .FloorDiv | .mod => .Mod | .pow => .Pow | .shl => .LShift | .shr => .RShift | .band => .BitAnd)) (R2x (binR o fz)) := by
  intro pins s σ H x y v u Q I rx ry ⟨h, a, b, rh, ra, rb, w⟩
  obtain ⟨⟨c, out⟩, e, hc, ho⟩ := optW_ex w
  dsimp only at hc ho
  cases o with
  | add =>
    dsimp only
    unfold binR at e
    dsimp only at e
    split at e
    · rename_i i j
      cases e; cases ra; cases rb
      exact op_add pins s σ H _ _ v u Q I rx ry ⟨i, j, rfl, rfl, KQ.here ho rh rfl⟩
    · rename_i i j
      cases e; cases ra; cases rb
      exact op_add_str pins s σ H _ _ v u Q I rx ry ⟨i, j, rfl, rfl, len_ok hc, KQ.here ho rh rfl⟩
    · rename_i i j
      cases e
      have ra' := ra
      have rb' := rb
      obtain ⟨a1, vs, e1, _, e2, q1⟩ := ra
      obtain ⟨a2, ws, e3, _, e4, q2⟩ := rb
      refine op_catA pins s σ H _ _ v u Q I rx ry ⟨a1, a2, vs, ws, e1, e3, SqT.of e2, SqT.of e4, by rw [← q1.length, ← q2.length]; exact len_ok hc, fun z => ?_, fun _ z => ?_, fun _ _ p n => ?_⟩
      · have : i = [] := List.eq_nil_of_length_eq_zero (by rw [q1.length, z]; rfl)
        subst this e3
        exact KQ.here ho rh rb'
      · have : j = [] := List.eq_nil_of_length_eq_zero (by rw [q2.length, z]; rfl)
        subst this e1
        rw [List.append_nil] at ho
        exact KQ.here ho rh ra'
      · have k := Stab.alloc (h := h) (o := .tup (vs ++ ws)) n
        exact (show KQ h H Q (.tup (i ++ j)) h from ho) _ _ (rh.alloc n) k ⟨p, _, rfl, rh.free n, upd_same, RVs.keep k (q1.app q2)⟩
    · split at e
      · rename_i xs ys e1 e2
        cases e
        obtain ⟨a1, vs, q1, q2, q3⟩ := lv_read rh ra e1
        obtain ⟨a2, ws, q4, q5, q6⟩ := lv_read rh rb e2
        exact op_cat pins s σ H _ _ v u Q I rx ry ⟨a1, a2, vs, ws, q1, q4, q2, q5, by rw [← q3.length, ← q6.length]; exact len_ok hc, out_list rh (q3.app q6) ho⟩
      · cases e
  | sub =>
    unfold binR at e; dsimp only at e
    split at e
    · cases e; cases ra; cases rb
      exact op_sub pins s σ H _ _ v u Q I rx ry ⟨_, _, rfl, rfl, KQ.here ho rh rfl⟩
    · cases e
  | mul =>
    unfold binR at e; dsimp only at e
    split at e
    · cases e; cases ra; cases rb
      rcases hc with q | q | q
      · exact op_mul pins s σ H _ _ v u Q I rx ry ⟨_, _, rfl, rfl, .inl (bits64 q), KQ.here ho rh rfl⟩
      · exact op_mul pins s σ H _ _ v u Q I rx ry ⟨_, _, rfl, rfl, .inr (bits64 q), KQ.here ho rh rfl⟩
      · exact op_mulW pins s σ H _ _ v u Q I rx ry ⟨_, _, rfl, rfl, q, KQ.here ho rh rfl⟩
    · cases e; cases ra; cases rb
      exact op_mul_str pins s σ H _ _ v u Q I rx ry ⟨_, _, rfl, rfl, hc.1, hc.2.1, hc.2.2, KQ.here ho rh rfl⟩
    · rename_i j _ _
      obtain ⟨xs, e1, e2⟩ := Option.map_eq_some_iff.mp e
      cases e2
      obtain ⟨a1, vs, q1, q2, q3⟩ := lv_read rh ra e1
      cases rb
      exact op_rep pins s σ H _ _ v u Q I rx ry ⟨a1, j, vs, q1, rfl, q2, by omega, by omega, by rw [← q3.length]; exact len_ok hc.2, out_list rh (q3.rep _) ho⟩
    · cases e
  | fdiv =>
    unfold binR at e; dsimp only at e
    split at e
    · cases e; cases ra; cases rb
      exact op_fdivW pins s σ H _ _ v u Q I rx ry ⟨_, _, rfl, rfl, wide_div (b := 250) hc.1 (by omega) (by decide) (by decide), KQ.here ho rh rfl⟩
    · cases e
  | mod =>
    unfold binR at e; dsimp only at e
    split at e
    · cases e; cases ra; cases rb
      exact op_mod pins s σ H _ _ v u Q I rx ry ⟨_, _, rfl, rfl, hc, KQ.here ho rh rfl⟩
    · cases e
  | pow =>
    unfold binR at e; dsimp only at e
    split at e
    · cases e; cases ra; cases rb
      exact op_pow pins s σ H _ _ v u Q I rx ry ⟨_, _, rfl, rfl, ⟨hc.1, hc.2.1, by omega⟩, KQ.here ho rh rfl⟩
    · cases e
  | shl =>
    unfold binR at e; dsimp only at e
    split at e
    · cases e; cases ra; cases rb
      exact op_shl pins s σ H _ _ v u Q I rx ry ⟨_, _, rfl, rfl, ⟨hc.1, hc.2.1, by omega⟩, KQ.here ho rh rfl⟩
    · cases e
  | shr =>
    unfold binR at e; dsimp only at e
    split at e
    · cases e; cases ra; cases rb
      exact op_shr pins s σ H _ _ v u Q I rx ry ⟨_, _, rfl, rfl, hc, KQ.here ho rh rfl⟩
    · cases e
  | band =>
    unfold binR at e; dsimp only at e
    split at e
    · cases e; cases ra; cases rb
      exact op_and pins s σ H _ _ v u Q I rx ry ⟨_, _, rfl, rfl, KQ.here ho rh rfl⟩
    · cases e
end L3

set_option Elab.async false
set_option linter.all false
set_option maxRecDepth 100000
/-! L3, part 5: comparisons, truth, places, built-ins, methods. -/
namespace L3
open PySem PySem.Spec PyProof.Rows L2
open PySem.W (alike dataLt AllAlike Sortable dataLe alike_unique lt_data gt_data le_data ge_data EachIs maxD minD AlikeAll max_list_data sorted_data dataLt_tuple dataLt_ints)
variable [Mo]

def copOf : COp → CmpOp
  | .eqd => .Eq | .eq => .Eq | .ne => .NotEq | .lt => .Lt | .le => .LtE | .gt => .Gt | .ge => .GtE | .is => .Is | .isnot => .IsNot | .isin => .In | .notin => .NotIn
def bopOf : BOp → Operator
  | .add => .Add | .sub => .Sub | .mul => .Mult | .fdiv => .FloorDiv | .mod => .Mod | .pow => .Pow | .shl => .LShift | .shr => .RShift | .band => .BitAnd
theorem scal_int {i j : Int} : scal (.int i) (.int j) = true := rfl
theorem decV_int {i j : Int} : decide (V.int i = V.int j) = decide (i = j) := by
  by_cases e : i = j
  · subst e; simp
  · rw [decide_eq_false e]; exact decide_eq_false fun q => e (V.int.inj q)
theorem decV_str {i j : Str} : decide (V.str i = V.str j) = decide (i = j) := by
  by_cases e : i = j
  · subst e; simp
  · rw [decide_eq_false e]; exact decide_eq_false fun q => e (V.str.inj q)
section
variable {X : Cx} (kk : X.K = Mo.K)
include kk
theorem sound_eqd (hu : X.A.units + 64 < cLine) : OpR X (compareOp .Eq) (R2x (eqR false)) := by
  intro pins s σ H x y v u Q I rx ry ⟨h, a, b, rh, ra, rb, w⟩
  obtain ⟨⟨c, out⟩, e, hc, ho⟩ := optW_ex w
  unfold eqR at e
  split at e
  · rename_i d f e1 e2
    cases e
    exact op_eqD hu pins s σ H _ _ v u Q I rx ry ⟨d, f, dt_dp kk rh _ _ _ e1 ra, dt_dp kk rh _ _ _ e2 rb, hc.1, hc.2, KQ.here ho rh rfl⟩
  · split at e
    · rename_i d f e1 e2
      cases e
      exact op_eqD hu pins s σ H _ _ v u Q I rx ry ⟨d, f, dtN_dp kk rh _ _ _ _ e1 ra, dtN_dp kk rh _ _ _ _ e2 rb, hc.1, hc.2, KQ.here ho rh rfl⟩
    · split at e
      · rename_i xs ys e1 e2
        split at e
        · rename_i ne
          cases e
          obtain ⟨p1, w1, q1, q2, q3⟩ := ls_read (K := X.K) kk rh ra e1
          obtain ⟨p2, w2, q4, q5, q6⟩ := ls_read (K := X.K) kk rh rb e2
          subst q1 q4
          cases rx
          cases ry
          obtain ⟨i1, r1, l1, _⟩ := I.list q2
          obtain ⟨i2, r2, l2, _⟩ := I.list q5
          have n1 : i1.length = xs.length := r1.length.symm.trans q3.length.symm
          have n2 : i2.length = ys.length := r2.length.symm.trans q6.length.symm
          have hs : (i1.toArray.size != i2.toArray.size) = true := by
            rw [List.size_toArray, List.size_toArray, n1, n2, bne_iff_ne]
            intro z
            cases xs <;> cases ys <;> simp at ne z
          exact SeqAt.RcAt.lists_lengths l1.isList l2.isList hs (by omega) X.prog X.w _ _ ⟨.bl _, H, I, rfl, KQ.here ho rh rfl⟩
        · cases e
      · split at e
        · rename_i ks js e1 e2
          split at e
          · rename_i em
            cases e
            obtain ⟨p1, w1, q1, q2, q3⟩ := dr_read rh ra e1
            obtain ⟨p2, w2, q4, q5, q6⟩ := dr_read rh rb e2
            subst q1 q4
            cases rx
            cases ry
            obtain ⟨z1, y1, v1, rel1, dd1⟩ := dk_rd I.hok q2
            obtain ⟨z2, y2, v2, rel2, dd2⟩ := dk_rd I.hok q5
            have n1 : v1.length = ks.length := rel1.length.symm.trans q3.length.symm
            have n2 : v2.length = js.length := rel2.length.symm.trans q6.length.symm
            refine PySem.W.keq_eq (knd := mixKind X.prog X.w) (r := true) y1 y2 dd1 dd2 (by omega) (fun hl => ?_) ?_
            · have k0 : v1 = [] := by
                rw [n1, n2] at hl
                cases ks <;> cases js <;> simp at em hl
                exact List.length_eq_zero_iff.mp n1
              rw [k0]
              exact .nil
            · have : (v1.length == v2.length) = (ks.isEmpty && js.isEmpty) := by
                rw [n1, n2]
                cases ks <;> cases js <;> simp at em ⊢
              rw [this]
              exact ⟨.bl _, H, I, by rw [Bool.and_true]; rfl, KQ.here ho rh rfl⟩
          · cases e
        · cases e
theorem sound_ned (hu : X.A.units + 64 < cLine) : OpR X (compareOp .NotEq) (R2x (eqR true)) := by
  intro pins s σ H x y v u Q I rx ry ⟨h, a, b, rh, ra, rb, w⟩
  obtain ⟨⟨c, out⟩, e, hc, ho⟩ := optW_ex w
  unfold eqR at e
  split at e
  · rename_i d f e1 e2
    cases e
    exact op_neD hu pins s σ H _ _ v u Q I rx ry ⟨d, f, dt_dp kk rh _ _ _ e1 ra, dt_dp kk rh _ _ _ e2 rb, hc.1, hc.2, KQ.here ho rh rfl⟩
  · split at e
    · rename_i d f e1 e2
      cases e
      exact op_neD hu pins s σ H _ _ v u Q I rx ry ⟨d, f, dtN_dp kk rh _ _ _ _ e1 ra, dtN_dp kk rh _ _ _ _ e2 rb, hc.1, hc.2, KQ.here ho rh rfl⟩
    · split at e
      · rename_i xs ys e1 e2
        split at e
        · rename_i ne
          cases e
          obtain ⟨p1, w1, q1, q2, q3⟩ := ls_read (K := X.K) kk rh ra e1
          obtain ⟨p2, w2, q4, q5, q6⟩ := ls_read (K := X.K) kk rh rb e2
          subst q1 q4
          cases rx
          cases ry
          obtain ⟨i1, r1, l1, _⟩ := I.list q2
          obtain ⟨i2, r2, l2, _⟩ := I.list q5
          have n1 : i1.length = xs.length := r1.length.symm.trans q3.length.symm
          have n2 : i2.length = ys.length := r2.length.symm.trans q6.length.symm
          have hs : (i1.toArray.size != i2.toArray.size) = true := by
            rw [List.size_toArray, List.size_toArray, n1, n2, bne_iff_ne]
            intro z
            cases xs <;> cases ys <;> simp at ne z
          exact SeqAt.RcNeAt.lists_lengths l1.isList l2.isList hs (by omega) X.prog X.w _ _ ⟨.bl _, H, I, rfl, KQ.here ho rh rfl⟩
        · cases e
      · split at e
        · rename_i ks js e1 e2
          split at e
          · rename_i em
            cases e
            obtain ⟨p1, w1, q1, q2, q3⟩ := dr_read rh ra e1
            obtain ⟨p2, w2, q4, q5, q6⟩ := dr_read rh rb e2
            subst q1 q4
            cases rx
            cases ry
            obtain ⟨z1, y1, v1, rel1, dd1⟩ := dk_rd I.hok q2
            obtain ⟨z2, y2, v2, rel2, dd2⟩ := dk_rd I.hok q5
            have n1 : v1.length = ks.length := rel1.length.symm.trans q3.length.symm
            have n2 : v2.length = js.length := rel2.length.symm.trans q6.length.symm
            refine PySem.W.keq_ne (knd := mixKind X.prog X.w) (r := true) y1 y2 dd1 dd2 (by omega) (fun hl => ?_) ?_
            · have k0 : v1 = [] := by
                rw [n1, n2] at hl
                cases ks <;> cases js <;> simp at em hl
                exact List.length_eq_zero_iff.mp n1
              rw [k0]
              exact .nil
            · have : (v1.length == v2.length) = (ks.isEmpty && js.isEmpty) := by
                rw [n1, n2]
                cases ks <;> cases js <;> simp at em ⊢
              rw [this]
              exact ⟨.bl _, H, I, by rw [Bool.and_true]; rfl, KQ.here ho rh rfl⟩
          · cases e
        · cases e
omit kk in
theorem inV_eq {a : Val} {ys : List Val} : inV (flV a) (ys.map flV) = ys.any fun z => eqV (flV z) (flV a) := by
  unfold inV; rw [List.any_map]; rfl
omit kk in
theorem stO_read {h : Hq} {H : Hp} {v : Val} {x : V} {s : Str} (r : RV h H v x) (e : stO v = some s) : x = .str s := by
  cases v <;> first | (cases e; done) | (cases e; exact r)
omit kk in
theorem sin_is {x y : Val} {c : Nat} {z : Str} (h : sinR x y = some (c, z)) : ∃ s, x = .str s ∧ y = .str z ∧ signOf s = some c := by
  unfold sinR at h
  split at h
  · rename_i z'
    split at h
    · rename_i s
      obtain ⟨d, e1, e2⟩ := Option.map_eq_some_iff.mp h
      cases e2
      exact ⟨s, rfl, rfl, e1⟩
    · cases h
  · cases h
omit kk in
theorem sign_is {s : Str} {c : Nat} (h : signOf s = some c) : s = ⟨#[c]⟩ := by
  unfold signOf at h
  split at h
  · rename_i d e
    obtain rfl := Option.some.inj h
    obtain ⟨a⟩ := s
    have : a = #[d] := by
      apply Array.ext'
      simpa using e
    rw [this]
  · cases h
theorem sound_in (hu : X.A.units + 65 < cLine) : OpR X (compareOp .In) (R2x (inR false)) := by
  intro pins s σ H x y v u Q I rx ry ⟨h, a, b, rh, ra, rb, w⟩
  obtain ⟨⟨c, out⟩, e, hc, ho⟩ := optW_ex w
  unfold inR at e
  split at e
  · rename_i kvs e1
    obtain ⟨k, e2, e3⟩ := Option.map_eq_some_iff.mp e
    cases e3
    obtain ⟨p, us, q1, q2, q3⟩ := dr_read rh rb e1
    obtain rfl := key_read ra e2
    subst q1
    obtain rfl : u = Value.ref p := ry
    have iso : (dg kvs k).isSome = (valV us k).isSome := by
      rcases q3.get (k := k) with ⟨z1, z2⟩ | ⟨_, _, z1, z2, _⟩ <;> rw [z1, z2] <;> rfl
    refine d_in (by omega) I (DGet.k' q2) rx fun s' I' => ⟨.bl _, H, I', rfl, ?_⟩
    rw [← iso]
    exact KQ.here ho rh rfl
  split at e
  · rename_i q e1
    obtain ⟨c, z⟩ := q
    cases e
    obtain ⟨s1, rfl, rfl, es⟩ := sin_is e1
    cases ra; cases rb
    obtain rfl := sign_is es
    exact op_in_sign pins s σ H _ _ v u Q I rx ry ⟨c, z, rfl, rfl, KQ.here ho rh rfl⟩
  split at e
  · rename_i ys e1
    split at e
    · rename_i fl
      cases e
      rw [Bool.and_eq_true] at fl
      obtain ⟨p, vs, q1, q2, q3⟩ := sq_read (K := X.K) kk rh rb e1
      obtain ⟨e2, f2⟩ := flt_is fl.1 ra
      obtain ⟨e3, f3⟩ := flt_all fl.2 q3
      refine op_in_seq pins s σ H _ _ v u Q I rx ry ⟨p, vs, q1, q2, by rw [e2]; exact f2, f3, ?_⟩
      rw [e2, e3, inV_eq]
      exact KQ.here ho rh rfl
    · split at e
      · rename_i d ds e2 e3
        cases e
        exact op_inD hu pins s σ H _ _ v u Q I rx ry ⟨d, ds, dt_dp kk rh _ _ _ e2 ra, dt_dp kk rh _ _ _ e3 rb, hc.1, hc.2, KQ.here ho rh rfl⟩
      · cases e
  · cases e
theorem sound_notin (hu : X.A.units + 65 < cLine) : OpR X (compareOp .NotIn) (R2x (inR true)) := by
  intro pins s σ H x y v u Q I rx ry ⟨h, a, b, rh, ra, rb, w⟩
  obtain ⟨⟨c, out⟩, e, hc, ho⟩ := optW_ex w
  unfold inR at e
  split at e
  · rename_i kvs e1
    obtain ⟨k, e2, e3⟩ := Option.map_eq_some_iff.mp e
    cases e3
    obtain ⟨p, us, q1, q2, q3⟩ := dr_read rh rb e1
    obtain rfl := key_read ra e2
    subst q1
    obtain rfl : u = Value.ref p := ry
    have iso : (dg kvs k).isSome = (valV us k).isSome := by
      rcases q3.get (k := k) with ⟨z1, z2⟩ | ⟨_, _, z1, z2, _⟩ <;> rw [z1, z2] <;> rfl
    refine d_notIn (by omega) I (DGet.k' q2) rx fun s' I' => ⟨.bl _, H, I', rfl, ?_⟩
    rw [← iso]
    exact KQ.here ho rh rfl
  split at e
  · rename_i q e1
    obtain ⟨c, z⟩ := q
    cases e
    obtain ⟨s1, rfl, rfl, es⟩ := sin_is e1
    cases ra; cases rb
    obtain rfl := sign_is es
    exact op_notIn_sign pins s σ H _ _ v u Q I rx ry ⟨c, z, rfl, rfl, KQ.here ho rh rfl⟩
  split at e
  · rename_i ys e1
    split at e
    · rename_i fl
      cases e
      rw [Bool.and_eq_true] at fl
      obtain ⟨p, vs, q1, q2, q3⟩ := sq_read (K := X.K) kk rh rb e1
      obtain ⟨e2, f2⟩ := flt_is fl.1 ra
      obtain ⟨e3, f3⟩ := flt_all fl.2 q3
      refine op_notIn_seq pins s σ H _ _ v u Q I rx ry ⟨p, vs, q1, q2, by rw [e2]; exact f2, f3, ?_⟩
      rw [e2, e3, inV_eq]
      exact KQ.here ho rh rfl
    · split at e
      · rename_i d ds e2 e3
        cases e
        exact op_notInD hu pins s σ H _ _ v u Q I rx ry ⟨d, ds, dt_dp kk rh _ _ _ e2 ra, dt_dp kk rh _ _ _ e3 rb, hc.1, hc.2, KQ.here ho rh rfl⟩
      · cases e
  · cases e
omit kk in
theorem shp_depth {d : PyData} (h : SeqAt.shaped d = true) : d.depth ≤ 64 := SeqAt.depth_of_shaped h
omit kk in
theorem shp_room {d e : PyData} {u : Nat} (h : SeqAt.shaped d = true) (hu : u + 65 < cLine) : u + min d.depth e.depth < cLine := by
  have := shp_depth h
  have := Nat.min_le_left d.depth e.depth
  omega
omit kk in
theorem isBV_read {h : Hq} {H : Hp} {a : Val} {x : V} {v : Value} (ra : RV h H a x) (rx : RelV x v) : (∃ c, a = .bl c) ∨ ((∀ {b : Bool}, isBV a b = false) ∧ (∀ b, PySem.plainIs v (.bool b) = true) ∧ ∀ b, v ≠ .bool b) := by
  have ref : ∀ p, x = .ref p → (∀ b, PySem.plainIs v (.bool b) = true) ∧ ∀ b, v ≠ .bool b := fun p e => by
    subst e
    cases (show v = Value.ref p from rx)
    exact ⟨fun b => rfl, fun b z => by cases z⟩
  cases a with
  | non => cases ra; cases (show v = Value.none from rx); exact .inr ⟨rfl, fun b => rfl, fun b z => by cases z⟩
  | bl c => exact .inl ⟨c, rfl⟩
  | int i => cases ra; obtain ⟨t, rfl⟩ := (show ∃ t, v = Value.int i t from rx); exact .inr ⟨rfl, fun b => rfl, fun b z => by cases z⟩
  | str i => cases ra; obtain ⟨t, rfl⟩ := (show ∃ t, v = Value.str i t from rx); exact .inr ⟨rfl, fun b => rfl, fun b z => by cases z⟩
  | tup xs => obtain ⟨p, vs, e, _⟩ := ra; exact .inr ⟨rfl, ref p e⟩
  | fl xs => obtain ⟨p, vs, e, _⟩ := ra; exact .inr ⟨rfl, ref p e⟩
  | sc xs => obtain ⟨p, e, _⟩ := ra; exact .inr ⟨rfl, ref p e⟩
  | ref p => exact .inr ⟨rfl, ref p ra⟩
  | fd ks xs => obtain ⟨p, vs, e, _⟩ := ra; exact .inr ⟨rfl, ref p e⟩
  | wd ks xs => obtain ⟨p, vs, e, _⟩ := ra; exact .inr ⟨rfl, ref p e⟩
  | exc c => obtain ⟨p, e, _⟩ := ra; exact .inr ⟨rfl, ref p e⟩
  | clo g ws => obtain ⟨p, _, _, _, _, _, _, e, _⟩ := ra; exact .inr ⟨rfl, ref p e⟩
theorem sound_cmp (hu : X.A.units + 65 < cLine) {o : COp} : OpR X (compareOp (copOf o)) (R2x (cmpR o)) := by
  intro pins s σ H x y v u Q I rx ry ⟨h, a, b, rh, ra, rb, w⟩
  cases o with
  | eqd =>
    obtain ⟨⟨c, out⟩, e, hc, ho⟩ := optW_ex w
    unfold cmpR at e; dsimp only at e
    split at e
    · rename_i d f e1 e2
      cases e
      obtain ⟨as, r1⟩ := Dp.reads I d x v (dt_dp kk rh _ _ _ e1 ra) rx
      obtain ⟨bs, r2⟩ := Dp.reads I f y u (dt_dp kk rh _ _ _ e2 rb) ry
      have m1 := Nat.min_le_left d.depth f.depth
      have m2 := Nat.min_le_right d.depth f.depth
      exact SeqAt.compareEq_reads r1 r2 hc.1 hc.2.1 (by rcases hc.2.2 with z | z <;> omega) ⟨.bl _, H, I, rfl, KQ.here ho rh rfl⟩
    · cases e
  | isin => exact sound_in kk (by omega) pins s σ H x y v u Q I rx ry ⟨h, a, b, rh, ra, rb, w⟩
  | notin => exact sound_notin kk (by omega) pins s σ H x y v u Q I rx ry ⟨h, a, b, rh, ra, rb, w⟩
  | eq =>
    obtain ⟨⟨c, out⟩, e, hc, ho⟩ := optW_ex w
    unfold cmpR at e; dsimp only at e
    split at e
    · cases e; cases ra; cases rb
      exact op_eq pins s σ H _ _ v u Q I rx ry ⟨rfl, by rw [decV_int]; exact KQ.here ho rh rfl⟩
    · cases e; cases ra; cases rb
      exact op_eq pins s σ H _ _ v u Q I rx ry ⟨rfl, by rw [decV_str]; exact KQ.here ho rh rfl⟩
    · exact sound_eqd kk (by omega) pins s σ H _ _ v u Q I rx ry ⟨h, _, _, rh, ra, rb, by unfold prW; rw [e]; exact ⟨hc, ho⟩⟩
  | ne =>
    obtain ⟨⟨c, out⟩, e, hc, ho⟩ := optW_ex w
    unfold cmpR at e; dsimp only at e
    split at e
    · cases e; cases ra; cases rb
      exact op_ne pins s σ H _ _ v u Q I rx ry ⟨rfl, by rw [decV_int]; exact KQ.here ho rh rfl⟩
    · cases e; cases ra; cases rb
      exact op_ne pins s σ H _ _ v u Q I rx ry ⟨rfl, by rw [decV_str]; exact KQ.here ho rh rfl⟩
    · exact sound_ned kk (by omega) pins s σ H _ _ v u Q I rx ry ⟨h, _, _, rh, ra, rb, by unfold prW; rw [e]; exact ⟨hc, ho⟩⟩
  | lt =>
    obtain ⟨⟨c, out⟩, e, hc, ho⟩ := optW_ex w
    unfold cmpR at e; dsimp only at e
    split at e
    · cases e; cases ra; cases rb
      exact op_lt pins s σ H _ _ v u Q I rx ry ⟨_, _, rfl, rfl, KQ.here ho rh rfl⟩
    · unfold ordR at e
      split at e
      · rename_i d f e1 e2
        cases e
        obtain ⟨as, r1⟩ := Dp.reads I d x v (dt_dp kk rh _ _ _ e1 ra) rx
        obtain ⟨bs, r2⟩ := Dp.reads I f y u (dt_dp kk rh _ _ _ e2 rb) ry
        exact lt_data r1 r2 hc.1 hc.2.1 (shp_room hc.2.2.1 hu) ⟨.bl _, H, I, rfl, KQ.here ho rh rfl⟩
      · cases e
  | le =>
    obtain ⟨⟨c, out⟩, e, hc, ho⟩ := optW_ex w
    unfold cmpR at e; dsimp only at e
    split at e
    · cases e; cases ra; cases rb
      exact op_le pins s σ H _ _ v u Q I rx ry ⟨_, _, rfl, rfl, KQ.here ho rh rfl⟩
    · unfold ordR at e
      split at e
      · rename_i d f e1 e2
        cases e
        obtain ⟨as, r1⟩ := Dp.reads I d x v (dt_dp kk rh _ _ _ e1 ra) rx
        obtain ⟨bs, r2⟩ := Dp.reads I f y u (dt_dp kk rh _ _ _ e2 rb) ry
        exact le_data r1 r2 hc.1 hc.2.1 (shp_room hc.2.2.1 hu) ⟨.bl _, H, I, rfl, KQ.here ho rh rfl⟩
      · cases e
  | gt =>
    obtain ⟨⟨c, out⟩, e, hc, ho⟩ := optW_ex w
    unfold cmpR at e; dsimp only at e
    split at e
    · cases e; cases ra; cases rb
      exact op_gt pins s σ H _ _ v u Q I rx ry ⟨_, _, rfl, rfl, KQ.here ho rh rfl⟩
    · unfold ordR at e
      split at e
      · rename_i d f e1 e2
        cases e
        obtain ⟨as, r1⟩ := Dp.reads I d x v (dt_dp kk rh _ _ _ e1 ra) rx
        obtain ⟨bs, r2⟩ := Dp.reads I f y u (dt_dp kk rh _ _ _ e2 rb) ry
        exact gt_data r1 r2 hc.1 hc.2.1 (shp_room hc.2.2.1 hu) ⟨.bl _, H, I, rfl, KQ.here ho rh rfl⟩
      · cases e
  | ge =>
    obtain ⟨⟨c, out⟩, e, hc, ho⟩ := optW_ex w
    unfold cmpR at e; dsimp only at e
    split at e
    · cases e; cases ra; cases rb
      exact op_ge pins s σ H _ _ v u Q I rx ry ⟨_, _, rfl, rfl, KQ.here ho rh rfl⟩
    · unfold ordR at e
      split at e
      · rename_i d f e1 e2
        cases e
        obtain ⟨as, r1⟩ := Dp.reads I d x v (dt_dp kk rh _ _ _ e1 ra) rx
        obtain ⟨bs, r2⟩ := Dp.reads I f y u (dt_dp kk rh _ _ _ e2 rb) ry
        exact ge_data r1 r2 hc.1 hc.2.1 (shp_room hc.2.2.1 hu) ⟨.bl _, H, I, rfl, KQ.here ho rh rfl⟩
      · cases e
  | is =>
    obtain ⟨⟨c, out⟩, e, hc, ho⟩ := optW_ex w
    unfold cmpR at e; dsimp only at e
    split at e
    · cases e; cases rb
      exact op_isN pins s σ H _ _ v u Q I rx ry ⟨rfl, by rw [isN_is ra]; exact KQ.here ho rh rfl⟩
    · cases e
      cases rb
      rcases isBV_read ra rx with ⟨a', rfl⟩ | ⟨ek, n1, n2⟩
      · cases ra
        exact op_isBl pins s σ H _ _ v u Q I rx ry ⟨_, _, rfl, rfl, KQ.here ho rh rfl⟩
      · cases (show u = Value.bool _ from ry)
        have ho := KQ.here ho rh (show RV h H (Val.bl (isBV a _)) (V.bl (isBV a _)) from rfl)
        rw [ek] at ho
        exact PySem.wpAny_is_other (n1 _) (n2 _) ⟨.bl _, H, I, rfl, ho⟩
    · cases e
  | isnot =>
    obtain ⟨⟨c, out⟩, e, hc, ho⟩ := optW_ex w
    unfold cmpR at e; dsimp only at e
    split at e
    · cases e; cases rb
      exact op_notN pins s σ H _ _ v u Q I rx ry ⟨rfl, by rw [isN_is ra]; exact KQ.here ho rh rfl⟩
    · cases e
      cases rb
      rcases isBV_read ra rx with ⟨a', rfl⟩ | ⟨ek, n1, n2⟩
      · cases ra
        exact op_notBl pins s σ H _ _ v u Q I rx ry ⟨_, _, rfl, rfl, KQ.here ho rh rfl⟩
      · cases (show u = Value.bool _ from ry)
        have ho := KQ.here ho rh (show RV h H (Val.bl (!isBV a _)) (V.bl (!isBV a _)) from rfl)
        rw [ek] at ho
        exact PySem.wpAny_isNot_other (n1 _) (n2 _) ⟨.bl _, H, I, rfl, ho⟩
    · cases e

/-! ### truth -/
omit kk in
theorem isEmpty_len {α β : Type} {xs : List α} {ys : List β} (e : xs.length = ys.length) : xs.isEmpty = ys.isEmpty := by
  cases xs <;> cases ys <;> first | rfl | (simp at e)
omit kk in
theorem sound_tru {h : Hq} {H : Hp} {a : Val} {x : V} {k : Bool} (K : PySem.W.Frag) (kk : K = Mo.K) (rh : RH h H) (ra : RV h H a x) (e : truR a h = some k) : TruV K x H k := by
  have seq : ∀ {xs : List Val}, sq h a = some xs → (!xs.isEmpty) = k → TruV K x H k := fun {xs} e1 e2 => by
    obtain ⟨p, vs, q1, q2, q3⟩ := sq_read (K := K) kk rh ra e1
    subst q1
    rw [isEmpty_len q3.length] at e2
    rcases q2 with q2 | q2
    · exact .inl ⟨vs, q2, e2.symm⟩
    · exact .inr (.inl ⟨vs, q2, e2.symm⟩)
  cases a with
  | non => cases e; cases ra; rfl
  | bl b => cases e; cases ra; rfl
  | int i => cases e; cases ra; rfl
  | str s => cases e
  | tup b => obtain ⟨xs, e1, e2⟩ := Option.map_eq_some_iff.mp (show (sq h (.tup b)).map (fun xs => !xs.isEmpty) = some k from e); exact seq e1 e2
  | fl b => obtain ⟨xs, e1, e2⟩ := Option.map_eq_some_iff.mp (show (sq h (.fl b)).map (fun xs => !xs.isEmpty) = some k from e); exact seq e1 e2
  | sc b => obtain ⟨xs, e1, e2⟩ := Option.map_eq_some_iff.mp (show (sq h (.sc b)).map (fun xs => !xs.isEmpty) = some k from e); exact seq e1 e2
  | ref b => obtain ⟨xs, e1, e2⟩ := Option.map_eq_some_iff.mp (show (sq h (.ref b)).map (fun xs => !xs.isEmpty) = some k from e); exact seq e1 e2
  | fd ks b => cases e
  | wd ks b => cases e
  | exc c => cases e
  | clo g ws => cases e

/-! ### places, slices -/
omit kk in
theorem atI_some {h : Hq} {H : Hp} {xs : List Val} {vs : List V} {i : Int} {v : Val} (r : RVs h H xs vs) (e : atI xs i = some v) : ∃ x, atI vs i = some x ∧ RV h H v x := by
  unfold atI at *
  rw [r.length] at e
  cases q : ixN vs.length i with
  | none => rw [q] at e; cases e
  | some k =>
    rw [q] at e
    exact r.get e
omit kk [Mo] in
theorem ix_dict (hu : X.A.units + 1 < cLine) : IxR X (fun x y H Q => ∃ a v, x = .ref a ∧ DGet H a y (some v) ∧ Q v H) := by
  intro value slice pins s σ H x y v u Q I rx ry ⟨a, w, ex, g, q⟩ hs
  subst ex
  obtain rfl : v = Value.ref a := rx
  exact tail_any (dict_typeIs I g) PySem.F.slot_dict_getitem.lookup (d_getItem hu I g ry fun w' s' I' rw' => ⟨w, H, I', rw', q⟩) hs
theorem sound_idx {x y : V} {H : Hp} {Q : VK} (q : R2x idxR x y H Q) : rIx X.K x y H Q ∨ ∃ a v, x = .ref a ∧ DGet H a y (some v) ∧ Q v H := by
  obtain ⟨h, a, b, rh, ra, rb, w⟩ := q
  obtain ⟨⟨c, out⟩, e, hc, ho⟩ := optW_ex w
  unfold idxR at e
  split at e
  · rename_i kvs e1
    obtain ⟨k, e2, e3⟩ := Option.bind_eq_some_iff.mp e
    obtain ⟨v, e4, e5⟩ := Option.map_eq_some_iff.mp e3
    cases e5
    obtain ⟨p, us, q1, q2, q3⟩ := dr_read rh ra e1
    obtain rfl := key_read rb e2
    rcases q3.get (k := k) with ⟨z1, _⟩ | ⟨v', z, z1, z2, z3⟩
    · rw [z1] at e4; cases e4
    · rw [z1] at e4; cases e4
      exact .inr ⟨p, z, q1, z2 ▸ DGet.k' q2, KQ.here ho rh z3⟩
  left
  split at e
  · rename_i i
    split at e
    · rename_i z0 _
      obtain ⟨c, e1, e2⟩ := Option.map_eq_some_iff.mp e
      cases e2
      cases ra; cases rb
      exact .inr (.inr ⟨z0, i, c, rfl, rfl, len_ok hc, e1, KQ.here ho rh rfl⟩)
    obtain ⟨v, e1, e2⟩ := Option.map_eq_some_iff.mp e
    obtain ⟨xs, e3, e4⟩ := Option.bind_eq_some_iff.mp e1
    cases e2
    obtain ⟨p, vs, q1, q2, q3⟩ := sq_read (K := X.K) kk rh ra e3
    obtain ⟨z, e5, r5⟩ := atI_some q3 e4
    rcases q2 with q2 | q2
    · exact .inl ⟨p, vs, i, z, q1, rb, q2, e5, KQ.here ho rh r5⟩
    · exact .inr (.inl ⟨p, vs, i, z, q1, rb, q2, e5, KQ.here ho rh r5⟩)
  · cases e
omit kk in
theorem cut_read {h : Hq} {H : Hp} {xs : List Val} {vs : List V} {lo hi : Option Int} (r : RVs h H xs vs) : RVs h H (cutL xs lo hi) (cutV vs lo hi) := by
  unfold cutL cutV
  rw [r.length]
  exact (r.drop _).take _
def rSlE (K : PySem.W.Frag) : V → Option Int → Option Int → Hp → VK → Prop := fun x lo hi H Q => rSlL K x lo hi H Q ∨ rSlA K x lo hi H Q ∨ rSlS x lo hi H Q
omit kk in
theorem sl_E : SlR X (rSlE X.K) := by
  intro pins s σ H x v vl vu lo hi sl Q I rx hs pl pu h
  rcases h with h | h | h
  · exact sl_list pins s σ H x v vl vu lo hi sl Q I rx hs pl pu h
  · exact sl_tupA pins s σ H x v vl vu lo hi sl Q I rx hs pl pu h
  · exact sl_str pins s σ H x v vl vu lo hi sl Q I rx hs pl pu h
theorem sound_slc {fz : Bool} {x : V} {lo hi : Option Int} {H : Hp} {Q : VK} {h : Hq} {a : Val} (rh : RH h H) (ra : RV h H a x) (w : prW (slcR fz a lo hi h) (KQ h H Q)) : rSlE X.K x lo hi H Q := by
  obtain ⟨⟨c, out⟩, e, hc, ho⟩ := optW_ex w
  unfold slcR at e
  split at e
  · rename_i xs
    cases e
    have ra' := ra
    obtain ⟨p, vs, q1, n1, q2, q3⟩ := ra
    refine .inr (.inl ⟨p, vs, q1, SqT.of q2, fun z => ?_, fun z q nq => ?_⟩)
    · have : cutL xs lo hi = xs := by
        unfold cutL
        rw [q3.length, z.1, z.2, List.drop_zero, Nat.sub_zero, ← q3.length, List.take_length]
      subst q1
      have ho' : KQ h H Q (.tup (cutL xs lo hi)) h := ho
      rw [this] at ho'
      exact KQ.here ho' rh ra'
    · have k := Stab.alloc (h := h) (o := .tup (cutV vs lo hi)) nq
      exact (show KQ h H Q (.tup (cutL xs lo hi)) h from ho) _ _ (rh.alloc nq) k ⟨q, _, rfl, rh.free nq, upd_same, RVs.keep k (cut_read q3)⟩
  · rename_i s0
    cases e
    cases ra
    exact .inr (.inr ⟨s0, rfl, len_ok hc, KQ.here ho rh rfl⟩)
  · obtain ⟨xs, e1, e2⟩ := Option.map_eq_some_iff.mp e
    cases e2
    obtain ⟨p, vs, q1, q2, q3⟩ := ls_read (K := X.K) kk rh ra e1
    exact .inl ⟨p, vs, q1, q2, out_list rh (cut_read q3) ho⟩

/-! ### built-ins -/
omit kk in
theorem maxL_mem : ∀ ns : List Int, ns ≠ [] → maxL ns ∈ ns ∧ ∀ y ∈ ns, y ≤ maxL ns
  | [], h => absurd rfl h
  | [x], _ => ⟨by simp [maxL], fun y hy => by simp at hy; subst hy; exact Int.le_refl _⟩
  | x :: y :: r, _ => by
    obtain ⟨h1, h2⟩ := maxL_mem (y :: r) (by simp)
    show max x (maxL (y :: r)) ∈ x :: y :: r ∧ ∀ z ∈ x :: y :: r, z ≤ max x (maxL (y :: r))
    refine ⟨?_, fun z hz => ?_⟩
    · rcases Int.le_total x (maxL (y :: r)) with e | e
      · rw [Int.max_eq_right e]; exact List.mem_cons_of_mem _ h1
      · rw [Int.max_eq_left e]; exact List.mem_cons_self
    · rcases List.mem_cons.mp hz with e | e
      · subst e; exact Int.le_max_left _ _
      · exact Int.le_trans (h2 z e) (Int.le_max_right _ _)
omit kk in
theorem minL_mem : ∀ ns : List Int, ns ≠ [] → minL ns ∈ ns ∧ ∀ y ∈ ns, minL ns ≤ y
  | [], h => absurd rfl h
  | [x], _ => ⟨by simp [minL], fun y hy => by simp at hy; subst hy; exact Int.le_refl _⟩
  | x :: y :: r, _ => by
    obtain ⟨h1, h2⟩ := minL_mem (y :: r) (by simp)
    show min x (minL (y :: r)) ∈ x :: y :: r ∧ ∀ z ∈ x :: y :: r, min x (minL (y :: r)) ≤ z
    refine ⟨?_, fun z hz => ?_⟩
    · rcases Int.le_total x (minL (y :: r)) with e | e
      · rw [Int.min_eq_left e]; exact List.mem_cons_self
      · rw [Int.min_eq_right e]; exact List.mem_cons_of_mem _ h1
    · rcases List.mem_cons.mp hz with e | e
      · subst e; exact Int.min_le_left _ _
      · exact Int.le_trans (Int.min_le_right _ _) (h2 z e)
omit kk in
theorem sortI_perm (ns : List Int) : (sortI ns).Perm ns := List.mergeSort_perm _ _
omit kk in
theorem sortI_sorted (ns : List Int) : (sortI ns).Pairwise (· ≤ ·) := by
  have := List.pairwise_mergeSort (le := fun (a b : Int) => decide (a ≤ b)) (fun a b c h1 h2 => by simp at *; omega) (fun a b => by simp; omega) ns
  exact this.imp (fun h => by simpa using h)
omit kk in
theorem sorted_uniq : ∀ {as bs : List Int}, as.Perm bs → as.Pairwise (· ≤ ·) → bs.Pairwise (· ≤ ·) → as = bs
  | as, bs, p, h1, h2 => List.Perm.eq_of_pairwise (le := (· ≤ ·)) (fun a b _ _ h h' => Int.le_antisymm h h') h1 h2 p
/-- the names of the built-in kinds -/
def tyN : Ty → String | .int => "int" | .bool => "bool" | .str => "str" | .list => "list" | .tuple => "tuple" | .dict => "dict"
def Bl.nm : Bl → Str
  | .len => "len" | .abs => "abs" | .max => "max" | .min => "min" | .sum => "sum" | .any => "any" | .all => "all" | .sorted => "sorted" | .list => "list" | .tuple => "tuple" | .int => "int" | .str => "str" | .isi _ => "isinstance"
def Bl.val : Bl → Value
  | .len => .builtin "len" | .abs => .builtin "abs" | .max => .builtin "max" | .min => .builtin "min" | .sum => .builtin "sum" | .any => .builtin "any" | .all => .builtin "all" | .sorted => .builtin "sorted" | .list => .type "list" | .tuple => .type "tuple" | .int => .type "int" | .str => .type "str" | .isi _ => .builtin "isinstance"
def RLx (f : List Val → Hq → Pr) : List V → Hp → VK → Prop := fun xs H Q => ∃ h vs, RH h H ∧ RVs h H vs xs ∧ prW (f vs h) (KQ h H Q)
omit kk in
theorem rvs1 {h : Hq} {H : Hp} {a : Val} {xs : List V} (r : RVs h H [a] xs) : ∃ x, xs = [x] ∧ RV h H a x := by
  obtain ⟨y, t, e, r1, r2⟩ := r
  have : t = [] := r2
  subst this
  exact ⟨y, e, r1⟩
omit kk in
theorem rvs2 {h : Hq} {H : Hp} {a b : Val} {xs : List V} (r : RVs h H [a, b] xs) : ∃ x y, xs = [x, y] ∧ RV h H a x ∧ RV h H b y := by
  obtain ⟨y, t, e, r1, r2⟩ := r
  obtain ⟨z, e2, r3⟩ := rvs1 r2
  subst e2
  exact ⟨y, z, e, r1, r3⟩
omit kk in
theorem mapO_map' {α β γ : Type} {f : α → Option β} {g : β → α} (hf : ∀ a b, f a = some b → a = g b) : ∀ {xs : List α} {ys : List β}, mapO f xs = some ys → xs = ys.map g
  | [], _, e => by cases e; rfl
  | x :: xs, _, e => by
    unfold mapO at e
    split at e
    · rename_i y ys e1 e2
      cases e
      rw [List.map_cons, ← hf _ _ e1, ← mapO_map' (γ := γ) hf e2]
    · cases e
omit kk in
theorem intOf_inv (a : Val) (b : Int) (e : intOf a = some b) : a = .int b := by cases a <;> first | (cases e; done) | (cases e; rfl)
omit kk in
theorem tupI_inv (a : Val) (b : List Int) (e : tupI a = some b) : a = .tup (b.map .int) := by
  cases a <;> first | (cases e; done) | skip
  exact congrArg Val.tup (mapO_map' (γ := Int) (f := intOf) (g := Val.int) intOf_inv e)
omit kk in
theorem pds_intsE : ∀ ns : List Int, pds (ns.map .int) = some (ns.map .int)
  | [] => rfl
  | n :: ns => by rw [List.map_cons, pds, pds_intsE ns]; rfl
omit kk in
theorem pds_tupsE : ∀ L : List (List Int), pds (L.map fun ns => Val.tup (ns.map .int)) = some (L.map fun ns => PyData.tuple (ns.map .int))
  | [] => rfl
  | n :: ns => by rw [List.map_cons, pds, pds_tupsE ns, pd, pds_intsE n]; rfl
omit kk in
theorem depth_tups : ∀ L : List (List Int), PyData.depthAll (L.map fun ns => PyData.tuple (ns.map .int)) ≤ 1
  | [] => by simp [PyData.depthAll]
  | n :: ns => by
    rw [List.map_cons, PyData.depthAll, PyData.depth, PySem.W.depth_ints n]
    have := depth_tups ns
    omega
omit kk in
theorem maxD_tups (l : List Int) : ∀ L : List (List Int), maxD (.tuple (l.map .int)) (L.map fun ns => PyData.tuple (ns.map .int)) = .tuple ((bestL l L).map .int) := by
  intro L
  induction L generalizing l with
  | nil => rfl
  | cons n L ih =>
    have : dataLt (.tuple (l.map .int)) (.tuple (n.map .int)) = decide (l < n) := by rw [dataLt_tuple]; exact dataLt_ints l n
    unfold maxD bestL
    rw [List.map_cons, List.foldl_cons, List.foldl_cons, this]
    by_cases c : l < n
    · rw [if_pos c, decide_eq_true c]; exact ih n
    · rw [if_neg c, decide_eq_false c]; exact ih l
omit kk in
theorem tup_inj {a b : List Int} (e : PyData.tuple (a.map .int) = .tuple (b.map .int)) : a = b := by
  have : ∀ {a b : List Int}, a.map PyData.int = b.map PyData.int → a = b := by
    intro a
    induction a with
    | nil => intro b h; cases b <;> first | rfl | cases h
    | cons x a ih =>
      intro b h
      cases b with
      | nil => cases h
      | cons y b =>
        rw [List.map_cons, List.map_cons, List.cons.injEq] at h
        rw [PyData.int.inj h.1, ih h.2]
  exact this (PyData.tuple.inj e)
omit kk in
theorem vals_get' : ∀ {vs : List V} {us : List Value} {i : Nat} {u : Value}, Vals vs us → us[i]? = some u → ∃ x, vs[i]? = some x ∧ RelV x u
  | _, _, i, u, .nil, e => by simp at e
  | _, _, 0, u, .cons r t, e => by simp at e; subst e; exact ⟨_, rfl, r⟩
  | _, _, i + 1, u, .cons r t, e => by
    obtain ⟨x, h1, h2⟩ := vals_get' (i := i) (u := u) t (by simpa using e)
    exact ⟨x, by simpa using h1, h2⟩
theorem max_tups {pins : List (Addr × Obj)} {σ : L2.St} {H : Hp} {s : Shared} {us : List Value} {Q : VK} {h : Hq} {p : Addr} {xs : List Val} {ws : List V} {c : Prop} {out : Out} (hc : X.calm = true) (hu : X.A.units + 70 < cLine)
    (I : Inv X pins σ H s) (r : Vals [V.ref p] us) (rh : RH h H) (q2 : H p = some (.lst ws)) (q3 : RVs h H xs ws) (e : mxD xs h = some (c, out)) (hcc : c) (ho : Out.w (KQ h H Q) out) :
    wpAny (model X.prog X.w) X.A (PySem.call (.builtin "max") us) (EP X pins σ Q) X.xe s := by
  unfold mxD at e
  split at e
  · rename_i l L e1
    cases e
    have ex : xs = (l :: L).map fun ns => Val.tup (ns.map .int) := mapO_map' (γ := Int) tupI_inv e1
    obtain ⟨its, rv, hl, hz⟩ := I.list (SqL.of (K := X.K) q2)
    rw [Vals.ref1 r]
    have dp : DpAll X.K H ws ((l :: L).map fun ns => PyData.tuple (ns.map .int)) := pds_dp kk _ _ _ (by rw [ex]; exact pds_tupsE _) q3
    obtain ⟨as, rd⟩ := Dp.readsAll I _ ws its dp rv
    have al : ∀ a b : List Int, alike (.tuple (a.map .int)) (.tuple (b.map .int)) = true := fun a b => by unfold alike; exact PySem.W.alike_ints a b
    refine max_list_data (vs := its.toArray) (I.ok.hd hc) hl.isList (x := .tuple (l.map .int)) (xs := L.map fun ns => PyData.tuple (ns.map .int)) (as := as) (by simpa using rd) ⟨?_, ?_⟩ ?_ ?_
    · intro x hx y hy
      rw [← List.map_cons (f := fun ns : List Int => PyData.tuple (ns.map .int))] at hx hy
      obtain ⟨a, _, rfl⟩ := List.mem_map.mp hx
      obtain ⟨b, _, rfl⟩ := List.mem_map.mp hy
      exact al a b
    · intro x hx
      rw [← List.map_cons (f := fun ns : List Int => PyData.tuple (ns.map .int))] at hx
      obtain ⟨a, _, rfl⟩ := List.mem_map.mp hx
      intro z; cases z
    · have := depth_tups (l :: L)
      rw [List.map_cons] at this
      omega
    · intro i v h' tk bs hv rd' kp
      obtain ⟨x, hx, rx⟩ := vals_get' rv (show its[i]? = some v by simpa using hv)
      obtain ⟨y, hy, ry⟩ := q3.get' hx
      rw [ex, List.getElem?_map] at hy
      obtain ⟨n, hn, rfl⟩ := Option.map_eq_some_iff.mp hy
      obtain ⟨as', rd2⟩ := Dp.reads I (.tuple (n.map .int)) x v (pd_dp kk _ _ _ (by rw [pd, pds_intsE]; rfl) ry) rx
      rw [maxD_tups] at rd'
      have eq := alike_unique _ _ _ _ _ (al n (bestL l L)) (PyProof.Rows.Reads.keeps kp rd2) rd'
      obtain rfl := tup_inj eq
      exact ⟨x, H, I.kept kp, rx, KQ.here ho rh ry⟩
  · cases e
omit kk in
theorem each_of {h : Hq} {H : Hp} : ∀ {xs : List Val} {ws : List V} {its : List Value}, RVs h H xs ws → Vals ws its → EachIs (fun u w => ∃ x, RelV x u ∧ RV h H w x) its xs
  | [], _, _, r, v => by cases r; cases v; exact .nil
  | w :: xs, _, _, ⟨y, t, e, r1, r2⟩, v => by
    subst e
    cases v with
    | cons v1 v2 => exact .cons ⟨y, v1, r1⟩ (each_of r2 v2)
omit kk in
theorem each_back {h : Hq} {H : Hp} : ∀ {xs : List Val} {its : List Value}, EachIs (fun u w => ∃ x, RelV x u ∧ RV h H w x) its xs → ∃ ws, RVs h H xs ws ∧ Vals ws its
  | _, _, .nil => ⟨[], .nil, .nil⟩
  | _, _, .cons ⟨x, r1, r2⟩ t => by
    obtain ⟨ws, q1, q2⟩ := each_back t
    exact ⟨x :: ws, .cons r2 q1, .cons r1 q2⟩
theorem each_reads {pins : List (Addr × Obj)} {σ : L2.St} {H : Hp} {s : Shared} {h : Hq} (I : Inv X pins σ H s) (rh : RH h H) : ∀ {xs : List Val} {ds : List PyData} {its : List Value}, mapO (dt1 h) xs = some ds → EachIs (fun u w => ∃ x, RelV x u ∧ RV h H w x) its xs → EachIs (fun u w => ∃ as, Reads s.heap u (dtD h w) as) its xs
  | _, _, _, _, .nil => .nil
  | x :: xs, _, _, e, .cons ⟨y, r1, r2⟩ t => by
    unfold mapO at e
    split at e
    · rename_i d ds e1 e2
      refine .cons ?_ (each_reads I rh e2 t)
      unfold dtD
      rw [e1]
      exact Dp.reads I d y _ (dt1_dp kk rh _ _ _ e1 r2) r1
    · cases e
omit kk in
theorem mapO_dtD {h : Hq} : ∀ {xs : List Val} {ds : List PyData}, mapO (dt1 h) xs = some ds → ds = xs.map (dtD h)
  | [], _, e => by cases e; rfl
  | x :: xs, _, e => by
    unfold mapO at e
    split at e
    · rename_i d ds e1 e2
      cases e
      rw [List.map_cons, ← mapO_dtD e2]
      unfold dtD
      rw [e1]; rfl
    · cases e
omit kk in
theorem keyI_map : ∀ {xs : List Key} {ks : List Int}, mapO keyI xs = some ks → xs = ks.map Sum.inl
  | [], _, e => by cases e; rfl
  | x :: xs, _, e => by
    unfold mapO at e
    split at e
    · rename_i k ks e1 e2
      cases e
      rw [List.map_cons, ← keyI_map e2]
      cases x with
      | inl i => cases e1; rfl
      | inr i => cases e1
    · cases e
omit kk in
theorem call_lenD' : CallR X (.builtin "len") (fun xs H Q => ∃ a kvs, xs = [V.ref a] ∧ Rd H a (.dK kvs) ∧ Q (.int kvs.length) H) := by
  intro pins s σ H xs us Q I r h
  obtain ⟨a, kvs, rfl, ha, q⟩ := h
  obtain ⟨u, rfl, ru⟩ := vals1 r
  cases ru
  exact d_len I ha fun t s' I' => ⟨.int kvs.length, H, I', ⟨t, rfl⟩, q⟩
theorem sorted_tups {pins : List (Addr × Obj)} {σ : L2.St} {H : Hp} {s : Shared} {us : List Value} {Q : VK} {h : Hq} {fz : Bool} {p : Addr} {xs : List Val} {ws : List V} {ds : List PyData} (hu : X.A.units + 70 < cLine)
    (I : Inv X pins σ H s) (r : Vals [V.ref p] us) (rh : RH h H) (q2 : SqL X.K H p ws) (q3 : RVs h H xs ws) (e : mapO (dt1 h) xs = some ds) (ha : AllAlike ds) (hk : Sortable ds) (hs : shp ds) (ho : Out.w (KQ h H Q) (.al fz (xs.mergeSort (dataLe false (dtD h))) h)) :
    wpAny (model X.prog X.w) X.A (PySem.call (.builtin "sorted") us) (EP X pins σ Q) X.xe s := by
  obtain ⟨its, rv, hl, hz⟩ := I.list q2
  rw [Vals.ref1 r]
  have ed := mapO_dtD e
  subst ed
  have ea := each_of q3 rv
  have hlen : xs.length ≤ sizeLine := by rw [q3.length]; exact hz
  refine sorted_data (R := fun u w => ∃ x, RelV x u ∧ RV h H w x) (enc := dtD h) (bs := xs) hl.isList ea (each_reads kk I rh e ea) ha hk hlen (fun b hb => ?_) fun out h1 h2 => ?_
  · have := shp_depth (hs _ (List.mem_map.mpr ⟨b, hb, rfl⟩))
    omega
  · obtain ⟨vs, k1, k2⟩ := each_back h2
    obtain ⟨ep, he'⟩ := PyProof.Rows.sortedAll_at s.heap its out.toArray
    have hl2 : vs.length ≤ sizeLine := by rw [← k1.length, List.length_mergeSort]; exact hlen
    exact ⟨.ref _, upd H (s.heap.objs.size + 1) (.lst vs), I.laid (t' := s.toks) (fun _ _ => PyProof.Rows.sortedAll_old) (Nat.le_succ _) ⟨hl2, out, ep, k2, he'⟩, rfl, out_list rh k1 ho _ (I.hok.fresh (Nat.le_succ _))⟩
theorem sound_blt (hc : X.calm = true) (hu : X.A.units + 70 < cLine) {b : Bl} {fz : Bool} (hb : ∀ ts, b ≠ .isi ts) : CallR X b.val (RLx (bltR b fz)) := by
  intro pins s σ H xs us Q I r ⟨h, vs, rh, rv, w⟩
  obtain ⟨⟨c, out⟩, e, hcc, ho⟩ := optW_ex w
  cases b with
  | isi ts => exact absurd rfl (hb ts)
  | str =>
    unfold bltR at e; dsimp only at e
    split at e
    · cases e
      obtain ⟨x, q0, r1⟩ := rvs1 rv
      cases r1; subst q0
      exact call_str_int pins s σ H _ us Q I r ⟨_, rfl, hcc, KQ.here ho rh rfl⟩
    · cases e
      obtain ⟨x, q0, r1⟩ := rvs1 rv
      cases r1; subst q0
      exact SkE.call_str_str pins s σ H _ us Q I r ⟨_, rfl, KQ.here ho rh rfl⟩
    · cases e
  | len =>
    unfold bltR at e; dsimp only at e
    split at e
    · split at e
      · rename_i ys e1
        cases e
        obtain ⟨x, q0, r1⟩ := rvs1 rv
        obtain ⟨p, ws, q1, q2, q3⟩ := sq_read (K := X.K) kk rh r1 e1
        subst q0 q1
        exact call_len_seq pins s σ H _ us Q I r ⟨p, ws, rfl, q2, by rw [← q3.length]; exact KQ.here ho rh rfl⟩
      · split at e
        · rename_i kvs e1
          cases e
          obtain ⟨x, q0, r1⟩ := rvs1 rv
          obtain ⟨p, ws, q1, q2, q3⟩ := dr_read rh r1 e1
          subst q0 q1
          have hl : ws.length = kvs.length := by have := q3.length; omega
          exact call_lenD' pins s σ H _ us Q I r ⟨p, ws, rfl, q2, by rw [hl]; exact KQ.here ho rh rfl⟩
        · obtain ⟨s0, e1, e2⟩ := Option.map_eq_some_iff.mp e
          cases e2
          obtain ⟨x, q0, r1⟩ := rvs1 rv
          obtain rfl := stO_read r1 e1
          subst q0
          exact call_len_str pins s σ H _ us Q I r ⟨_, rfl, len_ok hcc, KQ.here ho rh rfl⟩
    · cases e
  | abs =>
    unfold bltR at e; dsimp only at e
    split at e
    · cases e
      obtain ⟨x, q0, r1⟩ := rvs1 rv
      cases r1; subst q0
      exact call_abs pins s σ H _ us Q I r ⟨_, rfl, KQ.here ho rh rfl⟩
    · cases e
  | max =>
    unfold bltR at e; dsimp only at e
    split at e
    · cases e
      obtain ⟨x, y, q0, r1, r2⟩ := rvs2 rv
      cases r1; cases r2; subst q0
      exact call_max2 hc pins s σ H _ us Q I r ⟨_, _, rfl, KQ.here ho rh rfl⟩
    · split at e
      · rename_i ns e1
        cases e
        obtain ⟨ys, e3, e4⟩ := Option.bind_eq_some_iff.mp e1
        obtain ⟨x, q0, r1⟩ := rvs1 rv
        obtain ⟨p, ws, q1, q2, q3⟩ := ls_read (K := X.K) kk rh r1 e3
        obtain rfl := RVs.ints' q3 e4
        subst q0 q1
        obtain ⟨m1, m2⟩ := maxL_mem ns hcc
        refine cr_max hc pins s σ H _ us Q I r ⟨p, ns, rfl, q2, List.length_pos_iff.mpr hcc, fun m h1 h2 => ?_⟩
        rw [show m = maxL ns from Int.le_antisymm (m2 m h1) (h2 _ m1)]
        exact KQ.here ho rh rfl
      · obtain ⟨ys, e3, e4⟩ := Option.bind_eq_some_iff.mp e
        obtain ⟨x, q0, r1⟩ := rvs1 rv
        obtain ⟨p, ws, q1, q2, q3⟩ := lv_read rh r1 e3
        subst q0 q1
        exact max_tups kk hc hu I r rh q2 q3 e4 hcc ho
    · cases e
  | min =>
    unfold bltR at e; dsimp only at e
    split at e
    · cases e
      obtain ⟨x, y, q0, r1, r2⟩ := rvs2 rv
      cases r1; cases r2; subst q0
      exact call_min2 hc pins s σ H _ us Q I r ⟨_, _, rfl, KQ.here ho rh rfl⟩
    · obtain ⟨ns, e1, e2⟩ := Option.map_eq_some_iff.mp e
      cases e2
      obtain ⟨ys, e3, e4⟩ := Option.bind_eq_some_iff.mp e1
      obtain ⟨x, q0, r1⟩ := rvs1 rv
      obtain ⟨p, ws, q1, q2, q3⟩ := ls_read (K := X.K) kk rh r1 e3
      obtain rfl := RVs.ints' q3 e4
      subst q0 q1
      obtain ⟨m1, m2⟩ := minL_mem ns hcc
      refine cr_min hc pins s σ H _ us Q I r ⟨p, ns, rfl, q2, List.length_pos_iff.mpr hcc, fun m h1 h2 => ?_⟩
      rw [show m = minL ns from Int.le_antisymm (h2 _ m1) (m2 m h1)]
      exact KQ.here ho rh rfl
    · cases e
  | sum =>
    unfold bltR at e; dsimp only at e
    split at e
    · obtain ⟨ns, e1, e2⟩ := Option.map_eq_some_iff.mp e
      cases e2
      obtain ⟨ys, e3, e4⟩ := Option.bind_eq_some_iff.mp e1
      obtain ⟨x, q0, r1⟩ := rvs1 rv
      obtain ⟨p, ws, q1, q2, q3⟩ := ls_read (K := X.K) kk rh r1 e3
      obtain rfl := RVs.ints' q3 e4
      subst q0 q1
      exact cr_sum hc pins s σ H _ us Q I r ⟨p, ns, rfl, q2, KQ.here ho rh rfl⟩
    · cases e
  | any =>
    unfold bltR at e; dsimp only at e
    split at e
    · obtain ⟨ns, e1, e2⟩ := Option.map_eq_some_iff.mp e
      cases e2
      obtain ⟨ys, e3, e4⟩ := Option.bind_eq_some_iff.mp e1
      obtain ⟨x, q0, r1⟩ := rvs1 rv
      obtain ⟨p, ws, q1, q2, q3⟩ := ls_read (K := X.K) kk rh r1 e3
      obtain rfl := RVs.bls' q3 e4
      subst q0 q1
      exact cr_any hc pins s σ H _ us Q I r ⟨p, ns, rfl, q2, KQ.here ho rh rfl⟩
    · cases e
  | all =>
    unfold bltR at e; dsimp only at e
    split at e
    · obtain ⟨ns, e1, e2⟩ := Option.map_eq_some_iff.mp e
      cases e2
      obtain ⟨ys, e3, e4⟩ := Option.bind_eq_some_iff.mp e1
      obtain ⟨x, q0, r1⟩ := rvs1 rv
      obtain ⟨p, ws, q1, q2, q3⟩ := ls_read (K := X.K) kk rh r1 e3
      obtain rfl := RVs.bls' q3 e4
      subst q0 q1
      exact cr_all hc pins s σ H _ us Q I r ⟨p, ns, rfl, q2, KQ.here ho rh rfl⟩
    · cases e
  | sorted =>
    unfold bltR at e; dsimp only at e
    split at e
    · split at e
      · rename_i ns e1
        cases e
        obtain ⟨ys, e3, e4⟩ := Option.bind_eq_some_iff.mp e1
        obtain ⟨x, q0, r1⟩ := rvs1 rv
        obtain ⟨p, ws, q1, q2, q3⟩ := ls_read (K := X.K) kk rh r1 e3
        obtain rfl := RVs.ints' q3 e4
        subst q0 q1
        refine cr_sortedI pins s σ H _ us Q I r ⟨p, ns, rfl, q2, fun ns' p' h1 h2 n => ?_⟩
        rw [sorted_uniq (h1.trans (sortI_perm ns).symm) h2 (sortI_sorted ns)]
        exact out_list rh RVs.of_ints ho p' n
      · split at e
        · rename_i ys e3
          obtain ⟨x, q0, r1⟩ := rvs1 rv
          obtain ⟨p, ws, q1, q2, q3⟩ := ls_read (K := X.K) kk rh r1 e3
          subst q0 q1
          unfold ordL at e
          obtain ⟨ds, e5, e6⟩ := Option.map_eq_some_iff.mp e
          cases e6
          exact sorted_tups kk hu I r rh q2 q3 e5 hcc.1 hcc.2.1 hcc.2.2 ho
        · obtain ⟨ks, e3, e4⟩ := Option.map_eq_some_iff.mp e
          cases e4
          obtain ⟨kvs, e5, e6⟩ := Option.bind_eq_some_iff.mp e3
          obtain ⟨x, q0, r1⟩ := rvs1 rv
          obtain ⟨p, us', q1, q2, q3⟩ := dr_read rh r1 e5
          subst q0 q1
          have hk : us'.map (·.1) = ks.map Sum.inl := by rw [q3.1]; exact keyI_map e6
          refine call_sortedDI hc pins s σ H _ us Q I r ⟨p, us', ks, rfl, q2, hk, hcc, fun ys' p' h1 h2 n => ?_⟩
          rw [sorted_uniq (h1.trans (sortI_perm ks).symm) h2 (sortI_sorted ks)]
          exact out_list rh RVs.of_ints ho p' n
    · cases e
  | list =>
    unfold bltR at e; dsimp only at e
    split at e
    · split at e
      · rename_i ys e1
        cases e
        obtain ⟨x, q0, r1⟩ := rvs1 rv
        obtain ⟨p, ws, q1, q2, q3⟩ := sq_read (K := X.K) kk rh r1 e1
        subst q0 q1
        exact call_list_of pins s σ H _ us Q I r ⟨p, ws, rfl, q2, out_list rh q3 ho⟩
      · obtain ⟨kvs, e1, e2⟩ := Option.map_eq_some_iff.mp e
        cases e2
        obtain ⟨x, q0, r1⟩ := rvs1 rv
        obtain ⟨p, us', q1, q2, q3⟩ := dr_read rh r1 e1
        subst q0 q1
        refine call_listD hc pins s σ H _ us Q I r ⟨p, us', rfl, q2, fun p' n => ?_⟩
        have e3 : (us'.map fun kv => kV kv.1) = (us'.map (·.1)).map kV := by rw [List.map_map]; rfl
        rw [e3, q3.1]
        have go : ∀ ks : List Key, RVs h H (ks.map keyV) (ks.map kV) := fun ks => by
          induction ks with
          | nil => exact .nil
          | cons k ks ih => exact .cons (by cases k <;> rfl) ih
        have e4 : (kvs.map fun kv => keyV kv.1) = (kvs.map (·.1)).map keyV := by rw [List.map_map]; rfl
        rw [e4] at ho
        exact out_list rh (go _) ho p' n
    · cases e
  | tuple =>
    unfold bltR at e; dsimp only at e
    split at e
    · obtain ⟨ys, e1, e2⟩ := Option.map_eq_some_iff.mp e
      cases e2
      obtain ⟨x, q0, r1⟩ := rvs1 rv
      obtain ⟨p, ws, q1, q2, q3⟩ := ls_read (K := X.K) kk rh r1 e1
      subst q0 q1
      refine call_tuple_of pins s σ H _ us Q I r ⟨p, ws, rfl, .inl ⟨q2, fun l n => ?_⟩⟩
      have k := Stab.alloc (h := h) (o := .tup ws) n
      exact (show KQ h H Q (.tup ys) h from ho) _ _ (rh.alloc n) k ⟨l, _, rfl, rh.free n, upd_same, RVs.keep k q3⟩
    · cases e
  | int =>
    unfold bltR at e; dsimp only at e
    split at e
    · cases e
      obtain ⟨x, q0, r1⟩ := rvs1 rv
      cases r1; subst q0
      exact call_int1 pins s σ H _ us Q I r (.inl ⟨_, rfl, KQ.here ho rh rfl⟩)
    · cases e
      obtain ⟨x, q0, r1⟩ := rvs1 rv
      cases r1; subst q0
      exact call_int1 pins s σ H _ us Q I r (.inr ⟨_, rfl, KQ.here ho rh rfl⟩)
    · obtain ⟨n0, e1, e2⟩ := Option.map_eq_some_iff.mp e
      cases e2
      obtain ⟨x, q0, r1⟩ := rvs1 rv
      cases r1; subst q0
      exact call_int_str pins s σ H _ us Q I r ⟨_, n0, rfl, e1, hcc, KQ.here ho rh rfl⟩
    · cases e
/-- isinstance of a built-in kind -/
theorem sound_isi {t : Ty} {fz : Bool} {H : Hp} {x : V} {h : Hq} {a : Val} {Q : VK} (rh : RH h H) (ra : RV h H a x) (w : prW (bltR (.isi [t]) fz [a] h) (KQ h H Q)) : rIsi X.K [x, .ty (tyN t)] H Q := by
  obtain ⟨⟨c, out⟩, e, hc, ho⟩ := optW_ex w
  unfold bltR at e; dsimp only at e
  obtain ⟨us, e1, e2⟩ := Option.map_eq_some_iff.mp e
  cases e2
  have go : ∀ (n : String) (k : Bool), TyX X.K H x (.type n) → kitB n (tyN t) = some k → ([t].any fun t => decide (t ∈ us)) = k → rIsi X.K [x, .ty (tyN t)] H Q := fun n k y e3 e4 =>
    ⟨x, .ty (tyN t), .type n, .type (tyN t), k, rfl, .ty _, y, kit_ty e3, by rw [← e4]; exact KQ.here ho rh rfl⟩
  cases a with
  | non => cases e1; cases ra; exact go "NoneType" false (.base .non) (by cases t <;> decide +kernel) (by cases t <;> rfl)
  | bl b => cases e1; cases ra; exact go "bool" (decide (t = .bool) || decide (t = .int)) (.base (.bl b)) (by cases t <;> decide +kernel) (by cases t <;> rfl)
  | int b => cases e1; cases ra; exact go "int" (decide (t = .int)) (.base (.int b)) (by cases t <;> decide +kernel) (by cases t <;> rfl)
  | str b => cases e1; cases ra; exact go "str" (decide (t = .str)) (.base (.str b)) (by cases t <;> decide +kernel) (by cases t <;> rfl)
  | tup b =>
    cases e1
    obtain ⟨p, vs, q1, _, q2, _⟩ := ra
    subst q1
    exact go "tuple" (decide (t = .tuple)) (.base (.tup q2)) (by cases t <;> decide +kernel) (by cases t <;> rfl)
  | fl b =>
    cases e1
    obtain ⟨p, vs, q1, _, q2, _⟩ := ra
    subst q1
    exact go "list" (decide (t = .list)) (.base (.lst q2)) (by cases t <;> decide +kernel) (by cases t <;> rfl)
  | fd ks b =>
    cases e1
    obtain ⟨p, vs, q1, _, q2, _⟩ := ra
    subst q1
    exact go "dict" (decide (t = .dict)) (.base (.dK q2)) (by cases t <;> decide +kernel) (by cases t <;> rfl)
  | wd ks b => cases e1
  | exc c => cases e1
  | clo g ws => cases e1
  | sc b =>
    cases e1
    obtain ⟨p, q1, q2⟩ := ra
    subst q1
    rcases q2 with ⟨_, q2 | ⟨o, q2⟩⟩ | q2
    · exact go "list" (decide (t = .list)) (.base (.lst q2)) (by cases t <;> decide +kernel) (by cases t <;> rfl)
    · exact go "list" (decide (t = .list)) (.base (.frz q2)) (by cases t <;> decide +kernel) (by cases t <;> rfl)
    · rcases q2 (fun _ => none) with (z | ⟨_, z⟩) | ⟨o, its, m, z, c, _⟩
      · cases z
      · cases z
      · exact go "list" (decide (t = .list)) (.kList (kk ▸ z) c) (by cases t <;> decide +kernel) (by cases t <;> rfl)
  | ref b =>
    cases (show x = .ref b from ra)
    unfold tyOf at e1
    dsimp only at e1
    split at e1
    · rename_i ys q
      cases e1
      obtain ⟨vs, q2, _⟩ := rh b _ q
      exact go "list" (decide (t = .list)) (.base (.lst q2)) (by cases t <;> decide +kernel) (by cases t <;> rfl)
    · rename_i ys q
      cases e1
      obtain ⟨vs, q2, _⟩ := rh b _ q
      exact go "dict" (decide (t = .dict)) (.base (.dK q2)) (by cases t <;> decide +kernel) (by cases t <;> rfl)
    · cases e1

/-! ### methods of lists, stores -/
def Mt.nm : Mt → Str
  | .append => "append" | .extend => "extend" | .pop => "pop" | .insert => "insert" | .reverse => "reverse" | .clear => "clear" | .index => "index" | .count => "count" | .dget => "get" | .dupd => "update" | .sjoin => "join" | .ssplit => "split" | .sfind => "find"
def Mt.ty : Mt → String | .dget => "dict" | .dupd => "dict" | .sjoin => "str" | .ssplit => "str" | .sfind => "str" | _ => "list"
def Mt.id : Mt → String
  | .append => "list.append" | .extend => "list.extend" | .pop => "list.pop" | .insert => "list.insert" | .reverse => "list.reverse" | .clear => "list.clear" | .index => "list.index" | .count => "list.count" | .dget => "dict.get" | .dupd => "dict.update" | .sjoin => "str.join" | .ssplit => "str.split" | .sfind => "str.find"
def RMx (f : Val → List Val → Hq → Pr) : V → List V → Hp → VK → Prop := fun x xs H Q => ∃ h a vs, RH h H ∧ RV h H a x ∧ RVs h H vs xs ∧ prW (f a vs h) (KQ h H Q)
omit kk in
theorem ixN_seq' {n : Nat} {i : Int} {j : Nat} (h : ixN n i = some j) (hn : n ≤ sizeLine) : seqIndex? i n = some j ∧ -(2 ^ 63) ≤ i ∧ i < 2 ^ 63 := by
  obtain ⟨a, b, c, d⟩ := ixN_seq h
  have := line63
  refine ⟨a, by omega, by omega⟩
omit kk in
theorem sound_mthL {m : Mt} (hs : ∀ pins s σ H p xs, Inv X pins σ H s → H p = some (.lst xs) → xs.length ≤ sizeLine) : MtR X m.id (RMx (fun o vs h => (lstAt h o).bind fun q => lmR m q.1 q.2 vs h)) := by
  intro pins s σ H x xs v us Q I rx r ⟨h, a, vs, rh, ra, rv, w⟩
  obtain ⟨⟨c, out⟩, e, hc, ho⟩ := optW_ex w
  dsimp only at e
  obtain ⟨⟨l, ys⟩, e1, e2⟩ := Option.bind_eq_some_iff.mp e
  obtain ⟨q1, q2, ws, q3, q4⟩ := lstAt_read rh ra e1
  dsimp only at q1 q2 q3 q4 e2
  subst q1
  have hl := hs pins s σ H l ws I q3
  unfold lmR at e2
  cases m with
  | append =>
    dsimp only at e2
    split at e2
    · cases e2
      obtain ⟨y, q0, r1⟩ := rvs1 rv
      subst q0
      exact mt_append pins s σ H _ _ v us Q I rx r ⟨l, ws, y, rfl, rfl, q3, by rw [← q4.length]; exact len_lt hc, write_out rh q2 (q4.app (.cons r1 .nil)) (show RV h H Val.non V.non from rfl) ho⟩
    · cases e2
  | extend =>
    dsimp only at e2
    split at e2
    · obtain ⟨zs, e3, e4⟩ := Option.map_eq_some_iff.mp e2
      cases e4
      obtain ⟨y, q0, r1⟩ := rvs1 rv
      obtain ⟨b, us', q5, q6, q7⟩ := lv_read rh r1 e3
      subst q0 q5
      exact mt_extend pins s σ H _ _ v us Q I rx r ⟨l, b, ws, us', rfl, rfl, q3, q6, by rw [← q4.length, ← q7.length]; exact len_ok hc, write_out rh q2 (q4.app q7) (show RV h H Val.non V.non from rfl) ho⟩
    · cases e2
  | pop =>
    dsimp only at e2
    split at e2
    · obtain ⟨z, e3, e4⟩ := Option.map_eq_some_iff.mp e2
      cases e4
      rw [q4.length] at e3
      obtain ⟨y, e5, r5⟩ := q4.get e3
      have : xs = [] := rv
      subst this
      exact mt_pop pins s σ H _ _ v us Q I rx r ⟨l, ws, y, rfl, rfl, q3, e5, write_out rh q2 q4.dropLast r5 ho⟩
    · obtain ⟨k, e3, e4⟩ := Option.bind_eq_some_iff.mp e2
      obtain ⟨z, e5, e6⟩ := Option.map_eq_some_iff.mp e4
      cases e6
      obtain ⟨y, q0, r1⟩ := rvs1 rv
      obtain ⟨y', e7, r7⟩ := q4.get e5
      rw [q4.length] at e3
      obtain ⟨k1, k2, k3⟩ := ixN_seq' e3 hl
      cases r1
      subst q0
      exact mt_popAt pins s σ H _ _ v us Q I rx r ⟨l, ws, _, k, y', rfl, rfl, q3, k2, k3, k1, e7, write_out rh q2 (q4.eraseIdx k) r7 ho⟩
    · cases e2
  | reverse =>
    dsimp only at e2
    split at e2
    · cases e2
      have : xs = [] := rv
      subst this
      exact mt_reverse pins s σ H _ _ v us Q I rx r ⟨l, ws, rfl, rfl, q3, write_out rh q2 q4.reverse (show RV h H Val.non V.non from rfl) ho⟩
    · cases e2
  | clear =>
    dsimp only at e2
    split at e2
    · cases e2
      have : xs = [] := rv
      subst this
      exact mt_clear pins s σ H _ _ v us Q I rx r ⟨l, ws, rfl, rfl, q3, write_out rh q2 RVs.nil (show RV h H Val.non V.non from rfl) ho⟩
    · cases e2
  | insert =>
    dsimp only at e2
    split at e2
    · cases e2
      obtain ⟨y, z, q0, r1, r2⟩ := rvs2 rv
      cases r1
      subst q0
      refine mt_insert pins s σ H _ _ v us Q I rx r ⟨l, ws, _, z, rfl, rfl, q3, by rw [← q4.length]; exact len_lt hc.2.2, hc.1, by have := hc.2.1; omega, ?_⟩
      exact write_out rh q2 (((q4.take _).app (.cons r2 .nil)).app (q4.drop _)) (show RV h H Val.non V.non from rfl) ho
    · cases e2
  | index => cases e2
  | count => cases e2
  | dget => cases e2
  | dupd => cases e2
  | sjoin => cases e2
  | ssplit => cases e2
  | sfind => cases e2
omit kk in
theorem sound_dget (hu : X.A.units + 1 < cLine) : MtR X "dict.get" (RMx dgR) := by
  intro pins s σ H x xs v us Q I rx r ⟨h, a, vs, rh, ra, rv, w⟩
  obtain ⟨⟨c, out⟩, e, hc, ho⟩ := optW_ex w
  unfold dgR at e
  obtain ⟨kvs, e1, e2⟩ := Option.bind_eq_some_iff.mp e
  obtain ⟨p, us', q1, q2, q3⟩ := dr_read rh ra e1
  subst q1
  obtain rfl : v = Value.ref p := rx
  split at e2
  · cases e2
    obtain ⟨z, q0, r1⟩ := rvs1 rv
    subst q0
    cases r1
    cases r with
    | cons ra rb =>
      cases rb
      cases ra
      obtain ⟨_, hd, vs', _, dd⟩ := dk_rd I.hok q2
      obtain ⟨f, hm, hf⟩ := none_map dd
      refine call_meetsIn PySem.F.slot_dict_get dd.typeIs PySem.F.entry_dict_get (PySem.F.args_dict_get_2 _ _) (meets_dict_get (noneKind X.prog X.w) p (show (noneKind X.prog X.w).is none .none = true from rfl) hd) ⟨f, hm, ⟨.non, H, I.tok _, by rw [hf]; rfl, KQ.here ho rh rfl⟩⟩
  · rename_i d
    cases e2
    obtain ⟨z, z', q0, r1, r2⟩ := rvs2 rv
    subst q0
    cases r1
    cases r with
    | cons ra rb =>
      cases rb with
      | cons rb rc =>
        cases rc
        cases ra
        obtain ⟨_, hd, vs', _, dd⟩ := dk_rd I.hok q2
        obtain ⟨f, hm, hf⟩ := none_map dd
        rename_i u' _
        refine call_meetsIn PySem.F.slot_dict_get dd.typeIs PySem.F.entry_dict_get (PySem.F.args_dict_get_3 _ _ _) (meets_dict_get_default (noneKind X.prog X.w) p (show (noneKind X.prog X.w).is none .none = true from rfl) hd _) ⟨f, hm, ⟨z', H, I.tok _, by rw [hf]; exact rb, KQ.here ho rh r2⟩⟩
  · rename_i y
    obtain ⟨k, e3, e4⟩ := Option.map_eq_some_iff.mp e2
    cases e4
    obtain ⟨z, q0, r1⟩ := rvs1 rv
    subst q0
    obtain rfl := key_read r1 e3
    cases r with
    | cons ra rb =>
      cases rb
      refine d_get1 hu I (DGet.k' q2) ra fun w' s' I' rw' => ⟨_, H, I', rw', ?_⟩
      rcases q3.get (k := k) with ⟨z1, z2⟩ | ⟨v', z, z1, z2, z3⟩
      · rw [z1] at ho; rw [z2]; exact KQ.here ho rh (show RV h H Val.non V.non from rfl)
      · rw [z1] at ho; rw [z2]; exact KQ.here ho rh z3
  · rename_i y d
    obtain ⟨k, e3, e4⟩ := Option.map_eq_some_iff.mp e2
    cases e4
    obtain ⟨z, z', q0, r1, r2⟩ := rvs2 rv
    subst q0
    obtain rfl := key_read r1 e3
    cases r with
    | cons ra rb =>
      cases rb with
      | cons rb rc =>
        cases rc
        refine d_get2 hu I (DGet.k' q2) ra rb fun w' s' I' rw' => ⟨_, H, I', rw', ?_⟩
        rcases q3.get (k := k) with ⟨z1, z2⟩ | ⟨v', z, z1, z2, z3⟩
        · rw [z1] at ho; rw [z2]; exact KQ.here ho rh r2
        · rw [z1] at ho; rw [z2]; exact KQ.here ho rh z3
  · cases e2
omit kk in
theorem sound_dupd : MtR X "dict.update" (RMx duR) := by
  intro pins s σ H x xs v us Q I rx r ⟨h, a, vs, rh, ra, rv, w⟩
  obtain ⟨⟨c, out⟩, e, hc, ho⟩ := optW_ex w
  unfold duR at e
  obtain ⟨q, e1, e2⟩ := Option.bind_eq_some_iff.mp e
  obtain ⟨q1, q2, us1, q3, q4⟩ := dicAt_read rh ra e1
  subst q1
  obtain rfl : v = Value.ref q.1 := rx
  split at e2
  · rename_i y
    obtain ⟨kvs, e3, e4⟩ := Option.map_eq_some_iff.mp e2
    cases e4
    obtain ⟨z, q0, r1⟩ := rvs1 rv
    subst q0
    obtain ⟨p, ms, p1, p2, p3⟩ := dr_read rh r1 e3
    subst p1
    cases r with
    | cons ra rb =>
      cases rb
      obtain rfl : _ = Value.ref p := ra
      have hne : q.1 ≠ p := by
        intro z
        subst z
        cases y with
        | ref b => cases r1; exact hc.1 rfl
        | fd ks ws =>
          obtain ⟨b, _, z1, z2, _⟩ := r1
          cases z1
          rw [q2] at z2; cases z2
        | wd ks ws =>
          obtain ⟨b, _, z1, z2, _⟩ := r1
          cases z1
          rw [q2] at z2; cases z2
        | _ => cases e3
      obtain ⟨z1, hd1, vs1, rel1, dd1⟩ := dk_of I.hok q3
      obtain ⟨z2, hd2, vs2, rel2, dd2⟩ := dk_rd I.hok p2
      have hz : (mergeK us1 ms).length ≤ sizeLine := by
        have h1 := length_mergeK ms us1
        have h2 := q4.length
        have h3 := p3.length
        have h4 := len_ok hc.2
        omega
      refine call_meetsIn PySem.F.slot_dict_update dd1.typeIs PySem.F.entry_dict_update (PySem.F.args_dict_update_2 _ _) (PySem.meets_dict_update (mixKind X.prog X.w) q.1 p hne hd2) ⟨vs1, vs2, dd1, dd2, by rw [← rel1.length, ← rel2.length, ← q4.length, ← p3.length]; exact len_ok hc.2, fun h' d1 d2 sb => ?_⟩
      have rm := KV.merge rel2 rel1
      refine ⟨.non, _, d_write (t' := s.toks) I (by rw [q3]; exact True.intro) sb (let ⟨o, _, _, ho, _⟩ := d1; ⟨o, ho⟩) (dk_new (H' := upd H q.1 (.dK (mergeK us1 ms))) hz hd1 rm d1), rfl, ?_⟩
      exact writeD_out rh q2 (q4.merge' p3) (show RV h H Val.non V.non from rfl) ho
  · cases e2
theorem sound_index : MtR X "list.index" (RMx ixR) := by
  intro pins s σ H x xs v us Q I rx r ⟨h, a, vs, rh, ra, rv, w⟩
  obtain ⟨⟨c, out⟩, e, hc, ho⟩ := optW_ex w
  unfold ixR at e
  split at e
  · rename_i y
    obtain ⟨ys, e1, e2⟩ := Option.bind_eq_some_iff.mp e
    obtain ⟨j, e3, e4⟩ := Option.map_eq_some_iff.mp e2
    cases e4
    obtain ⟨p, ws, q1, q2, q3⟩ := ls_read (K := X.K) kk rh ra e1
    obtain ⟨z, q0, r1⟩ := rvs1 rv
    subst q0 q1
    obtain ⟨e5, f5⟩ := flt_is hc.1 r1
    obtain ⟨e6, f6⟩ := flt_all hc.2 q3
    obtain ⟨hj, hp, hb⟩ := List.findIdx?_eq_some_iff_getElem.mp e3
    refine mt_index pins s σ H _ _ v us Q I rx r ⟨p, ws, z, j, flV ys[j], rfl, rfl, q2, by rw [e5]; exact f5, f6, ?_, ?_, ?_, KQ.here ho rh rfl⟩
    · rw [e6, List.getElem?_map, List.getElem?_eq_getElem hj]; rfl
    · rw [e5]; exact hp
    · intro m z' hm hz'
      rw [e6, List.getElem?_map] at hz'
      have hml : m < ys.length := Nat.lt_trans hm hj
      rw [List.getElem?_eq_getElem hml] at hz'
      cases hz'
      have := hb m hm
      rw [e5]
      simpa using this
  · cases e
omit kk in
theorem countP_vals {y : V} (fy : flatV y = true) : ∀ {ys : List V} {us : List Value}, Vals ys us → ys.all flatV = true → us.countP (eqU y) = ys.countP fun z => eqV z y
  | [], [], .nil, _ => rfl
  | z :: ys, u :: us, .cons r t, f => by
    rw [List.all_cons, Bool.and_eq_true] at f
    rw [List.countP_cons, List.countP_cons, countP_vals fy t f.2, eqU_of r f.1]
theorem sound_count : MtR X "list.count" (RMx cnR) := by
  intro pins s σ H x xs v us Q I rx r ⟨h, a, vs, rh, ra, rv, w⟩
  obtain ⟨⟨c, out⟩, e, hc, ho⟩ := optW_ex w
  unfold cnR at e
  split at e
  · rename_i y
    obtain ⟨ys, e1, e2⟩ := Option.map_eq_some_iff.mp e
    cases e2
    obtain ⟨p, ws, q1, q2, q3⟩ := ls_read (K := X.K) kk rh ra e1
    obtain ⟨z, q0, r1⟩ := rvs1 rv
    subst q0 q1
    obtain ⟨e5, f5⟩ := flt_is hc.1 r1
    obtain ⟨e6, f6⟩ := flt_all hc.2 q3
    cases rx
    cases r with
    | cons ru rt =>
      rename_i uy ut
      cases rt
      obtain ⟨its, rw_, ⟨⟨cls, dd, data, sl⟩, n, hob, hcl, hdn, hd⟩, hlen⟩ := I.list q2
      simp only at hcl hd
      subst hcl hd
      have fz : flatV z = true := by rw [e5]; exact f5
      refine call_meets PySem.F.slot_list_count ⟨_, hob, rfl⟩ PySem.F.entry_list_count (PySem.F.args_list_count_2 _ _)
        (SeqAt.list_countAt p its.toArray n dd sl uy (eqU z)) ⟨hob, fun u' hu' => mem_eqAt ru fz rw_ f6 u' (by simpa using hu'), ?_⟩
      have ec : its.toArray.toList.countP (eqU z) = ys.countP fun t => eqV (flV t) (flV y) := by
        show its.countP (eqU z) = _
        rw [countP_vals fz rw_ f6, e6, List.countP_map, e5]
        rfl
      refine ⟨.int ((ys.countP fun t => eqV (flV t) (flV y) : Nat) : Int), H, I.tok _, ⟨s.toks, ?_⟩, KQ.here ho rh rfl⟩
      show Value.int ((its.toArray.toList.countP (eqU z) : Nat) : Int) s.toks = _
      rw [ec]
  · cases e
omit kk in
theorem strs_read {h : Hq} {H : Hp} : ∀ {xs : List Val} {ws : List V} {ys : List Str}, RVs h H xs ws → mapO stO xs = some ys → ws = ys.map V.str
  | [], _, _, r, e => by cases e; cases r; rfl
  | x :: xs, _, _, ⟨y, t, q, r1, r2⟩, e => by
    subst q
    unfold mapO at e
    split at e
    · rename_i p ps e1 e2
      cases e
      rw [List.map_cons, ← strs_read r2 e2, stO_read r1 e1]
    · cases e
omit kk in
theorem rvs_strs {h : Hq} {H : Hp} : ∀ ys : List Str, RVs h H (ys.map Val.str) (ys.map V.str)
  | [] => rfl
  | y :: ys => .cons rfl (rvs_strs ys)
theorem sound_join : MtR X "str.join" (RMx joR) := by
  intro pins s σ H x xs v us Q I rx r ⟨h, a, vs, rh, ra, rv, w⟩
  obtain ⟨⟨c, out⟩, e, hc, ho⟩ := optW_ex w
  unfold joR at e
  obtain ⟨z, e1, e2⟩ := Option.bind_eq_some_iff.mp e
  obtain rfl := stO_read ra e1
  split at e2
  · obtain ⟨ys, e3, e4⟩ := Option.map_eq_some_iff.mp e2
    cases e4
    obtain ⟨zs, e5, e6⟩ := Option.bind_eq_some_iff.mp e3
    obtain ⟨y, q0, r1⟩ := rvs1 rv
    obtain ⟨p, ws, q1, q2, q3⟩ := sq_read (K := X.K) kk rh r1 e5
    subst q0 q1
    obtain rfl := strs_read q3 e6
    exact mt_join pins s σ H _ _ v us Q I rx r ⟨z, p, ys, rfl, rfl, q2, by have := hc; omega, KQ.here ho rh rfl⟩
  · cases e2
omit kk in
theorem sound_split : MtR X "str.split" (RMx spR) := by
  intro pins s σ H x xs v us Q I rx r ⟨h, a, vs, rh, ra, rv, w⟩
  obtain ⟨⟨c, out⟩, e, hc, ho⟩ := optW_ex w
  unfold spR at e
  obtain ⟨z, e1, e2⟩ := Option.bind_eq_some_iff.mp e
  obtain rfl := stO_read ra e1
  split at e2
  · rename_i b0
    cases e2
    obtain ⟨y, q0, r1⟩ := rvs1 rv
    cases r1; subst q0
    exact mt_split pins s σ H _ _ v us Q I rx r ⟨z, b0, rfl, rfl, hc.1, Nat.le_trans (Nat.add_le_add_right hc.2 2) (by decide), out_list rh (rvs_strs _) ho⟩
  · rename_i b0 k0
    cases e2
    obtain ⟨y, y2, q0, r1, r2⟩ := rvs2 rv
    cases r1; cases r2; subst q0
    exact mt_splitMax pins s σ H _ _ v us Q I rx r ⟨z, b0, k0, rfl, rfl, hc.1.1, hc.2.1, hc.2.2, Nat.le_trans (Nat.add_le_add_right hc.1.2 2) (by decide), out_list rh (rvs_strs _) ho⟩
  · cases e2
omit kk in
theorem sound_find : MtR X "str.find" (RMx fiR) := by
  intro pins s σ H x xs v us Q I rx r ⟨h, a, vs, rh, ra, rv, w⟩
  obtain ⟨⟨c, out⟩, e, hc, ho⟩ := optW_ex w
  unfold fiR at e
  obtain ⟨z, e1, e2⟩ := Option.bind_eq_some_iff.mp e
  obtain rfl := stO_read ra e1
  split at e2
  · rename_i b0
    cases e2
    obtain ⟨y, q0, r1⟩ := rvs1 rv
    cases r1; subst q0
    exact mt_find pins s σ H _ _ v us Q I rx r ⟨z, b0, rfl, rfl, KQ.here ho rh rfl⟩
  · rename_i b0 i0
    cases e2
    obtain ⟨y, y2, q0, r1, r2⟩ := rvs2 rv
    cases r1; cases r2; subst q0
    exact mt_find3 pins s σ H _ _ v us Q I rx r ⟨z, b0, i0, rfl, rfl, KQ.here ho rh rfl⟩
  · cases e2
theorem sound_mth (hu : X.A.units + 1 < cLine) {m : Mt} (hs : ∀ pins s σ H p xs, Inv X pins σ H s → H p = some (.lst xs) → xs.length ≤ sizeLine) : MtR X m.id (RMx (mthR m)) := by
  cases m with
  | dget => exact sound_dget hu
  | dupd => exact sound_dupd
  | sjoin => exact sound_join kk
  | ssplit => exact sound_split
  | sfind => exact sound_find
  | index => exact sound_index kk
  | count => exact sound_count kk
  | _ => exact sound_mthL hs
omit kk in
theorem sound_set {H : Hp} {h : Hq} {o i v : Val} {xo xi xv : V} {K : Hq → Prop} {Q : Hp → Prop} (rh : RH h H) (ro : RV h H o xo) (ri : RV h H i xi) (rv : RV h H v xv) (w : setW o i v h K)
    (k : ∀ h' H', RH h' H' → Stab h H h' H' → K h' → Q H') : rSetL xo xi xv H Q ∨ ∃ a H', xo = .ref a ∧ DPut H a xi xv H' ∧ Q H' := by
  unfold setW at w
  split at w
  · rename_i q e0
    obtain ⟨j, e1, w1⟩ := optW_ex w
    obtain ⟨q1, q2, us, q3, q4⟩ := dicAt_read rh ro e0
    obtain rfl := key_read ri e1
    have st := Stab.write (H := H) (o := .dK (putK us j xv)) (d := .dic (dp q.2 j v)) q2
    exact .inr ⟨q.1, _, q1, DPut.k q3 (by rw [← q4.length]; exact len_lt w1.1), k _ _ (rh.put st ⟨_, upd_same, RKV.keep st (q4.put rv)⟩) st w1.2⟩
  left
  obtain ⟨⟨a, xs⟩, e1, w1⟩ := optW_ex w
  obtain ⟨n, e2, w2⟩ := optW_ex w1
  obtain ⟨j, e3, w3⟩ := optW_ex w2
  clear w w1 w2
  obtain ⟨q1, q2, vs, q3, q4⟩ := lstAt_read rh ro e1
  dsimp only at q1 q2 q3 q4 e3 w3
  cases i <;> first | (cases e2; done) | skip
  cases e2
  have st := Stab.write (H := H) (o := .lst (vs.set j xv)) (d := .lst (xs.set j v)) q2
  exact ⟨a, vs, n, j, q1, ri, q3, by rw [← q4.length]; exact e3, k _ _ (rh.put st ⟨_, upd_same, RVs.keep st (q4.set j rv)⟩) st w3⟩
end
end L3

set_option Elab.async false
set_option linter.all false
set_option maxRecDepth 100000
/-! L3: dict(zip(a, b)). -/
namespace L3
open PySem PySem.Spec PyProof.Rows L2
variable [Mo]
section
variable {X : Cx} {ta : TA}
theorem vals_keys : ∀ {ks : List Key} {us : List Value}, Vals (ks.map kV) us → ∀ (i : Nat) (u : Value), us[i]? = some u → ∃ k, ks[i]? = some k ∧ keyIs k u = true
  | [], _, .nil, i, u, e => by simp at e
  | k :: ks, _, .cons r t, 0, u, e => by
    simp at e; subst e
    refine ⟨k, rfl, ?_⟩
    cases k with
    | inl n => obtain ⟨tk, rfl⟩ := r; simp [keyIs, Value.isInt, Value.isStrOf]
    | inr n => obtain ⟨tk, rfl⟩ := r; simp [keyIs, Value.isInt, Value.isStrOf]
  | k :: ks, _, .cons r t, i + 1, u, e => by
    obtain ⟨j, h1, h2⟩ := vals_keys t i u (by simpa using e)
    exact ⟨j, by simpa using h1, h2⟩
theorem kv_zip {ys : List V} {us : List Value} (r : Vals ys us) : ∀ {ks : List Key}, KV (ks.zip ys) (ks.zip us) := by
  induction r with
  | nil => intro ks; cases ks <;> exact .nil
  | cons a b ih =>
    intro ks
    cases ks with
    | nil => exact .nil
    | cons k ks => exact .cons ⟨rfl, a⟩ ih
def tDZ (K : PySem.W.Frag) (ta : TA) : TE := fun σ H Q => ta σ H fun vs H1 => ∃ (a b : Addr) (ks : List Key) (ys : List V), vs = [.ref a, .ref b] ∧ SqL K H1 a (ks.map kV) ∧ SqL K H1 b ys ∧ ∀ p, H1 p = none → Q (.ref p) (upd H1 p (.dK (mergeK [] (ks.zip ys))))
theorem pe_dictZip {e e2 : Expr} {p p2 pos pos2 : Pos} (hc : X.calm = true) (hg : Gl X "dict") (hm : X.mg "dict" = none) (hg2 : Gl X "zip") (hm2 : X.mg "zip" = none) (ha : PA X [e, e2] ta)
    (hs : starEach [e, e2] X.env = (false, eval e X.env) :: starEach [e2] X.env := by rfl) (hpl : (backTo pos2 (starEach [e2] X.env)).any (·.1) = false := by rfl) :
    PE X (.Call (.Name "dict" p) [.Call (.Name "zip" p2) [e, e2] [] pos2] [] pos) (tDZ X.K ta) := by
  refine ⟨fun pins s σ H Q I h => ?_⟩
  refine Call_ (ld_blt I hg hm PyProof.Rows.boot_dict (PyProof.Rows.callWith_type1 (args_cons ?_ (by rfl)) (by rfl) (by rfl)))
  refine Call_ (ld_blt I hg2 hm2 PyProof.Rows.boot_zip (PyProof.Rows.callWith_type1 (thn (ha.run pos2 pins s σ H _ I h) fun us s1 ⟨vs, H1, I1, r1, q1⟩ => ?_) hs hpl))
  obtain ⟨a, b, ks, ys, ex, hqx, hqy, q⟩ := q1
  subst ex
  cases r1 with
  | cons r rr =>
    cases rr with
    | cons r' rr =>
      cases rr
      cases r
      cases r'
      obtain ⟨its, rv, p1, l1⟩ := I1.list hqx
      obtain ⟨its2, rv2, p2, _⟩ := I1.list hqy
      have la : a < s1.heap.objs.size := p1.lt
      have lb : b < s1.heap.objs.size := p2.lt
      refine call_zip_2 p1.isList p2.isList fun h' hz hTI hTO h1 h2 hsz hk => ?_
      have I2 : Inv X pins σ H1 { s1 with heap := h' } := I1.kept (t' := s1.toks) hk
      refine args_nil ?_
      have hlen : its.length = ks.length := by rw [← rv.length, List.length_map]
      refine PySem.call_dict_pairs (knd := mixKind X.prog X.w) (kvs := ks.zip its2) (PySem.PairArg.zip _ _ _ _ _ a b (PySem.W.ktu_apart s1.heap.objs.size a b la lb) its.toArray its2.toArray) (I1.ok.hd hc) ⟨hz, hTI, ⟨_, _, hTO⟩, h1, h2, p1.isList.at fun o e => hk _ o e, p2.isList.at fun o e => hk _ o e⟩ ⟨?_, ?_⟩ ?_ ?_
      · simp [hlen]
      · intro i key v hv
        obtain ⟨hv1, hv2⟩ := hv
        obtain ⟨k, hk1, hk2⟩ := vals_keys rv i key (by simpa using hv1)
        refine ⟨k, ?_, hk2⟩
        rw [List.getElem?_zip_eq_some]
        exact ⟨hk1, by simpa using hv2⟩
      · have := Nat.min_le_left its.toArray.size its2.toArray.size
        have h4 : its.toArray.size = ks.length := by simp [hlen]
        rw [List.length_map] at l1
        omega
      · intro h'' tk hd' hk2
        have hs' : s1.heap.objs.size ≤ h'.objs.size := by omega
        have hmm : (h'.objs.size == sysModules) = false := beq_eq_false_iff_ne.mpr (Nat.ne_of_gt (Nat.lt_of_lt_of_le I1.big hs'))
        have hl : (mergeK [] (ks.zip ys)).length ≤ sizeLine := by
          refine Nat.le_trans (length_mergeK (ks.zip ys) []) ?_
          rw [List.length_map] at l1
          rw [List.length_nil, List.length_zip]
          omega
        refine ⟨.ref h'.objs.size, upd H1 h'.objs.size (.dK (mergeK [] (ks.zip ys))), I1.laid (t' := tk) (fun c o e => hk2 c o ?_ (hk _ o e)) hs' ⟨hl, hmm, merged [] (ks.zip its2), KV.merge (kv_zip rv2) .nil, hd'⟩, rfl, q _ (I1.hok.fresh hs')⟩
        have := Heap.lt_size e
        intro hm
        simp only [List.mem_cons, List.not_mem_nil, or_false] at hm
        rcases hm with z | z | z | z
        · exact absurd (z ▸ this) (Nat.not_lt.mpr (Nat.le_add_right _ _))
        · exact absurd (z ▸ this) (Nat.not_lt.mpr (Nat.le_add_right _ _))
        · exact absurd (z ▸ this) (Nat.lt_irrefl _)
        · exact absurd (z ▸ this) (Nat.not_lt.mpr (Nat.le_add_right _ _))
end
end L3

set_option Elab.async false
set_option linter.all false
set_option maxRecDepth 100000
/-! L3: tuple * int. -/
namespace L3
open PySem PySem.Spec PyProof.Rows L2
open PySem.AutoSeq1 (wpAny_loadPart')
open PySem.MeetsSeq PySem.MeetsSeq2 PySem.MeetsSeq3
theorem tuple_mul1 (l : Addr) (items : Array Value) (n : Nat) (dd : Option Addr) (sl : Array (Option Value)) (u : Tok) (c1 : items.isEmpty = false) :
    Meets (Builtin.«tuple.__mul__» ⟨[.ref l, .int 1 u], []⟩) (fun _ R s => s.heap.get? l = some { cls := .type "tuple", dict := dd, data := .seq items n, slots := sl } ∧
      R (.ok (.ret (Value.ref l))) s) :=
  .of_wp fun prog w A R s h => by
    obtain ⟨hp, g, d, tk, os⟩ := s
    obtain ⟨hl, h⟩ := h
    have f1 := AutoSeq1.idx_int
    wp_walk using wpAny_loadPart' hl
    exact ⟨_, rfl, h⟩
variable [Mo]
section
variable {X : Cx}
theorem op_rep1 : OpR X (binaryOp .Mult) (fun x y H Q => ∃ l xs, x = .ref l ∧ y = .int 1 ∧ SqT X.K H l xs ∧ xs ≠ [] ∧ Q (.ref l) H) := by
  intro pins s σ H x y v u Q I rx ry h
  obtain ⟨l, xs, rfl, rfl, hT, hne, q⟩ := h
  cases rx
  obtain ⟨t, rfl⟩ := ry
  obtain ⟨its, r, ⟨⟨cls, dd, data, sl⟩, ho, hc, n, hd⟩, hs⟩ := I.tuple hT
  simp only at hc hd
  subst hc hd
  have hle : its.length = xs.length := r.length.symm
  have hn : its ≠ [] := fun e => hne (by
    rw [e] at hle
    exact List.eq_nil_of_length_eq_zero hle.symm)
  have hi : its.toArray.isEmpty = false := by
    cases its with
    | nil => exact absurd rfl hn
    | cons a b => rfl
  exact wpAny_binaryOp_repeat_ref (T := "tuple") (U := "int") (by decide) ⟨_, ho, rfl⟩ (fun s' => typeIs_int s' 1 t) noFill_tuple_mul F.fills_int_mul F.slot_int_rmul repeat_tuple F.slot_int_index.lookup
    (call_meets F.slot_int_rmul (typeIs_int s 1 t) F.entry_int_rmul (F.args_int_rmul_2 _ _) (int_rmul_tuple 1 t l its.toArray n dd sl)
      ⟨ho, rfl, ⟨_, ho, rfl⟩, call_meets F.slot_tuple_mul ⟨_, ho, rfl⟩ F.entry_tuple_mul (F.args_tuple_mul_2 _ _) (tuple_mul1 l its.toArray n dd sl t hi) ⟨ho, ⟨.ref l, H, I, rfl, q⟩⟩⟩)
end
end L3

set_option Elab.async false
set_option linter.all false
set_option maxRecDepth 100000
/-! L3: the greatest value of a dict. -/
namespace L3
open PySem PySem.Spec PyProof.Rows L2
theorem maxL_in : ∀ {ns : List Int}, ns ≠ [] → maxL ns ∈ ns
  | [], h => absurd rfl h
  | [x], _ => by simp [maxL]
  | x :: y :: r, _ => by
    have ih := maxL_in (ns := y :: r) (by simp)
    show max x (maxL (y :: r)) ∈ _
    rcases Int.le_total x (maxL (y :: r)) with c | c
    · rw [Int.max_eq_right c]; exact List.mem_cons_of_mem _ ih
    · rw [Int.max_eq_left c]; simp
theorem maxL_up : ∀ {ns : List Int} {i : Int}, i ∈ ns → i ≤ maxL ns
  | [], _, h => by simp at h
  | [x], i, h => by simp at h; subst h; exact Int.le_refl _
  | x :: y :: r, i, h => by
    show i ≤ max x (maxL (y :: r))
    rcases List.mem_cons.mp h with rfl | h
    · exact Int.le_max_left _ _
    · exact Int.le_trans (maxL_up h) (Int.le_max_right _ _)
theorem maxL_uniq {ns : List Int} {m : Int} (h1 : m ∈ ns) (h2 : ∀ j ∈ ns, j ≤ m) : m = maxL ns :=
  Int.le_antisymm (maxL_up h1) (h2 _ (maxL_in (fun z => by rw [z] at h1; cases h1)))
section
variable {X : Cx} {obj : Expr} {q0 q1 q2 q3 : Pos} {tt : TE}
def tMaxV (tt : TE) : TE := fun σ H Q => tt σ H fun x H1 => ∃ b us ns, x = V.ref b ∧ Rd H1 b (.dK us) ∧ us.map (·.2) = ns.map V.int ∧ ns ≠ [] ∧ ∀ m, m ∈ ns → (∀ j ∈ ns, j ≤ m) → Q (.int m) H1
theorem pe_maxV (calm : X.calm = true) (g1 : Gl X "max") (g2 : X.mg "max" = none) (pd : PE X obj tt) (bs : attributeBase obj "values" X.env (eval obj X.env) = eval obj X.env) (ln : (q2.endLine == q3.line) = true)
    (st : starEach [Expr.Call (.Attribute obj "values" q2) [] [] q3] X.env = [(false, eval (Expr.Call (.Attribute obj "values" q2) [] [] q3) X.env)] := by rfl) :
    PE X (.Call (.Name "max" q0) [.Call (.Attribute obj "values" q2) [] [] q3] [] q1) (tMaxV tt) := by
  refine ⟨fun pins sh σ H Q inv hq => ?_⟩
  refine wpAny_Call_Name_kw (ld_blt inv g1 g2 (u := .builtin "max") (by first | rfl | decide +kernel) ?_ (by first | decide +kernel | decide) (by first | decide +kernel | decide))
  rw [st]
  refine PySem.callWith_builtin1 (wpAny_Call_method0_late bs ln (thn (pd.run pins sh σ H _ inv hq) fun v s2 ⟨x, HH, inv2, rx, b, us, ns, e0, at0, val0, ne0, fin⟩ => ?_))
  subst e0
  obtain rfl : v = Value.ref b := rx
  obtain ⟨_, sysm, ws, rl, dOf⟩ := dk_rd inv2.hok at0
  obtain ⟨ep, dAt⟩ := dOf.dictAt
  have dAt2 := dAt
  obtain ⟨ob, ents, gb, exct, _, _, _, _⟩ := dAt2
  refine ⟨"dict", "dict.values", F.plainAttrs_dict, F.slot_dict_values, F.type_dict_values, ⟨ob, gb, exct.1⟩, fun c ec => ?_, Calls.callWith_builtin rfl (PySem.evalArgs_none ?_)⟩
  · cases ec
    exact ⟨ob, gb, exct.2.1⟩
  refine call_meetsIn F.slot_dict_values ⟨ob, gb, exct.1⟩ F.entry_dict_values (F.args_dict_values_1 _) (meets_dict_values (mixKind X.prog X.w) b sysm) ⟨⟨ws, dOf⟩, ?_⟩
  have up1 : ∀ c u, s2.heap.get? c = some u → (s2.heap.push { cls := .type "dict_values", data := .fields #[.ref b] }).get? c = some u := fun c u e => Heap.get?_push_of_some _ e
  have lw : ws.length = ns.length := by
    have l1 := congrArg List.length val0
    rw [List.length_map, List.length_map] at l1
    exact (KV.length rl).symm.trans l1
  have lpos : 0 < ws.length := lw ▸ List.length_pos_iff.mpr ne0
  have each : ∀ (i : Nat) (v : Value), (∃ k, ws[i]? = some (k, v)) → ∃ t, v = Value.int (ns.getD i 0) t := fun i v ⟨k, hk⟩ => by
    obtain ⟨x, w1, w2⟩ := KV.at' rl hk
    have l1 : (us.map (·.2))[i]? = some x := by rw [List.getElem?_map, w1] <;> rfl
    rw [val0, List.getElem?_map] at l1
    obtain ⟨j, hj, l2⟩ := Option.map_eq_some_iff.mp l1
    subst l2
    obtain ⟨t, l3⟩ := w2
    exact ⟨t, by rw [l3, List.getD_eq_getElem?_getD, hj] <;> rfl⟩
  have blt : b < s2.heap.objs.size := Heap.lt_size gb
  have sz : (s2.heap.push { cls := .type "dict_values", data := .fields #[.ref b] }).objs.size = s2.heap.objs.size + 1 := Heap.size_push _ _
  refine call_max_walk (wpAny_pyIter_values (v := s2.heap.objs.size) (d := b) ⟨_, Heap.get?_push_size _ rfl, rfl, rfl⟩ (dAt.keep up1) ?_)
  refine ⟨_, _, _, _, _, _, _, rfl, Walks.dictValues (knd := mixKind X.prog X.w) (A := X.A.in1) (inv2.ok.hd calm) (s2.heap.push { cls := .type "dict_values", data := .fields #[.ref b] }).objs.size b (by rw [sz]; exact Nat.ne_of_lt (Nat.lt_succ_of_lt blt)) ws ep,
    ⟨⟨_, Heap.get?_push_size _ rfl, rfl, rfl⟩, (dAt.keep up1).keep fun c u e => Heap.get?_push_of_some _ e⟩, fun c hc => ?_, lpos, CmpOf.ints_gt (fun i => ns.getD i 0) each, fun v h2 tk hP hk => ?_⟩
  · show c < ((s2.heap.push _).push _).objs.size
    rw [Heap.size_push, Heap.size_push]
    rw [sz] at hc
    simp only [List.mem_cons, List.not_mem_nil, or_false] at hc
    rcases hc with hc | hc
    · rw [hc]; exact Nat.lt_succ_self _
    · rw [hc]; exact Nat.lt_succ_of_lt (Nat.lt_succ_of_lt blt)
  · obtain ⟨t, rfl⟩ := each _ v hP
    obtain ⟨m1, m2⟩ := argBest_gt (fun i => ns.getD i 0) (ws.length - 1)
    refine ⟨.int _, HH, inv2.kept (t' := tk) fun c u e => hk c u (fun mem => ?_) (Heap.get?_push_of_some _ (up1 c u e)), ⟨t, rfl⟩, fin _ ?_ fun j hj => ?_⟩
    · have l1 := List.mem_singleton.mp mem
      have l2 := Heap.lt_size e
      rw [sz] at l1
      rw [l1] at l2
      exact absurd l2 (Nat.not_lt.mpr (Nat.le_succ _))
    · have hl : argBest (fun i j => decide (ns.getD i 0 > ns.getD j 0)) (ws.length - 1) < ns.length := by
        have : argBest (fun i j => decide (ns.getD i 0 > ns.getD j 0)) (ws.length - 1) ≤ ws.length - 1 := m1
        omega
      rw [List.getD_eq_getElem?_getD, List.getElem?_eq_getElem hl]
      exact List.getElem_mem hl
    · obtain ⟨i, hi⟩ := List.getElem?_of_mem hj
      have hl := (List.getElem?_eq_some_iff.mp hi).1
      have : ns.getD i 0 ≤ ns.getD (argBest (fun i j => decide (ns.getD i 0 > ns.getD j 0)) (ws.length - 1)) 0 := m2 i (by omega)
      rw [List.getD_eq_getElem?_getD, hi] at this
      exact this
end
end L3

set_option Elab.async false
set_option linter.all false
set_option maxRecDepth 100000
set_option maxHeartbeats 2000000
/-! L3: sorted(d.items()). -/
namespace L3
open PySem PySem.Spec PyProof.Rows L2 LiI
open PySem.W (alike AllAlike Sortable dataLe EachIs sortVals_data each_map bound_map dataKind sortingHeap sortingHeap_old)
open PySem.Calls (call_function_entry)
variable [Mo]
section
variable {prog : Program} {w : World} {A : Around} {E : Value → Shared → Prop} {s : Shared} {β : Type} {vs : List Value} {bs : List β} {enc : β → PyData} {R : Value → β → Prop}
/-- xs.sort(), where what is read is older than the list -/
theorem list_sort_data' {a : Addr} {n : Nat} {Q : Value → Shared → Prop} (ho : s.heap.get? a = some (seqObj "list" vs.toArray n)) (e : EachIs R vs bs) (er' : EachIs (fun v b => ∃ as, Reads (sortingHeap s.heap a vs) v (enc b) as) vs bs) (hal : AllAlike (bs.map enc)) (hk : Sortable (bs.map enc)) (hL : bs.length ≤ sizeLine)
    (hu : ∀ b, b ∈ bs → A.units + 1 + (enc b).depth < cLine) (h : ∀ out, out.length = bs.length → EachIs R out (bs.mergeSort (dataLe false enc)) → Q .none { s with heap := sortedHeap s.heap a vs (List.toArray out) }) :
    wpAny (model prog w) A (call (.builtin "list.sort") [.ref a]) Q E s := by
  refine wpAny_call_entry slot_list_sort ⟨_, ho, rfl⟩ entry_list_sort (PySem.W.list_sort_vals (κ := dataKind (sortingHeap s.heap a vs) (bs.map enc)) ho (PySem.W.SortsAt.data (s := { s with heap := sortingHeap s.heap a vs }) (each_map (R := fun v d => ∃ as, Reads (sortingHeap s.heap a vs) v d as) enc er') hal hk (bound_map hu)) (by rw [e.length]; exact hL) ⟨.none, rfl, ?_⟩) (args_list_sort _)
  exact h _ (by rw [PySem.W.sortVals_length false rfl]; exact e.length) (sortVals_data false e er' hal)
end
section
variable {X : Cx}
theorem items_laid2 {pins : List (Addr × Obj)} {σ : L2.St} {H : Hp} {s : Shared} {h' : Heap} {tk : Nat} {kvs : List (Key × V)} {vs : List (Key × Value)} {as : List Addr} (I : Inv X pins σ H s) (kv : KV kvs vs)
    (hk : ∀ b o, s.heap.get? b = some o → h'.get? b = some o) (hl : as.length = vs.length) (hG : PySem.W.KdxG (mixKind X.prog X.w) vs s.heap.objs.size h' as) :
    ∃ H' : Hp, (∀ b o, H b = some o → H' b = some o) ∧ (∀ t ∈ as, H t = none) ∧ (∀ b, b ∉ as → H' b = H b) ∧ Paired (fun (t : Addr) (q : Key × V) => H' t = some (.tup [kV q.1, q.2])) as kvs ∧ Inv X pins σ H' { s with heap := h', toks := tk } := by
  have lk : kvs.length = vs.length := Paired.length kv
  have nd : as.Nodup := List.Pairwise.imp (fun {a b} (h : a < b) => Nat.ne_of_lt h) hG.rise
  have new : ∀ t ∈ as, H t = none := fun t ht => I.hok.fresh (Nat.le_of_lt (hG.above t ht))
  have atP := putT_at as kvs H (by omega) nd
  have off : ∀ b, b ∉ as → putT H as kvs b = H b := fun b h1 => putT_off as kvs _ h1
  have low : ∀ b o, s.heap.get? b = some o → b ∉ as := fun b o e => fun z => absurd (Heap.lt_size e) (Nat.not_lt.mpr (Nat.le_of_lt (hG.above b z)))
  have kp : ∀ b u, H b = some u → (putT H as kvs) b = some u := fun b u e => by
    rw [off b (fun z => by rw [new b z] at e; cases e)]
    exact e
  refine ⟨putT H as kvs, kp, new, off, atP, ?_⟩
  refine I.call' (ch := []) rfl ⟨fun b o q _ _ _ => hk b o q, fun b o q _ _ _ => ⟨o.slots, hk b o q⟩, fun b o q n _ => ?_, fun b o q _ => ⟨o, hk b o q⟩, fun b xs q => kp b _ q, fun b o u q => kp b _ q, fun b ps q => ⟨#[], by rw [kp b _ q]; simp⟩⟩ (fun b u q => ?_) I.bare fun b z => by simp at z
  · rw [off b (low b o q)]
    exact n
  · by_cases hb : b ∈ as
    · obtain ⟨j, pk, e1, e2, e3⟩ := paired_ix atP hb
      rw [e3] at q
      cases q
      obtain ⟨key, k, x, f1, f2, f3⟩ := hG.pairs j b e1
      obtain ⟨qv, g1, g2, g3⟩ := L2.paired_get kv e2
      rw [f1] at g1
      cases g1
      have rk : RelV (kV pk.1) key := by
        rw [g2]
        exact relV_key (show keyIs k key = true from f2)
      exact ⟨by show 2 ≤ sizeLine; decide, [key, x], .cons rk (.cons g3 .nil), ⟨_, f3, rfl, _, rfl⟩⟩
    · rw [off b hb] at q
      exact (I.hok b u q).stay (fun d v _ y => hk d v y) (fun d y => kp d _ y) fun d xs y => kp d _ y
/-- the pairs' readings -/
theorem pairs_rv {h : Hq} {H H' : Hp} (st : Stab h H h H') (nh : ∀ b, H b = none → h b = none) : ∀ {as : List Addr} {kvs : KVs} {us : List (Key × V)}, RKV h H kvs us → (∀ t ∈ as, H t = none) → Paired (fun (t : Addr) (q : Key × V) => H' t = some (.tup [kV q.1, q.2])) as us → RVs h H' (kvs.map fun kv => .tup [keyV kv.1, kv.2]) (as.map V.ref)
  | [], kvs, us, r, _, p => by
    cases p
    have := r.length
    cases kvs with
    | nil => exact .nil
    | cons _ _ => simp at this
  | a :: as, kvs, us, r, n, p => by
    cases p with
    | @cons _ u _ us p1 p2 =>
      cases kvs with
      | nil => have := r.length; simp at this
      | cons kv kvs =>
        obtain ⟨k, v⟩ := kv
        obtain ⟨y, t, e, r1, r2⟩ := r.un
        cases e
        refine .cons ⟨a, _, rfl, nh a (n a (by simp)), p1, .cons ?_ (.cons (RV.keep st r1) .nil)⟩ (pairs_rv st nh r2 (fun t ht => n t (by simp [ht])) p2)
        cases k <;> rfl
def tItemsS (fz : Bool) (te : TE) : TE := fun σ H Q => te σ H fun x H1 => ∃ (d : Addr) (us : List (Key × V)) (h : Hq) (kvs : KVs) (ds : List PyData), x = .ref d ∧ Rd H1 d (.dK us) ∧ RH h H1 ∧ RKV h H1 kvs us ∧ mapO (dt1 h) (kvs.map fun kv => .tup [keyV kv.1, kv.2]) = some ds ∧
  AllAlike ds ∧ Sortable ds ∧ shp ds ∧ Out.w (KQ h H1 Q) (.al fz ((kvs.map fun kv => Val.tup [keyV kv.1, kv.2]).mergeSort (dataLe false (dtD h))) h)
theorem pe_itemsS {obj : Expr} {q0 q1 q2 q3 : Pos} {tt : TE} {fz : Bool} (kk : X.K = Mo.K) (calm : X.calm = true) (hu : X.A.units + 70 < cLine) (g1 : Gl X "sorted") (g2 : X.mg "sorted" = none) (pd : PE X obj tt) (bs : attributeBase obj "items" X.env (eval obj X.env) = eval obj X.env) (ln : (q2.endLine == q3.line) = true)
    (st : starEach [Expr.Call (.Attribute obj "items" q2) [] [] q3] X.env = [(false, eval (Expr.Call (.Attribute obj "items" q2) [] [] q3) X.env)] := by rfl) :
    PE X (.Call (.Name "sorted" q0) [.Call (.Attribute obj "items" q2) [] [] q3] [] q1) (tItemsS fz tt) := by
  refine ⟨fun pins sh σ H Q inv hq => ?_⟩
  refine wpAny_Call_Name_kw (ld_blt inv g1 g2 (u := .builtin "sorted") (by first | rfl | decide +kernel) ?_ (by first | decide +kernel | decide) (by first | decide +kernel | decide))
  rw [st]
  refine PySem.callWith_builtin1 (wpAny_Call_method0_late bs ln (thn (pd.run pins sh σ H _ inv hq) fun v s2 ⟨x, HH, inv2, rx, b, us, h, kvs, ds, e0, at0, rh, rkv, eds, hal, hkk, hsh, fin⟩ => ?_))
  subst e0
  obtain rfl : v = Value.ref b := rx
  obtain ⟨hz, sysm, ws, rl, dOf⟩ := dk_rd inv2.hok at0
  obtain ⟨ep, dAt⟩ := dOf.dictAt
  have dAt2 := dAt
  obtain ⟨ob, ents, gb, exct, _, _, _, _⟩ := dAt2
  have lk : us.length = ws.length := Paired.length rl
  refine ⟨"dict", "dict.items", F.plainAttrs_dict, F.slot_dict_items, F.type_dict_items, ⟨ob, gb, exct.1⟩, fun c ec => ?_, Calls.callWith_builtin rfl (PySem.evalArgs_none ?_)⟩
  · cases ec
    exact ⟨ob, gb, exct.2.1⟩
  refine call_meetsIn F.slot_dict_items ⟨ob, gb, exct.1⟩ F.entry_dict_items (F.args_dict_items_1 _) (meets_dict_items (mixKind X.prog X.w) b sysm) ⟨⟨ws, dOf⟩, ?_⟩
  have I2 : Inv X pins σ HH { s2 with heap := s2.heap.push { cls := .type "dict_items", data := .fields #[.ref b] } } := inv2.kept (t' := s2.toks) fun b ob q => Heap.get?_push_of_some _ q
  refine call_function_entry kind_sorted plain_sorted entry_sorted (args_sorted1 _) ?_
  unfold Builtin.«sorted»
  refine wpAny_bind (m := checkCount "sorted" 1 1 _) (wpAny_pure ?_)
  refine wpAny_bind (PySem.W.kdx_collect (A := X.A.in1) (knd := mixKind X.prog X.w) (kvs := ws) (ep := ep) (inv2.ok.hd calm) ⟨_, Heap.get?_push_size _ rfl, rfl, rfl⟩ (dAt.keep fun c u e => Heap.get?_push_of_some _ e) (by omega) fun h' tk as hk hl hG => ?_)
  obtain ⟨H', kp, new, off, atP, J⟩ := items_laid2 (tk := tk) I2 rl hk hl hG
  refine wpAny_bind (wpAny_newList ?_ (by rw [List.length_map, hl, ← lk]; exact hz))
  have stb : Stab h HH h H' := fun c u e m => ⟨kp c u e, m⟩
  have nh : ∀ c, HH c = none → h c = none := fun c e => rh.free e
  have rvs := pairs_rv stb nh rkv new atP
  have rh' : RH h H' := fun c cc e => (rh c cc e).keep stb (by obtain ⟨o, q⟩ := (rh c cc e).some; rw [kp _ _ q, q])
  have lpq : (kvs.map fun kv => Val.tup [keyV kv.1, kv.2]).length ≤ sizeLine := by rw [List.length_map, rkv.length]; exact hz
  have hv : Vals (as.map V.ref) (as.map Value.ref) := LiI.vals_refs as
  have ed := mapO_dtD eds
  subst ed
  have ea := each_of rvs hv
  have er0 := each_reads kk J rh' eds ea
  have hpu : ∀ (b : Addr) (o : Obj), h'.get? b = some o → (sortingHeap (h'.push { cls := .type "list", data := .seq (as.map Value.ref).toArray }) h'.objs.size (as.map Value.ref)).get? b = some o := fun b o e =>
    sortingHeap_old (Nat.ne_of_lt (Heap.lt_size e)) (Heap.get?_push_of_some _ e)
  have er : EachIs (fun v b => ∃ as', Reads (sortingHeap (h'.push { cls := .type "list", data := .seq (as.map Value.ref).toArray }) h'.objs.size (as.map Value.ref)) v (dtD h b) as') (as.map Value.ref) (kvs.map fun kv => Val.tup [keyV kv.1, kv.2]) := er0.mono fun _ _ ⟨as', r⟩ => ⟨as', PyProof.Rows.Reads.keeps hpu r⟩
  refine wpAny_bind (wpAny_holding (wpAny_mono (list_sort_data' (s := { s2 with heap := h'.push { cls := .type "list", data := .seq (as.map Value.ref).toArray }, toks := tk }) (A := X.A.in1) (n := 0) (R := fun u w => ∃ x, RelV x u ∧ RV h H' w x) (enc := dtD h) (Q := fun v sx => ∃ out, v = .none ∧ sx = { s2 with heap := sortedHeap (h'.push { cls := .type "list", data := .seq (as.map Value.ref).toArray }) h'.objs.size (as.map Value.ref) (List.toArray out), toks := tk } ∧ EachIs (fun u w => ∃ x, RelV x u ∧ RV h H' w x) out ((kvs.map fun kv => Val.tup [keyV kv.1, kv.2]).mergeSort (dataLe false (dtD h)))) (Heap.get?_push_size _ rfl) ea er hal hkk lpq (fun b hb => ?_) fun out h1 h2 => ⟨out, rfl, rfl, h2⟩) (fun _ s' x => ?_) fun _ _ e => e))
  · have := shp_depth (hsh _ (List.mem_map.mpr ⟨b, hb, rfl⟩))
    have h1 : X.A.in1.units ≤ X.A.units + 1 := Nat.le_refl _
    omega
  obtain ⟨out, rfl, rfl, h2⟩ := x
  refine wpAny_pure ?_
  obtain ⟨vs', k1, k2⟩ := each_back h2
  obtain ⟨ep2, he2⟩ := PyProof.Rows.sortedHeap_at (out := List.toArray out) (vs := as.map Value.ref) (n := 0) (h := h'.push { cls := .type "list", data := .seq (as.map Value.ref).toArray }) (a := h'.objs.size) (Heap.get?_push_size _ rfl)
  have hl2 : vs'.length ≤ sizeLine := by rw [← k1.length, List.length_mergeSort]; exact lpq
  have hold : ∀ (c : Addr) (u : Obj), h'.get? c = some u → (sortedHeap (h'.push { cls := .type "list", data := .seq (as.map Value.ref).toArray }) h'.objs.size (as.map Value.ref) (List.toArray out)).get? c = some u := fun c u e => by
    have lt := Heap.lt_size e
    rw [PyProof.Rows.sortedHeap_old (Nat.ne_of_lt lt) (by rw [Heap.size_push]; exact Nat.lt_succ_of_lt lt)]
    exact Heap.get?_push_of_some _ e
  have J2 : Inv X pins σ (upd H' h'.objs.size (.lst vs')) { s2 with heap := sortedHeap (h'.push { cls := .type "list", data := .seq (as.map Value.ref).toArray }) h'.objs.size (as.map Value.ref) (List.toArray out), toks := tk } := J.laid (a := h'.objs.size) (o := .lst vs') (t' := tk) hold (Nat.le_refl _) ⟨hl2, out, ep2, k2, he2⟩
  refine ⟨_, rfl, .ref h'.objs.size, upd H' h'.objs.size (.lst vs'), J2, rfl, ?_⟩
  have fin' : Out.w (KQ h H' Q) (.al fz ((kvs.map fun kv => Val.tup [keyV kv.1, kv.2]).mergeSort (dataLe false (dtD h))) h) := by
    cases fz with
    | true => exact (show KQ h HH Q _ h from fin).later stb
    | false => exact fun p hp => ((show ∀ p, h p = none → KQ h HH Q (.ref p) (up h p (.lst _)) from fin) p hp).later stb
  exact out_list rh' k1 fin' _ (J.hok.fresh (Nat.le_refl _))
/-! ### len(set(xs)) -/
theorem intsAre_vals : ∀ {ns : List Int} {us : List Value}, Vals (ns.map V.int) us → PyProof.Rows.IntsAre us ns
  | [], _, .nil => .nil
  | n :: ns, _, .cons r t => by
    obtain ⟨k, rfl⟩ := r
    exact .cons n k (intsAre_vals t)
def tLenSet (K : PySem.W.Frag) (ta : TE) : TE := fun σ H Q => ta σ H fun x H1 => ∃ (l : Addr) (ns : List Int), x = V.ref l ∧ SqL K H1 l (ns.map V.int) ∧ ns.length ≤ 1000 ∧ Q (.int (dlen ns : Nat)) H1
theorem pe_lenSet {a : Expr} {ta : TE} {p p2 q pos : Pos} (hc : X.calm = true) (hg : Gl X "len") (hm : X.mg "len" = none) (hg2 : Gl X "set") (hm2 : X.mg "set" = none) (ha : PE X a ta)
    (na : starEach [a] X.env = (false, eval a X.env) :: starEach [] X.env := by rfl) : PE X (.Call (.Name "len" p) [.Call (.Name "set" p2) [a] [] q] [] pos) (tLenSet X.K ta) := by
  refine ⟨fun pins s σ H Q I h => ?_⟩
  refine Call_ (ld_blt I hg hm PySem.boot_len ?_)
  refine PyProof.Rows.callWith_builtin1 (PyProof.Rows.args_cons ?_ rfl) rfl rfl
  refine Call_ (ld_blt I hg2 hm2 PyProof.Rows.boot_set ?_)
  refine PyProof.Rows.callWith_type1 (PyProof.Rows.args_cons (thn (ha.run pins s σ H _ I h) fun v s1 ⟨x, H1, I1, r1, q1⟩ => PyProof.Rows.args_nil ?_) na) na rfl
  obtain ⟨l, ns, rfl, hq, h1, q1⟩ := q1
  cases r1
  obtain ⟨its, r, pl, hz⟩ := I1.list hq
  have hl : its.toArray.size = ns.length := by rw [List.size_toArray, ← r.length, List.length_map]
  refine call_set_list (I1.ok.hd hc) pl.isList (ns := ns) (by simpa using intsAre_vals r) (by unfold scanBound; omega) fun h' tk hS hk => ?_
  rw [hl] at hS
  refine PyProof.Rows.args_nil ?_
  obtain ⟨o, es, ep, t, ho, hex, hd, _, _, _, hf, hn⟩ := hS
  have hle : (PyProof.Rows.firstMet (fun i => ns.getD i 0) ns.length).length ≤ ns.length := PyProof.Rows.firstMet_length_le _ _
  have I2 : Inv X pins σ H1 { s1 with heap := h', toks := tk } := I1.kept fun b o e => hk b o (Heap.lt_size e) e
  exact call_len_set ho hex hd hf (by rw [hn] <;> omega) ⟨.int (dlen ns : Nat), H1, I2.tok _, ⟨_, by rw [hn]; rfl⟩, q1⟩
end
end L3

set_option Elab.async false
set_option linter.all false
set_option maxRecDepth 100000
/-! L3, sorted(set(xs)), xs a list of ints. -/
namespace L2
open PySem PySem.Spec PyProof.Rows
/-- a new set's object -/
abbrev newSetO (w : World) : Obj := { cls := .type "set", dict := none, data := .set #[] 0 (.fresh 0 0 (!w.params.followText "set-order")) }
section
variable {P : Program} {w : World} {A : Around} {E : Value → Shared → Prop} {z : Shared}
/-- what the first i of the numbers are -/
def SeenI (ns : List Int) (i : Nat) (S : Int → Bool) (m : Nat) : Prop := m ≤ i ∧ ∀ k, S k = true ↔ k ∈ ns.take i
theorem SeenI.more {ns : List Int} {i : Nat} {S : Int → Bool} {m : Nat} {x : Int} (g : SeenI ns i S m) (hx : ns[i]? = some x) : SeenI ns (i + 1) (fun j => S j || decide (j = x)) (if S x = true then m else m + 1) := by
  obtain ⟨g1, g2⟩ := g
  refine ⟨by split <;> omega, fun k => ?_⟩
  rw [List.take_add_one, hx]
  simp only [Bool.or_eq_true, decide_eq_true_eq, g2 k, Option.toList_some, List.mem_append, List.mem_singleton]
theorem set_upd_listI {I : Addr} {fp wr : List Addr} {G : Array GenState → Array GenState → Prop} {n : Nat} {Pv : Nat → Value → Prop} {St : Nat → Shared → Prop} {R : Result → Shared → Prop}
    (W : WalksS P w A.in1 I fp wr G n Pv St) (T : Addr) (hT : T ∉ fp) (ns : List Int) (hn : n = ns.length) (hfew : ns.length < 64) (hval : ∀ i v, Pv i v → ∃ x t, ns[i]? = some x ∧ v = .int x t) :
    ∀ (k i : Nat) (y : Shared), n - i = k → i ≤ n → St i y → (∃ S m, SetR w y.heap T S m ∧ SeenI ns i S m) →
      (∀ y' S m, Moved (T :: wr) G y y' → SetR w y'.heap T S m → SeenI ns n S m → R (.ok (.ret .none)) y') →
      codeAny (model P w) A (.builtin "set.update.loop" ⟨[.ref T, .ref I], []⟩) R y := by
  have nw : T ∉ wr := fun q => hT (W.sub _ q)
  have more : ∀ b ∈ wr, b ∈ T :: wr := fun b hb => List.mem_cons_of_mem _ hb
  intro k
  induction k with
  | zero =>
    intro i y ek hi hst ⟨S, m, hS, g⟩ hR
    have ein : i = n := by omega
    subst ein
    refine codeAny_builtin F.entry_set_update_loop ?_
    rw [Around.under_plainId F.plain_set_update_loop _]
    show wpAny _ A.in1 (pyNext (.ref I) >>= _) _ _ y
    refine wpAny_bind (W.done y _ _ hst fun y' mv => ?_)
    show wpAny _ A.in1 (ret Value.none) _ _ y'
    exact wpAny_pure (hR y' S m (mv.mono more) (hS.at fun o e => mv.heap T o nw e) g)
  | succ k ih =>
    intro i y ek hi hst ⟨S, m, hS, g⟩ hR
    have hlt : i < n := by omega
    refine codeAny_builtin F.entry_set_update_loop ?_
    rw [Around.under_plainId F.plain_set_update_loop _]
    show wpAny _ A.in1 (pyNext (.ref I) >>= _) _ _ y
    refine wpAny_bind (W.item i y _ _ hlt hst fun v y' hP hst' mv => ?_)
    obtain ⟨x, t, hx, rfl⟩ := hval i v hP
    have hS' : SetR w y'.heap T S m := hS.at fun o e => mv.heap T o nw e
    show wpAny _ A.in1 (holding [Value.int x t] (setAdd T (.int x t)) >>= _) _ _ y'
    refine wpAny_bind (wpAny_holding ?_)
    unfold setAdd
    refine wpAny_holding ?_
    refine wpAny_bind ((intKind P w).pyHash (k := x) (intKind_is _ _ _ _) ?_)
    refine setR_add_hashed (P := P) (s := { y' with toks := y'.toks + 1 }) hS' (by have := g.1; unfold scanBound; omega) fun h' sb r => ?_
    refine wpAny_pure ⟨plainId_quiet F.plain_set_update_loop _, ih (i + 1) _ (by omega) hlt (W.frame _ y' _ _ hst' (Nat.le_succ _) fun b hb o e => ?_) ⟨_, _, r, g.more hx⟩ fun y2 S2 m2 mv2 hS2 g2 => ?_⟩
    · rw [sb.2 b (fun q : b = T => hT (by rw [← q]; exact hb))]
      exact e
    · refine hR y2 S2 m2 (Moved.trans W.gtrans ((mv.mono more).then_heap (Nat.le_succ _) fun b o hb e => ?_) mv2) hS2 g2
      rw [sb.2 b (fun q : b = T => hb (by rw [q]; exact List.mem_cons_self))]
      exact e

set_option maxRecDepth 100000 in
set_option maxHeartbeats 3200000 in
/-- set(xs), with its table -/
theorem call_set_listR {l : Addr} {items : Array Value} {ns : List Int} {Q : Value → Shared → Prop} (hh : A.handled = none) (hl : z.heap.IsList l items) (hit : IntsAre items.toList ns) (hfew : ns.length < 64)
    (q : ∀ (h' : Heap) (tk : Nat) S m, SetR w h' z.heap.objs.size S m → SeenI ns ns.length S m → (∀ b o, z.heap.get? b = some o → h'.get? b = some o) → Q (.ref z.heap.objs.size) { z with heap := h', toks := tk }) :
    wpAny (model P w) A (call (.type "set") [.ref l]) Q E z := by
  have isz : items.size = ns.length := by
    have e := hit.length
    rw [Array.length_toList] at e
    exact e
  obtain ⟨c, tl, mro⟩ := F.called_set.mro
  have made := F.called_set.made
  have subs := F.called_set.sub
  refine wpAny_call (codeAny_of_tree ?_)
  show wpAny _ _ (callAny (.type "set") _) _ _ _
  refine wpAny_pure ⟨Code.quiet_builtin _ (by decide +kernel), codeAny_builtin F.entry_type_call ?_⟩
  rw [Around.under_plain (weight_type_call_type "set" [.ref l] []) rfl]
  have f1 := F.called_set.notType
  have f2 := F.called_set.canCreate
  have f3 := F.typeCall_set_1 (.ref l)
  repeat (any_goals (first | assumption | wp_step))
  refine codeAny_mono (code_set_led1 (.ref l) (E := E) (Q₁ := fun obj y => obj = .ref z.heap.objs.size ∧ y = { z with heap := z.heap.push (newSetO w) }) ⟨rfl, rfl⟩) fun r y hr => ?_
  cases r with
  | error e => exact hr
  | ok fl =>
    cases fl with
    | ret obj =>
      obtain ⟨rfl, rfl⟩ := hr
      have gS : (z.heap.push (newSetO w)).get? z.heap.objs.size = some (newSetO w) := Heap.get?_push_size _ rfl
      have gT : Shared.TypeIs { z with heap := z.heap.push (newSetO w) } (.ref z.heap.objs.size) "set" := ⟨_, gS, rfl⟩
      have gl := F.called_set.init.lookup
      have gb := F.called_set.init.bind (.ref z.heap.objs.size)
      repeat (any_goals (first | assumption | wp_step))
      refine codeAny_mono (codeAny_call_builtin (R := wants (fun r y₂ => r = .none ∧ ∃ h' tk S m, y₂ = { z with heap := h', toks := tk } ∧ SetR w h' z.heap.objs.size S m ∧ SeenI ns ns.length S m ∧
          (∀ b o, z.heap.get? b = some o → h'.get? b = some o)) E) F.called_set.init.plain F.entry_set_init (check_set_init_1 gT ?_)) fun r₂ y₂ hr₂ => ?_
      · obtain ⟨ol, gol, gcl, nl, gdl⟩ := hl
        obtain ⟨ocls, odict, odata, oslots⟩ := ol
        simp only at gcl gdl
        subst gcl
        subst gdl
        have gol' : (z.heap.push (newSetO w)).get? l = some { cls := .type "list", dict := odict, data := .seq items nl, slots := oslots } := Heap.get?_push_of_some _ gol
        have k1 := F.sub_list_set
        have k2 := F.sub_list_frozenset
        have k3 : (Value.type "list" == Value.type "dict") = false := by decide
        have k4 : (z.heap.push (newSetO w)).IsList l items := ⟨_, gol', rfl, nl, rfl⟩
        unfold Builtin.«set.__init__» noKeywords Builtin.Frozenset.updateFrom
        generalize hPI : pyIter = PI
        wp_walk
        subst hPI
        refine wpAny_pyIter_list k4 ?_
        refine wpAny_bind (wpAny_runValue ?_)
        have ltS : l < z.heap.objs.size := Heap.lt_size gol
        have h3 : A.in1.in1.in1.handled = none := by simp [hh]
        have neI : l ≠ (z.heap.push (newSetO w)).objs.size := by
          rw [Heap.size_push]
          exact Nat.ne_of_lt (Nat.lt_succ_of_lt ltS)
        have nS : z.heap.objs.size ∉ [(z.heap.push (newSetO w)).objs.size, l] := by
          rw [Heap.size_push]
          simp only [List.mem_cons, List.mem_singleton, List.not_mem_nil, or_false, not_or]
          exact ⟨Nat.ne_of_lt (Nat.lt_succ_self _), Nat.ne_of_gt ltS⟩
        have val : ∀ (i : Nat) (v : Value), items[i]? = some v → ∃ x t, ns[i]? = some x ∧ v = .int x t := fun i v hv => by
          obtain ⟨t, e⟩ := IntsAre.int_at hit i v (by rw [Array.getElem?_toList]; exact hv)
          have hi : i < ns.length := by
            have := (Array.getElem?_eq_some_iff.mp hv).1
            omega
          refine ⟨ns[i], t, List.getElem?_eq_getElem hi, ?_⟩
          rw [e, List.getD_eq_getElem?_getD, List.getElem?_eq_getElem hi]
          rfl
        refine set_upd_listI ((Walks.list h3 _ l neI items).toS) z.heap.objs.size nS ns isz hfew val (items.size - 0) 0 _ (by omega) (Nat.zero_le _)
          ⟨⟨_, Heap.get?_push_size _ rfl, rfl, rfl⟩, (k4.push _)⟩ ?hS0 ?hR
        case hS0 =>
          refine ⟨_, 0, (setR_fresh w).at fun o e => Heap.get?_push_of_some _ e, Nat.le_refl _, fun k => ?_⟩
          simp
        case hR =>
          intro y' S m mv hS' g'
          obtain ⟨h', g2, d', tk', os'⟩ := y'
          have eg : g2 = z.gens := mv.gens
          have ed : d' = z.drawn := mv.drawn
          have eo : os' = z.os := mv.os
          subst eg
          subst ed
          subst eo
          show wpAny _ _ _ _ _ _
          refine wpAny_pure ?_
          show wpAny _ _ (ret Value.none) _ _ _
          rw [isz] at g'
          refine wpAny_pure ⟨rfl, h', tk', S, m, rfl, hS', g', fun b o e => ?_⟩
          have lt := Heap.lt_size e
          have n1 : b ≠ z.heap.objs.size := Nat.ne_of_lt lt
          have n2 : b ≠ (z.heap.push (newSetO w)).objs.size := by
            rw [Heap.size_push]
            exact Nat.ne_of_lt (Nat.lt_succ_of_lt lt)
          exact mv.heap b o (by simp only [List.mem_cons, List.mem_singleton, List.not_mem_nil, or_false, not_or]; exact ⟨n1, n2⟩) (Heap.get?_push_of_some _ (Heap.get?_push_of_some _ e))
      · cases r₂ with
        | error e => exact hr₂
        | ok fl₂ =>
          cases fl₂ with
          | ret r =>
            obtain ⟨rfl, h', tk, S, m, rfl, hS', g', kp⟩ := hr₂
            repeat (any_goals (first | assumption | wp_step))
            exact q _ _ _ _ hS' g' kp
          | _ => exact hr₂.elim
    | _ => exact hr.elim
end
end L2
namespace L3
open PySem PySem.Spec PyProof.Rows L2
section
variable {X : Cx}
def tSortSet (K : PySem.W.Frag) (ta : TE) : TE := fun σ H Q => ta σ H fun x H1 => ∃ (l : Addr) (ns : List Int), x = V.ref l ∧ SqL K H1 l (ns.map V.int) ∧ ns.length < 64 ∧
  ∀ (ms : List Int) (p : Addr), ms.Pairwise (· < ·) → (∀ k, k ∈ ms ↔ k ∈ ns) → H1 p = none → Q (.ref p) (upd H1 p (.lst (ms.map V.int)))
theorem pe_sortSet {a : Expr} {ta : TE} {p p2 q pos : Pos} (hc : X.calm = true) (hg : Gl X "sorted") (hm : X.mg "sorted" = none) (hg2 : Gl X "set") (hm2 : X.mg "set" = none) (ha : PE X a ta)
    (na : starEach [a] X.env = (false, eval a X.env) :: starEach [] X.env := by rfl) : PE X (.Call (.Name "sorted" p) [.Call (.Name "set" p2) [a] [] q] [] pos) (tSortSet X.K ta) := by
  refine ⟨fun pins s σ H Q I h => ?_⟩
  refine Call_ (ld_blt I hg hm PyProof.Rows.boot_sorted ?_)
  refine PyProof.Rows.callWith_builtin1 (PyProof.Rows.args_cons ?_ rfl) rfl rfl
  refine Call_ (ld_blt I hg2 hm2 PyProof.Rows.boot_set ?_)
  refine PyProof.Rows.callWith_type1 (PyProof.Rows.args_cons (thn (ha.run pins s σ H _ I h) fun v s1 ⟨x, H1, I1, r1, q1⟩ => PyProof.Rows.args_nil ?_) na) na rfl
  obtain ⟨l, ns, rfl, hq, h1, q1⟩ := q1
  cases r1
  obtain ⟨its, r, pl, hz⟩ := I1.list hq
  refine call_set_listR (I1.ok.hd hc) pl.isList (ns := ns) (by simpa using r.ints) h1 fun h' tk S m R g hk => ?_
  refine PyProof.Rows.args_nil ?_
  have I2 : Inv X pins σ H1 { s1 with heap := h', toks := tk } := I1.kept fun b o e => hk b o e
  have hm' := g.1
  have R2 : SetR X.w ({ s1 with heap := h', toks := tk } : Shared).heap s1.heap.objs.size S m := R
  generalize ({ s1 with heap := h', toks := tk } : Shared) = y at I2 R2 ⊢
  refine sorted_set (s := y) R2 (I2.ok.hd hc) (by omega) fun s' p out c ms k g2 o hp hgp hi hs hmem hl => ?_
  have hlen : (ms.map V.int).length ≤ sizeLine := by rw [List.length_map, hl, sizeLine_eq]; omega
  have hn : H1 p = none := I2.hok.fresh hp
  have J : Inv X pins σ (upd H1 p (.lst (ms.map V.int))) { y with heap := s'.heap, gens := s'.gens, drawn := s'.drawn, toks := s'.toks } :=
    I2.call (ch := []) (Un.laid k hp hn) (I2.hok.laid k hp ⟨hlen, out.toList, c, vals_of_ints hi, hgp⟩) (by rw [g2]; exact I2.bare) (fun _ z => nomatch z)
  have e : s' = { y with heap := s'.heap, gens := s'.gens, drawn := s'.drawn, toks := s'.toks } := by
    cases s'
    cases y
    cases o
    rfl
  rw [e]
  exact ⟨.ref p, _, J, rfl, q1 ms p hs (fun k => by rw [hmem k, g.2 k, List.take_length]) hn⟩
end
theorem insI_mem {x k : Int} : ∀ {l : List Int}, k ∈ insI x l ↔ k = x ∨ k ∈ l
  | [] => by simp [insI]
  | y :: r => by
    unfold insI
    split
    · simp
    · split
      · rename_i e
        subst e
        simp
      · simp only [List.mem_cons, insI_mem (l := r)]
        constructor
        · rintro (h | h | h)
          · exact .inr (.inl h)
          · exact .inl h
          · exact .inr (.inr h)
        · rintro (h | h | h)
          · exact .inr (.inl h)
          · exact .inl h
          · exact .inr (.inr h)
theorem insI_lt {x : Int} : ∀ {l : List Int}, l.Pairwise (· < ·) → (insI x l).Pairwise (· < ·)
  | [], _ => by simp [insI]
  | y :: r, h => by
    obtain ⟨h1, h2⟩ := List.pairwise_cons.mp h
    unfold insI
    split
    · rename_i c
      exact List.pairwise_cons.mpr ⟨fun z hz => by
        rcases List.mem_cons.mp hz with e | m
        · rw [e]; exact c
        · have := h1 z m; omega, h⟩
    · split
      · exact h
      · exact List.pairwise_cons.mpr ⟨fun z hz => by
          rcases insI_mem.mp hz with e | m
          · omega
          · exact h1 z m, insI_lt h2⟩
theorem ssetI_mem {k : Int} : ∀ {ns : List Int}, k ∈ ssetI ns ↔ k ∈ ns
  | [] => by simp [ssetI]
  | x :: r => by
    show k ∈ insI x (ssetI r) ↔ _
    rw [insI_mem, ssetI_mem, List.mem_cons]
theorem ssetI_lt : ∀ ns : List Int, (ssetI ns).Pairwise (· < ·)
  | [] => List.Pairwise.nil
  | x :: r => insI_lt (ssetI_lt r)
theorem lt_uniq : ∀ {a b : List Int}, a.Pairwise (· < ·) → b.Pairwise (· < ·) → (∀ k, k ∈ a ↔ k ∈ b) → a = b
  | [], [], _, _, _ => rfl
  | [], y :: r, _, _, h => absurd ((h y).mpr (by simp)) (by simp)
  | x :: r, [], _, _, h => absurd ((h x).mp (by simp)) (by simp)
  | x :: r, y :: t, ha, hb, h => by
    obtain ⟨a1, a2⟩ := List.pairwise_cons.mp ha
    obtain ⟨b1, b2⟩ := List.pairwise_cons.mp hb
    have e : x = y := by
      rcases List.mem_cons.mp ((h x).mp (by simp)) with e | m
      · exact e
      · rcases List.mem_cons.mp ((h y).mpr (by simp)) with e | m2
        · exact e.symm
        · have := b1 x m
          have := a1 y m2
          omega
    subst e
    rw [lt_uniq a2 b2 fun k => ?_]
    constructor
    · intro m
      rcases List.mem_cons.mp ((h k).mp (by simp [m])) with e | m2
      · have := a1 k m; omega
      · exact m2
    · intro m
      rcases List.mem_cons.mp ((h k).mpr (by simp [m])) with e | m2
      · have := b1 k m; omega
      · exact m2
end L3

set_option Elab.async false
set_option linter.all false
set_option maxRecDepth 100000
/-! L3, part 6: does a piece of the small language say what a piece of the text says? -/
namespace L3
open PySem PySem.Spec PyProof.Rows L2

/-! ### views -/
def asName : Expr → Option Str | .Name x _ => some x | _ => none
def asInt : Expr → Option Int | .Constant (.int i) _ _ => some i | _ => none
def asBl : Expr → Option Bool | .Constant (.bool i) _ _ => some i | _ => none
def asNon : Expr → Bool | .Constant .none _ _ => true | _ => false
def asStr3 : Expr → Option Str | .Constant (.str i) _ _ => some i | _ => none
def asBin : Expr → Option (Expr × Operator × Expr) | .BinOp l o r _ => some (l, o, r) | _ => none
def asUn : Expr → Option (UnaryOp × Expr) | .UnaryOp o r _ => some (o, r) | _ => none
def asCmp : Expr → Option (Expr × List CmpOp × List Expr) | .Compare l o r _ => some (l, o, r) | _ => none
def asBop : Expr → Option (BoolOp × List Expr) | .BoolOp o r _ => some (o, r) | _ => none
def asIf : Expr → Option (Expr × Expr × Expr) | .IfExp t a b _ => some (t, a, b) | _ => none
def asTup : Expr → Option (List Expr) | .Tuple es _ _ => some es | _ => none
def asLst : Expr → Option (List Expr) | .List es _ => some es | _ => none
def asDic0 : Expr → Bool | .Dict [] [] _ => true | _ => false
def asDic2 : Expr → Option (Expr × Expr × Expr × Expr) | .Dict [some k, some k2] [v, v2] _ => some (k, v, k2, v2) | _ => none
def asDic1 : Expr → Option (Expr × Expr) | .Dict [some k] [v] _ => some (k, v) | _ => none
def asSub : Expr → Option (Expr × Expr) | .Subscript v s _ => some (v, s) | _ => none
def asSlc : Expr → Option (Option Expr × Option Expr) | .Slice l u none _ => some (l, u) | _ => none
/-- a plain call: no keywords -/
def asCall : Expr → Option (Expr × List Expr × Pos) | .Call f es [] p => some (f, es, p) | _ => none
def asAttr : Expr → Option (Expr × Str × Pos) | .Attribute v n p => some (v, n, p) | _ => none
def asLC : Expr → Option (Expr × Expr × Expr × List Expr × Scope) | .ListComp e [⟨t, i, c, 0⟩] s _ => some (e, t, i, c, s) | _ => none
def isSlice : Expr → Bool | .Slice _ _ _ _ => true | _ => false
def isStar : Expr → Bool | .Starred _ _ => true | _ => false
def isSet : Expr → Bool | .Set _ _ _ => true | _ => false
/-- a call with default=None -/
def asMxd : Expr → Option (Expr × Expr × Pos) | .Call f [a] [⟨some d, .Constant .none _ _, _⟩] p => if d = Str.ofString "default" then some (f, a, p) else none | _ => none
def isComp : Expr → Bool | .ListComp .. => true | .SetComp .. => true | .DictComp .. => true | _ => false
def isTupD : Expr → Bool | .Tuple .. => true | _ => false
def isLstD : Expr → Bool | .List .. => true | _ => false
def isCall0 : Expr → Bool | .Call _ [] _ _ => true | _ => false
section
variable {pe : Expr}
theorem asName_is {x} (h : asName pe = some x) : ∃ p, pe = .Name x p := by cases pe <;> first | (cases h; done) | (cases h; exact ⟨_, rfl⟩)
theorem asInt_is {x} (h : asInt pe = some x) : ∃ k p, pe = .Constant (.int x) k p := by
  cases pe <;> first | (cases h; done) | skip
  rename_i c _ _; cases c <;> first | (cases h; done) | (cases h; exact ⟨_, _, rfl⟩)
theorem asBl_is {x} (h : asBl pe = some x) : ∃ k p, pe = .Constant (.bool x) k p := by
  cases pe <;> first | (cases h; done) | skip
  rename_i c _ _; cases c <;> first | (cases h; done) | (cases h; exact ⟨_, _, rfl⟩)
theorem asNon_is (h : asNon pe = true) : ∃ k p, pe = .Constant .none k p := by
  cases pe <;> first | (cases h; done) | skip
  rename_i c _ _; cases c <;> first | (cases h; done) | exact ⟨_, _, rfl⟩
theorem asStr3_is {x} (h : asStr3 pe = some x) : ∃ k p, pe = .Constant (.str x) k p := by
  cases pe <;> first | (cases h; done) | skip
  rename_i c _ _; cases c <;> first | (cases h; done) | (cases h; exact ⟨_, _, rfl⟩)
theorem asBin_is {x y z} (h : asBin pe = some (x, y, z)) : ∃ p, pe = .BinOp x y z p := by cases pe <;> first | (cases h; done) | (cases h; exact ⟨_, rfl⟩)
theorem asUn_is {x y} (h : asUn pe = some (x, y)) : ∃ p, pe = .UnaryOp x y p := by cases pe <;> first | (cases h; done) | (cases h; exact ⟨_, rfl⟩)
theorem asCmp_is {x y z} (h : asCmp pe = some (x, y, z)) : ∃ p, pe = .Compare x y z p := by cases pe <;> first | (cases h; done) | (cases h; exact ⟨_, rfl⟩)
theorem asBop_is {x y} (h : asBop pe = some (x, y)) : ∃ p, pe = .BoolOp x y p := by cases pe <;> first | (cases h; done) | (cases h; exact ⟨_, rfl⟩)
theorem asIf_is {x y z} (h : asIf pe = some (x, y, z)) : ∃ p, pe = .IfExp x y z p := by cases pe <;> first | (cases h; done) | (cases h; exact ⟨_, rfl⟩)
theorem asTup_is {x} (h : asTup pe = some x) : ∃ k p, pe = .Tuple x k p := by cases pe <;> first | (cases h; done) | (cases h; exact ⟨_, _, rfl⟩)
theorem asLst_is {x} (h : asLst pe = some x) : ∃ p, pe = .List x p := by cases pe <;> first | (cases h; done) | (cases h; exact ⟨_, rfl⟩)
theorem asDic0_is (h : asDic0 pe = true) : ∃ p, pe = .Dict [] [] p := by
  unfold asDic0 at h
  split at h
  · exact ⟨_, rfl⟩
  · cases h
theorem asDic2_is {x y x2 y2} (h : asDic2 pe = some (x, y, x2, y2)) : ∃ p, pe = .Dict [some x, some x2] [y, y2] p := by
  unfold asDic2 at h
  split at h
  · cases h; exact ⟨_, rfl⟩
  · cases h
theorem asDic1_is {x y} (h : asDic1 pe = some (x, y)) : ∃ p, pe = .Dict [some x] [y] p := by
  unfold asDic1 at h
  split at h
  · cases h; exact ⟨_, rfl⟩
  · cases h
theorem asSub_is {x y} (h : asSub pe = some (x, y)) : ∃ p, pe = .Subscript x y p := by cases pe <;> first | (cases h; done) | (cases h; exact ⟨_, rfl⟩)
theorem asSlc_is {x y} (h : asSlc pe = some (x, y)) : ∃ p, pe = .Slice x y none p := by
  cases pe <;> first | (cases h; done) | skip
  rename_i c _; cases c <;> first | (cases h; done) | (cases h; exact ⟨_, rfl⟩)
theorem asCall_is {x y p} (h : asCall pe = some (x, y, p)) : pe = .Call x y [] p := by
  cases pe <;> first | (cases h; done) | skip
  rename_i ks _; cases ks <;> first | (cases h; done) | (cases h; rfl)
theorem asMxd_is {f a p} (h : asMxd pe = some (f, a, p)) : ∃ (d : Str) (k : Nat) (p1 p2 : Pos), d = Str.ofString "default" ∧ pe = .Call f [a] [⟨some d, .Constant .none k p1, p2⟩] p := by
  unfold asMxd at h
  split at h
  · split at h
    · rename_i e; cases h; exact ⟨_, _, _, _, e, rfl⟩
    · cases h
  · cases h
theorem asAttr_is {x y p} (h : asAttr pe = some (x, y, p)) : pe = .Attribute x y p := by cases pe <;> first | (cases h; done) | (cases h; rfl)
theorem asLC_is {e t i c s} (h : asLC pe = some (e, t, i, c, s)) : ∃ p, pe = .ListComp e [⟨t, i, c, 0⟩] s p := by
  unfold asLC at h
  split at h
  · cases h; exact ⟨_, rfl⟩
  · cases h
end

/-! ### names -/
/-- what the text calls things: the defs' names, the module's constants, the exceptions' classes -/
structure Tb where
  nm : Nat → Option Str
  con : Str → Option Val
  xc : Nat → Addr
  exs : List Nat
  me : Nat → Option (Nat × Str)
  atts : List (Nat × Str)
  hot : Option Str
  lam : Nat → Expr → Bool := fun _ _ => false
  lq : Option Str := none
/-- the classes' names -/
def cnm (c : Nat) : Str := match c with | 0 => Str.ofString "Shelf" | _ => Str.ofString "Desk"
/-- the refusals' names -/
def xnm (c : Nat) : Str := match c with
  | 0 => Str.ofString "LeafError" | 1 => Str.ofString "NoTree" | 2 => Str.ofString "There" | 3 => Str.ofString "NotThere" | 4 => Str.ofString "Full" | 5 => Str.ofString "NoRoom" | 6 => Str.ofString "NoText" | 7 => Str.ofString "NoRow"
  | _ => Str.ofString "ValueError"
def visB (sc : Scope) (x : Str) : Bool := match sc.names.lookup x with | some .local => true | some .cell => true | some .free => true | _ => false
def gloB (sc : Scope) (x : Str) : Bool := decide (sc.names.lookup x = some .globalImplicit)
def locB (sc : Scope) (fb : Str → Bool) (x : Str) : Bool := match sc.names.lookup x with | some .local => true | some .cell => fb x | _ => false
def magic (x : Str) : Bool := (x == ("__debug__" : Str)) || (x == ("__classdict__" : Str)) || (x == ("__name__" : Str))
/-- a table's value, as a constant -/
def tabV (tb : List (Str × Int)) : Val := .fd (tb.map fun p => .inr p.1) (tb.map fun p => .int p.2)
def eqKs : List (Str × Int) → List Key → List Val → Bool
  | [], [], [] => true
  | p :: ps, .inr s :: ks, .int i :: vs => decide (p.1 = s) && decide (p.2 = i) && eqKs ps ks vs
  | _, _, _ => false
def eqTab (tb : List (Str × Int)) : Val → Bool
  | .fd ks vs => eqKs tb ks vs
  | _ => false
theorem eqKs_is : ∀ {tb : List (Str × Int)} {ks : List Key} {vs : List Val}, eqKs tb ks vs = true → ks = tb.map (fun p => .inr p.1) ∧ vs = tb.map fun p => .int p.2
  | [], [], [], _ => ⟨rfl, rfl⟩
  | p :: ps, .inr s :: ks, .int i :: vs, h => by
    simp only [eqKs, Bool.and_eq_true, decide_eq_true_eq] at h
    obtain ⟨⟨h1, h2⟩, h3⟩ := h
    obtain ⟨e1, e2⟩ := eqKs_is h3
    rw [e1, e2, ← h1, ← h2]
    exact ⟨rfl, rfl⟩
theorem eqTab_is {tb : List (Str × Int)} {v : Val} (h : eqTab tb v = true) : v = tabV tb := by
  unfold eqTab at h
  split at h
  · obtain ⟨e1, e2⟩ := eqKs_is h
    rw [e1, e2]; rfl
  · cases h
def eqFlat : Val → Val → Bool
  | .int i, .int j => decide (i = j)
  | .str i, .str j => decide (i = j)
  | .bl i, .bl j => decide (i = j)
  | .non, .non => true
  | _, _ => false
theorem eqFlat_is {a b : Val} (h : eqFlat a b = true) : a = b ∧ flt a = true := by
  cases a <;> cases b <;> first | (cases h; done) | exact ⟨rfl, rfl⟩ | exact ⟨by rw [of_decide_eq_true h], rfl⟩
/-- the names of several targets -/
def namesOf (N : List Str) (sc : Scope) (fb : Str → Bool) : List Nat → List Expr → Bool
  | [], [] => true
  | i :: is, e :: es => (match asName e with | some x => decide (N[i]? = some x) && locB sc fb x | none => false) && namesOf N sc fb is es
  | _, _ => false
def mT (N : List Str) (sc : Scope) (fb : Str → Bool) (tg : Tg) (pe : Expr) : Bool := match tg with
  | .name i => (match asName pe with | some x => decide (N[i]? = some x) && locB sc fb x | none => false)
  | .names is => (match asTup pe with | some es => namesOf N sc fb is es | none => false)
def ownOf (N : List Str) (own : List Nat) : List (Str × Nat) := own.filterMap fun i => (N[i]?).map fun x => (x, i)

/-- a comprehension's target is its own -/
def tgOwn : Tg → List Nat → Bool
  | .name i, own => decide (own = [i])
  | .names is, own => decide (own = is)
/-- the parts of more operations -/
def isFn (sc : Scope) (g : Expr) (x : Str) : Bool := decide (asName g = some x) && gloB sc x && !magic x
def asRev : Expr → Option Expr | .Subscript e (.Slice none none (some (.UnaryOp .USub (.Constant (.int 1) _ _) _)) _) _ => some e | _ => none
def mO1 (sc : Scope) (o : O1) (pe : Expr) : Option Expr := match o with
  | .lrange => (match asCall pe with
    | some (g, [c], _) => (match asCall c with | some (g2, [x], _) => if (isFn sc g "list" && isFn sc g2 "range" && !isStar x) = true then some x else none | _ => none)
    | _ => none)
  | .rev => asRev pe
  | .sortSet => (match asCall pe with
    | some (g, [c], _) => (match asCall c with | some (g2, [x], _) => if (isFn sc g "sorted" && isFn sc g2 "set" && !isStar x) = true then some x else none | _ => none)
    | _ => none)
  | .lenSet => (match asCall pe with
    | some (g, [c], _) => (match asCall c with | some (g2, [x], _) => if (isFn sc g "len" && isFn sc g2 "set" && !isStar x) = true then some x else none | _ => none)
    | _ => none)
  | .itemsS => (match asCall pe with
    | some (g, [c], _) => (match asCall c with | some (m, [], cp) => (match asAttr m with | some (x, n, ap) => if (isFn sc g "sorted" && decide (n = Str.ofString "items") && (ap.endLine == cp.line) && !isCall0 x) = true then some x else none | none => none) | _ => none)
    | _ => none)
  | .maxV => (match asCall pe with
    | some (g, [c], _) => (match asCall c with | some (m, [], cp) => (match asAttr m with | some (x, n, ap) => if (isFn sc g "max" && decide (n = Str.ofString "values") && (ap.endLine == cp.line) && !isCall0 x) = true then some x else none | none => none) | _ => none)
    | _ => none)
  | .dictP => (match asCall pe with | some (g, [x], _) => if (isFn sc g "dict" && !isStar x) = true then some x else none | _ => none)
def mO2 (sc : Scope) (o : O2) (pe : Expr) : Option (Expr × Expr) := match o with
  | .dictZ => (match asCall pe with
    | some (g, [c], _) => (match asCall c with | some (g2, [x, y], _) => if (isFn sc g "dict" && isFn sc g2 "zip" && !isStar x && !isStar y) = true then some (x, y) else none | _ => none)
    | _ => none)
  | .tmul => (match asBin pe with | some (x, .Mult, y) => some (x, y) | _ => none)
/-- a refusal's name -/
def mC (T : Tb) (sc : Scope) (c : Nat) (e : Expr) : Bool := decide (asName e = some (xnm c)) && gloB sc (xnm c) && !magic (xnm c) && (decide (c ∈ T.exs) || decide (c = 8)) && !T.exs.isEmpty
def mCs (T : Tb) (sc : Scope) : List Nat → List Expr → Bool
  | [], [] => true
  | c :: cs, e :: es => !isStar e && mC T sc c e && mCs T sc cs es
  | _, _ => false
/-- the names of defs -/
def mFs (T : Tb) (sc : Scope) : List Nat → List Expr → Bool
  | [], [] => true
  | f :: fs, n :: ns => (match asName n with | some x => decide (T.nm f = some x) && gloB sc x && !magic x | none => false) && mFs T sc fs ns
  | _, _ => false
section
variable (T : Tb) (N : List Str)
mutual
def mE : Scope → Ex → Expr → Bool
  | sc, .var i, pe => (match asName pe with | some x => decide (N[i]? = some x) && visB sc x && !magic x | none => false)
  | _, .int i, pe => decide (asInt pe = some i)
  | _, .bl i, pe => decide (asBl pe = some i)
  | _, .non, pe => asNon pe
  | _, .str i, pe => decide (asStr3 pe = some i)
  | sc, .con x v, pe => decide (asName pe = some x) && gloB sc x && !magic x && (match T.con x with | some w => eqFlat v w | none => false)
  | sc, .bin o _ a b, pe => (match asBin pe with | some (l, op, r) => decide (op = bopOf o) && mE sc a l && mE sc b r | none => false)
  | sc, .neg a, pe => (match asUn pe with | some (.USub, r) => mE sc a r | _ => false)
  | sc, .not a, pe => (match asUn pe with | some (.Not, r) => mE sc a r | _ => false)
  | sc, .cmp o a b, pe => (match asCmp pe with | some (l, [op], [r]) => decide (op = copOf o) && !behindInMarks op r && mE sc a l && mE sc b r | _ => false)
  | sc, .chain o p a b c, pe => (match asCmp pe with | some (l, [op, op'], [r, r']) => decide (op = copOf o) && decide (op' = copOf p) && !lastMarks [op, op'] [r, r'] && mE sc a l && mE sc b r && mE sc c r' | _ => false)
  | sc, .chain3 o p q a b c d, pe => (match asCmp pe with | some (l, [op, op', op2], [r, r', r2]) => decide (op = copOf o) && decide (op' = copOf p) && decide (op2 = copOf q) && !lastMarks [op, op', op2] [r, r', r2] && mE sc a l && mE sc b r && mE sc c r' && mE sc d r2 | _ => false)
  | sc, .bop i es, pe => (match asBop pe with | some (op, vs) => decide (op = if i then .And else .Or) && mEs sc es vs | none => false)
  | sc, .ite t a b, pe => (match asIf pe with | some (x, y, z) => mE sc t x && mE sc a y && mE sc b z | none => false)
  | sc, .tup es, pe => (match asTup pe with | some vs => mEs sc es vs | none => false)
  | sc, .lst _ es, pe => (match asLst pe with | some vs => mEs sc es vs | none => false)
  | sc, .idx a i, pe => (match asSub pe with | some (v, s) => !isSlice s && mE sc a v && mE sc i s | none => false)
  | sc, .slc _ a lo hi, pe => (match asSub pe with
    | some (v, s) => (match asSlc s with
      | some (l, u) => mE sc a v && (match l with | none => isNop lo | some x => !isNop lo && mE sc lo x) && (match u with | none => isNop hi | some x => !isNop hi && mE sc hi x)
      | none => false)
    | none => false)
  | sc, .call f es, pe => (match asCall pe with
    | some (g, as, _) => (match asName g with | some x => decide (T.nm f = some x) && gloB sc x && !magic x && !as.isEmpty && mEs sc es as | none => false)
    | none => false)
  | sc, .blt b _ es, pe => (match asCall pe with
    | some (g, as, _) => (match asName g with
      | some x => decide (x = b.nm) && gloB sc x && !magic x && (match b with
        | .isi [t] => (match es, as with
          | .cons e .nil, [a, n] => mE sc e a && !isStar a && decide (asName n = some (Str.ofString (tyN t))) && gloB sc (Str.ofString (tyN t)) && !magic (Str.ofString (tyN t))
          | _, _ => false)
        | .isi _ => false
        | _ => !as.isEmpty && mEs sc es as)
      | none => false)
    | none => false)
  | sc, .mth m o es, pe => (match asCall pe with
    | some (g, as, cp) => (match asAttr g with
      | some (v, n, ap) => decide (n = m.nm) && (ap.endLine == cp.line) && !isCall0 v && decide (as.length < 30) && mE sc o v && mEs sc es as
      | none => false)
    | none => false)
  | sc, .comp _ elt tg it cond own, pe => (match asLC pe with
    | some (e, t, i, cs, s) => mI sc it t i && !isSet i && blkC N sc s (ownOf N own) && decide ((ownOf N own).map (·.2) = own) && mT N (relS s sc) (fun x => s.names.lookup x == some .cell) tg t &&
        (match cs with | [] => isNop cond | [c] => !isNop cond && mE (relS s sc) cond c | _ => false) && mE (relS s sc) elt e && tgOwn tg own
    | none => false)
  | _, .dic0 _, pe => asDic0 pe
  | sc, .dic1 _ a b, pe => (match asDic1 pe with | some (x, y) => mE sc a x && mE sc b y | none => false)
  | sc, .dic2 _ a b c d, pe => (match asDic2 pe with | some (x, y, x2, y2) => mE sc a x && mE sc b y && mE sc c x2 && mE sc d y2 | none => false)
  | sc, .op1 o _ a, pe => (match mO1 sc o pe with | some x => mE sc a x | none => false)
  | sc, .op2 o _ a b, pe => (match mO2 sc o pe with | some (x, y) => mE sc a x && mE sc b y | none => false)
  | sc, .frz a, pe => mE sc a pe
  | sc, .frzD a, pe => mE sc a pe
  | sc, .lck a, pe => mE sc a pe
  | sc, .fld c a f, pe => (match asAttr pe with
    | some (v, nn, _) => decide (nn = f) && decide ((c, f) ∈ T.atts) && !isCall0 v && mE sc a v
    | none => false)
  | sc, .meth f c m o es, pe => (match asCall pe with
    | some (g, as, cp) => (match asAttr g with
      | some (v, nn, ap) => decide (nn = m) && decide (T.me f = some (c, m)) && (ap.endLine == cp.line) && !isCall0 v && decide (as.length < 30) && mE sc o v && mEs sc es as
      | none => false)
    | none => false)
  | sc, .make f c es, pe => (match asCall pe with
    | some (g, as, _) => decide (asName g = some (cnm c)) && gloB sc (cnm c) && !magic (cnm c) && decide (T.me f = some (c, Str.ofString "__init__")) && !as.isEmpty && mEs sc es as
    | none => false)
  | sc, .callC i es, pe => (match asCall pe with
    | some (g, as, _) => (match asName g with | some x => decide (N[i]? = some x) && visB sc x && !magic x && !as.isEmpty && T.atts.isEmpty && mEs sc es as | none => false)
    | none => false)
  | sc, .callF fs i es, pe => (match asCall pe with
    | some (g, as, _) => (match asSub g with
      | some (v, s) => (match asLst v with | some ns => mFs T sc fs ns && decide (fs.length ≤ 1000) && !isSlice s && mE sc i s && !as.isEmpty && mEs sc es as | none => false)
      | none => false)
    | none => false)
  | sc, .mxd mx a, pe => (match asMxd pe with
    | some (g, x, _) => decide (asName g = some (if mx then Str.ofString "max" else Str.ofString "min")) && gloB sc (if mx then Str.ofString "max" else Str.ofString "min") && !isStar x && mE sc a x
    | none => false)
  | sc, .isx a ks cs tp, pe => (match asCall pe with
    | some (g, [x, y], _) => decide (asName g = some (Str.ofString "isinstance")) && gloB sc (Str.ofString "isinstance") && mE sc a x && !isStar x && !isStar y && decide (ks = T.exs) && (match tp with
      | true => (match asTup y with | some es => mCs T sc cs es && decide (cs.length ≤ 100) | none => false)
      | false => (match cs with | [c] => mC T sc c y | _ => false))
    | _ => false)
  | sc, .kin neg x tb a, pe => (match asCmp pe with
    | some (l, [op], [r]) => decide (op = (if neg then CmpOp.NotIn else CmpOp.In)) && !behindInMarks op r && decide (asName r = some x) && gloB sc x && !magic x && (match T.con x with | some v => eqTab tb v | none => false) && mE sc a l
    | _ => false)
  | sc, .kix x tb a, pe => (match asSub pe with
    | some (v, s) => !isSlice s && decide (asName v = some x) && gloB sc x && !magic x && (match T.con x with | some v => eqTab tb v | none => false) && mE sc a s
    | none => false)
  | _, .nop, _ => false
def mEs : Scope → Exs → List Expr → Bool
  | _, .nil, [] => true
  | sc, .cons e es, pe :: pes => !isStar pe && mE sc e pe && mEs sc es pes
  | _, _, _ => false
def mI : Scope → Itx → Expr → Expr → Bool
  | sc, .seq e, _, pe => mE sc e pe
  | sc, .keys e, _, pe => mE sc e pe
  | sc, .chars e, _, pe => mE sc e pe
  | sc, .range1 a, _, pe => (match asCall pe with | some (g, [x], _) => decide (asName g = some (Str.ofString "range")) && gloB sc (Str.ofString "range") && !isStar x && mE sc a x | _ => false)
  | sc, .range2 a b, _, pe => (match asCall pe with | some (g, [x, y], _) => decide (asName g = some (Str.ofString "range")) && gloB sc (Str.ofString "range") && !isStar x && !isStar y && mE sc a x && mE sc b y | _ => false)
  | sc, .range3 a b c, _, pe => (match asCall pe with | some (g, [x, y, z], _) => decide (asName g = some (Str.ofString "range")) && gloB sc (Str.ofString "range") && !isStar x && !isStar y && !isStar z && mE sc a x && mE sc b y && mE sc c z | _ => false)
  | sc, .enum a, t, pe => isTupD t && (match asCall pe with | some (g, [x], _) => decide (asName g = some (Str.ofString "enumerate")) && gloB sc (Str.ofString "enumerate") && !isStar x && mE sc a x | _ => false)
  | sc, .zip a b, t, pe => isTupD t && (match asCall pe with | some (g, [x, y], _) => decide (asName g = some (Str.ofString "zip")) && gloB sc (Str.ofString "zip") && !isStar x && !isStar y && mE sc a x && mE sc b y | _ => false)
  | sc, .rev a, _, pe => (match asCall pe with | some (g, [x], _) => decide (asName g = some (Str.ofString "reversed")) && gloB sc (Str.ofString "reversed") && !isStar x && mE sc a x | _ => false)
end
end

/-! ### statements -/
def asAsg : Stmt → Option (Expr × Expr × Pos) | .Assign [t] v p => some (t, v, p) | _ => none
def asExp : Stmt → Option (Expr × Pos) | .Expr v p => some (v, p) | _ => none
def asRet : Stmt → Option (Option Expr) | .Return v _ => some v | _ => none
def asIfS : Stmt → Option (Expr × List Stmt × List Stmt) | .If t a b _ => some (t, a, b) | _ => none
def asFor : Stmt → Option (Expr × Expr × List Stmt) | .For t i b [] _ => some (t, i, b) | _ => none
def asWhl : Stmt → Option (Expr × List Stmt) | .While t b [] _ => some (t, b) | _ => none
def asPass : Stmt → Bool | .Pass _ => true | _ => false
section
variable {st : Stmt}
theorem asAsg_is {t v p} (h : asAsg st = some (t, v, p)) : st = .Assign [t] v p := by
  unfold asAsg at h; split at h <;> first | (cases h; rfl) | cases h
theorem asExp_is {v p} (h : asExp st = some (v, p)) : st = .Expr v p := by cases st <;> first | (cases h; done) | (cases h; rfl)
theorem asRet_is {v} (h : asRet st = some v) : ∃ p, st = .Return v p := by cases st <;> first | (cases h; done) | (cases h; exact ⟨_, rfl⟩)
theorem asIfS_is {t a b} (h : asIfS st = some (t, a, b)) : ∃ p, st = .If t a b p := by cases st <;> first | (cases h; done) | (cases h; exact ⟨_, rfl⟩)
theorem asFor_is {t a b} (h : asFor st = some (t, a, b)) : ∃ p, st = .For t a b [] p := by
  unfold asFor at h; split at h <;> first | (cases h; exact ⟨_, rfl⟩) | cases h
theorem asWhl_is {t b} (h : asWhl st = some (t, b)) : ∃ p, st = .While t b [] p := by
  unfold asWhl at h; split at h <;> first | (cases h; exact ⟨_, rfl⟩) | cases h
theorem asPass_is (h : asPass st = true) : ∃ p, st = .Pass p := by cases st <;> first | (cases h; done) | exact ⟨_, rfl⟩
end
def isCompE : Ex → Bool | .comp .. => true | _ => false
/-- a comprehension stored at a name: on one line, the name is none of its own; how it is stored hangs on whether the name is a cell -/
def compStore (sc : Scope) (t v : Expr) : Bool := match t, v with
  | .Name y py, .ListComp _ _ s pos => (py.line == pos.line) && !(s.names.any fun (n, k) => n == y && (k == .local || k == .cell)) && (decide (sc.names.lookup y = some .local) || decide (sc.names.lookup y = some .cell))
  | _, _ => !isComp v
theorem compStore_is {sc : Scope} {y : Str} {py : Pos} {v : Expr} (h : compStore sc (.Name y py) v = true) (hv : isComp v = true) : ∃ e gs s pos, v = .ListComp e gs s pos ∧ (py.line == pos.line) = true ∧
    (s.names.any fun (n, k) => n == y && (k == .local || k == .cell)) = false ∧ (sc.names.lookup y = some .local ∨ sc.names.lookup y = some .cell) := by
  unfold compStore at h
  split at h
  · rename_i y' py' _ _ s pos e1
    cases e1
    simp only [Bool.and_eq_true, Bool.or_eq_true, decide_eq_true_eq, Bool.not_eq_true'] at h
    exact ⟨_, _, _, _, rfl, h.1.1, h.1.2, h.2⟩
  · rw [hv] at h; cases h
def asLam : Expr → Option (Str × Option Expr × Pos × Expr × Scope × Pos) | .Lambda ⟨[], [⟨x, a, p0⟩], none, [], [], none, []⟩ body sc p => some (x, a, p0, body, sc, p) | _ => none
theorem asLam_is {e : Expr} {x a p0 body sc p} (h : asLam e = some (x, a, p0, body, sc, p)) : e = .Lambda ⟨[], [⟨x, a, p0⟩], none, [], [], none, []⟩ body sc p := by
  unfold asLam at h; split at h <;> first | (cases h; rfl) | cases h
/-- the captured names, in the running frame -/
def lamC (N : List Str) (sc : Scope) (fb : Str → Bool) (lsc : Scope) (js : List Nat) : Bool :=
  decide (js.map (fun j => N[j]?) = (freeS lsc).map some) && decide (freeS lsc).Nodup && ((freeS lsc).all fb && lsc.names.all fun y => !decide (y.2 = .free) || decide (sc.names.lookup y.1 = some .cell) || decide (sc.names.lookup y.1 = some .free))
def asRaise : Stmt → Option (Expr × Str) | .Raise (some (.Call f [.Constant (.str m) _ _] [] _)) none _ => some (f, m) | _ => none
theorem asRaise_is {st : Stmt} {f m} (h : asRaise st = some (f, m)) : ∃ k p1 p2 p3, st = .Raise (some (.Call f [.Constant (.str m) k p1] [] p2)) none p3 := by
  unfold asRaise at h; split at h <;> first | (cases h; exact ⟨_, _, _, _, rfl⟩) | cases h
def asTry : Stmt → Option (List Stmt × Expr × Option Str × Stmt × Pos) | .Try b [.ExceptHandler (some e) n [s] p] [] [] _ => some (b, e, n, s, p) | _ => none
theorem asTry_is {st : Stmt} {b e n s p} (h : asTry st = some (b, e, n, s, p)) : ∃ p2, st = .Try b [.ExceptHandler (some e) n [s] p] [] [] p2 := by
  unfold asTry at h; split at h <;> first | (cases h; exact ⟨_, rfl⟩) | cases h
def asTryN : Stmt → Option (List Stmt × ExceptHandler × List ExceptHandler) | .Try b (h :: hs) [] [] _ => some (b, h, hs) | _ => none
theorem asTryN_is {st : Stmt} {b h hs} (e : asTryN st = some (b, h, hs)) : ∃ p2, st = .Try b (h :: hs) [] [] p2 := by
  unfold asTryN at e; split at e <;> first | (cases e; exact ⟨_, rfl⟩) | cases e
def asHan : ExceptHandler → Option (Expr × Stmt × Pos) | .ExceptHandler (some e) none [s] p => some (e, s, p) | _ => none
theorem asHan_is {hd : ExceptHandler} {e s p} (h : asHan hd = some (e, s, p)) : hd = .ExceptHandler (some e) none [s] p := by
  unfold asHan at h; split at h <;> first | (cases h; rfl) | cases h
def locN (N : List Str) (sc : Scope) (i : Nat) (x : Str) : Bool := decide (N[i]? = some x) && decide (sc.names.lookup x = some .local) && !magic x
def conB (v : Val) (e : Expr) : Bool := match v with
  | .bl b => decide (asBl e = some b)
  | .int i => decide (asInt e = some i)
  | .non => asNon e
  | .str s => decide (asStr3 e = some s)
  | _ => false
def mHs (T : Tb) (N : List Str) (sc : Scope) : List (Nat × Nat × Val) → List ExceptHandler → Bool
  | [], [] => true
  | (c, x, v) :: r, hd :: hds => (match asHan hd with
    | some (e, s, _) => mC T sc c e && decide (c ∈ T.exs) && (match asAsg s with
      | some (t, w, _) => (match asName t with | some y => locN N sc x y | none => false) && conB v w
      | none => false)
    | none => false) && mHs T N sc r hds
  | _, _ => false
section
variable (T : Tb) (N : List Str) (sc : Scope) (fb : Str → Bool)
mutual
def mS : Sm → Stmt → Bool
  | .asg tg e, st => (match asAsg st with
    | some (t, v, _) => mT N sc fb tg t && mE T N sc e v && (match tg with | .name _ => compStore sc t v && (!isComp v || isCompE e) | .names _ => !isTupD v)
    | none => false)
  | .asgI o i e, st => (match asAsg st with
    | some (t, v, _) => (match asSub t with | some (x, y) => !isSlice y && !isComp v && mE T N sc o x && mE T N sc i y && mE T N sc e v | none => false)
    | none => false)
  | .ex e, st => (match asExp st with | some (v, _) => !isComp v && mE T N sc e v | none => false)
  | .ret e, st => (match asRet st with | some (some v) => mE T N sc e v | _ => false)
  | .retN, st => (match asRet st with | some none => true | _ => false)
  | .ite t a b, st => (match asIfS st with | some (x, y, z) => mE T N sc t x && mSs a y && mSs b z | none => false)
  | .for tg it b, st => (match asFor st with | some (x, y, z) => mT N sc fb tg x && mI T N sc it x y && !isSet y && mSs b z | none => false)
  | .whl t b, st => (match asWhl st with | some (x, y) => mE T N sc t x && mSs b y | none => false)
  | .pass, st => asPass st
  | .asgF c o f e, st => (match asAsg st with
    | some (t, v, _) => (match asAttr t with
      | some (x, nn, _) => decide (nn = f) && decide ((c, f) ∈ T.atts) && !isComp v && mE T N sc o x && mE T N sc e v
      | none => false)
    | none => false)
  | .raise c, st => (match asRaise st with | some (f, _) => mC T sc c f && decide (c ∈ T.exs) | none => false)
  | .tryAs b ks c i x, st => (match asTry st with
    | some (bs, e, some n, s, _) => mC T sc c e && decide (c ∈ T.exs) && decide (ks = T.exs) && locN N sc i n && (match asAsg s with
      | some (t, v, _) => (match asName t with | some y => locN N sc x y | none => false) && decide (asName v = some n)
      | none => false) && mSs b bs
    | _ => false)
  | .tryEx b ks c x v, st => (match asTry st with
    | some (bs, e, none, s, _) => mC T sc c e && decide (c ∈ T.exs) && decide (ks = T.exs) && (match asAsg s with
      | some (t, w, _) => (match asName t with | some y => locN N sc x y | none => false) && conB v w
      | none => false) && mSs b bs
    | _ => false)
  | .tryEs b ks hs, st => (match asTryN st with
    | some (bs, hd, hds) => decide (ks = T.exs) && mHs T N sc hs (hd :: hds) && mSs b bs
    | none => false)
  | .tryG b ks x, st => (match asTry st with
    | some (bs, e, some n, s, _) => mC T sc 0 e && decide (0 ∈ T.exs) && decide (ks = T.exs) && locN N sc x n && (match asRet s with
      | some (some v) => (match asCall v with
        | some (g, [y], _) => (match T.hot with | some z => decide (asName g = some z) && gloB sc z && !magic z | none => false) && decide (asName y = some n)
        | _ => false)
      | _ => false) && mSs b bs
    | _ => false)
  | .asgL i f g q js es, st => (match asAsg st with
    | some (t, v, _) => (match asCall v with
      | some (fn, lm :: as, _) => (match asLam lm with
        | some (_, _, _, _, lsc, _) => mT N sc fb (.name i) t && (match asName fn with | some x => decide (T.nm f = some x) && gloB sc x && !magic x | none => false) && T.lam g lm && decide (T.lq = some q) && lamC N sc fb lsc js && mEs T N sc es as
        | none => false)
      | _ => false)
    | none => false)
  | .asgX i fz elt tg it own, st => (match asAsg st with
    | some (t, v, _) => (match asLC v with
      | some (e, tt, ii, [], s) => mI T N sc it tt ii && !isSet ii && blkC N sc s (ownOf N own) && decide ((ownOf N own).map (·.2) = own) && mT N (relS s sc) (fun x => s.names.lookup x == some .cell) tg tt && mE T N (relS s sc) elt e && tgOwn tg own && (match t with | .Name y py => locN N sc i y && compStore sc t v | _ => false)
      | _ => false)
    | none => false)
  | .retX fz elt tg it own, st => (match asRet st with
    | some (some v) => (match asLC v with
      | some (e, tt, ii, [], s) => mI T N sc it tt ii && !isSet ii && blkC N sc s (ownOf N own) && decide ((ownOf N own).map (·.2) = own) && mT N (relS s sc) (fun x => s.names.lookup x == some .cell) tg tt && mE T N (relS s sc) elt e && tgOwn tg own
      | _ => false)
    | _ => false)
  | .retc _ _ _, _ => false
  | .never, _ => true
  | .kill _, _ => false
  | .fzv _, _ => false
def mSs : Sms → List Stmt → Bool
  | .nil, [] => true
  | .cons (.kill _) r, sts => mSs r sts
  | .cons (.fzv _) r, sts => mSs r sts
  | .cons s r, st :: sts => mS s st && mSs r sts
  | _, _ => false
end
end
end L3

set_option Elab.async false
set_option linter.all false
set_option maxRecDepth 100000
set_option maxHeartbeats 2000000
/-! L3, exceptions: a caught one kept as a value; isinstance of it. -/
namespace L2
open PySem PySem.Spec PyProof.Rows
/-- an exception object, caught, at a -/
def ExcG (cls : Value) (d : Option Addr) (a : Addr) : HO := .ext fun h => ∃ (oe : Obj) (vs : Array Value), h.get? a = some oe ∧ Zc cls d oe ∧ oe.data = .fields vs
theorem excG_ok {P : Program} {w : World} {H : Hp} {h : Heap} {a : Addr} {cls : Value} {d : Option Addr} {oe : Obj} (e : h.get? a = some oe) (z : Zc cls d oe) (f : ∃ vs, oe.data = .fields vs) : ObjOk P w H h a (ExcG cls d a) := by
  obtain ⟨vs, f⟩ := f
  exact ⟨⟨oe, vs, e, z, f⟩, ⟨oe, e⟩, fun _ _ ⟨o, v, q, r⟩ k => ⟨o, v, k o q, r⟩⟩
section
variable {X : Cx} {pins : List (Addr × Obj)} {σ : St} {H : Hp} {s : Shared}
/-- an object that nobody tracks yet is tracked -/
theorem Inv.trackE {a : Addr} {oe : Obj} {cls : Value} {d : Option Addr} (I : Inv X pins σ H s) (hx : X.ex = []) (e : s.heap.get? a = some oe) (z : Zc cls d oe) (f : ∃ vs, oe.data = .fields vs) (na : H a = none) (nL : a ≠ X.env.locals)
    (n0 : X.s_0.heap.get? a = none) (np : ∀ p ∈ X.pn ++ pins, p.1 ≠ a) : Inv X pins σ (upd H a (ExcG cls d a)) s := by
  have ne0 : ∀ b o, X.s_0.heap.get? b = some o → b ≠ a := fun b o q z => by rw [z, n0] at q; cases q
  have neH : ∀ b o, H b = some o → b ≠ a := fun b o q z => by rw [z, na] at q; cases q
  refine ⟨I.ok, I.os, I.bare, ⟨I.base.keep, I.base.slot, fun b o q n hb => ?_, I.base.there, fun b xs q => ?_, fun b o u q => ?_, fun b ps q => ?_⟩, I.loc, I.cell, ?_, fun x c q => ?_, fun p hp => ?_, fun b u q => ?_, I.len⟩
  · rw [upd_ne (ne0 b o q)]; exact I.base.free b o q n hb
  · have := I.base.tups b xs q
    rw [upd_ne (neH b _ this)]; exact this
  · have := I.base.frzs b o u q
    rw [upd_ne (neH b _ this)]; exact this
  · obtain ⟨m, this⟩ := I.base.tbls b ps q
    exact ⟨m, by rw [upd_ne (neH b _ this)]; exact this⟩
  · rw [upd_ne (Ne.symm nL)]; exact I.free
  · have hc : c ≠ a := fun w => by
      obtain ⟨v, o, q1, q2⟩ := I.cell x c q
      obtain ⟨vs, f⟩ := f
      rw [w, e] at q1; cases q1
      rw [f] at q2; cases q2
    rw [upd_ne hc]; exact I.freeC x c q
  · obtain ⟨p1, p2, p3, p4, p5⟩ := I.pin p hp
    exact ⟨p1, by rw [upd_ne (np p hp)]; exact p2, p3, p4, p5⟩
  · by_cases hb : b = a
    · subst hb
      rw [upd_same] at q
      cases q
      exact excG_ok e z f
    · rw [upd_ne hb] at q
      exact (I.hok b u q).stay (fun _ _ _ r => r) (fun c r => by rw [upd_ne (neH c _ r)]; exact r) fun c xs r => by rw [upd_ne (neH c _ r)]; exact r
/-- what 'except x as n' wishes, where the exception is kept behind it -/
def wKeep (K : PySem.W.Frag) (c : Value) (i : Nat) (ts : Addr → Value → Option Addr → TS) (Wout : WX) (D : Ends) : WX := fun cls d σ H =>
  ∃ b, PySem.W.exmOne K cls c = some b ∧ (b = true → ∀ a, H a = none → ts a cls d { nx := fun σ' H' => D.nx (σ'.set i none) (upd H' a (ExcG cls d a)), rt := fun _ _ => False, bk := fun _ _ => False, ct := fun _ _ => False } (σ.set i (some (.ref a))) H) ∧
    (b = false → Wout cls d σ H)
end
section
variable {X : Cx} {x n : Str} {c : Value} {i : Nat} {body suite : List Stmt} {b₀ : Stmt} {np pos pos' : Pos} {tb : WX → TS} {ts : Addr → Value → Option Addr → TS} {Wout : WX}
theorem ps_try_keep (hs : X.stack = X.env :: X.outer) (hf : X.env.frame = some X.env.locals) (hN : X.N.Nodup) (hi : X.N[i]? = some n) (hln : X.env.kindOf n = some .local) (hc : Names X x c) (hx : X.ex = []) (tk : Takes X Wout)
    (hb : ∀ (W : WX) (pn : List (Addr × Obj)) (xe : Value → Shared → Prop), Takes (X.tr pn xe) W → PassesOwn (model X.prog X.w) X.A X.env xe → PSs (X.tr pn xe) body (tb W))
    (hsu : ∀ (a : Addr) (oe : Obj) (cls : Value) (d : Option Addr) (pn : List (Addr × Obj)), Zc cls d oe → (∃ vs, oe.data = .fields vs) → PSs (X.suite a ((a, oe) :: pn)) (b₀ :: suite) (ts a cls d)) :
    PS X (.Try body [.ExceptHandler (some (.Name x np)) (some n) (b₀ :: suite) pos'] [] [] pos) (fun D σ H => tb (wKeep X.K c i ts Wout D) D σ H) := by
  refine ⟨fun pins s σ H D I h => ?_⟩
  have ok := I.ok
  have hfr : X.A.frames = some (X.env :: X.outer) := by rw [ok.frames, hs]
  have hloc : Loc X.env.scope n := .inl hln
  refine wpAny_Try_except ?_
  refine wpAny_mono ((hb (wKeep X.K c i ts Wout D) (X.pn ++ pins) (fun e s₁ => wpAny (model X.prog X.w) X.A (noteFrame e X.env) (fun _ s₂ => wpAny (model X.prog X.w) X.A (setFlight e none) (fun _ s₃ =>
    wpAny (model X.prog X.w) X.A (handleBy e X.env [.ExceptHandler (some (.Name x np)) (some n) (b₀ :: suite) pos']) (SP X pins D) X.xe s₃) X.xe s₂) X.xe s₁) (fun u s' xx => ?_) PassesOwn.looking).run [] s σ H D (I.toTry _) h) (fun f s1 hsp => ?_) (fun e s1 he => he)
  · -- the catch
    obtain ⟨a, B, sI, pins', σ', H', cls, d, rfl, J', nb, up, sky, na, os, ag, b, hb1, hyes, hno⟩ := xx
    have J : Inv X pins σ' H' sI := J'.ofTry ok
    have sky' : Sky B (X.env :: X.outer) a (Zc cls d) X.env.locals s'.heap := by rw [← hs]; exact sky
    show wpAny (model X.prog X.w) X.A (noteFrame (.ref a) X.env) _ _ _
    refine Sky.land Zc.steady hfr hf sky' fun h3 fl3 up3 => ?_
    have J3 : Inv X pins σ' H' { s' with heap := h3 } := J.landed nb fl3.1 (up.trans up3) os ag
    obtain ⟨oe3, vs3, he3, hz3, hd3⟩ := fl3.there
    have notFr : ∀ {h : Heap} {o : Obj} {vs : Array Value}, h.FunFrames B (X.env :: X.outer) → h.get? a = some o → o.data = .fields vs → a ∉ frs (X.env :: X.outer) := fun {h o vs} ff e dd hm => by
      obtain ⟨_, o', e', hnf⟩ := ff.mem hm
      rw [e] at e'; cases e'
      exact hnf _ dd
    have nfr := notFr fl3.2.2.1 he3 hd3
    have nL : a ≠ X.env.locals := fun z => nfr (List.mem_filterMap.mpr ⟨X.env, List.mem_cons_self, by rw [hf, z]⟩)
    have nF : a ∉ X.fs := fun hm => by
      obtain ⟨e, he, q⟩ := List.mem_filterMap.mp hm
      exact nfr (List.mem_filterMap.mpr ⟨e, List.mem_cons_of_mem _ he, q⟩)
    have S3 := J3.suite he3 hd3 na nL nF
    refine wpAny_handleBy_cons (codeAny_handlers_test ?_) (by intro q; cases q)
    have LT : PySem.W.Looks (model X.prog X.w) h3 (typeOf (.ref a)) cls := fun A Q E s k q => wpAny_typeOf_ref (k _ _ he3) (by rw [hz3.1]; exact q)
    have LM := PySem.W.exm_one (M := model X.prog X.w) (J3.kIn) LT hb1
    have test : ∀ {Q : Value → Shared → Prop} {E : Value → Shared → Prop}, Q c { s' with heap := h3 } → wpAny (model X.prog X.w) (X.A.mark (some (.ref a))) (eval (.Name x np) X.env) Q E { s' with heap := h3 } := fun {Q E} q => by
      obtain ⟨hg, hdbg, hm | ⟨hm, hv, hnn⟩⟩ := hc
      · exact ld_glob (X := X.suite a ((a, oe3) :: (X.pn ++ pins))) S3 hg hm q hdbg
      · exact ld_blt (X := X.suite a ((a, oe3) :: (X.pn ++ pins))) S3 hg hm hv q hnn hdbg
    refine test (LM.here ?_)
    cases b with
    | true =>
      refine codeAny_handlers_suite_as ?_
      refine HandSPX.lands_againZ fl3 fun h4 fl4 up4 => ?_
      have J4 : Inv X pins σ' H' { s' with heap := h4 } := J.landed nb fl4.1 ((up.trans up3).trans up4) os ag
      obtain ⟨oe4, vs4, he4, hz4, hd4⟩ := fl4.there
      have S4 := J4.suite he4 hd4 na nL nF
      refine store_ok (X := X.suite a ((a, oe4) :: (X.pn ++ pins))) (v := .ref a) S4 hN hi hloc rfl (fun s5 S5 => ?_) (.inr hln)
      refine wpAny_mono ((hsu a oe4 cls d (X.pn ++ pins) hz4 ⟨_, hd4⟩).run [] s5 _ H' _ S5 (hyes rfl a na)) (fun f s6 hsp => ?_) (fun _ _ z => False.elim z)
      have end_ : ∀ {σ6 : St} {H6 : Hp} {Q : Shared → Prop}, Inv (X.suite a ((a, oe4) :: (X.pn ++ pins))) [] σ6 H6 s6 → (∀ s7, Inv X pins (σ6.set i none) (upd H6 a (ExcG cls d a)) s7 → Q s7) →
          wpAny (model X.prog X.w) X.A (do bindName X.env n .none; unbindBehindTheSuite X.env n pos') (fun _ s7 => Q s7) X.xe s6 := fun {σ6 H6 Q} S6 hq => by
        obtain ⟨e6, n6, _, _, _⟩ := S6.pin (a, oe4) (List.mem_append_left _ List.mem_cons_self)
        refine gone_ok ((S6.unsuite ok).trackE hx e6 hz4 ⟨_, hd4⟩ n6 nL ?_ fun p hp z => ?_) hN hi hln hq
        · cases q : X.s_0.heap.get? a with
          | none => rfl
          | some o =>
            obtain ⟨o', q'⟩ := J.base.there a o q (by rw [hx]; exact fun z => nomatch z)
            have q2 := nb a o' q' (by rw [hs]; exact nfr)
            rw [fl3.2.1] at q2; cases q2
        · obtain ⟨e7, _, ne7, nf7, _⟩ := J.pin p hp
          have q2 := nb p.1 _ e7 (by
            rw [hs]
            intro hm
            obtain ⟨e, he, q⟩ := List.mem_filterMap.mp hm
            rcases List.mem_cons.mp he with rfl | he
            · rw [hf] at q; exact ne7 (Option.some.inj q).symm
            · exact nf7 (List.mem_filterMap.mpr ⟨e, he, q⟩))
          rw [z, fl3.2.1] at q2; cases q2
      cases f with
      | next =>
        obtain ⟨σ6, H6, S6, q6⟩ := hsp
        exact end_ S6 fun s7 J7 => ⟨_, _, J7, q6⟩
      | brk =>
        obtain ⟨σ6, H6, S6, q6⟩ := hsp
        exact q6.elim
      | cont =>
        obtain ⟨σ6, H6, S6, q6⟩ := hsp
        exact q6.elim
      | ret u =>
        obtain ⟨v6, σ6, H6, S6, r6, q6⟩ := hsp
        exact q6.elim
    | false =>
      show wpAny _ X.A (handleBy (.ref a) X.env []) _ _ _
      refine wpAny_handleBy_nil ?_
      obtain ⟨k1, k2, k3, oe, vs, T, oT, ts', he, hz, hd, h1, hr⟩ := id fl3
      unfold PySem.passOn
      refine wpAny_bind (wpAny_field he hd h1 ?_)
      rw [if_neg (show ¬ ((Value.ref T == Value.none) = true) from by simp)]
      have fin : wpAny (model X.prog X.w) X.A (setFlight (.ref a) X.env.frame) (fun _ s4 => wpAny (model X.prog X.w) X.A (throw (.ref a) : Sem Flow) (SP X pins D) X.xe s4) X.xe { s' with heap := h3 } := by
        rw [hf]
        refine HandSPX.setFlight_upZ fl3 fun h4 hh4 up4 => wpAny_throw (tk _ _ ?_)
        exact ⟨a, B, sI, pins, σ', H', cls, d, rfl, J, nb, (up.trans up3).trans up4, .inr (.inr (by rw [hs]; exact hh4)), na, os, ag, hno rfl⟩
      first
        | exact wpAny_bind (wpAny_pure (wpAny_bind fin))
        | exact wpAny_bind fin
  · cases f with
    | next =>
      obtain ⟨σ', H', J', q⟩ := hsp
      exact wpAny_execs_nil ⟨σ', H', J'.ofTry ok, q⟩
    | brk =>
      obtain ⟨σ', H', J', q⟩ := hsp
      exact ⟨σ', H', J'.ofTry ok, q⟩
    | cont =>
      obtain ⟨σ', H', J', q⟩ := hsp
      exact ⟨σ', H', J'.ofTry ok, q⟩
    | ret u =>
      obtain ⟨v, σ', H', J', r, q⟩ := hsp
      exact ⟨v, σ', H', J'.ofTry ok, r, q⟩
end
/-! ### isinstance of a kept exception -/
section
variable {X : Cx} {pins : List (Addr × Obj)} {σ : St} {H : Hp} {s : Shared}
theorem kitE {a D : Addr} (I : Inv X pins σ H s) (C : ExcC X.K D) (ea : H a = some (ExcG (.ref D) none a)) : ∃ P : Heap → Prop, PySem.W.KitX X.K (.ref a) (.ref D) P ∧ P s.heap := by
  obtain ⟨⟨oe, vs, e, z, f⟩, _, _⟩ := I.hok a _ ea
  have J : PySem.W.InstAt s.heap a oe D none := by
    obtain ⟨oc, od, oda, osl⟩ := oe
    obtain ⟨h1, h2⟩ := z
    dsimp only at h1 h2 f
    subst h1 h2 f
    exact ⟨e, rfl, rfl, trivial⟩
  exact ⟨_, PySem.W.handS_kitx_exc C.hg C.hk C.hs C.hd C.ha C.hn C.ht C.hm, J⟩
def rIsC (K : PySem.W.Frag) : List V → Hp → VK → Prop := fun xs H Q => ∃ (a D : Addr) (c : V) (u : Value) (b : Bool), xs = [.ref a, c] ∧ ClsV c u ∧ ExcC K D ∧ H a = some (ExcG (.ref D) none a) ∧ PySem.W.kitOne K (.ref D) u = some b ∧ Q (.bl b) H
def rIsT (K : PySem.W.Frag) : List V → Hp → VK → Prop := fun xs H Q => ∃ (a D tp : Addr) (cs : List V) (us : List Value) (b : Bool), xs = [.ref a, .ref tp] ∧ H tp = some (.tup cs) ∧ Paired ClsV cs us ∧ ExcC K D ∧ H a = some (ExcG (.ref D) none a) ∧ PySem.W.kitAny K (.ref D) us = some b ∧ Q (.bl b) H
theorem call_isC : CallR X (.builtin "isinstance") (rIsC X.K) := by
  intro pins s σ H xs us Q I r h
  obtain ⟨a, D, c, u, b, rfl, k, C, ea, e, q⟩ := h
  obtain ⟨u1, u2, rfl, r1, r2⟩ := vals2 r
  have e2 := k.eq r2
  subst e2
  cases (show u1 = Value.ref a from r1)
  obtain ⟨P, Z, p⟩ := kitE I C ea
  exact PySem.W.kia_one Z I.kIn p e (fun z => nomatch z) fun tk => ⟨.bl b, H, I.tok tk, rfl, q⟩
theorem call_isCT : CallR X (.builtin "isinstance") (rIsT X.K) := by
  intro pins s σ H xs us Q I r h
  obtain ⟨a, D, tp, cs, ws, b, rfl, hT, k, C, ea, e, q⟩ := h
  obtain ⟨u1, u2, rfl, r1, r2⟩ := vals2 r
  cases (show u1 = Value.ref a from r1)
  cases (show u2 = Value.ref tp from r2)
  obtain ⟨P, Z, p⟩ := kitE I C ea
  obtain ⟨_, its, rv, o, h1, h2, n, h3⟩ := (show ObjOk X.prog X.w H s.heap tp (.tup cs) from I.hok tp _ hT)
  have e3 := ClsV.all k rv
  subst e3
  obtain ⟨oc, od, dt, sl⟩ := o
  simp only at h2 h3
  subst h2 h3
  exact PySem.W.kia_tup Z I.kIn p h1 e (fun z => nomatch z) fun tk => ⟨.bl b, H, I.tok tk, rfl, q⟩
end
end L2

set_option Elab.async false
set_option linter.all false
set_option maxRecDepth 100000
/-! L3, HOT: a def that is called in an except suite, and is given the exception. -/
namespace L3
open PySem PySem.Spec PyProof.Rows L2
abbrev SpG := Addr × Obj → List V → Hp → VK → Prop
/-- what such a def promises: p the exception, pinned; nothing is raised -/
structure FnG (P : Program) (w : World) (K : PySem.W.Frag) (mg : Str → Option Value) (base : Heap) (k : Nat) (f : Addr) (fd : FuncData) (ps : List Str) (sp : SpG) : Prop where
  len : ∀ p vs H Q, sp p vs H Q → vs.length = ps.length
  run : ∀ (A : Around) (outer : List Env) (s : Shared) (H : Hp) (args : Args) (us : List Value) (vs : List V) (Q : VK) (p : Addr × Obj), L2H.RoomH k A → L2H.PinOk outer H s p → Env0 P w K mg base A outer s H → BindsTo s fd args (ps.zip us) → Vals vs us → sp p vs H Q →
    codeAny (model P w) A (.call (.ref f) args) (CR (L2.CX P w) outer P w H s Q fun _ _ _ => False) s
section
variable {P : Program} {w : World} {K : PySem.W.Frag} {mg : Str → Option Value} {base : Heap}
/-- such a def, by its body -/
theorem fn_ofG {k : Nat} {f : Addr} {name qual : Str} {params : Arguments} {body : List Stmt} {scope : Scope} {fd : FuncData} {N ps : List Str} {sp : SpG} (F : FunD K name qual params body scope [] [] f fd) (S : FnScope N ps scope) (len : ∀ p vs H Q, sp p vs H Q → vs.length = ps.length)
    (hbody : ∀ (cdv : Value) (A : Around) (outer : List Env) (s : Shared) (H : Hp) (vs : List V) (Q : VK) (p : Addr × Obj), L2H.RoomH k (A.deeper (envOfC qual scope s.heap.objs.size f cdv)) → sp p vs H Q →
      ∃ t, PSs (L2H.cxH (L2.CX P w) P w K mg base N qual scope f cdv A outer s H (fun _ _ _ => False) p) body t ∧ t { nx := fun _ H' => Q .non H', rt := Q } (L2.start N vs) H) : FnG P w K mg base (k + 1) f fd ps sp := by
  obtain ⟨oc, od, dV, kV, doc, pm, an, cdv, ct, osl, rfl, lk, hcd, _, _⟩ := F.ex
  refine ⟨len, fun A outer s H args us vs Q p hr hpin e0 hb r hsp => ?_⟩
  have hl := len _ _ _ _ hsp
  have KX : K.In s.heap := e0.mod.kin.keeps fun b o e => (e0.bs b o e).1
  have lim : s.heap.NoLimit := e0.mod.nolimit.keeps fun b o e => (e0.bs b o e).1
  have hk : ∀ y ∈ ps.zip us, scope.names.lookup y.1 = some .local ∨ (scope.names.lookup y.1 = some .cell ∧ ((cellsFrom (s.heap.objs.size + 1) scope.names []).lookup y.1).isSome = true) := fun ⟨n, v⟩ hy =>
    (S.par n (List.of_mem_zip hy).1).elim .inl fun q => .inr ⟨q, PySem.W.cellsFrom_some _ _ _ (.inl q)⟩
  refine codeAny_call_function hr.depth (KX _ _ lk) rfl S.co S.gen rfl (PySem.W.codeRec_of KX hcd) (hb _ _ _ _ ?_)
  refine wpAny_newFunctionEnv_cells S.kind hk fun env he s1 x => ?_
  subst he
  refine ⟨lim.keeps x.toInCall.keep, codeAny_func ?_⟩
  obtain ⟨t, ht, hq⟩ := hbody cdv A outer s H vs Q p (hr.deeper _) hsp
  have I := L2H.inv_startH (CX := L2.CX P w) (E := fun _ _ _ => False) S hpin e0 hl r x
  refine wpAny_mono (ht.run [] s1 (L2.start N vs) H _ I hq) (fun fl s' hs => ?_) fun e s' hs => hs
  cases fl with
  | ret u =>
    obtain ⟨v, σ', H', J, rv, q⟩ := hs
    exact ⟨v, H', J.os, J.bare, J.base, J.hok, rv, q⟩
  | next =>
    obtain ⟨σ', H', J, q⟩ := hs
    exact ⟨V.non, H', J.os, J.bare, J.base, J.hok, rfl, q⟩
  | brk => exact hs.elim fun _ z => z.elim fun _ z => z.2.elim
  | cont => exact hs.elim fun _ z => z.elim fun _ z => z.2.elim
end
section
variable {X : Cx} {k : Nat} {f : Addr} {fd : FuncData} {ps : List Str} {sp : SpG} {x : Str} {q pos : Pos} {e : Expr} {es : List Expr} {ta : TE} {t : TA}
/-- no exception is in what leaves it -/
theorem no_cx {st : List Env} {H : Hp} {s s' : Shared} {P : Program} {w : World} {u : Value} (h : L2.CX P w st H s (fun _ _ _ => False) u s') : False := by
  obtain ⟨_, _, _, _, _, _, _, _, _, _, _, _, z⟩ := h
  exact z
theorem pe_callG {p : Addr × Obj} (F : FnG X.prog X.w X.K X.mg X.base k f fd ps sp) (hr : L2H.RoomH k X.A) (hp : p ∈ X.pn) (hg : Gl X x) (hm : X.mg x = some (.ref f)) (hk : PySem.W.keepIn X.K (.ref f) = true) (hb : Binds X.K fd ps [])
    (ha : PA X (e :: es) t) (hdb : (x == ("__debug__" : Str)) = false) (he : starEach (e :: es) X.env = (false, eval e X.env) :: starEach es X.env) (hpl : (backTo pos (starEach es X.env)).any (·.1) = false) :
    PE X (.Call (.Name x q) (e :: es) [] pos) (fun σ H Q => t σ H fun vs H1 => sp p vs H1 Q) := by
  refine ⟨fun pins s σ H Q I h => ?_⟩
  refine wpAny_Call_Name_kw (ld_glob I hg hm ?_ hdb)
  refine PySem.W.callWith_K (h₀ := X.base) I.ok.mod.kin hk (thn (ha.run pos pins s σ H _ I h) fun us s1 ⟨vs, H1, I1, r, z⟩ => ⟨I1.kIn, ?_⟩) he hpl
  have hl : us.length = ps.length := by rw [← r.length]; exact F.len _ _ _ _ z
  have b := hb s1 us I1.kIn (by rw [List.append_nil]; exact hl)
  rw [List.append_nil] at b
  have P1 := I1.pin p (List.mem_append_left _ hp)
  have hpin : L2H.PinOk X.stack H1 s1 p := ⟨P1.1, P1.2.1, fun m => (List.mem_cons.mp (I1.stkSub p.1 m)).elim P1.2.2.1 P1.2.2.2.1, P1.2.2.2.2⟩
  refine wpAny_call (codeAny_mono (F.run X.A X.stack s1 H1 ⟨us, []⟩ us vs Q p hr hpin I1.env0 b r z) fun r s' hq => ?_)
  cases r with
  | error e => exact (no_cx hq).elim
  | ok fl => cases fl <;> first | exact I1.after hq | exact hq.elim
end
/-! ### isinstance of it -/
section
variable {X : Cx} {p : Addr × Obj} {D : Addr}
def rG (K : PySem.W.Frag) (D a : Addr) : List V → Hp → VK → Prop := fun xs H Q => ∃ (c : V) (cv : Value) (b : Bool), xs = [.ref a, c] ∧ ClsV c cv ∧ PySem.W.kitOne K (.ref D) cv = some b ∧ Q (.bl b) H
def rGT (K : PySem.W.Frag) (D a : Addr) : List V → Hp → VK → Prop := fun xs H Q => ∃ (tp : Addr) (cs : List V) (us : List Value) (b : Bool), xs = [.ref a, .ref tp] ∧ H tp = some (.tup cs) ∧ Paired ClsV cs us ∧ PySem.W.kitAny K (.ref D) us = some b ∧ Q (.bl b) H
theorem inst_of {h : Heap} {a : Addr} {oe : Obj} (hget : h.get? a = some oe) (hz : Zc (.ref D) none oe) (hf : ∃ vs, oe.data = .fields vs) : PySem.W.InstAt h a oe D none := by
  obtain ⟨vs, hv⟩ := hf
  obtain ⟨oc, od, oda, osl⟩ := oe
  obtain ⟨h1, h2⟩ := hz
  dsimp only at h1 h2 hv
  subst h1 h2 hv
  exact ⟨hget, rfl, rfl, trivial⟩
theorem call_isG (C : ExcC X.K D) (hp : p ∈ X.pn) (hz : Zc (.ref D) none p.2) (hf : ∃ vs, p.2.data = .fields vs) : CallR X (.builtin "isinstance") (rG X.K D p.1) := by
  intro pins s σ H xs us Q I r h
  obtain ⟨c, cv, b, rfl, hcv, e, q⟩ := h
  obtain ⟨u1, u2, rfl, r1, r2⟩ := vals2 r
  cases (show u1 = Value.ref p.1 from r1)
  have ec := hcv.eq r2
  subst ec
  exact PySem.W.kia_one (PySem.W.handS_kitx_exc C.hg C.hk C.hs C.hd C.ha C.hn C.ht C.hm) I.kIn (inst_of (I.pin p (List.mem_append_left _ hp)).1 hz hf) e (fun z => nomatch z) fun tk => ⟨.bl b, H, I.tok tk, rfl, q⟩
theorem call_isGT (C : ExcC X.K D) (hp : p ∈ X.pn) (hz : Zc (.ref D) none p.2) (hf : ∃ vs, p.2.data = .fields vs) : CallR X (.builtin "isinstance") (rGT X.K D p.1) := by
  intro pins s σ H xs us Q I r h
  obtain ⟨tp, cs, ws, b, rfl, hT, k, e, q⟩ := h
  obtain ⟨u1, u2, rfl, r1, r2⟩ := vals2 r
  cases (show u1 = Value.ref p.1 from r1)
  cases (show u2 = Value.ref tp from r2)
  obtain ⟨_, its, rv, o, h1, h2, n, h3⟩ := (show ObjOk X.prog X.w H s.heap tp (.tup cs) from I.hok tp _ hT)
  have e3 := ClsV.all k rv
  subst e3
  obtain ⟨oc, od, dt, sl⟩ := o
  simp only at h2 h3
  subst h2 h3
  exact PySem.W.kia_tup (PySem.W.handS_kitx_exc C.hg C.hk C.hs C.hd C.ha C.hn C.ht C.hm) I.kIn (inst_of (I.pin p (List.mem_append_left _ hp)).1 hz hf) h1 e (fun z => nomatch z) fun tk => ⟨.bl b, H, I.tok tk, rfl, q⟩
end
section
variable [Mo]
/-- what the def promises that tells a refusal's kind -/
def spK : SpG := fun p vs H Q => ∃ k t, vs = [.ref p.1] ∧ Zc (.ref (Mo.xc k)) none p.2 ∧ (∃ fs, p.2.data = .fields fs) ∧ kindT k = some t ∧ ∀ H', (∀ b o, H b = some o → H' b = some o) → Q (.str t) H'
def HotOk (P : Program) (w : World) (K : PySem.W.Frag) (mg : Str → Option Value) (base : Heap) (x : Str) : Prop := ∃ a fd ps, mg x = some (.ref a) ∧ PySem.W.keepIn K (.ref a) = true ∧ Binds K fd ps [] ∧ FnG P w K mg base 1 a fd ps spK
end
end L3

set_option Elab.async false
set_option linter.all false
set_option maxRecDepth 100000
/-! L3, CLOSURES: a nested def, called through a name that holds it. -/
namespace L3
open PySem PySem.Spec PyProof.Rows L2
variable [Mo]

/-! ### data, seen over another heap -/
section
variable {h h' : Hq} {H H' : Hp}
/-- what is no live cell, and none of the objects told by a predicate, stands there too -/
def Alk (h : Hq) (H : Hp) (h' : Hq) (H' : Hp) : Prop := ∀ b o, H b = some o → h b = none → (∀ φ, o ≠ .ext φ) → (∀ ob φ, o ≠ .frz ob (.ext φ)) → H' b = some o ∧ h' b = none
mutual
theorem RV.data (k : Alk h H h' H') : ∀ {v : Val} {x : V} {d : PyData}, pd v = some d → RV h H v x → RV h' H' v x
  | .non, _, _, _, r => r
  | .bl _, _, _, _, r => r
  | .int _, _, _, _, r => r
  | .str _, _, _, _, r => r
  | .ref _, _, _, e, _ => by cases e
  | .exc c, _, _, e, _ => by cases e
  | .clo g ws, _, _, e, _ => by cases e
  | .fd ks ws, _, _, e, _ => by cases e
  | .wd ks ws, _, _, e, _ => by cases e
  | .tup xs, _, _, e, r => by
    obtain ⟨ds, es, _⟩ := Option.map_eq_some_iff.mp (show (pds xs).map PyData.tuple = some _ from e)
    obtain ⟨a, vs, e1, n, ho, q⟩ := r
    obtain ⟨ho', n'⟩ := k a _ ho n (fun _ z => by cases z) (fun _ _ z => by cases z)
    exact ⟨a, vs, e1, n', ho', RVs.data k es q⟩
  | .fl xs, _, _, e, r => by
    obtain ⟨ds, es, _⟩ := Option.map_eq_some_iff.mp (show (pds xs).map PyData.list = some _ from e)
    obtain ⟨a, vs, e1, n, ho, q⟩ := r
    obtain ⟨ho', n'⟩ := k a _ ho n (fun _ z => by cases z) (fun _ _ z => by cases z)
    exact ⟨a, vs, e1, n', ho', RVs.data k es q⟩
  | .sc ns, _, _, _, r => by
    obtain ⟨a, e1, q⟩ := r
    rcases q with ⟨n, ho | ⟨o, ho⟩⟩ | q
    · obtain ⟨ho', n'⟩ := k a _ ho n (fun _ z => by cases z) (fun _ _ z => by cases z)
      exact ⟨a, e1, .inl ⟨n', .inl ho'⟩⟩
    · obtain ⟨ho', n'⟩ := k a _ ho n (fun _ z => by cases z) (fun _ _ z => by cases z)
      exact ⟨a, e1, .inl ⟨n', .inr ⟨o, ho'⟩⟩⟩
    · exact ⟨a, e1, .inr q⟩
theorem RVs.data (k : Alk h H h' H') : ∀ {vs : List Val} {xs : List V} {ds : List PyData}, pds vs = some ds → RVs h H vs xs → RVs h' H' vs xs
  | [], _, _, _, r => r
  | v :: vs, _, _, e, r => by
    obtain ⟨y, t, e1, r1, r2⟩ := r
    unfold pds at e
    split at e
    · rename_i d ds q1 q2
      exact ⟨y, t, e1, RV.data k q1 r1, RVs.data k q2 r2⟩
    · cases e
end
theorem RV.nc (k : Alk h H h' H') {v : Val} {x : V} (n : NC v) (r : RV h H v x) : RV h' H' v x := by
  rcases n with ⟨d, e⟩ | ⟨a, rfl⟩
  · exact RV.data k e r
  · exact r
theorem RVs.nc (k : Alk h H h' H') : ∀ {vs : List Val} {xs : List V}, (∀ v ∈ vs, NC v) → RVs h H vs xs → RVs h' H' vs xs
  | [], _, _, r => r
  | v :: vs, _, n, r => by
    obtain ⟨y, t, e1, r1, r2⟩ := r
    exact ⟨y, t, e1, RV.nc k (n v List.mem_cons_self) r1, RVs.nc k (fun u hu => n u (List.mem_cons_of_mem _ hu)) r2⟩
end

/-- what a closure's function promises -/
structure NOkA (P : Program) (w : World) (K : PySem.W.Frag) (mg : Str → Option Value) (base : Heap) (k g : Nat) (sp : Nat → List (Option V) → Sp) : Prop where
  run : ∀ (f : Addr) (q : Str) (fr : List Str) (cl : List (Str × Addr)) (c : Addr) (o : HO), FnA g f q fr cl c o → ∀ (A : Around) (outer : List Env) (s : Shared) (H : Hp) (us : List Value) (vs : List V) (ws : List (Option V)) (Q : VK), Room k A → Env0 P w K mg base A outer s H →
    H f = some o → H c = some (LamX.CodeO c q) → NdefX.CellsAt cl fr ws s.heap H → Vals vs us → sp fr.length ws vs H Q (fun _ _ _ => False) → codeAny (model P w) A (.call (.ref f) ⟨us, []⟩) (CR (L2.CX P w) outer P w H s Q fun _ _ _ => False) s
theorem fnA_at {P : Program} {w : World} {H : Hp} {h : Heap} {g : Nat} {f : Addr} {q : Str} {fr : List Str} {cl : List (Str × Addr)} {c : Addr} {o : HO} (fa : FnA g f q fr cl c o) (hok : HOk P w H h) (e : H f = some o) : ∃ (od : Option Addr) (fd : FuncData) (sl : Array (Option Value)), h.get? f = some (⟨.type "function", od, .func fd, sl⟩ : Obj) := by
  rcases fa with ⟨nm, st, _, _, rfl⟩ | ⟨ps, body, sc, pos, _, _, rfl⟩
  · obtain ⟨od, sl, doc, pm, ctv, ho⟩ := NdefX.fnO_at hok e
    exact ⟨_, _, _, ho⟩
  · obtain ⟨⟨od, sl, pm, ctv, ho⟩, _, _⟩ := hok f _ e
    exact ⟨_, _, _, ho⟩
theorem fnA_ext {g : Nat} {f : Addr} {q : Str} {fr : List Str} {cl : List (Str × Addr)} {c : Addr} {o : HO} (fa : FnA g f q fr cl c o) : ∃ φ, o = .ext φ := by
  rcases fa with ⟨nm, st, _, _, rfl⟩ | ⟨ps, body, sc, pos, _, _, rfl⟩ <;> exact ⟨_, rfl⟩

/-! ### what is out of sight during the run -/
open Classical in
noncomputable def hidD (D : Addr → Prop) (H : Hp) : Hp := fun b => if D b then none else H b
open Classical in
/-- .. put back -/
noncomputable def bakD (D : Addr → Prop) (H H3 : Hp) : Hp := fun b => if D b then H b else H3 b
theorem hid_out {D : Addr → Prop} {H : Hp} {b : Addr} (d : D b) : hidD D H b = none := if_pos d
theorem hid_in {D : Addr → Prop} {H : Hp} {b : Addr} (d : ¬ D b) : hidD D H b = H b := if_neg d
theorem bak_out {D : Addr → Prop} {H H3 : Hp} {b : Addr} (d : D b) : bakD D H H3 b = H b := if_pos d
theorem bak_in {D : Addr → Prop} {H H3 : Hp} {b : Addr} (d : ¬ D b) : bakD D H H3 b = H3 b := if_neg d
/-- the captured cells, and the live cells that are not shown -/
def Drp (cl : List (Str × Addr)) (h0 h1 : Hq) (b : Addr) : Prop := (∃ y, cl.lookup y = some b) ∨ ((h1 b).isSome = true ∧ (h0 b).isNone = true)
section
variable {h0 h1 h2 : Hq} {H2 H3 : Hp} {cl : List (Str × Addr)} {fr : List Str} {us : List V} {vs ws : List Val}
theorem cell_at (C : CellsH h1 H2 cl fr us) {y : Str} {b : Addr} (e : cl.lookup y = some b) : ∃ v, HoldC H2 b v ∧ h1 b = none := by
  obtain ⟨i, hi⟩ := List.mem_iff_getElem?.mp (C.all y b e)
  have hl : i < us.length := by rw [C.len]; exact (List.getElem?_eq_some_iff.mp hi).1
  obtain ⟨c, e1, e2, e3⟩ := C.at_ i y us[i] hi (List.getElem?_eq_getElem hl)
  rw [e] at e1
  cases e1
  exact ⟨_, e3, e2⟩
theorem sub_none (W : CloW h0 h1 vs ws) {b : Addr} (n : h1 b = none) : h0 b = none := by
  cases e : h0 b with
  | none => rfl
  | some c => rw [(W.1 b c e).1] at n; cases n
theorem drp_ext (C : CellsH h1 H2 cl fr us) {b : Addr} {o : HO} (e : H2 b = some o) (n : h1 b = none) (x : ∀ φ, o ≠ .ext φ) (x2 : ∀ ob φ, o ≠ .frz ob (.ext φ)) : ¬ Drp cl h0 h1 b := by
  rintro (⟨y, ey⟩ | ⟨z, _⟩)
  · obtain ⟨v, e2 | ⟨ob, e2⟩, _⟩ := cell_at C ey
    · rw [e] at e2
      cases e2
      exact x _ rfl
    · rw [e] at e2
      cases e2
      exact x2 _ _ rfl
  · rw [n] at z; cases z
theorem alk_in (C : CellsH h1 H2 cl fr us) (W : CloW h0 h1 vs ws) : Alk h1 H2 h0 (hidD (Drp cl h0 h1) H2) := fun b o e n x x2 => ⟨by rw [hid_in (drp_ext C e n x x2)]; exact e, sub_none W n⟩
theorem rh_in (C : CellsH h1 H2 cl fr us) (W : CloW h0 h1 vs ws) (rh : RH h1 H2) : RH h0 (hidD (Drp cl h0 h1) H2) := fun a c e => by
  obtain ⟨e1, xs, rfl, nc⟩ := W.1 a c e
  obtain ⟨vs, q1, q2⟩ := rh a _ e1
  have nd : ¬ Drp cl h0 h1 a := by
    rintro (⟨y, ey⟩ | ⟨_, z⟩)
    · obtain ⟨v, _, n⟩ := cell_at C ey
      rw [e1] at n; cases n
    · rw [e] at z; cases z
  exact ⟨vs, by rw [hid_in nd]; exact q1, RVs.nc (alk_in C W) nc q2⟩
theorem drp_cond {b : Addr} (z : ((h1 b).isSome && (h0 b).isNone) = true) : Drp cl h0 h1 b := by
  rw [Bool.and_eq_true] at z
  exact .inr z
/-- behind the run -/
theorem clo_back (C : CellsH h1 H2 cl fr us) (W : CloW h0 h1 vs ws) (rh : RH h1 H2) (rh3 : RH h2 H3) (st : Stab h0 (hidD (Drp cl h0 h1) H2) h2 H3) (fr3 : ∀ b, Drp cl h0 h1 b → H3 b = none) :
    RH (mrg h0 h1 h2) (bakD (Drp cl h0 h1) H2 H3) ∧ Stab h1 H2 (mrg h0 h1 h2) (bakD (Drp cl h0 h1) H2 H3) ∧ Stab h2 H3 (mrg h0 h1 h2) (bakD (Drp cl h0 h1) H2 H3) := by
  have s2 : Stab h2 H3 (mrg h0 h1 h2) (bakD (Drp cl h0 h1) H2 H3) := fun b o e n => by
    have nd : ¬ Drp cl h0 h1 b := fun d => by rw [fr3 b d] at e; cases e
    refine ⟨by rw [bak_in nd]; exact e, ?_⟩
    unfold mrg
    rw [if_neg fun z => nd (drp_cond z)]
    exact n
  have s1 : Stab h1 H2 (mrg h0 h1 h2) (bakD (Drp cl h0 h1) H2 H3) := fun b o e n => by
    have nz : ¬ ((h1 b).isSome && (h0 b).isNone) = true := fun z => by rw [n] at z; cases z
    by_cases d : Drp cl h0 h1 b
    · refine ⟨by rw [bak_out d]; exact e, ?_⟩
      unfold mrg
      rw [if_neg nz]
      exact rh3.free (fr3 b d)
    · obtain ⟨q1, q2⟩ := st b o (by rw [hid_in d]; exact e) (sub_none W n)
      refine ⟨by rw [bak_in d]; exact q1, ?_⟩
      unfold mrg
      rw [if_neg nz]
      exact q2
  refine ⟨fun a c e => ?_, s1, s2⟩
  unfold mrg at e
  split at e
  · rename_i z
    exact (rh a c e).keep s1 (bak_out (drp_cond z))
  · have r := rh3 a c e
    have nd : ¬ Drp cl h0 h1 a := fun d => by
      obtain ⟨o, q⟩ := r.some
      rw [fr3 a d] at q; cases q
    exact r.keep s2 (bak_in nd)
end

/-! ### the objects themselves -/
section
variable {P : Program} {w : World} {H H' : Hp} {h h' : Heap} {a : Addr}
theorem objOk_map (k : ∀ b o, H b = some o → ((∃ xs, o = .tup xs) ∨ ∃ y, o = .own y) → H' b = some o) : ∀ {o : HO}, ObjOk P w H h a o → ObjOk P w H' h a o := by
  intro o
  induction o with
  | frz ob u ih => exact fun r => ⟨r.1, ih r.2⟩
  | dT kvs =>
    intro r
    obtain ⟨r1, r2, xs, r3, r4⟩ := r
    exact ⟨r1, r2, xs, L2.Paired.mapP r3 fun p q z => ⟨z.1, k _ _ z.2.1 (.inl ⟨_, rfl⟩), z.2.2⟩, r4⟩
  | ins C dx fs => exact fun r => ⟨k _ _ r.1 (.inr ⟨_, rfl⟩), r.2⟩
  | _ => exact fun r => r
/-- an object that stands as it stood -/
theorem objOk_stay {o : HO} (k : ∀ ob, h.get? a = some ob → h'.get? a = some ob) (s : (∃ xs, o = .lst xs) ∨ (∃ xs, o = .dK xs) ∨ (∃ xs, o = .tbl xs) ∨ (∃ φ, o = .ext φ) ∨ ∃ ob φ, o = .frz ob (.ext φ)) (r : ObjOk P w H h a o) : ObjOk P w H' h' a o := by
  rcases s with ⟨xs, rfl⟩ | ⟨xs, rfl⟩ | ⟨xs, rfl⟩ | ⟨φ, rfl⟩ | ⟨ob, φ, rfl⟩
  · obtain ⟨r1, its, n, r2, r3⟩ := r
    exact ⟨r1, its, n, r2, k _ r3⟩
  · obtain ⟨r1, r2, vs, r3, o, es, ep, r4, r5⟩ := r
    exact ⟨r1, r2, vs, r3, o, es, ep, k _ r4, r5⟩
  · exact k _ r
  · obtain ⟨r1, ⟨o, r2⟩, r3⟩ := r
    exact ⟨r3 _ _ r1 k, ⟨o, k _ r2⟩, r3⟩
  · obtain ⟨r0, r1, ⟨o, r2⟩, r3⟩ := r
    exact ⟨k _ r0, r3 _ _ r1 k, ⟨o, k _ r2⟩, r3⟩
theorem rc_kind {hq : Hq} {c : Cell} (io : Mo.io = false) (r : RC hq H a c) : ∃ o, H a = some o ∧ ((∃ xs, o = .lst xs) ∨ (∃ xs, o = .dK xs) ∨ (∃ xs, o = .tbl xs) ∨ (∃ φ, o = .ext φ) ∨ ∃ ob φ, o = .frz ob (.ext φ)) := by
  cases c with
  | lst xs => obtain ⟨vs, e, _⟩ := r; exact ⟨_, e, .inl ⟨_, rfl⟩⟩
  | dic xs => obtain ⟨vs, e, _⟩ := r; exact ⟨_, e, .inr (.inl ⟨_, rfl⟩)⟩
  | ins k fs => rw [r.1] at io; cases io
  | tab q => obtain ⟨_, ps, e, _⟩ := r; exact ⟨_, e, .inr (.inr (.inl ⟨_, rfl⟩))⟩
end
section
variable {h0 h1 : Hq} {H2 H3 : Hp} {cl : List (Str × Addr)} {fr : List Str} {us : List V} {vs ws : List Val} {P : Program} {w : World} {h h' : Heap} {fs : List Addr}
theorem drp_kind (io : Mo.io = false) (C : CellsH h1 H2 cl fr us) (W : CloW h0 h1 vs ws) (rh : RH h1 H2) {b : Addr} (d : Drp cl h0 h1 b) : ∃ o, H2 b = some o ∧ ((∃ xs, o = .lst xs) ∨ (∃ xs, o = .dK xs) ∨ (∃ xs, o = .tbl xs) ∨ (∃ φ, o = .ext φ) ∨ ∃ ob φ, o = .frz ob (.ext φ)) := by
  rcases d with ⟨y, ey⟩ | ⟨z, _⟩
  · obtain ⟨v, e | ⟨ob, e⟩, _⟩ := cell_at C ey
    · exact ⟨_, e, .inr (.inr (.inr (.inl ⟨_, rfl⟩)))⟩
    · exact ⟨_, e, .inr (.inr (.inr (.inr ⟨_, _, rfl⟩)))⟩
  · cases e : h1 b with
    | none => rw [e] at z; cases z
    | some c => exact rc_kind io (rh b c e)
/-- what is out of sight: lists, dicts, tables, objects told by a predicate -/
abbrev Kinds (D : Addr → Prop) (H : Hp) : Prop := ∀ b, D b → ∃ o, H b = some o ∧ ((∃ xs, o = .lst xs) ∨ (∃ xs, o = .dK xs) ∨ (∃ xs, o = .tbl xs) ∨ (∃ φ, o = .ext φ) ∨ ∃ ob φ, o = .frz ob (.ext φ))
theorem hok_inD {D : Addr → Prop} (kd : Kinds D H2) (hok : HOk P w H2 h) : HOk P w (hidD D H2) h := fun a o e => by
  have nd : ¬ D a := fun d => by rw [hid_out d] at e; cases e
  rw [hid_in nd] at e
  refine objOk_map (fun b o e k => ?_) (hok a o e)
  have nd : ¬ D b := fun d => by
    obtain ⟨o', e', z⟩ := kd b d
    rw [e] at e'; cases e'
    rcases k with ⟨_, rfl⟩ | ⟨_, rfl⟩ <;> rcases z with ⟨_, z⟩ | ⟨_, z⟩ | ⟨_, z⟩ | ⟨_, z⟩ | ⟨_, _, z⟩ <;> cases z
  rw [hid_in nd]; exact e
/-- a call's end, with all that was out of sight -/
theorem ce_backD {D : Addr → Prop} (kd : Kinds D H2) {outer : List Env} {Q : VK} {u : Value} {s s' : Shared} (hok : HOk P w H2 s.heap) (frf : ∀ b ∈ frs outer, H2 b = none)
    (q : CE outer P w (hidD D H2) s (fun v H3 => (∀ b, D b → H3 b = none) → Q v (bakD D H2 H3)) u s') : CE outer P w H2 s Q u s' := by
  obtain ⟨v, H3, os, bare, un, hok3, rv, q⟩ := q
  have there : ∀ b, D b → ∃ ob, s.heap.get? b = some ob := fun b d => by
    obtain ⟨o, e, z⟩ := kd b d
    have r := hok b o e
    rcases z with ⟨_, rfl⟩ | ⟨_, rfl⟩ | ⟨_, rfl⟩ | ⟨_, rfl⟩ | ⟨_, _, rfl⟩
    · obtain ⟨_, _, _, _, r⟩ := r; exact ⟨_, r⟩
    · obtain ⟨_, _, _, _, _, _, _, r, _⟩ := r; exact ⟨_, r⟩
    · exact ⟨_, r⟩
    · exact r.2.1
    · exact ⟨_, r.1⟩
  have fr3 : ∀ b, D b → H3 b = none := fun b d => by
    obtain ⟨ob, e⟩ := there b d
    exact un.free b ob e (hid_out d) (by simp)
  have stay : ∀ b, D b → ∀ ob, s.heap.get? b = some ob → s'.heap.get? b = some ob := fun b d ob e => by
    refine un.keep b ob e (hid_out d) (fun z => ?_) (by simp)
    obtain ⟨o, e2, _⟩ := kd b d
    rw [frf b z] at e2; cases e2
  have notD : ∀ b, H2 b = none → ¬ D b := fun b n d => by
    obtain ⟨o, e2, _⟩ := kd b d
    rw [n] at e2; cases e2
  refine ⟨v, bakD D H2 H3, os, bare, ⟨fun b o e n => ?_, fun b o e n => ?_, fun b o e n x => ?_, un.there, fun b xs e => ?_, fun b o x e => ?_, fun b ps e => ?_⟩, fun a o e => ?_, rv, q fr3⟩
  · exact un.keep b o e (by rw [hid_in (notD b n)]; exact n)
  · exact un.slot b o e (by rw [hid_in (notD b n)]; exact n)
  · rw [bak_in (notD b n)]
    exact un.free b o e (by rw [hid_in (notD b n)]; exact n) x
  · have nd : ¬ D b := fun d => by
      obtain ⟨o', e', z⟩ := kd b d
      rw [e] at e'; cases e'
      rcases z with ⟨_, z⟩ | ⟨_, z⟩ | ⟨_, z⟩ | ⟨_, z⟩ | ⟨_, _, z⟩ <;> cases z
    rw [bak_in nd]
    exact un.tups b xs (by rw [hid_in nd]; exact e)
  · by_cases d : D b
    · rw [bak_out d]; exact e
    · rw [bak_in d]
      exact un.frzs b o x (by rw [hid_in d]; exact e)
  · by_cases d : D b
    · exact ⟨#[], by rw [bak_out d, Array.append_empty]; exact e⟩
    · rw [bak_in d]
      exact un.tbls b ps (by rw [hid_in d]; exact e)
  · by_cases d : D a
    · rw [bak_out d] at e
      obtain ⟨o', e', z⟩ := kd a d
      rw [e] at e'; cases e'
      exact objOk_stay (stay a d) z (hok a o e)
    · rw [bak_in d] at e
      refine objOk_map (fun b o e k => ?_) (hok3 a o e)
      have nd : ¬ D b := fun d => by rw [fr3 b d] at e; cases e
      rw [bak_in nd]; exact e
theorem hok_in (io : Mo.io = false) (C : CellsH h1 H2 cl fr us) (W : CloW h0 h1 vs ws) (rh : RH h1 H2) (hok : HOk P w H2 h) : HOk P w (hidD (Drp cl h0 h1) H2) h := hok_inD (fun _ d => drp_kind io C W rh d) hok
theorem ce_back (io : Mo.io = false) {outer : List Env} {Q : VK} {u : Value} {s s' : Shared} (C : CellsH h1 H2 cl fr us) (W : CloW h0 h1 vs ws) (rh : RH h1 H2) (hok : HOk P w H2 s.heap) (frf : ∀ b ∈ frs outer, H2 b = none)
    (q : CE outer P w (hidD (Drp cl h0 h1) H2) s (fun v H3 => (∀ b, Drp cl h0 h1 b → H3 b = none) → Q v (bakD (Drp cl h0 h1) H2 H3)) u s') : CE outer P w H2 s Q u s' := ce_backD (fun _ d => drp_kind io C W rh d) hok frf q
end
end L3

set_option Elab.async false
set_option linter.all false
set_option maxRecDepth 100000
/-! L3, part 7: expressions keep what they say. -/
namespace L3
open PySem PySem.Spec PyProof.Rows L2
variable [Mo]

def bltNames : List Str := ["len", "abs", "max", "min", "sum", "any", "all", "sorted", "list", "tuple", "int", "str", "bool", "dict", "isinstance", "range", "enumerate", "zip", "reversed", "set", "repr"]
/-- the promise of a def -/
def spOf (T : Tb) (F : Fs) (n f : Nat) : Sp := fun vs H Q E => ∃ args h, RVs h H args vs ∧ RH h H ∧ CN F n f args h (KQ h H Q) (fun x h' => ∀ H', RH h' H' → Stab h H h' H' → E (.ref (T.xc x)) none H')
/-- .. of a nested def, us what it captured -/
def spN (T : Tb) (F : Fs) (n g k : Nat) (ws : List (Option V)) : Sp := fun vs H Q E => ∃ args wv us h, ws = us.map some ∧ us.length = k ∧ RVs h H args vs ∧ RVs h H wv us ∧ RH h H ∧ CN F n g (args ++ wv) h (KQ h H Q) (fun x h' => ∀ H', RH h' H' → Stab h H h' H' → E (.ref (T.xc x)) none H')
/-- what the refusals' classes must say -/
structure ExF (K : PySem.W.Frag) (mg : Str → Option Value) (L : List Nat) : Prop where
  lt : ∀ c ∈ L, c < 8
  nm : ∀ c ∈ L, mg (xnm c) = some (.ref (Mo.xc c))
  ve : mg (xnm 8) = none
  C : ∀ c ∈ L, ExcC K (Mo.xc c)
  ex : ∀ c ∈ L, PySem.W.excIn K (Mo.xc c) He.veBase "ValueError.__new__" = true
  kp : ∀ c ∈ L, PySem.W.keepIn K (.ref (Mo.xc c)) = true
  ty : ∀ c ∈ L, PySem.W.typeIn K (.ref (Mo.xc c)) = some (.type "type")
  em : ∀ c ∈ L, ∀ d ∈ L, PySem.W.exmOne K (.ref (Mo.xc c)) (.ref (Mo.xc d)) = some (subX c d)
  ki : ∀ c ∈ L, ∀ d ∈ L, PySem.W.kitOne K (.ref (Mo.xc c)) (.ref (Mo.xc d)) = some (subX c d)
  kv : ∀ c ∈ L, PySem.W.kitOne K (.ref (Mo.xc c)) (.type "ValueError") = some true
/-- a table of the module, at d -/
structure TabAt (K : PySem.W.Frag) (w : World) (d : Addr) (tb : List (Str × Int)) : Prop where
  kd : ∃ es n, KDict K w d es n
  at_ : ∀ z, ∃ r, PySem.W.nsIn K d z = some r ∧ r.isSome = (tb.lookup z).isSome
  get : ∀ z i, tb.lookup z = some i → ∃ u, PySem.W.nsIn K d z = some (some u) ∧ RelV (V.int i) u
structure Good (T : Tb) (F : Fs) (n : Nat) (X : Cx) : Prop where
  calm : X.calm = true
  room : Room (2 * n) X.A
  nd : X.N.Nodup
  kind : X.env.scope.kind = .function
  fn : ∀ f x, T.nm f = some x → ∃ a fd ps, X.mg x = some (.ref a) ∧ PySem.W.keepIn X.K (.ref a) = true ∧ Binds X.K fd ps [] ∧ FnOk X.prog X.w X.K X.mg X.base (L2.CX X.prog X.w) (2 * n) a fd ps (spOf T F n f)
  blt : ∀ x ∈ bltNames, X.mg x = none
  con : ∀ x v, T.con x = some v → flt v = true → ∃ u, X.mg x = some u ∧ RelV (flV v) u
  own : PassesOwn (model X.prog X.w) X.A X.env X.xe
  kk : X.K = Mo.K
  xk : T.xc = Mo.xc
  exo : T.exs ≠ [] → ExF X.K X.mg T.exs
  more : Room (2 * n + 1) X.A
  tab : ∀ x tb, T.con x = some (tabV tb) → ∃ d, X.mg x = some (.ref d) ∧ TabAt X.K X.w d tb
  att : ∀ c f, (c, f) ∈ T.atts → Cls X.K (Mo.cc c) ∧ NoAttr X.K (Mo.cc c) f
  me : ∀ f c m, T.me f = some (c, m) → ∃ a fd ps, Cls X.K (Mo.cc c) ∧ Meth X.K (Mo.cc c) m a ∧ Binds X.K fd ps [] ∧ FnOk X.prog X.w X.K X.mg X.base (L2.CX X.prog X.w) (2 * n) a fd ps (spOf T F n f)
  mak : ∀ f c, T.me f = some (c, Str.ofString "__init__") → Mo.io = true ∧ ∃ a fd ps, X.mg (cnm c) = some (.ref (Mo.cc c)) ∧ Mk X.K (Mo.cc c) a ∧ Binds X.K fd ps [] ∧ FnOk X.prog X.w X.K X.mg X.base (L2.CX X.prog X.w) (2 * n) a fd ps (spOf T F n f)
  hot : ∀ z, T.hot = some z → HotOk X.prog X.w X.K X.mg X.base z
  nok : ∀ g, NOkA X.prog X.w X.K X.mg X.base (2 * n) g (fun k => spN T F n g k)
  nio : T.atts.isEmpty = true → Mo.io = false
  lam : ∀ g e, T.lam g e = true → Mo.lm g e
theorem Good.blk {T : Tb} {F : Fs} {n : Nat} {X : Cx} (G : Good T F n X) {s : Shared} {H : Hp} {scope : Scope} {cl : List (Str × Addr)} {C : Addr} {fp : List Addr} (hk : scope.kind = .function) :
    Good T F n (X.blk s H scope (compEnvC scope cl C X.env) fp) := ⟨G.calm, G.room, G.nd, hk, G.fn, G.blt, G.con, PassesOwn.never, G.kk, G.xk, G.exo, G.more, G.tab, G.att, G.me, G.mak, G.hot, G.nok, G.nio, G.lam⟩

/-- what is wished of an exception -/
def KE (T : Tb) (h : Hq) (H : Hp) (W : WX) (σ : L2.St) : QE := fun x h' => ∀ H', RH h' H' → Stab h H h' H' → W (.ref (T.xc x)) none σ H'
theorem KE.later {T : Tb} {h h1 h' : Hq} {H H1 : Hp} {W : WX} {σ : L2.St} {x : Nat} (st : Stab h H h1 H1) (k : KE T h H W σ x h') : KE T h1 H1 W σ x h' := fun H' rh s => k H' rh (st.trans s)
def TEx (T : Tb) (W : WX) (w : Env3 → Hq → QV → QE → Prop) : TE := fun σ H Q => ∃ ρ h, RE h H ρ σ ∧ RH h H ∧ w ρ h (KQ h H Q) (KE T h H W σ)
def KA (h : Hq) (H : Hp) (Q : List V → Hp → Prop) : List Val → Hq → Prop := fun vs h' => ∀ Vs H', RH h' H' → Stab h H h' H' → RVs h' H' vs Vs → Q Vs H'
def TAx (T : Tb) (W : WX) (w : Env3 → Hq → (List Val → Hq → Prop) → QE → Prop) : TA := fun σ H Q => ∃ ρ h, RE h H ρ σ ∧ RH h H ∧ w ρ h (KA h H Q) (KE T h H W σ)
def KT (h : Hq) (H : Hp) (Q : Bool → Hp → Prop) : Bool → Hq → Prop := fun b h' => ∀ H', RH h' H' → Stab h H h' H' → Q b H'
def TTx (T : Tb) (W : WX) (w : Env3 → Hq → (Bool → Hq → Prop) → QE → Prop) : TT := fun σ H Q => ∃ ρ h, RE h H ρ σ ∧ RH h H ∧ w ρ h (KT h H Q) (KE T h H W σ)

theorem _root_.L2.PE.imp {X : Cx} {e : Expr} {t t' : TE} (p : PE X e t) (k : ∀ σ H Q, t' σ H Q → t σ H Q) : PE X e t' := ⟨fun pins s σ H Q I h => p.run pins s σ H Q I (k σ H Q h)⟩
theorem _root_.L2.PT.imp {X : Cx} {e : Expr} {t t' : TT} (p : PT X e t) (k : ∀ σ H Q, t' σ H Q → t σ H Q) : PT X e t' := ⟨fun pins s σ H Q I h => p.run pins s σ H Q I (k σ H Q h)⟩
theorem _root_.L2.PW.imp {X : Cx} {e : Expr} {t t' : TT} (p : PW X e t) (k : ∀ σ H Q, t' σ H Q → t σ H Q) : PW X e t' := ⟨fun wh pins s σ H Q I h => p.run wh pins s σ H Q I (k σ H Q h)⟩
theorem _root_.L2.PA.imp {X : Cx} {e : List Expr} {t t' : TA} (p : PA X e t) (k : ∀ σ H Q, t' σ H Q → t σ H Q) : PA X e t' := ⟨fun pos pins s σ H Q I h => p.run pos pins s σ H Q I (k σ H Q h)⟩
theorem _root_.L2.PI.imp {X : Cx} {tg e : Expr} {t t' : TI} (p : PI X tg e t) (k : ∀ σ H Q, t' σ H Q → t σ H Q) : PI X tg e t' := ⟨fun pins s σ H Q I h => p.run pins s σ H Q I (k σ H Q h)⟩
theorem _root_.L2.PI.or {X : Cx} {tg e : Expr} {t t' : TI} (p : PI X tg e t) (p' : PI X tg e t') : PI X tg e (fun σ H R => t σ H R ∨ t' σ H R) := ⟨fun pins s σ H Q I h => h.elim (p.run pins s σ H Q I) (p'.run pins s σ H Q I)⟩
theorem pt_false {X : Cx} {e : Expr} {t : TT} (k : ∀ σ H Q, ¬ t σ H Q) : PT X e t := ⟨fun pins s σ H Q I h => (k σ H Q h).elim⟩

/-! ### the forms that the rules ask of the text -/
theorem star_cons {e : Expr} {es : List Expr} {env : PySem.Env} (h : isStar e = false) : starEach (e :: es) env = (false, eval e env) :: starEach es env := by
  cases e <;> first | rfl | (cases h)
theorem star_any {pos : Pos} {env : PySem.Env} : ∀ {es : List Expr}, (∀ e ∈ es, isStar e = false) → (backTo pos (starEach es env)).any (·.1) = false
  | [], _ => rfl
  | e :: es, h => by
    rw [star_cons (h e List.mem_cons_self)]
    show (false || (backTo pos (starEach es env)).any (·.1)) = false
    rw [star_any fun x hx => h x (List.mem_cons_of_mem _ hx)]; rfl
theorem star_all {pos : Pos} {env : PySem.Env} : ∀ {es : List Expr}, (∀ e ∈ es, isStar e = false) → (backTo pos (starEach es env)).all (fun x => !x.1) = true
  | [], _ => rfl
  | e :: es, h => by
    rw [star_cons (h e List.mem_cons_self)]
    show (!false && (backTo pos (starEach es env)).all (fun x => !x.1)) = true
    rw [star_all fun x hx => h x (List.mem_cons_of_mem _ hx)]; rfl
theorem plain_ix {e : Expr} (h : isSlice e = false) : PlainIx e := by
  intro o i; cases e <;> first | rfl | (cases h)
theorem base_plain {o : Expr} {m : Str} {env : PySem.Env} (h : isCall0 o = false) : attributeBase o m env (eval o env) = eval o env := by
  cases o <;> first | rfl | skip
  rename_i f as ks p
  cases as with
  | nil => cases h
  | cons a as => cases f <;> rfl
theorem fold_plain {e : Expr} {env : PySem.Env} (h : isSet e = false) : ∀ x, foldedSetIterable e env x = pure x := by
  intro x; cases e <;> first | rfl | (cases h)
theorem magic_is {x : Str} (h : magic x = false) : (x == ("__debug__" : Str)) = false ∧ (x == ("__classdict__" : Str)) = false ∧ x ≠ "__name__" := by
  unfold magic at h
  simp only [Bool.or_eq_false_iff] at h
  exact ⟨h.1.1, h.1.2, fun e => by rw [e] at h; have := h.2; simp at this⟩
theorem vis_is {sc : Scope} {x : Str} (h : visB sc x = true) : Vis sc x := by
  unfold visB at h; unfold Vis
  split at h <;> simp_all
theorem loc_is {sc : Scope} {fb : Str → Bool} {x : Str} (h : locB sc fb x = true) : L2.Loc sc x ∧ (fb x = true ∨ sc.names.lookup x = some .local) := by
  unfold locB at h; unfold L2.Loc
  split at h <;> simp_all
theorem glo_is {X : Cx} {x : Str} (h : gloB X.env.scope x = true) : Gl X x := by
  have h' : X.env.scope.names.lookup x = some .globalImplicit := of_decide_eq_true h
  exact h'

section
variable {T : Tb} {F : Fs} {n : Nat} {X : Cx} {W : WX}
theorem mEs_plain {N : List Str} {sc : Scope} : ∀ {es : Exs} {pes : List Expr}, mEs T N sc es pes = true → ∀ e ∈ pes, isStar e = false
  | .nil, [], _, _, he => by cases he
  | .cons _ _, p :: ps, h, e, he => by
    simp only [mEs, Bool.and_eq_true, Bool.not_eq_true'] at h
    rcases List.mem_cons.mp he with rfl | he
    · exact h.1.1
    · exact mEs_plain h.2 e he
  | .nil, _ :: _, h, _, _ => by simp [mEs] at h
  | .cons _ _, [], h, _, _ => by simp [mEs] at h

/-- one part's wish, from the whole's -/
theorem stepE {C : CT} (kc : MonoC C C) {e : Ex} {ρ : Env3} {h : Hq} {σ : L2.St} {H : Hp} {K : QV} {R : VK} {E : QE} (re : RE h H ρ σ) (rh : RH h H) (w : wpE C e ρ h K E) (ke : ∀ x h', E x h' → KE T h H W σ x h')
    (k : ∀ v h1 V H1, RE h1 H1 ρ σ → RH h1 H1 → Stab h H h1 H1 → RV h1 H1 v V → K v h1 → R V H1) : TEx T W (wpE C e) σ H R :=
  ⟨ρ, h, re, rh, wpE_mono kc e _ _ _ _ _ _ (fun v h1 q V H1 rh1 st rv => k v h1 V H1 (re.keep st) rh1 st rv q) ke w⟩
theorem stepA {C : CT} (kc : MonoC C C) {es : Exs} {ρ : Env3} {h : Hq} {σ : L2.St} {H : Hp} {K : List Val → Hq → Prop} {R : List V → Hp → Prop} {E : QE} (re : RE h H ρ σ) (rh : RH h H) (w : wpA C es ρ h K E) (ke : ∀ x h', E x h' → KE T h H W σ x h')
    (k : ∀ v h1 V H1, RE h1 H1 ρ σ → RH h1 H1 → Stab h H h1 H1 → RVs h1 H1 v V → K v h1 → R V H1) : TAx T W (wpA C es) σ H R :=
  ⟨ρ, h, re, rh, wpA_mono kc es _ _ _ _ _ _ (fun v h1 q V H1 rh1 st rv => k v h1 V H1 (re.keep st) rh1 st rv q) ke w⟩
theorem stepT {C : CT} (kc : MonoC C C) {e : Ex} {ρ : Env3} {h : Hq} {σ : L2.St} {H : Hp} {K : Bool → Hq → Prop} {R : Bool → Hp → Prop} {E : QE} (re : RE h H ρ σ) (rh : RH h H) (w : wpT C e ρ h K E) (ke : ∀ x h', E x h' → KE T h H W σ x h')
    (k : ∀ b h1 H1, RE h1 H1 ρ σ → RH h1 H1 → Stab h H h1 H1 → K b h1 → R b H1) : TTx T W (wpT C e) σ H R :=
  ⟨ρ, h, re, rh, wpT_mono kc e _ _ _ _ _ _ (fun b h1 q H1 rh1 st => k b h1 H1 (re.keep st) rh1 st q) ke w⟩

/-- what an iterator walks: the items, as long as keep holds -/
structure Js (J : It) (items : List Val) (keep : Hq → Prop) (h1 : Hq) (H1 : Hp) : Prop where
  stop : ∀ i h H, RH h H → Stab h1 H1 h H → keep h → items.length ≤ i → J.stop i H
  go : ∀ i h H, RH h H → Stab h1 H1 h H → keep h → i < items.length → J.go i H
  yld : ∀ i h H x H', RH h H → Stab h1 H1 h H → keep h → i < items.length → J.yld i H x H' → ∃ v, items[i]? = some v ∧ RH h H' ∧ Stab h H h H' ∧ RV h H' v x
def KI (h : Hq) (H : Hp) (R : It → Hp → Prop) : List Val → (Hq → Prop) → Hq → Prop := fun items keep h1 => ∀ H1 J, RH h1 H1 → Stab h H h1 H1 → Js J items keep h1 H1 → R J H1
def TIx (T : Tb) (W : WX) (w : Env3 → Hq → (List Val → (Hq → Prop) → Hq → Prop) → QE → Prop) : TI := fun σ H R => ∃ ρ h, RE h H ρ σ ∧ RH h H ∧ w ρ h (KI h H R) (KE T h H W σ)
end

/-! ### iterators -/
section
variable {h1 : Hq} {H1 : Hp} {K : PySem.W.Frag} {v : Val} {x : V} {xs : List Val}
theorem get_lt {α : Type} {l : List α} {i : Nat} (h : i < l.length) : ∃ x, l[i]? = some x := ⟨l[i], by simp [h]⟩
theorem js_list (kk : K = Mo.K) (rv : RV h1 H1 v x) (e : ls h1 v = some xs) (rh1 : RH h1 H1) : ∃ a, x = .ref a ∧ (∃ vs, SqL K H1 a vs) ∧ Js (Itl K a) xs (fun h' => sq h' v = some xs) h1 H1 := by
  obtain ⟨a, vs, e1, e2, e3⟩ := ls_read (K := K) kk rh1 rv e
  have at_ : ∀ {h : Hq} {H : Hp}, RH h H → Stab h1 H1 h H → sq h v = some xs → ∃ vs, SqL K H a vs ∧ RVs h H xs vs := fun {h H} rh st kp => by
    have rv' := RV.keep st rv
    have e' : ls h v = some xs := by
      cases v <;> first | exact kp | (cases e)
    obtain ⟨a', vs', q1, q2, q3⟩ := ls_read (K := K) kk rh rv' e'
    rw [e1] at q1; cases q1
    exact ⟨vs', q2, q3⟩
  refine ⟨a, e1, ⟨vs, e2⟩, fun i h H rh st kp hi => ?_, fun i h H rh st kp hi => ?_, fun i h H y H' rh st kp hi hy => ?_⟩
  · obtain ⟨ws, q1, q2⟩ := at_ rh st kp
    exact ⟨ws, q1, by rw [← q2.length]; exact hi⟩
  · obtain ⟨ws, q1, q2⟩ := at_ rh st kp
    obtain ⟨u, hu⟩ := get_lt hi
    obtain ⟨z, hz, _⟩ := q2.get hu
    exact ⟨ws, z, q1, hz⟩
  · obtain ⟨ws, q1, q2⟩ := at_ rh st kp
    obtain ⟨rfl, hy⟩ := hy
    obtain ⟨u, hu, ru⟩ := q2.get' (hy ws q1)
    exact ⟨u, hu, rh, .refl, ru⟩
theorem js_tup (rv : RV h1 H1 (.tup xs) x) : ∃ a, x = .ref a ∧ (∃ vs, SqT K H1 a vs) ∧ Js (Itt K a) xs (fun h' => sq h' (.tup xs) = some xs) h1 H1 := by
  obtain ⟨a, vs, e1, e0, e2, e3⟩ := rv
  have at_ : ∀ {h : Hq} {H : Hp}, Stab h1 H1 h H → SqT K H a vs ∧ RVs h H xs vs := fun {h H} st => ⟨SqT.of (st a _ e2 e0).1, RVs.keep st e3⟩
  refine ⟨a, e1, ⟨vs, SqT.of e2⟩, fun i h H rh st kp hi => ?_, fun i h H rh st kp hi => ?_, fun i h H y H' rh st kp hi hy => ?_⟩
  · obtain ⟨q1, q2⟩ := at_ st
    exact ⟨vs, q1, by rw [← q2.length]; exact hi⟩
  · obtain ⟨q1, q2⟩ := at_ st
    obtain ⟨u, hu⟩ := get_lt hi
    obtain ⟨z, hz, _⟩ := q2.get hu
    exact ⟨vs, z, q1, hz⟩
  · obtain ⟨q1, q2⟩ := at_ st
    obtain ⟨rfl, hy⟩ := hy
    obtain ⟨u, hu, ru⟩ := q2.get' (hy vs q1)
    exact ⟨u, hu, rh, .refl, ru⟩
theorem js_range (lo : Int) (m : Nat) : Js (Itr lo m) (intsFrom lo m) (fun _ => True) h1 H1 := by
  have hl : (intsFrom lo m).length = m := by unfold intsFrom; rw [List.length_map, List.length_range]
  refine ⟨fun i h H _ _ _ hi => by rw [hl] at hi; exact hi, fun i h H _ _ _ hi => by rw [hl] at hi; exact hi, fun i h H y H' rh st kp hi hy => ?_⟩
  obtain ⟨rfl, rfl⟩ := hy
  rw [hl] at hi
  exact ⟨.int (lo + i), by unfold intsFrom; rw [List.getElem?_map, List.getElem?_range hi]; rfl, rh, .refl, rfl⟩
theorem js_step (lo c : Int) (m : Nat) : Js (Itc lo c m) (intsStep lo c m) (fun _ => True) h1 H1 := by
  have hl : (intsStep lo c m).length = m := by unfold intsStep; rw [List.length_map, List.length_range]
  refine ⟨fun i h H _ _ _ hi => by rw [hl] at hi; exact hi, fun i h H _ _ _ hi => by rw [hl] at hi; exact hi, fun i h H y H' rh st kp hi hy => ?_⟩
  obtain ⟨rfl, rfl⟩ := hy
  rw [hl] at hi
  exact ⟨.int (lo + (i : Nat) * c), by unfold intsStep; rw [List.getElem?_map, List.getElem?_range hi]; rfl, rh, .refl, rfl⟩
theorem rgc_of {i j k : Int} (h : 0 ≤ i ∧ i ≤ 1000000 ∧ 0 ≤ j ∧ j ≤ 1000000 ∧ 0 < k ∧ k ≤ 1000000) : RgC i j k (stepN i j k) := by
  have hs : Builtin.Range.rangeSize i j k = ((stepN i j k : Nat) : Int) := by
    unfold Builtin.Range.rangeSize stepN
    rw [if_pos h.2.2.2.2.1]
    split
    · have : 0 ≤ (j - i - 1) / k := Int.ediv_nonneg (by omega) (by omega)
      omega
    · rfl
  have hq : (stepN i j k : Int) ≤ 1000001 := by
    unfold stepN
    split
    · have h1 : (j - i - 1) / k ≤ j - i - 1 := Int.ediv_le_self _ (by omega)
      have : 0 ≤ (j - i - 1) / k := Int.ediv_nonneg (by omega) (by omega)
      omega
    · decide
  have fit : ∀ x : Int, -10000000 ≤ x → x ≤ 10000000 → Builtin.Range.rangeFitsLong x = true := fun x h1 h2 => by
    unfold Builtin.Range.rangeFitsLong
    rw [Bool.and_eq_true, decide_eq_true_eq, decide_eq_true_eq]
    omega
  refine ⟨by omega, by omega, ?_, hs⟩
  unfold Builtin.Range.small
  rw [hs, fit i (by omega) (by omega), fit j (by omega) (by omega), fit k (by omega) (by omega), fit _ (by omega) (by omega), if_pos h.2.2.2.2.1, fit (j + (k - 1)) (by omega) (by omega), Bool.or_true]
  rfl
/-- the signs of a text -/
theorem js_chars (s : Str) : Js (Its s) (s.cps.toList.map fun c => Val.str ⟨#[c]⟩) (fun _ => True) h1 H1 := by
  have hl : (s.cps.toList.map fun c => Val.str ⟨#[c]⟩).length = s.cps.size := by rw [List.length_map, Array.length_toList]
  refine ⟨fun i h H _ _ _ hi => by rw [hl] at hi; exact hi, fun i h H _ _ _ hi => by rw [hl] at hi; exact hi, fun i h H y H' rh st kp hi hy => ?_⟩
  obtain ⟨rfl, c, hc, rfl⟩ := hy
  refine ⟨.str ⟨#[c]⟩, ?_, rh, .refl, rfl⟩
  rw [List.getElem?_map, Array.getElem?_toList, hc]; rfl
/-- the keys of a locked dict -/
theorem js_keys {a : Addr} {o : Obj} {kvs : List (Key × L2.V)} {ks : List Key} (n : h1 a = none) (e : H1 a = some (.frz o (.dK kvs))) (ek : kvs.map (·.1) = ks) : Js (Itk a o kvs) (ks.map keyV) (fun _ => True) h1 H1 := by
  have hl : (ks.map keyV).length = kvs.length := by rw [← ek, List.length_map, List.length_map]
  refine ⟨fun i h H _ st _ hi => ⟨(st a _ e n).1, by rw [hl] at hi; exact hi⟩, fun i h H _ st _ hi => ⟨(st a _ e n).1, by rw [hl] at hi; exact hi⟩, fun i h H y H' rh st kp hi hy => ?_⟩
  obtain ⟨rfl, k, v, hk, rfl⟩ := hy
  refine ⟨keyV k, by rw [← ek, List.getElem?_map, List.getElem?_map, hk]; rfl, rh, .refl, ?_⟩
  cases k <;> rfl
/-- a tracked list, at every turn -/
theorem lv_at (rv : RV h1 H1 v x) (rh1 : RH h1 H1) (e : lv h1 v = some xs) : ∃ a vs, x = .ref a ∧ SqL K H1 a vs ∧ ∀ {h : Hq} {H : Hp}, RH h H → Stab h1 H1 h H → lv h v = some xs → ∃ vs, SqL K H a vs ∧ RVs h H xs vs := by
  obtain ⟨a, vs, e1, e2, e3⟩ := lv_read rh1 rv e
  refine ⟨a, vs, e1, SqL.of e2, fun {h H} rh st kp => ?_⟩
  obtain ⟨a', vs', q1, q2, q3⟩ := lv_read rh (RV.keep st rv) kp
  rw [e1] at q1; cases q1
  exact ⟨vs', SqL.of q2, q3⟩
theorem enum_get {i : Nat} {u : Val} (e : xs[i]? = some u) : (enumL xs)[i]? = some (.tup [.int (i : Nat), u]) := by
  obtain ⟨hi, e'⟩ := List.getElem?_eq_some_iff.mp e
  unfold enumL
  rw [List.getElem?_zipWith, e, List.getElem?_range hi]
theorem enum_len : (enumL xs).length = xs.length := by unfold enumL; simp
theorem js_enum (rv : RV h1 H1 v x) (rh1 : RH h1 H1) (e : lv h1 v = some xs) : ∃ a vs, x = .ref a ∧ SqL K H1 a vs ∧ Js (Ite K a) (enumL xs) (fun h' => lv h' v = some xs) h1 H1 := by
  obtain ⟨a, vs, e1, e2, at_⟩ := lv_at (K := K) rv rh1 e
  refine ⟨a, vs, e1, e2, fun i h H rh st kp hi => ?_, fun i h H rh st kp hi => ?_, fun i h H y H' rh st kp hi hy => ?_⟩
  · obtain ⟨ws, q1, q2⟩ := at_ rh st kp
    exact ⟨ws, q1, by rw [← q2.length, ← enum_len]; exact hi⟩
  · obtain ⟨ws, q1, q2⟩ := at_ rh st kp
    rw [enum_len] at hi
    obtain ⟨u, hu⟩ := get_lt hi
    obtain ⟨z, hz, _⟩ := q2.get hu
    exact ⟨ws, z, q1, hz⟩
  · obtain ⟨ws, q1, q2⟩ := at_ rh st kp
    obtain ⟨t, z, rfl, n, rfl, hy⟩ := hy
    obtain ⟨u, hu, ru⟩ := q2.get' (hy ws q1)
    have k := Stab.alloc (h := h) (o := .tup [.int (i : Nat), z]) n
    exact ⟨_, enum_get hu, rh.alloc n, k, t, _, rfl, rh.free n, upd_same, .cons rfl (.cons (RV.keep k ru) .nil)⟩
theorem js_zip {v' : Val} {x' : V} {ys : List Val} (rv : RV h1 H1 v x) (rv' : RV h1 H1 v' x') (rh1 : RH h1 H1) (e : lv h1 v = some xs) (e' : lv h1 v' = some ys) :
    ∃ a b vs ws, x = .ref a ∧ x' = .ref b ∧ SqL K H1 a vs ∧ SqL K H1 b ws ∧ Js (Itz K a b) (zipL xs ys) (fun h' => lv h' v = some xs ∧ lv h' v' = some ys) h1 H1 := by
  obtain ⟨a, vs, e1, e2, at_⟩ := lv_at (K := K) rv rh1 e
  obtain ⟨b, ws, e3, e4, bt⟩ := lv_at (K := K) rv' rh1 e'
  have hl : (zipL xs ys).length = min xs.length ys.length := by unfold zipL; simp
  refine ⟨a, b, vs, ws, e1, e3, e2, e4, fun i h H rh st kp hi => ?_, fun i h H rh st kp hi => ?_, fun i h H y H' rh st kp hi hy => ?_⟩
  · obtain ⟨us, q1, q2⟩ := at_ rh st kp.1
    obtain ⟨zs, q3, q4⟩ := bt rh st kp.2
    refine ⟨us, zs, q1, q3, ?_⟩
    rw [← q2.length, ← q4.length]; omega
  · obtain ⟨us, q1, q2⟩ := at_ rh st kp.1
    obtain ⟨zs, q3, q4⟩ := bt rh st kp.2
    obtain ⟨u, hu⟩ := get_lt (show i < xs.length by omega)
    obtain ⟨u', hu'⟩ := get_lt (show i < ys.length by omega)
    obtain ⟨z, hz, _⟩ := q2.get hu
    obtain ⟨z', hz', _⟩ := q4.get hu'
    exact ⟨us, zs, z, z', q1, q3, hz, hz'⟩
  · obtain ⟨us, q1, q2⟩ := at_ rh st kp.1
    obtain ⟨zs, q3, q4⟩ := bt rh st kp.2
    obtain ⟨t, z, z', rfl, n, rfl, hy, hy'⟩ := hy
    obtain ⟨u, hu, ru⟩ := q2.get' (hy us q1)
    obtain ⟨u', hu', ru'⟩ := q4.get' (hy' zs q3)
    have k := Stab.alloc (h := h) (o := .tup [z, z']) n
    exact ⟨.tup [u, u'], by unfold zipL; rw [List.getElem?_zipWith, hu, hu'], rh.alloc n, k, t, _, rfl, rh.free n, upd_same, .cons (RV.keep k ru) (.cons (RV.keep k ru') .nil)⟩
theorem js_rev (rv : RV h1 H1 v x) (rh1 : RH h1 H1) (e : lv h1 v = some xs) : ∃ a vs, x = .ref a ∧ SqL K H1 a vs ∧ Js (Itv K a vs.length) xs.reverse (fun h' => lv h' v = some xs) h1 H1 := by
  obtain ⟨a, vs0, e1, e2, e3⟩ := lv_read rh1 rv e
  obtain ⟨a', vs, e1', e2', at_⟩ := lv_at (K := K) rv rh1 e
  rw [e1] at e1'; cases e1'
  have hn : vs0.length = xs.length := e3.length.symm
  refine ⟨a, vs0, e1, SqL.of e2, fun i h H rh st kp hi => ?_, fun i h H rh st kp hi => ?_, fun i h H y H' rh st kp hi hy => ?_⟩
  · rw [List.length_reverse] at hi
    show vs0.length ≤ i
    omega
  · rw [List.length_reverse] at hi
    obtain ⟨us, q1, q2⟩ := at_ rh st kp
    obtain ⟨u, hu⟩ := get_lt (show vs0.length - 1 - i < xs.length by omega)
    obtain ⟨z, hz, _⟩ := q2.get hu
    exact ⟨by omega, us, z, q1, hz⟩
  · rw [List.length_reverse] at hi
    obtain ⟨us, q1, q2⟩ := at_ rh st kp
    obtain ⟨rfl, hy⟩ := hy
    obtain ⟨u, hu, ru⟩ := q2.get' (hy us q1)
    refine ⟨u, ?_, rh, .refl, ru⟩
    rw [List.getElem?_reverse hi, ← hn]; exact hu
end
end L3

set_option Elab.async false
set_option linter.all false
set_option maxRecDepth 100000
/-! L3, part 8: targets, comprehensions, expressions. -/
namespace L3
open PySem PySem.Spec PyProof.Rows L2
variable [Mo]

/-! ### targets -/
def tgS : Tg → List Nat | .name i => [i] | .names is => is
def GTx (tg : Tg) : TG := fun x σ H Q => ∃ h v ρ ρ', RE h H ρ σ ∧ RH h H ∧ RV h H v x ∧ bindT tg v ρ = some ρ' ∧ ∀ σ', RE h H ρ' σ' → σ'.length = σ.length → (∀ j, j ∉ tgS tg → σ'[j]? = σ[j]?) → Q σ' H
theorem RE.set {h : Hq} {H : Hp} {ρ : Env3} {σ : L2.St} {v : Val} {x : V} (r : RE h H ρ σ) (i : Nat) (rv : RV h H v x) : RE h H (ρ.set i (some v)) (σ.set i (some x)) := by
  refine ⟨by rw [List.length_set, List.length_set]; exact r.1, fun j u e => ?_⟩
  by_cases hj : i = j
  · subst hj
    by_cases hl : i < ρ.length
    · rw [List.getElem?_set_self hl] at e; cases e
      rw [List.getElem?_set_self (by rw [← r.1]; exact hl)]
      exact ⟨x, rfl, rv⟩
    · rw [List.getElem?_eq_none (by simpa using hl)] at e; cases e
  · rw [List.getElem?_set_ne hj] at e
    rw [List.getElem?_set_ne hj]
    exact r.2 j u e
def gList : List Nat → TGs
  | [] => gNil
  | i :: is => gCons (gName i) (gList is)
theorem asg_each {e : Expr} {es : List Expr} {env : PySem.Env} (h : isStar e = false) : assignEach (e :: es) env = (false, assign e env) :: assignEach es env := by
  cases e <;> first | rfl | (cases h)
theorem names_run {X : Cx} {N : List Str} {sc : Scope} {fb : Str → Bool} (hN : X.N = N) (hsc : X.env.scope = sc) (nd : X.N.Nodup) (hf : ∀ x, fb x = true → X.fn x = true) :
    ∀ {is : List Nat} {es : List Expr}, namesOf N sc fb is es = true → PGs X es (gList is) ∧ (assignEach es X.env).length = is.length ∧ (assignEach es X.env).findIdx? (·.1) = none ∧ (∀ e ∈ es, isStar e = false)
  | [], [], _ => ⟨pgs_nil, rfl, rfl, fun _ h => by cases h⟩
  | [], _ :: _, h => by simp [namesOf] at h
  | _ :: _, [], h => by simp [namesOf] at h
  | i :: is, e :: es, h => by
    simp only [namesOf, Bool.and_eq_true] at h
    obtain ⟨h1, h2⟩ := h
    obtain ⟨p1, p2, p3, p4⟩ := names_run hN hsc nd hf h2
    split at h1
    · rename_i x e1
      obtain ⟨p, rfl⟩ := asName_is e1
      rw [Bool.and_eq_true] at h1
      obtain ⟨l1, l2⟩ := loc_is h1.2
      subst hN hsc
      refine ⟨pgs_cons (pg_name nd (of_decide_eq_true h1.1) l1 (l2.imp (hf x) id)) p1 (by rw [asg_each rfl]; rfl), ?_, ?_, ?_⟩
      · rw [asg_each rfl, List.length_cons, List.length_cons, p2]
      · rw [asg_each rfl, List.findIdx?_cons]
        simp [p3]
      · intro e he
        rcases List.mem_cons.mp he with rfl | he
        · rfl
        · exact p4 e he
    · cases h1
theorem gList_ok {h : Hq} {H : Hp} : ∀ {is : List Nat} {vs : List Val} {xs : List V} {ρ ρ' : Env3} {σ : L2.St} {Q : L2.St → Hp → Prop}, RE h H ρ σ → RVs h H vs xs → bindL3 is vs ρ = some ρ' →
    (∀ σ', RE h H ρ' σ' → σ'.length = σ.length → (∀ j, j ∉ is → σ'[j]? = σ[j]?) → Q σ' H) → gList is xs σ H Q
  | [], [], _, _, _, _, _, re, rv, e, k => by
    cases e
    exact ⟨rv, k _ re rfl fun _ _ => rfl⟩
  | i :: is, v :: vs, _, _, _, σ, _, re, ⟨y, t, q, r1, r2⟩, e, k => by
    subst q
    refine ⟨y, t, rfl, gList_ok (re.set i r1) r2 e fun σ' re' hl ho => k σ' re' (by rw [hl, List.length_set]) fun j hj => ?_⟩
    rw [ho j fun z => hj (List.mem_cons_of_mem _ z), List.getElem?_set_ne (by rintro rfl; exact hj List.mem_cons_self)]
  | [], _ :: _, _, _, _, _, _, _, _, e, _ => by cases e
  | _ :: _, [], _, _, _, _, _, _, _, e, _ => by cases e
theorem _root_.L2.PG.imp {X : Cx} {e : Expr} {t t' : TG} (p : PG X e t) (k : ∀ x σ H Q, t' x σ H Q → t x σ H Q) : PG X e t' := ⟨fun pins s σ H v u Q I r h => p.run pins s σ H v u Q I r (k v σ H Q h)⟩
theorem _root_.L2.PG.or {X : Cx} {e : Expr} {t t' : TG} (p : PG X e t) (p' : PG X e t') : PG X e (fun x σ H Q => t x σ H Q ∨ t' x σ H Q) := ⟨fun pins s σ H v u Q I r h => h.elim (p.run pins s σ H v u Q I r) (p'.run pins s σ H v u Q I r)⟩
theorem sG {X : Cx} {fb : Str → Bool} {tg : Tg} {t : Expr} (hc : X.calm = true) (nd : X.N.Nodup) (hf : ∀ x, fb x = true → X.fn x = true) (h : mT X.N X.env.scope fb tg t = true) : PG X t (GTx tg) := by
  cases tg with
  | name i =>
    unfold mT at h
    dsimp only at h
    split at h
    · rename_i x e1
      obtain ⟨p, rfl⟩ := asName_is e1
      rw [Bool.and_eq_true] at h
      obtain ⟨l1, l2⟩ := loc_is h.2
      refine (pg_name nd (of_decide_eq_true h.1) l1 (l2.imp (hf x) id)).imp fun x σ H Q ⟨h, v, ρ, ρ', re, rh, rv, e, k⟩ => ?_
      cases e
      refine k _ (re.set i rv) (List.length_set ..) fun j hj => List.getElem?_set_ne ?_
      rintro rfl; exact hj List.mem_cons_self
    · cases h
  | names is =>
    unfold mT at h
    dsimp only at h
    split at h
    · rename_i es e1
      obtain ⟨k, p, rfl⟩ := asTup_is e1
      obtain ⟨p1, p2, p3, p4⟩ := names_run rfl rfl nd hf h
      refine ((pg_tup hc p1 p2 p3).or (pg_unl hc p1 p2 p3)).imp fun x σ H Q ⟨h, v, ρ, ρ', re, rh, rv, e, k⟩ => ?_
      unfold bindT at e
      dsimp only at e
      have hlen : ∀ {is : List Nat} {vs : List Val} {ρ ρ' : Env3}, bindL3 is vs ρ = some ρ' → is.length = vs.length := by
        intro is
        induction is with
        | nil => intro vs ρ ρ' e; cases vs <;> first | rfl | cases e
        | cons i is ih => intro vs ρ ρ' e; cases vs <;> first | (cases e; done) | (rw [List.length_cons, List.length_cons, ih e])
      split at e
      · rename_i vs
        obtain ⟨a, xs, q1, q2, q3, q4⟩ := rv
        exact .inl ⟨a, xs, q1, SqT.of q3, by rw [hlen e, q4.length], gList_ok re q4 e k⟩
      · rename_i vs
        obtain ⟨a, xs, q1, q2, q3, q4⟩ := rv
        exact .inr ⟨a, xs, q1, SqL.of q3, by rw [hlen e, q4.length], gList_ok re q4 e k⟩
      · cases e
    · cases h

/-! ### a comprehension's own names -/
theorem wipe3_len (ρ : Env3) : ∀ vs : List Nat, (wipe3 ρ vs).length = ρ.length
  | [] => rfl
  | v :: vs => by unfold wipe3; rw [List.length_set, wipe3_len ρ vs]
theorem wipe3_some {ρ : Env3} {i : Nat} {x : Val} : ∀ {vs : List Nat}, (wipe3 ρ vs)[i]? = some (some x) → ρ[i]? = some (some x) ∧ i ∉ vs
  | [], h => ⟨h, by simp⟩
  | v :: vs, h => by
    unfold wipe3 at h
    by_cases hi : v = i
    · subst hi
      by_cases hv : v < (wipe3 ρ vs).length
      · rw [List.getElem?_set_self hv] at h; cases h
      · rw [List.getElem?_eq_none (by simpa using hv)] at h; cases h
    · rw [List.getElem?_set_ne hi] at h
      obtain ⟨h1, h2⟩ := wipe3_some h
      exact ⟨h1, fun z => (List.mem_cons.mp z).elim (fun e => hi e.symm) h2⟩
theorem wipe_get {σ : L2.St} {i : Nat} : ∀ {vs : List Nat}, i ∉ vs → (wipe σ vs)[i]? = σ[i]?
  | [], _ => rfl
  | v :: vs, h => by
    unfold wipe
    rw [List.getElem?_set_ne (by rintro rfl; exact h List.mem_cons_self)]
    exact wipe_get fun z => h (List.mem_cons_of_mem _ z)
theorem wipe_in {σ : L2.St} {i : Nat} : ∀ {vs : List Nat}, i ∈ vs → i < σ.length → (wipe σ vs)[i]? = some none
  | v :: vs, h, hl => by
    unfold wipe
    by_cases e : v = i
    · subst e; rw [List.getElem?_set_self (by rw [wipe_length]; exact hl)]
    · rw [List.getElem?_set_ne e]
      exact wipe_in ((List.mem_cons.mp h).resolve_left fun z => e z.symm) hl
theorem wipe_ext {a b : L2.St} {vs : List Nat} (hl : a.length = b.length) (h : ∀ j, j ∉ vs → a[j]? = b[j]?) : wipe a vs = wipe b vs := by
  apply List.ext_getElem?
  intro j
  by_cases hj : j ∈ vs
  · by_cases hlt : j < a.length
    · rw [wipe_in hj hlt, wipe_in hj (by rw [← hl]; exact hlt)]
    · rw [List.getElem?_eq_none (by rw [wipe_length]; omega), List.getElem?_eq_none (by rw [wipe_length]; omega)]
  · rw [wipe_get hj, wipe_get hj, h j hj]
theorem RE.wipe {h : Hq} {H : Hp} {ρ : Env3} {σ : L2.St} (r : RE h H ρ σ) (vs : List Nat) : RE h H (wipe3 ρ vs) (L2.wipe σ vs) := by
  refine ⟨by rw [wipe3_len, wipe_length]; exact r.1, fun i v e => ?_⟩
  obtain ⟨e1, e2⟩ := wipe3_some e
  rw [wipe_get e2]
  exact r.2 i v e1
theorem ownOf_snd {N : List Str} {own : List Nat} (h : (ownOf N own).map (·.2) = own) : (ownOf N own).map (·.2) = own := h
theorem tgOwn_is {tg : Tg} {own : List Nat} (h : tgOwn tg own = true) : own = tgS tg := by
  cases tg <;> exact of_decide_eq_true h

section
variable {T : Tb} {F : Fs} {n : Nat}
/-- a comprehension's turns -/
theorem sLC {W : WX} {C : CT} (kc : MonoC C C) {fz : Bool} {elt : Ex} {tg : Tg} {it : Itx} {cond : Ex} {own : List Nat} {σ : L2.St} {H : Hp} {Q : VK} (ho : own = tgS tg)
    (q : TEx T W (wpE C (.comp fz elt tg it cond own)) σ H Q) : tLc (TIx T W (wpI C it)) (GTx tg) (TTx T (fun _ _ _ _ => False) (wpT C cond)) (TEx T (fun _ _ _ _ => False) (wpE C elt)) own σ H Q := by
  obtain ⟨ρ, h, re, rh, w⟩ := q
  refine ⟨ρ, h, re, rh, wpI_mono kc it _ _ _ _ _ _ (fun items keep h1 q H1 J rh1 st js D nD => ?_) (fun _ _ e => e) w⟩
  have q := q D (rh1.free nD)
  have st0 := Stab.cell (h := h1) (o := .lst []) (c := .lst []) nD
  refine ⟨fun i m H' => ∃ h', RH h' H' ∧ Stab h1 H1 h' H' ∧ m = items.length - i ∧ i ≤ items.length ∧
    compW tg (fun ρ1 h2 K => wpT C cond ρ1 h2 K fun _ _ => False) (fun ρ1 h2 K => wpE C elt ρ1 h2 K fun _ _ => False) keep D (compFin fz D (KQ h H Q)) (wipe3 ρ own) (items.drop i) h',
    ⟨items.length, _, rh1.put st0 ⟨[], upd_same, RVs.nil⟩, st0, by omega, Nat.zero_le _, q⟩, fun i m H' hW => ?_⟩
  obtain ⟨h', rh', st', rfl, hi, w'⟩ := hW
  by_cases hlt : i < items.length
  · have ed : items.drop i = items[i] :: items.drop (i + 1) := List.drop_eq_getElem_cons hlt
    rw [ed] at w'
    obtain ⟨kp, w'⟩ := w'
    obtain ⟨ρ1, e1, w'⟩ := optW_ex w'
    refine .inr ⟨js.go i h' H' rh' st' kp hlt, fun H'' => ∃ h', RH h' H'' ∧ Stab h1 H1 h' H'' ∧ compW tg (fun ρ1 h2 K => wpT C cond ρ1 h2 K fun _ _ => False) (fun ρ1 h2 K => wpE C elt ρ1 h2 K fun _ _ => False) keep D (compFin fz D (KQ h H Q)) (wipe3 ρ own) (items.drop (i + 1)) h',
      fun H'' ⟨h2, a, b, c⟩ => ⟨_, by omega, h2, a, b, rfl, hlt, c⟩, fun x H2 hy => ?_⟩
    obtain ⟨v, ev, rh2, st2, rv⟩ := js.yld i h' H' x H2 rh' st' kp hlt hy
    rw [List.getElem?_eq_getElem hlt] at ev
    cases ev
    have re' := ((re.keep (st.trans (st'.trans st2))).wipe own)
    refine ⟨h', items[i], wipe3 ρ own, ρ1, re', rh2, rv, e1, fun σ' re1 hl ho' => ⟨?_, ?_⟩⟩
    · subst ho
      rw [wipe_ext hl fun j hj => (ho' j hj)]
      exact wipe_ext (wipe_length _ _) fun j hj => wipe_get hj
    · refine stepT kc re1 rh2 w' (fun _ _ z => z.elim) fun b h3 H3 re3 rh3 st3 w3 => ?_
      cases b with
      | true =>
        refine stepE kc re3 rh3 w3 (fun _ _ z => z.elim) fun v4 h4 V4 H4 re4 rh4 st4 rv4 w4 => ?_
        obtain ⟨acc, ea, hz, w4⟩ := optW_ex w4
        have hc := lstO_some.mp ea
        obtain ⟨vs, e5, r5⟩ := rh4 D _ hc
        have s5 := Stab.write (H := H4) (o := .lst (vs ++ [V4])) (d := .lst (acc ++ [v4])) hc
        refine ⟨vs, e5, by rw [← r5.length]; exact len_lt hz, _, rh4.put s5 ⟨_, upd_same, RVs.keep s5 (r5.app (.cons rv4 .nil))⟩, st'.trans (st2.trans (st3.trans (st4.trans s5))), w4⟩
      | false => exact ⟨h3, rh3, st'.trans (st2.trans st3), w3⟩
  · have ed : items.drop i = [] := List.drop_eq_nil_of_le (by omega)
    rw [ed] at w'
    obtain ⟨kp, w'⟩ := w'
    refine .inl ⟨js.stop i h' H' rh' st' kp (by omega), ?_⟩
    have stt := st.trans st'
    cases fz with
    | true =>
      obtain ⟨acc, ea, w6⟩ := optW_ex (show optW (lstO h' D) (fun acc => KQ h H Q (.fl acc) (er h' D)) from w')
      obtain ⟨vs, e5, r5⟩ := rh' D _ (lstO_some.mp ea)
      exact w6 _ _ rh'.er (stt.trans Stab.er) ⟨D, vs, rfl, er_same, e5, RVs.keep Stab.er r5⟩
    | false => exact (show KQ h H Q (.ref D) h' from w') _ _ rh' stt rfl
/-- a frozen list -/
theorem frz_out {h h1 : Hq} {H H1 : Hp} {v : Val} {x : V} {Q : VK} (st : Stab h H h1 H1) (rh : RH h1 H1) (rv : RV h1 H1 v x) (w : frzW v h1 (KQ h H Q)) : Q x H1 := by
  obtain ⟨⟨a, c⟩, e, w⟩ := optW_ex w
  obtain ⟨q1, q2, q3⟩ := cellAt_read rv e
  subst q1
  exact w _ _ rh.er (st.trans Stab.er) (frzC_rv rh q2 q3)
theorem frzAll_out {H1 : Hp} : ∀ {vs : List Val} {xs : List V} {h1 : Hq} {K : List Val → Hq → Prop}, RH h1 H1 → RVs h1 H1 vs xs → frzAll vs h1 K → ∃ ys h2, K ys h2 ∧ RH h2 H1 ∧ Stab h1 H1 h2 H1 ∧ RVs h2 H1 ys xs
  | [], _, h1, _, rh, rv, w => ⟨[], h1, w, rh, .refl, rv⟩
  | v :: vs, _, h1, _, rh, ⟨y, t, q, r1, r2⟩, w => by
    subst q
    obtain ⟨⟨a, c⟩, e, w⟩ := optW_ex w
    obtain ⟨q1, q2, q3⟩ := cellAt_read r1 e
    subst q1
    obtain ⟨ys, h2, k, rh2, st2, rv2⟩ := frzAll_out rh.er (RVs.keep Stab.er r2) w
    exact ⟨_, h2, k, rh2, Stab.er.trans st2, .cons (RV.keep st2 (frzC_rv rh q2 q3)) rv2⟩
theorem frzD_out {h h1 : Hq} {H H1 : Hp} {v : Val} {x : V} {Q : VK} (st : Stab h H h1 H1) (rh : RH h1 H1) (rv : RV h1 H1 v x) (w : frzDW v h1 (KQ h H Q)) : Q x H1 := by
  obtain ⟨⟨a, xs⟩, e, w⟩ := optW_ex w
  obtain ⟨q1, q2, vs, q3, q4⟩ := lstAt_read rh rv e
  obtain ⟨ys, h2, k, rh2, st2, rv2⟩ := frzAll_out rh.er (RVs.keep Stab.er q4) w
  have n2 : h2 a = none := (st2 a _ q3 er_same).2
  exact k _ _ rh2 (st.trans (Stab.er.trans st2)) ⟨a, vs, q1, n2, q3, rv2⟩
end
end L3

set_option Elab.async false
set_option linter.all false
set_option maxRecDepth 100000
set_option maxHeartbeats 1000000
/-! L3: xs[::-1] of a list or a tuple. -/
namespace L3
open PySem PySem.Spec PyProof.Rows L2
section
variable {prog : Program} {w : World} {A : Around} {E : Value → Shared → Prop} {s : Shared}
theorem rev_adjust (n : Nat) : Builtin.Slice.sliceAdjust none none (-1) (n : Int) = ((n : Int) - 1, -1) := by
  unfold Builtin.Slice.sliceAdjust
  have h1 : (-1 : Int) < 0 := by decide
  simp only [h1, if_true]
theorem rev_places (n : Nat) : Builtin.Slice.slicePlaces ((n : Int) - 1) (-1) (-1) = n := by
  unfold Builtin.Slice.slicePlaces
  have h1 : ¬ ((-1 : Int) > 0) := by decide
  simp only [h1, if_false]
  rw [show (- -1 : Int) = 1 by decide, Int.ediv_one]
  split <;> omega
theorem fm_congr {α β : Type} {f g : α → Option β} : ∀ {xs : List α}, (∀ x ∈ xs, f x = g x) → xs.filterMap f = xs.filterMap g
  | [], _ => rfl
  | x :: xs, h => by
    rw [List.filterMap_cons, List.filterMap_cons, h x (by simp), fm_congr fun y hy => h y (by simp [hy])]
theorem rev_pick (xs : Array Value) : ((List.range xs.size).filterMap fun (m : Nat) => xs[(((xs.size : Int) - 1) + (m : Int) * (-1)).toNat]?).toArray = xs.toList.reverse.toArray := by
  have e : (List.range xs.size).filterMap (fun (m : Nat) => xs[(((xs.size : Int) - 1) + (m : Int) * (-1)).toNat]?) = ((List.range xs.size).map fun k => xs.size - 1 - k).filterMap (xs[·]?) := by
    rw [List.filterMap_map]
    refine fm_congr fun m hm => ?_
    have := List.mem_range.mp hm
    show _ = xs[xs.size - 1 - m]?
    congr 1
    omega
  rw [e, PySem.W.krv_range, List.filterMap_reverse, PySem.W.krv_all]
theorem getItem_tuple_rev {t sl : Addr} {items : Array Value} {vl vu vs : Value} {Q : Value → Shared → Prop} (ht : IsTup s.heap t items) (hs : s.heap.IsSliceOf sl vl vu vs) (pl : IsPart vl none) (pu : IsPart vu none) (ps : IsPart vs (some (-1)))
    (h : Q (.ref s.heap.objs.size) { s with heap := s.heap.push { cls := .type "tuple", data := .seq items.toList.reverse.toArray } })
    (hsz : items.size ≤ sizeLine) : wpAny (model prog w) A (getItem (.ref t) (.ref sl)) Q E s := by
  have htake : sizeOk (.seq items.toList.reverse.toArray) := by
    show items.toList.reverse.toArray.size ≤ sizeLine
    rw [List.size_toArray, List.length_reverse, Array.length_toList]; exact hsz
  obtain ⟨os, hos, hcs, hds⟩ := id hs
  have hTs : s.TypeIs (.ref sl) "slice" := ⟨os, hos, hcs⟩
  unfold getItem
  try with_reducible refine wpAny_holding ?_
  first | refine wpAny_bind (wpAny_pure ?_) | skip
  refine wpAny_bind (wpAny_sequenceKey ht.typeIs (by decide) ?_)
  refine wpAny_bind (wpAny_callSpecial?_slot (name := Str.ofString "__getitem__") ht.typeIs PyProof.Rows.slot_tuple_getitem
    (wpAny_call_entry PyProof.Rows.slot_tuple_getitem ht.typeIs entry_tuple_getitem ?_ (args_tuple_getitem _ _)))
  show wpAny _ _ (Builtin.Tuple.tupleItemsOf (.ref t) >>= _) _ _ s
  refine wpAny_bind (tupleItemsOf_ ht ?_)
  refine wpAny_bind (wpAny_typeOf hTs ?_)
  rw [if_pos (by decide)]
  have app : ∀ {A : Around} {E : Value → Shared → Prop} {Q' : Int × Int × Nat → Shared → Prop}, Q' (((items.size : Nat) : Int) - 1, -1, items.size) s → wpAny (model prog w) A (Builtin.Slice.sliceApplied (.ref sl) (pure ((items.size : Nat) : Int))) Q' E s := by
    intro A E Q' q'
    unfold Builtin.Slice.sliceApplied Builtin.Slice.sliceFields
    refine wpAny_bind (wpAny_bind (wpAny_field hos hds (x := vl) rfl (wpAny_bind (wpAny_field hos hds (x := vu) rfl (wpAny_bind (wpAny_field hos hds (x := vs) rfl (wpAny_pure ?_)))))))
    refine wpAny_bind (HT.slicePart_ ps ?_)
    show wpAny _ _ (if ((-1 : Int) == 0) = true then _ else _) _ _ s
    rw [if_neg (by decide)]
    refine wpAny_bind (HT.slicePart_ pl (wpAny_bind (HT.slicePart_ pu (wpAny_bind (wpAny_pure ?_)))))
    show wpAny _ _ (match Builtin.Slice.sliceAdjust none none (-1) ((items.size : Nat) : Int) with | (lo, hi) => pure (lo, (-1 : Int), Builtin.Slice.slicePlaces lo hi (-1))) _ _ s
    rw [rev_adjust]
    show wpAny _ _ (pure (((items.size : Nat) : Int) - 1, (-1 : Int), Builtin.Slice.slicePlaces (((items.size : Nat) : Int) - 1) (-1) (-1))) _ _ s
    rw [rev_places]
    exact wpAny_pure q'
  refine wpAny_bind (app ?_)
  have hno : ¬ ((((((items.size : Nat) : Int) - 1)) == 0 && (-1 : Int) == 1 && items.size == items.size) = true) := by
    intro q
    rw [Bool.and_eq_true, Bool.and_eq_true] at q
    exact absurd q.1.2 (by decide)
  show wpAny _ _ (if ((((items.size : Nat) : Int) - 1) == 0 && (-1 : Int) == 1 && items.size == items.size) = true then _ else _) _ _ s
  rw [if_neg hno, rev_pick]
  first
    | exact wpAny_bind (m := Builtin.Tuple.tupleExact _) (wpAny_newObj_type (wpAny_pure ⟨_, rfl, wpAny_pure h⟩) htake)
    | exact wpAny_bind (m := Builtin.Tuple.tupleExact _) (wpAny_newObj_type (wpAny_bind (wpAny_pure (wpAny_pure ⟨_, rfl, wpAny_pure h⟩))) htake)
    | exact wpAny_bind (wpAny_bind (m := Builtin.Tuple.tupleExact _) (wpAny_newObj_type (wpAny_pure (wpAny_pure ⟨_, rfl, wpAny_pure h⟩)) htake))
    | exact wpAny_bind (wpAny_bind (m := Builtin.Tuple.tupleExact _) (wpAny_newObj_type (wpAny_pure ⟨_, rfl, wpAny_pure h⟩) htake))
end
def tRevA (K : PySem.W.Frag) (te : TE) : TE := fun σ H Q => te σ H fun x H1 => ∃ a xs, x = .ref a ∧ ((SqL K H1 a xs ∧ ∀ p, H1 p = none → Q (.ref p) (upd H1 p (.lst xs.reverse))) ∨ (SqT K H1 a xs ∧ ∀ p, H1 p = none → Q (.ref p) (upd H1 p (.tup xs.reverse))))
theorem pe_revA {X : Cx} {e : Expr} {te : TE} {k : Nat} {p1 p2 p3 pos : Pos} (he : PE X e te) : PE X (.Subscript e (.Slice none none (some (.UnaryOp .USub (.Constant (.int 1) k p1) p2)) p3) pos) (tRevA X.K te) := by
  refine ⟨fun pins s σ H Q I h => ?_⟩
  refine Subscript_ (thn (he.run pins s σ H _ I h) fun v s1 ⟨x, H1, I1, r1, q1⟩ => ?_)
  obtain ⟨a, xs, ex, q⟩ := q1
  subst ex
  cases r1
  have hst : PO X (some (.UnaryOp .USub (.Constant (.int 1) k p1) p2)) (tPart (tUn (rU fun i => .int (-i)) (tC (.int 1)))) := po_some (pe_un un_neg pe_int)
  refine wpAny_Slice (thn (po_none.run pins s1 σ H1 (fun o H2 => o = none ∧ H2 = H1) I1 ⟨rfl, rfl⟩) fun vl s2 ⟨l, H2, I2, pl, el, e2⟩ => ?_)
  subst el e2
  refine thn (po_none.run pins s2 σ H2 (fun o H3 => o = none ∧ H3 = H2) I2 ⟨rfl, rfl⟩) fun vu s3 ⟨u, H3, I3, pu, eu, e3⟩ => ?_
  subst eu e3
  refine thn (hst.run pins s3 σ H3 (fun o H4 => o = some (-1) ∧ H4 = H3) I3 ⟨1, rfl, -1, rfl, rfl, rfl⟩) fun vs s4 ⟨o, H4, I4, ps, eo, e4⟩ => ?_
  subst eo e4
  have I5 : Inv X pins σ H4 { s4 with heap := s4.heap.push { cls := .type "slice", data := .fields #[vl, vu, vs] } } := I4.kept (t' := s4.toks) fun b ob q => Heap.get?_push_of_some _ q
  rcases q with ⟨hx, q⟩ | ⟨hx, q⟩
  · obtain ⟨its, r, ht, hz⟩ := I5.list hx
    have hlen := r.length
    show wpAny (model X.prog X.w) X.A (subscriptTail e (.Slice none none (some (.UnaryOp .USub (.Constant (.int 1) k p1) p2)) p3) (.ref a) (.ref s4.heap.objs.size)) (EP X pins σ Q) X.xe { s4 with heap := s4.heap.push { cls := .type "slice", data := .fields #[vl, vu, vs] } }
    refine tail_any (ops := [.ref a, .ref s4.heap.objs.size]) ht.isList.typeIs (PySem.slot_list_getitem.lookup) ?_ (by with_unfolding_all rfl)
    refine wpAny_getItem_list_slice ht.isList (Heap.IsSliceOf.new _ vl vu vs) pl pu ps (by decide) ?_ (by rw [List.size_toArray]; omega)
    rw [PySem.W.krv_pick]
    refine ⟨.ref _, _, I5.laid (t' := s4.toks) (o := .lst xs.reverse) (fun b ob q => Heap.get?_push_of_some _ q) (Nat.le_refl _) ?_, rfl, q _ (I5.hok.fresh (Nat.le_refl _))⟩
    exact ⟨by rw [List.length_reverse]; exact hz, _, 0, r.reverse, Heap.get?_push_size _ rfl⟩
  · obtain ⟨its, r, ht, hz⟩ := I5.tuple hx
    have hlen := r.length
    show wpAny (model X.prog X.w) X.A (subscriptTail e (.Slice none none (some (.UnaryOp .USub (.Constant (.int 1) k p1) p2)) p3) (.ref a) (.ref s4.heap.objs.size)) (EP X pins σ Q) X.xe { s4 with heap := s4.heap.push { cls := .type "slice", data := .fields #[vl, vu, vs] } }
    refine tail_any (ops := [.ref a, .ref s4.heap.objs.size]) ht.typeIs (PyProof.Rows.slot_tuple_getitem.lookup) ?_ (by with_unfolding_all rfl)
    refine getItem_tuple_rev ht (Heap.IsSliceOf.new _ vl vu vs) pl pu ps ?_ (by rw [List.size_toArray]; omega)
    refine ⟨.ref _, _, I5.laid (t' := s4.toks) (o := .tup xs.reverse) (fun b ob q => Heap.get?_push_of_some _ q) (Nat.le_refl _) ?_, rfl, q _ (I5.hok.fresh (Nat.le_refl _))⟩
    exact ⟨by rw [List.length_reverse]; exact hz, _, r.reverse, IsTup.new _ _⟩
end L3

set_option Elab.async false
set_option linter.all false
set_option maxRecDepth 100000
/-! L3: more operations, sound. -/
namespace L3
open PySem PySem.Spec PyProof.Rows L2
variable [Mo]
section
variable {T : Tb} {F : Fs} {n : Nat} {X : Cx}
def R1x (f : Val → Hq → Pr) : V → Hp → VK → Prop := fun x H Q => ∃ h a, RH h H ∧ RV h H a x ∧ prW (f a h) (KQ h H Q)
theorem isFn_is {sc : Scope} {g : Expr} {x : Str} (h : isFn sc g x = true) : ∃ p, g = .Name x p ∧ gloB sc x = true ∧ magic x = false := by
  unfold isFn at h
  simp only [Bool.and_eq_true, decide_eq_true_eq, Bool.not_eq_true'] at h
  obtain ⟨p, rfl⟩ := asName_is h.1.1
  exact ⟨p, rfl, h.1.2, h.2⟩
theorem rg_eq (n : Int) : (List.range (n - 0).toNat).map (fun i => V.int (0 + (i : Nat))) = (List.range n.toNat).map fun i => V.int ((i : Nat) : Int) := by
  rw [show n - 0 = n by omega]
  exact List.map_congr_left fun i _ => by rw [Int.zero_add]
theorem rvs_rg {h : Hq} {H : Hp} : ∀ l : List Nat, RVs h H (l.map fun i => Val.int ((i : Nat) : Int)) (l.map fun i => V.int ((i : Nat) : Int))
  | [] => rfl
  | i :: l => .cons rfl (rvs_rg l)
theorem pairs_read {h : Hq} {H : Hp} {K : PySem.W.Frag} : ∀ {xs : List Val} {ws : List V} {kvs : KVs}, RVs h H xs ws → mapO pairOf xs = some kvs → ∃ (ps : List Addr) (us : List (Key × V)), ws = ps.map V.ref ∧ Paired (fun p kv => SqT K H p [kV kv.1, kv.2]) ps us ∧ RKV h H kvs us
  | [], _, _, r, e => by cases e; cases r; exact ⟨[], [], rfl, .nil, .nil⟩
  | x :: xs, _, _, ⟨y, t, q, r1, r2⟩, e => by
    subst q
    unfold mapO at e
    split at e
    · rename_i p ps e1 e2
      cases e
      obtain ⟨as, us, h1, h2, h3⟩ := pairs_read (K := K) r2 e2
      unfold pairOf at e1
      split at e1
      · rename_i k v
        obtain ⟨j, e3, e4⟩ := Option.map_eq_some_iff.mp e1
        cases e4
        obtain ⟨a, vs, q1, _, q2, q3⟩ := r1
        obtain ⟨u1, u2, q0, z1, z2⟩ := rvs2 q3
        subst q0 q1
        obtain rfl := key_read z1 e3
        exact ⟨a :: as, (j, u2) :: us, by rw [h1]; rfl, .cons (SqT.of q2) h2, .cons z2 h3⟩
      · cases e1
    · cases e
theorem keys_read {h : Hq} {H : Hp} : ∀ {xs : List Val} {ws : List V} {ks : List Key}, RVs h H xs ws → mapO keyOf xs = some ks → ws = ks.map kV
  | [], _, _, r, e => by cases e; cases r; rfl
  | x :: xs, _, _, ⟨y, t, q, r1, r2⟩, e => by
    subst q
    unfold mapO at e
    split at e
    · rename_i p ps e1 e2
      cases e
      rw [List.map_cons, ← keys_read r2 e2, key_read r1 e1]
    · cases e
theorem rkv_zip {h : Hq} {H : Hp} : ∀ {ks : List Key} {vs : List Val} {ws : List V}, RVs h H vs ws → RKV h H (ks.zip vs) (ks.zip ws)
  | [], _, _, _ => .nil
  | _ :: _, [], _, r => by cases r; exact .nil
  | k :: ks, v :: vs, _, ⟨y, t, e, r1, r2⟩ => by
    subst e
    exact .cons r1 (rkv_zip r2)
theorem out_list' {h : Hq} {H : Hp} {fz : Bool} {xs : List Val} {vs : List V} {Q : VK} (rh : RH h H) (r : RVs h H xs vs) (ho : Out.w (KQ h H Q) (.al fz xs h)) : ∀ p, H p = none → Q (.ref p) (upd H p (.lst vs)) := out_list rh r ho
theorem sO1 {W : WX} (G : Good T F n X) {o : O1} {fz : Bool} {a : Ex} {pe x : Expr} (h : mO1 X.env.scope o pe = some x) (pa : PE X x (TEx T W (wpE (CN F n) a))) : PE X pe (TEx T W (wpE (CN F n) (.op1 o fz a))) := by
  unfold mO1 at h
  have kc := CN_mono F n
  cases o with
  | lrange =>
    dsimp only at h
    split at h
    · rename_i g c p e1
      split at h
      · rename_i g2 y p2 e2
        split at h
        · rename_i c0
          cases h
          simp only [Bool.and_eq_true, Bool.not_eq_true'] at c0
          obtain ⟨⟨c1, c2⟩, c3⟩ := c0
          obtain ⟨p3, rfl, g1, m1⟩ := isFn_is c1
          obtain ⟨p4, rfl, g2, m2⟩ := isFn_is c2
          obtain rfl := asCall_is e1
          obtain rfl := asCall_is e2
          refine (pe_listRg G.calm (glo_is g1) (G.blt _ (by simp [bltNames])) (prg_1 (glo_is g2) (G.blt _ (by simp [bltNames])) pa (star_cons c3)) (by rfl)).imp fun σ H Q ⟨ρ, h, re, rh, w⟩ => ?_
          refine stepE kc re rh w (fun _ _ e => e) fun v h1 V H1 re1 rh1 st1 rv w => ?_
          obtain ⟨⟨c, out⟩, e, hc, ho⟩ := optW_ex (prW_mono (fun _ _ (k : KQ h H Q _ _) => k.later st1) w)
          unfold o1R at e
          dsimp only at e
          split at e
          · rename_i k
            cases e
            cases rv
            have h1' : k ≤ 1000000 := hc.1
            have h2' : -1000000 ≤ k := hc.2
            refine ⟨k, rfl, ⟨by omega, by omega, by omega, by omega, by omega⟩, fun q nq => ?_⟩
            have e5 : rgV 0 k = (List.range k.toNat).map fun i => V.int ((i : Nat) : Int) := rg_eq k
            rw [e5]
            exact out_list' rh1 (rvs_rg _) ho q nq
          · cases e
        · cases h
      · cases h
    · cases h
  | rev =>
    dsimp only at h
    unfold asRev at h
    split at h
    · cases h
      refine (pe_revA pa).imp fun σ H Q ⟨ρ, h, re, rh, w⟩ => ?_
      refine stepE kc re rh w (fun _ _ e => e) fun v h1 V H1 re1 rh1 st1 rv w => ?_
      obtain ⟨⟨c, out⟩, e, hc, ho⟩ := optW_ex (prW_mono (fun _ _ (k : KQ h H Q _ _) => k.later st1) w)
      unfold o1R at e
      dsimp only at e
      split at e
      · rename_i xs
        cases e
        obtain ⟨p, vs, q1, q2, q3, q4⟩ := rv
        refine ⟨p, vs, q1, .inr ⟨SqT.of q3, fun l n => ?_⟩⟩
        have k := Stab.alloc (h := h1) (o := .tup vs.reverse) n
        exact (show KQ h1 H1 Q (.tup xs.reverse) h1 from ho) _ _ (rh1.alloc n) k ⟨l, _, rfl, rh1.free n, upd_same, RVs.keep k q4.reverse⟩
      · obtain ⟨xs, e1, e2⟩ := Option.map_eq_some_iff.mp e
        cases e2
        obtain ⟨p, vs, q1, q2, q3⟩ := ls_read (K := X.K) G.kk rh1 rv e1
        exact ⟨p, vs, q1, .inl ⟨q2, out_list' rh1 q3.reverse ho⟩⟩
    · cases h
  | dictP =>
    dsimp only at h
    split at h
    · rename_i g y p e1
      split at h
      · rename_i c0
        cases h
        simp only [Bool.and_eq_true, Bool.not_eq_true'] at c0
        obtain ⟨c1, c3⟩ := c0
        obtain ⟨p3, rfl, g1, m1⟩ := isFn_is c1
        obtain rfl := asCall_is e1
        obtain ⟨m2, m3, m4⟩ := magic_is m1
        have both : CallR X (.type "dict") (fun xs H Q => (∃ (a : Addr) (ps : List Addr) (kvs : List (Key × V)), xs = [.ref a] ∧ SqL X.K H a (ps.map V.ref) ∧ Paired (fun p kv => SqT X.K H p [kV kv.1, kv.2]) ps kvs ∧ ∀ p, H p = none → Q (.ref p) (upd H p (.dK (mergeK [] kvs)))) ∨
            ∃ (a : Addr) (kvs : List (Key × V)), xs = [.ref a] ∧ Rd H a (.dK kvs) ∧ ∀ p, H p = none → Q (.ref p) (upd H p (.dK kvs))) := fun pins s σ H xs us Q I r q => q.elim (call_dictP G.calm pins s σ H xs us Q I r) (call_dictD pins s σ H xs us Q I r)
        refine (pe_callTy both (glo_is g1) (G.blt _ (by simp [bltNames])) PyProof.Rows.boot_dict (pa_cons pa pa_nil (star_cons c3)) m4 m2 (star_cons c3) (by rfl)).imp fun σ H Q ⟨ρ, h, re, rh, w⟩ => ?_
        refine stepE kc re rh w (fun _ _ e => e) fun v h1 V H1 re1 rh1 st1 rv w => ?_
        obtain ⟨⟨c, out⟩, e, hc, ho⟩ := optW_ex (prW_mono (fun _ _ (k : KQ h H Q _ _) => k.later st1) w)
        unfold o1R at e
        dsimp only at e
        split at e
        · rename_i xs e3
          obtain ⟨kvs, e4, e5⟩ := Option.map_eq_some_iff.mp e
          cases e5
          obtain ⟨p, vs, q1, q2, q3⟩ := ls_read (K := X.K) G.kk rh1 rv e3
          obtain ⟨ps, us, z1, z2, z3⟩ := pairs_read (K := X.K) q3 e4
          subst z1
          exact .inl ⟨p, ps, us, by rw [q1], q2, z2, fun q nq => alcD_out rh1 (RKV.merge' .nil z3) ho q nq⟩
        · obtain ⟨kvs, e4, e5⟩ := Option.map_eq_some_iff.mp e
          cases e5
          obtain ⟨p, us, q1, q2, q3⟩ := dr_read rh1 rv e4
          exact .inr ⟨p, us, by rw [q1], q2, fun q nq => alcD_out rh1 q3 ho q nq⟩
      · cases h
    · cases h
  | sortSet =>
    dsimp only at h
    split at h
    · rename_i g c p e1
      split at h
      · rename_i g2 y p2 e2
        split at h
        · rename_i c0
          cases h
          simp only [Bool.and_eq_true, Bool.not_eq_true'] at c0
          obtain ⟨⟨c1, c2⟩, c3⟩ := c0
          obtain ⟨p3, rfl, g1, m1⟩ := isFn_is c1
          obtain ⟨p4, rfl, g2, m2⟩ := isFn_is c2
          obtain rfl := asCall_is e1
          obtain rfl := asCall_is e2
          refine (pe_sortSet G.calm (glo_is g1) (G.blt _ (by simp [bltNames])) (glo_is g2) (G.blt _ (by simp [bltNames])) pa (star_cons c3)).imp fun σ H Q ⟨ρ, h, re, rh, w⟩ => ?_
          refine stepE kc re rh w (fun _ _ e => e) fun v h1 V H1 re1 rh1 st1 rv w => ?_
          obtain ⟨⟨c, out⟩, e, hc, ho⟩ := optW_ex (prW_mono (fun _ _ (k : KQ h H Q _ _) => k.later st1) w)
          obtain ⟨ns, e4, e5⟩ := Option.map_eq_some_iff.mp (show (((ls h1 v).bind (mapO intOf)).map fun ns => (ns.length < 64, Out.al fz ((ssetI ns).map .int) h1)) = some (c, out) from e)
          cases e5
          obtain ⟨xs, e6, e7⟩ := Option.bind_eq_some_iff.mp e4
          obtain ⟨q, vs, q1, q2, q3⟩ := ls_read (K := X.K) G.kk rh1 rv e6
          obtain rfl := RVs.ints' q3 e7
          refine ⟨q, ns, q1, q2, hc, fun ms p hs hm hp => ?_⟩
          obtain rfl : ms = ssetI ns := lt_uniq hs (ssetI_lt ns) fun k => by rw [hm k, ssetI_mem]
          exact out_list rh1 RVs.of_ints ho p hp
        · cases h
      · cases h
    · cases h
  | lenSet =>
    dsimp only at h
    split at h
    · rename_i g c p e1
      split at h
      · rename_i g2 y p2 e2
        split at h
        · rename_i c0
          cases h
          simp only [Bool.and_eq_true, Bool.not_eq_true'] at c0
          obtain ⟨⟨c1, c2⟩, c3⟩ := c0
          obtain ⟨p3, rfl, g1, m1⟩ := isFn_is c1
          obtain ⟨p4, rfl, g2, m2⟩ := isFn_is c2
          obtain rfl := asCall_is e1
          obtain rfl := asCall_is e2
          refine (pe_lenSet G.calm (glo_is g1) (G.blt _ (by simp [bltNames])) (glo_is g2) (G.blt _ (by simp [bltNames])) pa (star_cons c3)).imp fun σ H Q ⟨ρ, h, re, rh, w⟩ => ?_
          refine stepE kc re rh w (fun _ _ e => e) fun v h1 V H1 re1 rh1 st1 rv w => ?_
          obtain ⟨⟨c, out⟩, e, hc, ho⟩ := optW_ex (prW_mono (fun _ _ (k : KQ h H Q _ _) => k.later st1) w)
          obtain ⟨ns, e4, e5⟩ := Option.map_eq_some_iff.mp (show (((ls h1 v).bind (mapO intOf)).map fun ns => (ns.length ≤ 1000, Out.v (.int (dlen ns : Nat)) h1)) = some (c, out) from e)
          cases e5
          obtain ⟨xs, e6, e7⟩ := Option.bind_eq_some_iff.mp e4
          obtain ⟨q, vs, q1, q2, q3⟩ := ls_read (K := X.K) G.kk rh1 rv e6
          obtain rfl := RVs.ints' q3 e7
          exact ⟨q, ns, q1, q2, hc, KQ.here ho rh1 rfl⟩
        · cases h
      · cases h
    · cases h
  | itemsS =>
    dsimp only at h
    split at h
    · rename_i g c p e1
      split at h
      · rename_i m cp e2
        split at h
        · rename_i y n ap e3
          split at h
          · rename_i c0
            cases h
            simp only [Bool.and_eq_true, Bool.not_eq_true', decide_eq_true_eq] at c0
            obtain ⟨⟨⟨c1, c2⟩, c3⟩, c4⟩ := c0
            obtain ⟨p3, rfl, g1, m1⟩ := isFn_is c1
            obtain rfl := asCall_is e1
            obtain rfl := asCall_is e2
            obtain rfl := asAttr_is e3
            subst c2
            refine (pe_itemsS (fz := fz) G.kk G.calm (by have := G.room.un; omega) (glo_is g1) (G.blt _ (by simp [bltNames])) pa (base_plain c4) c3).imp fun σ H Q ⟨ρ, h, re, rh, w⟩ => ?_
            refine stepE kc re rh w (fun _ _ e => e) fun v h1 V H1 re1 rh1 st1 rv w => ?_
            obtain ⟨⟨c, out⟩, e, hc, ho⟩ := optW_ex (prW_mono (fun _ _ (k : KQ h H Q _ _) => k.later st1) w)
            obtain ⟨kvs, e4, e5⟩ := Option.bind_eq_some_iff.mp (show ((dr h1 v).bind fun kvs => ordL fz (kvs.map fun kv => .tup [keyV kv.1, kv.2]) h1) = some (c, out) from e)
            unfold ordL at e5
            obtain ⟨ds, e6, e7⟩ := Option.map_eq_some_iff.mp e5
            cases e7
            obtain ⟨q, us, q1, q2, q3⟩ := dr_read rh1 rv e4
            exact ⟨q, us, h1, kvs, ds, q1, q2, rh1, q3, e6, hc.1, hc.2.1, hc.2.2, ho⟩
          · cases h
        · cases h
      · cases h
    · cases h
  | maxV =>
    dsimp only at h
    split at h
    · rename_i g c p e1
      split at h
      · rename_i m cp e2
        split at h
        · rename_i y n ap e3
          split at h
          · rename_i c0
            cases h
            simp only [Bool.and_eq_true, Bool.not_eq_true', decide_eq_true_eq] at c0
            obtain ⟨⟨⟨c1, c2⟩, c3⟩, c4⟩ := c0
            obtain ⟨p3, rfl, g1, m1⟩ := isFn_is c1
            obtain rfl := asCall_is e1
            obtain rfl := asCall_is e2
            obtain rfl := asAttr_is e3
            subst c2
            refine (pe_maxV G.calm (glo_is g1) (G.blt _ (by simp [bltNames])) pa (base_plain c4) c3).imp fun σ H Q ⟨ρ, h, re, rh, w⟩ => ?_
            refine stepE kc re rh w (fun _ _ e => e) fun v h1 V H1 re1 rh1 st1 rv w => ?_
            obtain ⟨⟨c, out⟩, e, hc, ho⟩ := optW_ex (prW_mono (fun _ _ (k : KQ h H Q _ _) => k.later st1) w)
            obtain ⟨ns, e4, e5⟩ := Option.map_eq_some_iff.mp (show (((dr h1 v).bind fun kvs => mapO intOf (kvs.map (·.2))).map fun ns => (ns ≠ [], Out.v (.int (maxL ns)) h1)) = some (c, out) from e)
            cases e5
            obtain ⟨kvs, e6, e7⟩ := Option.bind_eq_some_iff.mp e4
            obtain ⟨q, us, q1, q2, q3⟩ := dr_read rh1 rv e6
            have hv : us.map (·.2) = ns.map L2.V.int := RVs.ints' q3.2 e7
            refine ⟨q, us, ns, q1, q2, hv, hc, fun m hm hb => ?_⟩
            have : m = maxL ns := maxL_uniq hm hb
            rw [this]
            exact KQ.here ho rh1 rfl
          · cases h
        · cases h
      · cases h
    · cases h
theorem sO2 {W : WX} (G : Good T F n X) {o : O2} {fz : Bool} {a b : Ex} {pe x y : Expr} (h : mO2 X.env.scope o pe = some (x, y)) (pa : PE X x (TEx T W (wpE (CN F n) a))) (pb : PE X y (TEx T W (wpE (CN F n) b))) : PE X pe (TEx T W (wpE (CN F n) (.op2 o fz a b))) := by
  unfold mO2 at h
  have kc := CN_mono F n
  cases o with
  | dictZ =>
    dsimp only at h
    split at h
    · rename_i g c p e1
      split at h
      · rename_i g2 y1 y2 p2 e2
        split at h
        · rename_i c0
          cases h
          simp only [Bool.and_eq_true, Bool.not_eq_true'] at c0
          obtain ⟨⟨⟨c1, c2⟩, c3⟩, c4⟩ := c0
          obtain ⟨p3, rfl, g1, m1⟩ := isFn_is c1
          obtain ⟨p4, rfl, g2, m2⟩ := isFn_is c2
          obtain rfl := asCall_is e1
          obtain rfl := asCall_is e2
          refine (pe_dictZip G.calm (glo_is g1) (G.blt _ (by simp [bltNames])) (glo_is g2) (G.blt _ (by simp [bltNames])) (pa_cons pa (pa_cons pb pa_nil (star_cons c4)) (star_cons c3)) (star_cons c3) (star_any fun e he => by
            rcases List.mem_singleton.mp he with rfl; exact c4)).imp fun σ H Q ⟨ρ, h, re, rh, w⟩ => ?_
          refine stepE kc re rh w (fun _ _ e => e) fun v h1 V H1 re1 rh1 st1 rv w => ?_
          refine stepE kc re1 rh1 w (fun _ _ e => e.later st1) fun u h2 U H2 re2 rh2 st2 ru w => ?_
          obtain ⟨⟨c, out⟩, e, hc, ho⟩ := optW_ex (prW_mono (fun _ _ (k : KQ h H Q _ _) => k.later (st1.trans st2)) w)
          obtain ⟨q, e1, e2⟩ := Option.map_eq_some_iff.mp (show (((ls h2 v).bind (mapO keyOf)).bind fun ks => (ls h2 u).map fun vs => (ks, vs)).map (fun q => (True, Out.ad fz (dmerge [] (q.1.zip q.2)) h2)) = some (c, out) from e)
          cases e2
          obtain ⟨ks, e3, e4⟩ := Option.bind_eq_some_iff.mp e1
          obtain ⟨vs, e5, e6⟩ := Option.map_eq_some_iff.mp e4
          cases e6
          obtain ⟨xs, e7, e8⟩ := Option.bind_eq_some_iff.mp e3
          obtain ⟨p, ws, q1, q2, q3⟩ := ls_read (K := X.K) G.kk rh2 (RV.keep st2 rv) e7
          obtain ⟨p', ws', q4, q5, q6⟩ := ls_read (K := X.K) G.kk rh2 ru e5
          obtain rfl := keys_read q3 e8
          exact ⟨p, p', ks, ws', by rw [q1, q4], q2, q5, fun q nq => alcD_out rh2 (RKV.merge' .nil (rkv_zip q6)) ho q nq⟩
        · cases h
      · cases h
    · cases h
  | tmul =>
    dsimp only at h
    split at h
    · rename_i l r e1
      cases h
      obtain ⟨p, rfl⟩ := asBin_is e1
      have both : OpR X (binaryOp .Mult) (fun x y H Q => rRepT X.K x y H Q ∨ ∃ l xs, x = .ref l ∧ y = .int 1 ∧ SqT X.K H l xs ∧ xs ≠ [] ∧ Q (.ref l) H) := fun pins s σ H x y v u Q I rx ry q => q.elim (op_repT pins s σ H x y v u Q I rx ry) (op_rep1 pins s σ H x y v u Q I rx ry)
      refine (pe_op both pa pb).imp fun σ H Q ⟨ρ, h, re, rh, w0⟩ => ?_
      refine stepE kc re rh w0 (fun _ _ e => e) fun v h1 V H1 re1 rh1 st1 rv w1 => ?_
      refine stepE kc re1 rh1 w1 (fun _ _ e => e.later st1) fun u h2 U H2 re2 rh2 st2 ru w => ?_
      obtain ⟨⟨c, out⟩, e, hc, ho⟩ := optW_ex (prW_mono (fun _ _ (k : KQ h H Q _ _) => k.later (st1.trans st2)) w)
      unfold o2R at e
      dsimp only at e
      split at e
      · rename_i xs k
        cases e
        cases ru
        have rv2 := RV.keep st2 rv
        have rv3 := rv2
        obtain ⟨a1, vs, z1, _, z2, z3⟩ := rv2
        have hne : vs ≠ [] := fun z => hc.1 (List.eq_nil_of_length_eq_zero (by rw [z3.length, z]; rfl))
        by_cases k1 : k = 1
        · subst k1
          subst z1
          refine .inr ⟨a1, vs, rfl, rfl, SqT.of z2, hne, ?_⟩
          have e6 : (List.replicate (1 : Int).toNat xs).flatten = xs := by simp
          have ho' : KQ h2 H2 Q (.tup (List.replicate (1 : Int).toNat xs).flatten) h2 := ho
          rw [e6] at ho'
          exact ho' _ _ rh2 .refl rv3
        · refine .inl ⟨a1, k, vs, z1, rfl, SqT.of z2, hne, by have := hc.2.1; omega, hc.2.2.1, by rw [← z3.length]; exact hc.2.2.2, fun q nq => ?_⟩
          have kk := Stab.alloc (h := h2) (o := .tup (List.replicate k.toNat vs).flatten) nq
          exact (show KQ h2 H2 Q (.tup (List.replicate k.toNat xs).flatten) h2 from ho) _ _ (rh2.alloc nq) kk ⟨q, _, rfl, rh2.free nq, upd_same, RVs.keep kk (z3.rep _)⟩
      · cases e
    · cases h
end
end L3

set_option Elab.async false
set_option linter.all false
set_option maxRecDepth 100000
/-! L3, CLOSURES 2: the call. -/
namespace L3
open PySem PySem.Spec PyProof.Rows L2 NdefX
variable [Mo]
theorem cloOf_is {v : Val} {q : Nat × List Val} (h : cloOf v = some q) : v = .clo q.1 q.2 := by
  cases v <;> first | (cases h; done) | (cases h; rfl)
theorem map_get {us : List V} {i : Nat} {v : V} (e : (us.map some)[i]? = some (some v)) : us[i]? = some v := by
  rw [List.getElem?_map] at e
  cases q : us[i]? with
  | none => rw [q] at e; cases e
  | some u => rw [q] at e; cases e; rfl
theorem held_at {P : Program} {w : World} {H : Hp} {h : Heap} {c : Addr} {v : V} (hok : HOk P w H h) (e : HoldC H c v) : ∃ u, RelV v u ∧ h.IsCell c (some u) := by
  rcases e with e | ⟨o, e⟩
  · obtain ⟨z, _, _⟩ := hok c _ e
    exact z
  · obtain ⟨_, z, _, _⟩ := hok c _ e
    exact z
theorem cellsAt_of {P : Program} {w : World} {h1 : Hq} {H1 H' : Hp} {h : Heap} {cl : List (Str × Addr)} {fr : List Str} {us : List V} (C : CellsH h1 H1 cl fr us) (hok : HOk P w H1 h) (out : ∀ y c, cl.lookup y = some c → H' c = none) : CellsAt cl fr (us.map some) h H' := by
  have held : ∀ c v, HoldC H1 c v → ∃ u, RelV v u ∧ h.IsCell c (some u) := fun c v e => by
    rcases e with e | ⟨o, e⟩
    · obtain ⟨z, _, _⟩ := hok c _ e
      exact z
    · obtain ⟨_, z, _, _⟩ := hok c _ e
      exact z
  refine ⟨by rw [List.length_map]; exact C.len, fun y c e => ⟨out y c e, ?_⟩, C.inj, fun i y e => ?_⟩
  · obtain ⟨v, e2, _⟩ := cell_at C e
    obtain ⟨u, _, z⟩ := held c v e2
    exact ⟨_, z⟩
  · have hl : i < us.length := by rw [C.len]; exact (List.getElem?_eq_some_iff.mp e).1
    obtain ⟨c, e1, e2, e3⟩ := C.at_ i y us[i] e (List.getElem?_eq_getElem hl)
    refine ⟨c, e1, fun v ev => ?_⟩
    have ev := map_get ev
    rw [List.getElem?_eq_getElem hl] at ev
    cases ev
    exact held c _ e3
theorem env0_in {P : Program} {w : World} {K : PySem.W.Frag} {mg : Str → Option Value} {base : Heap} {A : Around} {outer : List Env} {s : Shared} {H H' : Hp} (e : Env0 P w K mg base A outer s H) (k : ∀ b, H b = none → H' b = none) (hok : HOk P w H' s.heap) : Env0 P w K mg base A outer s H' :=
  ⟨e.frames, e.mod, fun b o x => ⟨(e.bs b o x).1, k _ (e.bs b o x).2⟩, e.bsz, e.funs, fun b hb => k _ (e.frf b hb), hok, e.bare⟩
section
variable {T : Tb} {F : Fs} {n : Nat} {X : Cx} {W : WX} {i : Nat} {x : Str} {p pos : Pos} {e : Expr} {es : List Expr} {es' : Exs}
theorem pe_callC (G : Good T F n X) (io : Mo.io = false) (hN : X.N[i]? = some x) (hv : Vis X.env.scope x) (ha : PA X (e :: es) (TAx T W (wpA (CN F n) es'))) (hd : (x == ("__debug__" : Str)) = false) (hcd : (x == ("__classdict__" : Str)) = false)
    (he : starEach (e :: es) X.env = (false, eval e X.env) :: starEach es X.env) (hpl : (backTo pos (starEach es X.env)).any (·.1) = false) : PE X (.Call (.Name x p) (e :: es) [] pos) (TEx T W (wpE (CN F n) (.callC i es'))) := by
  refine ⟨fun pins s σ H Q I ⟨ρ, h, re, rh, w⟩ => ?_⟩
  obtain ⟨v, ev, w⟩ := optW_ex (show optW (lk ρ i) (fun x => optW (cloOf x) fun q => wpA (CN F n) es' ρ h (fun vs h1 => ∃ h0, CloW h0 h1 vs q.2 ∧ CN F n q.1 (vs ++ q.2) h0 (fun v h2 => KQ h H Q v (mrg h0 h1 h2)) fun _ _ => False) (KE T h H W σ)) from w)
  obtain ⟨⟨g, ws⟩, eq, w⟩ := optW_ex w
  obtain rfl := cloOf_is eq
  dsimp only at w
  obtain ⟨y, ey, rv⟩ := re.2 i _ (lk_eq _ _ _ ev)
  obtain ⟨f, c0, qn, fr0, cl0, us0, o0, rfl, nd0, rest⟩ := rv
  have rv0 : RV h H (.clo g ws) (.ref f) := ⟨f, c0, qn, fr0, cl0, us0, o0, rfl, nd0, rest⟩
  have hf0 : H f = some o0 := rest.2.1
  refine wpAny_Call_Name_kw (thn ((pe_var (pos := p) hN hv hd hcd).run pins s σ H (fun v H1 => v = .ref f ∧ H1 = H) I ⟨.ref f, ey, rfl, rfl⟩) fun u s1 ⟨v, H1, I1, r1, q1⟩ => ?_)
  obtain ⟨ev, eH⟩ := q1
  subst ev
  rw [eH] at I1
  obtain rfl : u = Value.ref f := r1
  have hargs := stepA (R := fun Vs H1 => ∃ vs h1, RVs h1 H1 vs Vs ∧ RH h1 H1 ∧ Stab h H h1 H1 ∧ ∃ h0, CloW h0 h1 vs ws ∧ CN F n g (vs ++ ws) h0 (fun v h2 => KQ h H Q v (mrg h0 h1 h2)) fun _ _ => False) (W := W) (T := T) (CN_mono F n) re rh w (fun _ _ e => e) fun v h1 V H1 re1 rh1 st1 rv w => ⟨v, h1, rv, rh1, st1, w⟩
  have fat : ∀ {s : Shared} {H : Hp} {σ : L2.St} {o : HO} {q : Str} {fr : List Str} {cl : List (Str × Addr)} {c : Addr}, Inv X pins σ H s → FnA g f q fr cl c o → H f = some o → PySem.W.FnAt f s.heap := fun {s H σ o q fr cl c} I fa e => by
    obtain ⟨od, fd, sl, ho⟩ := fnA_at fa I.hok e
    exact ⟨_, od, _, sl, ho⟩
  refine PySem.W.callWith_F (first := []) (fat I1 nd0 hf0) (thn (ha.run pos pins s1 σ H _ I1 hargs) fun us s2 ⟨Vs, H2, I2, r, vs, h1, rvs, rh1, st1, h0, cw, wc⟩ => ?_) he hpl
  obtain ⟨f', c, qn', fr, cl, uz, of, ef, nd, nf, hf, nc, hc, CH, rws⟩ := RV.keep st1 rv0
  cases ef
  refine ⟨fat I2 nd hf, ?_⟩
  have Fn := G.nok g
  have hlen := CH.len
  have hok2 := hok_in io CH cw rh1 I2.hok
  have outD : ∀ y c, cl.lookup y = some c → hidD (Drp cl h0 h1) H2 c = none := fun y c e => hid_out (.inl ⟨y, e⟩)
  have notDf : ¬ Drp cl h0 h1 f := by
    rintro (⟨y, ey⟩ | ⟨z, _⟩)
    · obtain ⟨v, e2, _⟩ := cell_at CH ey
      obtain ⟨u, _, o, ho, hd⟩ := held_at I2.hok e2
      obtain ⟨od, fd, sl, ho2⟩ := fnA_at nd I2.hok hf
      rw [ho] at ho2; cases ho2; cases hd
    · rw [nf] at z; cases z
  have notDc : ¬ Drp cl h0 h1 c := by
    rintro (⟨y, ey⟩ | ⟨z, _⟩)
    · obtain ⟨v, e2, _⟩ := cell_at CH ey
      obtain ⟨u, _, o, ho, hd⟩ := held_at I2.hok e2
      obtain ⟨⟨oc, vs', t, h1', h2', _⟩, _, _⟩ := I2.hok c _ hc
      rw [ho] at h1'; cases h1'; rw [hd] at h2'; cases h2'
    · rw [nc] at z; cases z
  have E0 := env0_in (H' := hidD (Drp cl h0 h1) H2) I2.env0 (fun b e => by
    by_cases d : Drp cl h0 h1 b
    · exact hid_out d
    · rw [hid_in d]; exact e) hok2
  show wpAny _ _ (call (.ref f) us) _ _ _
  refine wpAny_call (codeAny_mono (Fn.run f qn' fr cl c of nd X.A X.stack s2 (hidD (Drp cl h0 h1) H2) us Vs (uz.map some) (fun v H3 => (∀ b, Drp cl h0 h1 b → H3 b = none) → Q v (bakD (Drp cl h0 h1) H2 H3)) G.room E0 (by rw [hid_in notDf]; exact hf) (by
    show hidD (Drp cl h0 h1) H2 c = _
    rw [hid_in notDc]; exact hc) (cellsAt_of CH I2.hok outD) r
    ⟨vs, ws, uz, h0, rfl, hlen, RVs.nc (alk_in CH cw) cw.2.1 rvs, RVs.nc (alk_in CH cw) cw.2.2 rws, rh_in CH cw rh1, ?_⟩) fun r s' hq => ?_)
  · refine CN_mono F n _ _ _ _ _ _ _ (fun v h2 kq V H3 rh3 st3 rv3 fr3 => ?_) (fun _ _ z => z.elim) wc
    obtain ⟨k1, k2, k3⟩ := clo_back CH cw rh1 rh3 st3 fr3
    exact kq V _ k1 (st1.trans k2) (RV.keep k3 rv3)
  · cases r with
    | error e => exact (no_cx hq).elim
    | ok fl =>
      cases fl with
      | ret u => exact I2.after (ce_back io CH cw rh1 I2.hok I2.env0.frf hq)
      | next => exact False.elim hq
      | brk => exact False.elim hq
      | cont => exact False.elim hq
end
/-! ### [f, g, ..][i](..) -/
theorem arm_Call_Sub {o i : Expr} {p pos : Pos} {args : List Expr} {kws : List Keyword} {env : Env} : eval (.Call (.Subscript o i p) args kws pos) env = (do
    callWith pos (← eval (.Subscript o i p) env) [] (backTo pos (starEach args env)) (backToKw pos (keywordEach kws env))) := rfl
section
variable {T : Tb} {F : Fs} {n : Nat} {X : Cx} {W : WX}
/-- the defs' objects -/
theorem pa_fs (G : Good T F n X) : ∀ {fs : List Nat} {ns : List Expr}, mFs T X.env.scope fs ns = true → ∃ as : List Addr, PA X ns (fun _ H Q => Q (as.map V.ref) H) ∧ as.length = fs.length ∧
    ∀ (j f : Nat), fs[j]? = some f → ∃ a fd ps, as[j]? = some a ∧ PySem.W.keepIn X.K (.ref a) = true ∧ Binds X.K fd ps [] ∧ FnOk X.prog X.w X.K X.mg X.base (L2.CX X.prog X.w) (2 * n) a fd ps (spOf T F n f)
  | [], [], _ => ⟨[], pa_nil, rfl, fun j f e => by simp at e⟩
  | f :: fs, m :: ns, h => by
    unfold mFs at h
    rw [Bool.and_eq_true] at h
    obtain ⟨h1, h2⟩ := h
    split at h1
    · rename_i x e1
      rw [Bool.and_eq_true, Bool.and_eq_true] at h1
      obtain ⟨⟨k1, k2⟩, k3⟩ := h1
      obtain ⟨p, rfl⟩ := asName_is e1
      have k3 : magic x = false := by cases q : magic x with | false => rfl | true => rw [q] at k3; cases k3
      obtain ⟨m1, m2, m3⟩ := magic_is k3
      obtain ⟨a, fd, ps, g1, g2, g3, g4⟩ := G.fn f x (of_decide_eq_true k1)
      obtain ⟨as, pa, hl, go⟩ := pa_fs G h2
      refine ⟨a :: as, ?_, by rw [List.length_cons, List.length_cons, hl], fun j f' e => ?_⟩
      · exact pa_cons (pe_glob (v := V.ref a) (glo_is k2) g1 rfl m1) pa
      · cases j with
        | zero =>
          simp at e
          subst e
          exact ⟨a, fd, ps, rfl, g2, g3, g4⟩
        | succ j =>
          obtain ⟨a', fd', ps', q1, q2⟩ := go j f' (by simpa using e)
          exact ⟨a', fd', ps', by simpa using q1, q2⟩
    · cases h1
  | [], _ :: _, h => by simp [mFs] at h
  | _ :: _, [], h => by simp [mFs] at h
theorem pe_callF {fs : List Nat} {ix : Ex} {es' : Exs} {ns es : List Expr} {i e : Expr} {p1 p2 pos : Pos} (G : Good T F n X) (tk : Takes X W) (hfs : mFs T X.env.scope fs ns = true) (hfl : fs.length ≤ 1000) (hi : PE X i (TEx T W (wpE (CN F n) ix))) (hpi : PlainIx i)
    (ha : PA X (e :: es) (TAx T W (wpA (CN F n) es'))) (he : starEach (e :: es) X.env = (false, eval e X.env) :: starEach es X.env) (hpl : (backTo pos (starEach es X.env)).any (·.1) = false) :
    PE X (.Call (.Subscript (.List ns p1) i p2) (e :: es) [] pos) (TEx T W (wpE (CN F n) (.callF fs ix es'))) := by
  obtain ⟨as, pa, hl, go⟩ := pa_fs G hfs
  refine ⟨fun pins s σ H Q I ⟨ρ, h, re, rh, w⟩ => ?_⟩
  rw [arm_Call_Sub]
  have callee := pe_ix (pos := p2) (ix_list (X := X)) (pe_lst (pos := p1) pa) hi hpi
  refine wpAny_bind (thn (callee.run pins s σ H (fun v H1 => ∃ (f : Nat) (a : Addr) (fd : FuncData) (ps : List Str) (h1 : Hq), v = V.ref a ∧ PySem.W.keepIn X.K (.ref a) = true ∧ Binds X.K fd ps [] ∧ FnOk X.prog X.w X.K X.mg X.base (L2.CX X.prog X.w) (2 * n) a fd ps (spOf T F n f) ∧
      RE h1 H1 ρ σ ∧ RH h1 H1 ∧ Stab h H h1 H1 ∧ wpA (CN F n) es' ρ h1 (fun vs h2 => CN F n f vs h2 (KQ h H Q) (KE T h H W σ)) (KE T h H W σ)) I ?_) fun u s1 ⟨v, H1, I1, rv, f, a, fd, ps, h1, ev, g2, g3, g4, re1, rh1, st1, w1⟩ => ?_)
  · refine ⟨by rw [List.length_map, hl, sizeLine_eq]; omega, fun p hp => ?_⟩
    have st0 : Stab h H h (upd H p (.lst (as.map V.ref))) := Stab.alloc hp
    refine ⟨ρ, h, re.keep st0, rh.alloc hp, wpE_mono (CN_mono F n) ix _ _ _ _ _ _ (fun x h1 q Vx H1 rh1 st1 rv => ?_) (fun _ _ k => KE.later st0 k) w⟩
    obtain ⟨k, ek, q⟩ := optW_ex q
    obtain ⟨f, ef, q⟩ := optW_ex q
    obtain ⟨j, ej, ef⟩ := Option.bind_eq_some_iff.mp ef
    obtain ⟨a, fd, ps, ea, g2, g3, g4⟩ := go j f ef
    have hp0 : h p = none := rh.free hp
    obtain ⟨hp1, _⟩ := st1 p _ upd_same hp0
    have eV : Vx = .int k := by
      cases x <;> first | (cases ek; done) | skip
      cases ek
      exact rv
    refine ⟨p, as.map V.ref, k, V.ref a, rfl, eV, SqL.of hp1, ?_, f, a, fd, ps, h1, rfl, g2, g3, g4, (re.keep st0).keep st1, rh1, st0.trans st1, q⟩
    unfold atI
    rw [List.length_map, hl, ej]
    show (as.map V.ref)[j]? = _
    rw [List.getElem?_map, ea]; rfl
  · subst ev
    obtain rfl : u = Value.ref a := rv
    have hargs := stepA (R := fun Vs H2 => ∃ vs h2, RVs h2 H2 vs Vs ∧ RH h2 H2 ∧ Stab h1 H1 h2 H2 ∧ CN F n f vs h2 (KQ h H Q) (KE T h H W σ)) (W := W) (T := T) (CN_mono F n) re1 rh1 w1 (fun _ _ k => k.later st1) fun v h2 V H2 re2 rh2 st2 rv w => ⟨v, h2, rv, rh2, st2, w⟩
    refine PySem.W.callWith_K (h₀ := X.base) I1.ok.mod.kin g2 (thn (ha.run pos pins s1 σ H1 _ I1 hargs) fun us s2 ⟨Vs, H2, I2, r, vs, h2, rvs, rh2, st2, wc⟩ => ⟨I2.kIn, ?_⟩) he hpl
    exact run_fnS (E := WE W) g4 G.room g3 (passAt tk σ) I2 r ⟨vs, h2, rvs, rh2, CN_mono F n _ _ _ _ _ _ _ (fun _ _ k => k.later (st1.trans st2)) (fun _ _ k => k.later (st1.trans st2)) wc⟩
end
end L3

set_option Elab.async false
set_option linter.all false
set_option maxRecDepth 100000
/-! L3: max, min of a list of ints, with default=None. -/
namespace L3
open PySem PySem.Spec PyProof.Rows L2 NdefX
open PySem.W (alike dataLt maxD minD AlikeAll max_list_default min_list_default)
theorem maxL_fold : ∀ (r : List Int) (x : Int), maxL (x :: r) = r.foldl max x
  | [], x => rfl
  | y :: r, x => by
    rw [maxL, maxL_fold r y, List.foldl_cons]
    have key : ∀ (r : List Int) (x y : Int), max x (r.foldl max y) = r.foldl max (max x y) := by
      intro r
      induction r with
      | nil => intro x y; rfl
      | cons z r ih => intro x y; rw [List.foldl_cons, List.foldl_cons, ih, Int.max_assoc]
    exact key r x y
theorem minL_fold : ∀ (r : List Int) (x : Int), minL (x :: r) = r.foldl min x
  | [], x => rfl
  | y :: r, x => by
    rw [minL, minL_fold r y, List.foldl_cons]
    have key : ∀ (r : List Int) (x y : Int), min x (r.foldl min y) = r.foldl min (min x y) := by
      intro r
      induction r with
      | nil => intro x y; rfl
      | cons z r ih => intro x y; rw [List.foldl_cons, List.foldl_cons, ih, Int.min_assoc]
    exact key r x y
theorem alike_allR (ns : List Int) : ∀ x ∈ ns.map PyData.int, ∀ y ∈ ns.map PyData.int, alike x y = true := by
  intro x hx y hy
  obtain ⟨a, _, rfl⟩ := List.mem_map.mp hx
  obtain ⟨b, _, rfl⟩ := List.mem_map.mp hy
  rfl
theorem not_noneR (ns : List Int) : ∀ x ∈ ns.map PyData.int, x ≠ .none := by
  intro x hx
  obtain ⟨a, _, rfl⟩ := List.mem_map.mp hx
  intro z; cases z
theorem depth_intsR (ns : List Int) : PyData.depthAll (ns.map PyData.int) = 0 := by
  induction ns with
  | nil => rfl
  | cons n ns ih => rw [List.map_cons, PyData.depthAll, ih]; rfl
def rMxd (K : PySem.W.Frag) (mx : Bool) : List V → List V → Hp → VK → Prop := fun xs zs H Q => ∃ (a : Addr) (ns : List Int), xs = [.ref a] ∧ zs = [.non] ∧ SqL K H a (ns.map V.int) ∧ Q (if ns = [] then .non else .int (if mx then maxL ns else minL ns)) H
theorem cr_mxd {X : Cx} (hc : X.calm = true) (hu : X.A.units + 70 < cLine) : CallRK X (.builtin "max") [Str.ofString "default"] (rMxd X.K true) := by
  intro pins s σ H xs zs us ws Q I r rz h
  obtain ⟨a, ns, rfl, rfl, hs, q⟩ := h
  obtain ⟨its, rv, hl, _⟩ := I.list hs
  rw [Vals.ref1 r]
  obtain ⟨u, rfl, ru⟩ := vals1 rz
  cases (show u = Value.none from ru)
  have rd := (rv.ints).reads s.heap
  refine max_list_default (vs := its.toArray) (xs := ns.map .int) (as := []) (I.ok.hd hc) hl.isList (by simpa using rd) ⟨alike_allR ns, not_noneR ns⟩ (by rw [depth_intsR]; omega) (fun e h' tk kp => ?_) (fun y ys i v h' tk bs e _ rd' kp => ?_)
  · have e := List.map_eq_nil_iff.mp e
    subst e
    exact ⟨.non, H, I.kept kp, rfl, q⟩
  · cases ns with
    | nil => cases e
    | cons n ns =>
      rw [List.map_cons] at e
      injection e with e1 e2
      subst e1 e2
      rw [PySem.W.maxD_ints] at rd'
      obtain ⟨t, rfl⟩ : ∃ t, v = .int (ns.foldl max n) t := by cases rd'; exact ⟨_, rfl⟩
      refine ⟨.int (ns.foldl max n), H, I.kept kp, ⟨_, rfl⟩, ?_⟩
      rw [if_neg (by simp), if_pos rfl, maxL_fold] at q
      exact q
theorem cr_mnd {X : Cx} (hc : X.calm = true) (hu : X.A.units + 70 < cLine) : CallRK X (.builtin "min") [Str.ofString "default"] (rMxd X.K false) := by
  intro pins s σ H xs zs us ws Q I r rz h
  obtain ⟨a, ns, rfl, rfl, hs, q⟩ := h
  obtain ⟨its, rv, hl, _⟩ := I.list hs
  rw [Vals.ref1 r]
  obtain ⟨u, rfl, ru⟩ := vals1 rz
  cases (show u = Value.none from ru)
  have rd := (rv.ints).reads s.heap
  refine min_list_default (vs := its.toArray) (xs := ns.map .int) (as := []) (I.ok.hd hc) hl.isList (by simpa using rd) ⟨alike_allR ns, not_noneR ns⟩ (by rw [depth_intsR]; omega) (fun e h' tk kp => ?_) (fun y ys i v h' tk bs e _ rd' kp => ?_)
  · have e := List.map_eq_nil_iff.mp e
    subst e
    exact ⟨.non, H, I.kept kp, rfl, q⟩
  · cases ns with
    | nil => cases e
    | cons n ns =>
      rw [List.map_cons] at e
      injection e with e1 e2
      subst e1 e2
      rw [PySem.W.minD_ints] at rd'
      obtain ⟨t, rfl⟩ : ∃ t, v = .int (ns.foldl min n) t := by cases rd'; exact ⟨_, rfl⟩
      refine ⟨.int (ns.foldl min n), H, I.kept kp, ⟨_, rfl⟩, ?_⟩
      rw [if_neg (by simp), if_neg (by decide), minL_fold] at q
      exact q
variable [Mo]
theorem mxdR_some {mx : Bool} {x : Val} {h : Hq} {xs : List Val} {Q : QV} (e : ls h x = some xs) (w : prW (mxdR mx x h) Q) : ∃ ns : List Int, xs = ns.map .int ∧ Q (if ns = [] then .non else .int (if mx then maxL ns else minL ns)) h := by
  unfold mxdR at w
  rw [e] at w
  cases xs with
  | nil => exact ⟨[], rfl, w.2⟩
  | cons y ys =>
    obtain ⟨q, eq, w⟩ := optW_ex (show optW _ _ from w)
    obtain ⟨ns, en, rfl⟩ := Option.map_eq_some_iff.mp (show ((mapO intOf (y :: ys)).map fun ns => (True, Out.v (.int (if mx then maxL ns else minL ns)) h)) = some q from eq)
    have ex := mapO_map' (γ := Int) (f := intOf) (g := Val.int) (fun v i hv => by cases v <;> first | (cases hv; done) | (cases hv; rfl)) en
    refine ⟨ns, ex, ?_⟩
    rw [if_neg (by rintro rfl; cases ex)]
    exact w.2
end L3

set_option Elab.async false
set_option linter.all false
set_option maxRecDepth 100000
/-! L3, part 9: THE EXPRESSIONS. -/
namespace L3
open PySem PySem.Spec PyProof.Rows L2
variable [Mo]
section
variable {T : Tb} {F : Fs} {n : Nat}
theorem rm65 {n : Nat} {A : Around} (r : Room n A) : A.units + 65 < cLine := by have := r.un; omega
theorem rm70 {n : Nat} {A : Around} (r : Room n A) : A.units + 70 < cLine := by have := r.un; omega
theorem b1 {a b : Bool} (h : (a && b) = true) : a = true ∧ b = true := by simpa using h
theorem nt {a : Bool} (h : (!a) = true) : a = false := by simpa using h

theorem s_var {X : Cx} {W : WX} {i : Nat} {pe : Expr} {C : CT} (h : mE T X.N X.env.scope (.var i) pe = true) : PE X pe (TEx T W (wpE C (.var i))) := by
  unfold mE at h
  split at h
  · rename_i x e
    obtain ⟨p, rfl⟩ := asName_is e
    obtain ⟨h1, h2⟩ := b1 h
    obtain ⟨h3, h4⟩ := b1 h1
    obtain ⟨m1, m2, m3⟩ := magic_is (nt h2)
    refine (pe_var (of_decide_eq_true h3) (vis_is h4) m1 m2).imp fun σ H Q ⟨ρ, h, re, rh, w⟩ => ?_
    obtain ⟨v, e1, w⟩ := optW_ex w
    obtain ⟨x, e2, rv⟩ := re.2 i v (lk_eq ρ i v e1)
    exact ⟨x, e2, KQ.here w rh rv⟩
  · cases h
/-- a call's arguments and what is called -/
theorem glo_name {X : Cx} {g : Expr} {x : Str} (e : asName g = some x) (h : gloB X.env.scope x = true) (m : magic x = false) : ∃ p, g = .Name x p ∧ Gl X x ∧ (x == ("__debug__" : Str)) = false ∧ x ≠ "__name__" := by
  obtain ⟨p, rfl⟩ := asName_is e
  obtain ⟨m1, m2, m3⟩ := magic_is m
  exact ⟨p, rfl, glo_is h, m1, m3⟩
theorem nil_false {α : Type} {l : List α} (h : (!l.isEmpty) = true) : ∃ a r, l = a :: r := by
  cases l with
  | nil => simp at h
  | cons a r => exact ⟨a, r, rfl⟩
theorem blt_mem (b : Bl) : b.nm ∈ bltNames := by cases b <;> simp [Bl.nm, bltNames]
theorem boot_isi : bootBuiltins "isinstance" = some (.builtin "isinstance") := by decide +kernel
theorem boot_blt (b : Bl) : bootBuiltins b.nm = some b.val := by
  cases b with
  | isi ts => exact boot_isi
  | _ => decide +kernel
theorem ty_mem (t : Ty) : Str.ofString (tyN t) ∈ bltNames := by cases t <;> simp [tyN, bltNames] <;> decide
theorem boot_ty (t : Ty) : bootBuiltins (Str.ofString (tyN t)) = some (.type (tyN t)) := by cases t <;> decide +kernel
theorem pe_or2 {X : Cx} {e : Expr} {t t' : TE} (p : PE X e t) (p' : PE X e t') : PE X e (fun σ H Q => t σ H Q ∨ t' σ H Q) := ⟨fun pins s σ H Q I h => h.elim (p.run pins s σ H Q I) (p'.run pins s σ H Q I)⟩
/-- a list's place, from the state -/
theorem sizes {X : Cx} : ∀ pins s σ H p xs, Inv X pins σ H s → H p = some (.lst xs) → xs.length ≤ sizeLine := fun _ _ _ _ _ _ I h => (I.lst h).choose_spec.choose_spec.2.2
theorem bind2 {C : CT} (kc : MonoC C C) {X : Cx} {W : WX} {a b : Ex} {f : Val → Val → Hq → Pr} {r : R2} (hr : ∀ x y H Q, R2x f x y H Q → r x y H Q) {σ : L2.St} {H : Hp} {Q : VK}
    (q : TEx T W (fun ρ h Q E => wpE C a ρ h (fun x h1 => wpE C b ρ h1 (fun y h2 => prW (f x y h2) Q) E) E) σ H Q) : tOp r (TEx T W (wpE C a)) (TEx T W (wpE C b)) σ H Q := by
  obtain ⟨ρ, h, re, rh, w⟩ := q
  refine stepE kc re rh w (fun _ _ e => e) fun v h1 V H1 re1 rh1 st1 rv w => ?_
  refine stepE kc re1 rh1 w (fun _ _ e => e.later st1) fun u h2 U H2 re2 rh2 st2 ru w => ?_
  exact hr _ _ _ _ ⟨h2, v, u, rh2, RV.keep st2 rv, ru, prW_mono (fun _ _ k => k.later (st1.trans st2)) w⟩
/-- a list or a tuple, walked: which of them is seen when it is there -/
theorem pi_seq {X : Cx} {tg l : Expr} {tl : TE} (hl : PE X l tl) : PI X tg l (fun σ H R => tl σ H fun x H1 => ∃ a, x = .ref a ∧ (((∃ xs, SqL X.K H1 a xs) ∧ R (Itl X.K a) H1) ∨ ((∃ xs, SqT X.K H1 a xs) ∧ R (Itt X.K a) H1))) := by
  refine ⟨fun pins s σ H R I h => thn (hl.run pins s σ H _ I h) fun v s1 ⟨x, H1, J, rx, a, e, alt⟩ => ?_⟩
  subst e
  obtain rfl : v = Value.ref a := rx
  have new : ∀ b ∈ [s1.heap.objs.size], FpOk X pins H1 b := fun b hb => by
    obtain rfl : b = s1.heap.objs.size := by simpa using hb
    exact J.fpOk (Nat.le_refl _) (J.hok.fresh (Nat.le_refl _))
  rcases alt with ⟨⟨ys, hy⟩, q⟩ | ⟨⟨ys, hy⟩, q⟩
  · obtain ⟨its, _, p, _⟩ := J.list hy
    exact wpAny_pyIter_list (PlainL.isList p) ⟨_, [s1.heap.objs.size], _, _, H1, rfl, J.kept (t' := s1.toks) fun b o e => Heap.get?_push_of_some _ e, turn_list a _, ⟨_, Heap.get?_push_size _ rfl, rfl, rfl⟩, new, q⟩
  · obtain ⟨its, _, p, _⟩ := J.tuple hy
    exact wpAny_pyIter_tuple (show s1.heap.IsTuple a its.toArray from p) ⟨_, [s1.heap.objs.size], _, _, H1, rfl, J.kept (t' := s1.toks) fun b o e => Heap.get?_push_of_some _ e, turn_tuple a _, ⟨_, Heap.get?_push_size _ rfl, rfl, rfl⟩, new, q⟩
theorem blOf_is {h : Hq} {H : Hp} {v : Val} {x : V} {k : Bool} (e : blOf v = some k) (r : RV h H v x) : x = .bl k := by
  cases v <;> first | (cases e; done) | (cases e; exact r)
theorem intOf_is {h : Hq} {H : Hp} {v : Val} {x : V} {k : Int} (e : intOf v = some k) (r : RV h H v x) : x = .int k := by
  cases v <;> first | (cases e; done) | (cases e; exact r)
theorem tru_out {X : Cx} (kk : X.K = Mo.K) {h h1 : Hq} {H H1 : Hp} {v : Val} {x : V} {Q : Bool → Hp → Prop} (st : Stab h H h1 H1) (rh : RH h1 H1) (rv : RV h1 H1 v x) (w : truW v h1 fun k => KT h H Q k h1) : ∃ k, TruV X.K x H1 k ∧ Q k H1 := by
  obtain ⟨k, e, w⟩ := optW_ex w
  exact ⟨k, sound_tru X.K kk rh rv e, w _ rh st⟩
theorem bm_plain (m : Mt) : PlainAttrs m.ty ∧ Slot m.ty m.nm m.id ∧ typeOf (.builtin m.id) = pure (.type "method_descriptor") := by
  cases m with
  | append => exact ⟨PySem.F.plainAttrs_list, PySem.F.slot_list_append, PySem.F.type_list_append⟩
  | extend => exact ⟨PySem.F.plainAttrs_list, PySem.F.slot_list_extend, PySem.F.type_list_extend⟩
  | pop => exact ⟨PySem.F.plainAttrs_list, PySem.F.slot_list_pop, PySem.F.type_list_pop⟩
  | insert => exact ⟨PySem.F.plainAttrs_list, PySem.F.slot_list_insert, PySem.F.type_list_insert⟩
  | reverse => exact ⟨PySem.F.plainAttrs_list, PySem.F.slot_list_reverse, PySem.F.type_list_reverse⟩
  | clear => exact ⟨PySem.F.plainAttrs_list, PySem.F.slot_list_clear, PySem.F.type_list_clear⟩
  | index => exact ⟨PySem.F.plainAttrs_list, PySem.F.slot_list_index, PySem.F.type_list_index⟩
  | count => exact ⟨PySem.F.plainAttrs_list, PySem.F.slot_list_count, PySem.F.type_list_count⟩
  | dget => exact ⟨PySem.F.plainAttrs_dict, PySem.F.slot_dict_get, PySem.F.type_dict_get⟩
  | dupd => exact ⟨PySem.F.plainAttrs_dict, PySem.F.slot_dict_update, PySem.F.type_dict_update⟩
  | sjoin => exact ⟨PySem.F.plainAttrs_str, PySem.F.slot_str_join, PySem.F.type_str_join⟩
  | ssplit => exact ⟨PySem.F.plainAttrs_str, PySem.F.slot_str_split, PySem.F.type_str_split⟩
  | sfind => exact ⟨PySem.F.plainAttrs_str, PySem.F.slot_str_find, PySem.F.type_str_find⟩

/-- a chain of three -/
def tChain3 (r r' r2 : R2) (ta tb tc td : TE) : TE := fun σ H Q => ta σ H fun x H1 => tb σ H1 fun y H2 => r x y H2 fun z H3 => ∃ k, z = .bl k ∧
  (if k = true then tc σ H3 fun w' H4 => r' y w' H4 fun z H5 => ∃ k, z = .bl k ∧ (if k = true then td σ H5 fun u' H6 => r2 w' u' H6 Q else Q (.bl false) H5) else Q (.bl false) H3)
theorem pe_chain3 {X : Cx} {a b c d : Expr} {ta tb tc td : TE} {pos : Pos} {op op' op2 : CmpOp} {r r' r2 : R2} (ho : OpR X (compareOp op) r) (ho' : OpR X (compareOp op') r') (ho2 : OpR X (compareOp op2) r2) (ha : PE X a ta) (hb : PE X b tb) (hc : PE X c tc) (hd : PE X d td)
    (hm : lastMarks [op, op', op2] [b, c, d] = false) : PE X (.Compare a [op, op', op2] [b, c, d] pos) (tChain3 r r' r2 ta tb tc td) := by
  refine ⟨fun pins s σ H Q I h => ?_⟩
  refine PyProof.Rows.Compare_chain (thn (ha.run pins s σ H _ I h) fun v s1 ⟨x, H1, I1, r1, q1⟩ => PyProof.Rows.chain_link (thn (hb.run pins s1 σ H1 _ I1 q1) fun u s2 ⟨y, H2, I2, r2, q2⟩ =>
    thn (ho pins s2 σ H2 x y v u _ I2 r1 r2 q2) fun d s3 ⟨z, H3, I3, r3, k, e, q3⟩ => ?_)) hm
  subst e
  cases r3
  refine wpAny_truthy_bool ?_
  cases k with
  | false => exact ite_ff ⟨.bl false, H3, I3, rfl, q3⟩
  | true =>
    refine ite_tt (PyProof.Rows.chain_link (thn (hc.run pins s3 σ H3 _ I3 q3) fun w' s4 ⟨z', H4, I4, r4, q4⟩ => thn (ho' pins s4 σ H4 y z' u w' _ I4 r2 r4 q4) fun d2 s5 ⟨z5, H5, I5, r5, k, e, q5⟩ => ?_))
    subst e
    cases r5
    refine wpAny_truthy_bool ?_
    cases k with
    | false => exact ite_ff ⟨.bl false, H5, I5, rfl, q5⟩
    | true => exact ite_tt (PyProof.Rows.chain_last (thn (hd.run pins s5 σ H5 _ I5 q5) fun w6 s6 ⟨z6, H6, I6, r6, q6⟩ => ho2 pins s6 σ H6 z' z6 w' w6 Q I6 r4 r6 q6))
theorem recv_ok {K : PySem.W.Frag} (kk : K = Mo.K) {m : Mt} {h0 : Unit} {h1 : Hq} {x : Val} {X1 : V} {H1 : Hp} (rh1 : RH h1 H1) (rv : RV h1 H1 x X1) (e : mOk m x h1 = some h0) : tyV K m.ty X1 H1 := by
  have lst : ∀ {m : Mt}, m.ty = "list" → (lstAt h1 x).map (fun _ => ()) = some h0 → tyV K m.ty X1 H1 := by
    intro m hm e
    obtain ⟨q, e2, _⟩ := Option.map_eq_some_iff.mp e
    obtain ⟨q1, q2, vs, q3, q4⟩ := lstAt_read rh1 rv e2
    subst q1
    exact .inl ⟨hm, vs, SqL.of q3⟩
  cases m with
  | dget =>
    unfold mOk at e
    dsimp only at e
    split at e
    · cases e
    · rename_i hno
      obtain ⟨q, e2, _⟩ := Option.map_eq_some_iff.mp e
      cases x with
      | wd ks ws => exact absurd rfl (hno ks ws)
      | fd ks ws =>
        obtain ⟨a, us, z1, _, z2, _⟩ := rv
        subst z1
        exact .inr (.inr (.inl ⟨rfl, .inl ⟨_, z2⟩⟩))
      | ref a =>
        have e' : (match h1 a with | some (.dic xs) => some xs | _ => none) = some q := e2
        split at e'
        · rename_i ys e1
          obtain ⟨us, e2, _⟩ := rh1 a _ e1
          cases (show X1 = .ref a from rv)
          exact .inr (.inr (.inl ⟨rfl, .inl ⟨_, e2⟩⟩))
        · cases e'
      | _ => cases e2
  | dupd =>
    obtain ⟨q, e2, _⟩ := Option.map_eq_some_iff.mp e
    obtain ⟨q1, _, us, q2, _⟩ := dicAt_read rh1 rv e2
    subst q1
    exact .inr (.inr (.inl ⟨rfl, .inl ⟨_, q2⟩⟩))
  | index =>
    obtain ⟨q, e2, _⟩ := Option.map_eq_some_iff.mp e
    obtain ⟨p, vs, q1, q2, q3⟩ := ls_read (K := K) kk rh1 rv e2
    subst q1
    exact .inl ⟨rfl, vs, q2⟩
  | count =>
    obtain ⟨q, e2, _⟩ := Option.map_eq_some_iff.mp e
    obtain ⟨p, vs, q1, q2, q3⟩ := ls_read (K := K) kk rh1 rv e2
    subst q1
    exact .inl ⟨rfl, vs, q2⟩
  | sjoin =>
    obtain ⟨q, e2, _⟩ := Option.map_eq_some_iff.mp e
    obtain rfl := stO_read rv e2
    rfl
  | ssplit =>
    obtain ⟨q, e2, _⟩ := Option.map_eq_some_iff.mp e
    obtain rfl := stO_read rv e2
    rfl
  | sfind =>
    obtain ⟨q, e2, _⟩ := Option.map_eq_some_iff.mp e
    obtain rfl := stO_read rv e2
    rfl
  | _ => exact lst rfl e
set_option maxHeartbeats 2000000
/-- a value locked as soon as it is made -/
theorem pe_lk {X : Cx} {e : Expr} {t : TE} (p : PE X e t) : PE X e (fun σ H Q => t σ H fun v H1 => Q v H1 ∨ ∃ d u, v = .ref d ∧ H1 d = some u ∧ Mut (some u) ∧ ∀ od, Q v (upd H1 d (.frz od u))) := ⟨fun pins s σ H Q I h => by
  refine wpAny_mono (p.run pins s σ H _ I h) (fun u' s' ⟨v, H1, I1, r, q⟩ => ?_) fun _ _ z => z
  rcases q with q | ⟨d, u, _, hd, mu, q⟩
  · exact ⟨v, H1, I1, r, q⟩
  · obtain ⟨od, I2⟩ := I1.lock hd mu
    exact ⟨v, _, I2, r, q od⟩⟩
/-! ### refusals -/
def cvX (c : Nat) : V := if c = 8 then .ty "ValueError" else .ref (Mo.xc c)
def cuX (c : Nat) : Value := if c = 8 then .type "ValueError" else .ref (Mo.xc c)
theorem clsX (c : Nat) : ClsV (cvX c) (cuX c) := by
  unfold cvX cuX
  split
  · exact .ty _
  · exact .own _
theorem mC_is {sc : Scope} {c : Nat} {e : Expr} (h : mC T sc c e = true) : (c ∈ T.exs ∨ c = 8) ∧ T.exs ≠ [] := by
  unfold mC at h
  obtain ⟨h, h5⟩ := b1 h
  obtain ⟨h, h4⟩ := b1 h
  refine ⟨?_, fun z => by rw [z] at h5; cases h5⟩
  simpa using h4
theorem peC {X : Cx} (G : Good T F n X) {c : Nat} {e : Expr} (h : mC T X.env.scope c e = true) : PE X e (tC (cvX c)) := by
  obtain ⟨hc, ne⟩ := mC_is h
  unfold mC at h
  obtain ⟨h, h5⟩ := b1 h
  obtain ⟨h, h4⟩ := b1 h
  obtain ⟨h, h3⟩ := b1 h
  obtain ⟨h1, h2⟩ := b1 h
  obtain ⟨p, rfl, gl, m1, m2⟩ := glo_name (of_decide_eq_true h1) h2 (nt h3)
  by_cases e8 : c = 8
  · subst e8
    exact pe_bltn (v := .ty "ValueError") (u := .type "ValueError") gl (G.exo ne).ve (by decide +kernel) rfl m2 m1
  · have hc : c ∈ T.exs := hc.resolve_right e8
    rw [show cvX c = .ref (Mo.xc c) from if_neg e8]
    exact pe_glob gl ((G.exo ne).nm c hc) rfl m1
theorem mCs_is {sc : Scope} : ∀ {cs : List Nat} {es : List Expr}, mCs T sc cs es = true → (∀ c ∈ cs, c ∈ T.exs ∨ c = 8) ∧ ∀ e ∈ es, isStar e = false
  | [], [], _ => ⟨by simp, by simp⟩
  | [], _ :: _, h => by simp [mCs] at h
  | _ :: _, [], h => by simp [mCs] at h
  | c :: cs, e :: es, h => by
    unfold mCs at h
    obtain ⟨h, h3⟩ := b1 h
    obtain ⟨h1, h2⟩ := b1 h
    obtain ⟨a, b⟩ := mCs_is h3
    refine ⟨fun d hd => ?_, fun d hd => ?_⟩
    · rcases List.mem_cons.mp hd with rfl | hd
      · exact (mC_is h2).1
      · exact a d hd
    · rcases List.mem_cons.mp hd with rfl | hd
      · exact nt h1
      · exact b d hd
theorem paCs {X : Cx} (G : Good T F n X) : ∀ {cs : List Nat} {es : List Expr}, mCs T X.env.scope cs es = true → PA X es (fun _ H Q => Q (cs.map cvX) H)
  | [], [], _ => pa_nil
  | [], _ :: _, h => by simp [mCs] at h
  | _ :: _, [], h => by simp [mCs] at h
  | c :: cs, e :: es, h => by
    unfold mCs at h
    obtain ⟨h, h3⟩ := b1 h
    obtain ⟨h1, h2⟩ := b1 h
    exact pa_cons (peC G h2) (paCs G h3) (star_cons (nt h1))
theorem kitX_one {K : PySem.W.Frag} {mg : Str → Option Value} {L : List Nat} (E : ExF K mg L) {c d : Nat} (hc : c ∈ L) (hd : d ∈ L ∨ d = 8) : PySem.W.kitOne K (.ref (Mo.xc c)) (cuX d) = some (subX c d) := by
  by_cases e8 : d = 8
  · subst e8
    rw [show cuX 8 = .type "ValueError" from rfl, E.kv c hc]
    simp [subX]
  · rw [show cuX d = .ref (Mo.xc d) from if_neg e8]
    exact E.ki c hc d (hd.resolve_right e8)
theorem kitX_any {K : PySem.W.Frag} {mg : Str → Option Value} {L : List Nat} (E : ExF K mg L) {c : Nat} (hc : c ∈ L) : ∀ {cs : List Nat}, (∀ d ∈ cs, d ∈ L ∨ d = 8) → PySem.W.kitAny K (.ref (Mo.xc c)) (cs.map cuX) = some (cs.any fun d => subX c d)
  | [], _ => rfl
  | d :: cs, h => by
    have ih := kitX_any E hc (cs := cs) fun x m => h x (List.mem_cons_of_mem _ m)
    have e1 := kitX_one E hc (h d List.mem_cons_self)
    rw [List.map_cons, PySem.W.kitAny, e1, List.any_cons]
    cases subX c d with
    | true => rfl
    | false => simpa using ih
theorem pairedX : ∀ cs : List Nat, Paired ClsV (cs.map cvX) (cs.map cuX)
  | [] => .nil
  | c :: cs => .cons (clsX c) (pairedX cs)
/-! ### objects -/
theorem insAt_read {h : Hq} {H : Hp} {v : Val} {x : V} {q : Addr × Nat × List (Str × Val)} (rh : RH h H) (r : RV h H v x) (e : insAt h v = some q) : x = .ref q.1 ∧ h q.1 = some (.ins q.2.1 q.2.2) ∧ ∃ dx ys, H q.1 = some (.ins (Mo.cc q.2.1) dx ys) ∧ RFs h H q.2.2 ys := by
  cases v with
  | ref a =>
    have e' : (match h a with | some (.ins c fs) => some (a, c, fs) | _ => none) = some q := e
    split at e'
    · rename_i c fs e1
      cases e'
      exact ⟨r, e1, (rh a _ e1).2⟩
    · cases e'
  | _ => cases e
theorem RFs.look {h : Hq} {H : Hp} {f : Str} : ∀ {fs : List (Str × Val)} {ys : List (Str × V)}, RFs h H fs ys → (∀ v, fs.lookup f = some v → ∃ x, ys.lookup f = some x ∧ RV h H v x) ∧ (fs.lookup f = none → ys.lookup f = none)
  | [], ys, r => by
    have : ys = [] := by have := r.1; simpa using this
    subst this
    exact ⟨fun v e => (by cases e), fun _ => rfl⟩
  | (g, u) :: fs, ys, r => by
    obtain ⟨r1, y, t, e, q1, q2⟩ := r
    cases ys with
    | nil => cases r1
    | cons p ys =>
      obtain ⟨j, z⟩ := p
      rw [List.map_cons, List.map_cons, List.cons.injEq] at r1
      rw [List.map_cons, List.cons.injEq] at e
      obtain ⟨e1, e2⟩ := r1
      obtain ⟨e3, e4⟩ := e
      dsimp only at e1 e3
      subst e1 e3 e4
      have ih := RFs.look (f := f) (fs := fs) (ys := ys) ⟨e2, q2⟩
      rw [List.lookup_cons, List.lookup_cons]
      cases f == j with
      | true => exact ⟨fun v e => by cases e; exact ⟨_, rfl, q1⟩, fun e => by cases e⟩
      | false => exact ih
theorem RFs.put {h : Hq} {H : Hp} {f : Str} {v : Val} {x : V} (rv : RV h H v x) : ∀ {fs : List (Str × Val)} {ys : List (Str × V)}, RFs h H fs ys → RFs h H (pf f v fs) (putF f x ys)
  | [], ys, r => by
    have : ys = [] := by have := r.1; simpa using this
    subst this
    exact ⟨rfl, .cons rv .nil⟩
  | (g, u) :: fs, ys, r => by
    obtain ⟨r1, y, t, e, q1, q2⟩ := r
    cases ys with
    | nil => cases r1
    | cons p ys =>
      obtain ⟨j, z⟩ := p
      rw [List.map_cons, List.map_cons, List.cons.injEq] at r1
      rw [List.map_cons, List.cons.injEq] at e
      obtain ⟨e1, e2⟩ := r1
      obtain ⟨e3, e4⟩ := e
      dsimp only at e1 e3
      subst e1 e3 e4
      have ih := RFs.put (f := f) rv (fs := fs) (ys := ys) ⟨e2, q2⟩
      unfold pf putF
      by_cases c : j = f
      · rw [if_pos c, if_pos c]
        exact ⟨by rw [List.map_cons, List.map_cons, e2], .cons rv q2⟩
      · rw [if_neg c, if_neg c]
        exact ⟨by rw [List.map_cons, List.map_cons, ih.1], .cons q1 ih.2⟩
theorem RFs.length {h : Hq} {H : Hp} {fs : List (Str × Val)} {ys : List (Str × V)} (r : RFs h H fs ys) : ys.length = fs.length := by
  have := congrArg List.length r.1
  rwa [List.length_map, List.length_map] at this
theorem meth_eq {o : Expr} {m : Str} {apos pos : Pos} {args : List Expr} {env : PySem.Env} (hb : attributeBase o m env (eval o env) = eval o env) (hf : methodCallForm args.length (backTo pos (starEach args env)) [] = true) (hl : (apos.endLine == pos.line) = true) :
    eval (.Call (.Attribute o m apos) args [] pos) env = (do
      let ov ← eval o env
      standAt apos.atName
      let (f, first) ← holding [ov] (getMethod ov m (do return (← importBound o env).getD true))
      callWith pos f first (backTo pos (starEach args env)) (backToKw pos (keywordEach [] env))) := by
  have hf2 : methodCallForm (args.length + ([] : List Keyword).length) (backTo pos (starEach args env)) (backToKw pos (keywordEach [] env)) = true := hf
  rw [PySem.arm_eval_Call, hb]
  unfold methodCall calleeOf methodCallPos
  rw [hf2, hl]
  rfl
section
variable {X : Cx} {CX : CXT} {k : Nat} {f C : Addr} {fd : FuncData} {ps : List Str} {sp : Sp} {E : L2.St → XK} {x m : Str} {p apos pos : Pos} {o e : Expr} {es : List Expr} {ta : TE} {t : TA}
/-- o.m(e, ..), where what is raised is wished for at the caller's slots -/
theorem pe_methS {pl : Sem Bool} (he : PE X o ta) (c : Cls X.K C) (hm : Meth X.K C m f) (F : FnOk X.prog X.w X.K X.mg X.base CX k f fd ps sp) (hr : Room k X.A) (hb : Binds X.K fd ps []) (hx : ∀ σ, PassesAt CX X σ (E σ)) (ha : PA X (e :: es) t) (hp : ∀ y ∈ e :: es, isStar y = false)
    (ht : eval (.Call (.Attribute o m apos) (e :: es) [] pos) X.env = (do
      let ov ← eval o X.env
      standAt apos.atName
      let (f, first) ← holding [ov] (getMethod ov m pl)
      callWith pos f first (backTo pos (starEach (e :: es) X.env)) (backToKw pos (keywordEach [] X.env)))) :
    PE X (.Call (.Attribute o m apos) (e :: es) [] pos) (fun σ H Q => ta σ H fun x H1 => ∃ a dx fs, x = .ref a ∧ H1 a = some (.ins C dx fs) ∧ fs.lookup m = none ∧ t σ H1 fun vs H2 => sp (x :: vs) H2 Q (E σ)) := by
  refine ⟨fun pins s σ H Q I h => ?_⟩
  refine PySem.W.methodCall_KW (pl := pl) (thn (he.run pins s σ H _ I h) fun u s1 ⟨x, H1, I1, rx, a, dx, fs, ex, ea, l, q⟩ => ?_) ht
  subst ex
  obtain rfl : u = Value.ref a := rx
  refine getmeth_ok I1 ea c hm l ?_
  refine PySem.W.callWith_K (first := [.ref a]) (h₀ := X.base) I1.ok.mod.kin hm.kp (thn (ha.run pos pins s1 σ H1 _ I1 q) fun us s2 ⟨vs, H2, I2, r, q2⟩ => ⟨I2.kIn, ?_⟩) (star_cons (hp e List.mem_cons_self)) (star_any fun y hy => hp y (List.mem_cons_of_mem _ hy))
  exact run_fnSD (us := .ref a :: us) (vs := .ref a :: vs) (dvs := []) F hr hb .nil (hx σ) I2 (.cons rfl r) (by rw [List.append_nil]; exact q2)
/-- o.m() -/
theorem pe_methS0 {pl : Sem Bool} (he : PE X o ta) (c : Cls X.K C) (hm : Meth X.K C m f) (F : FnOk X.prog X.w X.K X.mg X.base CX k f fd ps sp) (hr : Room k X.A) (hb : Binds X.K fd ps []) (hx : ∀ σ, PassesAt CX X σ (E σ))
    (ht : eval (.Call (.Attribute o m apos) [] [] pos) X.env = (do
      let ov ← eval o X.env
      standAt apos.atName
      let (f, first) ← holding [ov] (getMethod ov m pl)
      callWith pos f first (backTo pos (starEach [] X.env)) (backToKw pos (keywordEach [] X.env)))) :
    PE X (.Call (.Attribute o m apos) [] [] pos) (fun σ H Q => ta σ H fun x H1 => ∃ a dx fs, x = .ref a ∧ H1 a = some (.ins C dx fs) ∧ fs.lookup m = none ∧ sp [x] H1 Q (E σ)) := by
  refine ⟨fun pins s σ H Q I h => ?_⟩
  refine PySem.W.methodCall_KW (pl := pl) (thn (he.run pins s σ H _ I h) fun u s1 ⟨x, H1, I1, rx, a, dx, fs, ex, ea, l, q⟩ => ?_) ht
  subst ex
  obtain rfl : u = Value.ref a := rx
  refine getmeth_ok I1 ea c hm l ?_
  exact PySem.W.callWith_K0 (first := [.ref a]) I1.kIn hm.kp (run_fnSD (us := [.ref a]) (vs := [.ref a]) (dvs := []) F hr hb .nil (hx σ) I1 (.cons rfl .nil) q)
/-- C(..) -/
theorem pe_makeS (M : Mk X.K C f) (F : FnOk X.prog X.w X.K X.mg X.base CX k f fd ps sp) (hr : Room (k + 1) X.A) (hg : Gl X x) (hm : X.mg x = some (.ref C)) (hb : Binds X.K fd ps []) (hx : ∀ σ, PassesAt CX X σ (E σ))
    (ha : PA X (e :: es) t) (hdb : (x == ("__debug__" : Str)) = false) (he : starEach (e :: es) X.env = (false, eval e X.env) :: starEach es X.env) (hpl : (backTo pos (starEach es X.env)).any (·.1) = false) :
    PE X (.Call (.Name x p) (e :: es) [] pos) (fun σ H Q => t σ H fun vs H1 => ∀ x dx, H1 x = none → H1 dx = none → dx ≠ x → sp (.ref x :: vs) (upd (upd H1 dx (.own x)) x (.ins C dx [])) (fun v H2 => v = .non ∧ Q (.ref x) H2) (E σ)) := by
  refine ⟨fun pins s σ H Q I h => ?_⟩
  refine wpAny_Call_Name_kw (ld_glob I hg hm ?_ hdb)
  refine PySem.W.callWith_K (h₀ := X.base) I.ok.mod.kin M.kp (thn (ha.run pos pins s σ H _ I h) fun us s1 ⟨vs, H1, I1, r, q⟩ => ⟨I1.kIn, ?_⟩) he hpl
  have hq := q (s1.heap.objs.size + 1) s1.heap.objs.size (I1.hok.fresh (Nat.le_succ _)) (I1.hok.fresh (Nat.le_refl _)) (Nat.ne_of_lt (Nat.lt_succ_self _))
  have I2 := Inv.made (C := C) I1
  have r2 : Vals (V.ref (s1.heap.objs.size + 1) :: vs) (Value.ref (s1.heap.objs.size + 1) :: us) := .cons rfl r
  have hl : (Value.ref (s1.heap.objs.size + 1) :: us ++ []).length = ps.length := by
    have e := r2.length
    rw [F.len _ _ _ _ hq] at e
    rw [List.append_nil]
    exact e.symm
  have bd := hb _ (Value.ref (s1.heap.objs.size + 1) :: us) I2.kIn hl
  rw [List.append_nil] at bd
  refine wpAny_call (make_map (f := f) I1.kIn M.makes M.init (beq_iff_eq.mp M.fn) (codeAny_mono (F.run _ X.stack _ _ ⟨Value.ref (s1.heap.objs.size + 1) :: us, []⟩ (Value.ref (s1.heap.objs.size + 1) :: us) _ _ (E σ) (hr.make C us [])
    (I2.env0.make C us []) bd r2 hq) fun r s' hq' => ?_))
  cases r with
  | error e => exact hx σ pins _ _ e s' I2 hq'
  | ok fl =>
    cases fl with
    | ret u =>
      obtain ⟨v, H', I3, rv, ev, q3⟩ := I2.after hq'
      subst ev
      exact ⟨rv, ⟨V.ref (s1.heap.objs.size + 1), H', I3, rfl, q3⟩⟩
    | next => exact False.elim hq'
    | brk => exact False.elim hq'
    | cont => exact False.elim hq'
end
theorem form_ok {args : List Expr} {pos : Pos} {env : PySem.Env} (hp : ∀ e ∈ args, isStar e = false) (hl : args.length < 30) : methodCallForm args.length (backTo pos (starEach args env)) [] = true := by
  unfold methodCallForm
  rw [star_all hp]
  simp [hl]
mutual
theorem sE {X : Cx} {W : WX} (G : Good T F n X) (tk : Takes X W) : ∀ (e : Ex) {pe : Expr}, mE T X.N X.env.scope e pe = true → PE X pe (TEx T W (wpE (CN F n) e))
  | .var i, pe, h => s_var h
  | .int i, pe, h => by
    obtain ⟨k, p, rfl⟩ := asInt_is (of_decide_eq_true (show decide (asInt pe = some i) = true from by simpa [mE] using h))
    exact pe_int.imp fun σ H Q ⟨ρ, h, re, rh, w⟩ => KQ.here w rh rfl
  | .bl i, pe, h => by
    obtain ⟨k, p, rfl⟩ := asBl_is (of_decide_eq_true (show decide (asBl pe = some i) = true from by simpa [mE] using h))
    exact pe_bl.imp fun σ H Q ⟨ρ, h, re, rh, w⟩ => KQ.here w rh rfl
  | .non, pe, h => by
    obtain ⟨k, p, rfl⟩ := asNon_is (by simpa [mE] using h)
    exact pe_non.imp fun σ H Q ⟨ρ, h, re, rh, w⟩ => KQ.here w rh rfl
  | .str i, pe, h => by
    obtain ⟨k, p, rfl⟩ := asStr3_is (of_decide_eq_true (show decide (asStr3 pe = some i) = true from by simpa [mE] using h))
    exact pe_str.imp fun σ H Q ⟨ρ, h, re, rh, w⟩ => KQ.here w rh rfl
  | .con x v, pe, h => by
    unfold mE at h
    obtain ⟨h, h4⟩ := b1 h
    obtain ⟨h, h3⟩ := b1 h
    obtain ⟨h1, h2⟩ := b1 h
    split at h4
    · rename_i u e
      obtain ⟨p, rfl, g, m1, m2⟩ := glo_name (of_decide_eq_true h1) h2 (nt h3)
      obtain ⟨rfl, f⟩ := eqFlat_is h4
      obtain ⟨w, e1, r1⟩ := G.con x v e f
      refine (pe_glob g e1 r1 m1).imp fun σ H Q ⟨ρ, h, re, rh, w⟩ => KQ.here w rh ?_
      cases v <;> first | rfl | (cases f)
    · cases h4
  | .bin o fz a b, pe, h => by
    unfold mE at h
    split at h
    · rename_i l op r e
      obtain ⟨p, rfl⟩ := asBin_is e
      obtain ⟨h, h3⟩ := b1 h
      obtain ⟨h1, h2⟩ := b1 h
      obtain rfl := of_decide_eq_true h1
      exact (pe_op (sound_bin (fz := fz)) (sE G tk a h2) (sE G tk b h3)).imp fun σ H Q q => bind2 (CN_mono F n) (X := X) (fun _ _ _ _ q => q) q
    · cases h
  | .neg a, pe, h => by
    unfold mE at h
    split at h
    · rename_i r e
      obtain ⟨p, rfl⟩ := asUn_is e
      refine (pe_un un_neg (sE G tk a h)).imp fun σ H Q ⟨ρ, h, re, rh, w⟩ => ?_
      refine stepE (CN_mono F n) re rh w (fun _ _ e => e) fun v h1 V H1 re1 rh1 st1 rv w => ?_
      obtain ⟨i, e1, w⟩ := optW_ex w
      exact ⟨i, intOf_is e1 rv, w _ _ rh1 st1 rfl⟩
    · cases h
  | .not a, pe, h => by
    unfold mE at h
    split at h
    · rename_i r e
      obtain ⟨p, rfl⟩ := asUn_is e
      refine (pe_notT (sE G tk a h)).imp fun σ H Q ⟨ρ, h, re, rh, w⟩ => ?_
      refine stepE (CN_mono F n) re rh w (fun _ _ e => e) fun v h1 V H1 re1 rh1 st1 rv w => ?_
      obtain ⟨k, e1, w⟩ := optW_ex w
      exact ⟨k, sound_tru X.K G.kk rh1 rv e1, w _ _ rh1 st1 rfl⟩
    · cases h
  | .cmp o a b, pe, h => by
    unfold mE at h
    split at h
    · rename_i l op r e
      obtain ⟨p, rfl⟩ := asCmp_is e
      obtain ⟨h, h4⟩ := b1 h
      obtain ⟨h, h3⟩ := b1 h
      obtain ⟨h1, h2⟩ := b1 h
      obtain rfl := of_decide_eq_true h1
      exact (pe_cmpR (sound_cmp G.kk (rm65 G.room)) (sE G tk a h3) (sE G tk b h4) (nt h2)).imp fun σ H Q q => bind2 (CN_mono F n) (X := X) (fun _ _ _ _ q => q) q
    · cases h
  | .chain o p a b c, pe, h => by
    unfold mE at h
    split at h
    · rename_i l op op' r r' e
      obtain ⟨pp, rfl⟩ := asCmp_is e
      obtain ⟨h, h6⟩ := b1 h
      obtain ⟨h, h5⟩ := b1 h
      obtain ⟨h, h4⟩ := b1 h
      obtain ⟨h, h3⟩ := b1 h
      obtain ⟨h1, h2⟩ := b1 h
      obtain rfl := of_decide_eq_true h1
      obtain rfl := of_decide_eq_true h2
      refine (pe_chain (sound_cmp G.kk (rm65 G.room)) (sound_cmp G.kk (rm65 G.room)) (sE G tk a h4) (sE G tk b h5) (sE G tk c h6) (nt h3)).imp fun σ H Q ⟨ρ, h, re, rh, w⟩ => ?_
      refine stepE (CN_mono F n) re rh w (fun _ _ e => e) fun v h1 V H1 re1 rh1 st1 rv w => ?_
      refine stepE (CN_mono F n) re1 rh1 w (fun _ _ e => e.later st1) fun u h2 U H2 re2 rh2 st2 ru w => ?_
      refine ⟨h2, v, u, rh2, RV.keep st2 rv, ru, prW_mono (fun z h3 w Z H3 rh3 st3 rz => ?_) w⟩
      obtain ⟨k, e1, w⟩ := optW_ex w
      refine ⟨k, blOf_is e1 rz, ?_⟩
      cases k with
      | true =>
        refine stepE (CN_mono F n) (re2.keep st3) rh3 w (fun _ _ e => e.later (st1.trans (st2.trans st3))) fun z4 h4 Z4 H4 re4 rh4 st4 r4 w => ?_
        exact ⟨h4, u, z4, rh4, RV.keep (st3.trans st4) ru, r4, prW_mono (fun _ _ k => k.later (st1.trans (st2.trans (st3.trans st4)))) w⟩
      | false => exact w _ _ rh3 (st1.trans (st2.trans st3)) rfl
    · cases h
  | .chain3 o p q0 a b c d, pe, h => by
    unfold mE at h
    split at h
    · rename_i l op op' op2 r r' r2 e
      obtain ⟨pp, rfl⟩ := asCmp_is e
      obtain ⟨h, h8⟩ := b1 h
      obtain ⟨h, h7⟩ := b1 h
      obtain ⟨h, h6⟩ := b1 h
      obtain ⟨h, h5⟩ := b1 h
      obtain ⟨h, h4⟩ := b1 h
      obtain ⟨h, h3⟩ := b1 h
      obtain ⟨h1, h2⟩ := b1 h
      obtain rfl := of_decide_eq_true h1
      obtain rfl := of_decide_eq_true h2
      obtain rfl := of_decide_eq_true h3
      refine (pe_chain3 (sound_cmp G.kk (rm65 G.room)) (sound_cmp G.kk (rm65 G.room)) (sound_cmp G.kk (rm65 G.room)) (sE G tk a h5) (sE G tk b h6) (sE G tk c h7) (sE G tk d h8) (nt h4)).imp fun σ H Q ⟨ρ, h, re, rh, w⟩ => ?_
      refine stepE (CN_mono F n) re rh w (fun _ _ e => e) fun v h1 V H1 re1 rh1 st1 rv w => ?_
      refine stepE (CN_mono F n) re1 rh1 w (fun _ _ e => e.later st1) fun u h2 U H2 re2 rh2 st2 ru w => ?_
      refine ⟨h2, v, u, rh2, RV.keep st2 rv, ru, prW_mono (fun z h3 w Z H3 rh3 st3 rz => ?_) w⟩
      obtain ⟨k, e1, w⟩ := optW_ex w
      refine ⟨k, blOf_is e1 rz, ?_⟩
      cases k with
      | true =>
        refine stepE (CN_mono F n) (re2.keep st3) rh3 w (fun _ _ e => e.later (st1.trans (st2.trans st3))) fun z4 h4 Z4 H4 re4 rh4 st4 r4 w => ?_
        refine ⟨h4, u, z4, rh4, RV.keep (st3.trans st4) ru, r4, prW_mono (fun z5 h5 w Z5 H5 rh5 st5 rz5 => ?_) w⟩
        obtain ⟨k, e1, w⟩ := optW_ex w
        refine ⟨k, blOf_is e1 rz5, ?_⟩
        have stt := st1.trans (st2.trans (st3.trans (st4.trans st5)))
        cases k with
        | true =>
          refine stepE (CN_mono F n) (re4.keep st5) rh5 w (fun _ _ e => e.later stt) fun z6 h6 Z6 H6 re6 rh6 st6 r6 w => ?_
          exact ⟨h6, z4, z6, rh6, RV.keep (st5.trans st6) r4, r6, prW_mono (fun _ _ k => k.later (stt.trans st6)) w⟩
        | false => exact w _ _ rh5 stt rfl
      | false => exact w _ _ rh3 (st1.trans (st2.trans st3)) rfl
    · cases h
  | .bop i es, pe, h => by
    unfold mE at h
    split at h
    · rename_i op vs e
      obtain ⟨p, rfl⟩ := asBop_is e
      obtain ⟨h1, h2⟩ := b1 h
      obtain rfl := of_decide_eq_true h1
      exact sB G tk i es h2
    · cases h
  | .ite t a b, pe, h => by
    unfold mE at h
    split at h
    · rename_i x y z e
      obtain ⟨p, rfl⟩ := asIf_is e
      obtain ⟨h, h3⟩ := b1 h
      obtain ⟨h1, h2⟩ := b1 h
      refine (pe_ifExp (sT G tk t h1) (sE G tk a h2) (sE G tk b h3)).imp fun σ H Q ⟨ρ, h, re, rh, w⟩ => ?_
      refine stepT (CN_mono F n) re rh w (fun _ _ e => e) fun k h1 H1 re1 rh1 st1 w => ?_
      cases k with
      | true => exact ⟨ρ, h1, re1, rh1, wpE_mono (CN_mono F n) a _ _ _ _ _ _ (fun _ _ k => k.later st1) (fun _ _ k => k.later st1) w⟩
      | false => exact ⟨ρ, h1, re1, rh1, wpE_mono (CN_mono F n) b _ _ _ _ _ _ (fun _ _ k => k.later st1) (fun _ _ k => k.later st1) w⟩
    · cases h
  | .tup es, pe, h => by
    unfold mE at h
    split at h
    · rename_i vs e
      obtain ⟨k, p, rfl⟩ := asTup_is e
      refine (pe_tup (sA G tk es h)).imp fun σ H Q ⟨ρ, h, re, rh, w⟩ => ?_
      refine stepA (CN_mono F n) re rh w (fun _ _ e => e) fun v h1 V H1 re1 rh1 st1 rv w => ⟨by rw [← rv.length]; exact len_ok w.1, fun q nq => ?_⟩
      have k := Stab.alloc (h := h1) (o := .tup V) nq
      exact w.2 _ _ (rh1.alloc nq) (st1.trans k) ⟨q, _, rfl, rh1.free nq, upd_same, RVs.keep k rv⟩
    · cases h
  | .lst fz es, pe, h => by
    unfold mE at h
    split at h
    · rename_i vs e
      obtain ⟨p, rfl⟩ := asLst_is e
      refine (pe_lst (sA G tk es h)).imp fun σ H Q ⟨ρ, h, re, rh, w⟩ => ?_
      refine stepA (CN_mono F n) re rh w (fun _ _ e => e) fun v h1 V H1 re1 rh1 st1 rv w => ⟨by rw [← rv.length]; exact len_ok w.1, ?_⟩
      exact alc_out rh1 rv (alc_mono (fun _ _ k => k.later st1) w.2)
    · cases h
  | .dic0 fz, pe, h => by
    obtain ⟨p, rfl⟩ := asDic0_is h
    exact pe_dnewK.imp fun σ H Q ⟨ρ, h, re, rh, w⟩ p n => alcD_out rh .nil w p n
  | .dic1 fz a b, pe, h => by
    unfold mE at h
    split at h
    · rename_i x y e
      obtain ⟨p, rfl⟩ := asDic1_is e
      obtain ⟨h1, h2⟩ := b1 h
      refine (pe_disp (pps_cons (sE G tk a h1) (sE G tk b h2) pps_nil) rfl rfl (by simp) (by simp)).imp fun σ H Q ⟨ρ, h, re, rh, w⟩ p np => ?_
      have st0 : Stab h H (up h p (.dic [])) (upd H p (.dK [])) := Stab.cell np
      have rh0 : RH (up h p (.dic [])) (upd H p (.dK [])) := rh.put st0 ⟨[], upd_same, .nil⟩
      refine stepE (CN_mono F n) (re.keep st0) rh0 (w p (rh.free np)) (fun _ _ k => KE.later st0 k) fun x1 h1 X1 H1 re1 rh1 st1 rx w => ?_
      refine stepE (CN_mono F n) re1 rh1 w (fun _ _ k => KE.later (st0.trans st1) k) fun y2 h2 Y2 H2 re2 rh2 st2 ry w => ?_
      obtain ⟨j, e1, hp, w⟩ := optW_ex w
      obtain rfl := key_read rx e1
      obtain ⟨us, e2, q2⟩ := rh2 p _ hp
      have : us = [] := List.map_eq_nil_iff.mp q2.1
      subst this
      refine ⟨e2, [(j, Y2)], rfl, by simp, ?_⟩
      have st3 : Stab h2 H2 (up h2 p (.dic [(j, y2)])) (upd H2 p (.dK [(j, Y2)])) := Stab.write hp
      have rh3 := rh2.put st3 ⟨[(j, Y2)], upd_same, .cons (RV.keep st3 ry) .nil⟩
      have stt := st0.trans (st1.trans (st2.trans st3))
      show Q (.ref p) (upd H2 p (.dK [(j, Y2)]))
      split at w
      · have rv := frzC_rv rh3 up_same rfl
        rw [er_up'] at rv
        refine w _ _ (by rw [← er_up' (c := .dic [(j, y2)])]; exact rh3.er) ?_ rv
        rw [← er_up' (c := .dic [(j, y2)])]
        exact stt.trans Stab.er
      · exact w _ _ rh3 stt rfl
    · cases h
  | .dic2 fz a b c d, pe, h => by
    unfold mE at h
    split at h
    · rename_i x y x2 y2 e
      obtain ⟨p, rfl⟩ := asDic2_is e
      obtain ⟨h, h4⟩ := b1 h
      obtain ⟨h, h3⟩ := b1 h
      obtain ⟨h1, h2⟩ := b1 h
      refine (pe_disp (pps_cons (sE G tk a h1) (sE G tk b h2) (pps_cons (sE G tk c h3) (sE G tk d h4) pps_nil)) rfl rfl (by simp) (by simp)).imp fun σ H Q ⟨ρ, h, re, rh, w⟩ p np => ?_
      have st0 : Stab h H (up h p (.dic [])) (upd H p (.dK [])) := Stab.cell np
      have rh0 : RH (up h p (.dic [])) (upd H p (.dK [])) := rh.put st0 ⟨[], upd_same, .nil⟩
      refine stepE (CN_mono F n) (re.keep st0) rh0 (w p (rh.free np)) (fun _ _ k => KE.later st0 k) fun x1 h1 X1 H1 re1 rh1 st1 rx w => ?_
      refine stepE (CN_mono F n) re1 rh1 w (fun _ _ k => KE.later (st0.trans st1) k) fun y1 h2 Y1 H2 re2 rh2 st2 ry w => ?_
      refine stepE (CN_mono F n) re2 rh2 w (fun _ _ k => KE.later (st0.trans (st1.trans st2)) k) fun x3 h3 X3 H3 re3 rh3 st3 rx3 w => ?_
      refine stepE (CN_mono F n) re3 rh3 w (fun _ _ k => KE.later (st0.trans (st1.trans (st2.trans st3))) k) fun y4 h4 Y4 H4 re4 rh4 st4 ry4 w => ?_
      obtain ⟨j, e1, w⟩ := optW_ex w
      obtain ⟨j2, e3, hp, w⟩ := optW_ex w
      obtain rfl := key_read rx e1
      obtain rfl := key_read rx3 e3
      obtain ⟨us, e2, q2⟩ := rh4 p _ hp
      have : us = [] := List.map_eq_nil_iff.mp q2.1
      subst this
      refine ⟨e2, [(j, Y1), (j2, Y4)], rfl, by simp, ?_⟩
      have st5 : Stab h4 H4 (up h4 p (.dic (dmerge [] [(j, y1), (j2, y4)]))) (upd H4 p (.dK (mergeK [] [(j, Y1), (j2, Y4)]))) := Stab.write hp
      have rk : RKV h4 H4 (dmerge [] [(j, y1), (j2, y4)]) (mergeK [] [(j, Y1), (j2, Y4)]) := RKV.merge' .nil (.cons (RV.keep (st3.trans st4) ry) (.cons ry4 .nil))
      have rh5 := rh4.put st5 ⟨_, upd_same, RKV.keep st5 rk⟩
      have stt := st0.trans (st1.trans (st2.trans (st3.trans (st4.trans st5))))
      show Q (.ref p) (upd H4 p (.dK (mergeK [] [(j, Y1), (j2, Y4)])))
      split at w
      · have rv := frzC_rv rh5 up_same rfl
        rw [er_up'] at rv
        refine w _ _ (by rw [← er_up' (c := .dic (dmerge [] [(j, y1), (j2, y4)]))]; exact rh5.er) ?_ rv
        rw [← er_up' (c := .dic (dmerge [] [(j, y1), (j2, y4)]))]
        exact stt.trans Stab.er
      · exact w _ _ rh5 stt rfl
    · cases h
  | .idx a i, pe, h => by
    unfold mE at h
    split at h
    · rename_i v s e
      obtain ⟨p, rfl⟩ := asSub_is e
      obtain ⟨h, h3⟩ := b1 h
      obtain ⟨h1, h2⟩ := b1 h
      exact (pe_ix (ix_seq.or (ix_dict (Nat.lt_trans (by omega) G.room.units))) (sE G tk a h2) (sE G tk i h3) (plain_ix (nt h1))).imp fun σ H Q q => bind2 (CN_mono F n) (X := X) (fun _ _ _ _ q => sound_idx G.kk q) q
    · cases h
  | .slc fz a lo hi, pe, h => by
    unfold mE at h
    split at h
    · rename_i v s e
      obtain ⟨p, rfl⟩ := asSub_is e
      split at h
      · rename_i l u e2
        obtain ⟨p2, rfl⟩ := asSlc_is e2
        obtain ⟨h, h3⟩ := b1 h
        obtain ⟨h1, h2⟩ := b1 h
        have part : ∀ (x : Ex) (o : Option Expr), (match o with | none => isNop x | some y => !isNop x && mE T X.N X.env.scope x y) = true → (∀ y, mE T X.N X.env.scope x y = true → PE X y (TEx T W (wpE (CN F n) x))) →
            ∃ t, PO X o t ∧ ∀ {σ H ρ h} {K : Val → Hq → Prop} {E : QE} {R : Option Int → Hp → Prop}, RE h H ρ σ → RH h H → wpE (CN F n) x ρ h K E → (∀ x h', E x h' → KE T h H W σ x h') →
              (∀ v h1 H1, RE h1 H1 ρ σ → RH h1 H1 → Stab h H h1 H1 → K v h1 → ∃ o', optI (isNop x) v = some o' ∧ R o' H1) → t σ H R := by
          intro x o hx hp
          cases o with
          | none =>
            refine ⟨_, po_none, fun {σ H ρ h K E R} re rh w ke k => ?_⟩
            have hn : isNop x = true := hx
            cases x <;> first | (cases hn; done) | skip
            obtain ⟨o', e1, r1⟩ := k .non h H re rh .refl w
            cases e1
            exact r1
          | some y =>
            obtain ⟨g1, g2⟩ := b1 hx
            refine ⟨_, po_some (hp y g2), fun {σ H ρ h K E R} re rh w ke k => ?_⟩
            refine stepE (CN_mono F n) re rh w ke fun v h1 V H1 re1 rh1 st1 rv w => ?_
            obtain ⟨o', e1, r1⟩ := k v h1 H1 re1 rh1 st1 w
            rw [nt g1] at e1
            cases v <;> first | (cases e1; done) | skip
            cases e1
            exact ⟨_, rv, r1⟩
        obtain ⟨tl, pl, kl⟩ := part lo l h2 (fun y hy => sE G tk lo hy)
        obtain ⟨tu, pu, ku⟩ := part hi u h3 (fun y hy => sE G tk hi hy)
        refine (pe_slice sl_E (sE G tk a h1) pl pu).imp fun σ H Q ⟨ρ, h, re, rh, w⟩ => ?_
        refine stepE (CN_mono F n) re rh w (fun _ _ e => e) fun v h1 V H1 re1 rh1 st1 rv w => ?_
        refine kl re1 rh1 w (fun _ _ e => e.later st1) fun l2 h2 H2 re2 rh2 st2 w => ?_
        obtain ⟨l1, el, w⟩ := optW_ex w
        refine ⟨l1, el, ku re2 rh2 w (fun _ _ e => e.later (st1.trans st2)) fun u2 h3 H3 re3 rh3 st3 w => ?_⟩
        obtain ⟨u1, eu, w⟩ := optW_ex w
        exact ⟨u1, eu, sound_slc G.kk rh3 (RV.keep (st2.trans st3) rv) (prW_mono (fun _ _ k => k.later (st1.trans (st2.trans st3))) w)⟩
      · cases h
    · cases h
  | .call f es, pe, h => by
    unfold mE at h
    split at h
    · rename_i g as q e
      obtain rfl := asCall_is e
      split at h
      · rename_i x e1
        obtain ⟨h, h5⟩ := b1 h
        obtain ⟨h, h4⟩ := b1 h
        obtain ⟨h, h3⟩ := b1 h
        obtain ⟨h1, h2⟩ := b1 h
        obtain ⟨p, rfl, gl, m1, m2⟩ := glo_name e1 h2 (nt h3)
        obtain ⟨a, fd, ps, g1, g2, g3, g4⟩ := G.fn f x (of_decide_eq_true h1)
        obtain ⟨a0, r0, rfl⟩ := nil_false h4
        have pl := mEs_plain h5
        refine (pe_callS (E := WE W) g4 G.room gl g1 g2 g3 (passAt tk) (sA G tk es h5) m1 (star_cons (pl _ List.mem_cons_self)) (star_any fun y hy => pl y (List.mem_cons_of_mem _ hy))).imp fun σ H Q ⟨ρ, h, re, rh, w⟩ => ?_
        refine stepA (CN_mono F n) re rh w (fun _ _ e => e) fun v h1 V H1 re1 rh1 st1 rv w => ⟨v, h1, rv, rh1, ?_⟩
        exact CN_mono F n _ _ _ _ _ _ _ (fun _ _ k => k.later st1) (fun _ _ k => k.later st1) w
      · cases h
    · cases h
  | .callC i es, pe, h => by
    unfold mE at h
    split at h
    · rename_i g as q e
      obtain rfl := asCall_is e
      split at h
      · rename_i x e1
        obtain ⟨h, h5⟩ := b1 h
        obtain ⟨h, h6⟩ := b1 h
        obtain ⟨h, h4⟩ := b1 h
        obtain ⟨h, h3⟩ := b1 h
        obtain ⟨h1, h2⟩ := b1 h
        obtain ⟨p, rfl⟩ := asName_is e1
        obtain ⟨m1, m2, m3⟩ := magic_is (nt h3)
        obtain ⟨a0, r0, rfl⟩ := nil_false h4
        have pl := mEs_plain h5
        exact pe_callC G (G.nio h6) (of_decide_eq_true h1) (vis_is h2) (sA G tk es h5) m1 m2 (star_cons (pl _ List.mem_cons_self)) (star_any fun y hy => pl y (List.mem_cons_of_mem _ hy))
      · cases h
    · cases h
  | .callF fs i es, pe, h => by
    unfold mE at h
    split at h
    · rename_i g as q e
      obtain rfl := asCall_is e
      split at h
      · rename_i v s e1
        obtain ⟨p2, rfl⟩ := asSub_is e1
        split at h
        · rename_i ns e2
          obtain ⟨p1, rfl⟩ := asLst_is e2
          obtain ⟨h, h5⟩ := b1 h
          obtain ⟨h, h4⟩ := b1 h
          obtain ⟨h, h3⟩ := b1 h
          obtain ⟨h, h2⟩ := b1 h
          obtain ⟨h1, h0⟩ := b1 h
          obtain ⟨a0, r0, rfl⟩ := nil_false h4
          have pl := mEs_plain h5
          exact pe_callF G tk h1 (of_decide_eq_true h0) (sE G tk i h3) (plain_ix (nt h2)) (sA G tk es h5) (star_cons (pl _ List.mem_cons_self)) (star_any fun y hy => pl y (List.mem_cons_of_mem _ hy))
        · cases h
      · cases h
    · cases h
  | .mxd mx a, pe, h => by
    unfold mE at h
    split at h
    · rename_i g x q e
      obtain ⟨d, k, p1, p2, rfl, rfl⟩ := asMxd_is e
      obtain ⟨h, h4⟩ := b1 h
      obtain ⟨h, h3⟩ := b1 h
      obtain ⟨h1, h2⟩ := b1 h
      have pa := sE G tk a h4
      have hu : X.A.units + 70 < cLine := rm70 G.room
      have key : ∀ (nm : Str) (id : String), (nm = Str.ofString "max" ∧ id = "max" ∧ mx = true) ∨ (nm = Str.ofString "min" ∧ id = "min" ∧ mx = false) → asName g = some nm → gloB X.env.scope nm = true → PE X (.Call g [x] [⟨some (Str.ofString "default"), .Constant .none k p1, p2⟩] q) (TEx T W (wpE (CN F n) (.mxd mx a))) := by
        intro nm id hk hn hg
        obtain ⟨p, rfl⟩ := asName_is hn
        have go : ∀ σ H Q, TEx T W (wpE (CN F n) (.mxd mx a)) σ H Q → tCKw (rMxd X.K mx) (tCons (TEx T W (wpE (CN F n) a)) tNil) (tCons (tC .non) tNil) σ H Q := fun σ H Q ⟨ρ, h, re, rh, w⟩ => by
          refine stepE (CN_mono F n) re rh w (fun _ _ e => e) fun v h1 V H1 re1 rh1 st1 rv w => ?_
          obtain ⟨ls', el⟩ : ∃ xs, ls h1 v = some xs := by
            cases el : ls h1 v with
            | none => unfold mxdR at w; rw [el] at w; exact w.elim
            | some xs => exact ⟨xs, rfl⟩
          obtain ⟨ns, rfl, w⟩ := mxdR_some el w
          obtain ⟨b, vs, rfl, q1, q2⟩ := ls_read (K := X.K) G.kk rh1 rv el
          rw [RVs.ints q2] at q1
          refine ⟨b, ns, rfl, rfl, q1, w _ _ rh1 st1 ?_⟩
          split
          · rfl
          · rfl
        rcases hk with ⟨rfl, rfl, rfl⟩ | ⟨rfl, rfl, rfl⟩
        · exact (pe_callBK (cr_mxd G.calm hu) (glo_is hg) (G.blt _ (by decide)) (by decide +kernel) (pa_cons pa pa_nil (star_cons (nt h3))) (pk_cons pe_non pk_nil) (by decide) (by decide) (by rw [star_cons (nt h3)]; rfl) (by rw [star_cons (nt h3)]; rfl) (by rfl) (by rfl) (by rfl)).imp go
        · exact (pe_callBK (cr_mnd G.calm hu) (glo_is hg) (G.blt _ (by decide)) (by decide +kernel) (pa_cons pa pa_nil (star_cons (nt h3))) (pk_cons pe_non pk_nil) (by decide) (by decide) (by rw [star_cons (nt h3)]; rfl) (by rw [star_cons (nt h3)]; rfl) (by rfl) (by rfl) (by rfl)).imp go
      cases mx with
      | true => exact key _ _ (.inl ⟨rfl, rfl, rfl⟩) (of_decide_eq_true h1) h2
      | false => exact key _ _ (.inr ⟨rfl, rfl, rfl⟩) (of_decide_eq_true h1) h2
    · cases h
  | .blt b fz es, pe, h => by
    unfold mE at h
    split at h
    · rename_i g as q e
      obtain rfl := asCall_is e
      split at h
      · rename_i x e1
        obtain ⟨h, h4⟩ := b1 h
        obtain ⟨h, h3⟩ := b1 h
        obtain ⟨h1, h2⟩ := b1 h
        obtain ⟨p, rfl, gl, m1, m2⟩ := glo_name e1 h2 (nt h3)
        obtain rfl := of_decide_eq_true h1
        have mg := G.blt _ (blt_mem b)
        split at h4
        · rename_i t _ _
          split at h4
          · rename_i e0 a0 n0
            obtain ⟨h4, h9⟩ := b1 h4
            obtain ⟨h4, h8⟩ := b1 h4
            obtain ⟨h4, h7⟩ := b1 h4
            obtain ⟨h5, h6⟩ := b1 h4
            obtain ⟨p2, rfl, gl2, m3, m4⟩ := glo_name (of_decide_eq_true h7) h8 (nt h9)
            refine (pe_callB (call_isi) gl mg (boot_blt (.isi [t])) (pa_cons (sE G tk e0 h5) (pa_cons (pe_bltn (v := .ty (tyN t)) gl2 (G.blt _ (ty_mem t)) (boot_ty t) rfl m4 m3) pa_nil) (star_cons (nt h6))) m2 m1 (star_cons (nt h6)) rfl).imp fun σ H Q ⟨ρ, h, re, rh, w⟩ => ?_
            refine stepE (CN_mono F n) re rh w (fun _ _ e => e) fun v h1 V H1 re1 rh1 st1 rv w => ?_
            exact sound_isi G.kk (fz := fz) rh1 rv (prW_mono (fun _ _ (k : KQ h H Q _ _) => k.later st1) w)
          · cases h4
        · cases h4
        · rename_i hb1 hb2
          obtain ⟨h5, h6⟩ := b1 h4
          obtain ⟨a0, r0, rfl⟩ := nil_false h5
          have pl := mEs_plain h6
          have hb : ∀ ts, b ≠ .isi ts := fun ts z => hb2 ts z
          have cr := sound_blt G.kk G.calm (rm70 G.room) (fz := fz) hb
          have fin : ∀ σ H Q, TEx T W (wpE (CN F n) (.blt b fz es)) σ H Q → tCB (RLx (bltR b fz)) (TAx T W (wpA (CN F n) es)) σ H Q := fun σ H Q ⟨ρ, h, re, rh, w⟩ =>
            stepA (CN_mono F n) re rh w (fun _ _ e => e) fun v h1 V H1 re1 rh1 st1 rv w => ⟨h1, v, rh1, rv, prW_mono (fun _ _ k => k.later st1) w⟩
          have bo := boot_blt b
          cases b <;> first
            | exact (pe_callB cr gl mg bo (sA G tk es h6) m2 m1 (star_cons (pl _ List.mem_cons_self)) (star_any fun y hy => pl y (List.mem_cons_of_mem _ hy))).imp fin
            | exact (pe_callTy cr gl mg bo (sA G tk es h6) m2 m1 (star_cons (pl _ List.mem_cons_self)) (star_any fun y hy => pl y (List.mem_cons_of_mem _ hy))).imp fin
            | exact absurd rfl (hb _)
      · cases h
    · cases h
  | .mth m o es, pe, h => by
    unfold mE at h
    split at h
    · rename_i g as cp e
      obtain rfl := asCall_is e
      split at h
      · rename_i v nn ap e1
        obtain rfl := asAttr_is e1
        obtain ⟨h, h6⟩ := b1 h
        obtain ⟨h, h5⟩ := b1 h
        obtain ⟨h, h4⟩ := b1 h
        obtain ⟨h, h3⟩ := b1 h
        obtain ⟨h1, h2⟩ := b1 h
        obtain rfl := of_decide_eq_true h1
        obtain ⟨b1', b2', b3'⟩ := bm_plain m
        have pl := mEs_plain h6
        have recv : ∀ {h0 : Unit} {h1 : Hq} {x : Val} {X1 : V} {H1 : Hp}, RH h1 H1 → RV h1 H1 x X1 → mOk m x h1 = some h0 → tyV X.K m.ty X1 H1 := fun {h0 h1 x X1 H1} rh1 rv e => recv_ok G.kk rh1 rv e
        cases as with
        | nil =>
          have en : es = .nil := by
            cases es with
            | nil => rfl
            | cons _ _ => simp [mEs] at h6
          subst en
          refine (pe_bm0 b1' b2' b3' (sound_mth G.kk (Nat.lt_trans (by omega) G.room.units) sizes) (sE G tk o h5) (base_plain (nt h3)) h2).imp fun σ H Q ⟨ρ, h, re, rh, w⟩ => ?_
          refine stepE (CN_mono F n) re rh w (fun _ _ e => e) fun x h1 X1 H1 re1 rh1 st1 rv w => ?_
          obtain ⟨u, e2, w⟩ := optW_ex w
          exact ⟨recv rh1 rv e2, h1, x, [], rh1, rv, RVs.nil, prW_mono (fun _ _ k => k.later st1) w⟩
        | cons a0 r0 =>
          refine (pe_bm b1' b2' b3' (sound_mth G.kk (Nat.lt_trans (by omega) G.room.units) sizes) (sE G tk o h5) (sA G tk es h6) (base_plain (nt h3)) ?_ h2 (star_cons (pl _ List.mem_cons_self)) (star_any fun y hy => pl y (List.mem_cons_of_mem _ hy))).imp fun σ H Q ⟨ρ, h, re, rh, w⟩ => ?_
          · rw [star_all pl]
            have h4' := of_decide_eq_true h4
            simp only [Bool.true_and, Bool.and_eq_true, decide_eq_true_eq]
            refine ⟨rfl, ?_⟩
            show (a0 :: r0).length + 0 + 0 < 30
            omega
          · refine stepE (CN_mono F n) re rh w (fun _ _ e => e) fun x h1 X1 H1 re1 rh1 st1 rv w => ?_
            obtain ⟨u, e2, w⟩ := optW_ex w
            refine ⟨recv rh1 rv e2, stepA (CN_mono F n) re1 rh1 w (fun _ _ k => k.later st1) fun vs h2 Vs H2 re2 rh2 st2 rvs w => ?_⟩
            exact ⟨h2, x, vs, rh2, RV.keep st2 rv, rvs, prW_mono (fun _ _ k => k.later (st1.trans st2)) w⟩
      · cases h
    · cases h
  | .comp fz elt tg it cond own, pe, h => by
    unfold mE at h
    split at h
    · rename_i e0 t0 i0 cs s0 e
      obtain ⟨p, rfl⟩ := asLC_is e
      obtain ⟨h, h8⟩ := b1 h
      obtain ⟨h, h7⟩ := b1 h
      obtain ⟨h, h6⟩ := b1 h
      obtain ⟨h, h5⟩ := b1 h
      obtain ⟨h, h4⟩ := b1 h
      obtain ⟨h, h3⟩ := b1 h
      obtain ⟨h1, h2⟩ := b1 h
      have ok := blkOk_by h3
      have ow : (ownOf X.N own).map (·.2) = own := of_decide_eq_true h4
      have kc := CN_mono F n
      have pts : ∀ (s : Shared) (H : Hp) (C : Addr) (cl : List (Str × Addr)) (fp : List Addr), PTs (X.blk s H s0 (compEnvC s0 cl C X.env) fp) cs (TTx T (fun _ _ _ _ => False) (wpT (CN F n) cond)) := fun s H C cl fp => by
        split at h6
        · cases cond <;> first | (cases h6; done) | skip
          have q : PTs (X.blk s H s0 (compEnvC s0 cl C X.env) fp) [] tYes := pts_nil
          exact ⟨fun pins s σ H Q I ⟨ρ, h, re, rh, w⟩ => q.run pins s σ H Q I (w _ rh .refl)⟩
        · obtain ⟨_, h6⟩ := b1 h6
          exact pts_one (sT (G.blk ok.kind) takes0 cond h6)
        · cases h6
      refine (pe_lc G.calm G.nd (sI G tk it h1) ok (fun s H C cl fp => sG G.calm G.nd (fun x hx => hx) h5) pts (fun s H C cl fp => sE (G.blk ok.kind) takes0 elt h7) (fold_plain (nt h2))).imp fun σ H Q q => ?_
      rw [ow]
      exact sLC kc (tgOwn_is h8) q
    · cases h
  | .op1 o fz a, pe, h => by
    unfold mE at h
    split at h
    · rename_i x e
      exact sO1 G e (sE G tk a h)
    · cases h
  | .op2 o fz a b, pe, h => by
    unfold mE at h
    split at h
    · rename_i x y e
      obtain ⟨h1, h2⟩ := b1 h
      exact sO2 G e (sE G tk a h1) (sE G tk b h2)
    · cases h
  | .frz a, pe, h => by
    refine (sE G tk a (by simpa [mE] using h)).imp fun σ H Q ⟨ρ, h, re, rh, w⟩ => ?_
    exact stepE (CN_mono F n) re rh w (fun _ _ e => e) fun v h1 V H1 re1 rh1 st1 rv w => frz_out st1 rh1 rv w
  | .isx a ks cs tp, pe, h => by
    unfold mE at h
    split at h
    · rename_i g x y q e
      obtain rfl := asCall_is e
      obtain ⟨h, h7⟩ := b1 h
      obtain ⟨h, h6⟩ := b1 h
      obtain ⟨h, h5⟩ := b1 h
      obtain ⟨h, h4⟩ := b1 h
      obtain ⟨h, h3⟩ := b1 h
      obtain ⟨h1, h2⟩ := b1 h
      obtain ⟨p, rfl, gl, m1, m2⟩ := glo_name (of_decide_eq_true h1) h2 (by decide +kernel)
      have mg := G.blt (Str.ofString "isinstance") (by simp [bltNames])
      have bo : bootBuiltins (Str.ofString "isinstance") = some (.builtin "isinstance") := boot_isi
      cases tp with
      | true =>
        dsimp only at h7
        split at h7
        · rename_i es e2
          obtain ⟨k, p2, rfl⟩ := asTup_is e2
          obtain ⟨h8, h9⟩ := b1 h7
          obtain ⟨hm, hst⟩ := mCs_is h8
          refine (pe_callB call_isCT gl mg bo (pa_cons (sE G tk a h3) (pa_cons (pe_tup (paCs G h8)) pa_nil (star_cons (nt h5))) (star_cons (nt h4))) m2 m1 (star_cons (nt h4)) (star_any fun z hz => by rw [List.mem_singleton.mp hz]; exact nt h5)).imp fun σ H Q ⟨ρ, h, re, rh, w⟩ => ?_
          refine stepE (CN_mono F n) re rh w (fun _ _ e => e) fun v h1 V H1 re1 rh1 st1 rv w => ?_
          obtain ⟨c, ec, hc, w2⟩ := optW_ex w
          have hv : v = .exc c := by cases v <;> first | (cases ec; done) | (cases ec; rfl)
          subst hv
          obtain ⟨a', rfl, n', e'⟩ := rv
          have hc' : c ∈ T.exs := by rw [← of_decide_eq_true h6]; exact hc
          have E := G.exo (List.ne_nil_of_mem hc')
          refine ⟨?_, fun p np => ?_⟩
          · have := of_decide_eq_true h9
            rw [List.length_map, sizeLine_eq]; omega
          · have np' : p ≠ a' := fun z => by rw [z, e'] at np; cases np
            exact ⟨a', Mo.xc c, p, _, _, _, rfl, upd_same, pairedX cs, E.C c hc', by rw [upd_ne (Ne.symm np')]; exact e', kitX_any E hc' hm, w2 _ _ (rh1.alloc np) (st1.trans (Stab.alloc np)) rfl⟩
        · cases h7
      | false =>
        dsimp only at h7
        split at h7
        · rename_i d
          obtain ⟨hd, _⟩ := mC_is h7
          refine (pe_callB call_isC gl mg bo (pa_cons (sE G tk a h3) (pa_cons (peC G h7) pa_nil (star_cons (nt h5))) (star_cons (nt h4))) m2 m1 (star_cons (nt h4)) (star_any fun z hz => by rw [List.mem_singleton.mp hz]; exact nt h5)).imp fun σ H Q ⟨ρ, h, re, rh, w⟩ => ?_
          refine stepE (CN_mono F n) re rh w (fun _ _ e => e) fun v h1 V H1 re1 rh1 st1 rv w => ?_
          obtain ⟨c, ec, hc, w2⟩ := optW_ex w
          have hv : v = .exc c := by cases v <;> first | (cases ec; done) | (cases ec; rfl)
          subst hv
          obtain ⟨a', rfl, n', e'⟩ := rv
          have hc' : c ∈ T.exs := by rw [← of_decide_eq_true h6]; exact hc
          have E := G.exo (List.ne_nil_of_mem hc')
          have w' : KQ h H Q (.bl (subX c d)) h1 := by simpa using w2
          exact ⟨a', Mo.xc c, _, _, _, rfl, clsX d, E.C c hc', e', kitX_one E hc' hd, w' _ _ rh1 st1 rfl⟩
        · cases h7
    · cases h
  | .kin neg x tb a, pe, h => by
    unfold mE at h
    split at h
    · rename_i l op r e
      obtain ⟨p, rfl⟩ := asCmp_is e
      obtain ⟨h, h7⟩ := b1 h
      obtain ⟨h, h6⟩ := b1 h
      obtain ⟨h, h5⟩ := b1 h
      obtain ⟨h, h4⟩ := b1 h
      obtain ⟨h, h3⟩ := b1 h
      obtain ⟨h1, h2⟩ := b1 h
      obtain rfl := of_decide_eq_true h1
      split at h6
      · rename_i v ev
        obtain ⟨p2, rfl, g, m1, m2⟩ := glo_name (of_decide_eq_true h3) h4 (nt h5)
        obtain ⟨d, md, tat⟩ := G.tab x tb (by rw [ev, eqTab_is h6])
        obtain ⟨es, n', D⟩ := tat.kd
        have pr : PE X (.Name x p2) (tC (.ref d)) := pe_glob g md rfl m1
        cases neg with
        | true =>
          refine (pe_cmpR (op_notIn_kd D) (sE G tk a h7) pr (nt h2)).imp fun σ H Q ⟨ρ, h, re, rh, w⟩ => ?_
          refine stepE (CN_mono F n) re rh w (fun _ _ e => e) fun v h1 V H1 re1 rh1 st1 rv w => ?_
          obtain ⟨z, ez, w⟩ := optW_ex w
          have hv : v = .str z := by cases v <;> first | (cases ez; done) | (cases ez; rfl)
          subst hv
          obtain ⟨r, e1, e2⟩ := tat.at_ z
          exact ⟨z, r, rv, rfl, e1, by rw [e2]; exact w _ _ rh1 st1 rfl⟩
        | false =>
          refine (pe_cmpR (op_in_kd D) (sE G tk a h7) pr (nt h2)).imp fun σ H Q ⟨ρ, h, re, rh, w⟩ => ?_
          refine stepE (CN_mono F n) re rh w (fun _ _ e => e) fun v h1 V H1 re1 rh1 st1 rv w => ?_
          obtain ⟨z, ez, w⟩ := optW_ex w
          have hv : v = .str z := by cases v <;> first | (cases ez; done) | (cases ez; rfl)
          subst hv
          obtain ⟨r, e1, e2⟩ := tat.at_ z
          exact ⟨z, r, rv, rfl, e1, by rw [e2]; exact w _ _ rh1 st1 rfl⟩
      · cases h6
    · cases h
  | .kix x tb a, pe, h => by
    unfold mE at h
    split at h
    · rename_i v s e
      obtain ⟨p, rfl⟩ := asSub_is e
      obtain ⟨h, h6⟩ := b1 h
      obtain ⟨h, h5⟩ := b1 h
      obtain ⟨h, h4⟩ := b1 h
      obtain ⟨h, h3⟩ := b1 h
      obtain ⟨h1, h2⟩ := b1 h
      split at h5
      · rename_i v ev
        obtain ⟨p2, rfl, g, m1, m2⟩ := glo_name (of_decide_eq_true h2) h3 (nt h4)
        obtain ⟨d, md, tat⟩ := G.tab x tb (by rw [ev, eqTab_is h5])
        obtain ⟨es, n', D⟩ := tat.kd
        have pr : PE X (.Name x p2) (tC (.ref d)) := pe_glob g md rfl m1
        refine (pe_ix ix_kdict pr (sE G tk a h6) (plain_ix (nt h1))).imp fun σ H Q ⟨ρ, h, re, rh, w⟩ => ?_
        refine stepE (CN_mono F n) re rh w (fun _ _ e => e) fun v h1 V H1 re1 rh1 st1 rv w => ?_
        obtain ⟨z, ez, w2⟩ := optW_ex w
        have hv : v = .str z := by cases v <;> first | (cases ez; done) | (cases ez; rfl)
        subst hv
        obtain ⟨i, ei, w3⟩ := optW_ex w2
        obtain ⟨u, e1, ru⟩ := tat.get z i ei
        exact ⟨d, z, .int i, rfl, rv, ⟨es, n', u, D.at_, D.lit, e1, ru⟩, w3 _ _ rh1 st1 rfl⟩
      · cases h5
    · cases h
  | .lck a, pe, h => by
    refine (pe_lk (sE G tk a (by simpa [mE] using h))).imp fun σ H Q ⟨ρ, h, re, rh, w⟩ => ?_
    refine stepE (CN_mono F n) re rh w (fun _ _ e => e) fun v h1 V H1 re1 rh1 st1 rv w => ?_
    obtain ⟨q, e1, w⟩ := optW_ex w
    cases v with
    | ref a' =>
      cases (show V = .ref a' from rv)
      obtain ⟨c, ec, e2⟩ := Option.map_eq_some_iff.mp (show ((h1 a').bind noIns).map (fun c => (a', c)) = some q from e1)
      cases e2
      obtain ⟨ec, ni⟩ := noIns_is ec
      cases c with
      | lst xs =>
        obtain ⟨vs, q1, q2⟩ := rh1 a' _ ec
        exact .inl (w _ _ rh1.er (st1.trans Stab.er) ⟨a', vs, rfl, er_same, q1, RVs.keep Stab.er q2⟩)
      | dic kvs =>
        obtain ⟨us, q1, q2⟩ := rh1 a' _ ec
        refine .inr ⟨a', .dK us, rfl, q1, True.intro, fun od => ?_⟩
        have st : Stab h1 H1 (er h1 a') (upd H1 a' (.frz od (.dK us))) := fun b u e m => by
          have hb : b ≠ a' := ne_of_live' ec m
          exact ⟨by rw [upd_ne hb]; exact e, by rw [er_ne hb]; exact m⟩
        have rh' : RH (er h1 a') (upd H1 a' (.frz od (.dK us))) := fun b c' e => by
          by_cases hb : b = a'
          · subst hb; rw [er_same] at e; cases e
          · rw [er_ne hb] at e
            exact (rh1 b c' e).keep st (upd_ne hb)
        exact w _ _ rh' (st1.trans st) ⟨a', us, rfl, er_same, ⟨od, upd_same⟩, q2.1, RVs.keep st q2.2⟩
      | ins c fs => cases ni
      | tab q => cases ni
    | _ => cases e1
  | .fld c a f, pe, h => by
    unfold mE at h
    split at h
    · rename_i v nn ap e
      obtain rfl := asAttr_is e
      obtain ⟨h, h4⟩ := b1 h
      obtain ⟨h, h3⟩ := b1 h
      obtain ⟨h1, h2⟩ := b1 h
      obtain rfl := of_decide_eq_true h1
      obtain ⟨cl, na⟩ := G.att _ _ (of_decide_eq_true h2)
      refine (pe_fld (sE G tk a h4) (base_plain (nt h3))).imp fun σ H Q ⟨ρ, h, re, rh, w⟩ => ?_
      refine stepE (CN_mono F n) re rh w (fun _ _ e => e) fun v h1 V H1 re1 rh1 st1 rv w => ?_
      obtain ⟨q, e1, ec, w⟩ := optW_ex w
      obtain ⟨u, e2, w⟩ := optW_ex w
      obtain ⟨q1, q2, dx, ys, q3, q4⟩ := insAt_read rh1 rv e1
      subst q1
      obtain ⟨x, e3, rx⟩ := (RFs.look q4).1 u e2
      rw [ec] at q3
      exact ⟨q.1, _, dx, ys, x, rfl, q3, cl, na, e3, w _ _ rh1 st1 rx⟩
    · cases h
  | .meth f c m o es, pe, h => by
    unfold mE at h
    split at h
    · rename_i g as cp e
      obtain rfl := asCall_is e
      split at h
      · rename_i v nn ap e1
        obtain rfl := asAttr_is e1
        obtain ⟨h, h7⟩ := b1 h
        obtain ⟨h, h6⟩ := b1 h
        obtain ⟨h, h5⟩ := b1 h
        obtain ⟨h, h4⟩ := b1 h
        obtain ⟨h, h3⟩ := b1 h
        obtain ⟨h1, h2⟩ := b1 h
        obtain rfl := of_decide_eq_true h1
        obtain ⟨ad, fd, ps, cl, me, bd, fok⟩ := G.me _ _ _ (of_decide_eq_true h2)
        have pl := mEs_plain h7
        have eq := meth_eq (m := nn) (apos := ap) (env := X.env) (base_plain (nt h4)) (form_ok pl (of_decide_eq_true h5)) h3
        cases as with
        | nil =>
          have en : es = .nil := by cases es <;> first | rfl | (simp [mEs] at h7)
          subst en
          refine (pe_methS0 (E := WE W) (sE G tk o h6) cl me fok G.room bd (passAt tk) eq).imp fun σ H Q ⟨ρ, h, re, rh, w⟩ => ?_
          refine stepE (CN_mono F n) re rh w (fun _ _ e => e) fun v h1 V H1 re1 rh1 st1 rv w => ?_
          obtain ⟨q, e1, ⟨ec, el⟩, w⟩ := optW_ex w
          obtain ⟨q1, q2, dx, ys, q3, q4⟩ := insAt_read rh1 rv e1
          subst q1
          rw [ec] at q3
          exact ⟨q.1, dx, ys, rfl, q3, (RFs.look q4).2 el, [v], h1, .cons rv .nil, rh1, CN_mono F n _ _ _ _ _ _ _ (fun _ _ k => k.later st1) (fun _ _ k => k.later st1) w⟩
        | cons a0 r0 =>
          refine (pe_methS (E := WE W) (sE G tk o h6) cl me fok G.room bd (passAt tk) (sA G tk es h7) pl eq).imp fun σ H Q ⟨ρ, h, re, rh, w⟩ => ?_
          refine stepE (CN_mono F n) re rh w (fun _ _ e => e) fun v h1 V H1 re1 rh1 st1 rv w => ?_
          obtain ⟨q, e1, ⟨ec, el⟩, w⟩ := optW_ex w
          obtain ⟨q1, q2, dx, ys, q3, q4⟩ := insAt_read rh1 rv e1
          subst q1
          rw [ec] at q3
          refine ⟨q.1, dx, ys, rfl, q3, (RFs.look q4).2 el, ?_⟩
          refine stepA (CN_mono F n) re1 rh1 w (fun _ _ e => e.later st1) fun vs h2 Vs H2 re2 rh2 st2 rvs w => ?_
          exact ⟨v :: vs, h2, .cons (RV.keep st2 rv) rvs, rh2, CN_mono F n _ _ _ _ _ _ _ (fun _ _ k => k.later (st1.trans st2)) (fun _ _ k => k.later (st1.trans st2)) w⟩
      · cases h
    · cases h
  | .make f c es, pe, h => by
    unfold mE at h
    split at h
    · rename_i g as q e
      obtain rfl := asCall_is e
      obtain ⟨h, h6⟩ := b1 h
      obtain ⟨h, h5⟩ := b1 h
      obtain ⟨h, h4⟩ := b1 h
      obtain ⟨h, h3⟩ := b1 h
      obtain ⟨h1, h2⟩ := b1 h
      obtain ⟨p, rfl, gl, m1, m2⟩ := glo_name (of_decide_eq_true h1) h2 (nt h3)
      obtain ⟨io, ad, fd, ps, g1, mk, bd, fok⟩ := G.mak _ _ (of_decide_eq_true h4)
      obtain ⟨a0, r0, rfl⟩ := nil_false h5
      have pl := mEs_plain h6
      refine (pe_makeS (E := WE W) mk fok G.more gl g1 bd (passAt tk) (sA G tk es h6) m1 (star_cons (pl _ List.mem_cons_self)) (star_any fun y hy => pl y (List.mem_cons_of_mem _ hy))).imp fun σ H Q ⟨ρ, h, re, rh, w⟩ => ?_
      refine stepA (CN_mono F n) re rh w (fun _ _ e => e) fun v h1 V H1 re1 rh1 st1 rv w x dx nx nd ne => ?_
      have w := w x (rh1.free nx)
      have sta : Stab h1 H1 h1 (upd H1 dx (.own x)) := Stab.alloc nd
      have rha := rh1.alloc (o := .own x) nd
      have nx' : upd H1 dx (.own x) x = none := by rw [upd_ne (Ne.symm ne)]; exact nx
      have stb : Stab h1 (upd H1 dx (.own x)) (up h1 x (.ins c [])) (upd (upd H1 dx (.own x)) x (.ins (Mo.cc c) dx [])) := Stab.cell nx'
      have st2 := sta.trans stb
      refine ⟨.ref x :: v, _, .cons rfl (RVs.keep st2 rv), rha.put stb ⟨io, dx, [], upd_same, rfl, .nil⟩, CN_mono F n _ _ _ _ _ _ _ (fun u h3 k V3 H3 rh3 st3 rv3 => ?_) (fun _ _ k => k.later (st1.trans st2)) w⟩
      obtain ⟨rfl, k⟩ := k
      exact ⟨rv3, k _ _ rh3 ((st1.trans st2).trans st3) rfl⟩
    · cases h
  | .frzD a, pe, h => by
    refine (sE G tk a (by simpa [mE] using h)).imp fun σ H Q ⟨ρ, h, re, rh, w⟩ => ?_
    exact stepE (CN_mono F n) re rh w (fun _ _ e => e) fun v h1 V H1 re1 rh1 st1 rv w => frzD_out st1 rh1 rv w
  | .nop, pe, h => by simp [mE] at h
termination_by e => (sizeOf e, 0)
theorem sA {X : Cx} {W : WX} (G : Good T F n X) (tk : Takes X W) : ∀ (es : Exs) {pes : List Expr}, mEs T X.N X.env.scope es pes = true → PA X pes (TAx T W (wpA (CN F n) es))
  | .nil, [], _ => pa_nil.imp fun σ H Q ⟨ρ, h, re, rh, w⟩ => w _ _ rh .refl RVs.nil
  | .cons e es, p :: ps, h => by
    simp only [mEs] at h
    obtain ⟨h, h3⟩ := b1 h
    obtain ⟨h1, h2⟩ := b1 h
    refine (pa_cons (sE G tk e h2) (sA G tk es h3) (star_cons (nt h1))).imp fun σ H Q ⟨ρ, h, re, rh, w⟩ => ?_
    refine stepE (CN_mono F n) re rh w (fun _ _ e => e) fun x h1 X1 H1 re1 rh1 st1 rv w => ?_
    refine stepA (CN_mono F n) re1 rh1 w (fun _ _ k => k.later st1) fun vs h2 Vs H2 re2 rh2 st2 rvs w => ?_
    exact w _ _ rh2 (st1.trans st2) (.cons (RV.keep st2 rv) rvs)
  | .nil, _ :: _, h => by simp [mEs] at h
  | .cons _ _, [], h => by simp [mEs] at h
termination_by es => (sizeOf es, 0)
theorem sB {X : Cx} {W : WX} (G : Good T F n X) (tk : Takes X W) (i : Bool) {pos : Pos} : ∀ (es : Exs) {pes : List Expr}, mEs T X.N X.env.scope es pes = true → PE X (.BoolOp (if i then .And else .Or) pes pos) (TEx T W (wpB (CN F n) i es))
  | .nil, _, _ => ⟨fun pins s σ H Q I ⟨ρ, h, re, rh, w⟩ => w.elim⟩
  | .cons e .nil, [p], h => by
    simp only [mEs] at h
    obtain ⟨h, h3⟩ := b1 h
    obtain ⟨h1, h2⟩ := b1 h
    exact pe_one (sE G tk e h2)
  | .cons e (.cons e2 es), p :: p2 :: ps, h => by
    rw [mEs] at h
    obtain ⟨h, h3⟩ := b1 h
    obtain ⟨h1, h2⟩ := b1 h
    have ih := sB G tk i (pos := pos) (.cons e2 es) h3
    have go : ∀ σ H (Q : VK), TEx T W (wpB (CN F n) i (.cons e (.cons e2 es))) σ H Q → (TEx T W (wpE (CN F n) e)) σ H fun x H1 => ∃ c, x = .bl c ∧ if c = i then TEx T W (wpB (CN F n) i (.cons e2 es)) σ H1 Q else Q (.bl c) H1 := fun σ H Q ⟨ρ, h, re, rh, w⟩ => by
      refine stepE (CN_mono F n) re rh w (fun _ _ e => e) fun x h1 X1 H1 re1 rh1 st1 rv w => ?_
      obtain ⟨c, e1, w⟩ := optW_ex w
      refine ⟨c, blOf_is e1 rv, ?_⟩
      split
      · rename_i q
        rw [if_pos q] at w
        exact ⟨ρ, h1, re1, rh1, wpB_mono (CN_mono F n) i _ _ _ _ _ _ _ (fun _ _ k => k.later st1) (fun _ _ k => k.later st1) w⟩
      · rename_i q
        rw [if_neg q] at w
        exact w _ _ rh1 st1 rfl
    cases i with
    | true =>
      refine (pe_and (sE G tk e h2) ih).imp fun σ H Q q => ?_
      obtain ⟨ρ, h, re, rh, w⟩ := go σ H Q q
      refine ⟨ρ, h, re, rh, wpE_mono (CN_mono F n) e _ _ _ _ _ _ (fun v h' k V H' a b c => ?_) (fun _ _ k => k) w⟩
      obtain ⟨c1, e1, q1⟩ := k V H' a b c
      refine ⟨c1, e1, ?_⟩
      cases c1 with
      | true => exact q1
      | false => exact q1
    | false =>
      refine (pe_or (sE G tk e h2) ih).imp fun σ H Q q => ?_
      obtain ⟨ρ, h, re, rh, w⟩ := go σ H Q q
      refine ⟨ρ, h, re, rh, wpE_mono (CN_mono F n) e _ _ _ _ _ _ (fun v h' k V H' a b c => ?_) (fun _ _ k => k) w⟩
      obtain ⟨c1, e1, q1⟩ := k V H' a b c
      refine ⟨c1, e1, ?_⟩
      cases c1 with
      | true => exact q1
      | false => exact q1
  | .cons _ .nil, [], h => by simp [mEs] at h
  | .cons _ .nil, _ :: _ :: _, h => by simp [mEs] at h
  | .cons _ (.cons _ _), [], h => by simp [mEs] at h
  | .cons _ (.cons _ _), [_], h => by simp [mEs] at h
termination_by es => (sizeOf es, 0)
theorem sT {X : Cx} {W : WX} (G : Good T F n X) (tk : Takes X W) : ∀ (e : Ex) {pe : Expr}, mE T X.N X.env.scope e pe = true → PT X pe (TTx T W (wpT (CN F n) e))
  | .not a, pe, h => by
    unfold mE at h
    split at h
    · rename_i r e
      obtain ⟨p, rfl⟩ := asUn_is e
      refine (pt_not (sT G tk a h)).imp fun σ H Q ⟨ρ, h, re, rh, w⟩ => ?_
      exact stepT (CN_mono F n) re rh w (fun _ _ e => e) fun b h1 H1 re1 rh1 st1 w => w _ rh1 st1
    · cases h
  | .bop i es, pe, h => by
    unfold mE at h
    split at h
    · rename_i op vs e
      obtain ⟨p, rfl⟩ := asBop_is e
      obtain ⟨h1, h2⟩ := b1 h
      obtain rfl := of_decide_eq_true h1
      exact (sTs G tk i es h2).pt
    · cases h
  | .nop, pe, h => by simp [mE] at h
  | .bl i, pe, h => by
    obtain ⟨k, p, rfl⟩ := asBl_is (of_decide_eq_true (show decide (asBl pe = some i) = true from by simpa [mE] using h))
    exact (pt_val pe_bl).imp fun σ H Q ⟨ρ, h, re, rh, w⟩ => ⟨i, rfl, w _ rh .refl⟩
  | .var i, pe, h => by
    have pv := s_var (W := W) (C := CN F n) h
    unfold mE at h
    split at h
    · rename_i x e
      obtain ⟨p, rfl⟩ := asName_is e
      refine (pt_truth pv (fun _ => rfl)).imp fun σ H Q ⟨ρ, h, re, rh, w⟩ => ⟨ρ, h, re, rh, optW_mono (fun v w V H' rh' st rv => ?_) w⟩
      obtain ⟨k, e, w⟩ := optW_ex w
      exact ⟨k, sound_tru X.K G.kk rh' rv e, w _ rh' st⟩
    · cases h
  | .cmp o a b, pe, h => by
    unfold mE at h
    split at h
    · rename_i l op r e
      obtain ⟨p, rfl⟩ := asCmp_is e
      obtain ⟨h, h4⟩ := b1 h
      obtain ⟨h, h3⟩ := b1 h
      obtain ⟨h1, h2⟩ := b1 h
      obtain rfl := of_decide_eq_true h1
      refine (pt_cmpR (sound_cmp G.kk (rm65 G.room)) (sE G tk a h3) (sE G tk b h4) (nt h2)).imp fun σ H Q ⟨ρ, h, re, rh, w⟩ => ?_
      refine stepE (CN_mono F n) re rh w (fun _ _ e => e) fun v h1 V H1 re1 rh1 st1 rv w => ?_
      refine stepE (CN_mono F n) re1 rh1 w (fun _ _ e => e.later st1) fun u h2 U H2 re2 rh2 st2 ru w => ?_
      refine ⟨h2, v, u, rh2, RV.keep st2 rv, ru, prW_mono (fun z h3 w Z H3 rh3 st3 rz => ?_) w⟩
      obtain ⟨k, e1, w⟩ := optW_ex w
      exact ⟨k, blOf_is e1 rz, w _ rh3 (st1.trans (st2.trans st3))⟩
    · cases h
  | .chain o p a b c, pe, h => by
    unfold mE at h
    split at h
    · rename_i l op op' r r' e
      obtain ⟨pp, rfl⟩ := asCmp_is e
      obtain ⟨h, h6⟩ := b1 h
      obtain ⟨h, h5⟩ := b1 h
      obtain ⟨h, h4⟩ := b1 h
      obtain ⟨h, h3⟩ := b1 h
      obtain ⟨h1, h2⟩ := b1 h
      obtain rfl := of_decide_eq_true h1
      obtain rfl := of_decide_eq_true h2
      refine (pt_chain (sound_cmp G.kk (rm65 G.room)) (sound_cmp G.kk (rm65 G.room)) (sE G tk a h4) (sE G tk b h5) (sE G tk c h6) (nt h3)).imp fun σ H Q ⟨ρ, h, re, rh, w⟩ => ?_
      refine stepE (CN_mono F n) re rh w (fun _ _ e => e) fun v h1 V H1 re1 rh1 st1 rv w => ?_
      refine stepE (CN_mono F n) re1 rh1 w (fun _ _ e => e.later st1) fun u h2 U H2 re2 rh2 st2 ru w => ?_
      refine ⟨h2, v, u, rh2, RV.keep st2 rv, ru, prW_mono (fun z h3 w Z H3 rh3 st3 rz => ?_) w⟩
      obtain ⟨k, e1, w⟩ := optW_ex w
      refine ⟨k, blOf_is e1 rz, ?_⟩
      cases k with
      | true =>
        refine stepE (CN_mono F n) (re2.keep st3) rh3 w (fun _ _ e => e.later (st1.trans (st2.trans st3))) fun z4 h4 Z4 H4 re4 rh4 st4 r4 w => ?_
        refine ⟨h4, u, z4, rh4, RV.keep (st3.trans st4) ru, r4, prW_mono (fun z5 h5 w Z5 H5 rh5 st5 rz5 => ?_) w⟩
        obtain ⟨k, e1, w⟩ := optW_ex w
        exact ⟨k, blOf_is e1 rz5, w _ rh5 (st1.trans (st2.trans (st3.trans (st4.trans st5))))⟩
      | false => exact ⟨false, rfl, w _ rh3 (st1.trans (st2.trans st3))⟩
    · cases h
  | .call f es, pe, h => by
    have pc := sE G tk (.call f es) h
    unfold mE at h
    split at h
    · rename_i g as q e
      obtain rfl := asCall_is e
      refine (pt_truth pc (fun _ => rfl)).imp fun σ H Q ⟨ρ, h, re, rh, w⟩ => ⟨ρ, h, re, rh, ?_⟩
      refine wpA_mono (CN_mono F n) es _ _ _ _ _ _ (fun vs h1 w => CN_mono F n _ _ _ _ _ _ _ (fun v h2 w V H2 rh2 st2 rv => ?_) (fun _ _ k => k) w) (fun _ _ k => k) w
      exact tru_out (X := X) G.kk st2 rh2 rv w
    · cases h
  | .blt b fz es, pe, h => by
    have pc := sE G tk (.blt b fz es) h
    unfold mE at h
    split at h
    · rename_i g as q e
      obtain rfl := asCall_is e
      refine (pt_truth pc (fun _ => rfl)).imp fun σ H Q ⟨ρ, h, re, rh, w⟩ => ⟨ρ, h, re, rh, ?_⟩
      refine wpA_mono (CN_mono F n) es _ _ _ _ _ _ (fun vs h1 w => prW_mono (fun v h2 w V H2 rh2 st2 rv => ?_) w) (fun _ _ k => k) w
      exact tru_out (X := X) G.kk st2 rh2 rv w
    · cases h
  | .isx a ks cs tp, pe, h => by
    have pc := sE G tk (.isx a ks cs tp) h
    unfold mE at h
    split at h
    · rename_i g x y q e
      obtain rfl := asCall_is e
      refine (pt_truth pc (fun _ => rfl)).imp fun σ H Q ⟨ρ, h, re, rh, w⟩ => ⟨ρ, h, re, rh, ?_⟩
      refine wpE_mono (CN_mono F n) a _ _ _ _ _ _ (fun vs h1 w => optW_mono (fun c w => ⟨w.1, fun V H2 rh2 st2 rv => ?_⟩) w) (fun _ _ k => k) w
      exact ⟨_, sound_tru X.K G.kk rh2 rv rfl, w.2 _ rh2 st2⟩
    · cases h
  | .kin neg x tb a, pe, h => by
    unfold mE at h
    split at h
    · rename_i l op r e
      obtain ⟨p, rfl⟩ := asCmp_is e
      obtain ⟨h, h7⟩ := b1 h
      obtain ⟨h, h6⟩ := b1 h
      obtain ⟨h, h5⟩ := b1 h
      obtain ⟨h, h4⟩ := b1 h
      obtain ⟨h, h3⟩ := b1 h
      obtain ⟨h1, h2⟩ := b1 h
      obtain rfl := of_decide_eq_true h1
      split at h6
      · rename_i v ev
        obtain ⟨p2, rfl, g, m1, m2⟩ := glo_name (of_decide_eq_true h3) h4 (nt h5)
        obtain ⟨d, md, tat⟩ := G.tab x tb (by rw [ev, eqTab_is h6])
        obtain ⟨es, n', D⟩ := tat.kd
        have pr : PE X (.Name x p2) (tC (.ref d)) := pe_glob g md rfl m1
        cases neg with
        | true =>
          refine (pt_cmpR (op_notIn_kd D) (sE G tk a h7) pr (nt h2)).imp fun σ H Q ⟨ρ, h, re, rh, w⟩ => ?_
          refine stepE (CN_mono F n) re rh w (fun _ _ e => e) fun v h1 V H1 re1 rh1 st1 rv w => ?_
          obtain ⟨z, ez, w⟩ := optW_ex w
          have hv : v = .str z := by cases v <;> first | (cases ez; done) | (cases ez; rfl)
          subst hv
          obtain ⟨r, e1, e2⟩ := tat.at_ z
          exact ⟨z, r, rv, rfl, e1, by rw [e2]; exact ⟨_, rfl, w _ rh1 st1⟩⟩
        | false =>
          refine (pt_cmpR (op_in_kd D) (sE G tk a h7) pr (nt h2)).imp fun σ H Q ⟨ρ, h, re, rh, w⟩ => ?_
          refine stepE (CN_mono F n) re rh w (fun _ _ e => e) fun v h1 V H1 re1 rh1 st1 rv w => ?_
          obtain ⟨z, ez, w⟩ := optW_ex w
          have hv : v = .str z := by cases v <;> first | (cases ez; done) | (cases ez; rfl)
          subst hv
          obtain ⟨r, e1, e2⟩ := tat.at_ z
          exact ⟨z, r, rv, rfl, e1, by rw [e2]; exact ⟨_, rfl, w _ rh1 st1⟩⟩
      · cases h6
    · cases h
  | .kix _ _ _, _, _ => pt_false fun _ _ _ ⟨_, _, _, _, w⟩ => w
  | .callC _ _, _, _ => pt_false fun _ _ _ ⟨_, _, _, _, w⟩ => w
  | .callF _ _ _, _, _ => pt_false fun _ _ _ ⟨_, _, _, _, w⟩ => w
  | .mxd _ _, _, _ => pt_false fun _ _ _ ⟨_, _, _, _, w⟩ => w
  | .ite _ _ _, _, _ => pt_false fun _ _ _ ⟨_, _, _, _, w⟩ => w
  | .chain3 _ _ _ _ _ _ _, _, _ => pt_false fun _ _ _ ⟨_, _, _, _, w⟩ => w
  | .int _, _, _ => pt_false fun _ _ _ ⟨_, _, _, _, w⟩ => w
  | .non, _, _ => pt_false fun _ _ _ ⟨_, _, _, _, w⟩ => w
  | .str _, _, _ => pt_false fun _ _ _ ⟨_, _, _, _, w⟩ => w
  | .con _ _, _, _ => pt_false fun _ _ _ ⟨_, _, _, _, w⟩ => w
  | .bin _ _ _ _, _, _ => pt_false fun _ _ _ ⟨_, _, _, _, w⟩ => w
  | .neg _, _, _ => pt_false fun _ _ _ ⟨_, _, _, _, w⟩ => w
  | .tup _, _, _ => pt_false fun _ _ _ ⟨_, _, _, _, w⟩ => w
  | .lst _ _, _, _ => pt_false fun _ _ _ ⟨_, _, _, _, w⟩ => w
  | .dic0 _, _, _ => pt_false fun _ _ _ ⟨_, _, _, _, w⟩ => w
  | .op1 _ _ _, _, _ => pt_false fun _ _ _ ⟨_, _, _, _, w⟩ => w
  | .op2 _ _ _ _, _, _ => pt_false fun _ _ _ ⟨_, _, _, _, w⟩ => w
  | .dic1 _ _ _, _, _ => pt_false fun _ _ _ ⟨_, _, _, _, w⟩ => w
  | .dic2 _ _ _ _ _, _, _ => pt_false fun _ _ _ ⟨_, _, _, _, w⟩ => w
  | .idx _ _, _, _ => pt_false fun _ _ _ ⟨_, _, _, _, w⟩ => w
  | .slc _ _ _ _, _, _ => pt_false fun _ _ _ ⟨_, _, _, _, w⟩ => w
  | .mth _ _ _, _, _ => pt_false fun _ _ _ ⟨_, _, _, _, w⟩ => w
  | .comp _ _ _ _ _ _, _, _ => pt_false fun _ _ _ ⟨_, _, _, _, w⟩ => w
  | .frz _, _, _ => pt_false fun _ _ _ ⟨_, _, _, _, w⟩ => w
  | .lck _, _, _ => pt_false fun _ _ _ ⟨_, _, _, _, w⟩ => w
  | .fld _ _ _, _, _ => pt_false fun _ _ _ ⟨_, _, _, _, w⟩ => w
  | .make _ _ _, _, _ => pt_false fun _ _ _ ⟨_, _, _, _, w⟩ => w
  | .meth f c m o es, pe, h => by
    have pc := sE G tk (.meth f c m o es) h
    unfold mE at h
    split at h
    · rename_i g as q e
      obtain rfl := asCall_is e
      refine (pt_truth pc (fun _ => rfl)).imp fun σ H Q ⟨ρ, h, re, rh, w⟩ => ⟨ρ, h, re, rh, ?_⟩
      refine wpE_mono (CN_mono F n) o _ _ _ _ _ _ (fun vs h1 w => optW_mono (fun c w => ⟨w.1, wpA_mono (CN_mono F n) es _ _ _ _ _ _ (fun vs h1 w => CN_mono F n _ _ _ _ _ _ _ (fun v h2 w V H2 rh2 st2 rv => ?_) (fun _ _ k => k) w) (fun _ _ k => k) w.2⟩) w) (fun _ _ k => k) w
      exact tru_out (X := X) G.kk st2 rh2 rv w
    · cases h
  | .frzD _, _, _ => pt_false fun _ _ _ ⟨_, _, _, _, w⟩ => w
termination_by e => (sizeOf e, 1)
theorem sTs {X : Cx} {W : WX} (G : Good T F n X) (tk : Takes X W) (i : Bool) {pos : Pos} : ∀ (es : Exs) {pes : List Expr}, mEs T X.N X.env.scope es pes = true → PW X (.BoolOp (if i then .And else .Or) pes pos) (TTx T W (wpTs (CN F n) i es))
  | .nil, _, _ => ⟨fun wh pins s σ H Q I ⟨ρ, h, re, rh, w⟩ => w.elim⟩
  | .cons e .nil, [p], h => by
    simp only [mEs] at h
    obtain ⟨h, h3⟩ := b1 h
    obtain ⟨h1, h2⟩ := b1 h
    cases i with
    | true => exact pw_and1 (sT G tk e h2)
    | false => exact pw_or1 (sT G tk e h2)
  | .cons e (.cons e2 es), p :: p2 :: ps, h => by
    rw [mEs] at h
    obtain ⟨h, h3⟩ := b1 h
    obtain ⟨h1, h2⟩ := b1 h
    have ih := sTs G tk i (pos := pos) (.cons e2 es) h3
    have go : ∀ σ H (Q : Bool → Hp → Prop), TTx T W (wpTs (CN F n) i (.cons e (.cons e2 es))) σ H Q → (TTx T W (wpT (CN F n) e)) σ H fun c H1 => if c = i then TTx T W (wpTs (CN F n) i (.cons e2 es)) σ H1 Q else Q c H1 := fun σ H Q ⟨ρ, h, re, rh, w⟩ => by
      refine stepT (CN_mono F n) re rh w (fun _ _ e => e) fun c h1 H1 re1 rh1 st1 w => ?_
      split
      · rename_i q
        rw [if_pos q] at w
        exact ⟨ρ, h1, re1, rh1, wpTs_mono (CN_mono F n) i _ _ _ _ _ _ _ (fun _ _ k _ rh s => k _ rh (st1.trans s)) (fun _ _ k => k.later st1) w⟩
      · rename_i q
        rw [if_neg q] at w
        exact w _ rh1 st1
    cases i with
    | true =>
      refine (pw_and (sT G tk e h2) ih).imp fun σ H Q q => ?_
      obtain ⟨ρ, h, re, rh, w⟩ := go σ H Q q
      refine ⟨ρ, h, re, rh, wpT_mono (CN_mono F n) e _ _ _ _ _ _ (fun v h' k H' a b => ?_) (fun _ _ k => k) w⟩
      have := k H' a b
      cases v <;> exact this
    | false =>
      refine (pw_or (sT G tk e h2) ih).imp fun σ H Q q => ?_
      obtain ⟨ρ, h, re, rh, w⟩ := go σ H Q q
      refine ⟨ρ, h, re, rh, wpT_mono (CN_mono F n) e _ _ _ _ _ _ (fun v h' k H' a b => ?_) (fun _ _ k => k) w⟩
      have := k H' a b
      cases v <;> exact this
  | .cons _ .nil, [], h => by simp [mEs] at h
  | .cons _ .nil, _ :: _ :: _, h => by simp [mEs] at h
  | .cons _ (.cons _ _), [], h => by simp [mEs] at h
  | .cons _ (.cons _ _), [_], h => by simp [mEs] at h
termination_by es => (sizeOf es, 1)
theorem sI {X : Cx} {W : WX} (G : Good T F n X) (tk : Takes X W) {t : Expr} : ∀ (it : Itx) {pe : Expr}, mI T X.N X.env.scope it t pe = true → PI X t pe (TIx T W (wpI (CN F n) it))
  | .seq e, pe, h => by
    have pe' := sE G tk e (by simpa [mI] using h)
    refine (pi_seq pe').imp fun σ H R ⟨ρ, h, re, rh, w⟩ => ?_
    refine stepE (CN_mono F n) re rh w (fun _ _ e => e) fun v h1 V H1 re1 rh1 st1 rv w => ?_
    obtain ⟨xs, e1, w⟩ := optW_ex w
    have lst : ls h1 v = some xs → _ := fun e2 => js_list (K := X.K) G.kk rv e2 rh1
    cases v with
    | tup ys =>
      cases e1
      obtain ⟨a, q1, q2, q3⟩ := js_tup (K := X.K) rv
      exact ⟨a, q1, .inr ⟨q2, w _ _ rh1 st1 q3⟩⟩
    | fd ks ys => cases e1
    | wd ks ys => cases e1
    | exc c => cases e1
    | clo g ws => cases e1
    | fl ys =>
      obtain ⟨a, q1, q2, q3⟩ := lst e1
      exact ⟨a, q1, .inl ⟨q2, w _ _ rh1 st1 q3⟩⟩
    | sc ys =>
      obtain ⟨a, q1, q2, q3⟩ := lst e1
      exact ⟨a, q1, .inl ⟨q2, w _ _ rh1 st1 q3⟩⟩
    | ref b =>
      obtain ⟨a, q1, q2, q3⟩ := lst e1
      exact ⟨a, q1, .inl ⟨q2, w _ _ rh1 st1 q3⟩⟩
    | non => cases e1
    | bl b => cases e1
    | int b => cases e1
    | str b => cases e1
  | .chars e, pe, h => by
    have pe' := sE G tk e (by simpa [mI] using h)
    refine (pi_str pe').imp fun σ H R ⟨ρ, h, re, rh, w⟩ => ?_
    refine stepE (CN_mono F n) re rh w (fun _ _ e => e) fun v h1 V H1 re1 rh1 st1 rv w => ?_
    obtain ⟨xs, e1, w⟩ := optW_ex w
    cases v with
    | str s =>
      cases e1
      exact ⟨s, rv, w _ _ rh1 st1 (js_chars s)⟩
    | _ => cases e1
  | .keys e, pe, h => by
    have pe' := sE G tk e (by simpa [mI] using h)
    refine (pi_keys pe').imp fun σ H R ⟨ρ, h, re, rh, w⟩ => ?_
    refine stepE (CN_mono F n) re rh w (fun _ _ e => e) fun v h1 V H1 re1 rh1 st1 rv w => ?_
    obtain ⟨ks, e1, w⟩ := optW_ex w
    cases v with
    | wd ks' ys =>
      cases e1
      obtain ⟨a, kvs, q1, q2, ⟨o, q3⟩, q4, q5⟩ := rv
      exact ⟨a, o, q1, .inl ⟨kvs, q3, w _ _ rh1 st1 (js_keys q2 q3 q4)⟩⟩
    | _ => cases e1
  | .range1 a, pe, h => by
    unfold mI at h
    split at h
    · rename_i g x q e
      obtain rfl := asCall_is e
      obtain ⟨h, h4⟩ := b1 h
      obtain ⟨h, h3⟩ := b1 h
      obtain ⟨h1, h2⟩ := b1 h
      obtain ⟨p, rfl, gl, m1, m2⟩ := glo_name (of_decide_eq_true h1) h2 (by decide)
      refine (pi_range1 gl (G.blt _ (by decide)) (pa_cons (sE G tk a h4) pa_nil (star_cons (nt h3))) (star_cons (nt h3))).imp fun σ H R ⟨ρ, h, re, rh, w⟩ => ?_
      refine stepE (CN_mono F n) re rh w (fun _ _ e => e) fun v h1 V H1 re1 rh1 st1 rv w => ?_
      obtain ⟨j, e1, w⟩ := optW_ex w
      exact ⟨j, by rw [intOf_is e1 rv], by omega, by omega, w.2 _ _ rh1 st1 (js_range 0 _)⟩
    · cases h
  | .range2 a b, pe, h => by
    unfold mI at h
    split at h
    · rename_i g x y q e
      obtain rfl := asCall_is e
      obtain ⟨h, h6⟩ := b1 h
      obtain ⟨h, h5⟩ := b1 h
      obtain ⟨h, h4⟩ := b1 h
      obtain ⟨h, h3⟩ := b1 h
      obtain ⟨h1, h2⟩ := b1 h
      obtain ⟨p, rfl, gl, m1, m2⟩ := glo_name (of_decide_eq_true h1) h2 (by decide)
      refine (pi_range2 gl (G.blt _ (by decide)) (pa_cons (sE G tk a h5) (pa_cons (sE G tk b h6) pa_nil (star_cons (nt h4))) (star_cons (nt h3))) (by rw [star_cons (nt h3), star_cons (nt h4)]; rfl) (star_cons (nt h4))).imp fun σ H R ⟨ρ, h, re, rh, w⟩ => ?_
      refine stepE (CN_mono F n) re rh w (fun _ _ e => e) fun v h1 V H1 re1 rh1 st1 rv w => ?_
      refine stepE (CN_mono F n) re1 rh1 w (fun _ _ k => k.later st1) fun u h2 U H2 re2 rh2 st2 ru w => ?_
      obtain ⟨i, e1, w⟩ := optW_ex w
      obtain ⟨j, e2, w⟩ := optW_ex w
      exact ⟨i, j, by rw [intOf_is e1 rv, intOf_is e2 ru], by omega, w.2 _ _ rh2 (st1.trans st2) (js_range i _)⟩
    · cases h
  | .range3 a b c, pe, h => by
    unfold mI at h
    split at h
    · rename_i g x y z q e
      obtain rfl := asCall_is e
      obtain ⟨h, h8⟩ := b1 h
      obtain ⟨h, h7⟩ := b1 h
      obtain ⟨h, h6⟩ := b1 h
      obtain ⟨h, h5⟩ := b1 h
      obtain ⟨h, h4⟩ := b1 h
      obtain ⟨h, h3⟩ := b1 h
      obtain ⟨h1, h2⟩ := b1 h
      obtain ⟨p, rfl, gl, m1, m2⟩ := glo_name (of_decide_eq_true h1) h2 (by decide)
      refine (pi_range3 gl (G.blt _ (by decide)) (pa_cons (sE G tk a h6) (pa_cons (sE G tk b h7) (pa_cons (sE G tk c h8) pa_nil (star_cons (nt h5))) (star_cons (nt h4))) (star_cons (nt h3))) (star_cons (nt h3)) (star_any fun z hz => by
        rcases List.mem_cons.mp hz with rfl | hz
        · exact nt h4
        · rcases List.mem_cons.mp hz with rfl | hz
          · exact nt h5
          · cases hz)).imp fun σ H R ⟨ρ, h, re, rh, w⟩ => ?_
      refine stepE (CN_mono F n) re rh w (fun _ _ e => e) fun v h1 V H1 re1 rh1 st1 rv w => ?_
      refine stepE (CN_mono F n) re1 rh1 w (fun _ _ k => k.later st1) fun u h2 U H2 re2 rh2 st2 ru w => ?_
      refine stepE (CN_mono F n) re2 rh2 w (fun _ _ k => k.later (st1.trans st2)) fun u3 h3 U3 H3 re3 rh3 st3 ru3 w => ?_
      obtain ⟨i, e1, w⟩ := optW_ex w
      obtain ⟨j, e2, w⟩ := optW_ex w
      obtain ⟨k, e3, w⟩ := optW_ex w
      exact ⟨i, j, k, _, by rw [intOf_is e1 rv, intOf_is e2 ru, intOf_is e3 ru3], rgc_of w.1, w.2 _ _ rh3 ((st1.trans st2).trans st3) (js_step i k _)⟩
    · cases h
  | .enum a, pe, h => by
    unfold mI at h
    obtain ⟨h0, hh⟩ := b1 h
    clear h
    split at hh
    · rename_i g x q e
      obtain rfl := asCall_is e
      obtain ⟨h, h4⟩ := b1 hh
      obtain ⟨h, h3⟩ := b1 h
      obtain ⟨h1, h2⟩ := b1 h
      obtain ⟨p, rfl, gl, m1, m2⟩ := glo_name (of_decide_eq_true h1) h2 (by decide)
      cases t <;> first | (cases h0; done) | skip
      refine (pi_enum gl (G.blt _ (by decide)) (pa_cons (sE G tk a h4) pa_nil (star_cons (nt h3))) (star_cons (nt h3))).imp fun σ H R ⟨ρ, h, re, rh, w⟩ => ?_
      refine stepE (CN_mono F n) re rh w (fun _ _ e => e) fun v h1 V H1 re1 rh1 st1 rv w => ?_
      obtain ⟨xs, e1, w⟩ := optW_ex w
      obtain ⟨b, vs, q1, q2, q3⟩ := js_enum (K := X.K) rv rh1 e1
      exact ⟨b, vs, by rw [q1], q2, w _ _ rh1 st1 q3⟩
    · cases hh
  | .zip a b, pe, h => by
    unfold mI at h
    obtain ⟨h0, hh⟩ := b1 h
    clear h
    split at hh
    · rename_i g x y q e
      obtain rfl := asCall_is e
      obtain ⟨h, h6⟩ := b1 hh
      obtain ⟨h, h5⟩ := b1 h
      obtain ⟨h, h4⟩ := b1 h
      obtain ⟨h, h3⟩ := b1 h
      obtain ⟨h1, h2⟩ := b1 h
      obtain ⟨p, rfl, gl, m1, m2⟩ := glo_name (of_decide_eq_true h1) h2 (by decide)
      cases t <;> first | (cases h0; done) | skip
      refine (pi_zip gl (G.blt _ (by decide)) (pa_cons (sE G tk a h5) (pa_cons (sE G tk b h6) pa_nil (star_cons (nt h4))) (star_cons (nt h3))) (star_cons (nt h3)) (star_any fun z hz => by
        rcases List.mem_cons.mp hz with rfl | hz
        · exact nt h4
        · cases hz)).imp fun σ H R ⟨ρ, h, re, rh, w⟩ => ?_
      refine stepE (CN_mono F n) re rh w (fun _ _ e => e) fun v h1 V H1 re1 rh1 st1 rv w => ?_
      refine stepE (CN_mono F n) re1 rh1 w (fun _ _ k => k.later st1) fun u h2 U H2 re2 rh2 st2 ru w => ?_
      obtain ⟨xs, e1, w⟩ := optW_ex w
      obtain ⟨ys, e2, w⟩ := optW_ex w
      obtain ⟨b, c, vs, ws, q1, q2, q3, q4, q5⟩ := js_zip (K := X.K) (RV.keep st2 rv) ru rh2 e1 e2
      exact ⟨b, c, vs, ws, by rw [q1, q2], q3, q4, w _ _ rh2 (st1.trans st2) q5⟩
    · cases hh
  | .rev a, pe, h => by
    unfold mI at h
    split at h
    · rename_i g x q e
      obtain rfl := asCall_is e
      obtain ⟨h, h4⟩ := b1 h
      obtain ⟨h, h3⟩ := b1 h
      obtain ⟨h1, h2⟩ := b1 h
      obtain ⟨p, rfl, gl, m1, m2⟩ := glo_name (of_decide_eq_true h1) h2 (by decide)
      refine (pi_reversed gl (G.blt _ (by decide)) (pa_cons (sE G tk a h4) pa_nil (star_cons (nt h3))) (star_cons (nt h3))).imp fun σ H R ⟨ρ, h, re, rh, w⟩ => ?_
      refine stepE (CN_mono F n) re rh w (fun _ _ e => e) fun v h1 V H1 re1 rh1 st1 rv w => ?_
      obtain ⟨xs, e1, w⟩ := optW_ex w
      obtain ⟨b, vs, q1, q2, q3⟩ := js_rev (K := X.K) rv rh1 e1
      exact ⟨b, vs, by rw [q1], q2, w _ _ rh1 st1 q3⟩
    · cases h
termination_by it => (sizeOf it, 0)
end
end
end L3

set_option Elab.async false
set_option linter.all false
set_option maxRecDepth 100000
/-! L3, LAMBDAS: f(lambda .., ..), the frame's cells held for the call. -/
namespace L3
open PySem PySem.Spec PyProof.Rows L2 NdefX LamX
section
variable {X : Cx} {pins : List (Addr × Obj)} {σ : L2.St} {H : Hp} {s : Shared}
/-- an object told by a predicate is known from now on -/
theorem trackX {a : Addr} {ob : Obj} {φ : Heap → Prop} (I : Inv X pins σ H s) (e : s.heap.get? a = some ob) (ok : ObjOk X.prog X.w H s.heap a (.ext φ)) (nd : ∀ v, ob.data ≠ .cell v) (na : H a = none) (nL : a ≠ X.env.locals)
    (n0 : X.s_0.heap.get? a = none) (np : ∀ p ∈ X.pn ++ pins, p.1 ≠ a) : Inv X pins σ (upd H a (.ext φ)) s := by
  have ne0 : ∀ b o, X.s_0.heap.get? b = some o → b ≠ a := fun b o q z => by rw [z, n0] at q; cases q
  have neH : ∀ b o, H b = some o → b ≠ a := fun b o q z => by rw [z, na] at q; cases q
  refine ⟨I.ok, I.os, I.bare, ⟨I.base.keep, I.base.slot, fun b o q n hb => ?_, I.base.there, fun b xs q => ?_, fun b o u q => ?_, fun b ps q => ?_⟩, I.loc, I.cell, ?_, fun x c q => ?_, fun p hp => ?_, fun b u q => ?_, I.len⟩
  · rw [upd_ne (ne0 b o q)]; exact I.base.free b o q n hb
  · have := I.base.tups b xs q
    rw [upd_ne (neH b _ this)]; exact this
  · have := I.base.frzs b o u q
    rw [upd_ne (neH b _ this)]; exact this
  · obtain ⟨m, this⟩ := I.base.tbls b ps q
    exact ⟨m, by rw [upd_ne (neH b _ this)]; exact this⟩
  · rw [upd_ne (Ne.symm nL)]; exact I.free
  · have hc : c ≠ a := fun w => by
      obtain ⟨v, o, q1, q2⟩ := I.cell x c q
      rw [w, e] at q1; cases q1
      exact nd v q2
    rw [upd_ne hc]; exact I.freeC x c q
  · obtain ⟨p1, p2, p3, p4, p5⟩ := I.pin p hp
    exact ⟨p1, by rw [upd_ne (np p hp)]; exact p2, p3, p4, p5⟩
  · by_cases hb : b = a
    · subst hb
      rw [upd_same] at q
      cases q
      exact ok
    · rw [upd_ne hb] at q
      exact (I.hok b u q).stay (fun _ _ _ r => r) (fun c r => by rw [upd_ne (neH c _ r)]; exact r) fun c xs r => by rw [upd_ne (neH c _ r)]; exact r
variable [Mo] {h : Hq}
/-- the lambda is made -/
theorem lam_mk {q : Str} {c : Addr} {params : Arguments} {body : Expr} {scope : Scope} {pos : Pos} {E : Value → Shared → Prop} {Q : Value → Shared → Prop} (I : Inv X pins σ H s) (rh : RH h H) (TB : TabB X.base X.mg c (Mo.ta q)) (hcode : X.env.code = .ref c)
    (hq : X.env.qual ++ "<lambda>" = q) (hP : h (Mo.ta q) = some (.tab q)) (hdef : defaultsOf params X.env = ([], [])) (hfree : ∀ y ∈ scope.names, y.2 = .free → ∃ c, X.env.cells.lookup y.1 = some c)
    (k : ∀ (f c' : Addr) (H1 : Hp) (s' : Shared), Inv X pins σ H1 s' → RH h H1 → Stab h H h H1 → h f = none → H1 f = some (LmO f q params body scope (cloFrom X.env.cells scope.names []) c') → h c' = none → H1 c' = some (CodeO c' q) → Q (.ref f) s') :
    wpAny (model X.prog X.w) X.A (eval (.Lambda params body scope pos) X.env) Q E s := by
  subst hq
  obtain ⟨_, ps, hHP, ht, ha⟩ := rh _ _ hP
  generalize eP : Mo.ta (X.env.qual ++ "<lambda>") = P at *
  have fin : ∀ (f c' : Addr) (H1 : Hp) (s' : Shared) (pm ctv : Value), Inv X pins σ H1 s' → RH h H1 → Stab h H h H1 → s'.heap.get? f = some (PySem.W.kla_obj "<lambda>" (X.env.qual ++ "<lambda>") params body scope (cloFrom X.env.cells scope.names []) pm c' ctv) →
      s.heap.objs.size ≤ f → H1 f = none → h c' = none → H1 c' = some (CodeO c' (X.env.qual ++ "<lambda>")) → Q (.ref f) s' := fun f c' H1 s' pm ctv I1 rh1 st1 ho hge hn hc hC => by
    have n1 : c' ≠ f := fun z => by rw [z, hn] at hC; cases hC
    refine k f c' (upd H1 f (LmO f (X.env.qual ++ "<lambda>") params body scope (cloFrom X.env.cells scope.names []) c')) s' (trackX I1 ho ⟨⟨_, _, pm, ctv, ho⟩, ⟨_, ho⟩, fun h1 h2 ⟨od, sl, pm, ctv, e⟩ st => ⟨od, sl, pm, ctv, st _ e⟩⟩ (fun v z => by cases z) hn (fun z => ?_) ?_ fun p hp z => ?_)
      (rh1.alloc hn) (st1.trans (Stab.alloc hn)) (rh1.free hn) upd_same hc (by rw [upd_ne n1]; exact hC)
    · have := I.lt
      rw [← z] at this
      exact Nat.lt_irrefl _ (Nat.lt_of_lt_of_le this hge)
    · cases e : X.s_0.heap.get? f with
      | none => rfl
      | some o => exact absurd (Nat.lt_of_lt_of_le (Heap.lt_size e) (Nat.le_trans I.sz hge)) (Nat.lt_irrefl _)
    · have := Heap.lt_size (I.pin p hp).1
      rw [z] at this
      exact Nat.lt_irrefl _ (Nat.lt_of_lt_of_le this hge)
  refine PySem.W.kla_eval hdef ?_
  have bP : s.heap.BuiltinsAt X.mg P := TB.bm.keeps I.bk
  have hP' : s.heap.get? P = some { cls := .none, data := .fields ps } := I.hok P _ hHP
  cases hc : codeAmong pos ps.toList with
  | none =>
    refine PySem.W.kla_makeFunction (mg := X.mg) (c := c) (P := P) (ps := ps) (closure_ok hfree) I.ok.glob (I.mod.glob.keeps I.bk) hcode (TB.code.keeps I.bk) hP' ht hc TB.gP bP fun c' ctv h' tk hx hge hlt hrec htb => ?_
    obtain ⟨c2, oc, vs, t, e2, hoc, hd, hv⟩ := hrec
    cases e2
    have hsz : s.heap.objs.size ≤ h'.objs.size := Nat.le_trans hge (Nat.le_of_lt hlt)
    have nC : H c' = none := I.hok.fresh hge
    have I1 := inv_table (t' := tk) (more := #[rawInt pos.line, rawInt pos.col, .ref c']) (h' := h'.push (PySem.W.kla_obj "<lambda>" (X.env.qual ++ "<lambda>") params body scope (cloFrom X.env.cells scope.names []) ((X.mg "__name__").getD .none) c' ctv)) I hHP
      (fun b o hb e => Heap.get?_push_of_some _ (hx b o hb e)) (Heap.get?_push_of_some _ htb) hge ⟨oc, vs, t, Heap.get?_push_of_some _ hoc, hd, hv⟩
    have nPc : P ≠ c' := ne_of_none hHP nC
    have at_ : ∀ {b o}, H b = some o → b ≠ P → upd (upd H P (.tbl (ps ++ #[rawInt pos.line, rawInt pos.col, .ref c']))) c' (CodeO c' (X.env.qual ++ "<lambda>")) b = H b := fun {b o} e n => by
      rw [upd_ne (ne_of_none e nC), upd_ne n]
    have st : Stab h H h (upd (upd H P (.tbl (ps ++ #[rawInt pos.line, rawInt pos.col, .ref c']))) c' (CodeO c' (X.env.qual ++ "<lambda>"))) := fun b o e n => ⟨(at_ e (fun z => by rw [z, hP] at n; cases n)).trans e, n⟩
    have eL : (ps ++ #[rawInt pos.line, rawInt pos.col, .ref c']).toList = ps.toList ++ [rawInt pos.line, rawInt pos.col, .ref c'] := by simp
    refine fin h'.objs.size c' _ _ _ ctv I1 (fun b cc e => ?_) st (Heap.get?_push_size _ rfl) hsz ?_ (rh.free nC) upd_same
    · by_cases hb : b = P
      · subst hb
        rw [hP] at e
        cases e
        refine ⟨eP.symm, _, by rw [upd_ne nPc, upd_same], by rw [eL]; exact PySem.TriplesOk_snoc _ _ _ _ ht, fun p' cv hcv => ?_⟩
        rw [eL] at hcv
        rcases among_app _ ht hcv with z | z
        · obtain ⟨c0, e1, n0, e2⟩ := ha p' cv z
          exact ⟨c0, e1, n0, (st c0 _ e2 n0).1⟩
        · exact ⟨c', z, rh.free nC, upd_same⟩
      · obtain ⟨o, eo⟩ := (rh b cc e).some
        exact (rh b cc e).keep st (at_ eo hb)
    · have n1 : h'.objs.size ≠ c' := Nat.ne_of_gt hlt
      have n2 : h'.objs.size ≠ P := Nat.ne_of_gt (Nat.lt_of_lt_of_le (Heap.lt_size hP') hsz)
      rw [upd_ne n1, upd_ne n2]
      exact I.hok.fresh hsz
  | some cv =>
    obtain ⟨c', e, nc, hco⟩ := ha pos cv hc
    subst e
    refine PySem.W.kla_makeFunctionHit (mg := X.mg) (c := c) (P := P) (ps := ps) (closure_ok hfree) I.ok.glob (I.mod.glob.keeps I.bk) hcode (TB.code.keeps I.bk) hP' ht hc bP fun ctv h' tk hx hsz => ?_
    have I1 : Inv X pins σ H { s with heap := h'.push (PySem.W.kla_obj "<lambda>" (X.env.qual ++ "<lambda>") params body scope (cloFrom X.env.cells scope.names []) ((X.mg "__name__").getD .none) c' ctv), toks := tk } := I.kept fun b o e => Heap.get?_push_of_some _ (hx b o e)
    exact fin h'.objs.size c' H _ _ ctv I1 rh .refl (Heap.get?_push_size _ rfl) hsz (I.hok.fresh hsz) nc hco
end
/-! ### the cells, held for the call -/
/-- from l on they are known, frozen -/
def trkZ (H : Hp) (hp : Heap) (l : List (Addr × V)) : Hp := fun b => match l.lookup b with | some v => (match hp.get? b with | some o => some (.frz o (CellO b v)) | none => none) | none => H b
theorem trkZ_out {H : Hp} {hp : Heap} {l : List (Addr × V)} {b : Addr} (n : l.lookup b = none) : trkZ H hp l b = H b := by unfold trkZ; rw [n]
theorem trkZ_in {H : Hp} {hp : Heap} {l : List (Addr × V)} {b : Addr} {v : V} {o : Obj} (n : l.lookup b = some v) (e : hp.get? b = some o) : trkZ H hp l b = some (.frz o (CellO b v)) := by unfold trkZ; rw [n]; simp only [e]
section
variable [Mo] {P : Program} {w : World} {H H' : Hp} {D : Addr → Prop} {outer : List Env} {s s' : Shared} {Q : VK} {u : Value}
/-- a call's end: what was held for it alone is known no more -/
theorem ce_held (hD : ∀ b, D b → H b = none ∧ ∃ o φ, H' b = some (.frz o (.ext φ))) (hN : ∀ b, ¬ D b → H' b = H b) (hok : HOk P w H' s.heap)
    (q : CE outer P w H' s (fun v H3 => Q v (hidD D H3)) u s') : CE outer P w H s Q u s' := by
  obtain ⟨v, H3, os, bare, un, hok3, rv, q⟩ := q
  have keepD : ∀ b, D b → ∀ o, s.heap.get? b = some o → s'.heap.get? b = some o := fun b d o e => by
    obtain ⟨_, o', φ, e'⟩ := hD b d
    have z1 := (hok b _ e').1
    have z2 := (hok3 b _ (un.frzs b _ _ e')).1
    rw [e] at z1; cases z1; exact z2
  have nD : ∀ {b o}, H b = some o → ¬ D b := fun {b o} e d => by rw [(hD b d).1] at e; cases e
  refine ⟨v, hidD D H3, os, bare, ⟨fun b o e n hf hx => ?_, fun b o e n hf hx => ?_, fun b o e n x => ?_, un.there, fun b xs e => ?_, fun b o x e => ?_, fun b ps e => ?_⟩, fun a o e => ?_, rv, q⟩
  · by_cases d : D b
    · exact keepD b d o e
    · exact un.keep b o e (by rw [hN b d]; exact n) hf hx
  · by_cases d : D b
    · exact ⟨o.slots, keepD b d o e⟩
    · exact un.slot b o e (by rw [hN b d]; exact n) hf hx
  · by_cases d : D b
    · exact hid_out d
    · rw [hid_in d]; exact un.free b o e (by rw [hN b d]; exact n) x
  · rw [hid_in (nD e)]; exact un.tups b xs (by rw [hN b (nD e)]; exact e)
  · rw [hid_in (nD e)]; exact un.frzs b o x (by rw [hN b (nD e)]; exact e)
  · rw [hid_in (nD e)]; exact un.tbls b ps (by rw [hN b (nD e)]; exact e)
  · by_cases d : D a
    · rw [hid_out d] at e; cases e
    · rw [hid_in d] at e
      refine objOk_map (fun b o e k => ?_) (hok3 a o e)
      have nd : ¬ D b := fun d => by
        obtain ⟨_, o', φ, e'⟩ := hD b d
        rw [un.frzs b _ _ e'] at e
        cases e
        rcases k with ⟨_, z⟩ | ⟨_, z⟩ <;> cases z
      rw [hid_in nd]; exact e
end
/-! ### a function's captured cells -/
/-- the cells with what they hold -/
def pairs (cl : List (Str × Addr)) : List Str → List V → List (Addr × V)
  | y :: fr, v :: us => (match cl.lookup y with | some c => (c, v) :: pairs cl fr us | none => pairs cl fr us)
  | _, _ => []
theorem pairs_is {cl : List (Str × Addr)} {b : Addr} {v : V} : ∀ {fr : List Str} {us : List V}, (pairs cl fr us).lookup b = some v → ∃ (i : Nat) (y : Str), fr[i]? = some y ∧ us[i]? = some v ∧ cl.lookup y = some b
  | [], _, h => by simp [pairs] at h
  | _ :: _, [], h => by simp [pairs] at h
  | y :: fr, u :: us, h => by
    unfold pairs at h
    cases e : cl.lookup y with
    | none =>
      rw [e] at h
      obtain ⟨i, z, h1, h2, h3⟩ := pairs_is h
      exact ⟨i + 1, z, by simpa using h1, by simpa using h2, h3⟩
    | some c =>
      rw [e] at h
      have h : ((c, u) :: pairs cl fr us).lookup b = some v := h
      rw [List.lookup_cons] at h
      cases q : b == c with
      | true =>
        rw [q] at h
        cases h
        exact ⟨0, y, rfl, rfl, by rw [e, eq_of_beq q]⟩
      | false =>
        rw [q] at h
        obtain ⟨i, z, h1, h2, h3⟩ := pairs_is h
        exact ⟨i + 1, z, by simpa using h1, by simpa using h2, h3⟩
theorem pairs_at {cl : List (Str × Addr)} (inj : ∀ x y c, cl.lookup x = some c → cl.lookup y = some c → x = y) {c : Addr} {v : V} : ∀ {fr : List Str} {us : List V} {i : Nat} {y : Str}, fr.Nodup → fr[i]? = some y → us[i]? = some v → cl.lookup y = some c → (pairs cl fr us).lookup c = some v
  | [], _, _, _, _, h, _, _ => by simp at h
  | _ :: _, [], _, _, _, _, h, _ => by simp at h
  | z :: fr, u :: us, 0, y, nd, h1, h2, h3 => by
    simp at h1 h2
    subst h1 h2
    unfold pairs
    rw [h3]
    show ((c, u) :: pairs cl fr us).lookup c = some u
    rw [List.lookup_cons, beq_self_eq_true]
  | z :: fr, u :: us, i + 1, y, nd, h1, h2, h3 => by
    have h1 : fr[i]? = some y := by simpa using h1
    have h2 : us[i]? = some v := by simpa using h2
    have ih := pairs_at inj (List.nodup_cons.mp nd).2 h1 h2 h3
    unfold pairs
    cases e : cl.lookup z with
    | none => exact ih
    | some d =>
      show ((d, u) :: pairs cl fr us).lookup c = some v
      rw [List.lookup_cons]
      cases q : c == d with
      | true =>
        have e1 : z = y := inj z y d e (by rw [← eq_of_beq q]; exact h3)
        rw [e1] at nd
        exact absurd (List.mem_of_getElem? h1) (List.nodup_cons.mp nd).1
      | false => exact ih
theorem freeS_mem {sc : Scope} {y : Str} : y ∈ freeS sc ↔ (y, NameKind.free) ∈ sc.names := by
  unfold freeS
  rw [List.mem_filterMap]
  constructor
  · rintro ⟨⟨z, k⟩, hm, e⟩
    cases k <;> first | (cases e; done) | (cases e; exact hm)
  · exact fun h => ⟨_, h, rfl⟩
section
variable [Mo]
theorem lks_slots {h : Hq} {H : Hp} {ρ : Env3} {σ : L2.St} (re : RE h H ρ σ) : ∀ {js : List Nat} {ws : List Val}, lks ρ js = some ws → ∃ uz : List V, js.map (slotAt σ) = uz.map some ∧ RVs h H ws uz
  | [], ws, e => by cases e; exact ⟨[], rfl, .nil⟩
  | j :: js, ws, e => by
    unfold lks at e
    split at e
    · rename_i v vs e1 e2
      cases e
      obtain ⟨uz, q1, q2⟩ := lks_slots re e2
      obtain ⟨x, e3, r⟩ := re.2 j v (lk_eq _ _ _ e1)
      exact ⟨x :: uz, by rw [List.map_cons, List.map_cons, q1, slotAt_of e3], .cons r q2⟩
    · cases e
variable {h2 h3 h4 : Hq} {H2 H2' H3 : Hp} {D : Addr → Prop}
theorem held_back (hD : ∀ b, D b → (H2 b = none ∧ h2 b = none) ∧ ∃ o φ, H2' b = some (.frz o (.ext φ))) (hN : ∀ b, ¬ D b → H2' b = H2 b) (st3 : Stab h2 H2' h3 H3) (rh3 : RH h3 H3) (nh : NCP h3 h4) :
    RH h4 (hidD D H3) ∧ Stab h2 H2 h4 (hidD D H3) ∧ Alk h3 H3 h4 (hidD D H3) := by
  have at3 : ∀ b, D b → h3 b = none ∧ ∃ o φ, H3 b = some (.frz o (.ext φ)) := fun b d => by
    obtain ⟨⟨_, n⟩, o, φ, e⟩ := hD b d
    obtain ⟨q1, q2⟩ := st3 b _ e n
    exact ⟨q2, o, φ, q1⟩
  have sub0 : ∀ b, h3 b = none → h4 b = none := fun b n => by
    cases e : h4 b with
    | none => rfl
    | some c => rw [(nh b c e).1] at n; cases n
  have alk : Alk h3 H3 h4 (hidD D H3) := fun b o e n x x2 => by
    have nd : ¬ D b := fun d => by
      obtain ⟨_, o', φ, q⟩ := at3 b d
      rw [e] at q; cases q
      exact x2 _ _ rfl
    exact ⟨by rw [hid_in nd]; exact e, sub0 b n⟩
  refine ⟨fun a c e0 => ?_, fun b o e n => ?_, alk⟩
  · obtain ⟨e, nc⟩ := nh a c e0
    have nd : ¬ D a := fun d => by
      rw [(at3 a d).1] at e; cases e
    have r := rh3 a c e
    cases c with
    | lst xs => obtain ⟨vs, e1, q⟩ := r; exact ⟨vs, by rw [hid_in nd]; exact e1, RVs.nc alk nc q⟩
    | dic kvs =>
      obtain ⟨vs, e1, q⟩ := r
      refine ⟨vs, by rw [hid_in nd]; exact e1, q.1, RVs.nc alk (fun v hv => ?_) q.2⟩
      obtain ⟨p, hp, rfl⟩ := List.mem_map.mp hv
      exact nc p hp
    | ins k fs => exact nc.elim
    | tab q =>
      obtain ⟨ea, ps, e1, t, z⟩ := r
      refine ⟨ea, ps, by rw [hid_in nd]; exact e1, t, fun pos cv hc => ?_⟩
      obtain ⟨c0, c1, c2, c3⟩ := z pos cv hc
      have n0 : ¬ D c0 := fun d => by
        obtain ⟨_, o', φ, q⟩ := at3 c0 d
        rw [c3] at q; cases q
      exact ⟨c0, c1, sub0 _ c2, by rw [hid_in n0]; exact c3⟩
  · have nd : ¬ D b := fun d => by rw [(hD b d).1.1] at e; cases e
    obtain ⟨q1, q2⟩ := st3 b o (by rw [hN b nd]; exact e) n
    exact ⟨by rw [hid_in nd]; exact q1, sub0 _ q2⟩
end
/-! ### the call -/
section
variable [Mo] {T : Tb} {F : Fs} {n : Nat} {X : Cx} {W : WX}
def wL (C : CT) (f g : Nat) (q : Str) (js : List Nat) (es : Exs) : Env3 → Hq → QV → QE → Prop := fun ρ h Q _ => (∃ P, h P = some (.tab q)) ∧ optW (lks ρ js) fun ws => wpA C es ρ h (fun vs h1 => C f (.clo g ws :: vs) h1 (fun v h2 => NC v ∧ ∃ h3, NCP h2 h3 ∧ Q v h3) fun _ _ => False) fun _ _ => False
theorem pe_callL {f g : Nat} {q x : Str} {js : List Nat} {es' : Exs} {es : List Expr} {px : Str} {pa : Option Expr} {pp p pos lpos : Pos} {body : Expr} {lsc : Scope} (G : Good T F n X) (hfn : ∀ y ∈ freeS lsc, X.fn y = true) (hlq : X.env.qual ++ "<lambda>" = q)
    (hTB : ∃ c, X.env.code = .ref c ∧ TabB X.base X.mg c (Mo.ta q)) (hg : Gl X x) (hnm : T.nm f = some x) (hm : (x == ("__debug__" : Str)) = false) (lm : Mo.lm g (.Lambda ⟨[], [⟨px, pa, pp⟩], none, [], [], none, []⟩ body lsc lpos))
    (hjs : js.map (fun j => X.N[j]?) = (freeS lsc).map some) (hnd : (freeS lsc).Nodup) (hfr : ∀ y ∈ lsc.names, y.2 = .free → X.env.scope.names.lookup y.1 = some .cell ∨ X.env.scope.names.lookup y.1 = some .free)
    (ha : PA X es (TAx T W (wpA (CN F n) es'))) (hpl : (backTo pos (starEach es X.env)).any (·.1) = false) :
    PE X (.Call (.Name x p) (.Lambda ⟨[], [⟨px, pa, pp⟩], none, [], [], none, []⟩ body lsc lpos :: es) [] pos) (TEx T W (wL (CN F n) f g q js es')) := by
  refine ⟨fun pins s σ H Q I ⟨ρ, h, re, rh, ⟨P, hP⟩, w⟩ => ?_⟩
  obtain ⟨ws, ews, w⟩ := optW_ex w
  obtain rfl := (rh _ _ hP).1
  obtain ⟨a, fd, ps, g1, g2, g3, g4⟩ := G.fn f x hnm
  obtain ⟨cc, hcode, TB⟩ := hTB
  have hfree : ∀ y ∈ lsc.names, y.2 = .free → ∃ c, X.env.cells.lookup y.1 = some c := fun y hy e => (hfr y hy e).elim (fun z => I.ok.has _ (.inl z)) fun z => I.ok.has _ (.inr z)
  refine wpAny_Call_Name_kw (ld_glob I hg g1 ?_ hm)
  refine PySem.W.callWith_K (h₀ := X.base) I.ok.mod.kin g2 ?_ (by rfl) hpl
  show wpAny _ _ (spliced ((false, eval (.Lambda ⟨[], [⟨px, pa, pp⟩], none, [], [], none, []⟩ body lsc lpos) X.env) :: backTo pos (starEach es X.env))) _ _ s
  refine Calls.spliced_cons (lam_mk I rh TB hcode hlq hP rfl hfree fun fa c' H1 s' I1 rh1 st1 nf hf nc hc => ?_)
  have hargs := stepA (R := fun Vs H2 => ∃ vs h2, RVs h2 H2 vs Vs ∧ RE h2 H2 ρ σ ∧ RH h2 H2 ∧ Stab h H1 h2 H2 ∧ CN F n f (.clo g ws :: vs) h2 (fun v h3 => NC v ∧ ∃ h4, NCP h3 h4 ∧ KQ h H Q v h4) fun _ _ => False) (W := W) (T := T) (CN_mono F n) (re.keep st1) rh1 w (fun _ _ e => e.elim) fun v h1 V H1 re1 rh1 st1 rv w => ⟨v, h1, rv, re1, rh1, st1, w⟩
  refine thn (ha.run pos pins s' σ H1 _ I1 hargs) fun us s2 ⟨Vs, H2, I2, r, vs, h2, rvs, re2, rh2, st2, wc⟩ => ⟨I2.kIn, ?_⟩
  show wpAny _ _ (call (.ref a) (.ref fa :: us)) _ _ _
  have cp := Caps.made (X := X) (scope := lsc) I2.ok hfr (fun y hy => freeS_mem.mp hy) hjs
  have C := cells_of I2 cp
  obtain ⟨uz, euz, rws⟩ := lks_slots re2 ews
  rw [euz] at C
  have cab : ∀ y b, (cloFrom X.env.cells lsc.names []).lookup y = some b → y ∈ freeS lsc ∧ X.s_0.heap.objs.size ≤ b ∧ b ≠ X.env.locals := fun y b e => by
    have hy : y ∈ freeS lsc := by
      rcases cloFrom_mem (PySem.mem_of_lookup e) with hm | ⟨h1, _⟩
      · cases hm
      · exact freeS_mem.mpr h1
    exact ⟨hy, I2.ok.cab y b (hfn y hy) (cp.sub y b e), I2.cne y b (cp.sub y b e)⟩
  generalize hcl : cloFrom X.env.cells lsc.names [] = cl at *
  have cellv : ∀ {b v}, (pairs cl (freeS lsc) uz).lookup b = some v → ∃ o u, s2.heap.get? b = some o ∧ RelV v u ∧ o.data = .cell (some u) ∧ H2 b = none ∧ X.s_0.heap.objs.size ≤ b ∧ b ≠ X.env.locals := fun {b v} e => by
    obtain ⟨i, y, f1, f2, f3⟩ := pairs_is e
    obtain ⟨c, k1, k2⟩ := C.has i y f1
    rw [f3] at k1
    cases k1
    obtain ⟨u, ru, o, ho, hd⟩ := k2 v (by rw [List.getElem?_map, f2]; rfl)
    exact ⟨o, u, ho, ru, hd, (C.all y _ f3).1, (cab y _ f3).2⟩
  let D : Addr → Prop := fun b => ((pairs cl (freeS lsc) uz).lookup b).isSome = true
  have getD : ∀ b, D b → ∃ v, (pairs cl (freeS lsc) uz).lookup b = some v := fun b d => Option.isSome_iff_exists.mp d
  have hD : ∀ b, D b → (H2 b = none ∧ h2 b = none) ∧ ∃ o φ, trkZ H2 s2.heap (pairs cl (freeS lsc) uz) b = some (.frz o (.ext φ)) := fun b d => by
    obtain ⟨v, e⟩ := getD b d
    obtain ⟨o, u, ho, _, _, n, _⟩ := cellv e
    exact ⟨⟨n, rh2.free n⟩, o, _, trkZ_in e ho⟩
  have hNl : ∀ b, ¬ D b → (pairs cl (freeS lsc) uz).lookup b = none := fun b nd => by
    cases q : (pairs cl (freeS lsc) uz).lookup b with
    | none => rfl
    | some v => exact absurd (show D b by show ((pairs cl (freeS lsc) uz).lookup b).isSome = true; rw [q]; rfl) nd
  have hN : ∀ b, ¬ D b → trkZ H2 s2.heap (pairs cl (freeS lsc) uz) b = H2 b := fun b nd => trkZ_out (hNl b nd)
  have nD : ∀ {b o}, H2 b = some o → ¬ D b := fun {b o} e d => by rw [(hD b d).1.1] at e; cases e
  have sub : ∀ {b o}, H2 b = some o → trkZ H2 s2.heap (pairs cl (freeS lsc) uz) b = some o := fun {b o} e => by rw [hN b (nD e)]; exact e
  have stk : Stab h2 H2 h2 (trkZ H2 s2.heap (pairs cl (freeS lsc) uz)) := fun b o e m => ⟨sub e, m⟩
  have hok' : HOk X.prog X.w (trkZ H2 s2.heap (pairs cl (freeS lsc) uz)) s2.heap := fun b o e => by
    by_cases d : D b
    · obtain ⟨v, ev⟩ := getD b d
      obtain ⟨ob, u, ho, ru, hd, n, _⟩ := cellv ev
      rw [trkZ_in ev ho] at e
      cases e
      exact ⟨ho, ⟨u, ru, ob, ho, hd⟩, ⟨ob, ho⟩, fun h1 h2 ⟨u2, r2, o2, ho2, hd2⟩ st2 => ⟨u2, r2, o2, st2 _ ho2, hd2⟩⟩
    · rw [hN b d] at e
      exact objOk_map (fun b o e _ => sub e) (I2.hok b o e)
  have E0 : Env0 X.prog X.w X.K X.mg X.base X.A X.stack s2 (trkZ H2 s2.heap (pairs cl (freeS lsc) uz)) := by
    have e0 := I2.env0
    refine ⟨e0.frames, e0.mod, fun b o x => ⟨(e0.bs b o x).1, ?_⟩, e0.bsz, e0.funs, fun b hb => ?_, hok', e0.bare⟩
    · have nd : ¬ D b := fun d => by
        obtain ⟨v, ev⟩ := getD b d
        obtain ⟨ob, u, ho, ru, hd, n, sz, _⟩ := cellv ev
        exact absurd (Nat.lt_of_lt_of_le (Heap.lt_size x) (Nat.le_trans I2.ok.bsz sz)) (Nat.lt_irrefl _)
      rw [hN b nd]; exact (e0.bs b o x).2
    · have nd : ¬ D b := fun d => by
        obtain ⟨v, ev⟩ := getD b d
        obtain ⟨ob, u, ho, ru, hd, n, sz, nl⟩ := cellv ev
        rcases List.mem_cons.mp (I2.stkSub b hb) with z | z
        · exact nl z
        · obtain ⟨_, o', e', _⟩ := I2.ok.funs.mem z
          exact absurd (Nat.lt_of_lt_of_le (Heap.lt_size e') sz) (Nat.lt_irrefl _)
      rw [hN b nd]; exact e0.frf b hb
  obtain ⟨hf2, nf2⟩ := st2 fa _ hf nf
  obtain ⟨hc2, nc2⟩ := st2 c' _ hc nc
  have hsp : spOf T F n f (.ref fa :: Vs) (trkZ H2 s2.heap (pairs cl (freeS lsc) uz)) (fun v H3 => Q v (hidD D H3)) (fun _ _ _ => False) := by
    refine ⟨.clo g ws :: vs, h2, .cons ⟨fa, c', q, freeS lsc, cl, uz, _, rfl, .inr ⟨_, body, lsc, lpos, lm, rfl, rfl⟩, nf2, sub hf2, nc2, sub hc2, ⟨?_, fun i y v e1 e2 => ?_, fun y b e => (cab y b e).1, C.inj⟩, RVs.keep stk rws⟩ (RVs.keep stk rvs), fun b c e => ?_,
      CN_mono F n _ _ _ _ _ _ _ (fun v h3 kq V H3 rh3 st3 rv3 => ?_) (fun _ _ z => z.elim) wc⟩
    · have := C.len
      rw [List.length_map] at this
      exact this
    · obtain ⟨c, k1, k2⟩ := C.has i y e1
      have pl := pairs_at C.inj hnd e1 e2 k1
      obtain ⟨o, u, ho, _, _, n, _⟩ := cellv pl
      exact ⟨c, k1, rh2.free n, .inr ⟨o, trkZ_in pl ho⟩⟩
    · obtain ⟨o, eo⟩ := (rh2 b c e).some
      exact (rh2 b c e).keep stk ((sub eo).trans eo.symm)
    · obtain ⟨nv, h4, nh, kq⟩ := kq
      obtain ⟨k1, k2, k3⟩ := held_back hD hN st3 rh3 nh
      exact kq V _ k1 ((st1.trans st2).trans k2) (RV.nc k3 nv rv3)
  have hl := g4.len _ _ _ _ hsp
  have rr : Vals (V.ref fa :: Vs) (Value.ref fa :: us) := .cons rfl r
  have bd := g3 s2 (.ref fa :: us) I2.kIn (by rw [List.append_nil, ← rr.length]; exact hl)
  rw [List.append_nil] at bd
  refine wpAny_call (codeAny_mono (g4.run X.A X.stack s2 _ ⟨.ref fa :: us, []⟩ (.ref fa :: us) (.ref fa :: Vs) (fun v H3 => Q v (hidD D H3)) (fun _ _ _ => False) G.room E0 bd rr hsp) fun r s' hq => ?_)
  cases r with
  | error e => exact (no_cx hq).elim
  | ok fl =>
    cases fl with
    | ret u => exact I2.after (ce_held (fun b d => ⟨(hD b d).1.1, (hD b d).2⟩) hN hok' hq)
    | next => exact False.elim hq
    | brk => exact False.elim hq
    | cont => exact False.elim hq
end
end L3

set_option Elab.async false
set_option linter.all false
set_option maxRecDepth 100000
set_option maxHeartbeats 2000000
/-! L3, exceptions 2: one that leaves a list comprehension. -/
namespace L2
open PySem PySem.Spec PyProof.Rows
theorem noteFrame_eq {e : Value} {env env' : Env} (h : env.frame = env'.frame) : noteFrame e env = noteFrame e env' := by
  unfold noteFrame PySem.frameOf
  rw [h]
/-- a comprehension's end: as compPost, the frame told -/
def compPostX (M : Model) (A : Around) (E : Value → Shared → Prop) (fr : Option Addr) (use : Option (Value → Sem Unit)) (Q : Value → Shared → Prop) (acc : Value) (C : Addr) (r : Result) (s' : Shared) : Prop :=
  match r with
  | .ok f => compPost M A E use Q acc C (.ok f) s'
  | .error x => ∃ m, s'.heap.Ns C m ∧ ∀ h', Heap.SameBut C s'.heap h' → ∀ cenv : Env, cenv.locals = C → cenv.frame = fr → wpAny M A (PySem.passOn "comprehension.variables-let-go" x cenv : Sem Value) (fun _ _ => False) E { s' with heap := h' }
section
variable {M : Model} {A : Around} {E : Value → Shared → Prop} {s : Shared} {env : Env}
theorem comprehensionX {e : Expr} {scope : Scope} {pos : Pos} {newAcc first : Sem Value} {g : Comprehension} {gs : List Comprehension} {cl : List (Str × Addr)} {use : Option (Value → Sem Unit)} {Q : Value → Shared → Prop}
    (hcl : clausesOf e = g :: gs) (hs : ∀ x, foldedSetIterable g.iter env x = pure x) (hclos : closureFor scope env = pure cl)
    (hkind : scope.kind = .function) (hnames : ∀ x ∈ scope.names, x.2 = .local → scope.names.lookup x.1 = some .local)
    (h : wpAny M A first (fun x s₁ => wpAny M A (pyIter x) (fun it s₂ => wpAny M A newAcc (fun acc s₃ =>
      wpAny M A (newFunctionEnv scope env.globals cl [] env.qual none .none (some env)) (fun cenv s₄ => cenv.frame = env.frame ∧
        codeAny M A (.compStart e 0 it acc { cenv with scope := relabel scope env }) (compPostX M A E env.frame use Q acc cenv.locals) s₄) E s₃) E s₂) E s₁) E s) :
    wpAny M A (comprehension e scope env pos newAcc false first use) Q E s := by
  unfold comprehension
  rw [hclos, hcl]
  refine wpAny_bind (wpAny_mono h (fun x s₁ h₁ => wpAny_bind (wpAny_standAt (wpAny_bind (wpAny_of_eq (hs x) (wpAny_bind (wpAny_holding (wpAny_mono h₁ (fun it s₂ h₂ =>
    wpAny_standIf (wpAny_bind (wpAny_mono h₂ (fun acc s₃ h₃ => wpAny_bind (wpAny_pure (wpAny_bind (wpAny_mono h₃ (fun cenv s₄ h₄ => ?_) fun _ _ h' => h')))) fun _ _ h' => h')))
      fun _ _ h' => h'))))))) fun _ _ h' => h')
  obtain ⟨hfr, h₄⟩ := h₄
  dsimp only
  have hv : ∀ x ∈ (scope.names.filter fun x => (x.2 == .local || x.2 == .cell) && x.1 != (".0" : Str)).reverse, x.2 = .local →
      Env.kindOf { cenv with scope := relabel scope env } x.1 = some .local := fun x hx hl => lookup_relabel_local (hnames x (List.mem_filter.mp (List.mem_reverse.mp hx)).1 hl)
  have hv' : ∀ x ∈ (scope.names.filter fun x => (x.2 == .local || x.2 == .cell) && x.1 != (".0" : Str)).reverse.drop 1 ++ (scope.names.filter fun x => (x.2 == .local || x.2 == .cell) && x.1 != (".0" : Str)).reverse.take 1,
      x.2 = .local → Env.kindOf { cenv with scope := relabel scope env } x.1 = some .local := fun x hx hl => by
    rcases List.mem_append.mp hx with h1 | h1
    · exact hv x (List.mem_of_mem_drop h1) hl
    · exact hv x (List.mem_of_mem_take h1) hl
  refine wpAny_holding (wpAny_bind (wpAny_attempt (wpAny_holding (wpAny_run (codeAny_mono h₄ fun r s' hr => ?_)))))
  cases r with
  | ok f =>
    cases use with
    | none =>
      obtain ⟨m, hn, hr⟩ := hr
      exact wpAny_bind (wpAny_holding (wpAny_comp_letGo (cenv := { cenv with scope := relabel scope env }) hkind _ s' m hv hn fun h' m' _ hs' => wpAny_pure (hr h' hs')))
    | some u =>
      have hr : wpAny M A (u acc) (fun _ s'' => ∃ m, s''.heap.Ns cenv.locals m ∧ ∀ h', Heap.SameBut cenv.locals s''.heap h' → Q .none { s'' with heap := h' }) E s' := hr
      refine wpAny_bind (wpAny_rule (wpAny_bind (wpAny_holding (wpAny_mono hr (fun _ s'' hr' => ?_) fun _ _ h' => h'))))
      obtain ⟨m, hn, hr'⟩ := hr'
      exact wpAny_bind (wpAny_comp_letGo (cenv := { cenv with scope := relabel scope env }) hkind _ s'' m hv' hn fun h' m' _ hs' => wpAny_pure (hr' h' hs'))
  | error x =>
    obtain ⟨m, hn, hr⟩ := hr
    exact wpAny_bind (wpAny_holding (wpAny_comp_letGo (cenv := { cenv with scope := relabel scope env }) hkind _ s' m hv hn fun h' m' _ hs' => wpAny_mono (hr h' hs' _ rfl hfr) (fun _ _ f => f.elim) fun _ _ y => y))
end
section
open HandSPX
variable {M : Model} {A : Around} {E : Value → Shared → Prop} {s : Shared} {B : Heap} {env : Env} {outer : List Env} {L a C : Addr} {Z : Obj → Prop} {Q : Unit → Shared → Prop}
/-- the def's frame notes what a comprehension of its own let out -/
theorem Sky.note (hZ : Steady Z) (hfr : A.frames = some (env :: outer)) (hf : env.frame = some L) (ne : C ≠ L) (x : Sky B (env :: outer) a Z C s.heap)
    (hQ : ∀ h', HeldZ B (env :: outer) a Z L h' → s.heap.UpToSlots h' → Q () { s with heap := h' }) : wpAny M A (noteFrame (.ref a) env) Q E s := by
  rcases x with ⟨hB, hn, hl, oe, vs, he, hz, hd, h1⟩ | fl | hh
  · exact look_newZ hZ hfr hl hf he hB hn hd h1 hz hQ
  · exact looks_onZ hZ hfr hf fl hQ
  · obtain ⟨hkb, hen, hl, oe, vs, T, oT, ts, he, hz, hd, h1, hnT, hTe, hT, hdT, h3⟩ := hh
    unfold noteFrame
    simp only [hf]
    refine wpAny_bind (wpAny_field he hd h1 ?_)
    rw [if_pos (show (Value.ref T != Value.none) = true from by simp)]
    refine wpAny_bind (wpAny_field hT hdT h3 ?_)
    rw [if_neg (show ¬ ((rawInt C == rawInt L) = true) from by intro z; simp [rawInt] at z; exact ne (Int.ofNat.inj z))]
    refine wpAny_bind (wpAny_setField hT hdT (Array.getElem?_eq_some_iff.mp h3).1 ?_)
    have other : ∀ b, b ≠ T → (s.heap.update T (Obj.mapFields (·.setIfInBounds 3 Value.none))).get? b = s.heap.get? b := fun b hb => Heap.get?_update_other _ _ (Ne.symm hb)
    have noRecord : ∀ b o, s.heap.get? b = some o → (∀ vs, o.data ≠ .fields vs) → b ≠ T := fun b o hb hnf q => by
      rw [q, hT] at hb; injection hb with hb; subst hb; exact hnf ts hdT
    refine wpAny_entryZ hZ hfr (hl.of_keeps fun b o hb hnf => ⟨o, (other b (noRecord b o hb hnf)).trans hb, rfl⟩) hf ((other a (Ne.symm hTe)).trans he)
      (fun b o hbo => (other b fun q => by rw [q, hnT] at hbo; cases hbo).trans (hkb b o hbo)) hen hd (Array.getElem?_eq_some_iff.mp h1).1 hz fun h' hN => ?_
    obtain ⟨x1, x2, x3, x4⟩ := hN
    exact hQ h' ⟨x1, hen, x2, x3⟩ fun b o hb hnf => x4 b o ((other b (noRecord b o hb hnf)).trans hb) hnf
/-- another object goes: the exception is held as it was -/
theorem held_but {l : List Env} {h h' : Heap} (hh : HeldZ B l a Z L h) (hC : ∃ o, B.get? C = some o ∧ ∀ vs, o.data ≠ .fields vs) (sb : ∀ b, b ≠ C → h'.get? b = h.get? b) : HeldZ (PySem.W.hideAll B [C]) l a Z L h' := by
  obtain ⟨hkb, hen, hl, oe, vs, T, oT, ts, he, hz, hd, h1, hnT, hTe, hT, hdT, h3⟩ := hh
  obtain ⟨oC, eC, hnf⟩ := hC
  have eC2 := hkb C oC eC
  have aC : a ≠ C := fun z => by rw [z, eC2] at he; cases he; exact hnf vs hd
  have TC : T ≠ C := fun z => by rw [z, eC2] at hT; cases hT; exact hnf ts hdT
  have nb : ∀ b, B.get? b = none → (PySem.W.hideAll B [C]).get? b = none := fun b n => by
    cases q : (PySem.W.hideAll B [C]).get? b with
    | none => rfl
    | some o => rw [PySem.W.of_hideAll _ q] at n; cases n
  refine ⟨fun b o e => ?_, nb a hen, ?_, oe, vs, T, oT, ts, by rw [sb a aC]; exact he, hz, hd, h1, nb T hnT, hTe, by rw [sb T TC]; exact hT, hdT, h3⟩
  · have e1 := PySem.W.of_hideAll _ e
    have bC : b ≠ C := fun z => by rw [z, PySem.W.hideAll_none [C] (by simp)] at e; cases e
    rw [sb b bC]; exact hkb b o e1
  · have all : ∀ {l : List Env}, h.FunFrames B l → h'.FunFrames (PySem.W.hideAll B [C]) l := by
      intro l
      induction l with
      | nil => intro _; trivial
      | cons env l ih =>
        intro hl
        obtain ⟨hk, ⟨F, o, hf, hn, ho, hd⟩, hr⟩ := hl
        exact ⟨hk, ⟨F, o, hf, nb F hn, by rw [sb F (fun z => by rw [z, eC] at hn; cases hn)]; exact ho, hd⟩, ih hr⟩
    exact all hl
/-- it is passed on -/
theorem pass_on {α : Type} {what : String} {l : List Env} {P : α → Shared → Prop} (hf : env.frame = some L) (hh : HeldZ B l a Z L s.heap)
    (hE : ∀ h', HeldZ B l a Z L h' → s.heap.UpToSlots h' → E (.ref a) { s with heap := h' }) : wpAny M A (PySem.passOn what (.ref a) env : Sem α) P E s := by
  have hh0 := hh
  obtain ⟨hkb, hen, hl, oe, vs, T, oT, ts, he, hz, hd, h1, hnT, hTe, hT, hdT, h3⟩ := hh
  unfold PySem.passOn
  refine wpAny_bind (wpAny_field he hd h1 ?_)
  rw [if_neg (show ¬ ((Value.ref T == Value.none) = true) from by simp)]
  rw [hf]
  refine wpAny_bind (setFlight_onZ hh0 fun h' h2 up => ?_)
  exact wpAny_throw (hE h' h2 up)
end
section
variable {X : Cx}
theorem lcX_core {pins : List (Addr × Obj)} {s : Shared} {σ : St} {H : Hp} {Q : VK} {elt tg iter : Expr} {ifs : List Expr} {scope : Scope} {own : List (Str × Nat)} {pos pos' : Pos} {wi : TI} {g : TG} {tt : TT} {te : TE} {WW : WX} {use : Option (Value → Sem Unit)} {Qf : Value → Shared → Prop}
    (hc : X.calm = true) (hN : X.N.Nodup) (I : Inv X pins σ H s) (hi : PI X tg iter wi) (ok : BlkOk X.N X.env.scope scope own)
    (hg : ∀ (s : Shared) (H : Hp) (C : Addr) (cl : List (Str × Addr)) (fp : List Addr), PG (X.blk s H scope (compEnvC scope cl C X.env) fp) tg g) (ht : ∀ (s : Shared) (H : Hp) (C : Addr) (cl : List (Str × Addr)) (fp : List Addr), PTs (X.blk s H scope (compEnvC scope cl C X.env) fp) ifs tt)
    (he : ∀ (s : Shared) (H : Hp) (C : Addr) (cl : List (Str × Addr)) (fp : List Addr) (pn : List (Addr × Obj)) (xe : Value → Shared → Prop), Takes ((X.blk s H scope (compEnvC scope cl C X.env) fp).tr pn xe) (fun cls d _ H' => WW cls d σ H') → PassesOwn (model X.prog X.w) X.A (compEnvC scope cl C X.env) xe → PE ((X.blk s H scope (compEnvC scope cl C X.env) fp).tr pn xe) elt te)
    (hst : X.stack = X.env :: X.outer) (hfr : X.env.frame = some X.env.locals) (tk : Takes X WW) (hs : ∀ x, foldedSetIterable iter X.env x = pure x)
    (h : tLc wi g tt te (own.map (·.2)) σ H Q)
    (hRR : ∀ D C s' m H', Inv X pins σ H' s' → Q (.ref D) H' → s'.heap.Ns C m → FpOk X pins H' C → compPost (model X.prog X.w) X.A X.xe use Qf (.ref D) C (.ok .next) s') :
    wpAny (model X.prog X.w) X.A (comprehension (.ListComp elt [⟨tg, iter, ifs, 0⟩] scope pos) scope X.env pos' (newList []) false (eval iter X.env) use) Qf X.xe s := by
  have hfree : ∀ y ∈ scope.names, y.2 = .free → ∃ c, X.env.cells.lookup y.1 = some c := fun y hy e => by
    rcases ok.free y hy e with k | k
    · exact I.ok.has _ (.inl k)
    · exact I.ok.has _ (.inr k)
  refine comprehensionX rfl hs (closure_ok hfree) ok.kind (fun y hy e => by rw [ok.uniq y hy, e])
    (thn (hi.run pins s σ H _ I h) fun xv s1 hx => thn hx fun itv s2 h2 => ?_)
  obtain ⟨it, fp, tn, J, H2, e, I2, T, st2, f2, q⟩ := h2
  subst e
  refine wpAny_newObj_type (newEnv_comp ⟨rfl, ?_⟩) (by show 0 ≤ sizeLine; decide)
  generalize hD : s2.heap.objs.size = D
  have hDn : H2 D = none := I2.hok.fresh (Nat.le_of_eq hD)
  obtain ⟨W, ⟨m0, w0⟩, turn⟩ := q D hDn
  -- the new list
  generalize hs3 : ({ s2 with heap := s2.heap.push { cls := .type "list", data := .seq ([] : List Value).toArray } } : Shared) = s3
  have I3 : Inv X pins σ (upd H2 D (.lst [])) s3 := by
    rw [← hs3]
    refine I2.laid (t' := s2.toks) (fun b o e => Heap.get?_push_of_some _ e) (Nat.le_of_eq hD) ⟨Nat.zero_le _, [], 0, .nil, ?_⟩
    rw [← hD]
    exact Heap.get?_push_size _ rfl
  have h3 : s3.heap = s2.heap.push { cls := .type "list", data := .seq ([] : List Value).toArray } := by rw [← hs3]
  have sz : ∀ b ∈ fp, b < s2.heap.objs.size := fun b hb => by
    obtain ⟨o, e, _⟩ := T.obj _ _ st2 b hb
    exact Heap.lt_size e
  have f3 : ∀ b ∈ fp, FpOk X pins (upd H2 D (.lst [])) b ∧ b < s3.heap.objs.size := fun b hb => by
    have hlt := sz b hb
    refine ⟨⟨?_, (f2 b hb).2⟩, by rw [h3, Heap.size_push]; exact Nat.lt_succ_of_lt hlt⟩
    rw [upd_ne (by rw [← hD]; exact Nat.ne_of_lt hlt)]
    exact (f2 b hb).1
  have st3 : tn 0 s3.heap := T.keep _ _ _ st2 fun b _ o e => by rw [h3]; exact Heap.get?_push_of_some _ e
  have I4 := block_start I3 ok hN f3
  have pg := hg s3 (upd H2 D (.lst [])) s3.heap.objs.size (cellsFrom (s3.heap.objs.size + 1) scope.names (cloFrom X.env.cells scope.names [])) fp
  have pt := ht s3 (upd H2 D (.lst [])) s3.heap.objs.size (cellsFrom (s3.heap.objs.size + 1) scope.names (cloFrom X.env.cells scope.names [])) fp
  have pe := he s3 (upd H2 D (.lst [])) s3.heap.objs.size (cellsFrom (s3.heap.objs.size + 1) scope.names (cloFrom X.env.cells scope.names [])) fp
  have cF0 : (compEnvC scope (cellsFrom (s3.heap.objs.size + 1) scope.names (cloFrom X.env.cells scope.names [])) s3.heap.objs.size X.env).frame = X.env.frame := rfl
  show codeAny _ _ (.compStart (.ListComp elt [⟨tg, iter, ifs, 0⟩] scope pos) 0 (.ref it) (.ref D) (compEnvC scope (cellsFrom (s3.heap.objs.size + 1) scope.names (cloFrom X.env.cells scope.names [])) s3.heap.objs.size X.env)) (compPostX (model X.prog X.w) X.A X.xe X.env.frame use Qf (.ref D) s3.heap.objs.size) { s3 with heap := pushCells (s3.heap.push { cls := .type "dict", data := .dict #[] }) scope.names }
  have nfp : ∀ b ∈ fp, (upd H2 D (.lst [])) b = none := fun b hb => (f3 b hb).1.1
  generalize hce : compEnvC scope (cellsFrom (s3.heap.objs.size + 1) scope.names (cloFrom X.env.cells scope.names [])) s3.heap.objs.size X.env = ce at I4 pg pt pe cF0 ⊢
  have cL : ce.locals = s3.heap.objs.size := by subst hce; rfl
  generalize hH3 : upd H2 D (.lst []) = H3 at I3 I4 pg pt pe w0 nfp f3
  generalize hs4 : ({ s3 with heap := pushCells (s3.heap.push { cls := .type "dict", data := .dict #[] }) scope.names } : Shared) = s4 at I4 ⊢
  have st4 : tn 0 s4.heap := T.keep _ _ _ st3 fun b _ o e => by rw [← hs4]; exact pushCells_keeps _ _ _ _ (Heap.get?_push_of_some _ e)
  have stat : ∀ {σ' : St} {H' : Hp} {s' : Shared}, Inv (X.blk s3 H3 scope ce fp) [] σ' H' s' → (∀ b ∈ fp, H' b = none) → ∀ b ∈ fp, FpOk (X.blk s3 H3 scope ce fp) [] H' b := fun {σ' H' s'} I' hn b hb =>
    ⟨hn b hb, (I'.ok.exf b hb).1, I'.ok.exfs b hb, .inl hb, fun x c e => (I'.ok.exf b hb).2 x c e, fun p hp => absurd (show p ∈ ([] : List (Addr × Obj)) ++ [] from hp) (by simp)⟩
  have loop : codeAny (model X.prog X.w) X.A (.compLoop (.ListComp elt [⟨tg, iter, ifs, 0⟩] scope pos) 0 (.ref it) (.ref D) ce) (compPostX (model X.prog X.w) X.A X.xe X.env.frame use Qf (.ref D) s3.heap.objs.size) s4 := by
    refine compLoop_any (fun n s' => ∃ i H', Inv (X.blk s3 H3 scope ce fp) [] (wipe σ (own.map (·.2))) H' s' ∧ tn i s'.heap ∧ (∀ b ∈ fp, H' b = none) ∧ W i n H') ?_ m0 ⟨0, H3, I4, st4, nfp, w0⟩
    rintro n s5 ⟨i, H5, I5, st5, n5, w5⟩
    rcases turn i n H5 w5 with ⟨stop, qq⟩ | ⟨go, Nx, hNx, step⟩
    · have td := T.done (X.blk s3 H3 scope ce fp) rfl rfl rfl hc i [] s5 _ H5 (fun _ _ => False) I5 (stat I5 n5) st5 stop
      refine thnF td fun r s6 ⟨hr, I6⟩ => ?_
      subst hr
      -- back in the def's context
      have I7 : Inv X pins σ H5 s6 := I3.call' (ch := fp) I6.os I6.base I6.hok I6.bare fun b hb => ⟨(f3 b hb).1.2.2.2.1, (f3 b hb).1.2.1, (f3 b hb).1.2.2.2.2.1, (f3 b hb).1.2.2.2.2.2⟩
      have nC : H5 s3.heap.objs.size = none := by
        have z : H5 ce.locals = none := I6.free
        rw [cL] at z
        exact z
      obtain ⟨m, hn, _⟩ := I6.loc
      have hn : s6.heap.Ns ce.locals m := hn
      rw [cL] at hn
      exact hRR D s3.heap.objs.size s6 m H5 I7 qq hn (I3.fpOk (Nat.le_refl _) nC)
    · have ti := T.item (X.blk s3 H3 scope ce fp) rfl rfl rfl hc i [] s5 _ H5 (fun _ _ => False) I5 (stat I5 n5) st5 go
      refine thnF ti fun r s6 ⟨u, hr, h6⟩ => ?_
      subst hr
      refine thnF h6 fun _ s7 ⟨x, H7, I7, r7, y7, st7, n7⟩ => ?_
      have I7' := I7.pinned (stat I7 n7) (T.obj _ _ st7)
      refine thnF (pg.run _ s7 _ H7 x u _ I7' r7 (step x H7 y7)) fun _ s8 ⟨σ8, H8, I8, hw8, q8⟩ => ?_
      refine thnF (pt.run _ s8 σ8 H8 _ I8 q8) fun b s9 ⟨H9, I9, q9⟩ => ?_
      -- the turn's end
      have fin : ∀ {s' : Shared} {H' : Hp}, Inv (X.blk s3 H3 scope ce fp) ([] ++ pinsAt fp s7.heap) σ8 H' s' → Nx H' → ∃ m, m < n ∧ ∃ i H', Inv (X.blk s3 H3 scope ce fp) [] (wipe σ (own.map (·.2))) H' s' ∧ tn i s'.heap ∧ (∀ b ∈ fp, H' b = none) ∧ W i m H' := fun {s' H'} I' nx => by
        obtain ⟨m', hm, w'⟩ := hNx H' nx
        have pin' : ∀ b ∈ fp, ∀ o, s7.heap.get? b = some o → s'.heap.get? b = some o ∧ H' b = none := fun b hb o e =>
          let z := I'.pin (b, o) (List.mem_append_right _ (List.mem_append_right _ (mem_pinsAt hb e)))
          ⟨z.1, z.2.1⟩
        have hl : (wipe σ (own.map (·.2))).length = σ8.length := by rw [← hw8, wipe_length]
        refine ⟨m', hm, i + 1, H', (I'.unpinned (pins := [])).weak hl (fun j v e => ?_), T.keep _ _ _ st7 fun b hb o e => (pin' b hb o e).1, fun b hb => ?_, w'⟩
        · rw [← hw8] at e
          exact (wipe_some e).1
        · obtain ⟨o, e, _⟩ := T.obj _ _ st7 b hb
          exact (pin' b hb o e).2
      cases b with
      | false =>
        simp only [Bool.false_eq_true, if_false] at q9 ⊢
        exact fin I9 q9
      | true =>
        simp only [if_true] at q9 ⊢
        have okb : (X.blk s3 H3 scope ce fp).Ok := I9.ok
        refine wpAny_mono ((pe ((X.blk s3 H3 scope ce fp).pn ++ ([] ++ pinsAt fp s7.heap)) (notedBy (model X.prog X.w) X.A ce fun e s' => compPostX (model X.prog X.w) X.A X.xe X.env.frame use Qf (.ref D) s3.heap.objs.size (.error e) s') (fun u s10 xx => ?_) PassesOwn.looking).run [] s9 σ8 H9 _ (I9.toTry _) q9) (fun z s10 hz => ?_) fun u s10 xx => xx
        case refine_2 =>
          obtain ⟨yv, H10, I10, r10, acc, hD10, hz10, nx⟩ := hz
          have I10 := I10.ofTry okb
          exact app_ok (X := X.blk s3 H3 scope ce fp) I10 hD10 hz10 r10 fun s11 I11 => fin I11 nx
        · -- it leaves the comprehension
          obtain ⟨a, B, sI, pins', σ', H', cls, d, rfl, J', nb, up, sky, na, os, ag, w⟩ := xx
          have J := J'.ofTry okb
          have nCL : s3.heap.objs.size ≠ X.env.locals := Nat.ne_of_gt I3.lt
          have nCf : s3.heap.objs.size ∉ frs X.stack := fun z => by
            rcases List.mem_cons.mp (I3.stkSub _ z) with e | e
            · exact nCL e
            · exact I3.nofs (Nat.le_refl _) e
          have sky : Sky B (X.env :: X.outer) a (Zc cls d) s3.heap.objs.size s10.heap := by rw [← hst, ← cL]; exact sky
          have hA : X.A.frames = some (X.env :: X.outer) := by rw [I3.ok.frames, hst]
          show wpAny _ _ (noteFrame (.ref a) ce) _ _ _
          rw [noteFrame_eq cF0]
          refine Sky.note Zc.steady hA hfr nCL sky fun h1 held1 up1 => ?_
          obtain ⟨m, hn, _⟩ := J.loc
          obtain ⟨oC, es, ep, hoC, hdC, rest⟩ := hn
          have hoC : sI.heap.get? ce.locals = some oC := hoC
          rw [cL] at hoC
          have eB : B.get? s3.heap.objs.size = some oC := nb _ _ hoC nCf
          refine ⟨m, ⟨oC, es, ep, held1.1 _ _ eB, hdC, rest⟩, fun h2 sb cenv hc hfe => ?_⟩
          have held2 := held_but held1 ⟨oC, eB, fun vs z => by rw [hdC] at z; cases z⟩ sb.2
          refine pass_on (hfe.trans hfr) held2 fun h3 held3 up3 => tk _ _ ?_
          have J0 : Inv X pins σ H' sI := I3.call' (ch := fp) J.os J.base J.hok J.bare fun b hb => ⟨(f3 b hb).1.2.2.2.1, (f3 b hb).1.2.1, (f3 b hb).1.2.2.2.2.1, (f3 b hb).1.2.2.2.2.2⟩
          have nC : H' s3.heap.objs.size = none := by
            have z : H' ce.locals = none := J.free
            rw [cL] at z
            exact z
          obtain ⟨f0, f1, f2', f3', f4, f5⟩ := I3.fpOk (Nat.le_refl _) nC
          refine ⟨a, PySem.W.hideAll B [s3.heap.objs.size], { sI with heap := PySem.W.hideAll sI.heap [s3.heap.objs.size] }, pins, σ, H', cls, d, rfl, J0.turned (t' := sI.toks) (fun b o hb e => PySem.W.hideAll_get _ e (by simpa using hb)) f0 f1 f3' f4 f5,
            fun b o e hb => ?_, fun b o e hnf => ?_, .inr (.inr (by rw [hst]; exact held3)), na, os, ag, w⟩
          · have e1 := PySem.W.of_hideAll _ e
            have bC : b ≠ s3.heap.objs.size := fun z => by rw [z, PySem.W.hideAll_none _ (by simp)] at e; cases e
            exact PySem.W.hideAll_get _ (nb b o e1 hb) (by simpa using bC)
          · have e1 := PySem.W.of_hideAll _ e
            have bC : b ≠ s3.heap.objs.size := fun z => by rw [z, PySem.W.hideAll_none _ (by simp)] at e; cases e
            obtain ⟨sl, q1⟩ := (up.trans up1) b o e1 hnf
            have q2 : h2.get? b = some { o with slots := sl } := (sb.2 b bC).trans q1
            obtain ⟨sl2, q3⟩ := up3 b _ q2 hnf
            exact ⟨sl2, q3⟩
  exact codeAny_compStart_list loop (T.self X.A 0 _ _ _ st4 loop)
/-- as a value -/
theorem pe_lcX {elt tg iter : Expr} {ifs : List Expr} {scope : Scope} {own : List (Str × Nat)} {pos : Pos} {wi : TI} {g : TG} {tt : TT} {te : St → TE} {WW : WX} (hc : X.calm = true) (hN : X.N.Nodup) (hi : PI X tg iter wi) (ok : BlkOk X.N X.env.scope scope own)
    (hg : ∀ (s : Shared) (H : Hp) (C : Addr) (cl : List (Str × Addr)) (fp : List Addr), PG (X.blk s H scope (compEnvC scope cl C X.env) fp) tg g) (ht : ∀ (s : Shared) (H : Hp) (C : Addr) (cl : List (Str × Addr)) (fp : List Addr), PTs (X.blk s H scope (compEnvC scope cl C X.env) fp) ifs tt)
    (he : ∀ (σ : St) (s : Shared) (H : Hp) (C : Addr) (cl : List (Str × Addr)) (fp : List Addr) (pn : List (Addr × Obj)) (xe : Value → Shared → Prop), Takes ((X.blk s H scope (compEnvC scope cl C X.env) fp).tr pn xe) (fun cls d _ H' => WW cls d σ H') → PassesOwn (model X.prog X.w) X.A (compEnvC scope cl C X.env) xe → PE ((X.blk s H scope (compEnvC scope cl C X.env) fp).tr pn xe) elt (te σ)) (hst : X.stack = X.env :: X.outer) (hfr : X.env.frame = some X.env.locals) (tk : Takes X WW) (hs : ∀ x, foldedSetIterable iter X.env x = pure x := by intro _; rfl) :
    PE X (.ListComp elt [⟨tg, iter, ifs, 0⟩] scope pos) (fun σ H Q => tLc wi g tt (te σ) (own.map (·.2)) σ H Q) := by
  refine ⟨fun pins s σ H Q I h => ?_⟩
  rw [eval_ListComp]
  refine lcX_core hc hN I hi ok hg ht (he σ) hst hfr tk hs h fun D C s' m H' I' q hn f => ⟨m, hn, fun h'' sb => ?_⟩
  obtain ⟨f0, f1, f2, f3, f4, f5⟩ := f
  exact ⟨.ref D, H', I'.turned (t' := s'.toks) (fun b o hb e => (sb.2 b hb).trans e) f0 f1 f3 f4 f5, rfl, q⟩
/-- name = [..] on one line, the name a local -/
theorem ps_setLcX {i : Nat} {y : Str} {py : Pos} {elt tg iter : Expr} {ifs : List Expr} {scope : Scope} {own : List (Str × Nat)} {pos spos : Pos} {wi : TI} {g : TG} {tt : TT} {te : St → TE} {WW : WX} (hc : X.calm = true) (hN : X.N.Nodup) (hy : X.N[i]? = some y) (hyl : X.env.scope.names.lookup y = some .local)
    (hsw : swapsWith (.ListComp elt [⟨tg, iter, ifs, 0⟩] scope pos) (some (.Name y py)) spos.line X.env = pure true) (hi : PI X tg iter wi) (ok : BlkOk X.N X.env.scope scope own)
    (hg : ∀ (s : Shared) (H : Hp) (C : Addr) (cl : List (Str × Addr)) (fp : List Addr), PG (X.blk s H scope (compEnvC scope cl C X.env) fp) tg g) (ht : ∀ (s : Shared) (H : Hp) (C : Addr) (cl : List (Str × Addr)) (fp : List Addr), PTs (X.blk s H scope (compEnvC scope cl C X.env) fp) ifs tt)
    (he : ∀ (σ : St) (s : Shared) (H : Hp) (C : Addr) (cl : List (Str × Addr)) (fp : List Addr) (pn : List (Addr × Obj)) (xe : Value → Shared → Prop), Takes ((X.blk s H scope (compEnvC scope cl C X.env) fp).tr pn xe) (fun cls d _ H' => WW cls d σ H') → PassesOwn (model X.prog X.w) X.A (compEnvC scope cl C X.env) xe → PE ((X.blk s H scope (compEnvC scope cl C X.env) fp).tr pn xe) elt (te σ)) (hst : X.stack = X.env :: X.outer) (hfr : X.env.frame = some X.env.locals) (tk : Takes X WW) (hs : ∀ x, foldedSetIterable iter X.env x = pure x := by intro _; rfl) :
    PS X (.Assign [.Name y py] (.ListComp elt [⟨tg, iter, ifs, 0⟩] scope pos) spos) (fun D σ H => tLc wi g tt (te σ) (own.map (·.2)) σ H fun x H1 => gName i x σ H1 D.nx) := by
  refine ⟨fun pins s σ H D I h => ?_⟩
  rw [exec_Assign_Name_used _ _ _ _ hsw]
  refine wpAny_bind (wpAny_standAt (wpAny_bind ?_))
  show wpAny _ X.A (do let _ ← comprehension (.ListComp elt [⟨tg, iter, ifs, 0⟩] scope pos) scope X.env (firstIterPos [⟨tg, iter, ifs, 0⟩] pos) (newList []) false (eval iter X.env) (some (assign (.Name y py) X.env))) _ _ s
  have h : tLc wi g tt (te σ) (own.map (·.2)) σ H (fun x H1 => gName i x σ H1 D.nx) := h
  refine wpAny_bind (thn (lcX_core (Qf := fun _ s' => SP X pins D .next s') hc hN I hi ok hg ht (he σ) hst hfr tk hs h fun L C s' m H' I' q hn f => ?_) fun _ s' hq => wpAny_pure (wpAny_pure hq))
  show wpAny _ _ (assign (.Name y py) X.env (.ref L)) _ _ _
  refine wpAny_assign_Name (store_ok2 (v := V.ref L) I' hN hy (.inl hyl) rfl (fun s2 I2 ⟨a, sb, ha⟩ => ?_) (.inr hyl))
  obtain ⟨f0, f1, f2, f3, f4, f5⟩ := f
  have haC : C ≠ a := by
    rcases ha with z | z
    · rw [z]; exact f1
    · exact fun e => f4 y a z e.symm
  refine ⟨m, hn.sameBut sb haC, fun h3 sb3 => ?_⟩
  exact ⟨_, H', I2.turned (t' := s2.toks) (fun b o hb e => (sb3.2 b hb).trans e) f0 f1 f3 f4 f5, q⟩
end
end L2

set_option Elab.async false
set_option linter.all false
set_option maxRecDepth 100000
/-! L3, part 10: THE STATEMENTS. -/
namespace L3
open PySem PySem.Spec PyProof.Rows L2
variable [Mo]
/-- what is wished behind a statement, told over the small language -/
def KD (T : Tb) (h : Hq) (H : Hp) (D : Ends) (W : WX) : Dn where
  nx := fun ρ' h' => ∀ σ' H', RE h' H' ρ' σ' → RH h' H' → Stab h H h' H' → D.nx σ' H'
  rt := KQ h H D.rt
  ex := fun x ρ' h' => ∀ σ' H', RE h' H' ρ' σ' → RH h' H' → Stab h H h' H' → W (.ref (T.xc x)) none σ' H'
theorem KD.later {T : Tb} {h h1 : Hq} {H H1 : Hp} {D : Ends} {W : WX} (st : Stab h H h1 H1) : Dn.le (KD T h H D W) (KD T h1 H1 D W) :=
  ⟨fun _ _ k σ' H' a b c => k σ' H' a b (st.trans c), fun _ _ k => KQ.later st k, fun _ _ _ k σ' H' a b c => k σ' H' a b (st.trans c)⟩
def TSx (T : Tb) (W : WX) (w : WS) : TS := fun D σ H => ∃ ρ h, RE h H ρ σ ∧ RH h H ∧ w (KD T h H D W) ρ h
theorem _root_.L2.PS.imp {X : Cx} {e : Stmt} {t t' : TS} (p : PS X e t) (k : ∀ D σ H, t' D σ H → t D σ H) : PS X e t' := ⟨fun pins s σ H D I h => p.run pins s σ H D I (k D σ H h)⟩
theorem _root_.L2.PSs.imp {X : Cx} {e : List Stmt} {t t' : TS} (p : PSs X e t) (k : ∀ D σ H, t' D σ H → t D σ H) : PSs X e t' := ⟨fun pins s σ H D I h => p.run pins s σ H D I (k D σ H h)⟩
theorem kex {T : Tb} {h : Hq} {H : Hp} {D : Ends} {W : WX} {ρ : Env3} {σ : L2.St} (re : RE h H ρ σ) : ∀ x h', (KD T h H D W).ex x ρ h' → KE T h H W σ x h' := fun x h' k H' rh st => k σ H' (re.keep st) rh st

/-! ### how values are stored -/
theorem sw_plain {v : Expr} {t : Option Expr} {l : Nat} {env : PySem.Env} (h : isComp v = false) : swapsWith v t l env = pure false := by
  cases v <;> first | rfl | (cases h)
theorem sws_plain {v t : Expr} {l : Nat} {env : PySem.Env} (h : isComp v = false) : swapsWithSole [t] v l env = pure false := sw_plain h
theorem sws_other {v t : Expr} {l : Nat} {env : PySem.Env} (h : asName t = none) : swapsWithSole [t] v l env = pure false := by
  show swapsWith v (some t) l env = pure false
  cases v <;> first | rfl | skip
  all_goals (cases t <;> first | rfl | (cases h))
theorem sw_cell {e : Expr} {gs : List Comprehension} {s : Scope} {pos py : Pos} {y : Str} {l : Nat} {env : PySem.Env} (hy : env.scope.names.lookup y = some .cell) : swapsWithSole [.Name y py] (.ListComp e gs s pos) l env = pure false := by
  have ky : env.kindOf y = some .cell := hy
  show swapsWith (.ListComp e gs s pos) (some (.Name y py)) l env = pure false
  unfold swapsWith
  simp only [ky]
  have e1 : ((some NameKind.cell : Option NameKind) == some NameKind.local) = false := rfl
  simp only [e1, Bool.and_false, Bool.false_and]
theorem stores_plain {v t : Expr} {env : PySem.Env} (h : isTupD v = false) : swappedStores [t] v env = pure none := by
  cases v <;> first | (cases h; done) | skip
  all_goals (cases t <;> rfl)
theorem stores_name {v : Expr} {y : Str} {p : Pos} {env : PySem.Env} : swappedStores [.Name y p] v env = pure none := by cases v <;> rfl
theorem stores_sub {v a b : Expr} {p : Pos} {env : PySem.Env} : swappedStores [.Subscript a b p] v env = pure none := by cases v <;> rfl
theorem asg_sub {o i : Expr} {pos : Pos} {env : PySem.Env} (h : isSlice i = false) : ∀ v, assign (.Subscript o i pos) env v = (do
      let ov ← holding [v] (eval o env)
      let iv ← holding [v, ov] (eval i env)
      standAt pos
      holding [v, ov, iv] (setItem ov iv v)
      release [v, ov, iv] []) := by
  intro v
  cases i <;> first | rfl | (cases h)

section
variable {T : Tb} {F : Fs} {n : Nat}
theorem KQ.of_KD {T : Tb} {h : Hq} {H : Hp} {D : Ends} {W : WX} : (KD T h H D W).rt = KQ h H D.rt := rfl
/-- a value at its targets -/
theorem asg_out {X : Cx} {W : WX} {e : Ex} {tg : Tg} {D : Ends} {σ : L2.St} {H : Hp} (q : TSx T W (wpS (CN F n) (.asg tg e)) D σ H) : tAsg (TEx T W (wpE (CN F n) e)) (GTx tg) D σ H := by
  obtain ⟨ρ, h, re, rh, w⟩ := q
  refine stepE (CN_mono F n) re rh w (kex re) fun v h1 V H1 re1 rh1 st1 rv w => ?_
  obtain ⟨ρ1, e1, w⟩ := optW_ex w
  exact ⟨h1, v, ρ, ρ1, re1, rh1, rv, e1, fun σ' re' _ _ => w σ' H1 re' rh1 st1⟩
/-- a comprehension whose element may be refused -/
theorem sLCX {W : WX} {C : CT} (kc : MonoC C C) {fz : Bool} {elt : Ex} {tg : Tg} {it : Itx} {own : List Nat} {σ : L2.St} {H : Hp} {ρ : Env3} {h : Hq} {Q : VK} {QR : QV} {ER : QE} (ho : own = tgS tg) (re : RE h H ρ σ) (rh : RH h H)
    (hQ : ∀ v h', QR v h' → KQ h H Q v h') (hE : ∀ x h', ER x h' → KE T h H W σ x h')
    (q : wpI C it ρ h (fun items keep h1 => ∀ p, h1 p = none → compW tg (fun ρ1 h2 K => K true h2) (fun ρ1 h2 K => wpE C elt ρ1 h2 K ER) keep p (compFin fz p QR) (wipe3 ρ own) items (up h1 p (.lst []))) ER) :
    tLc (TIx T W (wpI C it)) (GTx tg) tYes (TEx T (fun cls d _ H' => W cls d σ H') (wpE C elt)) own σ H Q := by
  refine ⟨ρ, h, re, rh, wpI_mono kc it _ _ _ _ _ _ (fun items keep h1 q H1 J rh1 st js D nD => ?_) hE q⟩
  have q := q D (rh1.free nD)
  have st0 := Stab.cell (h := h1) (o := .lst []) (c := .lst []) nD
  refine ⟨fun i m H' => ∃ h', RH h' H' ∧ Stab h1 H1 h' H' ∧ m = items.length - i ∧ i ≤ items.length ∧
    compW tg (fun ρ1 h2 K => K true h2) (fun ρ1 h2 K => wpE C elt ρ1 h2 K ER) keep D (compFin fz D QR) (wipe3 ρ own) (items.drop i) h',
    ⟨items.length, _, rh1.put st0 ⟨[], upd_same, RVs.nil⟩, st0, by omega, Nat.zero_le _, q⟩, fun i m H' hW => ?_⟩
  obtain ⟨h', rh', st', rfl, hi, w'⟩ := hW
  by_cases hlt : i < items.length
  · have ed : items.drop i = items[i] :: items.drop (i + 1) := List.drop_eq_getElem_cons hlt
    rw [ed] at w'
    obtain ⟨kp, w'⟩ := w'
    obtain ⟨ρ1, e1, w'⟩ := optW_ex w'
    refine .inr ⟨js.go i h' H' rh' st' kp hlt, fun H'' => ∃ h', RH h' H'' ∧ Stab h1 H1 h' H'' ∧ compW tg (fun ρ1 h2 K => K true h2) (fun ρ1 h2 K => wpE C elt ρ1 h2 K ER) keep D (compFin fz D QR) (wipe3 ρ own) (items.drop (i + 1)) h',
      fun H'' ⟨h2, a, b, c⟩ => ⟨_, by omega, h2, a, b, rfl, hlt, c⟩, fun x H2 hy => ?_⟩
    obtain ⟨v, ev, rh2, st2, rv⟩ := js.yld i h' H' x H2 rh' st' kp hlt hy
    rw [List.getElem?_eq_getElem hlt] at ev
    cases ev
    have re' := ((re.keep (st.trans (st'.trans st2))).wipe own)
    refine ⟨h', items[i], wipe3 ρ own, ρ1, re', rh2, rv, e1, fun σ' re1 hl ho' => ⟨?_, ?_⟩⟩
    · subst ho
      rw [wipe_ext hl fun j hj => (ho' j hj)]
      exact wipe_ext (wipe_length _ _) fun j hj => wipe_get hj
    · show TEx T (fun cls d _ H' => W cls d σ H') (wpE C elt) σ' H2 _
      have w3 : wpE C elt ρ1 h' (fun v h2 => optW (lstO h2 D) fun acc => acc.length < 1000000 ∧ compW tg (fun ρ1 h2 K => K true h2) (fun ρ1 h2 K => wpE C elt ρ1 h2 K ER) keep D (compFin fz D QR) (wipe3 ρ own) (items.drop (i + 1)) (up h2 D (.lst (acc ++ [v])))) ER := w'
      refine stepE kc re1 rh2 w3 (fun _ _ k => (hE _ _ k).later (st.trans (st'.trans st2))) fun v4 h4 V4 H4 re4 rh4 st4 rv4 w4 => ?_
      obtain ⟨acc, ea, hz, w4⟩ := optW_ex w4
      have hc := lstO_some.mp ea
      obtain ⟨vs, e5, r5⟩ := rh4 D _ hc
      have s5 := Stab.write (H := H4) (o := .lst (vs ++ [V4])) (d := .lst (acc ++ [v4])) hc
      exact ⟨vs, e5, by rw [← r5.length]; exact len_lt hz, _, rh4.put s5 ⟨_, upd_same, RVs.keep s5 (r5.app (.cons rv4 .nil))⟩, st'.trans (st2.trans (st4.trans s5)), w4⟩
  · have ed : items.drop i = [] := List.drop_eq_nil_of_le (by omega)
    rw [ed] at w'
    obtain ⟨kp, w'⟩ := w'
    refine .inl ⟨js.stop i h' H' rh' st' kp (by omega), ?_⟩
    have stt := st.trans st'
    cases fz with
    | true =>
      obtain ⟨acc, ea, w6⟩ := optW_ex (show optW (lstO h' D) (fun acc => QR (.fl acc) (er h' D)) from w')
      obtain ⟨vs, e5, r5⟩ := rh' D _ (lstO_some.mp ea)
      exact hQ _ _ w6 _ _ rh'.er (stt.trans Stab.er) ⟨D, vs, rfl, er_same, e5, RVs.keep Stab.er r5⟩
    | false => exact hQ _ _ (show QR (.ref D) h' from w') _ _ rh' stt rfl
theorem asgL_out {X : Cx} {W : WX} {x f g : Nat} {q : Str} {js : List Nat} {es : Exs} {D : Ends} {σ : L2.St} {H : Hp} (w : TSx T W (wpS (CN F n) (.asgL x f g q js es)) D σ H) : tAsg (TEx T W (wL (CN F n) f g q js es)) (GTx (.name x)) D σ H := by
  obtain ⟨ρ, h, re, rh, w0, w⟩ := w
  refine ⟨ρ, h, re, rh, w0, optW_mono (fun ws w => wpA_mono (CN_mono F n) es _ _ _ _ _ _ (fun vs h1 w => CN_mono F n _ _ _ _ _ _ _ (fun v h2 nk => ⟨nk.1, nk.2.choose, nk.2.choose_spec.1, fun V H1 rh1 st1 rv => ?_⟩) (fun _ _ z => z) w) (fun _ _ z => z) w) w⟩
  exact ⟨_, v, ρ, _, re.keep st1, rh1, rv, rfl, fun σ' re' _ _ => nk.2.choose_spec.2 σ' H1 re' rh1 st1⟩
theorem sFor {X : Cx} {W : WX} {C : CT} (kc : MonoC C C) {tg : Tg} {it : Itx} {b : Sms} {D : Ends} {σ : L2.St} {H : Hp} (q : TSx T W (wpS C (.for tg it b)) D σ H) : tFor (TIx T W (wpI C it)) (GTx tg) (TSx T W (wpSs C b)) D σ H := by
  obtain ⟨ρ, h, re, rh, w⟩ := q
  refine ⟨ρ, h, re, rh, wpI_mono kc it _ _ _ _ _ _ (fun items keep h1 q H1 J rh1 st js => ?_) (kex re) w⟩
  refine ⟨fun i m σ' H' => ∃ ρ' h', RE h' H' ρ' σ' ∧ RH h' H' ∧ Stab h1 H1 h' H' ∧ m = items.length - i ∧ i ≤ items.length ∧ forW tg (wpSs C b) keep (KD T h H D W) (items.drop i) ρ' h',
    ⟨items.length, ρ, h1, re.keep st, rh1, .refl, by omega, Nat.zero_le _, q⟩, fun i m σ' H' hW => ?_⟩
  obtain ⟨ρ', h', re', rh', st', rfl, hi, w'⟩ := hW
  by_cases hlt : i < items.length
  · have ed : items.drop i = items[i] :: items.drop (i + 1) := List.drop_eq_getElem_cons hlt
    rw [ed] at w'
    obtain ⟨kp, w'⟩ := w'
    obtain ⟨ρ1, e1, w'⟩ := optW_ex w'
    refine .inr ⟨js.go i h' H' rh' st' kp hlt, fun σ'' H'' => ∃ ρ'' h'', RE h'' H'' ρ'' σ'' ∧ RH h'' H'' ∧ Stab h1 H1 h'' H'' ∧ forW tg (wpSs C b) keep (KD T h H D W) (items.drop (i + 1)) ρ'' h'',
      fun σ'' H'' ⟨ρ'', h'', a, b, c, d⟩ => ⟨_, by omega, ρ'', h'', a, b, c, rfl, hlt, d⟩, fun x H2 hy => ?_⟩
    obtain ⟨v, ev, rh2, st2, rv⟩ := js.yld i h' H' x H2 rh' st' kp hlt hy
    rw [List.getElem?_eq_getElem hlt] at ev
    cases ev
    refine ⟨h', items[i], ρ', ρ1, re'.keep st2, rh2, rv, e1, fun σ2 re2 _ _ => ⟨ρ1, h', re2, rh2, ?_⟩⟩
    have st3 := st.trans (st'.trans st2)
    exact (wpSs_mono kc b).go w' ⟨fun ρ4 h4 k σ4 H4 a b c => ⟨ρ4, h4, a, b, st'.trans (st2.trans c), k⟩, fun _ _ k => KQ.later st3 k, fun _ _ _ k σ4 H4 a b c => k σ4 H4 a b (st3.trans c)⟩
  · have ed : items.drop i = [] := List.drop_eq_nil_of_le (by omega)
    rw [ed] at w'
    obtain ⟨kp, w'⟩ := w'
    exact .inl ⟨js.stop i h' H' rh' st' kp (by omega), w' σ' H' re' rh' (st.trans st')⟩
theorem sWhl {X : Cx} {W : WX} {C : CT} (kc : MonoC C C) {t : Ex} {b : Sms} {D : Ends} {σ : L2.St} {H : Hp} (q : TSx T W (wpS C (.whl t b)) D σ H) : tWhile (TTx T W (wpT C t)) (TSx T W (wpSs C b)) D σ H := by
  obtain ⟨ρ, h, re, rh, m, w⟩ := q
  refine ⟨fun m σ' H' => ∃ ρ' h', RE h' H' ρ' σ' ∧ RH h' H' ∧ Stab h H h' H' ∧ whlW (fun ρ h1 K => wpT C t ρ h1 K fun x h' => (KD T h H D W).ex x ρ h') (wpSs C b) (KD T h H D W) m ρ' h',
    ⟨m, ρ, h, re, rh, .refl, w⟩, fun m σ' H' ⟨ρ', h', re', rh', st', w'⟩ => ?_⟩
  cases m with
  | zero => exact w'.elim
  | succ m =>
    refine stepT kc re' rh' w' (fun x h2 k H2 rh2 st2 => k σ' H2 (re'.keep st2) rh2 (st'.trans st2)) fun c h2 H2 re2 rh2 st2 w2 => ?_
    cases c with
    | true =>
      rw [if_pos rfl] at w2 ⊢
      refine ⟨fun σ'' H'' => ∃ ρ'' h'', RE h'' H'' ρ'' σ'' ∧ RH h'' H'' ∧ Stab h H h'' H'' ∧ whlW (fun ρ h1 K => wpT C t ρ h1 K fun x h' => (KD T h H D W).ex x ρ h') (wpSs C b) (KD T h H D W) m ρ'' h'',
        fun σ'' H'' q => ⟨m, by omega, q⟩, ρ', h2, re2, rh2, ?_⟩
      have st3 := st'.trans st2
      exact (wpSs_mono kc b).go w2 ⟨fun ρ4 h4 k σ4 H4 a b c => ⟨ρ4, h4, a, b, st3.trans c, k⟩, fun _ _ k => KQ.later st3 k, fun _ _ _ k σ4 H4 a b c => k σ4 H4 a b (st3.trans c)⟩
    | false =>
      rw [if_neg Bool.false_ne_true] at w2 ⊢
      exact w2 σ' H2 re2 rh2 (st'.trans st2)

/-- a store, in a list or a dict -/
theorem set_any {X : Cx} (hu : X.A.units + 1 < cLine) : PSet X (fun o i v H Q => rSetL o i v H Q ∨ ∃ a H', o = .ref a ∧ DPut H a i v H' ∧ Q H') := by
  intro pins s σ H o i v ov iv u Q I ro ri rv h
  rcases h with h | ⟨a, H', e, g, q⟩
  · exact set_list pins s σ H o i v ov iv u Q I ro ri rv h
  · subst e
    obtain rfl : ov = Value.ref a := ro
    exact d_setItem hu I g ri rv fun s' I' => ⟨H', I', q⟩
theorem pss_lock {X : Cx} {sts : List Stmt} {t : TS} (h : PSs X sts t) : PSs X sts (fun D σ H => t D σ H ∨ ∃ d u, H d = some u ∧ Mut (some u) ∧ ∀ od, t D σ (upd H d (.frz od u))) := ⟨fun pins s σ H D I hw => by
  rcases hw with hw | ⟨d, u, hd, mu, hw⟩
  · exact h.run pins s σ H D I hw
  · obtain ⟨od, I1⟩ := I.lock hd mu
    exact h.run pins s σ _ D I1 (hw od)⟩
/-- the frame of a def, as the try rules wish it -/
structure StX (T : Tb) (X : Cx) : Prop where
  hs : X.stack = X.env :: X.outer
  hf : X.env.frame = some X.env.locals
  hx : X.ex = []
  lq : ∀ q, T.lq = some q → X.env.qual ++ "<lambda>" = q ∧ ∃ c, X.env.code = .ref c ∧ LamX.TabB X.base X.mg c (Mo.ta q)
theorem Good.tr {X : Cx} (G : Good T F n X) {pn : List (Addr × Obj)} {xe : Value → Shared → Prop} (o : PassesOwn (model X.prog X.w) X.A X.env xe) : Good T F n (X.tr pn xe) :=
  ⟨G.calm, G.room, G.nd, G.kind, G.fn, G.blt, G.con, o, G.kk, G.xk, G.exo, G.more, G.tab, G.att, G.me, G.mak, G.hot, G.nok, G.nio, G.lam⟩
theorem StX.tr {X : Cx} (S : StX T X) {pn : List (Addr × Obj)} {xe : Value → Shared → Prop} : StX T (X.tr pn xe) := ⟨S.hs, S.hf, S.hx, S.lq⟩
theorem locN_is {X : Cx} {i : Nat} {x : Str} (h : locN X.N X.env.scope i x = true) : X.N[i]? = some x ∧ X.env.scope.names.lookup x = some .local ∧ (x == ("__debug__" : Str)) = false ∧ (x == ("__classdict__" : Str)) = false := by
  unfold locN at h
  obtain ⟨h, h3⟩ := b1 h
  obtain ⟨h1, h2⟩ := b1 h
  obtain ⟨m1, m2, m3⟩ := magic_is (nt h3)
  exact ⟨of_decide_eq_true h1, of_decide_eq_true h2, m1, m2⟩
theorem clsNm {X : Cx} (G : Good T F n X) {c : Nat} {e : Expr} (h : mC T X.env.scope c e = true) (hc : c ∈ T.exs) : ∃ p, e = .Name (xnm c) p ∧ Names X (xnm c) (.ref (Mo.xc c)) ∧ Gl X (xnm c) ∧ (xnm c == ("__debug__" : Str)) = false := by
  unfold mC at h
  obtain ⟨h, _⟩ := b1 h
  obtain ⟨h, _⟩ := b1 h
  obtain ⟨h, h3⟩ := b1 h
  obtain ⟨h1, h2⟩ := b1 h
  obtain ⟨p, rfl, gl, m1, m2⟩ := glo_name (of_decide_eq_true h1) h2 (nt h3)
  exact ⟨p, rfl, ⟨gl, m1, .inl ((G.exo (List.ne_nil_of_mem hc)).nm c hc)⟩, gl, m1⟩
/-- behind 'except C as n: x = n' -/
theorem RE.kept {h : Hq} {H : Hp} {ρ : Env3} {σ : L2.St} {a : Addr} {k i x : Nat} (re : RE h H ρ σ) (rh : RH h H) (na : H a = none) :
    RE h (upd H a (ExcH (Mo.xc k) a)) ((ρ.set x (some (.exc k))).set i none) (((σ.set i (some (.ref a))).set x (some (.ref a))).set i none) := by
  have r1 := re.keep (Stab.alloc (h := h) (o := ExcH (Mo.xc k) a) na)
  refine ⟨by simp only [List.length_set]; exact r1.1, fun j v e => ?_⟩
  by_cases ji : i = j
  · subst ji
    by_cases hl : i < (ρ.set x (some (.exc k))).length
    · rw [List.getElem?_set_self hl] at e; cases e
    · rw [List.getElem?_eq_none (by rw [List.length_set]; omega)] at e; cases e
  · rw [List.getElem?_set_ne ji] at e ⊢
    by_cases jx : x = j
    · subst jx
      have hl : x < ρ.length := by
        by_cases q : x < ρ.length
        · exact q
        · rw [List.getElem?_eq_none (by rw [List.length_set]; omega)] at e; cases e
      rw [List.getElem?_set_self hl] at e
      cases e
      exact ⟨.ref a, List.getElem?_set_self (by rw [List.length_set, ← r1.1]; exact hl), a, rfl, rh.free na, upd_same⟩
    · rw [List.getElem?_set_ne jx] at e ⊢
      rw [List.getElem?_set_ne ji]
      exact r1.2 j v e
theorem con_is {v : Val} {u : Expr} (h8 : conB v u = true) : ∃ V : V, (∀ (h : Hq) (H : Hp), RV h H v V) ∧ isComp u = false ∧ ∀ X' : Cx, PE X' u (tC V) := by
  unfold conB at h8
  split at h8
  · obtain ⟨k, p, rfl⟩ := asBl_is (of_decide_eq_true h8)
    exact ⟨_, fun _ _ => rfl, rfl, fun _ => pe_bl⟩
  · obtain ⟨k, p, rfl⟩ := asInt_is (of_decide_eq_true h8)
    exact ⟨_, fun _ _ => rfl, rfl, fun _ => pe_int⟩
  · obtain ⟨k, p, rfl⟩ := asNon_is h8
    exact ⟨_, fun _ _ => rfl, rfl, fun _ => pe_non⟩
  · obtain ⟨k, p, rfl⟩ := asStr3_is (of_decide_eq_true h8)
    exact ⟨_, fun _ _ => rfl, rfl, fun _ => pe_str⟩
  · cases h8
theorem hds_ok {X : Cx} {W : WX} (G : Good T F n X) : ∀ {hs : List (Nat × Nat × Val)} {hds : List ExceptHandler}, mHs T X.N X.env.scope hs hds = true →
    ∃ l, HdsOk X hds l ∧ ∀ (D : Ends) (h : Hq) (H : Hp) (k : Nat) (ρ' : Env3) (h' : Hq) (σ' : L2.St) (H' : Hp), k ∈ T.exs → hsW (KD T h H D W) hs k ρ' h' → RE h' H' ρ' σ' → RH h' H' → Stab h H h' H' → wMany X.K W D l (.ref (T.xc k)) none σ' H'
  | [], [], _ => ⟨[], .nil, fun D h H k ρ' h' σ' H' hk w re' rh' st' => w _ _ re' rh' st'⟩
  | [], _ :: _, h => by simp [mHs] at h
  | _ :: _, [], h => by simp [mHs] at h
  | (c, x, v) :: r, hd :: hds, h => by
    unfold mHs at h
    obtain ⟨h1, h2⟩ := b1 h
    obtain ⟨l, hl, go⟩ := hds_ok (X := X) (W := W) G h2
    split at h1
    · rename_i e s p e1
      obtain rfl := asHan_is e1
      obtain ⟨h3, h5⟩ := b1 h1
      obtain ⟨h3, h4⟩ := b1 h3
      have hc := of_decide_eq_true h4
      have E := G.exo (List.ne_nil_of_mem hc)
      obtain ⟨pc, rfl, hN, _, _⟩ := clsNm G h3 hc
      split at h5
      · rename_i t u q e2
        obtain rfl := asAsg_is e2
        obtain ⟨h7, h8⟩ := b1 h5
        split at h7
        · rename_i y e3
          obtain ⟨py, rfl⟩ := asName_is e3
          obtain ⟨y1, y2, y3, y4⟩ := locN_is h7
          obtain ⟨V, rv, ic, pv⟩ := con_is h8
          refine ⟨(.ref (Mo.xc c), fun _ _ _ => tAsg (tC V) (gName x)) :: l, .cons hN (fun a oe cls d pn hz hd => pss_one (ps_asg (pv _) (pg_name G.nd y1 (.inl y2) (.inr y2)) (sws_plain ic) stores_name rfl)) hl, fun D h H k ρ' h' σ' H' hk w re' rh' st' => ?_⟩
          unfold hsW at w
          refine ⟨subX k c, by rw [G.xk]; exact E.em k hk c hc, fun hb a na => ?_, fun hb => ?_⟩
          · rw [if_pos hb] at w
            exact w _ _ (re'.set x (rv _ _)) rh' st'
          · rw [if_neg (by rw [hb]; exact Bool.false_ne_true)] at w
            exact go D h H k ρ' h' σ' H' hk w re' rh' st'
        · cases h7
      · cases h5
    · cases h1
/-- the suite of k02: the exception's kind is told -/
def tsK (x : Nat) : Addr → Value → Option Addr → TS := fun a cls d D σ H => σ[x]? = some (some (.ref a)) ∧ ∃ k t, cls = .ref (Mo.xc k) ∧ d = none ∧ kindT k = some t ∧ ∀ H' : Hp, (∀ b o, H b = some o → H' b = some o) → D.rt (.str t) H'
mutual
theorem sS {X : Cx} {W : WX} {fb : Str → Bool} (G : Good T F n X) (SX : StX T X) (tk : Takes X W) (hf : ∀ x, fb x = true → X.fn x = true) : ∀ (s : Sm) {st : Stmt}, mS T X.N X.env.scope fb s st = true → PS X st (TSx T W (wpS (CN F n) s))
  | .asg tg e, st, h => by
    unfold mS at h
    split at h
    · rename_i t v q e1
      obtain rfl := asAsg_is e1
      obtain ⟨h, h3⟩ := b1 h
      obtain ⟨h1, h2⟩ := b1 h
      have pv := sE G tk e h2
      have pg := sG G.calm G.nd hf h1
      cases tg with
      | names is =>
        have hv : isTupD v = false := nt h3
        unfold mT at h1
        dsimp only at h1
        split at h1
        · rename_i es e2
          obtain ⟨k, p, rfl⟩ := asTup_is e2
          exact (ps_asg pv pg (sws_other rfl) (stores_plain hv) rfl).imp fun D σ H q => asg_out (X := X) q
        · cases h1
      | name i =>
        obtain ⟨hc, hce⟩ := b1 h3
        unfold mT at h1
        dsimp only at h1
        split at h1
        · rename_i y e2
          obtain ⟨py, rfl⟩ := asName_is e2
          cases hv : isComp v with
          | false => exact (ps_asg pv pg (sws_plain hv) stores_name rfl).imp fun D σ H q => asg_out (X := X) q
          | true =>
            obtain ⟨h4, h5⟩ := b1 h1
            rw [hv] at hce
            obtain ⟨e0, gs, s0, pos, rfl, c1, c2, c3⟩ := compStore_is hc hv
            · rcases c3 with yl | c3
              · cases e with
                | comp fz elt tg it cond own =>
                  unfold mE at h2
                  split at h2
                  · rename_i e00 t0 i0 cs s00 e3
                    obtain ⟨p3, e4⟩ := asLC_is e3
                    cases e4
                    obtain ⟨h2, g8⟩ := b1 h2
                    obtain ⟨h2, g7⟩ := b1 h2
                    obtain ⟨h2, g6⟩ := b1 h2
                    obtain ⟨h2, g5⟩ := b1 h2
                    obtain ⟨h2, g4⟩ := b1 h2
                    obtain ⟨h2, g3⟩ := b1 h2
                    obtain ⟨g1, g2⟩ := b1 h2
                    have ok := blkOk_by g3
                    have ow : (ownOf X.N own).map (·.2) = own := of_decide_eq_true g4
                    have pts : ∀ (s : Shared) (H : Hp) (C : Addr) (cl : List (Str × Addr)) (fp : List Addr), PTs (X.blk s H s0 (compEnvC s0 cl C X.env) fp) cs (TTx T (fun _ _ _ _ => False) (wpT (CN F n) cond)) := fun s H C cl fp => by
                      split at g6
                      · cases cond <;> first | (cases g6; done) | skip
                        have q : PTs (X.blk s H s0 (compEnvC s0 cl C X.env) fp) [] tYes := pts_nil
                        exact ⟨fun pins s σ H Q I ⟨ρ, h, re, rh, w⟩ => q.run pins s σ H Q I (w _ rh .refl)⟩
                      · obtain ⟨_, g6⟩ := b1 g6
                        exact pts_one (sT (G.blk ok.kind) takes0 cond g6)
                      · cases g6
                    refine (ps_setLc G.calm G.nd (of_decide_eq_true h4) yl (sw_true G.kind yl c1 c2) (sI G tk it g1) ok (fun s H C cl fp => sG G.calm G.nd (fun x hx => hx) g5) pts (fun s H C cl fp => sE (G.blk ok.kind) takes0 elt g7) (fold_plain (nt g2))).imp fun D σ H q => ?_
                    obtain ⟨ρ, h, re, rh, w⟩ := q
                    rw [ow]
                    refine sLC (T := T) (W := W) (fz := fz) (CN_mono F n) (tgOwn_is g8) ?_
                    refine stepE (CN_mono F n) re rh w (kex re) fun v h1 V H1 re1 rh1 st1 rv w => ?_
                    obtain ⟨ρ1, e5, w⟩ := optW_ex w
                    cases e5
                    exact w _ H1 (re1.set i rv) rh1 st1
                  · cases h2
                | _ => cases hce
              · exact (ps_asg pv pg (sw_cell c3) stores_name rfl).imp fun D σ H q => asg_out (X := X) q
        · cases h1
    · cases h
  | .asgI o i e, st, h => by
    unfold mS at h
    split at h
    · rename_i t v q e1
      obtain rfl := asAsg_is e1
      split at h
      · rename_i x y e2
        obtain ⟨tp, rfl⟩ := asSub_is e2
        obtain ⟨h, h5⟩ := b1 h
        obtain ⟨h, h4⟩ := b1 h
        obtain ⟨h, h3⟩ := b1 h
        obtain ⟨h1, h2⟩ := b1 h
        refine (ps_asg (sE G tk e h5) (pg_sub (sE G tk o h3) (sE G tk i h4) (set_any (Nat.lt_trans (by omega) G.room.units)) (asg_sub (nt h1))) (sws_other rfl) stores_sub rfl).imp fun D σ H ⟨ρ, h, re, rh, w⟩ => ?_
        refine stepE (CN_mono F n) re rh w (kex re) fun v h1 V H1 re1 rh1 st1 rv w => ?_
        refine stepE (CN_mono F n) re1 rh1 w (fun _ _ k => (kex re _ _ k).later st1) fun u h2 U H2 re2 rh2 st2 ru w => ?_
        refine stepE (CN_mono F n) re2 rh2 w (fun _ _ k => (kex re _ _ k).later (st1.trans st2)) fun z h3 Z H3 re3 rh3 st3 rz w => ?_
        exact sound_set rh3 (RV.keep st3 ru) rz (RV.keep (st2.trans st3) rv) w fun h' H' rh' st' k => k _ _ (re3.keep st') rh' (st1.trans (st2.trans (st3.trans st')))
      · cases h
    · cases h
  | .ex e, st, h => by
    unfold mS at h
    split at h
    · rename_i v q e1
      obtain rfl := asExp_is e1
      obtain ⟨h1, h2⟩ := b1 h
      refine (ps_expr (sE G tk e h2) (sw_plain (nt h1))).imp fun D σ H ⟨ρ, h, re, rh, w⟩ => ?_
      exact stepE (CN_mono F n) re rh w (kex re) fun v h1 V H1 re1 rh1 st1 rv w => w σ H1 re1 rh1 st1
    · cases h
  | .ret e, st, h => by
    unfold mS at h
    split at h
    · rename_i v e1
      obtain ⟨p, rfl⟩ := asRet_is e1
      refine (ps_ret (sE G tk e h)).imp fun D σ H ⟨ρ, h, re, rh, w⟩ => ?_
      exact stepE (CN_mono F n) re rh w (kex re) fun v h1 V H1 re1 rh1 st1 rv w => w _ _ rh1 st1 rv
    · cases h
  | .retN, st, h => by
    unfold mS at h
    split at h
    · rename_i e1
      obtain ⟨p, rfl⟩ := asRet_is e1
      exact ps_retN.imp fun D σ H ⟨ρ, h, re, rh, w⟩ => w _ _ rh .refl rfl
    · cases h
  | .ite t a b, st, h => by
    unfold mS at h
    split at h
    · rename_i x y z e1
      obtain ⟨p, rfl⟩ := asIfS_is e1
      obtain ⟨h, h3⟩ := b1 h
      obtain ⟨h1, h2⟩ := b1 h
      refine (ps_if (sT G tk t h1) (sSs G SX tk hf a h2) (sSs G SX tk hf b h3)).imp fun D σ H ⟨ρ, h, re, rh, w⟩ => ?_
      refine stepT (CN_mono F n) re rh w (kex re) fun k h1 H1 re1 rh1 st1 w => ?_
      cases k with
      | true => exact ⟨ρ, h1, re1, rh1, (wpSs_mono (CN_mono F n) a).go w (KD.later st1)⟩
      | false => exact ⟨ρ, h1, re1, rh1, (wpSs_mono (CN_mono F n) b).go w (KD.later st1)⟩
    · cases h
  | .for tg it b, st, h => by
    unfold mS at h
    split at h
    · rename_i x y z e1
      obtain ⟨p, rfl⟩ := asFor_is e1
      obtain ⟨h, h4⟩ := b1 h
      obtain ⟨h, h3⟩ := b1 h
      obtain ⟨h1, h2⟩ := b1 h
      exact (ps_for G.own G.calm (sI G tk it h2) (sG G.calm G.nd hf h1) (sSs G SX tk hf b h4) (fold_plain (nt h3))).imp fun D σ H q => sFor (X := X) (CN_mono F n) q
    · cases h
  | .whl t b, st, h => by
    unfold mS at h
    split at h
    · rename_i x y e1
      obtain ⟨p, rfl⟩ := asWhl_is e1
      obtain ⟨h1, h2⟩ := b1 h
      exact (ps_while G.own (sT G tk t h1) (sSs G SX tk hf b h2)).imp fun D σ H q => sWhl (X := X) (CN_mono F n) q
    · cases h
  | .never, st, h => ps_never.imp fun D σ H ⟨ρ, h, re, rh, w⟩ => w
  | .pass, st, h => by
    obtain ⟨p, rfl⟩ := asPass_is (by simpa [mS] using h)
    exact ps_pass.imp fun D σ H ⟨ρ, h, re, rh, w⟩ => w σ H re rh .refl
  | .asgF c o f e, st, h => by
    unfold mS at h
    split at h
    · rename_i t v q e1
      obtain rfl := asAsg_is e1
      split at h
      · rename_i x nn ap e2
        obtain rfl := asAttr_is e2
        obtain ⟨h, h5⟩ := b1 h
        obtain ⟨h, h4⟩ := b1 h
        obtain ⟨h, h3⟩ := b1 h
        obtain ⟨h1, h2⟩ := b1 h
        obtain rfl := of_decide_eq_true h1
        obtain ⟨cl, na⟩ := G.att _ _ (of_decide_eq_true h2)
        refine (ps_fld (sE G tk o h4) (sE G tk e h5) (sw_plain (nt h3))).imp fun D σ H ⟨ρ, h, re, rh, w⟩ => ?_
        refine stepE (CN_mono F n) re rh w (kex re) fun v h1 V H1 re1 rh1 st1 rv w => ?_
        refine stepE (CN_mono F n) re1 rh1 w (fun _ _ k => (kex re _ _ k).later st1) fun u h2 U H2 re2 rh2 st2 ru w => ?_
        obtain ⟨q, e3, ⟨ec, el⟩, w⟩ := optW_ex w
        obtain ⟨q1, q2, dx, ys, q3, q4⟩ := insAt_read rh2 ru e3
        subst q1
        rw [ec] at q3
        have k := Stab.write (H := H2) (o := .ins (Mo.cc c) dx (putF nn V ys)) (d := .ins c (pf nn v q.2.2)) q2
        exact ⟨q.1, _, dx, ys, rfl, q3, cl, na, by rw [q4.length]; exact el, w _ _ (re2.keep k) (rh2.put k ⟨(rh2 _ _ q2).1, dx, _, upd_same, RFs.put (RV.keep (st2.trans k) rv) ⟨q4.1, RVs.keep k q4.2⟩⟩) (st1.trans (st2.trans k))⟩
      · cases h
    · cases h
  | .raise c, st, h => by
    unfold mS at h
    split at h
    · rename_i f m e1
      obtain ⟨k, p1, p2, p3, rfl⟩ := asRaise_is e1
      obtain ⟨h1, h2⟩ := b1 h
      have hc := of_decide_eq_true h2
      have E := G.exo (List.ne_nil_of_mem hc)
      obtain ⟨p, rfl, _, gl, m1⟩ := clsNm G h1 hc
      refine (ps_raise G.calm tk (pmk_own PySem.F.excBase_ValueError (E.ex c hc) (E.nm c hc) (E.kp c hc) (raises_own (E.C c hc).hs (E.ty c hc)) gl m1)).imp fun D σ H ⟨ρ, h, re, rh, w⟩ => ?_
      have := w σ H re rh .refl
      rw [G.xk] at this
      exact this
    · cases h
  | .tryAs b ks c i x, st, h => by
    unfold mS at h
    split at h
    · rename_i bs e nm s p e1
      obtain ⟨p2, rfl⟩ := asTry_is e1
      obtain ⟨h, h6⟩ := b1 h
      obtain ⟨h, h5⟩ := b1 h
      obtain ⟨h, h4⟩ := b1 h
      obtain ⟨h, h3⟩ := b1 h
      obtain ⟨h1, h2⟩ := b1 h
      have hc := of_decide_eq_true h2
      have E := G.exo (List.ne_nil_of_mem hc)
      obtain ⟨pc, rfl, hN, _, _⟩ := clsNm G h1 hc
      obtain ⟨n1, n2, n3, n4⟩ := locN_is h4
      split at h5
      · rename_i t v q e2
        obtain rfl := asAsg_is e2
        obtain ⟨h7, h8⟩ := b1 h5
        obtain ⟨pv, rfl⟩ := asName_is (of_decide_eq_true h8)
        split at h7
        · rename_i y e3
          obtain ⟨py, rfl⟩ := asName_is e3
          obtain ⟨y1, y2, y3, y4⟩ := locN_is h7
          refine (ps_try_keep (ts := fun _ _ _ => tAsg (tVar i) (gName x)) (tb := fun W' => TSx T W' (wpSs (CN F n) b)) SX.hs SX.hf G.nd n1 n2 hN SX.hx tk (fun W' pn xe tk' ow => sSs (G.tr ow) SX.tr tk' hf b h6)
            (fun a oe cls d pn hz hd => pss_one (ps_asg (pe_var n1 (.inl n2) n3 n4) (pg_name G.nd y1 (.inl y2) (.inr y2)) (sws_plain rfl) stores_name rfl))).imp fun D σ H ⟨ρ, h, re, rh, w⟩ => ?_
          refine ⟨ρ, h, re, rh, (wpSs_mono (CN_mono F n) b).go w ⟨fun _ _ k => k, fun _ _ k => k, fun k ρ' h' q σ' H' re' rh' st' => ?_⟩⟩
          dsimp only at q
          have hk : k ∈ T.exs := by
            rw [← of_decide_eq_true h3]
            by_cases z : subX k c = true
            · rw [if_pos z] at q; exact q.1.1
            · rw [if_neg z] at q; exact q.1
          refine ⟨subX k c, by rw [G.xk]; exact E.em k hk c hc, fun hb a na => ?_, fun hb => ?_⟩
          · rw [if_pos hb] at q
            refine ⟨.ref a, List.getElem?_set_self (by rw [← re'.1]; exact q.1.2), ?_⟩
            rw [G.xk]
            exact q.2 _ _ (RE.kept re' rh' na) (rh'.alloc na) (st'.trans (Stab.alloc na))
          · rw [if_neg (by rw [hb]; exact Bool.false_ne_true)] at q
            exact q.2 _ _ re' rh' st'
        · cases h7
      · cases h5
    · cases h
  | .tryEx b ks c x v, st, h => by
    unfold mS at h
    split at h
    · rename_i bs e s p e1
      obtain ⟨p2, rfl⟩ := asTry_is e1
      obtain ⟨h, h6⟩ := b1 h
      obtain ⟨h, h5⟩ := b1 h
      obtain ⟨h, h3⟩ := b1 h
      obtain ⟨h1, h2⟩ := b1 h
      have hc := of_decide_eq_true h2
      have E := G.exo (List.ne_nil_of_mem hc)
      obtain ⟨pc, rfl, hN, _, _⟩ := clsNm G h1 hc
      split at h5
      · rename_i t u q e2
        obtain rfl := asAsg_is e2
        obtain ⟨h7, h8⟩ := b1 h5
        split at h7
        · rename_i y e3
          obtain ⟨py, rfl⟩ := asName_is e3
          obtain ⟨y1, y2, y3, y4⟩ := locN_is h7
          have con : ∃ V : V, (∀ (h : Hq) (H : Hp), RV h H v V) ∧ isComp u = false ∧ ∀ X' : Cx, PE X' u (tC V) := by
            unfold conB at h8
            split at h8
            · obtain ⟨k, p, rfl⟩ := asBl_is (of_decide_eq_true h8)
              exact ⟨_, fun _ _ => rfl, rfl, fun _ => pe_bl⟩
            · obtain ⟨k, p, rfl⟩ := asInt_is (of_decide_eq_true h8)
              exact ⟨_, fun _ _ => rfl, rfl, fun _ => pe_int⟩
            · obtain ⟨k, p, rfl⟩ := asNon_is h8
              exact ⟨_, fun _ _ => rfl, rfl, fun _ => pe_non⟩
            · obtain ⟨k, p, rfl⟩ := asStr3_is (of_decide_eq_true h8)
              exact ⟨_, fun _ _ => rfl, rfl, fun _ => pe_str⟩
            · cases h8
          obtain ⟨V, rv, ic, pv⟩ := con
          refine (ps_try_only (ts := fun _ _ _ => tAsg (tC V) (gName x)) (tb := fun W' => TSx T W' (wpSs (CN F n) b)) SX.hs SX.hf hN tk (fun W' pn xe tk' ow => sSs (G.tr ow) SX.tr tk' hf b h6)
            (fun a oe cls d pn hz hd => pss_one (ps_asg (pv _) (pg_name G.nd y1 (.inl y2) (.inr y2)) (sws_plain ic) stores_name rfl))).imp fun D σ H ⟨ρ, h, re, rh, w⟩ => ?_
          refine ⟨ρ, h, re, rh, (wpSs_mono (CN_mono F n) b).go w ⟨fun _ _ k => k, fun _ _ k => k, fun k ρ' h' q σ' H' re' rh' st' => ?_⟩⟩
          dsimp only at q
          have hk : k ∈ T.exs := by
            rw [← of_decide_eq_true h3]
            by_cases z : subX k c = true
            · rw [if_pos z] at q; exact q.1
            · rw [if_neg z] at q; exact q.1
          refine ⟨subX k c, by rw [G.xk]; exact E.em k hk c hc, fun hb a na => ?_, fun hb => ?_⟩
          · rw [if_pos hb] at q
            exact q.2 _ _ (re'.set x (rv _ _)) rh' st'
          · rw [if_neg (by rw [hb]; exact Bool.false_ne_true)] at q
            exact q.2 _ _ re' rh' st'
        · cases h7
      · cases h5
    · cases h
  | .tryEs b ks hs, st, h => by
    unfold mS at h
    split at h
    · rename_i bs hd hds e1
      obtain ⟨p2, rfl⟩ := asTryN_is e1
      obtain ⟨h, h3⟩ := b1 h
      obtain ⟨h1, h2⟩ := b1 h
      obtain ⟨l, hl, go⟩ := hds_ok (X := X) (W := W) G h2
      refine (ps_try_many (tb := fun W' => TSx T W' (wpSs (CN F n) b)) SX.hs SX.hf tk (fun W' pn xe tk' ow => sSs (G.tr ow) SX.tr tk' hf b h3) hl).imp fun D σ H ⟨ρ, h, re, rh, w⟩ => ?_
      refine ⟨ρ, h, re, rh, (wpSs_mono (CN_mono F n) b).go w ⟨fun _ _ k => k, fun _ _ k => k, fun k ρ' h' q σ' H' re' rh' st' => ?_⟩⟩
      dsimp only at q
      have hk : k ∈ T.exs := by
        rw [← of_decide_eq_true h1]
        exact q.1
      exact go D h H k ρ' h' σ' H' hk q.2 re' rh' st'
    · cases h
  | .tryG b ks x, st, h => by
    unfold mS at h
    split at h
    · rename_i bs e nm s p e1
      obtain ⟨p2, rfl⟩ := asTry_is e1
      obtain ⟨h, h6⟩ := b1 h
      obtain ⟨h, h5⟩ := b1 h
      obtain ⟨h, h4⟩ := b1 h
      obtain ⟨h, h3⟩ := b1 h
      obtain ⟨h1, h2⟩ := b1 h
      have hc := of_decide_eq_true h2
      have E := G.exo (List.ne_nil_of_mem hc)
      obtain ⟨pc, rfl, hN, _, _⟩ := clsNm G h1 hc
      obtain ⟨n1, n2, n3, n4⟩ := locN_is h4
      split at h5
      · rename_i v e2
        obtain ⟨pr, rfl⟩ := asRet_is e2
        split at h5
        · rename_i g y q e3
          obtain rfl := asCall_is e3
          obtain ⟨h7, h8⟩ := b1 h5
          obtain ⟨pv, rfl⟩ := asName_is (of_decide_eq_true h8)
          split at h7
          · rename_i z ez
            obtain ⟨h7, h11⟩ := b1 h7
            obtain ⟨h9, h10⟩ := b1 h7
            obtain ⟨pz, rfl, gz, mz, _⟩ := glo_name (of_decide_eq_true h9) h10 (nt h11)
            obtain ⟨a', fd, ps, m', kp, bd, FG⟩ := G.hot z ez
            have hr : L2H.RoomH 1 X.A := (L2H.roomH_of G.more).mono (by omega)
            have suite : ∀ (a : Addr) (oe : Obj) (cls : Value) (d : Option Addr) (pn : List (Addr × Obj)), Zc cls d oe → (∃ vs, oe.data = .fields vs) →
                PSs (X.suite a ((a, oe) :: pn)) [.Return (some (.Call (.Name z pz) [.Name nm pv] [] q)) pr] (tsK x a cls d) := fun a oe cls d pn hz hd => by
              have P := pe_callG (X := X.suite a ((a, oe) :: pn)) (p := (a, oe)) (pos := q) (q := pz) FG ⟨hr.dp, hr.un⟩ List.mem_cons_self gz m' kp bd (pa_cons (X := X.suite a ((a, oe) :: pn)) (pe_var (pos := pv) n1 (.inl n2) n3 n4) pa_nil) mz rfl rfl
              refine pss_one ((ps_ret (pos := pr) P).imp fun D σ H ⟨g1, k, t, g2, g3, g4, g5⟩ => ?_)
              exact ⟨_, g1, k, t, rfl, by rw [← g2, ← g3]; exact hz, hd, g4, g5⟩
            refine (ps_try_as (ts := tsK x) (tb := fun W' => TSx T W' (wpSs (CN F n) b)) SX.hs SX.hf G.nd n1 n2 hN tk (fun W' pn xe tk' ow => sSs (G.tr ow) SX.tr tk' hf b h6) suite).imp fun D σ H ⟨ρ, h, re, rh, w⟩ => ?_
            refine ⟨ρ, h, re, rh, (wpSs_mono (CN_mono F n) b).go w ⟨fun _ _ k => k, fun _ _ k => k, fun k ρ' h' q σ' H' re' rh' st' => ?_⟩⟩
            have hk : k ∈ T.exs := by
              rw [← of_decide_eq_true h3]
              exact q.1.1
            obtain ⟨t, et, q2⟩ := optW_ex q.2
            refine ⟨true, by rw [G.xk, E.em k hk 0 hc]; unfold subX; simp, fun _ a na => ⟨List.getElem?_set_self (by rw [← re'.1]; exact q.1.2), k, t, by rw [G.xk], rfl, et, fun H2 ext => ?_⟩, fun z => by cases z⟩
            refine q2 (.str t) H2 (fun b c e => ?_) (st'.trans fun b o e nn => ⟨ext b o e, nn⟩) rfl
            obtain ⟨o, eo⟩ := (rh' b c e).some
            exact (rh' b c e).keep (fun b o e nn => ⟨ext b o e, nn⟩) ((ext b o eo).trans eo.symm)
          · cases h7
        · cases h5
      · cases h5
    · cases h
  | .asgL i f g q js es, st, h => by
    unfold mS at h
    split at h
    · rename_i t v q1 e1
      obtain rfl := asAsg_is e1
      split at h
      · rename_i fn lmE as q2 e2
        obtain rfl := asCall_is e2
        split at h
        · rename_i px pa pp body lsc lp e3
          obtain rfl := asLam_is e3
          obtain ⟨h, h6⟩ := b1 h
          obtain ⟨h, h5⟩ := b1 h
          obtain ⟨h, h4⟩ := b1 h
          obtain ⟨h, h3⟩ := b1 h
          obtain ⟨h1, h2⟩ := b1 h
          split at h2
          · rename_i x e4
            obtain ⟨h2, k3⟩ := b1 h2
            obtain ⟨k1, k2⟩ := b1 h2
            obtain ⟨p, rfl, gl, m1, m2⟩ := glo_name e4 k2 (nt k3)
            have pg := sG G.calm G.nd hf h1
            obtain ⟨hq, hTB⟩ := SX.lq q (of_decide_eq_true h4)
            unfold lamC at h5
            simp only [Bool.and_eq_true, Bool.or_eq_true, Bool.not_eq_true', decide_eq_true_eq, decide_eq_false_iff_not, List.all_eq_true] at h5
            obtain ⟨⟨c1, c2⟩, c3, c4⟩ := h5
            have pv := pe_callL (pos := q2) (p := p) G (fun y hy => hf y (c3 y hy)) hq hTB gl (of_decide_eq_true k1) m1 (G.lam g _ h3) c1 c2 (fun y hy e => by
              rcases c4 y hy with (z | z) | z
              · exact absurd e z
              · exact .inl z
              · exact .inr z) (sA G tk es h6) (star_any fun y hy => mEs_plain h6 y hy)
            unfold mT at h1
            dsimp only at h1
            split at h1
            · rename_i y e5
              obtain ⟨py, rfl⟩ := asName_is e5
              exact (ps_asg pv pg (sws_plain rfl) stores_name rfl).imp fun D σ H q => asgL_out (X := X) q
            · cases h1
          · cases h2
        · cases h
      · cases h
    · cases h
  | .asgX i fz elt tg it own, st, h => by
    unfold mS at h
    split at h
    · rename_i t v q1 e1
      obtain rfl := asAsg_is e1
      split at h
      · rename_i e0 t0 i0 s0 e
        obtain ⟨p3, rfl⟩ := asLC_is e
        obtain ⟨h, g9⟩ := b1 h
        obtain ⟨h, g8⟩ := b1 h
        obtain ⟨h, g7⟩ := b1 h
        obtain ⟨h, g5⟩ := b1 h
        obtain ⟨h, g4⟩ := b1 h
        obtain ⟨h, g3⟩ := b1 h
        obtain ⟨g1, g2⟩ := b1 h
        have ok := blkOk_by g3
        have ow : (ownOf X.N own).map (·.2) = own := of_decide_eq_true g4
        split at g9
        · rename_i y py
          obtain ⟨l1, l2⟩ := b1 g9
          obtain ⟨y1, y2, y3, y4⟩ := locN_is l1
          obtain ⟨_, _, _, _, ev, c1, c2, c3⟩ := compStore_is l2 rfl
          cases ev
          refine (ps_setLcX (WW := W) (te := fun σ => TEx T (fun cls d _ H' => W cls d σ H') (wpE (CN F n) elt)) G.calm G.nd y1 y2 (sw_true G.kind y2 c1 c2) (sI G tk it g1) ok (fun s H C cl fp => sG G.calm G.nd (fun x hx => hx) g5) (fun s H C cl fp => pts_nil)
            (fun σ s H C cl fp pn xe tkb po => sE ((G.blk ok.kind).tr po) tkb elt g7) SX.hs SX.hf tk (fold_plain (nt g2))).imp fun D σ H q => ?_
          obtain ⟨ρ, h, re, rh, w⟩ := q
          rw [ow]
          exact sLCX (CN_mono F n) (tgOwn_is g8) re rh (fun v h' k V H1 rh1 st1 rv => k _ H1 ((re.keep st1).set i rv) rh1 st1) (fun x h' k H' rh' st' => k σ H' (re.keep st') rh' st') w
        · cases g9
      · cases h
    · cases h
  | .retX fz elt tg it own, st, h => by
    unfold mS at h
    split at h
    · rename_i v e1
      obtain ⟨p, rfl⟩ := asRet_is e1
      split at h
      · rename_i e0 t0 i0 s0 e
        obtain ⟨p3, rfl⟩ := asLC_is e
        obtain ⟨h, g8⟩ := b1 h
        obtain ⟨h, g7⟩ := b1 h
        obtain ⟨h, g5⟩ := b1 h
        obtain ⟨h, g4⟩ := b1 h
        obtain ⟨h, g3⟩ := b1 h
        obtain ⟨g1, g2⟩ := b1 h
        have ok := blkOk_by g3
        have ow : (ownOf X.N own).map (·.2) = own := of_decide_eq_true g4
        refine (ps_ret (pe_lcX (WW := W) (te := fun σ => TEx T (fun cls d _ H' => W cls d σ H') (wpE (CN F n) elt)) G.calm G.nd (sI G tk it g1) ok (fun s H C cl fp => sG G.calm G.nd (fun x hx => hx) g5) (fun s H C cl fp => pts_nil)
            (fun σ s H C cl fp pn xe tkb po => sE ((G.blk ok.kind).tr po) tkb elt g7) SX.hs SX.hf tk (fold_plain (nt g2)))).imp fun D σ H q => ?_
        obtain ⟨ρ, h, re, rh, w⟩ := q
        rw [ow]
        exact sLCX (CN_mono F n) (tgOwn_is g8) re rh (fun v h' k V H1 rh1 st1 rv => k _ _ rh1 st1 rv) (fun x h' k H' rh' st' => k σ H' (re.keep st') rh' st') w
      · cases h
    · cases h
  | .retc _ _ _, st, h => by simp [mS] at h
  | .kill i, st, h => by simp [mS] at h
  | .fzv i, st, h => by simp [mS] at h
termination_by s => sizeOf s
theorem sSs {X : Cx} {W : WX} {fb : Str → Bool} (G : Good T F n X) (SX : StX T X) (tk : Takes X W) (hf : ∀ x, fb x = true → X.fn x = true) : ∀ (s : Sms) {sts : List Stmt}, mSs T X.N X.env.scope fb s sts = true → PSs X sts (TSx T W (wpSs (CN F n) s))
  | .nil, [], _ => pss_nil.imp fun D σ H ⟨ρ, h, re, rh, w⟩ => w σ H re rh .refl
  | .nil, _ :: _, h => by simp [mSs] at h
  | .cons s r, sts, h => by
    by_cases hk : ∃ i, s = .kill i
    · obtain ⟨i, rfl⟩ := hk
      have h' : mSs T X.N X.env.scope fb r sts = true := by
        unfold mSs at h
        exact h
      refine (sSs G SX tk hf r h').imp fun D σ H ⟨ρ, h, re, rh, w⟩ => ?_
      obtain ⟨a, e, w⟩ := optW_ex (show optW ((lk ρ i).bind refOf) (fun a => wpSs (CN F n) r (KD T h H D W) ρ (er h a)) from w)
      exact ⟨ρ, er h a, re.keep Stab.er, rh.er, (wpSs_mono (CN_mono F n) r).go w (KD.later Stab.er)⟩
    by_cases hz : ∃ i, s = .fzv i
    · obtain ⟨i, rfl⟩ := hz
      have h' : mSs T X.N X.env.scope fb r sts = true := by
        unfold mSs at h
        exact h
      refine (pss_lock (sSs G SX tk hf r h')).imp fun D σ H ⟨ρ, h, re, rh, w⟩ => ?_
      obtain ⟨a, e, w⟩ := optW_ex (show optW ((lk ρ i).bind refOf) (fun a => optW (cellO h a) fun c => wpSs (CN F n) r (KD T h H D W) (ρ.set i (some (lockC c))) (er h a)) from w)
      obtain ⟨c, ec, w⟩ := optW_ex w
      obtain ⟨ec, ni⟩ := noIns_is (show (h a).bind noIns = some c from ec)
      obtain ⟨v, ev, ea⟩ := Option.bind_eq_some_iff.mp e
      have hv : v = .ref a := by cases v <;> first | (cases ea; done) | (cases ea; rfl)
      subst hv
      obtain ⟨x, ex, rx⟩ := re.2 i _ (lk_eq _ _ _ ev)
      cases (show x = .ref a from rx)
      have hset : ∀ (H' : Hp) (v : Val), Stab h H (er h a) H' → RV (er h a) H' v (.ref a) → RE (er h a) H' (ρ.set i (some v)) σ := fun H' v st r => by
        refine ⟨by rw [List.length_set]; exact re.1, fun j u ej => ?_⟩
        by_cases hij : i = j
        · subst hij
          have hl : i < ρ.length := (List.getElem?_eq_some_iff.mp (lk_eq _ _ _ ev)).1
          rw [List.getElem?_set_self hl] at ej
          cases ej
          exact ⟨_, ex, r⟩
        · rw [List.getElem?_set_ne hij] at ej
          obtain ⟨y, ey, ry⟩ := re.2 j u ej
          exact ⟨y, ey, RV.keep st ry⟩
      cases c with
      | lst xs =>
        obtain ⟨vs, q1, q2⟩ := rh a _ ec
        exact .inl ⟨_, er h a, hset H (.fl xs) Stab.er ⟨a, vs, rfl, er_same, q1, RVs.keep Stab.er q2⟩, rh.er, (wpSs_mono (CN_mono F n) r).go w (KD.later Stab.er)⟩
      | dic kvs =>
        obtain ⟨us, q1, q2⟩ := rh a _ ec
        refine .inr ⟨a, .dK us, q1, True.intro, fun od => ?_⟩
        have st : Stab h H (er h a) (upd H a (.frz od (.dK us))) := fun b u e m => by
          have hb : b ≠ a := ne_of_live' ec m
          exact ⟨by rw [upd_ne hb]; exact e, by rw [er_ne hb]; exact m⟩
        have rh' : RH (er h a) (upd H a (.frz od (.dK us))) := fun b c' e => by
          by_cases hb : b = a
          · subst hb; rw [er_same] at e; cases e
          · rw [er_ne hb] at e
            exact (rh b c' e).keep st (upd_ne hb)
        exact ⟨_, er h a, hset _ (wdOf kvs) st ⟨a, us, rfl, er_same, ⟨od, upd_same⟩, q2.1, RVs.keep st q2.2⟩, rh', (wpSs_mono (CN_mono F n) r).go w (KD.later st)⟩
      | ins c fs => cases ni
      | tab q => cases ni
    · cases sts with
      | nil => exfalso; unfold mSs at h; split at h <;> simp_all
      | cons st sts =>
        have h' : mS T X.N X.env.scope fb s st = true ∧ mSs T X.N X.env.scope fb r sts = true := by
          cases s <;> first | exact b1 (by simpa [mSs] using h) | exact absurd ⟨_, rfl⟩ hk | exact absurd ⟨_, rfl⟩ hz
        refine (pss_cons (sS G SX tk hf s h'.1) (sSs G SX tk hf r h'.2)).imp fun D σ H ⟨ρ, h, re, rh, w⟩ => ⟨ρ, h, re, rh, ?_⟩
        refine (wpS_mono (CN_mono F n) s).go w ⟨fun ρ' h' k σ' H' re' rh' st' => ⟨ρ', h', re', rh', (wpSs_mono (CN_mono F n) r).go k (KD.later st')⟩, fun _ _ k => k, fun _ _ _ k => k⟩
termination_by s => sizeOf s
end
end
end L3

set_option Elab.async false
set_option linter.all false
set_option maxRecDepth 100000
/-! L3, CLOSURES 3: a def that makes a function and returns it. -/
namespace L3
open PySem PySem.Spec PyProof.Rows L2 NdefX LamX
/-- the cells are known from now on -/
def trk (H : Hp) (l : List (Addr × V)) : Hp := fun b => match l.lookup b with | some v => some (CellO b v) | none => H b
theorem trk_out {H : Hp} {l : List (Addr × V)} {b : Addr} (n : l.lookup b = none) : trk H l b = H b := by unfold trk; rw [n]
theorem trk_in {H : Hp} {l : List (Addr × V)} {b : Addr} {v : V} (n : l.lookup b = some v) : trk H l b = some (CellO b v) := by unfold trk; rw [n]
/-- what such a def promises: P the table, js the captured names' places among the parameters -/
def spMk (P : Addr) (qn : Str) (st : Stmt) (nm : Str) (np : Nat) (js : List Nat) : Sp := fun vs H Q _ => vs.length = np ∧ TabsN [(P, fun _ _ => qn)] H ∧ ∃ us : List V, js.map (fun j => vs[j]?) = us.map some ∧
  ∀ (f c : Addr) (H1 : Hp) (cl : List (Str × Addr)), ExtN H H1 → (∀ b, H1 b = none → H b = none) → TabsN [(P, fun _ _ => qn)] H1 → H f = none → H1 f = some (FnO f (NF.of st nm qn cl c)) → H1 c = some (CodeO c qn) →
    (∀ y b, cl.lookup y = some b → y ∈ freeN st ∧ H1 b = none) → (∀ x y b, cl.lookup x = some b → cl.lookup y = some b → x = y) → (∀ y ∈ freeN st, ∃ b, cl.lookup y = some b) → Q (.ref f) (trk H1 (pairs cl (freeN st) us))
theorem free_mem {st : Stmt} {y : Str} : y ∈ freeN st ↔ (y, NameKind.free) ∈ (C8.fnScope st).names := by
  exact freeS_mem
section
variable {P : Program} {w : World} {K : PySem.W.Frag} {mg : Str → Option Value} {base : Heap} {k : Nat} {f : Addr} {name qual : Str} {params : Arguments} {scope : Scope} {fd : FuncData} {N ps : List Str} {st : Stmt} {nm : Str} {pos p1 p2 : Pos} {i : Nat} {js : List Nat} {T : Addr} {body : List Stmt}
theorem fn_maker (F : FunD K name qual params body scope [] [] f fd) (S : FnScope N ps scope) (hb : body = [st, .Return (some (.Name nm p1)) p2]) (hst : st = .FunctionDef nm (C8.fnArgs st) (C8.fnBody st) [] none [] (C8.fnScope st) none nm pos)
    (hi : N[i]? = some nm) (hl : scope.names.lookup nm = some .local) (hnf : ndefB scope (C8.fnScope st) (freeN st) = true) (hnd : (freeN st).Nodup) (hjs : js.map (fun j => N[j]?) = (freeN st).map some) (hjp : ∀ j ∈ js, j < ps.length) (hip : ps.length ≤ i)
    (hd0 : (C8.fnArgs st).defaults = []) (hk0 : (C8.fnArgs st).kw_defaults = []) (ha : ∀ env, annTrees (C8.fnArgs st) none env = []) (hm1 : (nm == ("__debug__" : Str)) = false) (hm2 : (nm == ("__classdict__" : Str)) = false) (hT : ∀ c, fd.code = .ref c → TabB base mg c T) :
    FnOk P w K mg base (L2.CX P w) (k + 1) f fd ps (spMk T (qual ++ ".<locals>." ++ nm) st nm ps.length js) := by
  obtain ⟨oc, od, dV, kV, doc, pm, an, cdv, ct, osl, rfl, lk, hcd, _, _⟩ := F.ex
  obtain ⟨cc, rfl⟩ := He.codeIn_ref hcd
  have TB := hT cc rfl
  refine ⟨fun vs H Q E h => h.1, fun A outer s H args us vs Q E hr e0 hbd r hsp => ?_⟩
  obtain ⟨hl1, hTH, uz, huz, hQ⟩ := hsp
  have KX : K.In s.heap := e0.mod.kin.keeps fun b o e => (e0.bs b o e).1
  have lim : s.heap.NoLimit := e0.mod.nolimit.keeps fun b o e => (e0.bs b o e).1
  have hk : ∀ y ∈ ps.zip us, scope.names.lookup y.1 = some .local ∨ (scope.names.lookup y.1 = some .cell ∧ ((cellsFrom (s.heap.objs.size + 1) scope.names []).lookup y.1).isSome = true) := fun ⟨n, v⟩ hy =>
    (S.par n (List.of_mem_zip hy).1).elim .inl fun q => .inr ⟨q, PySem.W.cellsFrom_some _ _ _ (.inl q)⟩
  refine codeAny_call_function hr.depth (KX _ _ lk) rfl S.co S.gen rfl (PySem.W.codeRec_of KX hcd) (hbd _ _ _ _ ?_)
  refine wpAny_newFunctionEnv_cells S.kind hk fun env he s1 x => ?_
  subst he
  refine ⟨lim.keeps x.toInCall.keep, codeAny_func ?_⟩
  have I : Inv (cxOf (L2.CX P w) P w K mg base N qual scope f (.ref cc) A outer s H E) [] (start N vs) H s1 := inv_start S hr.hd e0 hl1 r x
  generalize hX : cxOf (L2.CX P w) P w K mg base N qual scope f (.ref cc) A outer s H E = X at I
  have eE : envOfC qual scope s.heap.objs.size f (.ref cc) = X.env := by rw [← hX]; rfl
  have eS : X.env.scope = scope := by rw [← hX]; rfl
  have eN : X.N = N := by rw [← hX]; rfl
  have eQ : X.env.qual ++ nm = qual ++ ".<locals>." ++ nm := by rw [← hX]; rfl
  have eC : X.env.code = .ref cc := by rw [← hX]; rfl
  have TBX : TabB X.base X.mg cc T := by rw [← hX]; exact TB
  have hfn : ∀ z, X.fn z = true := fun z => by rw [← hX]; rfl
  have hfree : ∀ y ∈ (C8.fnScope st).names, y.2 = .free → X.env.scope.names.lookup y.1 = some .cell ∨ X.env.scope.names.lookup y.1 = some .free := by rw [eS]; exact ndef_free hnf
  have hfr := fun y (hy : y ∈ freeN st) => free_mem.mp hy
  have pn := ps_ndefMS (X := X) (T := [(T, fun _ _ => qual ++ ".<locals>." ++ nm)]) (nm := fun _ _ => qual ++ ".<locals>." ++ nm) (c := cc) (P := T) (name := nm) (pos := pos) (i := i) hst TBX eC List.mem_cons_self eQ.symm
    (fun p hp _ => by rw [List.mem_singleton.mp hp]) hfree hd0 hk0 (ha _) (by rw [eN]; exact S.nd) (by rw [eN]; exact hi) (by rw [eS]; exact .inl hl) (.inr (by rw [eS]; exact hl))
  have run := pn.run [] s1 (start N vs) H { nx := fun σ' H1 => ∃ f' c', σ' = (start N vs).set i (some (.ref f')) ∧ ExtN H H1 ∧ (∀ b, H1 b = none → H b = none) ∧ TabsN [(T, fun _ _ => qual ++ ".<locals>." ++ nm)] H1 ∧ H f' = none ∧ H1 f' = some (FnO f' (NF.of st nm (X.env.qual ++ nm) (cloFrom X.env.cells (C8.fnScope st).names []) c')) ∧ H1 c' = some (CodeO c' (X.env.qual ++ nm)), rt := fun _ _ => False } I
    ⟨hTH, fun f' c' H1 e1 e2 e3 e4 e5 e6 => ⟨f', c', rfl, e1, e2, e3, e4, e5, e6⟩⟩
  rw [hb]
  have hxe : X.xe = fun e s' => wpAny (model P w) (A.deeper (envOfC qual scope s.heap.objs.size f (.ref cc))) (leaving (envOfC qual scope s.heap.objs.size f (.ref cc)) e) (fun _ s'' => CX P w outer H s E e s'') (fun e' s'' => CX P w outer H s E e' s'') s' := by rw [← hX]; rfl
  have eA : X.A = A.deeper (envOfC qual scope s.heap.objs.size f (.ref cc)) := by rw [← hX]; rfl
  have eP : X.prog = P := by rw [← hX]; rfl
  have eW : X.w = w := by rw [← hX]; rfl
  show wpAny (model P w) (A.deeper (envOfC qual scope s.heap.objs.size f (.ref cc))) (execs [st, .Return (some (.Name nm p1)) p2] (envOfC qual scope s.heap.objs.size f (.ref cc))) _ _ s1
  have goal : wpAny (model X.prog X.w) X.A (execs [st, .Return (some (.Name nm p1)) p2] X.env) (fun fl s' => ∃ u, fl = .ret u ∧ CE outer P w H s Q u s') X.xe s1 := by
    refine wpAny_execs_cons (thn run fun fl s2 q => ?_)
    cases fl with
    | ret u => obtain ⟨_, _, _, _, _, z⟩ := q; exact z.elim
    | brk => obtain ⟨_, _, _, z⟩ := q; exact False.elim z
    | cont => obtain ⟨_, _, _, z⟩ := q; exact False.elim z
    | next =>
      obtain ⟨σ', H1, J, f', c', rfl, e1, e2, e3, e4, e5, e6⟩ := q
      have il : i < (start N vs).length := by
        have := J.len
        rw [List.length_set] at this
        rw [this, eN]
        exact (List.getElem?_eq_some_iff.mp hi).1
      have sv : ((start N vs).set i (some (V.ref f')))[i]? = some (some (.ref f')) := List.getElem?_set_self il
      refine wpAny_execs_cons (wpAny_Return_some (thn ((pe_var (X := X) (pos := p1) (x := nm) (i := i) (by rw [eN]; exact hi) (.inl (by rw [eS]; exact hl)) hm1 hm2).run [] s2 _ H1 (fun v H2 => v = .ref f' ∧ H2 = H1) J ⟨_, sv, rfl, rfl⟩) fun u s3 ⟨v, H2, J3, rv, q⟩ => ?_))
      obtain ⟨rfl, rfl⟩ := q
      refine ⟨u, rfl, ?_⟩
      have cp : Caps X (cloFrom X.env.cells (C8.fnScope st).names []) (freeN st) js := Caps.made J3.ok hfree hfr (by rw [eN]; exact hjs)
      have C := cells_of J3 cp
      have jw : js.map (NdefX.slotAt ((start N vs).set i (some (V.ref f')))) = uz.map some := by
        rw [← huz]
        refine List.map_congr_left fun j hj => ?_
        have jl := hjp j hj
        have ne : i ≠ j := by omega
        unfold NdefX.slotAt
        rw [List.getElem?_set_ne ne]
        unfold L2.start
        rw [List.getElem?_append_left (by rw [List.length_map, hl1]; exact jl), List.getElem?_map]
        cases q : vs[j]? <;> rfl
      rw [jw] at C
      have eb : X.H_0 = H ∧ X.s_0 = s ∧ X.fs = frs outer ∧ X.ex = [] := by rw [← hX]; exact ⟨rfl, rfl, rfl, rfl⟩
      have cab : ∀ y b, (cloFrom X.env.cells (C8.fnScope st).names []).lookup y = some b → s.heap.objs.size ≤ b := fun y b e => by
        have := J3.ok.cab y b (hfn y) (cp.sub y b e)
        rw [eb.2.1] at this
        exact this
      have un := J3.base
      rw [eb.1, eb.2.1, eb.2.2.1, eb.2.2.2] at un
      have hok3 := J3.hok
      rw [eP, eW] at hok3
      generalize hcl : cloFrom X.env.cells (C8.fnScope st).names [] = cl at *
      have cn : ∀ {b v}, (pairs cl (freeN st) uz).lookup b = some v → H2 b = none ∧ s.heap.objs.size ≤ b := fun {b v} e => by
        obtain ⟨_, y, _, _, e3⟩ := pairs_is e
        exact ⟨(C.all y b e3).1, cab y b e3⟩
      have out : ∀ {b o}, H2 b = some o → (pairs cl (freeN st) uz).lookup b = none := fun {b o} e => by
        cases q : (pairs cl (freeN st) uz).lookup b with
        | none => rfl
        | some v => rw [(cn q).1] at e; cases e
      have old : ∀ {b ob}, s.heap.get? b = some ob → (pairs cl (freeN st) uz).lookup b = none := fun {b o} e => by
        cases q : (pairs cl (freeN st) uz).lookup b with
        | none => rfl
        | some v => exact absurd (Heap.lt_size e) (Nat.not_lt.mpr (cn q).2)
      have os3 := J3.os
      rw [eb.2.1] at os3
      refine ⟨.ref f', trk H2 (pairs cl (freeN st) uz), os3, J3.bare, ⟨un.keep, un.slot, fun b o e n x => ?_, un.there, fun b xs e => ?_, fun b o x e => ?_, fun b ps e => ?_⟩, fun b o e => ?_, rv, ?_⟩
      · rw [trk_out (old e)]; exact un.free b o e n x
      · have := un.tups b xs e
        rw [trk_out (out this)]; exact this
      · have := un.frzs b o x e
        rw [trk_out (out this)]; exact this
      · obtain ⟨more, this⟩ := un.tbls b ps e
        exact ⟨more, by rw [trk_out (out this)]; exact this⟩
      · cases q : (pairs cl (freeN st) uz).lookup b with
        | none =>
          rw [trk_out q] at e
          letI : Mo := ⟨K, fun _ => 0, fun _ => 0, fun _ => none, fun _ => 0, false, fun _ _ => False⟩
          exact objOk_map (fun b' o' e' _ => by rw [trk_out (out e')]; exact e') (hok3 b o e)
        | some v =>
          rw [trk_in q] at e
          cases e
          obtain ⟨n, y, f1, f2, f3⟩ := pairs_is q
          obtain ⟨c, g1, g2⟩ := C.has n y f1
          rw [f3] at g1
          cases g1
          obtain ⟨u', ru, ic⟩ := g2 v (by rw [List.getElem?_map, f2]; rfl)
          have ic2 := ic
          obtain ⟨o, ho, hd⟩ := ic
          exact ⟨⟨u', ru, ic2⟩, ⟨o, ho⟩, fun h1 h2 ⟨u2, r2, o2, ho2, hd2⟩ st2 => ⟨u2, r2, o2, st2 _ ho2, hd2⟩⟩
      · rw [eQ] at e5 e6
        refine hQ f' c' H2 cl e1 e2 e3 e4 e5 e6 (fun y b e => ⟨?_, (C.all y b e).1⟩) C.inj fun y hy => ?_
        · rw [← hcl] at e
          rcases cloFrom_mem (PySem.mem_of_lookup e) with hm | ⟨h1, _⟩
          · cases hm
          · exact free_mem.mpr h1
        · obtain ⟨n, hn⟩ := List.mem_iff_getElem?.mp hy
          obtain ⟨c, g1, _⟩ := C.has n y hn
          exact ⟨c, g1⟩
  rw [eP, eW, eA, ← eE] at goal
  rw [hxe] at goal
  refine wpAny_mono goal (fun fl s' ⟨u, e, c⟩ => ?_) fun e s' h => h
  subst e
  exact c
end
end L3

set_option Elab.async false
set_option linter.all false
set_option maxRecDepth 100000
/-! L3, part 11: THE DEFS, and a law's end. -/
namespace L3
open PySem PySem.Spec PyProof.Rows L2

/-- a def of the text, in one of its editions; nq: a nested def's qualified name -/
structure DD where
  id : Nat
  py : Str
  st : Stmt
  N : List Str
  ps : List Str
  df : Df
  cls : Option Nat
  gl : Str
  nq : Option Str
/-- its name with its class's ahead -/
def DD.qual (d : DD) : Str := match d.cls with | none => d.py | some c => cnm c ++ Str.ofString "." ++ d.py
def nmOf (L : List DD) (f : Nat) : Option Str := (L.find? fun d => d.id == f).bind fun d => match d.nq with | some _ => none | none => match d.cls with | none => some d.gl | some _ => none
def meOf (L : List DD) (f : Nat) : Option (Nat × Str) := (L.find? fun d => d.id == f).bind fun d => match d.nq with | some _ => none | none => match d.cls with | none => none | some c => some (c, d.py)
/-- a lambda: a nested def without a statement of its own -/
def DD.isLm (d : DD) : Bool := match d.nq, d.st with | some _, .Pass _ => true | _, _ => false
def ndOf (L : List DD) (f : Nat) : Option (Str × Str × Stmt) := (L.find? fun d => d.id == f).bind fun d => match d.isLm with | true => none | false => d.nq.map fun q => (d.py, q, d.st)
def FOf (L : List DD) : Fs := fun f => (L.find? fun d => d.id == f).map (·.df)
/-- the lambda at a place says what d says -/
def lamB (T : Tb) (d : DD) (e : Expr) : Bool := match asLam e with
  | some (px, _, _, body, sc, _) => decide (d.ps = [px]) && NdefX.nscB d.N d.ps (freeS sc) sc && decide (d.df.ps = d.ps.length + (freeS sc).length) && decide (d.df.ns = d.N.length) && (match d.df.body with | .cons (.ret e') .nil => mE T d.N sc e' body | _ => false)
  | none => false
def lamF (T : Tb) (L : List DD) (g : Nat) (e : Expr) : Bool := match L.find? (fun d => d.id == g) with | some d => d.isLm && lamB T d e | none => false
def tb0 (L : List DD) (con : Str → Option Val) (xc : Nat → Addr) (exs : List Nat := []) (atts : List (Nat × Str) := []) (hot : Option Str := none) : Tb := ⟨nmOf L, con, xc, exs, meOf L, atts, hot, fun _ _ => false, none⟩
def tbOf (L : List DD) (con : Str → Option Val) (xc : Nat → Addr) (exs : List Nat := []) (atts : List (Nat × Str) := []) (hot : Option Str := none) : Tb := ⟨nmOf L, con, xc, exs, meOf L, atts, hot, lamF (tb0 L con xc exs atts hot) L, none⟩
/-- the name of the lambdas that a body makes (its own statements) -/
def lqS : Sms → Option Str
  | .nil => none
  | .cons (.asgL _ _ _ q _ _) _ => some q
  | .cons _ r => lqS r
def Tb.wq (T : Tb) (q : Option Str) : Tb := ⟨T.nm, T.con, T.xc, T.exs, T.me, T.atts, T.hot, T.lam, q⟩
def DD.lqOk (d : DD) : Bool := match lqS d.df.body with | some q => decide (q = d.qual ++ ".<locals>." ++ "<lambda>") && d.cls.isNone | none => true
def scopeB (N ps : List Str) (sc : Scope) : Bool :=
  (match sc.kind with | .function => true | _ => false) && !sc.isCoroutine && !sc.isGenerator && decide N.Nodup && decide (N.take ps.length = ps) &&
    (ps.all fun x => decide (sc.names.lookup x = some .local) || decide (sc.names.lookup x = some .cell)) && sc.names.all fun y => decide (y.2 ≠ .free)
theorem scopeB_is {N ps : List Str} {sc : Scope} (h : scopeB N ps sc = true) : FnScope N ps sc := by
  unfold scopeB at h
  simp only [Bool.and_eq_true, Bool.not_eq_true', decide_eq_true_eq, List.all_eq_true, Bool.or_eq_true] at h
  obtain ⟨⟨⟨⟨⟨⟨h1, h2⟩, h3⟩, h4⟩, h5⟩, h6⟩, h7⟩ := h
  refine ⟨?_, h2, h3, h4, h5, h6, h7⟩
  split at h1
  · assumption
  · cases h1
/-- a def that makes a function and returns it: the nested def, its qualified name, the captured names' places -/
def mkS : Sms → Option (Nat × Str × List Nat) | .cons (.retc g q js) .nil => some (g, q, js) | _ => none
theorem mkS_is {b : Sms} {g : Nat} {q : Str} {js : List Nat} (h : mkS b = some (g, q, js)) : b = .cons (.retc g q js) .nil := by
  unfold mkS at h
  split at h
  · cases h; rfl
  · cases h
def DD.isMk (d : DD) : Bool := (mkS d.df.body).isSome
/-- the def says what its text says -/
def okDD (T : Tb) (d : DD) : Bool := match d.nq with
  | some _ => d.isLm || NdefX.nscB d.N d.ps (freeN d.st) (C8.fnScope d.st) && decide (d.df.ps = d.ps.length + (freeN d.st).length) && decide (d.df.ns = d.N.length) && mSs T d.N (C8.fnScope d.st) (fun _ => false) d.df.body (C8.fnBody d.st)
  | none => scopeB d.N d.ps (defScope d.st) && decide (d.df.ps = d.ps.length) && decide (d.df.ns = d.N.length) && (d.isMk || d.lqOk && mSs (T.wq (lqS d.df.body)) d.N (defScope d.st) (fun _ => true) d.df.body (defBody d.st))
/-- how its arguments come -/
def BindOk (d : DD) : Prop := match d.nq with
  | none => ∀ (kV doc pm : Value) (an : Option Addr) (cdv ct : Value) (us : List Value), us.length = d.ps.length → bindArgs (PySem.W.fnOf d.py d.qual (defArgs d.st) (defBody d.st) (defScope d.st) .none kV doc pm an cdv ct) ⟨us, []⟩ = pure (d.ps.zip us)
  | some q => d.isLm = false → ∀ (cl : List (Str × Addr)) (c : Addr) (doc pm ctv : Value) (us : List Value), us.length = d.ps.length → bindArgs ((NdefX.NF.of d.st d.py q cl c).fd doc pm ctv) ⟨us, []⟩ = pure (d.ps.zip us)
theorem BindOk.pl {d : DD} (h : BindOk d) (e : d.nq = none) : ∀ (kV doc pm : Value) (an : Option Addr) (cdv ct : Value) (us : List Value), us.length = d.ps.length → bindArgs (PySem.W.fnOf d.py d.qual (defArgs d.st) (defBody d.st) (defScope d.st) .none kV doc pm an cdv ct) ⟨us, []⟩ = pure (d.ps.zip us) := by
  unfold BindOk at h; rw [e] at h; exact h
theorem BindOk.ne {d : DD} (h : BindOk d) {q : Str} (e : d.nq = some q) (nl : d.isLm = false) : ∀ (cl : List (Str × Addr)) (c : Addr) (doc pm ctv : Value) (us : List Value), us.length = d.ps.length → bindArgs ((NdefX.NF.of d.st d.py q cl c).fd doc pm ctv) ⟨us, []⟩ = pure (d.ps.zip us) := by
  unfold BindOk at h; rw [e] at h; exact h nl
/-- what a maker's text says -/
def MkOk (L : List DD) (d : DD) : Prop := ∀ g q js, mkS d.df.body = some (g, q, js) → d.cls = none ∧ d.nq = none ∧ ∃ (nm : Str) (st : Stmt) (pos p1 p2 : Pos) (i : Nat), ndOf L g = some (nm, q, st) ∧ q = d.qual ++ ".<locals>." ++ nm ∧ defBody d.st = [st, .Return (some (.Name nm p1)) p2] ∧
  st = .FunctionDef nm (C8.fnArgs st) (C8.fnBody st) [] none [] (C8.fnScope st) none nm pos ∧ d.N[i]? = some nm ∧ (defScope d.st).names.lookup nm = some .local ∧ NdefX.ndefB (defScope d.st) (C8.fnScope st) (freeN st) = true ∧ (freeN st).Nodup ∧
  js.map (fun j => d.N[j]?) = (freeN st).map some ∧ (∀ j ∈ js, j < d.ps.length) ∧ d.ps.length ≤ i ∧ (C8.fnArgs st).defaults = [] ∧ (C8.fnArgs st).kw_defaults = [] ∧ (∀ env, annTrees (C8.fnArgs st) none env = []) ∧ (nm == ("__debug__" : Str)) = false ∧ (nm == ("__classdict__" : Str)) = false

theorem find_of {L : List DD} {f : Nat} {d : DD} (h : L.find? (fun d => d.id == f) = some d) : d ∈ L := List.mem_of_find?_eq_some h
theorem lks_in {ρ : Env3} : ∀ {js : List Nat} {ws : List Val}, lks ρ js = some ws → ∀ {args : List Val} {m : Nat}, ρ = args.map some ++ List.replicate m none → js.map (fun j => args[j]?) = ws.map some
  | [], ws, h, _, _, _ => by cases h; rfl
  | j :: js, ws, h, args, m, er => by
    unfold lks at h
    split at h
    · rename_i v vs e1 e2
      cases h
      have e3 := lk_eq _ _ _ e1
      rw [er] at e3
      rw [List.map_cons, List.map_cons, lks_in e2 er]
      congr 1
      by_cases hj : j < args.length
      · rw [List.getElem?_append_left (by simpa using hj), List.getElem?_map] at e3
        cases q : args[j]? with
        | none => rw [q] at e3; cases e3
        | some u => rw [q] at e3; cases e3; rfl
      · rw [List.getElem?_append_right (by rw [List.length_map]; omega), List.getElem?_replicate] at e3
        split at e3 <;> cases e3
    · cases h
section
variable [Mo] {L : List DD} {con : Str → Option Val} {xc : Nat → Addr} {exs : List Nat} {atts : List (Nat × Str)} {hot : Option Str} {P : Program} {w : World} {K : PySem.W.Frag} {mg : Str → Option Value} {base : Heap}
theorem rvs_pick {h : Hq} {H : Hp} {args : List Val} {vs : List V} (r : RVs h H args vs) : ∀ {js : List Nat} {ws : List Val}, js.map (fun j => args[j]?) = ws.map some → ∃ us : List V, js.map (fun j => vs[j]?) = us.map some ∧ RVs h H ws us
  | [], [], _ => ⟨[], rfl, .nil⟩
  | [], _ :: _, e => by cases e
  | _ :: _, [], e => by cases e
  | j :: js, w :: ws, e => by
    rw [List.map_cons, List.map_cons, List.cons.injEq] at e
    obtain ⟨us, e1, r1⟩ := rvs_pick r e.2
    obtain ⟨x, e2, r2⟩ := r.get e.1
    exact ⟨x :: us, by rw [List.map_cons, List.map_cons, e1, e2], .cons r2 r1⟩
/-- where a def stands -/
def At (K : PySem.W.Frag) (mg : Str → Option Value) (cc : Nat → Addr) (d : DD) : Prop := match d.nq with
  | some _ => True
  | none => ∃ a fd, FunD K d.py d.qual (defArgs d.st) (defBody d.st) (defScope d.st) [] [] a fd ∧ (d.cls = none → fd.code = .ref (He.codeOf K (d.gl, none))) ∧ match d.cls with
    | none => mg d.gl = some (.ref a)
    | some c => Cls K (cc c) ∧ Meth K (cc c) d.py a ∧ (d.py = Str.ofString "__init__" → mg (cnm c) = some (.ref (cc c)) ∧ Mk K (cc c) a)
theorem At.pl {cc : Nat → Addr} {d : DD} (h : At K mg cc d) (e : d.nq = none) : ∃ a fd, FunD K d.py d.qual (defArgs d.st) (defBody d.st) (defScope d.st) [] [] a fd ∧ (d.cls = none → fd.code = .ref (He.codeOf K (d.gl, none))) ∧ match d.cls with
    | none => mg d.gl = some (.ref a)
    | some c => Cls K (cc c) ∧ Meth K (cc c) d.py a ∧ (d.py = Str.ofString "__init__" → mg (cnm c) = some (.ref (cc c)) ∧ Mk K (cc c) a) := by
  unfold At at h; rw [e] at h; exact h
/-- the tables' cells, behind a making -/
theorem mk_back {n : Nat} {T : Tb} {F : Fs} {d : DD} {f : Addr} {fd : FuncData} {g : Nat} {q nm : Str} {js : List Nat} {st : Stmt} (hF : F d.id = some d.df) (hps : d.df.ps = d.ps.length) (hmk : mkS d.df.body = some (g, q, js)) (hnd : Mo.nd g = some (nm, q, st)) (hfr : (freeN st).Nodup) (hjf : js.length = (freeN st).length)
    (FM : FnOk P w K mg base (L2.CX P w) (2 * n + 1 + 1) f fd d.ps (spMk (Mo.ta q) q st nm d.ps.length js)) : FnOk P w K mg base (L2.CX P w) (2 * (n + 1)) f fd d.ps (spOf T F (n + 1) d.id) := by
  have len : ∀ (vs : List V) (H : Hp) (Q : VK) (E : XK), spOf T F (n + 1) d.id vs H Q E → vs.length = d.ps.length := fun vs H Q E ⟨args, h, rv, rh, z⟩ => by
    obtain ⟨df, e1, z⟩ := optW_ex z
    rw [hF] at e1
    cases e1
    rw [← rv.length, z.1]
    exact hps
  refine ⟨len, fun A outer s H args us vs Q E hr e0 hbd r hsp => ?_⟩
  have hl := len vs H Q E hsp
  obtain ⟨av, h, rv, rh, z⟩ := hsp
  obtain ⟨df, e1, z1, z⟩ := optW_ex z
  rw [hF] at e1
  cases e1
  rw [mkS_is hmk] at z
  obtain ⟨⟨Pt, hPt⟩, z⟩ := z
  obtain ⟨ws, ews, z⟩ := optW_ex z
  obtain ⟨uz, euz, rws⟩ := rvs_pick rv (lks_in ews rfl)
  obtain ⟨ePt, psT, hHP, hTr, hcd⟩ := rh _ _ hPt
  subst ePt
  let D : Addr → Prop := fun b => (∃ ps, H b = some (.tbl ps)) ∧ b ≠ Mo.ta q
  have kd : Kinds D H := fun b d => by
    obtain ⟨⟨ps, e⟩, _⟩ := d
    exact ⟨_, e, .inr (.inr (.inl ⟨_, rfl⟩))⟩
  have nP : ¬ D (Mo.ta q) := fun d => d.2 rfl
  have nT : ∀ {b o}, H b = some o → (∀ ps, o ≠ .tbl ps) → ¬ D b := fun {b o} e x d => by
    obtain ⟨⟨ps, e2⟩, _⟩ := d
    rw [e] at e2; cases e2
    exact x _ rfl
  have E0 := env0_in (H' := hidD D H) e0 (fun b e => by
    by_cases d : D b
    · exact hid_out d
    · rw [hid_in d]; exact e) (hok_inD kd e0.hok)
  have run := FM.run A outer s (hidD D H) args us vs (fun v H3 => (∀ b, D b → H3 b = none) → Q v (bakD D H H3)) (fun _ _ _ => False) hr E0 hbd r ⟨hl, fun p hp => ?_, uz, euz, fun f' c' H1 cl e1 e2 e3 e4 e5 e6 e7 e8 e9 gd => ?_⟩
  · refine codeAny_mono run fun r s' hq => ?_
    cases r with
    | error e => exact (no_cx hq).elim
    | ok fl => cases fl with
      | ret u => exact ce_backD kd e0.hok e0.frf hq
      | next => exact hq
      | brk => exact hq
      | cont => exact hq
  · rw [List.mem_singleton.mp hp]
    refine ⟨psT, by show hidD D H _ = _; rw [hid_in nP]; exact hHP, hTr, fun pos cv hc => ?_⟩
    obtain ⟨c, e1, _, e2⟩ := hcd pos cv hc
    exact ⟨c, e1, by rw [hid_in (nT e2 LamX.codeO_ne)]; exact e2⟩
  · have out : ∀ {b o}, H1 b = some o → (pairs cl (freeN st) uz).lookup b = none := fun {b o} e => by
      cases q2 : (pairs cl (freeN st) uz).lookup b with
      | none => rfl
      | some v =>
        obtain ⟨_, y, _, _, e3'⟩ := pairs_is q2
        rw [(e7 y b e3').2] at e; cases e
    have at3 : ∀ {b o}, H1 b = some o → trk H1 (pairs cl (freeN st) uz) b = some o := fun {b o} e => by rw [trk_out (out e)]; exact e
    have nD : ∀ {b o}, trk H1 (pairs cl (freeN st) uz) b = some o → ¬ D b := fun {b o} e d => by rw [gd b d] at e; cases e
    have at4 : ∀ {b o}, H1 b = some o → bakD D H (trk H1 (pairs cl (freeN st) uz)) b = some o := fun {b o} e => by rw [bak_in (nD (at3 e))]; exact at3 e
    -- what was there and is no table stays
    have old : ∀ {b o}, H b = some o → (∀ ps, o ≠ .tbl ps) → H1 b = some o := fun {b o} e x => e1 b o (by rw [hid_in (nT e x)]; exact e) x
    have old4 : ∀ {b o}, H b = some o → b ≠ Mo.ta q → bakD D H (trk H1 (pairs cl (freeN st) uz)) b = some o := fun {b o} e ne => by
      by_cases d : D b
      · rw [bak_out d]; exact e
      · exact at4 (old e fun ps z => d ⟨⟨ps, by rw [e, z]⟩, ne⟩)
    -- a new object stands at no live cell
    have fresh : ∀ {b o}, H1 b = some o → (∀ ps, o ≠ .tbl ps) → (∀ xs, o ≠ .lst xs) → (∀ xs, o ≠ .dK xs) → (∀ c dx fs, o ≠ .ins c dx fs) → h b = none := fun {b o} e x1 x2 x3 x4 => by
      cases eh : h b with
      | none => rfl
      | some c =>
        exfalso
        have rc := rh b c eh
        have key : ∀ o', H b = some o' → (∀ ps, o' ≠ .tbl ps) → o' = o := fun o' e' x => by
          have := old e' x
          rw [e] at this; cases this; rfl
        cases c with
        | lst xs => obtain ⟨vs, e', _⟩ := rc; exact x2 _ (key _ e' (fun _ z => by cases z)).symm
        | dic xs => obtain ⟨vs, e', _⟩ := rc; exact x3 _ (key _ e' (fun _ z => by cases z)).symm
        | ins k xs => obtain ⟨_, dx, vs, e', _⟩ := rc; exact x4 _ _ _ (key _ e' (fun _ z => by cases z)).symm
        | tab q' =>
          obtain ⟨_, ps', e', _⟩ := rc
          by_cases eb : b = Mo.ta q
          · obtain ⟨ps2, e2', _⟩ := e3 (Mo.ta q, fun _ _ => q) List.mem_cons_self
            have e2' : H1 (Mo.ta q) = some (.tbl ps2) := e2'
            rw [← eb, e] at e2'; cases e2'
            exact x1 _ rfl
          · exact nD (at3 e) ⟨⟨ps', e'⟩, eb⟩
    have st1 : Stab h H h (bakD D H (trk H1 (pairs cl (freeN st) uz))) := fun b o e n => ⟨old4 e (fun z => by rw [z, hPt] at n; cases n), n⟩
    have rh4 : RH h (bakD D H (trk H1 (pairs cl (freeN st) uz))) := fun b c e => by
      by_cases eb : b = Mo.ta q
      · subst eb
        rw [hPt] at e; cases e
        obtain ⟨ps2, t1, t2, t3⟩ := e3 (Mo.ta q, fun _ _ => q) List.mem_cons_self
        refine ⟨rfl, ps2, at4 t1, t2, fun pos cv hc => ?_⟩
        obtain ⟨c, c1, c2⟩ := t3 pos cv hc
        have c2 : H1 c = some (LamX.CodeO c q) := c2
        exact ⟨c, c1, fresh c2 LamX.codeO_ne (fun _ z => by cases z) (fun _ z => by cases z) (fun _ _ _ z => by cases z), at4 c2⟩
      · obtain ⟨o, eo⟩ := (rh b c e).some
        exact (rh b c e).keep st1 ((old4 eo eb).trans eo.symm)
    refine z (.ref f') _ rh4 st1 ⟨f', c', q, freeN st, cl, uz, _, rfl, .inl ⟨nm, st, hnd, rfl, rfl⟩, fresh e5 NdefX.fnO_ne (fun _ z => by cases z) (fun _ z => by cases z) (fun _ _ _ z => by cases z), at4 e5,
      fresh e6 LamX.codeO_ne (fun _ z => by cases z) (fun _ z => by cases z) (fun _ _ _ z => by cases z), at4 e6, ⟨?_, fun i y v f1 f2 => ?_, fun y b e => (e7 y b e).1, e8⟩, RVs.keep st1 rws⟩
    · have := congrArg List.length euz
      rw [List.length_map, List.length_map] at this
      rw [← this]; exact hjf
    · obtain ⟨b, eb⟩ := e9 y (List.mem_of_getElem? f1)
      have tk := trk_in (H := H1) (pairs_at e8 hfr f1 f2 eb)
      have n1 := (e7 y b eb).2
      have n0 := e2 b n1
      have nd := nD tk
      rw [hid_in nd] at n0
      exact ⟨b, eb, rh.free n0, .inl (by rw [bak_in nd]; exact tk)⟩
theorem re_start {h : Hq} {H : Hp} {av : List Val} {xs : List V} {m : Nat} (r : RVs h H av xs) : RE h H (av.map some ++ List.replicate m none) (xs.map some ++ List.replicate m none) := by
  refine ⟨by simp [r.length], fun i v ev => ?_⟩
  by_cases hi : i < av.length
  · rw [List.getElem?_append_left (by simpa using hi), List.getElem?_map] at ev
    cases q : av[i]? with
    | none => rw [q] at ev; cases ev
    | some u =>
      rw [q] at ev
      cases ev
      obtain ⟨x, e2, r2⟩ := r.get q
      refine ⟨x, ?_, r2⟩
      rw [List.getElem?_append_left (by rw [List.length_map, ← r.length]; exact hi), List.getElem?_map, e2]
      rfl
  · rw [List.getElem?_append_right (by rw [List.length_map]; omega), List.getElem?_replicate] at ev
    split at ev <;> cases ev
/-- a plain def, its own code told -/
theorem funD_ok {x qual : Str} {params : Arguments} {body : List Stmt} {scope : Scope} {f : Addr} {fd : FuncData} {CX : CXT} {N ps : List Str} {k : Nat} {sp : Sp} (F : FunD K x qual params body scope [] [] f fd) (S : FnScope N ps scope) (len : ∀ vs H Q E, sp vs H Q E → vs.length = ps.length)
    (hbody : ∀ (cdv : Value), fd.code = cdv → ∀ (A : Around) (outer : List Env) (s : Shared) (H : Hp) (vs : List V) (Q : VK) (E : XK), Room k (A.deeper (envOfC qual scope s.heap.objs.size f cdv)) → sp vs H Q E →
      ∃ t, PSs (cxOf CX P w K mg base N qual scope f cdv A outer s H E) body t ∧ t { nx := fun _ H' => Q .non H', rt := Q } (L2.start N vs) H) : FnOk P w K mg base CX (k + 1) f fd ps sp := by
  obtain ⟨oc, od, dV, kV, doc, pm, an, cdv, ct, osl, rfl, lk, hcd, _, _⟩ := F.ex
  exact fn_of lk hcd S len fun A outer s H vs Q E hr hsp => hbody cdv rfl A outer s H vs Q E hr hsp
abbrev lmF (q : Str) (sc : Scope) (cl : List (Str × Addr)) (c : Addr) : NdefX.NF := ⟨Str.ofString "<lambda>", q, ⟨[], [], none, [], [], none, []⟩, [], sc, cl, c⟩
theorem bind_one {fd : FuncData} {px : Str} {pa : Option Expr} {pp : Pos} {u : Value} (h1 : fd.params = ⟨[], [⟨px, pa, pp⟩], none, [], [], none, []⟩) (h2 : fd.defaults = .none) : bindArgs fd ⟨[u], []⟩ = pure [(px, u)] := by
  have lk : List.lookup px [(px, u)] = some u := by rw [List.lookup_cons, beq_self_eq_true]
  have sq : seqItems? .none = pure none := rfl
  unfold bindArgs
  rw [h1, h2, sq]
  simp [lk]
/-- a lambda's run -/
theorem lam_run {k : Nat} {N : List Str} {px : Str} {pa : Option Expr} {pp : Pos} {body : Expr} {sc : Scope} {q : Str} {cl : List (Str × Addr)} {c f : Addr} {A : Around} {outer : List Env} {s : Shared} {H : Hp} {us : List Value} {vs : List V} {ws : List (Option V)} {Q : VK} (S : NdefX.NScope N [px] (freeS sc) sc)
    (hr : Room (k + 1) A) (e0 : Env0 P w K mg base A outer s H) (hf : H f = some (LmO f q ⟨[], [⟨px, pa, pp⟩], none, [], [], none, []⟩ body sc cl c)) (hc : H c = some (LamX.CodeO c q)) (C : NdefX.CellsAt cl (freeS sc) ws s.heap H) (r : Vals vs us) (hl : vs.length = 1)
    (hbody : Room k (A.deeper (NdefX.envF (lmF q sc cl c) f s.heap.objs.size)) → ∃ t, PE (NdefX.ncx (L2.CX P w) P w K mg base N (lmF q sc cl c) f A outer s H (fun _ _ _ => False)) body t ∧ t (NdefX.startF N vs ws) H Q) :
    codeAny (model P w) A (.call (.ref f) ⟨us, []⟩) (CR (L2.CX P w) outer P w H s Q (fun _ _ _ => False)) s := by
  have lim : s.heap.NoLimit := e0.mod.nolimit.keeps fun b o e => (e0.bs b o e).1
  obtain ⟨⟨od, sl, pm, ctv, ho⟩, _, _⟩ := e0.hok f _ hf
  obtain ⟨u, rfl⟩ : ∃ u, us = [u] := by
    have := r.length
    rw [hl] at this
    match us, this with
    | [u], _ => exact ⟨u, rfl⟩
  refine PySem.W.kla_callFunE hr.depth ho rfl S.co S.gen rfl (NdefX.codeO_at e0.hok hc) ?_
  have bind : bindArgs (PySem.W.kla_fn (Str.ofString "<lambda>") q ⟨[], [⟨px, pa, pp⟩], none, [], [], none, []⟩ body sc cl pm (.ref c) ctv) ⟨[u], []⟩ = pure ([px].zip [u]) := bind_one rfl rfl
  rw [bind]
  refine wpAny_pure (wpAny_newFunctionEnv S.nocell (fun ⟨n, _⟩ hy => S.par n (List.of_mem_zip hy).1) (fun h₁ hns hsb => ⟨lim.fresh _ hsb, ?_⟩) S.kind)
  show codeAny _ _ (.expr body (NdefX.envF (lmF q sc cl c) f s.heap.objs.size)) _ _
  have kp : ∀ b o, s.heap.get? b = some o → h₁.get? b = some o := fun b o e => hsb.extBut b o (Nat.ne_of_lt (Heap.lt_size e)) (Heap.get?_push_of_some _ e)
  obtain ⟨t, ht, hq⟩ := hbody (hr.deeper _)
  have I : Inv (NdefX.ncx (L2.CX P w) P w K mg base N (lmF q sc cl c) f A outer s H (fun _ _ _ => False)) [] (NdefX.startF N vs ws) H { s with heap := h₁, toks := s.toks + ([px].zip [u]).length } := NdefX.inv_startN (F := lmF q sc cl c) S hr.hd e0 hl r C hns kp
  refine PySem.W.kla_codeExpr (wpAny_mono (ht.run [] _ (NdefX.startF N vs ws) H Q I hq) (fun v s' hq => ?_) fun e s' hq => hq)
  obtain ⟨w', H', J', rv, q⟩ := hq
  exact ⟨w', H', J'.os, J'.bare, J'.base, J'.hok, rv, q⟩
/-- what a lambda promises -/
def LamOk (P : Program) (w : World) (K : PySem.W.Frag) (mg : Str → Option Value) (base : Heap) (k : Nat) (T0 : Tb) (d : DD) (sp : Nat → List (Option V) → Sp) : Prop := ∀ (px : Str) (pa : Option Expr) (pp : Pos) (body : Expr) (sc : Scope) (pos : Pos), lamB T0 d (.Lambda ⟨[], [⟨px, pa, pp⟩], none, [], [], none, []⟩ body sc pos) = true →
  ∀ (q : Str) (cl : List (Str × Addr)) (c f : Addr) (A : Around) (outer : List Env) (s : Shared) (H : Hp) (us : List Value) (vs : List V) (ws : List (Option V)) (Q : VK), Room k A → Env0 P w K mg base A outer s H → H f = some (LmO f q ⟨[], [⟨px, pa, pp⟩], none, [], [], none, []⟩ body sc cl c) → H c = some (LamX.CodeO c q) →
    NdefX.CellsAt cl (freeS sc) ws s.heap H → Vals vs us → sp (freeS sc).length ws vs H Q (fun _ _ _ => False) → codeAny (model P w) A (.call (.ref f) ⟨us, []⟩) (CR (L2.CX P w) outer P w H s Q (fun _ _ _ => False)) s
theorem all_ok (kk : K = Mo.K) (xk : xc = Mo.xc) (hnio : atts.isEmpty = true → Mo.io = false) (hio : ∀ d ∈ L, d.cls ≠ none → Mo.io = true) (hnd : Mo.nd = ndOf L) (hlm : Mo.lm = fun g e => lamF (tb0 L con xc exs atts hot) L g e = true) (hexs : exs ≠ [] → ExF K mg exs) (hall : L.all (okDD (tbOf L con xc exs atts hot)) = true) (hb : ∀ d ∈ L, BindOk d) (hmk : ∀ d ∈ L, d.isMk = true → MkOk L d) (hat : ∀ d ∈ L, At K mg Mo.cc d)
    (hTB : ∀ d ∈ L, ∀ g q js, mkS d.df.body = some (g, q, js) → LamX.TabB base mg (He.codeOf K (d.gl, none)) (Mo.ta q)) (hTL : ∀ d ∈ L, d.nq = none → ∀ q, lqS d.df.body = some q → LamX.TabB base mg (He.codeOf K (d.gl, none)) (Mo.ta q)) (hatt : ∀ c f, (c, f) ∈ atts → Cls K (Mo.cc c) ∧ NoAttr K (Mo.cc c) f) (blt : ∀ x ∈ bltNames, mg x = none) (hcon : ∀ x v, con x = some v → flt v = true → ∃ u, mg x = some u ∧ RelV (flV v) u) (htab : ∀ x tb, con x = some (tabV tb) → ∃ d, mg x = some (.ref d) ∧ TabAt K w d tb) (hhot : ∀ z, hot = some z → HotOk P w K mg base z) :
    ∀ (n f : Nat) (d : DD), L.find? (fun d => d.id == f) = some d → (d.nq = none → ∀ a fd, FunD K d.py d.qual (defArgs d.st) (defBody d.st) (defScope d.st) [] [] a fd → (d.isMk = true ∨ (lqS d.df.body).isSome = true → fd.code = .ref (He.codeOf K (d.gl, none))) →
      FnOk P w K mg base (L2.CX P w) (2 * n) a fd d.ps (spOf (tbOf L con xc exs atts hot) (FOf L) n f)) ∧
      (∀ q, d.nq = some q → d.isLm = false → ∀ a cl c, NdefX.NOk P w K mg base (L2.CX P w) (2 * n) a (NdefX.NF.of d.st d.py q cl c) d.ps (freeN d.st) (spN (tbOf L con xc exs atts hot) (FOf L) n f (freeN d.st).length)) ∧
      (d.isLm = true → LamOk P w K mg base (2 * n) (tb0 L con xc exs atts hot) d (fun k => spN (tbOf L con xc exs atts hot) (FOf L) n f k)) := by
  intro n
  induction n with
  | zero => exact fun f d e => ⟨fun _ a fd _ _ => ⟨fun vs H Q E ⟨_, _, _, _, z⟩ => z.elim, fun _ _ _ _ _ _ _ _ _ _ _ _ _ ⟨_, _, _, _, z⟩ => z.elim⟩,
      fun q _ _ a cl c => ⟨fun ws vs H Q E ⟨_, _, _, _, _, _, _, _, _, z⟩ => z.elim, fun _ _ _ _ _ _ _ _ _ _ _ _ _ _ _ ⟨_, _, _, _, _, _, _, _, _, z⟩ => z.elim⟩, fun _ => fun _ _ _ _ _ _ _ _ _ _ _ _ _ _ _ _ _ _ _ _ _ _ _ _ _ ⟨_, _, _, _, _, _, _, _, _, z⟩ => z.elim⟩
  | succ n ih =>
    intro f d e
    have ok := List.all_eq_true.mp hall d (find_of e)
    unfold okDD at ok
    have hF : FOf L f = some d.df := by unfold FOf; rw [e]; rfl
    have fid : d.id = f := by
      have := List.find?_some (p := fun d : DD => d.id == f) e
      exact eq_of_beq this
    have mkc : ∀ d' ∈ L, d'.nq = none → ∀ fd : FuncData, (d'.cls = none → fd.code = .ref (He.codeOf K (d'.gl, none))) → d'.isMk = true ∨ (lqS d'.df.body).isSome = true → fd.code = .ref (He.codeOf K (d'.gl, none)) := fun d' hd' hn fd hc hm => by
      by_cases hm0 : d'.isMk = true
      case neg =>
        have hm := hm.resolve_left hm0
        obtain ⟨q, eq⟩ := Option.isSome_iff_exists.mp hm
        have ok := List.all_eq_true.mp hall d' hd'
        unfold okDD at ok
        rw [hn] at ok
        obtain ⟨_, o4⟩ := b1 ok
        rw [show d'.isMk = false from Bool.eq_false_iff.mpr hm0, Bool.false_or] at o4
        obtain ⟨o5, _⟩ := b1 o4
        unfold DD.lqOk at o5
        rw [eq] at o5
        have o6 := (b1 o5).2
        cases hcl : d'.cls with
        | none => exact hc hcl
        | some c => rw [hcl] at o6; cases o6
      have hm := hm0
      obtain ⟨⟨g, q, js⟩, em⟩ := Option.isSome_iff_exists.mp (show (mkS d'.df.body).isSome = true from hm)
      exact hc (hmk d' hd' hm g q js em).1
    have gfn : ∀ g x, nmOf L g = some x → ∃ a fd ps, mg x = some (.ref a) ∧ PySem.W.keepIn K (.ref a) = true ∧ Binds K fd ps [] ∧ FnOk P w K mg base (L2.CX P w) (2 * n) a fd ps (spOf (tbOf L con xc exs atts hot) (FOf L) n g) := fun g x hx' => by
      unfold nmOf at hx'
      obtain ⟨d', e', e2⟩ := Option.bind_eq_some_iff.mp hx'
      cases hn : d'.nq with
      | some q => rw [hn] at e2; cases e2
      | none =>
        rw [hn] at e2
        obtain ⟨a', fd', q2, qc, q1⟩ := (hat d' (find_of e')).pl hn
        cases hc : d'.cls with
        | none =>
          rw [hc] at e2 q1
          cases e2
          exact ⟨a', fd', d'.ps, q1, q2.kp, q2.bindsN ((hb d' (find_of e')).pl hn), (ih g d' e').1 hn a' fd' q2 (mkc d' (find_of e') hn fd' qc)⟩
        | some c =>
          rw [hc] at e2
          cases e2
    have gme : ∀ g c m, meOf L g = some (c, m) → ∃ a fd ps, Cls K (Mo.cc c) ∧ Meth K (Mo.cc c) m a ∧ Binds K fd ps [] ∧ FnOk P w K mg base (L2.CX P w) (2 * n) a fd ps (spOf (tbOf L con xc exs atts hot) (FOf L) n g) := fun g c m hx' => by
      unfold meOf at hx'
      obtain ⟨d', e', e2⟩ := Option.bind_eq_some_iff.mp hx'
      cases hn : d'.nq with
      | some q => rw [hn] at e2; cases e2
      | none =>
        rw [hn] at e2
        obtain ⟨a', fd', q2, qc, q1⟩ := (hat d' (find_of e')).pl hn
        cases hc : d'.cls with
        | none =>
          rw [hc] at e2
          cases e2
        | some c' =>
          rw [hc] at e2 q1
          cases e2
          exact ⟨a', fd', d'.ps, q1.1, q1.2.1, q2.bindsN ((hb d' (find_of e')).pl hn), (ih g d' e').1 hn a' fd' q2 (mkc d' (find_of e') hn fd' qc)⟩
    have gmk : ∀ g c, meOf L g = some (c, Str.ofString "__init__") → Mo.io = true ∧ ∃ a fd ps, mg (cnm c) = some (.ref (Mo.cc c)) ∧ Mk K (Mo.cc c) a ∧ Binds K fd ps [] ∧ FnOk P w K mg base (L2.CX P w) (2 * n) a fd ps (spOf (tbOf L con xc exs atts hot) (FOf L) n g) := fun g c hx' => by
      unfold meOf at hx'
      obtain ⟨d', e', e2⟩ := Option.bind_eq_some_iff.mp hx'
      cases hn : d'.nq with
      | some q => rw [hn] at e2; cases e2
      | none =>
        rw [hn] at e2
        obtain ⟨a', fd', q2, qc, q1⟩ := (hat d' (find_of e')).pl hn
        cases hc : d'.cls with
        | none =>
          rw [hc] at e2
          cases e2
        | some c' =>
          rw [hc] at e2 q1
          have e2 := Option.some.inj e2
          obtain ⟨e3, e4⟩ := Prod.mk.inj e2
          subst e3
          exact ⟨hio d' (find_of e') (by rw [hc]; intro z; cases z), a', fd', d'.ps, (q1.2.2 e4).1, (q1.2.2 e4).2, q2.bindsN ((hb d' (find_of e')).pl hn), (ih g d' e').1 hn a' fd' q2 (mkc d' (find_of e') hn fd' qc)⟩
    have gnok : ∀ g, NOkA P w K mg base (2 * n) g (fun k => spN (tbOf L con xc exs atts hot) (FOf L) n g k) := fun g => ⟨fun f q fr cl c o fa A outer s H us vs ws Q hr e0 hf hc C r hsp => by
      rcases fa with ⟨nm, st, hx', rfl, rfl⟩ | ⟨ps, body, sc, pos, hx', rfl, rfl⟩
      · rw [hnd] at hx'
        unfold ndOf at hx'
        obtain ⟨d', e', e2⟩ := Option.bind_eq_some_iff.mp hx'
        cases nl : d'.isLm with
        | true => rw [nl] at e2; cases e2
        | false =>
          rw [nl] at e2
          obtain ⟨q', e3, e4⟩ := Option.map_eq_some_iff.mp e2
          cases e4
          exact ((ih g d' e').2.1 q e3 nl f cl c).run A outer s H us vs ws Q _ hr e0 hf hc C r hsp
      · rw [hlm] at hx'
        have hx' : lamF (tb0 L con xc exs atts hot) L g (.Lambda ps body sc pos) = true := hx'
        unfold lamF at hx'
        split at hx'
        · rename_i d' e'
          obtain ⟨l1, l2⟩ := b1 hx'
          cases hal : asLam (.Lambda ps body sc pos) with
          | none =>
            unfold lamB at l2
            rw [hal] at l2
            cases l2
          | some t =>
            obtain ⟨px, pa, pp, body', sc', pos'⟩ := t
            have ei := asLam_is hal
            cases ei
            exact (ih g d' e').2.2 l1 _ _ _ _ _ _ l2 q cl c f A outer s H us vs ws Q hr e0 hf hc C r hsp
        · cases hx'⟩
    have glam : ∀ g e, (tbOf L con xc exs atts hot).lam g e = true → Mo.lm g e := fun g e z => by rw [hlm]; exact z
    refine ⟨fun hn a fd FD hcode => ?_, fun q hn nl a cl c => ?_, fun hl => ?_⟩
    · rw [hn] at ok
      obtain ⟨ok, o4⟩ := b1 ok
      obtain ⟨ok, o3⟩ := b1 ok
      obtain ⟨o1, o2⟩ := b1 ok
      have S := scopeB_is o1
      have o2' := of_decide_eq_true o2
      have o3' := of_decide_eq_true o3
      cases hm : mkS d.df.body with
      | some t =>
        obtain ⟨g, q, js⟩ := t
        have hm' : d.isMk = true := by unfold DD.isMk; rw [hm]; rfl
        obtain ⟨m1, m2, nm, st, pos, p1, p2, i, m3, m4, m5, m6, m7, m8, m9, m10, m11, m12, m13, m14, m15, m16, m17, m18⟩ := hmk d (find_of e) hm' g q js hm
        subst fid
        have FM := fn_maker (P := P) (w := w) (mg := mg) (base := base) (k := 2 * n + 1) (T := Mo.ta q) FD S m5 m6 m7 m8 m9 m10 m11 m12 m13 m14 m15 m16 m17 m18 (fun c ec => by
          have := hcode (.inl hm')
          rw [ec] at this
          cases this
          exact hTB d (find_of e) g q js hm)
        rw [← m4] at FM
        refine mk_back hF o2' hm (by rw [hnd]; exact m3) m10 ?_ FM
        have := congrArg List.length m11
        rw [List.length_map, List.length_map] at this
        exact this
      | none =>
        have o4 : d.lqOk = true ∧ mSs ((tbOf L con xc exs atts hot).wq (lqS d.df.body)) d.N (defScope d.st) (fun _ => true) d.df.body (defBody d.st) = true := by
          have hm' : d.isMk = false := by unfold DD.isMk; rw [hm]; rfl
          rw [hm', Bool.false_or] at o4
          exact b1 o4
        obtain ⟨o5, o4⟩ := o4
        have len : ∀ (vs : List V) (H : Hp) (Q : VK) (E : XK), spOf (tbOf L con xc exs atts hot) (FOf L) (n + 1) f vs H Q E → vs.length = d.ps.length := fun vs H Q E ⟨args, h, rv, rh, z⟩ => by
          obtain ⟨df, e1, z⟩ := optW_ex z
          rw [hF] at e1
          cases e1
          rw [← rv.length, z.1]
          exact o2'
        refine funD_ok (CX := L2.CX P w) FD S len fun cdv hcdv A outer s H vs Q E hr hsp => ?_
        have hl := len vs H Q E hsp
        obtain ⟨args, h, rv, rh, z⟩ := hsp
        obtain ⟨df, e1, z1, z⟩ := optW_ex z
        rw [hF] at e1
        cases e1
        have G : Good ((tbOf L con xc exs atts hot).wq (lqS d.df.body)) (FOf L) n (cxOf (L2.CX P w) P w K mg base d.N d.qual (defScope d.st) a cdv A outer s H E) :=
          ⟨rfl, hr.mono (Nat.le_succ _), S.nd, S.kind, gfn, blt, hcon, PassesOwn.leaving, kk, xk, hexs, hr, htab, hatt, gme, gmk, hhot, gnok, hnio, glam⟩
        refine ⟨_, sSs (fb := fun _ => true) G ⟨rfl, rfl, rfl, fun q hq => ?_⟩ (takes_of rfl rfl rfl rfl) (fun _ _ => rfl) d.df.body o4, ?_⟩
        · have hq : lqS d.df.body = some q := hq
          unfold DD.lqOk at o5
          rw [hq] at o5
          have e5 := of_decide_eq_true (b1 o5).1
          refine ⟨e5.symm, He.codeOf K (d.gl, none), ?_, hTL d (find_of e) hn q hq⟩
          show cdv = _
          rw [← hcdv]
          exact hcode (.inr (by rw [hq]; rfl))
        refine ⟨_, h, ?_, rh, (wpSs_mono (CN_mono (FOf L) n) d.df.body).go z ⟨fun ρ' h' k σ' H' _ rh' st' => k _ H' rh' st' rfl, fun _ _ k => k, fun x _ h' k σ' H' _ rh' st' => k H' rh' st'⟩⟩
        rw [o2', o3', show L2.start d.N vs = vs.map some ++ List.replicate (d.N.length - d.ps.length) none by unfold L2.start; rw [hl]]
        exact re_start rv
    · rw [hn] at ok
      have ok : (d.isLm || _) = true := ok
      rw [nl, Bool.false_or] at ok
      obtain ⟨ok, o4⟩ := b1 ok
      obtain ⟨ok, o3⟩ := b1 ok
      obtain ⟨o1, o2⟩ := b1 ok
      have S := NdefX.nscope_by o1
      have o2' := of_decide_eq_true o2
      have o3' := of_decide_eq_true o3
      have len : ∀ (ws : List (Option V)) (vs : List V) (H : Hp) (Q : VK) (E : XK), spN (tbOf L con xc exs atts hot) (FOf L) (n + 1) f (freeN d.st).length ws vs H Q E → vs.length = d.ps.length := fun ws vs H Q E ⟨args, wv, us, h, _, ul, rv, rw_, rh, z⟩ => by
        obtain ⟨df, e1, z⟩ := optW_ex z
        rw [hF] at e1
        cases e1
        have := z.1
        rw [List.length_append, o2', rw_.length, ul] at this
        rw [← rv.length]; omega
      refine NdefX.nok_of (k := 2 * n + 1) (N := d.N) (F := NdefX.NF.of d.st d.py q cl c) S (fun doc pm ctv us hu => (hb d (find_of e)).ne hn nl cl c doc pm ctv us hu) len fun A outer s H vs ws Q E hr hf hc hwl hsp => ?_
      have hl := len ws vs H Q E hsp
      obtain ⟨args, wv, us, h, rfl, ul, rv, rw_, rh, z⟩ := hsp
      obtain ⟨df, e1, z1, z⟩ := optW_ex z
      rw [hF] at e1
      cases e1
      have G : Good (tbOf L con xc exs atts hot) (FOf L) n (NdefX.ncx (L2.CX P w) P w K mg base d.N (NdefX.NF.of d.st d.py q cl c) a A outer s H E) :=
        ⟨rfl, hr.mono (Nat.le_succ _), S.nd, S.kind, gfn, blt, hcon, PassesOwn.leaving, kk, xk, hexs, hr, htab, hatt, gme, gmk, hhot, gnok, hnio, glam⟩
      refine ⟨_, sSs (fb := fun _ => false) G ⟨rfl, rfl, rfl, fun q hq => by cases hq⟩ (takes_of rfl rfl rfl rfl) (fun _ z => by cases z) d.df.body o4, ?_⟩
      refine ⟨_, h, ?_, rh, (wpSs_mono (CN_mono (FOf L) n) d.df.body).go z ⟨fun ρ' h' k σ' H' _ rh' st' => k _ H' rh' st' rfl, fun _ _ k => k, fun x _ h' k σ' H' _ rh' st' => k H' rh' st'⟩⟩
      have es : NdefX.startF d.N vs (us.map some) = (vs ++ us).map some ++ List.replicate (d.df.ns - d.df.ps) none := by
        unfold NdefX.startF
        rw [List.map_append, List.append_assoc, List.length_map, o2', o3', hl, ul, Nat.sub_sub]
      rw [es]
      exact re_start (rv.app rw_)
    · intro px pa pp body sc pos hB q cl c a A outer s H us vs ws Q hr e0 hf hc C r hsp
      unfold lamB at hB
      have hB : (decide (d.ps = [px]) && NdefX.nscB d.N d.ps (freeS sc) sc && decide (d.df.ps = d.ps.length + (freeS sc).length) && decide (d.df.ns = d.N.length) && (match d.df.body with | .cons (.ret e') .nil => mE (tb0 L con xc exs atts hot) d.N sc e' body | _ => false)) = true := hB
      obtain ⟨hB, o5⟩ := b1 hB
      obtain ⟨hB, o4⟩ := b1 hB
      obtain ⟨hB, o3⟩ := b1 hB
      obtain ⟨o1, o2⟩ := b1 hB
      have o1 := of_decide_eq_true o1
      have o3 := of_decide_eq_true o3
      have o4 := of_decide_eq_true o4
      rw [o1] at o2 o3
      have S := NdefX.nscope_by o2
      obtain ⟨args, wv, us0, h, rfl, ul, rv, rw_, rh, z⟩ := hsp
      obtain ⟨df, e1, z1, z⟩ := optW_ex z
      rw [hF] at e1
      cases e1
      have hl1 : vs.length = 1 := by
        rw [List.length_append, o3, rw_.length, ul] at z1
        rw [← rv.length]
        have : [px].length = 1 := rfl
        omega
      refine lam_run (k := 2 * n + 1) (N := d.N) S hr e0 hf hc C r hl1 fun hr' => ?_
      have G : Good (tb0 L con xc exs atts hot) (FOf L) n (NdefX.ncx (L2.CX P w) P w K mg base d.N (lmF q sc cl c) a A outer s H (fun _ _ _ => False)) :=
        ⟨rfl, hr'.mono (Nat.le_succ _), S.nd, S.kind, gfn, blt, hcon, PassesOwn.leaving, kk, xk, hexs, hr', htab, hatt, gme, gmk, hhot, gnok, hnio, fun _ _ z => by cases z⟩
      split at o5
      · rename_i e' eb
        rw [eb] at z
        refine ⟨_, sE (W := fun _ _ _ _ => False) G takes0 e' o5, _, h, ?_, rh, wpE_mono (CN_mono (FOf L) n) e' _ _ _ _ _ _ (fun _ _ k => k) (fun _ _ k H' r1 s1 => k H' r1 s1) z⟩
        have es : NdefX.startF d.N vs (us0.map some) = (vs ++ us0).map some ++ List.replicate (d.df.ns - d.df.ps) none := by
          unfold NdefX.startF
          rw [List.map_append, List.append_assoc, List.length_map, o3, o4, hl1, ul, Nat.sub_sub]
          rfl
        rw [es]
        exact re_start (rv.app rw_)
      · cases o5
end
end L3

set_option Elab.async false
set_option linter.all false
set_option maxRecDepth 100000
/-! L3, part 12: a law's facts, by lists. -/
namespace L3
open PySem PySem.Spec PyProof.Rows L2
def mkD (d : DD) : He.DefD := ⟨match d.cls with | none => (d.gl, none) | some c => (cnm c, some d.py), d.py, d.qual, defArgs d.st, defBody d.st, defScope d.st, [], []⟩
/-- one datum for each def, however many editions it has -/
def uniq : List DD → List DD
  | [] => []
  | d :: ds => if ds.any (fun e => decide (e.gl = d.gl) && decide (e.py = d.py) && decide (e.cls = d.cls)) then uniq ds else d :: uniq ds
/-- the module's constants -/
def conFa : List (Str × Val) → List He.Fa
  | [] => []
  | (x, .int i) :: r => .int x i :: conFa r
  | (x, .str s) :: r => .str x s :: conFa r
  | _ :: r => conFa r
def conOk : Val → Bool | .int _ => true | .str _ => true | _ => false
def conOf (cs : List (Str × Val)) : Str → Option Val := fun x => cs.lookup x
/-- what a def's place asks -/
def faD (d : DD) : List He.Fa := match d.cls with
  | none => [.glo d.gl]
  | some c => [.meth (cnm c) d.py, .cls (cnm c)] ++ if d.py = Str.ofString "__init__" then [.mkr (cnm c), .glo (cnm c)] else []
def faA (atts : List (Nat × Str)) : List He.Fa := atts.flatMap fun p => [.noat (cnm p.1) p.2, .cls (cnm p.1)]
def pl3 (L : List DD) : List DD := (uniq L).filter fun d => d.nq.isNone
def faOf (L : List DD) (cs : List (Str × Val)) (atts : List (Nat × Str) := []) : List He.Fa := (pl3 L).flatMap faD ++ (bltNames.map .free ++ (conFa cs ++ faA atts))
def ca (K : PySem.W.Frag) (c : Nat) : Addr := He.ga K (cnm c)
def fnOf3 (L : List DD) : List He.DefD := (pl3 L).map mkD
/-- editions of one def have its text -/
def Same3 (L : List DD) : Prop := ∀ d ∈ L, d.nq = none → ∃ e ∈ pl3 L, e.gl = d.gl ∧ e.py = d.py ∧ e.cls = d.cls ∧ e.st = d.st
section
variable {fa : List He.Fa} {fn : List He.DefD} {K : PySem.W.Frag}
theorem says_fact (c : He.SaysD fa fn K) {f : He.Fa} (h : f ∈ fa) : f.ok K = true := by
  obtain ⟨i, hi⟩ := List.getElem?_of_mem h
  exact c.fact i hi
theorem says_def (c : He.SaysD fa fn K) {d : He.DefD} (h : d ∈ fn) : ∃ fd, FunD K d.name d.qual d.params d.body d.scope (d.dvs K) (d.kws K) (He.fAd K d.at_) fd := by
  obtain ⟨i, hi⟩ := List.getElem?_of_mem h
  exact c.def_ i hi
theorem lookup_mem {cs : List (Str × Val)} {x : Str} {v : Val} (h : cs.lookup x = some v) : (x, v) ∈ cs := by
  induction cs with
  | nil => cases h
  | cons p r ih =>
    obtain ⟨y, u⟩ := p
    rw [List.lookup_cons] at h
    cases q : x == y with
    | true =>
      rw [q] at h
      cases h
      rw [show x = y from eq_of_beq q]
      exact List.mem_cons_self
    | false =>
      rw [q] at h
      exact List.mem_cons_of_mem _ (ih h)
theorem conFa_mem : ∀ {cs : List (Str × Val)} {x : Str} {v : Val}, (x, v) ∈ cs → conOk v = true → (∃ i, v = .int i ∧ He.Fa.int x i ∈ conFa cs) ∨ ∃ s, v = .str s ∧ He.Fa.str x s ∈ conFa cs
  | (y, u) :: r, x, v, h, o => by
    rcases List.mem_cons.mp h with e | h
    · cases e
      cases u <;> first | (cases o; done) | exact .inl ⟨_, rfl, List.mem_cons_self⟩ | exact .inr ⟨_, rfl, List.mem_cons_self⟩
    · rcases conFa_mem h o with ⟨i, e, m⟩ | ⟨s, e, m⟩
      · refine .inl ⟨i, e, ?_⟩
        cases u <;> first | exact m | exact List.mem_cons_of_mem _ m
      · refine .inr ⟨s, e, ?_⟩
        cases u <;> first | exact m | exact List.mem_cons_of_mem _ m
theorem facts3 {L : List DD} {cs : List (Str × Val)} {atts : List (Nat × Str)} (hs : Same3 L) (hc : (cs.all fun p => conOk p.2) = true) {h : Heap} {mg : Str → Option Value} (X : K.In h) (G : h.Ns mainGlobals mg) (c : He.SaysD (faOf L cs atts) (fnOf3 L) K) :
    ((∀ d ∈ L, At K mg (ca K) d) ∧ (∀ x ∈ bltNames, mg x = none) ∧ ∀ x v, conOf cs x = some v → flt v = true → ∃ u, mg x = some u ∧ RelV (flV v) u) ∧ ∀ k f, (k, f) ∈ atts → Cls K (ca K k) ∧ NoAttr K (ca K k) f := by
  refine ⟨⟨fun d hd => ?_, fun x hx => ?_, fun x v e _ => ?_⟩, fun k f m => ?_⟩
  · unfold At
    cases hn : d.nq with
    | some q => exact trivial
    | none =>
    obtain ⟨e, he, eg, e1, e0, e2⟩ := hs d hd hn
    obtain ⟨fd, q⟩ := says_def c (d := mkD e) (List.mem_map.mpr ⟨e, he, rfl⟩)
    have fa : ∀ f ∈ faD e, f.ok K = true := fun f m => says_fact c (List.mem_append_left _ (List.mem_flatMap.mpr ⟨e, he, m⟩))
    have eq : e.qual = d.qual := by unfold DD.qual; rw [e0, e1]
    have q' : FunD K d.py d.qual (defArgs d.st) (defBody d.st) (defScope d.st) [] [] (He.fAd K (mkD e).at_) fd := by rw [← e1, ← eq, ← e2]; exact q
    refine ⟨_, fd, q', fun hc' => ?_, ?_⟩
    · obtain ⟨oc, od, dV, kV, doc, pm, an, cdv, ct, osl, efd, lk, hcd, _, _⟩ := q'.ex
      obtain ⟨c0, rfl⟩ := He.codeIn_ref hcd
      rw [hc'] at e0
      have at_ : (mkD e).at_ = (e.gl, none) := by unfold mkD; rw [e0]
      rw [at_, eg] at lk
      have ec : fd.code = .ref c0 := by rw [efd]
      rw [He.codeOf_eq lk ec]
      exact ec
    cases hc' : d.cls with
    | none =>
      rw [hc'] at e0
      have at_ : (mkD e).at_ = (e.gl, none) := by unfold mkD; rw [e0]
      have fe : faD e = [.glo e.gl] := by unfold faD; rw [e0]
      rw [at_, ← eg]
      exact He.glo_ok X G (fa _ (by rw [fe]; exact List.mem_cons_self))
    | some k =>
      rw [hc'] at e0
      have at_ : (mkD e).at_ = (cnm k, some e.py) := by unfold mkD; rw [e0]
      have fe : faD e = [.meth (cnm k) e.py, .cls (cnm k)] ++ if e.py = Str.ofString "__init__" then [.mkr (cnm k), .glo (cnm k)] else [] := by unfold faD; rw [e0]
      rw [at_, ← e1]
      refine ⟨He.cls_ok (x := cnm k) (fa _ (by rw [fe]; simp)), He.meth_ok (x := cnm k) (fa _ (by rw [fe]; simp)), fun ei => ?_⟩
      refine ⟨He.glo_ok X G (x := cnm k) (fa _ (by rw [fe, if_pos ei]; simp)), ?_⟩
      have := He.mkr_ok (x := cnm k) (K := K) (fa _ (by rw [fe, if_pos ei]; simp))
      rw [ei]
      exact this
  · exact He.free_ok X G (says_fact c (f := .free x) (List.mem_append_right _ (List.mem_append_left _ (List.mem_map.mpr ⟨x, hx, rfl⟩))))
  · have m := lookup_mem e
    have o := List.all_eq_true.mp hc _ m
    rcases conFa_mem m o with ⟨i, rfl, f⟩ | ⟨s, rfl, f⟩
    · obtain ⟨t, q⟩ := He.int_ok X G (says_fact c (List.mem_append_right _ (List.mem_append_right _ (List.mem_append_left _ f))))
      exact ⟨_, q, t, rfl⟩
    · obtain ⟨t, q⟩ := He.str_ok X G (says_fact c (List.mem_append_right _ (List.mem_append_right _ (List.mem_append_left _ f))))
      exact ⟨_, q, t, rfl⟩
  · have fa : ∀ g ∈ [He.Fa.noat (cnm k) f, .cls (cnm k)], g.ok K = true := fun g q => says_fact c (List.mem_append_right _ (List.mem_append_right _ (List.mem_append_right _ (List.mem_flatMap.mpr ⟨(k, f), m, q⟩))))
    exact ⟨He.cls_ok (x := cnm k) (fa _ (by simp)), He.noat_ok (x := cnm k) (fa _ (by simp))⟩
end
/-! ### .. with refusals -/
def xa (K : PySem.W.Frag) (c : Nat) : Addr := He.ga K (xnm c)
def exB1 (K : PySem.W.Frag) (c : Nat) : Bool :=
  decide (c < 8) && ((He.Fa.glo (xnm c)).ok K && ((He.Fa.exc (xnm c)).ok K && (He.eqO (PySem.W.findIn K (.ref (xa K c)) "__getattribute__") (some (some (.builtin "BaseException.__getattribute__"))) &&
  (He.eqO (PySem.W.findIn K (.ref (xa K c)) "__getattr__") (some none) && (PySem.W.hasDictIn K (xa K c) && (He.eqO (PySem.W.findIn K (.ref (xa K c)) "__class__") (some (some (.builtin "object.__class__"))) &&
  (He.eqO (PySem.W.specialIn K (.builtin "object.__class__") "__get__") (some (some (.builtin "getset_descriptor.__get__"))) && (decide (PySem.W.takesIn K (.builtin "object.__class__") = some true) &&
  (decide (PySem.W.mroIn K (xa K c) (.type "object") = some true) && decide (PySem.W.kitOne K (.ref (xa K c)) (.type "ValueError") = some true))))))))))
def exB2 (K : PySem.W.Frag) (c d : Nat) : Bool := decide (PySem.W.exmOne K (.ref (xa K c)) (.ref (xa K d)) = some (subX c d)) && decide (PySem.W.kitOne K (.ref (xa K c)) (.ref (xa K d)) = some (subX c d))
def exB (exs : List Nat) (K : PySem.W.Frag) : Bool := (He.Fa.free (xnm 8)).ok K && ((exs.all fun c => exB1 K c) && exs.all fun c => exs.all fun d => exB2 K c d)
theorem exB_ok {nd : Nat → Option (Str × Str × Stmt)} {ta : Str → Addr} {io : Bool} {lm : Nat → Expr → Prop} {exs : List Nat} {K : PySem.W.Frag} {h : Heap} {mg : Str → Option Value} (X : K.In h) (G : h.Ns mainGlobals mg) (q : exB exs K = true) : @ExF ⟨K, xa K, ca K, nd, ta, io, lm⟩ K mg exs := by
  letI : Mo := ⟨K, xa K, ca K, nd, ta, io, lm⟩
  obtain ⟨q1, q2⟩ := He.ba q
  obtain ⟨q2, q3⟩ := He.ba q2
  have A : ∀ c ∈ exs, exB1 K c = true := List.all_eq_true.mp q2
  have B : ∀ c ∈ exs, ∀ d ∈ exs, exB2 K c d = true := fun c hc => List.all_eq_true.mp (List.all_eq_true.mp q3 c hc)
  refine ⟨fun c hc => ?_, fun c hc => ?_, He.free_ok X G q1, fun c hc => ?_, fun c hc => ?_, fun c hc => ?_, fun c hc => ?_, fun c hc d hd => ?_, fun c hc d hd => ?_, fun c hc => ?_⟩
  all_goals
    have a := A c hc
    obtain ⟨a1, a⟩ := He.ba a
    obtain ⟨a2, a⟩ := He.ba a
    obtain ⟨a3, a⟩ := He.ba a
    obtain ⟨a4, a⟩ := He.ba a
    obtain ⟨a5, a⟩ := He.ba a
    obtain ⟨a6, a⟩ := He.ba a
    obtain ⟨a7, a⟩ := He.ba a
    obtain ⟨a8, a⟩ := He.ba a
    obtain ⟨a9, a⟩ := He.ba a
    obtain ⟨a10, a11⟩ := He.ba a
    have a3 : (PySem.W.excIn K (xa K c) He.veBase "ValueError.__new__" && (PySem.W.keepIn K (.ref (xa K c)) && (decide (PySem.W.subIn K (.ref (xa K c)) (.type "BaseException") = some true) && decide (PySem.W.typeIn K (.ref (xa K c)) = some (.type "type"))))) = true := a3
    obtain ⟨e1, e⟩ := He.ba a3
    obtain ⟨e2, e⟩ := He.ba e
    obtain ⟨e3, e4⟩ := He.ba e
  · exact of_decide_eq_true a1
  · exact He.glo_ok X G a2
  · exact ⟨He.eqO_ok a4, He.eqO_ok a5, of_decide_eq_true e3, a6, He.eqO_ok a7, He.eqO_ok a8, of_decide_eq_true a9, of_decide_eq_true a10⟩
  · exact e1
  · exact e2
  · exact of_decide_eq_true e4
  · exact of_decide_eq_true (He.ba (B c hc d hd)).1
  · exact of_decide_eq_true (He.ba (B c hc d hd)).2
  · exact of_decide_eq_true a11
/-! ### .. with tables -/
abbrev Tbs := List (Str × List (Str × Int))
def conT (cs : List (Str × Val)) (tabs : Tbs) : Str → Option Val := fun x => match cs.lookup x with | some v => some v | none => (tabs.lookup x).map tabV
def tsOf (tabs : Tbs) : List He.Tab := tabs.map fun t => (fun K => He.ga K t.1, t.2.map (·.1))
def tabB (K : PySem.W.Frag) (x : Str) (tb : List (Str × Int)) : Bool := (He.Fa.glo x).ok K && He.valsB K (He.ga K x) (tb.map fun p => (p.1, He.Dv.int p.2))
def tabsB (tabs : Tbs) (K : PySem.W.Frag) : Bool := tabs.all fun t => tabB K t.1 t.2
theorem tabV_inj : ∀ {a b : List (Str × Int)}, tabV a = tabV b → a = b
  | [], [], _ => rfl
  | [], p :: b, h => by
    unfold tabV at h
    injection h with h1 h2
    cases h1
  | p :: a, [], h => by
    unfold tabV at h
    injection h with h1 h2
    cases h1
  | p :: a, q :: b, h => by
    unfold tabV at h
    injection h with h1 h2
    rw [List.map_cons, List.map_cons] at h1 h2
    injection h1 with h3 h4
    injection h2 with h5 h6
    have e : tabV a = tabV b := by unfold tabV; rw [h4, h6]
    injection h3 with h7
    injection h5 with h8
    rw [tabV_inj e, show p = q from Prod.ext h7 h8]
theorem dicW_none {K : PySem.W.Frag} {P : Params} {a : Addr} {ks : List Str} {z : Str} (h : He.dicW K a = some (He.keysIn P ks)) (hz : z ∉ ks) : PySem.W.nsIn K a z = some none := by
  unfold He.dicW at h
  cases q : K.lookup a with
  | none => rw [q] at h; cases h
  | some o =>
    obtain ⟨oc, od, dt, osl⟩ := o
    rw [q] at h
    cases oc with
    | type c =>
      cases od with
      | none =>
        cases dt with
        | dict es n =>
          have h1 : (match decide (c = "dict") && (osl.isEmpty && !(a == sysModules)) with
            | true => some (es.toList.map He.keyOf)
            | false => none) = some (He.keysIn P ks) := h
          split at h1
          · have e := Option.some.inj h1
            have key : ∀ (l : List DictEntry) (ks : List Str), l.map He.keyOf = He.keysIn P ks → z ∉ ks → l.find? (fun e => e.key.isStr z) = none ∧ l.any (fun e => e.refKey) = false := by
              intro l
              induction l with
              | nil => exact fun _ _ _ => ⟨rfl, rfl⟩
              | cons d l ih =>
                intro ks e hz
                cases ks with
                | nil => cases e
                | cons k ks =>
                  unfold He.keysIn at e
                  rw [List.map_cons, List.map_cons] at e
                  injection e with e1 e2
                  obtain ⟨i1, i2⟩ := ih ks e2 fun m => hz (List.mem_cons_of_mem _ m)
                  unfold He.keyOf at e1
                  split at e1
                  · rename_i x t ek
                    have e3 := Option.some.inj e1
                    obtain ⟨rfl, _⟩ := Prod.mk.inj e3
                    have ne : d.key.isStr z = false := by
                      rw [ek]
                      simp only [Value.isStr]
                      first
                        | exact beq_eq_false_iff_ne.mpr fun y => hz (by rw [y]; exact List.mem_cons_self)
                        | exact beq_eq_false_iff_ne.mpr fun y => hz (by rw [← y]; exact List.mem_cons_self)
                        | exact decide_eq_false fun y => hz (by rw [y]; exact List.mem_cons_self)
                    rw [List.find?_cons, ne, List.any_cons, show d.refKey = false by simp [DictEntry.refKey, ek]]
                    exact ⟨i1, i2⟩
                  · cases e1
            obtain ⟨k1, k2⟩ := key es.toList ks e hz
            unfold PySem.W.nsIn
            rw [q]
            simp only [k1, k2]
            rfl
          · cases h1
        | _ => cases h
      | some b => cases dt <;> cases h
    | _ => cases od <;> cases dt <;> cases h
theorem tab_ok {fa : List He.Fa} {fn : List He.DefD} {tabs : Tbs} {w : World} {K : PySem.W.Frag} {h : Heap} {mg : Str → Option Value} (X : K.In h) (G : h.Ns mainGlobals mg) (c : He.SaysT fa fn (tsOf tabs) w K) (b : tabsB tabs K = true) {x : Str} {tb : List (Str × Int)} (e : tabs.lookup x = some tb) :
    ∃ d, mg x = some (.ref d) ∧ TabAt K w d tb := by
  have m : (x, tb) ∈ tabs := by
    clear b c
    induction tabs with
    | nil => cases e
    | cons p r ih =>
      obtain ⟨y, u⟩ := p
      rw [List.lookup_cons] at e
      cases q : x == y with
      | true =>
        rw [q] at e
        cases e
        rw [show x = y from eq_of_beq q]
        exact List.mem_cons_self
      | false =>
        rw [q] at e
        exact List.mem_cons_of_mem _ (ih e)
  have bt : tabB K x tb = true := List.all_eq_true.mp b _ m
  obtain ⟨b1', b2'⟩ := He.ba bt
  obtain ⟨i, hi⟩ := List.getElem?_of_mem m
  have ht : (tsOf tabs)[i]? = some ((fun K => He.ga K x), tb.map (·.1)) := by unfold tsOf; rw [List.getElem?_map, hi]; rfl
  have dw : He.dicW K (He.ga K x) = some (He.keysIn w.params (tb.map (·.1))) := by
    have e1 : (tsOf tabs).map (fun t => He.dicW K (t.1 K)) = (tsOf tabs).map fun t => some (He.keysIn w.params t.2) := congrArg (fun z : He.AlT => z.2) c
    have e2 : ((tsOf tabs).map fun t => He.dicW K (t.1 K))[i]? = ((tsOf tabs).map fun t => some (He.keysIn w.params t.2))[i]? := by rw [e1]
    rw [List.getElem?_map, List.getElem?_map, ht] at e2
    exact Option.some.inj e2
  have get : ∀ z i, tb.lookup z = some i → ∃ u, PySem.W.nsIn K (He.ga K x) z = some (some u) ∧ RelV (V.int i) u := fun z i ez => by
    have mz : (z, i) ∈ tb := by
      clear bt b2' dw ht hi m e
      induction tb with
      | nil => cases ez
      | cons p r ih =>
        obtain ⟨y, u⟩ := p
        rw [List.lookup_cons] at ez
        cases q : z == y with
        | true =>
          rw [q] at ez
          cases ez
          rw [show z = y from eq_of_beq q]
          exact List.mem_cons_self
        | false =>
          rw [q] at ez
          exact List.mem_cons_of_mem _ (ih ez)
    exact He.valsB_ok b2' (List.mem_map.mpr ⟨(z, i), mz, rfl⟩)
  refine ⟨_, He.glo_ok X G b1', He.dicW_ok dw, fun z => ?_, get⟩
  cases q : tb.lookup z with
  | some i =>
    obtain ⟨u, e1, _⟩ := get z i q
    exact ⟨_, e1, rfl⟩
  | none =>
    refine ⟨_, dicW_none dw fun mz => ?_, rfl⟩
    obtain ⟨p, mp, rfl⟩ := List.mem_map.mp mz
    clear get bt b2' dw ht hi m e
    induction tb with
    | nil => cases mp
    | cons y r ih =>
      obtain ⟨y1, y2⟩ := y
      rw [List.lookup_cons] at q
      cases e2 : p.1 == y1 with
      | true => rw [e2] at q; cases q
      | false =>
        rw [e2] at q
        rcases List.mem_cons.mp mp with rfl | mp
        · simp at e2
        · exact ih mp q (List.mem_map.mpr ⟨p, mp, rfl⟩)
/-- what some names reach in n steps, as it comes -/
def asL (g : Addr → Option Obj) : Nat → List Addr → List Addr
  | 0, f => f
  | n + 1, f => f ++ asL g n (f.flatMap fun a => match g a with
    | some o => He.refsD o
    | none => [])
/-! ### the head's look: K without the empty tables -/
def obsE6 (n : Nat) (fa : List He.Fa) (fn : List He.DefD) (exs : List Nat) (tabs : Tbs) (tf : List He.Defn) (g : Addr → Option Obj) : He.AlT × Bool :=
  (He.obsT fa fn (tsOf tabs) (He.frT g (asL g n [mainGlobals])), (exB exs (He.frT g (asL g n [mainGlobals])) && tabsB tabs (He.frT g (asL g n [mainGlobals]))) && He.tabsB g tf (He.frT g (asL g n [mainGlobals])))
theorem saysX6 {as : List Addr} {fa : List He.Fa} {fn : List He.DefD} {ts : List He.Tab} {tf : List He.Defn} {ex : PySem.W.Frag → Bool} {w : World} {h : Heap} (e1 : He.obsT fa fn ts (He.frT h.get? as) = He.valT fn ts w) (e2 : (ex (He.frT h.get? as) && He.tabsB h.get? tf (He.frT h.get? as)) = true) : He.SaysX fa fn ts tf ex w h (He.frT h.get? as) := by
  obtain ⟨h1, h2⟩ := He.ba e2
  have key : ∀ p ∈ tf, PySem.W.codeHdIn (He.frT h.get? as) (He.cT (He.frT h.get? as) p).1 (He.cT (He.frT h.get? as) p).2 = true ∧ ∃ o, h.get? (He.cT (He.frT h.get? as) p).2 = some o ∧ He.emptyTab o = true := fun p hp => by
    obtain ⟨h3, h4⟩ := He.ba (List.all_eq_true.mp h2 p hp)
    refine ⟨h3, ?_⟩
    cases q : h.get? (He.cT (He.frT h.get? as) p).2 with
    | none =>
      rw [q] at h4
      cases h4
    | some o =>
      rw [q] at h4
      exact ⟨o, rfl, h4⟩
  exact ⟨e1, h1, fun p hp => (key p hp).1, fun p hp => by
    obtain ⟨_, o, q, z⟩ := key p hp
    exact He.frT_none q z, fun p hp => by
    obtain ⟨_, o, q, z⟩ := key p hp
    rw [q, He.emptyTab_eq z]⟩
def hookE6 (n : Nat) (fa : List He.Fa) (fn : List He.DefD) (exs : List Nat) (tabs : Tbs) (tf : List He.Defn) : PySem.W.Hook where
  α := He.AlT × Bool
  obs := fun s => obsE6 n fa fn exs tabs tf s.heap.get?
  val := fun w => (He.valT fn (tsOf tabs) w, true)
  says := fun w h => ∃ K : PySem.W.Frag, K.In h ∧ He.SaysX fa fn (tsOf tabs) tf (fun K => exB exs K && tabsB tabs K) w h K
  of := fun _ _ e => ⟨_, He.frT_in, saysX6 (congrArg Prod.fst e) (congrArg Prod.snd e)⟩
  keeps := fun _ _ _ ⟨K, hK, c⟩ k => ⟨K, PySem.W.Frag.In.keeps hK k, ⟨c.t, c.more, c.hd, c.out, fun p hp => k _ _ (c.empty p hp)⟩⟩
theorem obsE6_eq {n : Nat} {fa : List He.Fa} {fn : List He.DefD} {exs : List Nat} {tabs : Tbs} {tf : List He.Defn} {g : Addr → Option Obj} {s : Shared} (h : ∀ a, g a = s.heap.get? a) : obsE6 n fa fn exs tabs tf g = (hookE6 n fa fn exs tabs tf).obs s := by
  have e : g = s.heap.get? := funext h
  rw [e] <;> rfl
/-- no exception leaves a law -/
theorem cx_none {P : Program} {w : World} {H : Hp} {s : Shared} {e : Value} {s' : Shared} (h : L2.CX P w [] H s (fun _ _ _ => False) e s') : False := by
  obtain ⟨_, _, _, _, _, _, _, _, _, _, _, _, z⟩ := h
  exact z
/-- a law's end, with a def that makes functions -/
theorem law_walkC {l : PySem.W.OpenLaw} {q : Program} {loose : List Str} {XP : (Str → Option Value) → Heap → Prop} {m : Nat} {d : DefRec} {L : List DD} {cs : List (Str × Val)} {exs : List Nat} {tabs : Tbs} {atts : List (Nat × Str)} {n id : Nat} {dl dm : DD} {g0 : Nat} {q0 : Str} {js0 : List Nat}
    (hn : l.most = some 63) (hdf : d.params.defaults = []) (hr : Room (2 * n) callerA) (hnm : d.name = dl.py) (hps : dl.ps = [Str.ofString "_law_script"]) (hcl : dl.cls = none) (hgl : dl.gl = dl.py) (hnq : dl.nq = none) (hlm : dl.isMk = false) (hid : L.find? (fun d => d.id == id) = some dl)
    (hall : ∀ xc : Nat → Addr, L.all (okDD (tbOf L (conT cs tabs) xc exs atts)) = true) (hb : ∀ d ∈ L, BindOk d) (hs : Same3 L) (hc : (cs.all fun p => conOk p.2) = true)
    (hmk : ∀ d ∈ L, d.isMk = true → MkOk L d) (hcio : (L.all fun d => d.cls.isNone || !atts.isEmpty) = true) (hm1 : L.filter DD.isMk = [dm]) (hnl : (L.all fun d => (lqS d.df.body).isNone) = true) (hmq : mkS dm.df.body = some (g0, q0, js0))
    (hlaw : ∀ (ns : List Int) (h : Hq) (P : Addr), ns.length ≤ 63 → h P = some (.tab q0) → (∀ a, a ≠ P → h a = none) → CN (FOf L) n id [.sc ns] h (fun v _ => v = .bl true) (fun _ _ => False)) :
    PySem.W.WalkO q loose XP (hookE6 m (faOf L cs atts) (fnOf3 L) exs tabs [(dm.gl, none)]).says l.row.toRowW d [] (fun f vs => PySem.call f vs) := by
  refine LamX.walk_ofTsE (k := 2 * n) (n := 63) (CX := fun w => L2.CX l.prog w) (x := Str.ofString "_law_script") hn (by decide) hdf hr (fun w mg f0 h Y G hmg => ?_) fun w H s e s' z => cx_none z
  obtain ⟨K, KX, c⟩ := Y
  letI : Mo := ⟨K, xa K, ca K, ndOf L, fun _ => (He.cT K (dm.gl, none)).2, !atts.isEmpty, fun g e => lamF (tb0 L (conT cs tabs) (xa K) exs atts none) L g e = true⟩
  obtain ⟨c2, c3⟩ := He.ba c.more
  have f3 := facts3 hs hc KX G c.t.d
  have hat := f3.1.1
  have hex : exs ≠ [] → ExF K mg exs := fun _ => exB_ok KX G c2
  have hcon : ∀ x v, conT cs tabs x = some v → flt v = true → ∃ u, mg x = some u ∧ RelV (flV v) u := fun x v e fl => by
    have e : (match cs.lookup x with | some v => some v | none => (tabs.lookup x).map tabV) = some v := e
    split at e
    · rename_i u eu
      cases e
      exact f3.1.2.2 x v eu fl
    · obtain ⟨tb, _, e2⟩ := Option.map_eq_some_iff.mp e
      rw [← e2] at fl
      cases fl
  have htab : ∀ x tb, conT cs tabs x = some (tabV tb) → ∃ d, mg x = some (.ref d) ∧ TabAt K w d tb := fun x tb e => by
    have e : (match cs.lookup x with | some v => some v | none => (tabs.lookup x).map tabV) = some (tabV tb) := e
    split at e
    · rename_i u eu
      cases e
      have := List.all_eq_true.mp hc _ (lookup_mem eu)
      cases this
    · obtain ⟨tb', e1, e2⟩ := Option.map_eq_some_iff.mp e
      rw [tabV_inj e2] at e1
      exact tab_ok KX G c.t c3 e1
  obtain ⟨a', fd, q2, qc, q1⟩ := (hat dl (find_of hid)).pl hnq
  rw [hcl] at q1
  have q1 : mg dl.py = some (.ref a') := hgl ▸ q1
  have ea : a' = f0 := by
    rw [hnm, q1] at hmg
    cases hmg
    rfl
  subst ea
  have bd : ∀ (s : Shared) (u : Value), BindsTo s fd ⟨[u], []⟩ [(Str.ofString "_law_script", u)] := fun s u => by
    have z := q2.bindsA ((hb dl (find_of hid)).pl hnq) s [u] (by rw [hps]; rfl)
    rw [hps] at z
    exact z
  refine ⟨K, KX, fd, [He.cT K (dm.gl, none)], spOf (tbOf L (conT cs tabs) (xa K) exs atts) (FOf L) n id, fun p hp => ?_, fun p hp => ?_, fun p hp => ?_, bd, fun H a ns hl _ hT hS => ?_, fun base KB NB TB => ?_⟩
  · rw [List.mem_singleton.mp hp]; exact c.empty _ List.mem_cons_self
  · rw [List.mem_singleton.mp hp]; exact c.out _ List.mem_cons_self
  · rw [List.mem_singleton.mp hp]; exact PySem.W.codeHd_of_K KX (c.hd _ List.mem_cons_self)
  · have hP := hT _ List.mem_cons_self
    refine ⟨[.sc ns], fun b => if b = (He.cT K (dm.gl, none)).2 then some (.tab q0) else none, .cons ⟨a, rfl, ?_⟩ .nil, fun b c e => ?_, CN_mono (FOf L) n _ _ _ _ _ _ _ (fun v h' e V H' _ _ rv => ?_) (fun _ _ z => z.elim) (hlaw ns _ (He.cT K (dm.gl, none)).2 hl (if_pos rfl) fun b hb => if_neg hb)⟩
    · rcases hS with hS | hS
      · refine .inl ⟨if_neg fun z => ?_, hS⟩
        rw [← z] at hP
        rcases hS with y | ⟨o', y⟩ <;> rw [hP] at y <;> cases y
      · exact .inr fun H' => .inr hS
    · have e : (if b = (He.cT K (dm.gl, none)).2 then some (Cell.tab q0) else none) = some c := e
      split at e
      · rename_i eb
        cases e
        refine ⟨eb, #[], by rw [eb]; exact hP, trivial, fun pos cv hc => ?_⟩
        have z : codeAmong pos [] = some cv := hc
        simp [codeAmong] at z
      · cases e
    · rw [e] at rv
      exact rv
  · have FO := (all_ok (kk := rfl) (xk := rfl) (hnio := fun z => (by show (!atts.isEmpty) = false; rw [z]; rfl)) (hio := fun d hd z => (by have := List.all_eq_true.mp hcio d hd; cases q : d.cls with | none => exact absurd q z | some c => rw [q] at this; exact this)) (hnd := rfl) (hlm := rfl) (hexs := hex) (P := l.prog) (w := w) (base := base) (hall _) hb hmk hat (fun d hd g q js em => ?_) (fun d hd _ q eq => by
      have := List.all_eq_true.mp hnl d hd
      rw [eq] at this
      cases this) f3.2 f3.1.2.1 hcon htab (fun _ e => by cases e) n id dl hid).1 hnq a' fd q2 (fun z => by
      rcases z with z | z
      · rw [hlm] at z; cases z
      · have := List.all_eq_true.mp hnl dl (find_of hid)
        cases e : lqS dl.df.body with
        | none => rw [e] at z; cases z
        | some y => rw [e] at this; cases this)
    · rw [hps] at FO
      exact FO
    · have hm : d ∈ L.filter DD.isMk := List.mem_filter.mpr ⟨hd, by unfold DD.isMk; rw [em]; rfl⟩
      rw [hm1] at hm
      have := List.mem_singleton.mp hm
      subst this
      exact TB _ List.mem_cons_self
/-- a law's end, without makers -/
theorem law_walkZ {l : PySem.W.OpenLaw} {q : Program} {loose : List Str} {XP : (Str → Option Value) → Heap → Prop} {m : Nat} {d : DefRec} {L : List DD} {cs : List (Str × Val)} {exs : List Nat} {tabs : Tbs} {atts : List (Nat × Str)} {n id : Nat} {dl : DD}
    (hn : l.most = some 63) (hdf : d.params.defaults = []) (hr : Room (2 * n) callerA) (hnm : d.name = dl.py) (hps : dl.ps = [Str.ofString "_law_script"]) (hcl : dl.cls = none) (hgl : dl.gl = dl.py) (hnq : dl.nq = none) (hid : L.find? (fun d => d.id == id) = some dl)
    (hall : ∀ xc : Nat → Addr, L.all (okDD (tbOf L (conT cs tabs) xc exs atts)) = true) (hb : ∀ d ∈ L, BindOk d) (hs : Same3 L) (hc : (cs.all fun p => conOk p.2) = true)
    (hcio : (L.all fun d => d.cls.isNone || !atts.isEmpty) = true) (hnm0 : (L.all fun d => !d.isMk) = true) (hnl : (L.all fun d => (lqS d.df.body).isNone) = true)
    (hlaw : ∀ (ns : List Int) (h : Hq), ns.length ≤ 63 → (∀ a, h a = none) → CN (FOf L) n id [.sc ns] h (fun v _ => v = .bl true) (fun _ _ => False)) :
    PySem.W.WalkO q loose XP (hookE6 m (faOf L cs atts) (fnOf3 L) exs tabs []).says l.row.toRowW d [] (fun f vs => PySem.call f vs) := by
  refine LamX.walk_ofTsE (k := 2 * n) (n := 63) (CX := fun w => L2.CX l.prog w) (x := Str.ofString "_law_script") hn (by decide) hdf hr (fun w mg f0 h Y G hmg => ?_) fun w H s e s' z => cx_none z
  obtain ⟨K, KX, c⟩ := Y
  letI : Mo := ⟨K, xa K, ca K, ndOf L, fun _ => mainGlobals, !atts.isEmpty, fun g e => lamF (tb0 L (conT cs tabs) (xa K) exs atts none) L g e = true⟩
  obtain ⟨c2, c3⟩ := He.ba c.more
  have nmk : ∀ d ∈ L, d.isMk = true → False := fun d hd z => by
    have := List.all_eq_true.mp hnm0 d hd
    rw [z] at this
    cases this
  have f3 := facts3 hs hc KX G c.t.d
  have hat := f3.1.1
  have hex : exs ≠ [] → ExF K mg exs := fun _ => exB_ok KX G c2
  have hcon : ∀ x v, conT cs tabs x = some v → flt v = true → ∃ u, mg x = some u ∧ RelV (flV v) u := fun x v e fl => by
    have e : (match cs.lookup x with | some v => some v | none => (tabs.lookup x).map tabV) = some v := e
    split at e
    · rename_i u eu
      cases e
      exact f3.1.2.2 x v eu fl
    · obtain ⟨tb, _, e2⟩ := Option.map_eq_some_iff.mp e
      rw [← e2] at fl
      cases fl
  have htab : ∀ x tb, conT cs tabs x = some (tabV tb) → ∃ d, mg x = some (.ref d) ∧ TabAt K w d tb := fun x tb e => by
    have e : (match cs.lookup x with | some v => some v | none => (tabs.lookup x).map tabV) = some (tabV tb) := e
    split at e
    · rename_i u eu
      cases e
      have := List.all_eq_true.mp hc _ (lookup_mem eu)
      cases this
    · obtain ⟨tb', e1, e2⟩ := Option.map_eq_some_iff.mp e
      rw [tabV_inj e2] at e1
      exact tab_ok KX G c.t c3 e1
  obtain ⟨a', fd, q2, qc, q1⟩ := (hat dl (find_of hid)).pl hnq
  rw [hcl] at q1
  have q1 : mg dl.py = some (.ref a') := hgl ▸ q1
  have ea : a' = f0 := by
    rw [hnm, q1] at hmg
    cases hmg
    rfl
  subst ea
  have bd : ∀ (s : Shared) (u : Value), BindsTo s fd ⟨[u], []⟩ [(Str.ofString "_law_script", u)] := fun s u => by
    have z := q2.bindsA ((hb dl (find_of hid)).pl hnq) s [u] (by rw [hps]; rfl)
    rw [hps] at z
    exact z
  refine ⟨K, KX, fd, [], spOf (tbOf L (conT cs tabs) (xa K) exs atts) (FOf L) n id, (fun p hp => by cases hp), (fun p hp => by cases hp), (fun p hp => by cases hp), bd, fun H a ns hl _ hT hS => ?_, fun base KB NB TB => ?_⟩
  · refine ⟨[.sc ns], fun _ => none, .cons ⟨a, rfl, ?_⟩ .nil, (fun b c e => by cases e), CN_mono (FOf L) n _ _ _ _ _ _ _ (fun v h' e V H' _ _ rv => ?_) (fun _ _ z => z.elim) (hlaw ns _ hl fun _ => rfl)⟩
    · rcases hS with hS | hS
      · exact .inl ⟨rfl, hS⟩
      · exact .inr fun H' => .inr hS
    · rw [e] at rv
      exact rv
  · have FO := (all_ok (kk := rfl) (xk := rfl) (hnio := fun z => (by show (!atts.isEmpty) = false; rw [z]; rfl)) (hio := fun d hd z => (by have := List.all_eq_true.mp hcio d hd; cases q : d.cls with | none => exact absurd q z | some c => rw [q] at this; exact this)) (hnd := rfl) (hlm := rfl) (hexs := hex) (P := l.prog) (w := w) (base := base) (hall _) hb (fun d hd z => (nmk d hd z).elim) hat (fun d hd g q js em => (nmk d hd (by unfold DD.isMk; rw [em]; rfl)).elim) (fun d hd _ q eq => by
      have := List.all_eq_true.mp hnl d hd
      rw [eq] at this
      cases this) f3.2 f3.1.2.1 hcon htab (fun _ e => by cases e) n id dl hid).1 hnq a' fd q2 (fun z => by
      rcases z with z | z
      · exact (nmk dl (find_of hid) z).elim
      · have := List.all_eq_true.mp hnl dl (find_of hid)
        cases e : lqS dl.df.body with
        | none => rw [e] at z; cases z
        | some y => rw [e] at this; cases this)
    · rw [hps] at FO
      exact FO
/-! ### two defs that make lambdas -/
def ndB (tf : List He.Defn) (K : PySem.W.Frag) : Bool := decide ((tf.map fun p => (He.cT K p).2).Nodup)
def obsE7 (n : Nat) (fa : List He.Fa) (fn : List He.DefD) (exs : List Nat) (tabs : Tbs) (tf : List He.Defn) (g : Addr → Option Obj) : He.AlT × Bool :=
  (He.obsT fa fn (tsOf tabs) (He.frT g (asL g n [mainGlobals])), (exB exs (He.frT g (asL g n [mainGlobals])) && (tabsB tabs (He.frT g (asL g n [mainGlobals])) && ndB tf (He.frT g (asL g n [mainGlobals])))) && He.tabsB g tf (He.frT g (asL g n [mainGlobals])))
def hookE7 (n : Nat) (fa : List He.Fa) (fn : List He.DefD) (exs : List Nat) (tabs : Tbs) (tf : List He.Defn) : PySem.W.Hook where
  α := He.AlT × Bool
  obs := fun s => obsE7 n fa fn exs tabs tf s.heap.get?
  val := fun w => (He.valT fn (tsOf tabs) w, true)
  says := fun w h => ∃ K : PySem.W.Frag, K.In h ∧ He.SaysX fa fn (tsOf tabs) tf (fun K => exB exs K && (tabsB tabs K && ndB tf K)) w h K
  of := fun _ _ e => ⟨_, He.frT_in, saysX6 (congrArg Prod.fst e) (congrArg Prod.snd e)⟩
  keeps := fun _ _ _ ⟨K, hK, c⟩ k => ⟨K, PySem.W.Frag.In.keeps hK k, ⟨c.t, c.more, c.hd, c.out, fun p hp => k _ _ (c.empty p hp)⟩⟩
theorem obsE7_eq {n : Nat} {fa : List He.Fa} {fn : List He.DefD} {exs : List Nat} {tabs : Tbs} {tf : List He.Defn} {g : Addr → Option Obj} {s : Shared} (h : ∀ a, g a = s.heap.get? a) : obsE7 n fa fn exs tabs tf g = (hookE7 n fa fn exs tabs tf).obs s := by
  have e : g = s.heap.get? := funext h
  rw [e] <;> rfl
/-- a law's end, with two defs that make lambdas -/
theorem law_walkL {l : PySem.W.OpenLaw} {q : Program} {loose : List Str} {XP : (Str → Option Value) → Heap → Prop} {m : Nat} {d : DefRec} {L : List DD} {cs : List (Str × Val)} {exs : List Nat} {tabs : Tbs} {atts : List (Nat × Str)} {n id : Nat} {dl d1 d2 : DD} {q1 q2 : Str}
    (hn : l.most = some 63) (hdf : d.params.defaults = []) (hr : Room (2 * n) callerA) (hnm : d.name = dl.py) (hps : dl.ps = [Str.ofString "_law_script"]) (hcl : dl.cls = none) (hgl : dl.gl = dl.py) (hnq : dl.nq = none) (hlm : (lqS dl.df.body).isSome = false) (hid : L.find? (fun d => d.id == id) = some dl)
    (hall : ∀ xc : Nat → Addr, L.all (okDD (tbOf L (conT cs tabs) xc exs atts)) = true) (hb : ∀ d ∈ L, BindOk d) (hs : Same3 L) (hc : (cs.all fun p => conOk p.2) = true)
    (hnm0 : (L.all fun d => !d.isMk) = true) (hcio : (L.all fun d => d.cls.isNone || !atts.isEmpty) = true) (hm1 : L.filter (fun d => (lqS d.df.body).isSome) = [d1, d2]) (hq1 : lqS d1.df.body = some q1) (hq2 : lqS d2.df.body = some q2) (hqn : q2 ≠ q1)
    (hlaw : ∀ (ns : List Int) (h : Hq) (P1 P2 : Addr), ns.length ≤ 63 → P1 ≠ P2 → h P1 = some (.tab q1) → h P2 = some (.tab q2) → (∀ a, a ≠ P1 → a ≠ P2 → h a = none) → CN (FOf L) n id [.sc ns] h (fun v _ => v = .bl true) (fun _ _ => False)) :
    PySem.W.WalkO q loose XP (hookE7 m (faOf L cs atts) (fnOf3 L) exs tabs [(d1.gl, none), (d2.gl, none)]).says l.row.toRowW d [] (fun f vs => PySem.call f vs) := by
  refine LamX.walk_ofTsE (k := 2 * n) (n := 63) (CX := fun w => L2.CX l.prog w) (x := Str.ofString "_law_script") hn (by decide) hdf hr (fun w mg f0 h Y G hmg => ?_) fun w H s e s' z => cx_none z
  obtain ⟨K, KX, c⟩ := Y
  letI : Mo := ⟨K, xa K, ca K, ndOf L, fun q => if q = q1 then (He.cT K (d1.gl, none)).2 else (He.cT K (d2.gl, none)).2, !atts.isEmpty, fun g e => lamF (tb0 L (conT cs tabs) (xa K) exs atts none) L g e = true⟩
  obtain ⟨c2, c3⟩ := He.ba c.more
  obtain ⟨c3, c4⟩ := He.ba c3
  have hne : (He.cT K (d1.gl, none)).2 ≠ (He.cT K (d2.gl, none)).2 := by
    have c4 : decide ([(He.cT K (d1.gl, none)).2, (He.cT K (d2.gl, none)).2].Nodup) = true := c4
    have := of_decide_eq_true c4
    exact fun z => (List.nodup_cons.mp this).1 (by rw [z]; exact List.mem_cons_self)
  have nmk : ∀ d ∈ L, d.isMk = true → False := fun d hd z => by
    have := List.all_eq_true.mp hnm0 d hd
    rw [z] at this
    cases this
  have f3 := facts3 hs hc KX G c.t.d
  have hat := f3.1.1
  have hex : exs ≠ [] → ExF K mg exs := fun _ => exB_ok KX G c2
  have hcon : ∀ x v, conT cs tabs x = some v → flt v = true → ∃ u, mg x = some u ∧ RelV (flV v) u := fun x v e fl => by
    have e : (match cs.lookup x with | some v => some v | none => (tabs.lookup x).map tabV) = some v := e
    split at e
    · rename_i u eu
      cases e
      exact f3.1.2.2 x v eu fl
    · obtain ⟨tb, _, e2⟩ := Option.map_eq_some_iff.mp e
      rw [← e2] at fl
      cases fl
  have htab : ∀ x tb, conT cs tabs x = some (tabV tb) → ∃ d, mg x = some (.ref d) ∧ TabAt K w d tb := fun x tb e => by
    have e : (match cs.lookup x with | some v => some v | none => (tabs.lookup x).map tabV) = some (tabV tb) := e
    split at e
    · rename_i u eu
      cases e
      have := List.all_eq_true.mp hc _ (lookup_mem eu)
      cases this
    · obtain ⟨tb', e1, e2⟩ := Option.map_eq_some_iff.mp e
      rw [tabV_inj e2] at e1
      exact tab_ok KX G c.t c3 e1
  obtain ⟨a', fd, z2, qc, z1⟩ := (hat dl (find_of hid)).pl hnq
  rw [hcl] at z1
  have z1 : mg dl.py = some (.ref a') := hgl ▸ z1
  have ea : a' = f0 := by
    rw [hnm, z1] at hmg
    cases hmg
    rfl
  subst ea
  have bd : ∀ (s : Shared) (u : Value), BindsTo s fd ⟨[u], []⟩ [(Str.ofString "_law_script", u)] := fun s u => by
    have z := z2.bindsA ((hb dl (find_of hid)).pl hnq) s [u] (by rw [hps]; rfl)
    rw [hps] at z
    exact z
  refine ⟨K, KX, fd, [He.cT K (d1.gl, none), He.cT K (d2.gl, none)], spOf (tbOf L (conT cs tabs) (xa K) exs atts) (FOf L) n id, fun p hp => ?_, fun p hp => ?_, fun p hp => ?_, bd, fun H a ns hl _ hT hS => ?_, fun base KB NB TB => ?_⟩
  · rcases List.mem_cons.mp hp with hp | hp
    · rw [hp]; exact c.empty _ List.mem_cons_self
    · rw [List.mem_singleton.mp hp]; exact c.empty _ (List.mem_cons_of_mem _ List.mem_cons_self)
  · rcases List.mem_cons.mp hp with hp | hp
    · rw [hp]; exact c.out _ List.mem_cons_self
    · rw [List.mem_singleton.mp hp]; exact c.out _ (List.mem_cons_of_mem _ List.mem_cons_self)
  · rcases List.mem_cons.mp hp with hp | hp
    · rw [hp]; exact PySem.W.codeHd_of_K KX (c.hd _ List.mem_cons_self)
    · rw [List.mem_singleton.mp hp]; exact PySem.W.codeHd_of_K KX (c.hd _ (List.mem_cons_of_mem _ List.mem_cons_self))
  · have hP1 := hT _ List.mem_cons_self
    have hP2 := hT _ (List.mem_cons_of_mem _ List.mem_cons_self)
    refine ⟨[.sc ns], fun b => if b = (He.cT K (d1.gl, none)).2 then some (.tab q1) else if b = (He.cT K (d2.gl, none)).2 then some (.tab q2) else none, .cons ⟨a, rfl, ?_⟩ .nil, fun b c e => ?_, CN_mono (FOf L) n _ _ _ _ _ _ _ (fun v h' e V H' _ _ rv => ?_) (fun _ _ z => z.elim)
      (hlaw ns _ (He.cT K (d1.gl, none)).2 (He.cT K (d2.gl, none)).2 hl hne (if_pos rfl) ((if_neg (Ne.symm hne)).trans (if_pos rfl)) fun b h1 h2 => (if_neg h1).trans (if_neg h2))⟩
    · rcases hS with hS | hS
      · refine .inl ⟨(if_neg fun z => ?_).trans (if_neg fun z => ?_), hS⟩
        · rw [← z] at hP1
          rcases hS with y | ⟨o', y⟩ <;> rw [hP1] at y <;> cases y
        · rw [← z] at hP2
          rcases hS with y | ⟨o', y⟩ <;> rw [hP2] at y <;> cases y
      · exact .inr fun H' => .inr hS
    · have e : (if b = (He.cT K (d1.gl, none)).2 then some (Cell.tab q1) else if b = (He.cT K (d2.gl, none)).2 then some (Cell.tab q2) else none) = some c := e
      split at e
      · rename_i eb
        cases e
        refine ⟨eb.trans (if_pos rfl).symm, #[], by rw [eb]; exact hP1, trivial, fun pos cv hc => ?_⟩
        have z : codeAmong pos [] = some cv := hc
        simp [codeAmong] at z
      · split at e
        · rename_i eb
          cases e
          refine ⟨eb.trans (if_neg hqn).symm, #[], by rw [eb]; exact hP2, trivial, fun pos cv hc => ?_⟩
          have z : codeAmong pos [] = some cv := hc
          simp [codeAmong] at z
        · cases e
    · rw [e] at rv
      exact rv
  · have FO := (all_ok (kk := rfl) (xk := rfl) (hnio := fun z => (by show (!atts.isEmpty) = false; rw [z]; rfl)) (hio := fun d hd z => (by have := List.all_eq_true.mp hcio d hd; cases q : d.cls with | none => exact absurd q z | some c => rw [q] at this; exact this)) (hnd := rfl) (hlm := rfl) (hexs := hex) (P := l.prog) (w := w) (base := base) (hall _) hb (fun d hd z => (nmk d hd z).elim) hat
      (fun d hd g q js em => (nmk d hd (by unfold DD.isMk; rw [em]; rfl)).elim) (fun d hd _ q eq => ?_) f3.2 f3.1.2.1 hcon htab (fun _ e => by cases e) n id dl hid).1 hnq a' fd z2 (fun z => by
      rcases z with z | z
      · exact (nmk dl (find_of hid) z).elim
      · rw [hlm] at z; cases z)
    · rw [hps] at FO
      exact FO
    · have hm : d ∈ L.filter (fun d => (lqS d.df.body).isSome) := List.mem_filter.mpr ⟨hd, by rw [eq]; rfl⟩
      rw [hm1] at hm
      rcases List.mem_cons.mp hm with e | hm
      · subst e
        rw [hq1] at eq
        cases eq
        show LamX.TabB base mg _ (if q1 = q1 then _ else _)
        rw [if_pos rfl]
        exact TB _ List.mem_cons_self
      · have := List.mem_singleton.mp hm
        subst this
        rw [hq2] at eq
        cases eq
        show LamX.TabB base mg _ (if q2 = q1 then _ else _)
        rw [if_neg hqn]
        exact TB _ (List.mem_cons_of_mem _ List.mem_cons_self)
end L3

set_option Elab.async false
set_option linter.all false
set_option maxRecDepth 100000
/-! L3, part U: rules for whoever walks a body. -/
namespace L3
open PySem PySem.Spec PyProof.Rows L2
section
variable {h : Hq} {Q : QV} {fz : Bool} {i j : Int} {a b : Addr} {x y : Val} {xs ys : List Val}
theorem alc_fz : alc true xs h Q = Q (.fl xs) h := rfl
theorem alc_lv : alc false xs h Q = ∀ p, h p = none → Q (.ref p) (up h p (.lst xs)) := rfl
theorem t_and (c : Prop) : (True ∧ c) = c := propext ⟨fun x => x.2, fun x => ⟨trivial, x⟩⟩
theorem w_add : prW (binR .add fz (.int i) (.int j) h) Q = Q (.int (i + j)) h := t_and _
theorem w_addS {s t : Str} : prW (binR .add fz (.str s) (.str t) h) Q = (s.length + t.length ≤ 1000000 ∧ Q (.str (s ++ t)) h) := rfl
theorem w_addL : prW (binR .add fz (.fl xs) (.fl ys) h) Q = (xs.length + ys.length ≤ 1000000 ∧ alc fz (xs ++ ys) h Q) := rfl
theorem w_addT : prW (binR .add fz (.tup xs) (.tup ys) h) Q = (xs.length + ys.length ≤ 1000000 ∧ Q (.tup (xs ++ ys)) h) := rfl
theorem w_slcT {lo hi : Option Int} : prW (slcR fz (.tup xs) lo hi h) Q = Q (.tup (cutL xs lo hi)) h := t_and _
theorem w_insert (e : h a = some (.lst xs)) : prW (mthR .insert (.ref a) [.int i, x] h) Q = ((0 ≤ i ∧ i ≤ 1000000 ∧ xs.length < 1000000) ∧ Q .non (up h a (.lst (xs.take i.toNat ++ [x] ++ xs.drop i.toNat)))) := by
  simp only [mthR, lstAt, e, Option.bind_some, lmR, prW, optW_some, Out.w]
theorem w_lrange : prW (o1R .lrange fz (.int i) h) Q = ((i ≤ 1000000 ∧ -1000000 ≤ i) ∧ alc fz ((List.range i.toNat).map fun k => Val.int ((k : Nat) : Int)) h Q) := rfl
theorem w_revF : prW (o1R .rev fz (.fl xs) h) Q = alc fz xs.reverse h Q := t_and _
theorem w_revR (e : h a = some (.lst xs)) : prW (o1R .rev fz (.ref a) h) Q = alc fz xs.reverse h Q := by
  simp only [o1R, ls, lv, e, Option.map_some, prW, optW_some, Out.w, t_and]
theorem w_tmul : prW (o2R .tmul fz (.tup xs) (.int j) h) Q = ((xs ≠ [] ∧ 1 ≤ j ∧ j ≤ 1000 ∧ xs.length ≤ 1000) ∧ Q (.tup (List.replicate j.toNat xs).flatten) h) := rfl
theorem w_sub : prW (binR .sub fz (.int i) (.int j) h) Q = Q (.int (i - j)) h := t_and _
theorem w_mul : prW (binR .mul fz (.int i) (.int j) h) Q = (((-18446744073709551616 < i ∧ i < 18446744073709551616) ∨ (-18446744073709551616 < j ∧ j < 18446744073709551616) ∨ CMulW i j) ∧ Q (.int (i * j)) h) := rfl
theorem w_fdiv : prW (binR .fdiv fz (.int i) (.int j) h) Q = ((0 < j ∧ j < 2 ^ 250) ∧ Q (.int (i / j)) h) := rfl
theorem w_mod : prW (binR .mod fz (.int i) (.int j) h) Q = (0 < j ∧ Q (.int (i % j)) h) := rfl
theorem w_pow : prW (binR .pow fz (.int i) (.int j) h) Q = ((0 ≤ j ∧ j ≤ 1000000 ∧ -18446744073709551616 < i ∧ i < 18446744073709551616) ∧ Q (.int (i ^ j.toNat)) h) := rfl
theorem w_shl : prW (binR .shl fz (.int i) (.int j) h) Q = ((0 ≤ j ∧ j ≤ 1000000 ∧ -18446744073709551616 < i ∧ i < 18446744073709551616) ∧ Q (.int (i * 2 ^ j.toNat)) h) := rfl
theorem w_shr : prW (binR .shr fz (.int i) (.int j) h) Q = (0 ≤ j ∧ Q (.int (i / 2 ^ j.toNat)) h) := rfl
theorem w_band : prW (binR .band fz (.int i) (.int j) h) Q = Q (.int (Builtin.bitAnd i j)) h := t_and _
theorem w_eqI : prW (cmpR .eq (.int i) (.int j) h) Q = Q (.bl (decide (i = j))) h := t_and _
theorem w_neI : prW (cmpR .ne (.int i) (.int j) h) Q = Q (.bl (!decide (i = j))) h := t_and _
theorem w_eqS {s t : Str} : prW (cmpR .eq (.str s) (.str t) h) Q = Q (.bl (decide (s = t))) h := t_and _
theorem w_neS {s t : Str} : prW (cmpR .ne (.str s) (.str t) h) Q = Q (.bl (!decide (s = t))) h := t_and _
theorem w_lt : prW (cmpR .lt (.int i) (.int j) h) Q = Q (.bl (decide (i < j))) h := t_and _
theorem w_le : prW (cmpR .le (.int i) (.int j) h) Q = Q (.bl (decide (i ≤ j))) h := t_and _
theorem w_gt : prW (cmpR .gt (.int i) (.int j) h) Q = Q (.bl (decide (j < i))) h := t_and _
theorem w_ge : prW (cmpR .ge (.int i) (.int j) h) Q = Q (.bl (decide (j ≤ i))) h := t_and _
theorem w_is : prW (cmpR .is x .non h) Q = Q (.bl (isN x)) h := t_and _
theorem w_isnot : prW (cmpR .isnot x .non h) Q = Q (.bl (!isN x)) h := t_and _
theorem w_idxR (e : h a = some (.lst xs)) : prW (idxR (.ref a) (.int i) h) Q = optW (atI xs i) fun v => Q v h := by
  simp only [idxR, dr_lst e, sq, ls, lv, e, Option.bind_some, prW]; cases atI xs i <;> simp [optW, Out.w]
theorem w_idxF : prW (idxR (.fl xs) (.int i) h) Q = optW (atI xs i) fun v => Q v h := by
  simp only [idxR, dr, sq, ls, lv, Option.bind_some, prW]; cases atI xs i <;> simp [optW, Out.w]
theorem w_idxT : prW (idxR (.tup xs) (.int i) h) Q = optW (atI xs i) fun v => Q v h := by
  simp only [idxR, dr, sq, Option.bind_some, prW]; cases atI xs i <;> simp [optW, Out.w]
theorem w_idxS {ns : List Int} : prW (idxR (.sc ns) (.int i) h) Q = optW (atI (ns.map Val.int) i) fun v => Q v h := by
  simp only [idxR, dr, sq, ls, Option.bind_some, prW]; cases atI (ns.map Val.int) i <;> simp [optW, Out.w]
theorem w_idxD {k : Key} {kvs : KVs} (e : dr h x = some kvs) (hk : keyOf y = some k) : prW (idxR x y h) Q = optW (dg kvs k) fun v => Q v h := by
  simp only [idxR, e, hk, Option.bind_some, prW]; cases dg kvs k <;> simp [optW, Out.w]
theorem w_inD {k : Key} {kvs : KVs} (e : dr h y = some kvs) (hk : keyOf x = some k) : prW (cmpR .isin x y h) Q = Q (.bl (dg kvs k).isSome) h := by
  simp only [cmpR, inR, sinR, e, hk, Option.map_some, prW, optW_some, Out.w, t_and, Bool.false_eq_true, if_false]
theorem w_notinD {k : Key} {kvs : KVs} (e : dr h y = some kvs) (hk : keyOf x = some k) : prW (cmpR .notin x y h) Q = Q (.bl (!(dg kvs k).isSome)) h := by
  simp only [cmpR, inR, sinR, e, hk, Option.map_some, prW, optW_some, Out.w, t_and, if_true]
theorem w_okD {kvs : KVs} {K : Unit → Prop} (e : h a = some (.dic kvs)) : optW (mOk .dget (.ref a) h) K = K () := by
  simp only [mOk, dr, e, Option.map_some, optW_some]
theorem w_okDF {kvs : KVs} {K : Unit → Prop} : optW (mOk .dget (fdOf kvs) h) K = K () := rfl
theorem w_cellO {kvs : KVs} {K : Cell → Prop} (e : h a = some (.dic kvs)) : optW (cellO h a) K = K (.dic kvs) := by
  simp only [cellO, e, Option.bind_some, noIns, optW_some]
theorem w_cellOl {xs : List Val} {K : Cell → Prop} (e : h a = some (.lst xs)) : optW (cellO h a) K = K (.lst xs) := by
  simp only [cellO, e, Option.bind_some, noIns, optW_some]
theorem lockC_dic {kvs : KVs} : lockC (.dic kvs) = wdOf kvs := rfl
theorem lockC_lst : lockC (.lst xs) = .fl xs := rfl
theorem wdK_wd {kvs : KVs} {K : List Key → Prop} : optW (wdK (wdOf kvs)) K = K (kvs.map (·.1)) := rfl
theorem w_okU {kvs : KVs} {K : Unit → Prop} (e : h a = some (.dic kvs)) : optW (mOk .dupd (.ref a) h) K = K () := by
  simp only [mOk, dicAt, e, Option.map_some, optW_some]
theorem w_get1 {k : Key} {kvs : KVs} (e : dr h x = some kvs) (hk : keyOf y = some k) : prW (mthR .dget x [y] h) Q = Q ((dg kvs k).getD .non) h := by
  cases y <;> first | (cases hk; done) | skip
  all_goals
    cases hk
    simp only [mthR, dgR, e, keyOf, Option.bind_some, Option.map_some, prW, optW_some, Out.w, t_and]
theorem w_get2 {k : Key} {kvs : KVs} {d : Val} (e : dr h x = some kvs) (hk : keyOf y = some k) : prW (mthR .dget x [y, d] h) Q = Q ((dg kvs k).getD d) h := by
  cases y <;> first | (cases hk; done) | skip
  all_goals
    cases hk
    simp only [mthR, dgR, e, keyOf, Option.bind_some, Option.map_some, prW, optW_some, Out.w, t_and]
theorem w_get1N {kvs : KVs} (e : dr h x = some kvs) : prW (mthR .dget x [.non] h) Q = Q .non h := by
  simp only [mthR, dgR, e, Option.bind_some, prW, optW_some, Out.w, t_and]
theorem w_get2N {kvs : KVs} {d : Val} (e : dr h x = some kvs) : prW (mthR .dget x [.non, d] h) Q = Q d h := by
  simp only [mthR, dgR, e, Option.bind_some, prW, optW_some, Out.w, t_and]
theorem w_upd {kvs more : KVs} (e : h a = some (.dic kvs)) (hd : dr h y = some more) : prW (mthR .dupd (.ref a) [y] h) Q = ((y ≠ .ref a ∧ kvs.length + more.length ≤ 1000000) ∧ Q .non (up h a (.dic (dmerge kvs more)))) := by
  simp only [mthR, duR, dicAt, e, hd, Option.bind_some, Option.map_some, prW, optW_some, Out.w]
theorem w_putD {k : Key} {kvs : KVs} {K : Hq → Prop} (e : h a = some (.dic kvs)) (hk : keyOf x = some k) : setW (.ref a) x y h K = (kvs.length < 1000000 ∧ K (up h a (.dic (dp kvs k y)))) := by
  simp only [setW, dicAt, e, hk, optW_some]
theorem w_frzD' {kvs : KVs} (e : h a = some (.dic kvs)) : frzW (.ref a) h Q = Q (fdOf kvs) (er h a) := by
  simp only [Option.bind_some, noIns, frzW, cellAt, e, Option.map_some, optW_some, frzC]
theorem alcD_fz {kvs : KVs} : alcD true kvs h Q = Q (fdOf kvs) h := rfl
theorem alcD_lv {kvs : KVs} : alcD false kvs h Q = ∀ p, h p = none → Q (.ref p) (up h p (.dic kvs)) := rfl
theorem keyOf_int : keyOf (.int i) = some (.inl i) := rfl
theorem keyOf_str {s : Str} : keyOf (.str s) = some (.inr s) := rfl
theorem w_mulS {s : Str} : prW (binR .mul fz (.str s) (.int j) h) Q = (((2 ≤ j ∧ j ≤ 1000000) ∧ 0 < s.length ∧ s.length * j.toNat ≤ 1000000) ∧ Q (.str (repS s j.toNat)) h) := rfl
theorem w_rep {xs : List Val} : prW (binR .mul fz (.fl xs) (.int j) h) Q = (((-4611686018427387904 ≤ j ∧ j < 4611686018427387904) ∧ xs.length * j.toNat ≤ 1000000) ∧ alc fz (List.replicate j.toNat xs).flatten h Q) := rfl
theorem w_slcF {lo hi : Option Int} : prW (slcR fz (.fl xs) lo hi h) Q = alc fz (cutL xs lo hi) h Q := t_and _
theorem w_slcR {lo hi : Option Int} (e : h a = some (.lst xs)) : prW (slcR fz (.ref a) lo hi h) Q = alc fz (cutL xs lo hi) h Q := by
  simp only [slcR, ls, lv, e, Option.map_some, prW, optW_some, Out.w, t_and]
theorem w_oi1 {v : Val} {K : Option Int → Prop} : optW (optI (isNop .nop) v) K = K none := rfl
theorem w_oi2 {e : Ex} {K : Option Int → Prop} (n : isNop e = false) : optW (optI (isNop e) (.int i)) K = K (some i) := by rw [n]; rfl
theorem cutL_to {k : Nat} (hk : k ≤ xs.length) : cutL xs none (some (k : Int)) = xs.take k := by
  unfold cutL
  rw [HT.sIx_nat, HT.sIx_none, Nat.min_eq_left hk, List.drop_zero, Nat.sub_zero]
theorem cutL_from {k : Nat} (hk : k ≤ xs.length) : cutL xs (some (k : Int)) none = xs.drop k := by
  unfold cutL
  rw [HT.sIx_nat, HT.sIx_none, Nat.min_eq_left hk, List.take_of_length_le (by rw [List.length_drop]; exact Nat.le_refl _)]
theorem w_addRF (e : h a = some (.lst xs)) : prW (binR .add fz (.ref a) (.fl ys) h) Q = (xs.length + ys.length ≤ 1000000 ∧ alc fz (xs ++ ys) h Q) := by
  simp only [binR, lv, e, prW, optW_some, Out.w]
theorem w_lenR (e : h a = some (.lst xs)) : prW (bltR .len fz [.ref a] h) Q = Q (.int xs.length) h := by
  simp only [bltR, sq, ls, lv, e, Option.map_some, prW, optW_some, Out.w, t_and]
theorem w_lenF : prW (bltR .len fz [.fl xs] h) Q = Q (.int xs.length) h := t_and _
theorem w_lenT : prW (bltR .len fz [.tup xs] h) Q = Q (.int xs.length) h := t_and _
theorem w_lenS {ns : List Int} : prW (bltR .len fz [.sc ns] h) Q = Q (.int ns.length) h := by
  simp only [bltR, sq, ls, Option.map_some, prW, optW_some, Out.w, t_and, List.length_map]
theorem w_lenD {kvs : KVs} (e : h a = some (.dic kvs)) : prW (bltR .len fz [.ref a] h) Q = Q (.int (kvs.length : Nat)) h := by
  have l0 : sq h (.ref a) = none := by simp only [sq, ls, lv, e]
  simp only [bltR, l0, dr, e, Option.map_some, prW, optW_some, Out.w, t_and]
theorem w_neD0 {kvs : KVs} (e : h a = some (.dic kvs)) : prW (cmpR .ne (.ref a) (fdOf []) h) Q = Q (.bl (!kvs.isEmpty)) h := by
  have d1 : dr h (fdOf []) = some [] := dr_fd h []
  have d2 : dr h (.ref a) = some kvs := dr_ref e
  have d3 : dt h (.ref a) = none := by simp only [dt, e]
  have d4 : dtN 6 h (.ref a) = none := by simp only [dtN, pd, e]
  have d5 : ls h (.ref a) = none := by simp only [ls, lv, e]
  simp only [cmpR, eqR, d1, d2, d3, d4, d5, List.isEmpty_nil, Bool.or_true, Bool.and_true, if_true, prW, optW_some, Out.w, t_and]
theorem w_lenDF {kvs : KVs} : prW (bltR .len fz [fdOf kvs] h) Q = Q (.int (kvs.length : Nat)) h := by
  have l0 : sq h (fdOf kvs) = none := rfl
  simp only [bltR, l0, show dr h (fdOf kvs) = some kvs from congrArg some (zip_map kvs), Option.map_some, prW, optW_some, Out.w, t_and]
theorem w_lenDW {kvs : KVs} : prW (bltR .len fz [wdOf kvs] h) Q = Q (.int (kvs.length : Nat)) h := by
  have l0 : sq h (wdOf kvs) = none := rfl
  simp only [bltR, l0, show dr h (wdOf kvs) = some kvs from congrArg some (zip_map kvs), Option.map_some, prW, optW_some, Out.w, t_and]
theorem w_isBT {xs : List Val} {c : Bool} : prW (cmpR .is (.tup xs) (.bl c) h) Q = Q (.bl false) h := t_and _
theorem w_isBN {c : Bool} : prW (cmpR .is .non (.bl c) h) Q = Q (.bl false) h := t_and _
theorem w_isBL {xs : List Val} {c : Bool} : prW (cmpR .is (.fl xs) (.bl c) h) Q = Q (.bl false) h := t_and _
theorem w_isB {b c : Bool} : prW (cmpR .is (.bl b) (.bl c) h) Q = Q (.bl (decide (b = c))) h := t_and _
theorem w_isnotB {b c : Bool} : prW (cmpR .isnot (.bl b) (.bl c) h) Q = Q (.bl (!decide (b = c))) h := t_and _
theorem isN_wd {kvs : KVs} : isN (wdOf kvs) = false := rfl
theorem w_abs : prW (bltR .abs fz [.int i] h) Q = Q (.int (if i < 0 then -i else i)) h := t_and _
theorem w_max2 : prW (bltR .max fz [.int i, .int j] h) Q = Q (.int (if j > i then j else i)) h := t_and _
theorem w_min2 : prW (bltR .min fz [.int i, .int j] h) Q = Q (.int (if j < i then j else i)) h := t_and _
theorem w_listF : prW (bltR .list fz [.fl xs] h) Q = alc fz xs h Q := t_and _
theorem w_listT : prW (bltR .list fz [.tup xs] h) Q = alc fz xs h Q := t_and _
theorem w_listR (e : h a = some (.lst xs)) : prW (bltR .list fz [.ref a] h) Q = alc fz xs h Q := by
  simp only [bltR, sq, ls, lv, e, Option.map_some, prW, optW_some, Out.w, t_and]
theorem w_tupleF : prW (bltR .tuple fz [.fl xs] h) Q = Q (.tup xs) h := t_and _
theorem w_int : prW (bltR .int fz [.int i] h) Q = Q (.int i) h := t_and _
theorem w_intB {k : Bool} : prW (bltR .int fz [.bl k] h) Q = Q (.int (if k then 1 else 0)) h := t_and _
theorem w_isi {ts us : List Ty} (e : tyOf h x = some us) : prW (bltR (.isi ts) fz [x] h) Q = Q (.bl (ts.any fun t => decide (t ∈ us))) h := by
  simp only [bltR, e, Option.map_some, prW, optW_some, Out.w, t_and]
theorem w_ok_append {K : Unit → Prop} (e : h a = some (.lst xs)) : optW (mOk .append (.ref a) h) K = K () := by simp only [mOk, lstAt, e, Option.map_some, optW_some]
theorem w_ok_extend {K : Unit → Prop} (e : h a = some (.lst xs)) : optW (mOk .extend (.ref a) h) K = K () := by simp only [mOk, lstAt, e, Option.map_some, optW_some]
theorem w_ok_pop {K : Unit → Prop} (e : h a = some (.lst xs)) : optW (mOk .pop (.ref a) h) K = K () := by simp only [mOk, lstAt, e, Option.map_some, optW_some]
theorem w_ok_insert {K : Unit → Prop} (e : h a = some (.lst xs)) : optW (mOk .insert (.ref a) h) K = K () := by simp only [mOk, lstAt, e, Option.map_some, optW_some]
theorem w_ok_reverse {K : Unit → Prop} (e : h a = some (.lst xs)) : optW (mOk .reverse (.ref a) h) K = K () := by simp only [mOk, lstAt, e, Option.map_some, optW_some]
theorem w_ok_clear {K : Unit → Prop} (e : h a = some (.lst xs)) : optW (mOk .clear (.ref a) h) K = K () := by simp only [mOk, lstAt, e, Option.map_some, optW_some]
theorem w_ok_index {K : Unit → Prop} (e : h a = some (.lst xs)) : optW (mOk .index (.ref a) h) K = K () := by simp only [mOk, ls, lv, e, Option.map_some, optW_some]
theorem w_ok_indexF {K : Unit → Prop} : optW (mOk .index (.fl xs) h) K = K () := rfl
theorem eqV_ints {i j : Int} : eqV (flV (.int i)) (flV (.int j)) = decide (i = j) := by
  by_cases e : i = j
  · subst e; simp [flV, eqV]
  · simp [flV, eqV, e]
theorem all_flt (ns : List Int) : (ns.map Val.int).all flt = true := by rw [List.all_map]; exact List.all_eq_true.mpr fun _ _ => rfl
theorem w_inI {ns : List Int} : prW (cmpR .isin (.int i) (.fl (ns.map .int)) h) Q = Q (.bl (decide (i ∈ ns))) h := by
  have e : (ns.map Val.int).any (fun z => eqV (flV z) (flV (.int i))) = decide (i ∈ ns) := by
    rw [List.any_map]
    induction ns with
    | nil => rfl
    | cons n ns ih =>
      rw [List.any_cons, ih]
      show (eqV (flV (.int n)) (flV (.int i)) || _) = _
      rw [eqV_ints]
      by_cases h1 : n = i <;> by_cases h2 : i ∈ ns <;> simp [h1, h2]
      exact fun z => h1 z.symm
  simp only [cmpR, inR, sinR, dr, sq, ls, lv, all_flt, flt, Bool.and_self, if_true, prW, optW_some, Out.w, t_and, Bool.false_eq_true, if_false, e]
theorem w_notinI {ns : List Int} : prW (cmpR .notin (.int i) (.fl (ns.map .int)) h) Q = Q (.bl (!decide (i ∈ ns))) h := by
  have e : (ns.map Val.int).any (fun z => eqV (flV z) (flV (.int i))) = decide (i ∈ ns) := by
    rw [List.any_map]
    induction ns with
    | nil => rfl
    | cons n ns ih =>
      rw [List.any_cons, ih]
      show (eqV (flV (.int n)) (flV (.int i)) || _) = _
      rw [eqV_ints]
      by_cases h1 : n = i <;> by_cases h2 : i ∈ ns <;> simp [h1, h2]
      exact fun z => h1 z.symm
  simp only [cmpR, inR, sinR, dr, sq, ls, lv, all_flt, flt, Bool.and_self, if_true, prW, optW_some, Out.w, t_and, e]
theorem w_ok_count {K : Unit → Prop} (e : h a = some (.lst xs)) : optW (mOk .count (.ref a) h) K = K () := by simp only [mOk, ls, lv, e, Option.map_some, optW_some]
theorem w_ok_countF {K : Unit → Prop} : optW (mOk .count (.fl xs) h) K = K () := rfl
/-- the truths among truths -/
theorem w_countB {bs : List Bool} : prW (mthR .count (.fl (bs.map .bl)) [.bl true] h) Q = Q (.int ((bs.count true : Nat) : Int)) h := by
  have e : (bs.map Val.bl).countP (fun z => eqV (flV z) (flV (.bl true))) = bs.count true := by
    rw [List.countP_map]
    induction bs with
    | nil => rfl
    | cons b bs ih =>
      rw [List.countP_cons, List.count_cons, ih]
      cases b <;> rfl
  have f : (bs.map Val.bl).all flt = true := by rw [List.all_map]; exact List.all_eq_true.mpr fun _ _ => rfl
  simp only [mthR, cnR, ls, lv, Option.map_some, prW, optW_some, Out.w, f, flt, true_and, e, t_and]
theorem w_countBR {bs : List Bool} (e : h a = some (.lst (bs.map .bl))) : prW (mthR .count (.ref a) [.bl true] h) Q = Q (.int ((bs.count true : Nat) : Int)) h := by
  have := w_countB (bs := bs) (h := h) (Q := Q)
  simp only [mthR, cnR, ls, lv, e, Option.map_some] at this ⊢
  exact this
theorem w_append (e : h a = some (.lst xs)) : prW (mthR .append (.ref a) [x] h) Q = (xs.length < 1000000 ∧ Q .non (up h a (.lst (xs ++ [x])))) := by
  simp only [mthR, lstAt, e, Option.bind_some, lmR, prW, optW_some, Out.w]
theorem w_popAt (e : h a = some (.lst xs)) {k : Nat} (hk : ixN xs.length i = some k) (hx : xs[k]? = some x) : prW (mthR .pop (.ref a) [.int i] h) Q = Q x (up h a (.lst (xs.eraseIdx k))) := by
  simp only [mthR, lstAt, e, Option.bind_some, lmR, prW, optW_some, Out.w, hk, hx, Option.map_some, t_and]
theorem w_pop (e : h a = some (.lst xs)) (hx : xs[xs.length - 1]? = some x) : prW (mthR .pop (.ref a) [] h) Q = Q x (up h a (.lst xs.dropLast)) := by
  simp only [mthR, lstAt, e, Option.bind_some, lmR, prW, optW_some, Out.w, hx, Option.map_some, t_and]
theorem w_extend (e : h a = some (.lst xs)) (hx : lv h x = some ys) : prW (mthR .extend (.ref a) [x] h) Q = (xs.length + ys.length ≤ 1000000 ∧ Q .non (up h a (.lst (xs ++ ys)))) := by
  simp only [mthR, lstAt, e, Option.bind_some, lmR, prW, optW_some, Out.w, hx, Option.map_some]
theorem w_reverse (e : h a = some (.lst xs)) : prW (mthR .reverse (.ref a) [] h) Q = Q .non (up h a (.lst xs.reverse)) := by
  simp only [mthR, lstAt, e, Option.bind_some, lmR, prW, optW_some, Out.w, t_and]
theorem w_clear (e : h a = some (.lst xs)) : prW (mthR .clear (.ref a) [] h) Q = Q .non (up h a (.lst [])) := by
  simp only [mthR, lstAt, e, Option.bind_some, lmR, prW, optW_some, Out.w, t_and]
theorem w_frz (e : h a = some (.lst xs)) : frzW (.ref a) h Q = Q (.fl xs) (er h a) := by
  simp only [Option.bind_some, noIns, frzW, cellAt, e, Option.map_some, optW_some, frzC]
theorem w_set (e : h a = some (.lst xs)) {k : Nat} {K : Hq → Prop} (hk : ixN xs.length i = some k) : setW (.ref a) (.int i) x h K = K (up h a (.lst (xs.set k x))) := by
  simp only [setW, dicAt, lstAt, e, optW_some, intOf, hk]
theorem w_blOf {k : Bool} {K : Bool → Prop} : optW (blOf (.bl k)) K = K k := rfl
theorem w_intOf {K : Int → Prop} : optW (intOf (.int i)) K = K i := rfl
theorem w_refOf {K : Addr → Prop} : optW (refOf (.ref a)) K = K a := rfl
theorem w_truB {k : Bool} {K : Bool → Prop} : truW (.bl k) h K = K k := rfl
theorem w_truI {K : Bool → Prop} : truW (.int i) h K = K (i != 0) := rfl
theorem w_truF {K : Bool → Prop} : truW (.fl xs) h K = K (!xs.isEmpty) := rfl
theorem w_truT {K : Bool → Prop} : truW (.tup xs) h K = K (!xs.isEmpty) := rfl
theorem w_truN {K : Bool → Prop} : truW .non h K = K false := rfl
theorem isN_non : isN .non = true := rfl
theorem isN_int : isN (.int i) = false := rfl
theorem isN_tup : isN (.tup xs) = false := rfl
theorem isN_fl : isN (.fl xs) = false := rfl
theorem isN_ref : isN (.ref a) = false := rfl
theorem lv_up : lv (up h a (.lst xs)) (.ref a) = some xs := by simp [lv, up_same]
theorem ls_up : ls (up h a (.lst xs)) (.ref a) = some xs := lv_up
theorem sq_up : sq (up h a (.lst xs)) (.ref a) = some xs := lv_up
theorem tyOf_fl : tyOf h (.fl xs) = some [.list] := rfl
theorem tyOf_int : tyOf h (.int i) = some [.int] := rfl
theorem tyOf_tup : tyOf h (.tup xs) = some [.tuple] := rfl
theorem tyOf_bl {k : Bool} : tyOf h (.bl k) = some [.bool, .int] := rfl
theorem tyOf_ref (e : h a = some (.lst xs)) : tyOf h (.ref a) = some [.list] := by simp [tyOf, e]
theorem lstO_ref (e : h a = some (.lst xs)) : lstO h a = some xs := lstO_some.mpr e
end
/-! places in lists -/
section
variable {α : Type} {x y z u : α} {xs : List α}
theorem ixN_nat {n k : Nat} (hk : k < n) : ixN n (k : Int) = some k := by
  unfold ixN; rw [if_pos (Int.natCast_nonneg k), if_pos (by omega)]; rfl
theorem ixN_of {n : Nat} {i : Int} (h0 : 0 ≤ i) (h1 : i < n) : ixN n i = some i.toNat := by
  unfold ixN; rw [if_pos h0, if_pos h1]
theorem atI0 : atI (x :: xs) 0 = some x := by
  unfold atI; rw [show ixN (x :: xs).length 0 = some 0 from ixN_of (by decide) (by simp only [List.length_cons]; omega)]; rfl
theorem atI1 : atI (x :: y :: xs) 1 = some y := by
  unfold atI; rw [show ixN (x :: y :: xs).length 1 = some 1 from ixN_of (by decide) (by simp only [List.length_cons]; omega)]; rfl
theorem atI2 : atI (x :: y :: z :: xs) 2 = some z := by
  unfold atI; rw [show ixN (x :: y :: z :: xs).length 2 = some 2 from ixN_of (by decide) (by simp only [List.length_cons]; omega)]; rfl
theorem atI3 : atI (x :: y :: z :: u :: xs) 3 = some u := by
  unfold atI; rw [show ixN (x :: y :: z :: u :: xs).length 3 = some 3 from ixN_of (by decide) (by simp only [List.length_cons]; omega)]; rfl
theorem atI_of {i : Int} (h0 : 0 ≤ i) (h1 : i < xs.length) : ∃ v, atI xs i = some v ∧ xs[i.toNat]? = some v := by
  have hl : i.toNat < xs.length := by omega
  exact ⟨xs[i.toNat], by unfold atI; rw [ixN_of h0 h1]; simp [hl], by simp [hl]⟩
theorem ixN_len1 : ixN (x :: xs).length 0 = some 0 := ixN_of (by decide) (by simp only [List.length_cons]; omega)
theorem ixN_len2 : ixN (x :: y :: xs).length 1 = some 1 := ixN_of (by decide) (by simp only [List.length_cons]; omega)
theorem ixN_len3 : ixN (x :: y :: z :: xs).length 2 = some 2 := ixN_of (by decide) (by simp only [List.length_cons]; omega)
end
/-! ### calls -/
theorem CN_go {F : Fs} {n f : Nat} {d : Df} {vs : List Val} {h : Hq} {Q : QV} {E : QE} (hf : F f = some d) (hl : vs.length = d.ps)
    (w : wpSs (CN F n) d.body { nx := fun _ h' => Q .non h', rt := Q, ex := fun x _ h' => E x h' } (vs.map some ++ List.replicate (d.ns - d.ps) none) h) : CN F (n + 1) f vs h Q E := by
  simp only [CN, hf]; exact ⟨hl, w⟩
/-! ### the walk's head, rule by rule -/
section
variable {ρ : Env3} {h : Hq} {y v : Val} {K : Env3 → Prop} {L : Val → Prop} {H : Hq → Prop} {n : Nat} {is : List Nat} {ys : List Val} {a : Addr}
theorem w_lk0 : optW (lk (some v :: ρ) 0) L = L v := rfl
theorem w_lkS {x : Option Val} : optW (lk (x :: ρ) (n + 1)) L = optW (lk ρ n) L := by cases x <;> rfl
theorem w_bs : optW (bindT (.names is) (.tup ys) ρ) K = optW (bindL3 is ys ρ) K := rfl
theorem w_bl0 : optW (bindL3 [] [] ρ) K = K ρ := rfl
theorem w_bl1 : optW (bindL3 (n :: is) (y :: ys) ρ) K = optW (bindT (.name n) y ρ) fun ρ' => optW (bindL3 is ys ρ') K := rfl
theorem w_k1 {K' : Addr → Prop} : optW ((lk (some v :: ρ) 0).bind refOf) K' = optW (refOf v) K' := rfl
theorem w_kS {K' : Addr → Prop} {x : Option Val} : optW ((lk (x :: ρ) (n + 1)).bind refOf) K' = optW ((lk ρ n).bind refOf) K' := by cases x <;> rfl
theorem w_b0 {x0 : Option Val} : optW (bindT (.name 0) y (x0 :: ρ)) K = K (some y :: ρ) := rfl
theorem w_b1 {x0 x1 : Option Val} : optW (bindT (.name 1) y (x0 :: x1 :: ρ)) K = K (x0 :: some y :: ρ) := rfl
theorem w_b2 {x0 x1 x2 : Option Val} : optW (bindT (.name 2) y (x0 :: x1 :: x2 :: ρ)) K = K (x0 :: x1 :: some y :: ρ) := rfl
theorem w_b3 {x0 x1 x2 x3 : Option Val} : optW (bindT (.name 3) y (x0 :: x1 :: x2 :: x3 :: ρ)) K = K (x0 :: x1 :: x2 :: some y :: ρ) := rfl
theorem w_b4 {x0 x1 x2 x3 x4 : Option Val} : optW (bindT (.name 4) y (x0 :: x1 :: x2 :: x3 :: x4 :: ρ)) K = K (x0 :: x1 :: x2 :: x3 :: some y :: ρ) := rfl
theorem w_b5 {x0 x1 x2 x3 x4 x5 : Option Val} : optW (bindT (.name 5) y (x0 :: x1 :: x2 :: x3 :: x4 :: x5 :: ρ)) K = K (x0 :: x1 :: x2 :: x3 :: x4 :: some y :: ρ) := rfl
theorem w_b6 {x0 x1 x2 x3 x4 x5 x6 : Option Val} : optW (bindT (.name 6) y (x0 :: x1 :: x2 :: x3 :: x4 :: x5 :: x6 :: ρ)) K = K (x0 :: x1 :: x2 :: x3 :: x4 :: x5 :: some y :: ρ) := rfl
theorem w_b7 {x0 x1 x2 x3 x4 x5 x6 x7 : Option Val} : optW (bindT (.name 7) y (x0 :: x1 :: x2 :: x3 :: x4 :: x5 :: x6 :: x7 :: ρ)) K = K (x0 :: x1 :: x2 :: x3 :: x4 :: x5 :: x6 :: some y :: ρ) := rfl
theorem w_b8 {x0 x1 x2 x3 x4 x5 x6 x7 x8 : Option Val} : optW (bindT (.name 8) y (x0 :: x1 :: x2 :: x3 :: x4 :: x5 :: x6 :: x7 :: x8 :: ρ)) K = K (x0 :: x1 :: x2 :: x3 :: x4 :: x5 :: x6 :: x7 :: some y :: ρ) := rfl
theorem w_b9 {x0 x1 x2 x3 x4 x5 x6 x7 x8 x9 : Option Val} : optW (bindT (.name 9) y (x0 :: x1 :: x2 :: x3 :: x4 :: x5 :: x6 :: x7 :: x8 :: x9 :: ρ)) K = K (x0 :: x1 :: x2 :: x3 :: x4 :: x5 :: x6 :: x7 :: x8 :: some y :: ρ) := rfl
theorem w_b10 {x0 x1 x2 x3 x4 x5 x6 x7 x8 x9 x10 : Option Val} : optW (bindT (.name 10) y (x0 :: x1 :: x2 :: x3 :: x4 :: x5 :: x6 :: x7 :: x8 :: x9 :: x10 :: ρ)) K = K (x0 :: x1 :: x2 :: x3 :: x4 :: x5 :: x6 :: x7 :: x8 :: x9 :: some y :: ρ) := rfl
theorem w_b11 {x0 x1 x2 x3 x4 x5 x6 x7 x8 x9 x10 x11 : Option Val} : optW (bindT (.name 11) y (x0 :: x1 :: x2 :: x3 :: x4 :: x5 :: x6 :: x7 :: x8 :: x9 :: x10 :: x11 :: ρ)) K = K (x0 :: x1 :: x2 :: x3 :: x4 :: x5 :: x6 :: x7 :: x8 :: x9 :: x10 :: some y :: ρ) := rfl
theorem w_b12 {x0 x1 x2 x3 x4 x5 x6 x7 x8 x9 x10 x11 x12 : Option Val} : optW (bindT (.name 12) y (x0 :: x1 :: x2 :: x3 :: x4 :: x5 :: x6 :: x7 :: x8 :: x9 :: x10 :: x11 :: x12 :: ρ)) K = K (x0 :: x1 :: x2 :: x3 :: x4 :: x5 :: x6 :: x7 :: x8 :: x9 :: x10 :: x11 :: some y :: ρ) := rfl
theorem w_b13 {x0 x1 x2 x3 x4 x5 x6 x7 x8 x9 x10 x11 x12 x13 : Option Val} : optW (bindT (.name 13) y (x0 :: x1 :: x2 :: x3 :: x4 :: x5 :: x6 :: x7 :: x8 :: x9 :: x10 :: x11 :: x12 :: x13 :: ρ)) K = K (x0 :: x1 :: x2 :: x3 :: x4 :: x5 :: x6 :: x7 :: x8 :: x9 :: x10 :: x11 :: x12 :: some y :: ρ) := rfl
theorem w_b14 {x0 x1 x2 x3 x4 x5 x6 x7 x8 x9 x10 x11 x12 x13 x14 : Option Val} : optW (bindT (.name 14) y (x0 :: x1 :: x2 :: x3 :: x4 :: x5 :: x6 :: x7 :: x8 :: x9 :: x10 :: x11 :: x12 :: x13 :: x14 :: ρ)) K = K (x0 :: x1 :: x2 :: x3 :: x4 :: x5 :: x6 :: x7 :: x8 :: x9 :: x10 :: x11 :: x12 :: x13 :: some y :: ρ) := rfl
theorem w_b15 {x0 x1 x2 x3 x4 x5 x6 x7 x8 x9 x10 x11 x12 x13 x14 x15 : Option Val} : optW (bindT (.name 15) y (x0 :: x1 :: x2 :: x3 :: x4 :: x5 :: x6 :: x7 :: x8 :: x9 :: x10 :: x11 :: x12 :: x13 :: x14 :: x15 :: ρ)) K = K (x0 :: x1 :: x2 :: x3 :: x4 :: x5 :: x6 :: x7 :: x8 :: x9 :: x10 :: x11 :: x12 :: x13 :: x14 :: some y :: ρ) := rfl
theorem w_b16 {x0 x1 x2 x3 x4 x5 x6 x7 x8 x9 x10 x11 x12 x13 x14 x15 x16 : Option Val} : optW (bindT (.name 16) y (x0 :: x1 :: x2 :: x3 :: x4 :: x5 :: x6 :: x7 :: x8 :: x9 :: x10 :: x11 :: x12 :: x13 :: x14 :: x15 :: x16 :: ρ)) K = K (x0 :: x1 :: x2 :: x3 :: x4 :: x5 :: x6 :: x7 :: x8 :: x9 :: x10 :: x11 :: x12 :: x13 :: x14 :: x15 :: some y :: ρ) := rfl
theorem w_b17 {x0 x1 x2 x3 x4 x5 x6 x7 x8 x9 x10 x11 x12 x13 x14 x15 x16 x17 : Option Val} : optW (bindT (.name 17) y (x0 :: x1 :: x2 :: x3 :: x4 :: x5 :: x6 :: x7 :: x8 :: x9 :: x10 :: x11 :: x12 :: x13 :: x14 :: x15 :: x16 :: x17 :: ρ)) K = K (x0 :: x1 :: x2 :: x3 :: x4 :: x5 :: x6 :: x7 :: x8 :: x9 :: x10 :: x11 :: x12 :: x13 :: x14 :: x15 :: x16 :: some y :: ρ) := rfl
theorem w_b18 {x0 x1 x2 x3 x4 x5 x6 x7 x8 x9 x10 x11 x12 x13 x14 x15 x16 x17 x18 : Option Val} : optW (bindT (.name 18) y (x0 :: x1 :: x2 :: x3 :: x4 :: x5 :: x6 :: x7 :: x8 :: x9 :: x10 :: x11 :: x12 :: x13 :: x14 :: x15 :: x16 :: x17 :: x18 :: ρ)) K = K (x0 :: x1 :: x2 :: x3 :: x4 :: x5 :: x6 :: x7 :: x8 :: x9 :: x10 :: x11 :: x12 :: x13 :: x14 :: x15 :: x16 :: x17 :: some y :: ρ) := rfl
theorem w_b19 {x0 x1 x2 x3 x4 x5 x6 x7 x8 x9 x10 x11 x12 x13 x14 x15 x16 x17 x18 x19 : Option Val} : optW (bindT (.name 19) y (x0 :: x1 :: x2 :: x3 :: x4 :: x5 :: x6 :: x7 :: x8 :: x9 :: x10 :: x11 :: x12 :: x13 :: x14 :: x15 :: x16 :: x17 :: x18 :: x19 :: ρ)) K = K (x0 :: x1 :: x2 :: x3 :: x4 :: x5 :: x6 :: x7 :: x8 :: x9 :: x10 :: x11 :: x12 :: x13 :: x14 :: x15 :: x16 :: x17 :: x18 :: some y :: ρ) := rfl
theorem w_b20 {x0 x1 x2 x3 x4 x5 x6 x7 x8 x9 x10 x11 x12 x13 x14 x15 x16 x17 x18 x19 x20 : Option Val} : optW (bindT (.name 20) y (x0 :: x1 :: x2 :: x3 :: x4 :: x5 :: x6 :: x7 :: x8 :: x9 :: x10 :: x11 :: x12 :: x13 :: x14 :: x15 :: x16 :: x17 :: x18 :: x19 :: x20 :: ρ)) K = K (x0 :: x1 :: x2 :: x3 :: x4 :: x5 :: x6 :: x7 :: x8 :: x9 :: x10 :: x11 :: x12 :: x13 :: x14 :: x15 :: x16 :: x17 :: x18 :: x19 :: some y :: ρ) := rfl
theorem w_b21 {x0 x1 x2 x3 x4 x5 x6 x7 x8 x9 x10 x11 x12 x13 x14 x15 x16 x17 x18 x19 x20 x21 : Option Val} : optW (bindT (.name 21) y (x0 :: x1 :: x2 :: x3 :: x4 :: x5 :: x6 :: x7 :: x8 :: x9 :: x10 :: x11 :: x12 :: x13 :: x14 :: x15 :: x16 :: x17 :: x18 :: x19 :: x20 :: x21 :: ρ)) K = K (x0 :: x1 :: x2 :: x3 :: x4 :: x5 :: x6 :: x7 :: x8 :: x9 :: x10 :: x11 :: x12 :: x13 :: x14 :: x15 :: x16 :: x17 :: x18 :: x19 :: x20 :: some y :: ρ) := rfl
theorem w_b22 {x0 x1 x2 x3 x4 x5 x6 x7 x8 x9 x10 x11 x12 x13 x14 x15 x16 x17 x18 x19 x20 x21 x22 : Option Val} : optW (bindT (.name 22) y (x0 :: x1 :: x2 :: x3 :: x4 :: x5 :: x6 :: x7 :: x8 :: x9 :: x10 :: x11 :: x12 :: x13 :: x14 :: x15 :: x16 :: x17 :: x18 :: x19 :: x20 :: x21 :: x22 :: ρ)) K = K (x0 :: x1 :: x2 :: x3 :: x4 :: x5 :: x6 :: x7 :: x8 :: x9 :: x10 :: x11 :: x12 :: x13 :: x14 :: x15 :: x16 :: x17 :: x18 :: x19 :: x20 :: x21 :: some y :: ρ) := rfl
theorem w_b23 {x0 x1 x2 x3 x4 x5 x6 x7 x8 x9 x10 x11 x12 x13 x14 x15 x16 x17 x18 x19 x20 x21 x22 x23 : Option Val} : optW (bindT (.name 23) y (x0 :: x1 :: x2 :: x3 :: x4 :: x5 :: x6 :: x7 :: x8 :: x9 :: x10 :: x11 :: x12 :: x13 :: x14 :: x15 :: x16 :: x17 :: x18 :: x19 :: x20 :: x21 :: x22 :: x23 :: ρ)) K = K (x0 :: x1 :: x2 :: x3 :: x4 :: x5 :: x6 :: x7 :: x8 :: x9 :: x10 :: x11 :: x12 :: x13 :: x14 :: x15 :: x16 :: x17 :: x18 :: x19 :: x20 :: x21 :: x22 :: some y :: ρ) := rfl
theorem w_b24 {x0 x1 x2 x3 x4 x5 x6 x7 x8 x9 x10 x11 x12 x13 x14 x15 x16 x17 x18 x19 x20 x21 x22 x23 x24 : Option Val} : optW (bindT (.name 24) y (x0 :: x1 :: x2 :: x3 :: x4 :: x5 :: x6 :: x7 :: x8 :: x9 :: x10 :: x11 :: x12 :: x13 :: x14 :: x15 :: x16 :: x17 :: x18 :: x19 :: x20 :: x21 :: x22 :: x23 :: x24 :: ρ)) K = K (x0 :: x1 :: x2 :: x3 :: x4 :: x5 :: x6 :: x7 :: x8 :: x9 :: x10 :: x11 :: x12 :: x13 :: x14 :: x15 :: x16 :: x17 :: x18 :: x19 :: x20 :: x21 :: x22 :: x23 :: some y :: ρ) := rfl
theorem w_b25 {x0 x1 x2 x3 x4 x5 x6 x7 x8 x9 x10 x11 x12 x13 x14 x15 x16 x17 x18 x19 x20 x21 x22 x23 x24 x25 : Option Val} : optW (bindT (.name 25) y (x0 :: x1 :: x2 :: x3 :: x4 :: x5 :: x6 :: x7 :: x8 :: x9 :: x10 :: x11 :: x12 :: x13 :: x14 :: x15 :: x16 :: x17 :: x18 :: x19 :: x20 :: x21 :: x22 :: x23 :: x24 :: x25 :: ρ)) K = K (x0 :: x1 :: x2 :: x3 :: x4 :: x5 :: x6 :: x7 :: x8 :: x9 :: x10 :: x11 :: x12 :: x13 :: x14 :: x15 :: x16 :: x17 :: x18 :: x19 :: x20 :: x21 :: x22 :: x23 :: x24 :: some y :: ρ) := rfl
variable {α : Type} {M : α → Prop} {p q r s : α} {xs : List α}
theorem w_at0 : optW (atI (p :: xs) 0) M = M p := by rw [atI0]; rfl
theorem w_at1 : optW (atI (p :: q :: xs) 1) M = M q := by rw [atI1]; rfl
theorem w_at2 : optW (atI (p :: q :: r :: xs) 2) M = M r := by rw [atI2]; rfl
theorem w_at3 : optW (atI (p :: q :: r :: s :: xs) 3) M = M s := by rw [atI3]; rfl
variable {u w z : Val}
theorem w_set0 (e : h a = some (.lst (u :: ys))) : setW (.ref a) (.int 0) y h H = H (up h a (.lst (y :: ys))) := by rw [w_set e (k := 0) ixN_len1]; rfl
theorem w_set1 (e : h a = some (.lst (u :: v :: ys))) : setW (.ref a) (.int 1) y h H = H (up h a (.lst (u :: y :: ys))) := by rw [w_set e (k := 1) ixN_len2]; rfl
theorem w_set2 (e : h a = some (.lst (u :: v :: w :: ys))) : setW (.ref a) (.int 2) y h H = H (up h a (.lst (u :: v :: y :: ys))) := by rw [w_set e (k := 2) ixN_len3]; rfl
end
end L3

set_option Elab.async false
set_option linter.all false
set_option maxRecDepth 100000
/-! L3, part V: loops, comprehensions, equality, for whoever proves a contract. -/
namespace L3
open PySem PySem.Spec PyProof.Rows L2

theorem moS (F : Fs) (n : Nat) (b : Sms) : MonoS (wpSs (CN F n) b) (wpSs (CN F n) b) := wpSs_mono (CN_mono F n) b
theorem moT (F : Fs) (n : Nat) (e : Ex) (ρ : Env3) (h : Hq) (Q Q' : Bool → Hq → Prop) (E : QE) (k : ∀ b h, Q b h → Q' b h) (w : wpT (CN F n) e ρ h Q E) : wpT (CN F n) e ρ h Q' E := wpT_mono (CN_mono F n) e ρ h Q Q' E E k (fun _ _ z => z) w
/-- a for, by what holds at each turn -/
theorem for_inv {tg : Tg} {b : WS} {keep : Hq → Prop} {D : Dn} (mb : MonoS b b) (I : Nat → Env3 → Hq → Prop) (xs : List Val)
    (hs : ∀ i x ρ h, xs[i]? = some x → I i ρ h → keep h ∧ ∃ ρ1, bindT tg x ρ = some ρ1 ∧ b { D with nx := I (i + 1) } ρ1 h) (hd : ∀ ρ h, I xs.length ρ h → keep h ∧ D.nx ρ h) {ρ : Env3} {h : Hq} (h0 : I 0 ρ h) : forW tg b keep D xs ρ h := by
  have go : ∀ (k i : Nat), i + k = xs.length → ∀ ρ h, I i ρ h → forW tg b keep D (xs.drop i) ρ h := by
    intro k
    induction k with
    | zero =>
      intro i e ρ h hi
      rw [List.drop_eq_nil_of_le (by omega)]
      have : i = xs.length := by omega
      subst this
      exact hd ρ h hi
    | succ k ih =>
      intro i e ρ h hi
      have hlt : i < xs.length := by omega
      rw [List.drop_eq_getElem_cons hlt]
      obtain ⟨kp, ρ1, e1, w⟩ := hs i xs[i] ρ h (List.getElem?_eq_getElem hlt) hi
      refine ⟨kp, ?_⟩
      rw [e1]
      exact mb.go w ⟨fun ρ' h' q => ih (i + 1) (by omega) ρ' h' q, fun _ _ q => q, fun _ _ _ q => q⟩
  have := go xs.length 0 (by omega) ρ h h0
  simpa using this
/-- .. over the items of a list of one's own kind -/
theorem for_map {α : Type} {tg : Tg} {b : WS} {keep : Hq → Prop} {D : Dn} (mb : MonoS b b) (I : List α → Env3 → Hq → Prop) (φ : α → Val) (ys : List α)
    (hs : ∀ pre y post ρ h, ys = pre ++ y :: post → I pre ρ h → keep h ∧ ∃ ρ1, bindT tg (φ y) ρ = some ρ1 ∧ b { D with nx := I (pre ++ [y]) } ρ1 h) (hd : ∀ ρ h, I ys ρ h → keep h ∧ D.nx ρ h) {ρ : Env3} {h : Hq} (h0 : I [] ρ h) : forW tg b keep D (ys.map φ) ρ h := by
  refine for_inv mb (fun i ρ h => I (ys.take i) ρ h) (ys.map φ) (fun i x ρ h e q => ?_) (fun ρ h q => hd ρ h (by rw [List.length_map, List.take_length] at q; exact q)) (by simpa using h0)
  rw [List.getElem?_map] at e
  obtain ⟨y, e1, rfl⟩ := Option.map_eq_some_iff.mp e
  obtain ⟨hi, e2⟩ := List.getElem?_eq_some_iff.mp e1
  have e3 : ys = ys.take i ++ y :: ys.drop (i + 1) := by
    rw [← e2, ← List.drop_eq_getElem_cons hi, List.take_append_drop]
  have e4 : ys.take (i + 1) = ys.take i ++ [y] := by rw [List.take_add_one, e1]; rfl
  have := hs (ys.take i) y (ys.drop (i + 1)) ρ h e3 q
  rw [← e4] at this
  exact this
/-- a while, by what holds and a number that falls -/
theorem whl_inv {tst : Env3 → Hq → (Bool → Hq → Prop) → Prop} {b : WS} {D : Dn} (mt : ∀ ρ h Q Q', (∀ c h, Q c h → Q' c h) → tst ρ h Q → tst ρ h Q') (mb : MonoS b b) (I : Nat → Env3 → Hq → Prop)
    (hs : ∀ m ρ h, I m ρ h → tst ρ h fun c h1 => if c = true then b { D with nx := fun ρ' h' => ∃ m', m' < m ∧ I m' ρ' h' } ρ h1 else D.nx ρ h1) {m : Nat} {ρ : Env3} {h : Hq} (h0 : I m ρ h) : ∃ n, whlW tst b D n ρ h := by
  have go : ∀ (n m : Nat), m < n → ∀ ρ h, I m ρ h → whlW tst b D n ρ h := by
    intro n
    induction n with
    | zero => intro m hm; omega
    | succ n ih =>
      intro m hm ρ h q
      refine mt _ _ _ _ (fun c h1 q => ?_) (hs m ρ h q)
      cases c with
      | true => exact mb.go q ⟨fun ρ' h' ⟨m', l, q⟩ => ih m' (by omega) ρ' h' q, fun _ _ q => q, fun _ _ _ q => q⟩
      | false => exact q
  exact ⟨m + 1, go (m + 1) m (by omega) ρ h h0⟩
/-- a comprehension whose tests and elements change nothing -/
theorem comp_ok {β : Type} {fz : Bool} {tg : Tg} {tst : Env3 → Hq → (Bool → Hq → Prop) → Prop} {el : Env3 → Hq → QV → Prop} {keep : Hq → Prop} {ρw : Env3} {h : Hq} {Q : QV}
    (mt : ∀ ρ h Q Q', (∀ c h, Q c h → Q' c h) → tst ρ h Q → tst ρ h Q') (me : ∀ ρ h Q Q', (∀ c h, Q c h → Q' c h) → el ρ h Q → el ρ h Q')
    (φ : β → Val) (ys : List β) (g : β → Option Val) (hl : ys.length < 1000000)
    (hstep : ∀ p acc, h p = none → keep (up h p (.lst acc)) ∧ ∀ y ∈ ys, ∃ ρ1, bindT tg (φ y) ρw = some ρ1 ∧ ∀ K : Option Val → Hq → Prop, K (g y) (up h p (.lst acc)) → tst ρ1 (up h p (.lst acc)) fun b h1 => if b = true then el ρ1 h1 fun v h2 => K (some v) h2 else K none h1)
    (hq : alc fz (ys.filterMap g) h Q) : ∀ p, h p = none → compW tg tst el keep p (compFin fz p Q) ρw (ys.map φ) (up h p (.lst [])) := by
  intro p hp
  have go : ∀ (zs : List β) (acc : List Val), acc.length + zs.length < 1000000 → (∀ z ∈ zs, z ∈ ys) → alc fz (acc ++ zs.filterMap g) h Q → compW tg tst el keep p (compFin fz p Q) ρw (zs.map φ) (up h p (.lst acc)) := by
    intro zs
    induction zs with
    | nil =>
      intro acc _ _ w
      refine ⟨(hstep p acc hp).1, ?_⟩
      simp only [List.filterMap_nil, List.append_nil] at w
      cases fz with
      | true =>
        show optW (lstO (up h p (.lst acc)) p) _
        rw [lstO_some.mpr up_same]
        show Q (.fl acc) (er (up h p (.lst acc)) p)
        rw [er_up hp]
        exact w
      | false => exact w p hp
    | cons z zs ih =>
      intro acc hlen hm w
      obtain ⟨kp, st⟩ := hstep p acc hp
      obtain ⟨ρ1, e1, st⟩ := st z (hm z List.mem_cons_self)
      refine ⟨kp, ?_⟩
      show optW (bindT tg (φ z) ρw) _
      rw [e1]
      have hm' : ∀ y ∈ zs, y ∈ ys := fun y hy => hm y (List.mem_cons_of_mem _ hy)
      refine mt _ _ _ _ (fun c h1 q => ?_) (st (fun o h' => match o with
        | some v => ∃ acc', lstO h' p = some acc' ∧ acc'.length < 1000000 ∧ compW tg tst el keep p (compFin fz p Q) ρw (zs.map φ) (up h' p (.lst (acc' ++ [v])))
        | none => compW tg tst el keep p (compFin fz p Q) ρw (zs.map φ) h') ?_)
      · cases c with
        | true => exact me _ _ _ _ (fun v h2 ⟨acc', e2, l, q⟩ => by rw [e2]; exact ⟨l, q⟩) q
        | false => exact q
      · rw [List.filterMap_cons] at w
        cases e2 : g z with
        | none =>
          rw [e2] at w
          exact ih acc (by rw [List.length_cons] at hlen; omega) hm' w
        | some v =>
          rw [e2] at w
          refine ⟨acc, lstO_some.mpr up_same, by omega, ?_⟩
          rw [up_up]
          exact ih (acc ++ [v]) (by rw [List.length_append, List.length_singleton]; rw [List.length_cons] at hlen; omega) hm' (by rw [List.append_assoc]; exact w)
  exact go ys [] (by rw [List.length_nil]; omega) (fun z hz => hz) hq

/-! ### equality of data -/
theorem pds_ints : ∀ ns : List Int, pds (ns.map Val.int) = some (ns.map PyData.int)
  | [] => rfl
  | n :: ns => by simp [pds, pd, pds_ints ns]
theorem canLay_ints : ∀ ns : List Int, PyData.canLayAll0 (ns.map PyData.int) = true
  | [] => rfl
  | n :: ns => by simp [PyData.canLayAll0, PyData.canLay0, canLay_ints ns]
theorem depth_ints : ∀ ns : List Int, PyData.depthAll (ns.map PyData.int) = 0
  | [] => rfl
  | n :: ns => by simp [PyData.depthAll, PyData.depth, depth_ints ns]
theorem shaped_ints (ns : List Int) : SeqAt.shaped (.list (ns.map PyData.int)) = true := by
  simp [SeqAt.shaped, PyData.canLay0, canLay_ints, PyData.depth, depth_ints]
/-- lists of lists of ints -/
def dLL (xss : List (List Int)) : PyData := .list (xss.map fun xs => .list (xs.map PyData.int))
theorem canLay_ll : ∀ xss : List (List Int), PyData.canLayAll0 (xss.map fun xs => PyData.list (xs.map PyData.int)) = true
  | [] => rfl
  | x :: xss => by simp [PyData.canLayAll0, PyData.canLay0, canLay_ints, canLay_ll xss]
theorem depth_ll : ∀ xss : List (List Int), PyData.depthAll (xss.map fun xs => PyData.list (xs.map PyData.int)) ≤ 1
  | [] => by simp [PyData.depthAll]
  | x :: xss => by
    have := depth_ll xss
    simp [PyData.depthAll, PyData.depth, depth_ints]
    omega
theorem shaped_ll (xss : List (List Int)) : SeqAt.shaped (dLL xss) = true := by
  have := depth_ll xss
  simp [SeqAt.shaped, dLL, PyData.canLay0, canLay_ll, PyData.depth]
  omega
theorem pds_ll : ∀ xss : List (List Int), pds (xss.map fun xs => Val.fl (xs.map Val.int)) = some (xss.map fun xs => PyData.list (xs.map PyData.int))
  | [] => rfl
  | x :: xss => by simp [pds, pd, pds_ints, pds_ll xss]
theorem dt_ints (h : Hq) (ns : List Int) : dt h (.fl (ns.map Val.int)) = some (.list (ns.map PyData.int)) := by simp [dt, pd, pds_ints]
theorem dt_ll (h : Hq) (xss : List (List Int)) : dt h (.fl (xss.map fun xs => Val.fl (xs.map Val.int))) = some (dLL xss) := by simp [dt, pd, pds_ll, dLL]
theorem dt_nil (h : Hq) : dt h (.fl []) = some (.list []) := rfl
theorem mapO_ints (ns : List Int) : mapO pd (ns.map Val.int) = some (ns.map PyData.int) := by
  induction ns with
  | nil => rfl
  | cons n ns ih => simp [mapO, pd, ih]
/-- a live list of ints -/
theorem dt_ref {h : Hq} {a : Addr} {ns : List Int} (e : h a = some (.lst (ns.map Val.int))) : dt h (.ref a) = some (.list (ns.map PyData.int)) := by
  have : ∀ ns : List Int, mapO (dt1 h) (ns.map Val.int) = some (ns.map PyData.int) := by
    intro ns
    induction ns with
    | nil => rfl
    | cons n ns ih => simp [mapO, dt1, pd, ih]
  simp [dt, e, this]
section
variable {h : Hq} {Q : QV} {x y : Val} {d e : PyData}
theorem w_eqD (ex : dt h x = some d) (ey : dt h y = some e) (sx : SeqAt.shaped d = true) (sy : SeqAt.shaped e = true) (hx : ∀ i, x ≠ .int i) (hs : ∀ i, x ≠ .str i) (q : Q (.bl (PyData.eqv d e)) h) : prW (cmpR .eq x y h) Q := by
  have : cmpR .eq x y h = eqR false x y h := by
    unfold cmpR; dsimp only; split
    · exact absurd rfl (hx _)
    · exact absurd rfl (hs _)
    · rfl
  rw [this]
  simp only [eqR, ex, ey, prW, optW_some]
  exact ⟨⟨sx, sy⟩, q⟩
theorem w_neD (ex : dt h x = some d) (ey : dt h y = some e) (sx : SeqAt.shaped d = true) (sy : SeqAt.shaped e = true) (hx : ∀ i, x ≠ .int i) (hs : ∀ i, x ≠ .str i) (q : Q (.bl (!PyData.eqv d e)) h) : prW (cmpR .ne x y h) Q := by
  have : cmpR .ne x y h = eqR true x y h := by
    unfold cmpR; dsimp only; split
    · exact absurd rfl (hx _)
    · exact absurd rfl (hs _)
    · rfl
  rw [this]
  simp only [eqR, ex, ey, prW, optW_some]
  exact ⟨⟨sx, sy⟩, q⟩
end
theorem eqvAll_ints : ∀ ns ms : List Int, PyData.eqvAll (ns.map PyData.int) (ms.map PyData.int) = decide (ns = ms)
  | [], [] => rfl
  | [], _ :: _ => rfl
  | _ :: _, [] => rfl
  | n :: ns, m :: ms => by
    simp only [List.map_cons, PyData.eqvAll, PyData.eqv, eqvAll_ints ns ms, List.cons.injEq]
    by_cases h1 : n = m <;> by_cases h2 : ns = ms <;> simp [h1, h2]
theorem eqv_ints (ns ms : List Int) : PyData.eqv (.list (ns.map PyData.int)) (.list (ms.map PyData.int)) = decide (ns = ms) := by
  simp only [PyData.eqv, eqvAll_ints]
theorem eqvAll_ll : ∀ ns ms : List (List Int), PyData.eqvAll (ns.map fun xs => PyData.list (xs.map PyData.int)) (ms.map fun xs => PyData.list (xs.map PyData.int)) = decide (ns = ms)
  | [], [] => rfl
  | [], _ :: _ => rfl
  | _ :: _, [] => rfl
  | n :: ns, m :: ms => by
    simp only [List.map_cons, PyData.eqvAll, eqv_ints, eqvAll_ll ns ms, List.cons.injEq]
    by_cases h1 : n = m <;> by_cases h2 : ns = ms <;> simp [h1, h2]
theorem eqv_ll (ns ms : List (List Int)) : PyData.eqv (dLL ns) (dLL ms) = decide (ns = ms) := by
  simp only [dLL, PyData.eqv, eqvAll_ll]

section
variable {h : Hq} {Q : QV} {ns ms : List Int}
theorem w_neI_L : prW (cmpR .ne (.fl (ns.map .int)) (.fl (ms.map .int)) h) Q = Q (.bl (!decide (ns = ms))) h := by
  simp only [cmpR, eqR, dt_ints, prW, optW_some, Out.w, shaped_ints, eqv_ints, and_self, true_and, if_true]
theorem w_eqI_L : prW (cmpR .eq (.fl (ns.map .int)) (.fl (ms.map .int)) h) Q = Q (.bl (decide (ns = ms))) h := by
  simp only [cmpR, eqR, dt_ints, prW, optW_some, Out.w, shaped_ints, eqv_ints, and_self, true_and, Bool.false_eq_true, if_false]
theorem w_eqLL {ns ms : List (List Int)} : prW (cmpR .eq (.fl (ns.map fun xs => .fl (xs.map .int))) (.fl (ms.map fun xs => .fl (xs.map .int))) h) Q = Q (.bl (decide (ns = ms))) h := by
  simp only [cmpR, eqR, dt_ll, prW, optW_some, Out.w, shaped_ll, eqv_ll, and_self, true_and, Bool.false_eq_true, if_false]
end
end L3
namespace L3
open PySem PySem.Spec PyProof.Rows L2
/-! ### heaps -/
/-- all but a is as it was -/
def Ex1 (a : Addr) (h h' : Hq) : Prop := ∀ q, q ≠ a → h' q = h q
theorem Ex1.refl {a : Addr} {h : Hq} : Ex1 a h h := fun _ _ => rfl
theorem Ex1.trans {a : Addr} {h h1 h2 : Hq} (x : Ex1 a h h1) (y : Ex1 a h1 h2) : Ex1 a h h2 := fun q n => (y q n).trans (x q n)
theorem Ex1.up {a : Addr} {h : Hq} {c : Cell} : Ex1 a h (up h a c) := fun q n => up_ne n
/-- what was live is as it was -/
def Grow (h h' : Hq) : Prop := ∀ a c, h a = some c → h' a = some c
theorem Grow.refl {h : Hq} : Grow h h := fun _ _ e => e
theorem Grow.trans {h h1 h2 : Hq} (x : Grow h h1) (y : Grow h1 h2) : Grow h h2 := fun a c e => y a c (x a c e)
theorem Grow.up {h : Hq} {p : Addr} {c : Cell} (n : h p = none) : Grow h (up h p c) := fun a d e => (up_ne (ne_of_live e n)).trans e
/-- a live list of live lists, all of them new -/
structure NL (h0 h : Hq) (p : Addr) (ps : List Addr) (cs : List (List Val)) : Prop where
  fresh : h0 p = none
  fresh' : ∀ q ∈ ps, h0 q = none
  nd : ps.Nodup
  np : p ∉ ps
  len : ps.length = cs.length
  top : h p = some (.lst (ps.map .ref))
  at_ : ∀ (i : Nat) q c, ps[i]? = some q → cs[i]? = some c → h q = some (.lst c)
  rest : ∀ q, q ≠ p → q ∉ ps → h q = h0 q
section
variable {h0 h : Hq} {p : Addr} {ps : List Addr} {cs : List (List Val)}
theorem NL.new (n : h0 p = none) : NL h0 (up h0 p (.lst [])) p [] [] :=
  ⟨n, (fun _ h => by cases h), List.nodup_nil, (by simp), rfl, up_same, (fun i q c e => by simp at e), fun q nq _ => up_ne nq⟩
theorem NL.live (N : NL h0 h p ps cs) {q : Addr} (hq : q ∈ ps) : ∃ c, h q = some (.lst c) := by
  obtain ⟨i, hi⟩ := List.getElem?_of_mem hq
  have hl : i < cs.length := by rw [← N.len]; exact (List.getElem?_eq_some_iff.mp hi).1
  exact ⟨_, N.at_ i q _ hi (List.getElem?_eq_getElem hl)⟩
theorem NL.out (N : NL h0 h p ps cs) {q : Addr} (n : h q = none) : q ≠ p ∧ q ∉ ps ∧ h0 q = none := by
  have n1 : q ≠ p := fun e => by rw [e, N.top] at n; cases n
  have n2 : q ∉ ps := fun e => by obtain ⟨c, z⟩ := N.live e; rw [z] at n; cases n
  exact ⟨n1, n2, by rw [← N.rest q n1 n2]; exact n⟩
theorem NL.push (N : NL h0 h p ps cs) {q : Addr} {c : List Val} (n : h q = none) : NL h0 (up (up h q (.lst c)) p (.lst (ps.map .ref ++ [.ref q]))) p (ps ++ [q]) (cs ++ [c]) := by
  obtain ⟨n1, n2, n3⟩ := N.out n
  refine ⟨N.fresh, fun r hr => ?_, ?_, ?_, by simp [N.len], ?_, fun i r d e1 e2 => ?_, fun r h1 h2 => ?_⟩
  · rcases List.mem_append.mp hr with h | h
    · exact N.fresh' r h
    · rw [List.mem_singleton.mp h]; exact n3
  · rw [List.nodup_append]
    exact ⟨N.nd, by simp, fun a ha b hb e => n2 (by rw [← List.mem_singleton.mp hb, ← e]; exact ha)⟩
  · intro h
    rcases List.mem_append.mp h with h | h
    · exact N.np h
    · exact n1 (List.mem_singleton.mp h).symm
  · rw [up_same, List.map_append]; rfl
  · have hr : r ≠ p := fun e => by
      have : r ∈ ps ++ [q] := List.mem_of_getElem? e1
      rcases List.mem_append.mp this with h | h
      · exact N.np (e ▸ h)
      · exact n1 ((List.mem_singleton.mp h).symm.trans e)
    rw [up_ne hr]
    by_cases hi : i < ps.length
    · rw [List.getElem?_append_left hi] at e1
      rw [List.getElem?_append_left (by rw [← N.len]; exact hi)] at e2
      rw [up_ne (fun e => n2 (by rw [← e]; exact List.mem_of_getElem? e1))]
      exact N.at_ i r d e1 e2
    · rw [List.getElem?_append_right (by omega)] at e1
      rw [List.getElem?_append_right (by rw [← N.len]; omega), ← N.len] at e2
      have hj : i - ps.length = 0 := by
        by_cases hz : i - ps.length = 0
        · exact hz
        · rw [List.getElem?_eq_none (by simp; omega)] at e1; cases e1
      rw [hj] at e1 e2
      cases e1
      cases e2
      exact up_same
  · rw [up_ne h1, up_ne (fun e => h2 (List.mem_append_right _ (List.mem_singleton.mpr e)))]
    exact N.rest r h1 fun z => h2 (List.mem_append_left _ z)
theorem NL.write (N : NL h0 h p ps cs) {i : Nat} {q : Addr} {c : List Val} (e : ps[i]? = some q) : NL h0 (up h q (.lst c)) p ps (cs.set i c) := by
  have hq : q ∈ ps := List.mem_of_getElem? e
  have n1 : p ≠ q := fun z => N.np (z ▸ hq)
  have hi : i < ps.length := (List.getElem?_eq_some_iff.mp e).1
  refine ⟨N.fresh, N.fresh', N.nd, N.np, by simp [N.len], by rw [up_ne n1]; exact N.top, fun j r d e1 e2 => ?_, fun r h1 h2 => ?_⟩
  · by_cases hj : i = j
    · subst hj
      rw [e] at e1
      cases e1
      rw [List.getElem?_set_self (by rw [← N.len]; exact hi)] at e2
      cases e2
      exact up_same
    · rw [List.getElem?_set_ne hj] at e2
      have hr : r ≠ q := fun z => by
        subst z
        obtain ⟨l1, e3⟩ := List.getElem?_eq_some_iff.mp e
        obtain ⟨l2, e4⟩ := List.getElem?_eq_some_iff.mp e1
        exact hj ((List.getElem_inj N.nd).mp (e3.trans e4.symm))
      rw [up_ne hr]
      exact N.at_ j r d e1 e2
  · rw [up_ne fun z => h2 (by rw [z]; exact hq)]
    exact N.rest r h1 h2
theorem NL.grow (N : NL h0 h p ps cs) : Grow h0 h := fun a c e => by
  have n1 : a ≠ p := ne_of_live e N.fresh
  have n2 : a ∉ ps := fun z => by rw [N.fresh' a z] at e; cases e
  rw [N.rest a n1 n2]; exact e
theorem NL.dt {css : List (List Int)} (N : NL h0 h p ps (css.map fun xs => xs.map .int)) : dt h (.ref p) = some (dLL css) := by
  have go : ∀ (ps : List Addr) (css : List (List Int)), ps.length = css.length → (∀ (i : Nat) q c, ps[i]? = some q → css[i]? = some c → h q = some (.lst (c.map .int))) → mapO (dt1 h) (ps.map .ref) = some (css.map fun xs => PyData.list (xs.map PyData.int)) := by
    intro ps
    induction ps with
    | nil => intro css e _; cases css <;> first | rfl | cases e
    | cons q ps ih =>
      intro css e at_
      cases css with
      | nil => cases e
      | cons c css =>
        have e1 := at_ 0 q c rfl rfl
        have e2 := ih css (by simpa using e) (fun i q c a b => at_ (i + 1) q c (by simpa using a) (by simpa using b))
        simp only [List.map_cons, mapO, dt1, e1, mapO_ints, Option.map_some, e2]
  have e3 := go ps css (by rw [N.len, List.length_map]) (fun i q c a b => N.at_ i q _ a (by rw [List.getElem?_map, b]; rfl))
  simp only [L3.dt, N.top, e3, Option.map_some, dLL]
end
/-- an item of a written list at an open place -/
theorem atI_open {α : Type} {xs : List α} {i : Int} (h0 : 0 ≤ i) (h1 : i < xs.length) : ∃ v, v ∈ xs ∧ atI xs i = some v := by
  obtain ⟨v, e1, e2⟩ := atI_of h0 h1
  exact ⟨v, List.mem_of_getElem? e2, e1⟩
section
variable {h : Hq} {Q : QV} {ns ms : List Int} {a : Addr}
theorem w_neRL (e : h a = some (.lst (ns.map .int))) : prW (cmpR .ne (.ref a) (.fl (ms.map .int)) h) Q = Q (.bl (!decide (ns = ms))) h := by
  simp only [cmpR, eqR, dt_ints, dt_ref e, prW, optW_some, Out.w, shaped_ints, eqv_ints, and_self, true_and, if_true]
theorem w_neR0 (e : h a = some (.lst (ns.map .int))) : prW (cmpR .ne (.ref a) (.fl []) h) Q = Q (.bl (!decide (ns = []))) h := w_neRL (ms := []) e
theorem w_eqRL (e : h a = some (.lst (ns.map .int))) : prW (cmpR .eq (.ref a) (.fl (ms.map .int)) h) Q = Q (.bl (decide (ns = ms))) h := by
  simp only [cmpR, eqR, dt_ints, dt_ref e, prW, optW_some, Out.w, shaped_ints, eqv_ints, and_self, true_and, Bool.false_eq_true, if_false]
end
theorem pick {α : Type} {xs : List α} {i : Int} {K : α → Prop} (z0 : 0 ≤ i) (z1 : i < xs.length) (z2 : ∀ v ∈ xs, K v) : optW (atI xs i) K := by
  obtain ⟨v, hv, e⟩ := atI_open z0 z1
  rw [e]; exact z2 v hv
section
variable {h : Hq} {Q : QV} {ns ms : List Int} {a : Addr}
theorem w_neF0 : prW (cmpR .ne (.fl (ns.map .int)) (.fl []) h) Q = Q (.bl (!decide (ns = []))) h := w_neI_L (ms := [])
theorem w_eqF0 : prW (cmpR .eq (.fl (ns.map .int)) (.fl []) h) Q = Q (.bl (decide (ns = []))) h := w_eqI_L (ms := [])
theorem w_neDL {ns ms : List (List Int)} (e : dt h (.ref a) = some (dLL ns)) : prW (cmpR .ne (.ref a) (.fl (ms.map fun xs => .fl (xs.map .int))) h) Q = Q (.bl (!decide (ns = ms))) h := by
  simp only [cmpR, eqR, dt_ll, e, prW, optW_some, Out.w, shaped_ll, eqv_ll, and_self, true_and, if_true]
theorem w_eqDL {ns ms : List (List Int)} (e : dt h (.ref a) = some (dLL ns)) : prW (cmpR .eq (.ref a) (.fl (ms.map fun xs => .fl (xs.map .int))) h) Q = Q (.bl (decide (ns = ms))) h := by
  simp only [cmpR, eqR, dt_ll, e, prW, optW_some, Out.w, shaped_ll, eqv_ll, and_self, true_and, Bool.false_eq_true, if_false]
end
theorem moE (F : Fs) (n : Nat) (e : Ex) (ρ : Env3) (h : Hq) (Q Q' : QV) (E : QE) (k : ∀ b h, Q b h → Q' b h) (w : wpE (CN F n) e ρ h Q E) : wpE (CN F n) e ρ h Q' E := wpE_mono (CN_mono F n) e ρ h Q Q' E E k (fun _ _ z => z) w
theorem filterMap_if {α β : Type} (c : α → Prop) [DecidablePred c] (f : α → β) : ∀ l : List α, l.filterMap (fun p => if c p then some (f p) else none) = (l.filter fun p => decide (c p)).map f
  | [] => rfl
  | x :: l => by
    by_cases h : c x
    · rw [List.filterMap_cons_some (by rw [if_pos h]), filterMap_if c f l]; simp [h]
    · rw [List.filterMap_cons_none (by rw [if_neg h]), filterMap_if c f l]; simp [h]
theorem filterMap_one {α β : Type} (f : α → β) : ∀ l : List α, l.filterMap (fun p => some (f p)) = l.map f
  | [] => rfl
  | x :: l => by rw [List.filterMap_cons, filterMap_one f l]; rfl
theorem grow_er {h h' : Hq} {p : Addr} (g : Grow h h') (n : h p = none) : Grow h (er h' p) := fun a c e => (er_ne (ne_of_live e n)).trans (g a c e)
theorem grow_up {h h' : Hq} {p : Addr} {c : Cell} (g : Grow h h') (n : h p = none) : Grow h (up h' p c) := fun a d e => (up_ne (ne_of_live e n)).trans (g a d e)
section
variable {h : Hq} {Q : QV} {fz : Bool} {a : Addr} {ns : List Int}
theorem mapO_int : ∀ ns : List Int, mapO intOf (ns.map Val.int) = some ns
  | [] => rfl
  | n :: ns => by simp [mapO, intOf, mapO_int ns]
theorem w_sortR (e : h a = some (.lst (ns.map .int))) : prW (bltR .sorted fz [.ref a] h) Q = alc fz ((sortI ns).map .int) h Q := by
  simp only [bltR, ls, lv, e, Option.bind_some, mapO_int, Option.map_some, prW, optW_some, Out.w, t_and]
theorem w_sortF : prW (bltR .sorted fz [.fl (ns.map .int)] h) Q = alc fz ((sortI ns).map .int) h Q := by
  simp only [bltR, ls, lv, Option.bind_some, mapO_int, Option.map_some, prW, optW_some, Out.w, t_and]
theorem w_sumF : prW (bltR .sum fz [.fl (ns.map .int)] h) Q = Q (.int ns.sum) h := by
  simp only [bltR, ls, lv, Option.bind_some, mapO_int, Option.map_some, prW, optW_some, Out.w, t_and]
end
/-- what stands live at a is a pen -/
def PenAt (h : Hq) (a : Addr) : Prop := ∃ x y z, h a = some (.lst [.int x, .int y, .int z]) ∧ 0 ≤ x
theorem PenAt.up {g : Hq} {a q : Addr} {c : Cell} (z : q ≠ a) (p : PenAt g a) : PenAt (up g q c) a := by
  obtain ⟨x, y, w, e, l⟩ := p
  exact ⟨x, y, w, by rw [up_ne (Ne.symm z)]; exact e, l⟩
theorem PenAt.er {g : Hq} {a q : Addr} (z : q ≠ a) (p : PenAt g a) : PenAt (er g q) a := by
  obtain ⟨x, y, w, e, l⟩ := p
  exact ⟨x, y, w, by rw [er_ne (Ne.symm z)]; exact e, l⟩
theorem PenAt.ne {g : Hq} {a q : Addr} (p : PenAt g a) (n : g q = none) : q ≠ a := fun z => by obtain ⟨_, _, _, e, _⟩ := p; rw [← z, n] at e; cases e
theorem PenAt.grow {g g' : Hq} {a : Addr} (k : Grow g g') (p : PenAt g a) : PenAt g' a := by
  obtain ⟨x, y, w, e, l⟩ := p
  exact ⟨x, y, w, k a _ e, l⟩
/-! ### texts -/
def strI (i : Int) : Str := toString i
section
variable {fz : Bool} {h : Hq} {Q : QV} {s t : Str} {i : Int} {lo hi : Option Int}
theorem w_strI : prW (bltR .str fz [.int i] h) Q = (i.natAbs.log2 < 1920 ∧ Q (.str (strI i)) h) := rfl
theorem w_intS {n : Int} (e : PySem.intText? s = some n) : prW (bltR .int fz [.str s] h) Q = (s.length ≤ 640 ∧ Q (.int n) h) := by
  simp only [bltR, e, Option.map_some, prW, optW_some, Out.w]
theorem w_lenStr : prW (bltR .len fz [.str s] h) Q = (s.length ≤ 1000000 ∧ Q (.int s.length) h) := rfl
theorem w_slcS : prW (slcR fz (.str s) lo hi h) Q = (s.length ≤ 1000000 ∧ Q (.str (cutS s lo hi)) h) := rfl
theorem w_idxStr {c : Nat} (e : atI s.cps.toList i = some c) : prW (idxR (.str s) (.int i) h) Q = (s.length ≤ 1000000 ∧ Q (.str ⟨#[c]⟩) h) := by
  show prW ((atI s.cps.toList i).map fun c => (s.length ≤ 1000000, .v (.str ⟨#[c]⟩) h)) Q = _
  rw [e]; rfl
theorem w_inS {c : Nat} : prW (cmpR .isin (.str ⟨#[c]⟩) (.str t) h) Q = Q (.bl (decide (c ∈ t.cps.toList))) h := t_and _
theorem w_notinS {c : Nat} : prW (cmpR .notin (.str ⟨#[c]⟩) (.str t) h) Q = Q (.bl (!decide (c ∈ t.cps.toList))) h := t_and _
theorem mapO_str (ys : List Str) : mapO stO (ys.map Val.str) = some ys := by
  induction ys with
  | nil => rfl
  | cons y ys ih => simp only [List.map_cons, mapO, stO, ih]
theorem w_join {ys : List Str} : prW (mthR .sjoin (.str s) [.fl (ys.map .str)] h) Q = ((ys.map (·.length)).sum + ys.length * s.length ≤ 1000000 ∧ Q (.str (Txt.join s ys)) h) := by
  simp only [mthR, joR, stO, Option.bind_some, sq_fl, mapO_str, Option.map_some, prW, optW_some, Out.w]
theorem w_split : prW (mthR .ssplit (.str s) [.str t] h) Q = (((t.length == 0) = false ∧ s.length ≤ 1000000) ∧ Q (.fl ((Txt.split s t).map .str)) h) := rfl
theorem w_find : prW (mthR .sfind (.str s) [.str t] h) Q = Q (.int (Txt.find s t)) h := t_and _
theorem w_find3 : prW (mthR .sfind (.str s) [.str t, .int i] h) Q = Q (.int (Txt.find3 s t i)) h := t_and _
theorem w_ok_join {K : Unit → Prop} : optW (mOk .sjoin (.str s) h) K = K () := rfl
theorem w_ok_split {K : Unit → Prop} : optW (mOk .ssplit (.str s) h) K = K () := rfl
theorem w_ok_find {K : Unit → Prop} : optW (mOk .sfind (.str s) h) K = K () := rfl
theorem tyOf_str : tyOf h (.str s) = some [.str] := rfl
theorem tyOf_non : tyOf h .non = some [] := rfl
theorem w_chs {K : List Val → Prop} : optW (chsO (.str s)) K = K (s.cps.toList.map fun c => Val.str ⟨#[c]⟩) := rfl
theorem isN_str : isN (.str s) = false := rfl
end
end L3

set_option Elab.async false
set_option linter.all false
set_option maxRecDepth 100000
/-! L4: search trees, in plain words. -/
namespace L3
open PySem PySem.Spec PyProof.Rows L2
inductive Tr where
  | nil | nd (l : Tr) (k : Int) (r : Tr)
  deriving DecidableEq
namespace Tr
def tv : Tr → Val
  | .nil => .non
  | .nd l k r => .tup [l.tv, .int k, r.tv]
def ht : Tr → Nat
  | .nil => 0
  | .nd l _ r => 1 + max l.ht r.ht
def keys : Tr → List Int
  | .nil => []
  | .nd l k r => l.keys ++ k :: r.keys
def put : Tr → Int → Tr
  | .nil, k => .nd .nil k .nil
  | .nd l j r, k => if k < j then .nd (l.put k) j r else .nd l j (r.put k)
def size : Tr → Nat
  | .nil => 0
  | .nd l _ r => l.size + 1 + r.size
theorem keys_len : ∀ t : Tr, t.keys.length = t.size
  | .nil => rfl
  | .nd l k r => by simp [keys, size, keys_len l, keys_len r]; omega
theorem ht_le : ∀ t : Tr, t.ht ≤ t.size
  | .nil => Nat.le_refl _
  | .nd l k r => by
    have := ht_le l
    have := ht_le r
    simp only [ht, size]; omega
theorem put_perm : ∀ (t : Tr) (k : Int), (t.put k).keys.Perm (k :: t.keys)
  | .nil, k => by simp [put, keys]
  | .nd l j r, k => by
    unfold put
    split
    · have := (put_perm l k).append_right (j :: r.keys)
      simpa [keys] using this
    · have := (put_perm r k)
      refine (List.Perm.append_left l.keys (this.cons j)).trans ?_
      refine (List.Perm.append_left l.keys (List.Perm.swap k j r.keys)).trans ?_
      exact List.perm_middle
theorem put_size (t : Tr) (k : Int) : (t.put k).size = t.size + 1 := by
  rw [← keys_len, ← keys_len, (put_perm t k).length_eq]; rfl
/-- rising -/
abbrev Up (ks : List Int) : Prop := ks.Pairwise (· ≤ ·)
theorem uniq {as bs : List Int} (p : as.Perm bs) (h1 : Up as) (h2 : Up bs) : as = bs := List.Perm.eq_of_pairwise (le := (· ≤ ·)) (fun a b _ _ h h' => Int.le_antisymm h h') h1 h2 p
theorem put_up : ∀ (t : Tr) (k : Int), Up t.keys → Up (t.put k).keys
  | .nil, k, _ => by simp [put, keys, Up]
  | .nd l j r, k, h => by
    have h' := h
    unfold Up keys at h
    rw [List.pairwise_append, List.pairwise_cons] at h
    obtain ⟨h1, ⟨h2, h3⟩, h4⟩ := h
    unfold put
    split
    · rename_i c
      unfold Up keys
      rw [List.pairwise_append, List.pairwise_cons]
      refine ⟨put_up l k h1, ⟨h2, h3⟩, fun a ha b hb => ?_⟩
      rcases List.mem_cons.mp ((put_perm l k).mem_iff.mp ha) with e | e
      · subst e
        rcases List.mem_cons.mp hb with e | e
        · omega
        · have := h2 b e; omega
      · exact h4 a e b hb
    · rename_i c
      unfold Up keys
      rw [List.pairwise_append, List.pairwise_cons]
      refine ⟨h1, ⟨fun a ha => ?_, put_up r k h3⟩, fun a ha b hb => ?_⟩
      · rcases List.mem_cons.mp ((put_perm r k).mem_iff.mp ha) with e | e
        · omega
        · exact h2 a e
      · rcases List.mem_cons.mp hb with e | e
        · subst e; exact h4 a ha _ List.mem_cons_self
        · rcases List.mem_cons.mp ((put_perm r k).mem_iff.mp e) with e | e
          · subst e; have := h4 a ha j List.mem_cons_self; omega
          · exact h4 a ha b (List.mem_cons_of_mem _ e)
/-! trees as data -/
def td : Tr → PyData
  | .nil => .none
  | .nd l k r => .tuple [l.td, .int k, r.td]
theorem pd_tv : ∀ t : Tr, pd t.tv = some t.td
  | .nil => rfl
  | .nd l k r => by simp [tv, td, pd, pds, pd_tv l, pd_tv r]
theorem td_lay : ∀ t : Tr, t.td.canLay0 = true
  | .nil => rfl
  | .nd l k r => by simp [td, PyData.canLay0, PyData.canLayAll0, td_lay l, td_lay r]
theorem td_depth : ∀ t : Tr, t.td.depth = t.ht
  | .nil => rfl
  | .nd l k r => by simp [td, PyData.depth, PyData.depthAll, td_depth l, td_depth r, ht]; omega
theorem td_eqv : ∀ s t : Tr, PyData.eqv s.td t.td = decide (s = t)
  | .nil, .nil => rfl
  | .nil, .nd _ _ _ => rfl
  | .nd _ _ _, .nil => rfl
  | .nd l k r, .nd l' k' r' => by
    simp only [td, PyData.eqv, PyData.eqvAll, td_eqv l l', td_eqv r r']
    by_cases h1 : l = l' <;> by_cases h2 : k = k' <;> by_cases h3 : r = r' <;> simp [h1, h2, h3]
end Tr
theorem mapO_map {α β γ : Type} (f : β → Option γ) (g : α → β) (k : α → γ) (h : ∀ x, f (g x) = some (k x)) : ∀ xs : List α, mapO f (xs.map g) = some (xs.map k)
  | [] => rfl
  | x :: xs => by simp only [List.map_cons, mapO, h, mapO_map f g k h xs]
theorem lay_map {α : Type} (k : α → PyData) (xs : List α) (h : ∀ x ∈ xs, (k x).canLay0 = true) : PyData.canLayAll0 (xs.map k) = true := by
  induction xs with
  | nil => rfl
  | cons x xs ih => simp only [List.map_cons, PyData.canLayAll0, h x List.mem_cons_self, ih (fun y hy => h y (List.mem_cons_of_mem _ hy)), Bool.and_self]
theorem depth_map {α : Type} (k : α → PyData) (n : Nat) (xs : List α) (h : ∀ x ∈ xs, (k x).depth ≤ n) : PyData.depthAll (xs.map k) ≤ n := by
  induction xs with
  | nil => exact Nat.zero_le _
  | cons x xs ih =>
    have h1 := h x List.mem_cons_self
    have h2 := ih fun y hy => h y (List.mem_cons_of_mem _ hy)
    simp only [List.map_cons, PyData.depthAll]; omega
/-- a live list of data against [] -/
theorem w_neT0 {h : Hq} {Q : QV} {a : Addr} {α : Type} {g : α → Val} {k : α → PyData} {xs : List α} (e : h a = some (.lst (xs.map g))) (hd : ∀ x, dt1 h (g x) = some (k x)) (hl : ∀ x ∈ xs, (k x).canLay0 = true ∧ (k x).depth ≤ 63) :
    prW (cmpR .ne (.ref a) (.fl []) h) Q = Q (.bl (!decide (xs = []))) h := by
  have d1 : dt h (.ref a) = some (.list (xs.map k)) := by simp only [dt, e, mapO_map _ _ _ hd, Option.map_some]
  have s1 : SeqAt.shaped (.list (xs.map k)) = true := by
    have h1 := lay_map k xs fun x hx => (hl x hx).1
    have h2 := depth_map k 63 xs fun x hx => (hl x hx).2
    simp [SeqAt.shaped, PyData.canLay0, PyData.depth, h1]; omega
  have s2 : SeqAt.shaped (.list []) = true := rfl
  have e2 : PyData.eqv (.list (xs.map k)) (.list []) = decide (xs = []) := by cases xs <;> simp [PyData.eqv, PyData.eqvAll]
  simp only [cmpR, eqR, d1, dt_nil, prW, optW_some, Out.w, s1, s2, e2, and_self, true_and, if_true]
theorem sortI_up' (ns : List Int) : (sortI ns).Pairwise (· ≤ ·) := by
  have := List.pairwise_mergeSort (le := fun (a b : Int) => decide (a ≤ b)) (fun a b c h1 h2 => by simp at *; omega) (fun a b => by simp; omega) ns
  exact this.imp (fun h => by simpa using h)
theorem sortI_is {as bs : List Int} (p : as.Perm bs) (h : Tr.Up bs) : sortI as = bs := Tr.uniq ((List.mergeSort_perm _ _).trans p) (sortI_up' as) h
end L3

set_option Elab.async false
set_option linter.all false
set_option maxRecDepth 100000
namespace L3
open PySem PySem.Spec PyProof.Rows L2
def f_kids_of : Nat := 1000
def f_mark_by : Nat := 1001
def f_mark_all : Nat := 1004
def f_keys_of : Nat := 1008
def f_marks_known : Nat := 1009
def f_marks : Nat := 1012
def f_marks_L : Nat := 1014
def e_kids_of_1 : Ex := (.var 1)
def p_kids_of_1 : Ex := (.cmp .isnot (.var 1) .non)
def d_kids_of : Df := ⟨1, 2, (.cons (.ret (.comp true e_kids_of_1 (.name 1) (.seq (.tup (.cons (.idx (.var 0) (.int 0)) (.cons (.idx (.var 0) (.int 2)) .nil)))) p_kids_of_1 [1])) .nil)⟩
-- ['tree', 'side']
def e_mark_by_1 : Ex := (.idx (.var 3) (.int 0))
def e_mark_by_2 : Ex := (.idx (.var 3) (.int 1))
def p_mark_by_2 : Ex := (.cmp .eq (.idx (.var 3) (.int 0)) (.var 2))
def d_mark_by : Df := ⟨2, 5, (.cons (.ite (.cmp .eq (.var 1) (.lst true .nil)) (.cons (.ret (.tup (.cons (.int 1) (.cons (.int 1) .nil)))) .nil) .nil) (.cons (.asg (.name 2) (.blt .max true (.cons (.comp true e_mark_by_1 (.name 3) (.seq (.var 1)) .nop [3]) .nil))) (.cons (.asg (.name 4) (.bin .add true (.int 1) (.blt .sum true (.cons (.comp true e_mark_by_2 (.name 3) (.seq (.var 1)) p_mark_by_2 [3]) .nil)))) (.cons (.ite (.cmp .le (.var 4) (.var 0)) (.cons (.ret (.tup (.cons (.var 2) (.cons (.var 4) .nil)))) .nil) .nil) (.cons (.ret (.tup (.cons (.bin .add true (.var 2) (.int 1)) (.cons (.int 1) .nil)))) .nil)))))⟩
-- ['room', 'kids', 'level', 'mark', 'size']
def b_mark_all_1 : Sms := (.cons (.ex (.call f_mark_all (.cons (.var 3) (.cons (.var 1) (.cons (.var 2) .nil))))) .nil)
def e_mark_all_1 : Ex := (.idx (.var 2) (.idx (.var 4) (.int 1)))
def c_mark_all_1 : Sms := (.cons (.asgI (.var 2) (.idx (.var 0) (.int 1)) (.call f_mark_by (.cons (.var 1) (.cons (.comp true e_mark_all_1 (.name 4) (.seq (.call f_kids_of (.cons (.var 0) .nil))) .nop [4]) .nil)))) .nil)
def d_mark_all : Df := ⟨3, 5, (.cons (.ite (.cmp .isnot (.var 0) .non) (.cons (.for (.name 3) (.seq (.tup (.cons (.idx (.var 0) (.int 0)) (.cons (.idx (.var 0) (.int 2)) .nil)))) b_mark_all_1) c_mark_all_1) .nil) .nil)⟩
-- ['tree', 'room', 'found', 'side', 'kid']
def d_keys_of : Df := ⟨1, 4, (.cons (.ite (.cmp .is (.var 0) .non) (.cons (.ret (.lst true .nil)) .nil) .nil) (.cons (.asg (.names [1, 2, 3]) (.var 0)) (.cons (.ret (.bin .add true (.bin .add true (.call f_keys_of (.cons (.var 1) .nil)) (.lst true (.cons (.var 2) .nil))) (.call f_keys_of (.cons (.var 3) .nil)))) .nil)))⟩
-- ['tree', 'left', 'key', 'right']
def d_marks_known : Df := ⟨2, 3, (.cons (.asg (.name 2) (.dic0 false)) (.cons (.ex (.call f_mark_all (.cons (.var 0) (.cons (.var 1) (.cons (.var 2) .nil))))) (.cons (.ret (.frz (.var 2))) .nil)))⟩
-- ['tree', 'room', 'found']
def e_marks_1 : Ex := (.tup (.cons (.var 3) (.cons (.idx (.idx (.var 2) (.var 3)) (.int 0)) (.cons (.idx (.idx (.var 2) (.var 3)) (.int 1)) .nil))))
def d_marks : Df := ⟨2, 4, (.cons (.asg (.name 2) (.call f_marks_known (.cons (.var 0) (.cons (.var 1) .nil)))) (.cons (.ret (.comp true e_marks_1 (.name 3) (.seq (.call f_keys_of (.cons (.var 0) .nil))) .nop [3])) .nil))⟩
-- ['tree', 'room', 'known', 'key']
def e_marks_L_1 : Ex := (.tup (.cons (.var 3) (.cons (.idx (.idx (.var 2) (.var 3)) (.int 0)) (.cons (.idx (.idx (.var 2) (.var 3)) (.int 1)) .nil))))
def d_marks_L : Df := ⟨2, 4, (.cons (.asg (.name 2) (.call f_marks_known (.cons (.var 0) (.cons (.var 1) .nil)))) (.cons (.ret (.comp false e_marks_L_1 (.name 3) (.seq (.call f_keys_of (.cons (.var 0) .nil))) .nop [3])) .nil))⟩
-- ['tree', 'room', 'known', 'key']
end L3

set_option Elab.async false
set_option linter.all false
set_option maxRecDepth 100000
namespace L3
open PySem PySem.Spec PyProof.Rows L2
def f_is_whole : Nat := 1049
def f_is_knot : Nat := 1050
def f_has_form : Nat := 1051
def f_read_key : Nat := 1161
def f_show_page : Nat := 1166
def f_read_page : Nat := 1165
def f_is_tree : Nat := 1053
def f_tree_at : Nat := 1148
def f_law_is_key : Nat := 1265
def f_law_items : Nat := 1266
def f_law_word : Nat := 1267
def f_show_layout : Nat := 1170
def f_read_layout : Nat := 1168
def f_law_layout_of : Nat := 1268
def f_show_tree : Nat := 1163
def f_read_tree : Nat := 1162
def f_law_tree_of : Nat := 1269
def f_law_refused : Nat := 1205
def f_law_bent : Nat := 1028
def f_law_right : Nat := 1013
def f_law_layout_text : Nat := 1270
def f_law_tree_text : Nat := 1247
def f_law_draw : Nat := 1015
def f_law_pen_L : Nat := 1017
def f_law : Nat := 1018
def d_is_whole : Df := ⟨1, 1, (.cons (.ret (.bop true (.cons (.blt (.isi [.int]) true (.cons (.var 0) .nil)) (.cons (.not (.blt (.isi [.bool]) true (.cons (.var 0) .nil))) .nil)))) .nil)⟩
-- ['thing']
def d_is_knot : Df := ⟨1, 1, (.cons (.ret (.bop true (.cons (.blt (.isi [.tuple]) true (.cons (.var 0) .nil)) (.cons (.cmp .eq (.blt .len true (.cons (.var 0) .nil)) (.int 3)) (.cons (.call f_is_whole (.cons (.idx (.var 0) (.int 1)) .nil)) .nil))))) .nil)⟩
-- ['thing']
def b_has_form_1 : Sms := (.cons (.asg (.name 3) (.mth .pop (.var 1) .nil)) (.cons (.ite (.cmp .isnot (.var 3) .non) (.cons (.ite (.bop false (.cons (.not (.call f_is_knot (.cons (.var 3) .nil))) (.cons (.cmp .eq (.var 2) (.con ⟨#[77, 79, 83, 84, 95, 75, 69, 89, 83, 95, 116, 114, 101, 101, 115]⟩ (.int 60))) .nil))) (.cons (.kill 1) (.cons (.ret (.bl false)) .nil)) .nil) (.cons (.asg (.name 2) (.bin .add true (.var 2) (.int 1))) (.cons (.ex (.mth .extend (.var 1) (.cons (.lst true (.cons (.idx (.var 3) (.int 0)) (.cons (.idx (.var 3) (.int 2)) .nil))) .nil))) .nil))) .nil) .nil))
def t_has_form_1 : Ex := (.cmp .ne (.var 1) (.lst true .nil))
def c_has_form_1 : Sms := (.cons (.kill 1) (.cons (.ret (.bl true)) .nil))
def d_has_form : Df := ⟨1, 4, (.cons (.asg (.name 1) (.lst false (.cons (.var 0) .nil))) (.cons (.asg (.name 2) (.int 0)) (.cons (.whl t_has_form_1 b_has_form_1) c_has_form_1)))⟩
-- ['thing', 'waiting', 'many', 'one']
def b_read_key_1 : Sms := (.cons (.ite (.cmp .notin (.var 2) (.con ⟨#[70, 73, 71, 85, 82, 69, 83]⟩ (.str ⟨#[48, 49, 50, 51, 52, 53, 54, 55, 56, 57]⟩))) (.cons (.raise 6) .nil) .nil) .nil)
def c_read_key_1 : Sms := (.cons (.ret (.blt .int true (.cons (.var 0) .nil))) .nil)
def c_read_key_2 : Sms := (.cons (.for (.name 2) (.chars (.var 1)) b_read_key_1) c_read_key_1)
def c_read_key_3 : Sms := (.cons (.ite (.bop false (.cons (.not (.chain .le .le (.int 1) (.blt .len true (.cons (.var 1) .nil)) (.con ⟨#[77, 79, 83, 84, 95, 70, 73, 71, 85, 82, 69, 83]⟩ (.int 60)))) (.cons (.bop true (.cons (.cmp .eq (.idx (.var 1) (.int 0)) (.str ⟨#[48]⟩)) (.cons (.cmp .ne (.var 0) (.str ⟨#[48]⟩)) .nil))) .nil))) (.cons (.raise 6) .nil) .nil) c_read_key_2)
def c_read_key_4 : Sms := (.cons (.ite (.cmp .eq (.slc true (.var 0) .nop (.int 1)) (.str ⟨#[45]⟩)) (.cons (.asg (.name 1) (.slc true (.var 0) (.int 1) .nop)) .nil) .nil) c_read_key_3)
def d_read_key : Df := ⟨1, 3, (.cons (.asg (.name 1) (.var 0)) c_read_key_4)⟩
-- ['text', 'figures', 'sign']
def e_show_page_1 : Ex := (.blt .str true (.cons (.var 1) .nil))
def d_show_page : Df := ⟨1, 2, (.cons (.ret (.mth .sjoin (.str ⟨#[32]⟩) (.cons (.comp true e_show_page_1 (.name 1) (.seq (.var 0)) .nop [1]) .nil))) .nil)⟩
-- ['page', 'key']
def e_read_page_1 : Ex := (.call f_read_key (.cons (.var 1) .nil))
def c_read_page_1 : Sms := (.cons (.retX true e_read_page_1 (.name 1) (.seq (.mth .ssplit (.var 0) (.cons (.str ⟨#[32]⟩) .nil))) [1]) .nil)
def d_read_page : Df := ⟨1, 2, (.cons (.ite (.cmp .eq (.var 0) (.str ⟨#[]⟩)) (.cons (.ret (.lst true .nil)) .nil) .nil) c_read_page_1)⟩
-- ['text', 'word']
def e_is_tree_1 : Ex := (.cmp .lt (.var 2) (.var 3))
def d_is_tree : Df := ⟨1, 4, (.cons (.ite (.not (.call f_has_form (.cons (.var 0) .nil))) (.cons (.ret (.bl false)) .nil) .nil) (.cons (.asg (.name 1) (.call f_keys_of (.cons (.var 0) .nil))) (.cons (.ret (.blt .all true (.cons (.comp true e_is_tree_1 (.names [2, 3]) (.zip (.var 1) (.slc true (.var 1) (.int 1) .nop)) .nop [2, 3]) .nil))) .nil)))⟩
-- ['thing', 'keys', 'one', 'other']
def c_tree_at_1 : Sms := (.cons (.ret (.tup (.cons (.tup (.cons (.var 4) (.cons (.var 6) (.cons (.var 7) .nil)))) (.cons (.bin .add true (.var 1) (.int 1)) .nil)))) .nil)
def c_tree_at_2 : Sms := (.cons (.ite (.cmp .ne (.slc true (.var 0) (.var 1) (.bin .add true (.var 1) (.int 1))) (.str ⟨#[41]⟩)) (.cons (.raise 6) .nil) .nil) c_tree_at_1)
def c_tree_at_3 : Sms := (.cons (.asg (.names [7, 1]) (.call f_tree_at (.cons (.var 0) (.cons (.bin .add true (.var 5) (.int 1)) (.cons (.bin .sub true (.var 2) (.int 1)) .nil))))) c_tree_at_2)
def c_tree_at_4 : Sms := (.cons (.asg (.name 6) (.call f_read_key (.cons (.slc true (.var 0) (.bin .add true (.var 1) (.int 1)) (.var 5)) .nil))) c_tree_at_3)
def c_tree_at_5 : Sms := (.cons (.ite (.bop false (.cons (.cmp .ne (.slc true (.var 0) (.var 1) (.bin .add true (.var 1) (.int 1))) (.str ⟨#[32]⟩)) (.cons (.cmp .lt (.var 5) (.int 0)) .nil))) (.cons (.raise 6) .nil) .nil) c_tree_at_4)
def c_tree_at_6 : Sms := (.cons (.asg (.name 5) (.mth .sfind (.var 0) (.cons (.str ⟨#[32]⟩) (.cons (.bin .add true (.var 1) (.int 1)) .nil)))) c_tree_at_5)
def c_tree_at_7 : Sms := (.cons (.asg (.names [4, 1]) (.call f_tree_at (.cons (.var 0) (.cons (.bin .add true (.var 1) (.int 1)) (.cons (.bin .sub true (.var 2) (.int 1)) .nil))))) c_tree_at_6)
def c_tree_at_8 : Sms := (.cons (.ite (.bop false (.cons (.cmp .ne (.var 3) (.str ⟨#[40]⟩)) (.cons (.cmp .eq (.var 2) (.int 0)) .nil))) (.cons (.raise 6) .nil) .nil) c_tree_at_7)
def c_tree_at_9 : Sms := (.cons (.ite (.cmp .eq (.var 3) (.con ⟨#[69, 77, 80, 84, 89]⟩ (.str ⟨#[46]⟩))) (.cons (.ret (.tup (.cons .non (.cons (.bin .add true (.var 1) (.int 1)) .nil)))) .nil) .nil) c_tree_at_8)
def d_tree_at : Df := ⟨3, 8, (.cons (.asg (.name 3) (.slc true (.var 0) (.var 1) (.bin .add true (.var 1) (.int 1)))) c_tree_at_9)⟩
-- ['text', 'at', 'deep', 'sign', 'left', 'end', 'key', 'right']
def e_law_is_key_1 : Ex := (.var 2)
def p_law_is_key_1 : Ex := (.cmp .notin (.var 2) (.str ⟨#[48, 49, 50, 51, 52, 53, 54, 55, 56, 57]⟩))
def c_law_is_key_1 : Sms := (.cons (.ret (.bop false (.cons (.cmp .eq (.var 0) (.str ⟨#[48]⟩)) (.cons (.cmp .ne (.idx (.var 1) (.int 0)) (.str ⟨#[48]⟩)) .nil)))) .nil)
def c_law_is_key_2 : Sms := (.cons (.ite (.bop false (.cons (.cmp .eq (.blt .len true (.cons (.var 1) .nil)) (.int 0)) (.cons (.cmp .gt (.blt .len true (.cons (.var 1) .nil)) (.int 60)) (.cons (.cmp .gt (.blt .len true (.cons (.comp true e_law_is_key_1 (.name 2) (.chars (.var 1)) p_law_is_key_1 [2]) .nil)) (.int 0)) .nil)))) (.cons (.ret (.bl false)) .nil) .nil) c_law_is_key_1)
def c_law_is_key_3 : Sms := (.cons (.ite (.cmp .eq (.slc true (.var 0) .nop (.int 1)) (.str ⟨#[45]⟩)) (.cons (.asg (.name 1) (.slc true (.var 0) (.int 1) .nop)) .nil) .nil) c_law_is_key_2)
def d_law_is_key : Df := ⟨1, 3, (.cons (.asg (.name 1) (.var 0)) c_law_is_key_3)⟩
-- ['_law_word_here', '_law_figures', '_law_sign']
def c_law_items_1 : Sms := (.cons (.asg (.name 2) (.str ⟨#[]⟩)) .nil)
def c_law_items_2 : Sms := (.cons (.ex (.mth .append (.var 1) (.cons (.var 3) .nil))) c_law_items_1)
def b_law_items_1 : Sms := (.cons (.ite (.cmp .notin (.var 3) (.str ⟨#[40, 41, 46, 32]⟩)) (.cons (.asg (.name 2) (.bin .add true (.var 2) (.var 3))) .nil) (.cons (.ite (.cmp .ne (.var 2) (.str ⟨#[]⟩)) (.cons (.ex (.mth .append (.var 1) (.cons (.var 2) .nil))) .nil) .nil) c_law_items_2)) .nil)
def c_law_items_3 : Sms := (.cons (.ret (.bin .add true (.var 1) (.bin .mul true (.lst true (.cons (.var 2) .nil)) (.blt .int true (.cons (.cmp .ne (.var 2) (.str ⟨#[]⟩)) .nil))))) .nil)
def c_law_items_4 : Sms := (.cons (.for (.name 3) (.chars (.var 0)) b_law_items_1) c_law_items_3)
def c_law_items_5 : Sms := (.cons (.asg (.name 2) (.str ⟨#[]⟩)) c_law_items_4)
def d_law_items : Df := ⟨1, 4, (.cons (.asg (.name 1) (.lst false .nil)) c_law_items_5)⟩
-- ['_law_text', '_law_items_here', '_law_word_here', '_law_sign']
def c_law_word_1 : Sms := (.cons (.ret (.idx (.var 1) (.call f_law_draw (.cons (.var 0) (.cons (.blt .len true (.cons (.var 1) .nil)) .nil))))) .nil)
def c_law_word_2 : Sms := (.cons (.asg (.name 1) (.bin .add true (.var 1) (.lst true (.cons (.bin .mul true (.str ⟨#[57]⟩) (.int 60)) (.cons (.bin .mul true (.str ⟨#[57]⟩) (.int 61)) (.cons (.bin .add true (.str ⟨#[45]⟩) (.bin .mul true (.str ⟨#[49]⟩) (.int 60))) (.cons (.bin .add true (.str ⟨#[45]⟩) (.bin .mul true (.str ⟨#[49]⟩) (.int 61))) (.cons (.str ⟨#[49, 44, 50]⟩) (.cons (.str ⟨#[91, 93]⟩) (.cons (.bin .mul true (.str ⟨#[40]⟩) (.int 90)) (.cons (.str ⟨#[49, 101, 51]⟩) .nil))))))))))) c_law_word_1)
def c_law_word_3 : Sms := (.cons (.asg (.name 1) (.bin .add true (.var 1) (.lst true (.cons (.str ⟨#[124]⟩) (.cons (.str ⟨#[124, 124]⟩) (.cons (.str ⟨#[32, 124]⟩) (.cons (.str ⟨#[124, 32]⟩) (.cons (.str ⟨#[45]⟩) (.cons (.str ⟨#[45, 48]⟩) (.cons (.str ⟨#[48, 48]⟩) (.cons (.str ⟨#[48, 49]⟩) (.cons (.str ⟨#[45, 48, 49]⟩) (.cons (.str ⟨#[43, 49]⟩) (.cons (.str ⟨#[49, 46, 48]⟩) (.cons (.str ⟨#[49, 95, 48]⟩) (.cons (.str ⟨#[48]⟩) (.cons (.str ⟨#[45, 55]⟩) (.cons (.str ⟨#[53]⟩) (.cons (.str ⟨#[120]⟩) (.cons (.str ⟨#[78, 111, 110, 101]⟩) .nil)))))))))))))))))))) c_law_word_2)
def d_law_word : Df := ⟨1, 2, (.cons (.asg (.name 1) (.lst true (.cons (.str ⟨#[]⟩) (.cons (.str ⟨#[32]⟩) (.cons (.str ⟨#[32, 32]⟩) (.cons (.str ⟨#[46]⟩) (.cons (.str ⟨#[46, 46]⟩) (.cons (.str ⟨#[40]⟩) (.cons (.str ⟨#[41]⟩) (.cons (.str ⟨#[40, 41]⟩) (.cons (.str ⟨#[40, 46, 32, 46, 41]⟩) (.cons (.str ⟨#[40, 46, 32, 53, 32, 46, 41]⟩) (.cons (.str ⟨#[40, 32, 46, 32, 53, 32, 46, 41]⟩) (.cons (.str ⟨#[40, 46, 32, 32, 53, 32, 46, 41]⟩) (.cons (.str ⟨#[40, 46, 32, 53, 32, 46, 32, 41]⟩) (.cons (.str ⟨#[40, 46, 32, 53, 46, 41]⟩) .nil)))))))))))))))) c_law_word_3)⟩
-- ['_law_pen_here', '_law_some']
def e_show_layout_1 : Ex := (.call f_show_page (.cons (.var 1) .nil))
def d_show_layout : Df := ⟨1, 2, (.cons (.ret (.mth .sjoin (.str ⟨#[124]⟩) (.cons (.comp true e_show_layout_1 (.name 1) (.seq (.var 0)) .nop [1]) .nil))) .nil)⟩
-- ['layout', 'page']
def e_read_layout_1 : Ex := (.call f_read_page (.cons (.var 2) .nil))
def e_read_layout_2 : Ex := (.blt .len true (.cons (.var 3) .nil))
def c_read_layout_1 : Sms := (.cons (.ret (.var 1)) .nil)
def c_read_layout_2 : Sms := (.cons (.ite (.bop false (.cons (.cmp .gt (.blt .len true (.cons (.var 1) .nil)) (.con ⟨#[77, 79, 83, 84, 95, 75, 69, 89, 83, 95, 116, 101, 120, 116, 115]⟩ (.int 60))) (.cons (.cmp .gt (.blt .sum true (.cons (.comp true e_read_layout_2 (.name 3) (.seq (.var 1)) .nop [3]) .nil)) (.con ⟨#[77, 79, 83, 84, 95, 75, 69, 89, 83, 95, 116, 101, 120, 116, 115]⟩ (.int 60))) .nil))) (.cons (.raise 6) .nil) .nil) c_read_layout_1)
def c_read_layout_3 : Sms := (.cons (.asgX 1 true e_read_layout_1 (.name 2) (.seq (.mth .ssplit (.var 0) (.cons (.str ⟨#[124]⟩) .nil))) [2]) c_read_layout_2)
def c_read_layout_4 : Sms := (.cons (.ite (.cmp .eq (.var 0) (.str ⟨#[]⟩)) (.cons (.ret (.lst true .nil)) .nil) .nil) c_read_layout_3)
def d_read_layout : Df := ⟨1, 4, (.cons (.ite (.not (.blt (.isi [.str]) true (.cons (.var 0) .nil))) (.cons (.raise 6) .nil) .nil) c_read_layout_4)⟩
-- ['text', 'layout', 'part', 'page']
def e_law_layout_of_1 : Ex := (.var 4)
def p_law_layout_of_1 : Ex := (.not (.call f_law_is_key (.cons (.var 4) .nil)))
def c_law_layout_of_1 : Sms := (.cons (.ret (.lst true .nil)) .nil)
def e_law_layout_of_2 : Ex := (.blt .int true (.cons (.var 4) .nil))
def c_law_layout_of_2 : Sms := (.cons (.ex (.mth .append (.var 1) (.cons (.comp true e_law_layout_of_2 (.name 4) (.seq (.var 3)) .nop [4]) .nil))) .nil)
def c_law_layout_of_3 : Sms := (.cons (.ite (.cmp .ne (.comp true e_law_layout_of_1 (.name 4) (.seq (.var 3)) p_law_layout_of_1 [4]) (.lst true .nil)) (.cons (.kill 1) c_law_layout_of_1) .nil) c_law_layout_of_2)
def c_law_layout_of_4 : Sms := (.cons (.ite (.cmp .eq (.var 2) (.str ⟨#[]⟩)) (.cons (.asg (.name 3) (.lst true .nil)) .nil) .nil) c_law_layout_of_3)
def b_law_layout_of_1 : Sms := (.cons (.asg (.name 3) (.mth .ssplit (.var 2) (.cons (.str ⟨#[32]⟩) .nil))) c_law_layout_of_4)
def e_law_layout_of_3 : Ex := (.blt .len true (.cons (.var 5) .nil))
def c_law_layout_of_5 : Sms := (.cons (.ret (.lst true (.cons (.var 1) .nil))) .nil)
def c_law_layout_of_6 : Sms := (.cons (.ite (.bop false (.cons (.cmp .gt (.blt .len true (.cons (.var 1) .nil)) (.int 60)) (.cons (.cmp .gt (.blt .sum true (.cons (.comp true e_law_layout_of_3 (.name 5) (.seq (.var 1)) .nop [5]) .nil)) (.int 60)) .nil))) (.cons (.ret (.lst true .nil)) .nil) .nil) c_law_layout_of_5)
def c_law_layout_of_7 : Sms := (.cons (.fzv 1) c_law_layout_of_6)
def c_law_layout_of_8 : Sms := (.cons (.for (.name 2) (.seq (.mth .ssplit (.var 0) (.cons (.str ⟨#[124]⟩) .nil))) b_law_layout_of_1) c_law_layout_of_7)
def c_law_layout_of_9 : Sms := (.cons (.asg (.name 1) (.lst false .nil)) c_law_layout_of_8)
def d_law_layout_of : Df := ⟨1, 6, (.cons (.ite (.cmp .eq (.var 0) (.str ⟨#[]⟩)) (.cons (.ret (.lst true (.cons (.lst true .nil) .nil))) .nil) .nil) c_law_layout_of_9)⟩
-- ['_law_text', '_law_layout', '_law_part', '_law_words', '_law_word_here', '_law_page']
def d_show_tree : Df := ⟨1, 1, (.cons (.ite (.cmp .is (.var 0) .non) (.cons (.ret (.con ⟨#[69, 77, 80, 84, 89]⟩ (.str ⟨#[46]⟩))) .nil) .nil) (.cons (.ret (.bin .add true (.bin .add true (.bin .add true (.bin .add true (.bin .add true (.bin .add true (.str ⟨#[40]⟩) (.call f_show_tree (.cons (.idx (.var 0) (.int 0)) .nil))) (.str ⟨#[32]⟩)) (.blt .str true (.cons (.idx (.var 0) (.int 1)) .nil))) (.str ⟨#[32]⟩)) (.call f_show_tree (.cons (.idx (.var 0) (.int 2)) .nil))) (.str ⟨#[41]⟩))) .nil))⟩
-- ['tree']
def c_read_tree_1 : Sms := (.cons (.ret (.var 1)) .nil)
def c_read_tree_2 : Sms := (.cons (.ite (.bop false (.cons (.cmp .lt (.var 2) (.blt .len true (.cons (.var 0) .nil))) (.cons (.not (.call f_is_tree (.cons (.var 1) .nil))) .nil))) (.cons (.raise 6) .nil) .nil) c_read_tree_1)
def c_read_tree_3 : Sms := (.cons (.asg (.names [1, 2]) (.call f_tree_at (.cons (.var 0) (.cons (.int 0) (.cons (.con ⟨#[77, 79, 83, 84, 95, 75, 69, 89, 83, 95, 116, 101, 120, 116, 115]⟩ (.int 60)) .nil))))) c_read_tree_2)
def d_read_tree : Df := ⟨1, 3, (.cons (.ite (.not (.blt (.isi [.str]) true (.cons (.var 0) .nil))) (.cons (.raise 6) .nil) .nil) c_read_tree_3)⟩
-- ['text', 'tree', 'at']
def c_law_tree_of_1 : Sms := (.cons (.ite (.bop true (.cons (.cmp .eqd (.lst true (.cons (.var 4) (.cons (.var 6) (.cons (.var 8) .nil)))) (.lst true (.cons (.str ⟨#[40]⟩) (.cons (.str ⟨#[32]⟩) (.cons (.str ⟨#[32]⟩) .nil))))) (.cons (.blt (.isi [.list]) true (.cons (.var 5) .nil)) (.cons (.blt (.isi [.list]) true (.cons (.var 9) .nil)) .nil)))) (.cons (.ite (.bop true (.cons (.blt (.isi [.str]) true (.cons (.var 7) .nil)) (.cons (.call f_law_is_key (.cons (.var 7) .nil)) .nil))) (.cons (.asg (.name 1) (.bin .add false (.slc true (.var 1) .nop (.neg (.int 7))) (.lst true (.cons (.lst true (.cons (.tup (.cons (.idx (.var 5) (.int 0)) (.cons (.blt .int true (.cons (.var 7) .nil)) (.cons (.idx (.var 9) (.int 0)) .nil)))) .nil)) .nil)))) .nil) .nil) .nil) .nil) .nil)
def c_law_tree_of_2 : Sms := (.cons (.ite (.bop true (.cons (.cmp .eq (.var 3) (.str ⟨#[41]⟩)) (.cons (.cmp .gt (.blt .len true (.cons (.var 1) .nil)) (.int 6)) .nil))) (.cons (.asg (.names [4, 5, 6, 7, 8, 9]) (.slc true (.var 1) (.neg (.int 7)) (.neg (.int 1)))) c_law_tree_of_1) .nil) .nil)
def c_law_tree_of_3 : Sms := (.cons (.ite (.cmp .eq (.var 3) (.str ⟨#[46]⟩)) (.cons (.asgI (.var 1) (.neg (.int 1)) (.lst true (.cons .non .nil))) .nil) (.cons (.ite (.call f_law_is_key (.cons (.var 3) .nil)) (.cons (.ex (.mth .append (.var 2) (.cons (.blt .int true (.cons (.var 3) .nil)) .nil))) .nil) .nil) .nil)) c_law_tree_of_2)
def b_law_tree_of_1 : Sms := (.cons (.ex (.mth .append (.var 1) (.cons (.var 3) .nil))) c_law_tree_of_3)
def c_law_tree_of_4 : Sms := (.cons (.ret (.lst true (.cons (.str ⟨#[110, 111]⟩) (.cons (.str ⟨#[116, 114, 101, 101]⟩) .nil)))) .nil)
def c_law_tree_of_5 : Sms := (.cons (.kill 2) c_law_tree_of_4)
def c_law_tree_of_6 : Sms := (.cons (.ret (.frz (.var 1))) .nil)
def c_law_tree_of_7 : Sms := (.cons (.kill 2) c_law_tree_of_6)
def c_law_tree_of_8 : Sms := (.cons (.ite (.bop false (.cons (.cmp .gt (.blt .len true (.cons (.var 2) .nil)) (.int 60)) (.cons (.cmp .ne (.var 2) (.op1 .sortSet true (.var 2))) .nil))) (.cons (.kill 1) c_law_tree_of_5) .nil) c_law_tree_of_7)
def c_law_tree_of_9 : Sms := (.cons (.for (.name 3) (.seq (.call f_law_items (.cons (.var 0) .nil))) b_law_tree_of_1) c_law_tree_of_8)
def c_law_tree_of_10 : Sms := (.cons (.asg (.name 2) (.lst false .nil)) c_law_tree_of_9)
def d_law_tree_of : Df := ⟨1, 10, (.cons (.asg (.name 1) (.lst false .nil)) c_law_tree_of_10)⟩
-- ['_law_text', '_law_heap', '_law_keys', '_law_item', '_law_head', '_law_left', '_law_one', '_law_word_here', '_law_other', '_law_right_here']
def b_law_refused_1 : Sms := (.cons (.ite (.var 1) (.cons (.ex (.call f_read_layout (.cons (.var 0) .nil))) .nil) (.cons (.ex (.call f_read_tree (.cons (.var 0) .nil))) .nil)) .nil)
def c_law_refused_1 : Sms := (.cons (.ret (.bop true (.cons (.isx (.var 2) [0, 1, 2, 3, 4, 5, 6, 7] [6] false) (.cons (.isx (.var 2) [0, 1, 2, 3, 4, 5, 6, 7] [8] false) .nil)))) .nil)
def c_law_refused_2 : Sms := (.cons (.ite (.isx (.var 2) [0, 1, 2, 3, 4, 5, 6, 7] [4, 5, 7, 1, 3, 2] true) (.cons (.ret (.bl false)) .nil) .nil) c_law_refused_1)
def c_law_refused_3 : Sms := (.cons (.tryAs b_law_refused_1 [0, 1, 2, 3, 4, 5, 6, 7] 0 3 2) c_law_refused_2)
def d_law_refused : Df := ⟨2, 4, (.cons (.asg (.name 2) .non) c_law_refused_3)⟩
-- ['_law_text', '_law_is_layout', '_law_caught', 'e']
def c_law_bent_1 : Sms := (.cons (.ret (.call f_law_word (.cons (.var 0) .nil))) .nil)
def c_law_bent_2 : Sms := (.cons (.ite (.cmp .eq (.var 2) (.int 7)) (.cons (.ret (.bin .add true (.bin .add true (.slc true (.var 1) .nop (.var 3)) (.call f_law_word (.cons (.var 0) .nil))) (.slc true (.var 1) (.var 3) .nop))) .nil) .nil) c_law_bent_1)
def c_law_bent_3 : Sms := (.cons (.ite (.cmp .eq (.var 2) (.int 6)) (.cons (.ret (.mth .sjoin (.str ⟨#[32]⟩) (.cons (.bin .add true (.bin .add true (.slc true (.var 8) .nop (.var 9)) (.lst true (.cons (.call f_law_word (.cons (.var 0) .nil)) .nil))) (.slc true (.var 8) (.bin .add true (.var 9) (.int 1)) .nop)) .nil))) .nil) .nil) c_law_bent_2)
def c_law_bent_4 : Sms := (.cons (.asg (.name 9) (.call f_law_draw (.cons (.var 0) (.cons (.blt .len true (.cons (.var 8) .nil)) .nil)))) c_law_bent_3)
def c_law_bent_5 : Sms := (.cons (.asg (.name 8) (.mth .ssplit (.var 1) (.cons (.str ⟨#[32]⟩) .nil))) c_law_bent_4)
def c_law_bent_6 : Sms := (.cons (.ite (.cmp .eq (.var 2) (.int 5)) (.cons (.ret (.bin .add true (.bin .add true (.slc true (.var 1) (.var 7) .nop) (.slc true (.var 1) (.var 6) (.var 7))) (.slc true (.var 1) .nop (.var 6)))) .nil) .nil) c_law_bent_5)
def c_law_bent_7 : Sms := (.cons (.ite (.cmp .eq (.var 2) (.int 4)) (.cons (.ret (.bin .add true (.bin .add true (.slc true (.var 1) .nop (.var 7)) (.slc true (.slc true (.var 1) (.var 6) (.var 7)) .nop (.int 200))) (.slc true (.var 1) (.var 7) .nop))) .nil) .nil) c_law_bent_6)
def c_law_bent_8 : Sms := (.cons (.ite (.cmp .eq (.var 2) (.int 3)) (.cons (.ret (.bin .add true (.slc true (.var 1) .nop (.var 6)) (.slc true (.var 1) (.var 7) .nop))) .nil) .nil) c_law_bent_7)
def c_law_bent_9 : Sms := (.cons (.ite (.cmp .eq (.var 2) (.int 2)) (.cons (.ret (.bin .add true (.bin .add true (.slc true (.var 1) .nop (.var 3)) (.var 5)) (.slc true (.var 1) (.bin .add true (.var 3) (.int 1)) .nop))) .nil) .nil) c_law_bent_8)
def c_law_bent_10 : Sms := (.cons (.ite (.cmp .eq (.var 2) (.int 1)) (.cons (.ret (.bin .add true (.bin .add true (.slc true (.var 1) .nop (.var 3)) (.var 5)) (.slc true (.var 1) (.var 3) .nop))) .nil) .nil) c_law_bent_9)
def c_law_bent_11 : Sms := (.cons (.ite (.cmp .eq (.var 2) (.int 0)) (.cons (.ret (.bin .add true (.slc true (.var 1) .nop (.var 3)) (.slc true (.var 1) (.bin .add true (.var 3) (.int 1)) .nop))) .nil) .nil) c_law_bent_10)
def c_law_bent_12 : Sms := (.cons (.asg (.name 7) (.blt .max true (.cons (.var 3) (.cons (.var 4) .nil)))) c_law_bent_11)
def c_law_bent_13 : Sms := (.cons (.asg (.name 6) (.blt .min true (.cons (.var 3) (.cons (.var 4) .nil)))) c_law_bent_12)
def c_law_bent_14 : Sms := (.cons (.asg (.name 5) (.idx (.str ⟨#[48, 49, 50, 51, 52, 53, 54, 55, 56, 57, 45, 40, 41, 124, 46, 32, 97, 126]⟩) (.call f_law_draw (.cons (.var 0) (.cons (.int 18) .nil))))) c_law_bent_13)
def c_law_bent_15 : Sms := (.cons (.asg (.name 4) (.call f_law_draw (.cons (.var 0) (.cons (.bin .add true (.blt .len true (.cons (.var 1) .nil)) (.int 1)) .nil)))) c_law_bent_14)
def c_law_bent_16 : Sms := (.cons (.asg (.name 3) (.call f_law_draw (.cons (.var 0) (.cons (.bin .add true (.blt .len true (.cons (.var 1) .nil)) (.int 1)) .nil)))) c_law_bent_15)
def d_law_bent : Df := ⟨2, 10, (.cons (.asg (.name 2) (.call f_law_draw (.cons (.var 0) (.cons (.int 9) .nil)))) c_law_bent_16)⟩
-- ['_law_pen_here', '_law_text', '_law_kind', '_law_at', '_law_to', '_law_sign', '_law_low', '_law_high', '_law_words', '_law_place']
def c_law_right_1 : Sms := (.cons (.ret (.bop true (.cons (.cmp .eq (.call f_read_layout (.cons (.var 0) .nil)) (.idx (.var 1) (.int 0))) (.cons (.cmp .eq (.call f_show_layout (.cons (.idx (.var 1) (.int 0)) .nil)) (.var 0)) .nil)))) .nil)
def c_law_right_2 : Sms := (.cons (.ite (.cmp .eq (.var 1) (.lst true .nil)) (.cons (.ret (.call f_law_refused (.cons (.var 0) (.cons (.bl true) .nil)))) .nil) .nil) c_law_right_1)
def c_law_right_3 : Sms := (.cons (.asg (.name 1) (.call f_law_layout_of (.cons (.var 0) .nil))) c_law_right_2)
def c_law_right_4 : Sms := (.cons (.ite (.bop false (.cons (.cmp .ne (.blt .len true (.cons (.var 1) .nil)) (.int 1)) (.cons (.not (.blt (.isi [.list]) true (.cons (.idx (.var 1) (.int 0)) .nil))) .nil))) (.cons (.ite (.not (.call f_law_refused (.cons (.var 0) (.cons (.bl false) .nil)))) (.cons (.ret (.bl false)) .nil) .nil) .nil) (.cons (.ite (.bop false (.cons (.cmp .ne (.call f_read_tree (.cons (.var 0) .nil)) (.idx (.idx (.var 1) (.int 0)) (.int 0))) (.cons (.cmp .ne (.call f_show_tree (.cons (.idx (.idx (.var 1) (.int 0)) (.int 0)) .nil)) (.var 0)) .nil))) (.cons (.ret (.bl false)) .nil) .nil) .nil)) c_law_right_3)
def d_law_right : Df := ⟨1, 2, (.cons (.asg (.name 1) (.call f_law_tree_of (.cons (.var 0) .nil))) c_law_right_4)⟩
-- ['_law_text', '_law_due']
def e_law_layout_text_1 : Ex := (.blt .str true (.cons (.bin .sub true (.call f_law_draw (.cons (.var 0) (.cons (.int 201) .nil))) (.int 100)) .nil))
def b_law_layout_text_1 : Sms := (.cons (.ex (.mth .append (.var 2) (.cons (.mth .sjoin (.str ⟨#[32]⟩) (.cons (.comp true e_law_layout_text_1 (.name 4) (.range1 (.call f_law_draw (.cons (.var 0) (.cons (.int 4) .nil)))) .nop [4]) .nil)) .nil))) .nil)
def c_law_layout_text_1 : Sms := (.cons (.ret (.mth .sjoin (.str ⟨#[124]⟩) (.cons (.var 2) .nil))) .nil)
def c_law_layout_text_2 : Sms := (.cons (.for (.name 3) (.range1 (.var 1)) b_law_layout_text_1) c_law_layout_text_1)
def d_law_layout_text : Df := ⟨2, 5, (.cons (.asg (.name 2) (.lst false .nil)) c_law_layout_text_2)⟩
-- ['_law_pen_here', '_law_many', '_law_pages', '_law_k', '_law_j']
def c_law_tree_text_1 : Sms := (.cons (.asg (.name 4) (.bin .add true (.bin .add true (.bin .add true (.var 4) (.str ⟨#[32]⟩)) (.blt .str true (.cons (.var 2) .nil))) (.str ⟨#[32]⟩))) .nil)
def c_law_tree_text_2 : Sms := (.cons (.ex (.mth .extend (.var 5) (.cons (.lst true (.cons (.str ⟨#[41]⟩) (.cons (.bin .sub true (.bin .sub true (.var 6) (.int 1)) (.var 7)) (.cons (.neg (.int 1)) (.cons (.var 7) .nil))))) .nil))) .nil)
def c_law_tree_text_3 : Sms := (.cons (.asg (.name 4) (.bin .add true (.var 4) (.str ⟨#[40]⟩))) c_law_tree_text_2)
def c_law_tree_text_4 : Sms := (.cons (.ite (.cmp .gt (.var 3) (.int 2)) (.cons (.asg (.name 7) (.call f_law_draw (.cons (.var 0) (.cons (.var 6) .nil)))) .nil) .nil) c_law_tree_text_3)
def c_law_tree_text_5 : Sms := (.cons (.ite (.blt (.isi [.str]) true (.cons (.var 6) .nil)) (.cons (.asg (.name 4) (.bin .add true (.var 4) (.var 6))) .nil) (.cons (.ite (.cmp .eq (.var 6) (.int 0)) (.cons (.asg (.name 4) (.bin .add true (.var 4) (.str ⟨#[46]⟩))) .nil) (.cons (.ite (.cmp .lt (.var 6) (.int 0)) (.cons (.asg (.name 2) (.bin .add true (.bin .add true (.var 2) (.int 1)) (.call f_law_draw (.cons (.var 0) (.cons (.int 5) .nil))))) c_law_tree_text_1) (.cons (.asg (.name 7) (.idx (.lst true (.cons (.int 0) (.cons (.bin .sub true (.var 6) (.int 1)) (.cons (.bin .fdiv true (.var 6) (.int 2)) (.cons (.int 0) (.cons (.int 0) .nil)))))) (.var 3))) c_law_tree_text_4)) .nil)) .nil)) .nil)
def b_law_tree_text_1 : Sms := (.cons (.asg (.name 6) (.mth .pop (.var 5) .nil)) c_law_tree_text_5)
def t_law_tree_text_1 : Ex := (.cmp .ne (.var 5) (.lst true .nil))
def c_law_tree_text_6 : Sms := (.cons (.ret (.var 4)) .nil)
def c_law_tree_text_7 : Sms := (.cons (.kill 5) c_law_tree_text_6)
def c_law_tree_text_8 : Sms := (.cons (.whl t_law_tree_text_1 b_law_tree_text_1) c_law_tree_text_7)
def c_law_tree_text_9 : Sms := (.cons (.asg (.name 5) (.lst false (.cons (.var 1) .nil))) c_law_tree_text_8)
def c_law_tree_text_10 : Sms := (.cons (.asg (.name 4) (.str ⟨#[]⟩)) c_law_tree_text_9)
def c_law_tree_text_11 : Sms := (.cons (.asg (.name 3) (.call f_law_draw (.cons (.var 0) (.cons (.int 5) .nil)))) c_law_tree_text_10)
def d_law_tree_text : Df := ⟨2, 8, (.cons (.asg (.name 2) (.bin .sub true (.call f_law_draw (.cons (.var 0) (.cons (.int 2001) .nil))) (.int 1000))) c_law_tree_text_11)⟩
-- ['_law_pen_here', '_law_many', '_law_key', '_law_form', '_law_text', '_law_heap', '_law_here', '_law_left']
def c_law_draw_1 : Sms := (.cons (.ret (.var 2)) .nil)
def c_law_draw_2 : Sms := (.cons (.asgI (.var 0) (.int 0) (.bin .fdiv true (.idx (.var 0) (.int 0)) (.var 1))) c_law_draw_1)
def c_law_draw_3 : Sms := (.cons (.ret (.bin .mod true (.bin .fdiv true (.bin .mod true (.bin .mul true (.var 3) (.bin .add true (.bin .mod true (.var 3) (.int 8011)) (.int 6))) (.int 2147483587)) (.int 3)) (.var 1))) .nil)
def c_law_draw_4 : Sms := (.cons (.asg (.name 3) (.bin .mod true (.bin .mul true (.var 3) (.bin .add true (.bin .add true (.bin .mod true (.var 3) (.int 65213)) (.idx (.var 0) (.int 2))) (.int 3))) (.int 2147483647))) c_law_draw_3)
def c_law_draw_5 : Sms := (.cons (.asg (.name 3) (.bin .mod true (.bin .mul true (.bin .add true (.bin .add true (.idx (.var 0) (.int 1)) (.bin .mul true (.int 22013) (.idx (.var 0) (.int 2)))) (.int 1)) (.int 45991)) (.int 2147483563))) c_law_draw_4)
def c_law_draw_6 : Sms := (.cons (.ite (.cmp .gt (.idx (.var 0) (.int 0)) (.int 0)) (.cons (.asg (.name 2) (.bin .mod true (.idx (.var 0) (.int 0)) (.var 1))) c_law_draw_2) .nil) c_law_draw_5)
def d_law_draw : Df := ⟨2, 4, (.cons (.asgI (.var 0) (.int 2) (.bin .add true (.idx (.var 0) (.int 2)) (.int 1))) c_law_draw_6)⟩
-- ['_law_pen_here', '_law_many', '_law_drawn', '_law_number']
def c_law_pen_L_1 : Sms := (.cons (.ret (.lst false (.cons (.int 0) (.cons (.bin .add true (.bin .mod true (.var 2) (.int 2147483647)) (.bin .mul true (.int 2147483587) (.var 1))) (.cons (.int 0) .nil))))) .nil)
def c_law_pen_L_2 : Sms := (.cons (.ite (.cmp .ge (.var 2) (.bin .pow true (.int 10) (.int 18))) (.cons (.ret (.lst false (.cons (.bin .sub true (.var 2) (.bin .pow true (.int 10) (.int 18))) (.cons (.bin .mod true (.var 2) (.int 2147483647)) (.cons (.int 0) .nil))))) .nil) .nil) c_law_pen_L_1)
def c_law_pen_L_3 : Sms := (.cons (.ite (.cmp .lt (.var 1) (.blt .len true (.cons (.var 0) .nil))) (.cons (.asg (.name 2) (.idx (.var 0) (.var 1))) .nil) (.cons (.ite (.cmp .gt (.blt .len true (.cons (.var 0) .nil)) (.int 0)) (.cons (.asg (.name 2) (.bin .add true (.idx (.var 0) (.bin .mod true (.var 1) (.blt .len true (.cons (.var 0) .nil)))) (.bin .mul true (.int 88001) (.var 1)))) .nil) .nil) .nil)) c_law_pen_L_2)
def d_law_pen_L : Df := ⟨2, 3, (.cons (.asg (.name 2) (.bin .add true (.bin .mul true (.int 1013) (.var 1)) (.int 15))) c_law_pen_L_3)⟩
-- ['_law_script', '_law_k', '_law_cell']
def c_law_1 : Sms := (.cons (.ite (.not (.call f_law_right (.cons (.var 4) .nil))) (.cons (.ret (.bl false)) .nil) .nil) .nil)
def b_law_1 : Sms := (.cons (.asg (.name 4) (.call f_law_bent (.cons (.var 2) (.cons (.var 4) .nil)))) c_law_1)
def c_law_2 : Sms := (.cons (.ite (.bop false (.cons (.not (.call f_law_refused (.cons (.var 6) (.cons (.bl false) .nil)))) (.cons (.not (.call f_law_refused (.cons (.var 6) (.cons (.bl true) .nil)))) .nil))) (.cons (.ret (.bl false)) .nil) .nil) .nil)
def c_law_3 : Sms := (.cons (.asg (.name 6) (.idx (.lst true (.cons .non (.cons (.int 5) (.cons (.bl true) (.cons (.lst true (.cons (.var 4) .nil)) (.cons (.tup (.cons (.var 4) .nil)) (.cons (.dic0 true) (.cons (.int 0) (.cons (.tup (.cons .non (.cons (.int 5) (.cons .non .nil)))) .nil))))))))) (.call f_law_draw (.cons (.var 2) (.cons (.int 8) .nil))))) c_law_2)
def c_law_4 : Sms := (.cons (.for (.name 5) (.range1 (.int 2)) b_law_1) c_law_3)
def c_law_5 : Sms := (.cons (.ite (.not (.call f_law_right (.cons (.var 4) .nil))) (.cons (.ret (.bl false)) .nil) .nil) c_law_4)
def c_law_6 : Sms := (.cons (.asg (.name 4) (.idx (.lst true (.cons (.call f_law_tree_text (.cons (.var 2) (.cons (.var 3) .nil))) (.cons (.call f_law_layout_text (.cons (.var 2) (.cons (.var 3) .nil))) .nil))) (.call f_law_draw (.cons (.var 2) (.cons (.int 2) .nil))))) c_law_5)
def c_law_7 : Sms := (.cons (.asg (.name 3) (.call f_law_draw (.cons (.var 2) (.cons (.int 62) .nil)))) c_law_6)
def b_law_2 : Sms := (.cons (.asg (.name 2) (.call f_law_pen_L (.cons (.var 0) (.cons (.var 1) .nil)))) c_law_7)
def c_law_8 : Sms := (.cons (.ret (.bop true (.cons (.call f_law_right (.cons (.var 7) .nil)) (.cons (.call f_law_right (.cons (.bin .add true (.var 7) (.str ⟨#[124, 49]⟩)) .nil)) (.cons (.call f_law_right (.cons (.mth .sjoin (.str ⟨#[32]⟩) (.cons (.bin .mul true (.lst true (.cons (.str ⟨#[55]⟩) .nil)) (.int 61)) .nil)) .nil)) (.cons (.call f_law_right (.cons (.bin .mul true (.str ⟨#[124]⟩) (.int 60)) .nil)) .nil)))))) .nil)
def c_law_9 : Sms := (.cons (.asg (.name 7) (.mth .sjoin (.str ⟨#[124]⟩) (.cons (.bin .mul true (.lst true (.cons (.str ⟨#[49]⟩) .nil)) (.int 60)) .nil))) c_law_8)
def d_law : Df := ⟨1, 8, (.cons (.for (.name 1) (.range1 (.int 8)) b_law_2) c_law_9)⟩
-- ['_law_script', '_law_k', '_law_pen_here', '_law_many', '_law_text', '_law_turn', '_law_thing', '_law_great']
def top (i : Nat) : Stmt := PySem.Challenge.pw_leafpages_k48_texts_refused.main.body.getD i (.Pass ⟨0, 0, 0, 0⟩)
def D_is_whole : DD := ⟨f_is_whole, "is_whole", top 11, ["thing"], ["thing"], d_is_whole, none, "is_whole", none⟩
def D_is_knot : DD := ⟨f_is_knot, "is_knot", top 12, ["thing"], ["thing"], d_is_knot, none, "is_knot", none⟩
def D_keys_of : DD := ⟨f_keys_of, "keys_of", top 14, ["tree", "left", "key", "right"], ["tree"], d_keys_of, none, "keys_of", none⟩
def D_has_form : DD := ⟨f_has_form, "has_form", top 13, ["thing", "waiting", "many", "one"], ["thing"], d_has_form, none, "has_form", none⟩
def D_read_key : DD := ⟨f_read_key, "read_key", top 24, ["text", "figures", "sign"], ["text"], d_read_key, none, "read_key", none⟩
def D_show_page : DD := ⟨f_show_page, "show_page", top 22, ["page", "key"], ["page"], d_show_page, none, "show_page", none⟩
def D_read_page : DD := ⟨f_read_page, "read_page", top 27, ["text", "word"], ["text"], d_read_page, none, "read_page", none⟩
def D_is_tree : DD := ⟨f_is_tree, "is_tree", top 15, ["thing", "keys", "one", "other"], ["thing"], d_is_tree, none, "is_tree", none⟩
def D_tree_at : DD := ⟨f_tree_at, "tree_at", top 25, ["text", "at", "deep", "sign", "left", "end", "key", "right"], ["text", "at", "deep"], d_tree_at, none, "tree_at", none⟩
def D_law_is_key : DD := ⟨f_law_is_key, "_law_is_key", top 36, ["_law_word_here", "_law_figures", "_law_sign"], ["_law_word_here"], d_law_is_key, none, "_law_is_key", none⟩
def D_law_items : DD := ⟨f_law_items, "_law_items", top 37, ["_law_text", "_law_items_here", "_law_word_here", "_law_sign"], ["_law_text"], d_law_items, none, "_law_items", none⟩
def D_law_word : DD := ⟨f_law_word, "_law_word", top 34, ["_law_pen_here", "_law_some"], ["_law_pen_here"], d_law_word, none, "_law_word", none⟩
def D_show_layout : DD := ⟨f_show_layout, "show_layout", top 23, ["layout", "page"], ["layout"], d_show_layout, none, "show_layout", none⟩
def D_read_layout : DD := ⟨f_read_layout, "read_layout", top 28, ["text", "layout", "part", "page"], ["text"], d_read_layout, none, "read_layout", none⟩
def D_law_layout_of : DD := ⟨f_law_layout_of, "_law_layout_of", top 39, ["_law_text", "_law_layout", "_law_part", "_law_words", "_law_word_here", "_law_page"], ["_law_text"], d_law_layout_of, none, "_law_layout_of", none⟩
def D_show_tree : DD := ⟨f_show_tree, "show_tree", top 21, ["tree"], ["tree"], d_show_tree, none, "show_tree", none⟩
def D_read_tree : DD := ⟨f_read_tree, "read_tree", top 26, ["text", "tree", "at"], ["text"], d_read_tree, none, "read_tree", none⟩
def D_law_tree_of : DD := ⟨f_law_tree_of, "_law_tree_of", top 38, ["_law_text", "_law_heap", "_law_keys", "_law_item", "_law_head", "_law_left", "_law_one", "_law_word_here", "_law_other", "_law_right_here"], ["_law_text"], d_law_tree_of, none, "_law_tree_of", none⟩
def D_law_refused : DD := ⟨f_law_refused, "_law_refused", top 40, ["_law_text", "_law_is_layout", "_law_caught", "e"], ["_law_text", "_law_is_layout"], d_law_refused, none, "_law_refused", none⟩
def D_law_bent : DD := ⟨f_law_bent, "_law_bent", top 35, ["_law_pen_here", "_law_text", "_law_kind", "_law_at", "_law_to", "_law_sign", "_law_low", "_law_high", "_law_words", "_law_place"], ["_law_pen_here", "_law_text"], d_law_bent, none, "_law_bent", none⟩
def D_law_right : DD := ⟨f_law_right, "_law_right", top 41, ["_law_text", "_law_due"], ["_law_text"], d_law_right, none, "_law_right", none⟩
def D_law_layout_text : DD := ⟨f_law_layout_text, "_law_layout_text", top 33, ["_law_pen_here", "_law_many", "_law_pages", "_law_k", "_law_j"], ["_law_pen_here", "_law_many"], d_law_layout_text, none, "_law_layout_text", none⟩
def D_law_tree_text : DD := ⟨f_law_tree_text, "_law_tree_text", top 32, ["_law_pen_here", "_law_many", "_law_key", "_law_form", "_law_text", "_law_heap", "_law_here", "_law_left"], ["_law_pen_here", "_law_many"], d_law_tree_text, none, "_law_tree_text", none⟩
def D_law_draw : DD := ⟨f_law_draw, "_law_draw", top 31, ["_law_pen_here", "_law_many", "_law_drawn", "_law_number"], ["_law_pen_here", "_law_many"], d_law_draw, none, "_law_draw", none⟩
def D_law_pen_L : DD := ⟨f_law_pen_L, "_law_pen", top 30, ["_law_script", "_law_k", "_law_cell"], ["_law_script", "_law_k"], d_law_pen_L, none, "_law_pen", none⟩
def D_law : DD := ⟨f_law, "law", top 42, ["_law_script", "_law_k", "_law_pen_here", "_law_many", "_law_text", "_law_turn", "_law_thing", "_law_great"], ["_law_script"], d_law, none, "law", none⟩
def defs : List DD := [D_is_whole, D_is_knot, D_keys_of, D_has_form, D_read_key, D_show_page, D_read_page, D_is_tree, D_tree_at, D_law_is_key, D_law_items, D_law_word, D_show_layout, D_read_layout, D_law_layout_of, D_show_tree, D_read_tree, D_law_tree_of, D_law_refused, D_law_bent, D_law_right, D_law_layout_text, D_law_tree_text, D_law_draw, D_law_pen_L, D_law]
def cons3 : List (Str × Val) := [("MOST_KEYS_trees", .int 60), ("FIGURES", .str ⟨#[48, 49, 50, 51, 52, 53, 54, 55, 56, 57]⟩), ("MOST_FIGURES", .int 60), ("MOST_KEYS_texts", .int 60), ("EMPTY", .str ⟨#[46]⟩)]
theorem bind_D_is_whole : BindOk D_is_whole := fun _ _ _ _ _ _ us hl => match us, hl with | [_], _ => rfl
theorem bind_D_is_knot : BindOk D_is_knot := fun _ _ _ _ _ _ us hl => match us, hl with | [_], _ => rfl
theorem bind_D_keys_of : BindOk D_keys_of := fun _ _ _ _ _ _ us hl => match us, hl with | [_], _ => rfl
theorem bind_D_has_form : BindOk D_has_form := fun _ _ _ _ _ _ us hl => match us, hl with | [_], _ => rfl
theorem bind_D_read_key : BindOk D_read_key := fun _ _ _ _ _ _ us hl => match us, hl with | [_], _ => rfl
theorem bind_D_show_page : BindOk D_show_page := fun _ _ _ _ _ _ us hl => match us, hl with | [_], _ => rfl
theorem bind_D_read_page : BindOk D_read_page := fun _ _ _ _ _ _ us hl => match us, hl with | [_], _ => rfl
theorem bind_D_is_tree : BindOk D_is_tree := fun _ _ _ _ _ _ us hl => match us, hl with | [_], _ => rfl
theorem bind_D_tree_at : BindOk D_tree_at := fun _ _ _ _ _ _ us hl => match us, hl with | [_, _, _], _ => rfl
theorem bind_D_law_is_key : BindOk D_law_is_key := fun _ _ _ _ _ _ us hl => match us, hl with | [_], _ => rfl
theorem bind_D_law_items : BindOk D_law_items := fun _ _ _ _ _ _ us hl => match us, hl with | [_], _ => rfl
theorem bind_D_law_word : BindOk D_law_word := fun _ _ _ _ _ _ us hl => match us, hl with | [_], _ => rfl
theorem bind_D_show_layout : BindOk D_show_layout := fun _ _ _ _ _ _ us hl => match us, hl with | [_], _ => rfl
theorem bind_D_read_layout : BindOk D_read_layout := fun _ _ _ _ _ _ us hl => match us, hl with | [_], _ => rfl
theorem bind_D_law_layout_of : BindOk D_law_layout_of := fun _ _ _ _ _ _ us hl => match us, hl with | [_], _ => rfl
theorem bind_D_show_tree : BindOk D_show_tree := fun _ _ _ _ _ _ us hl => match us, hl with | [_], _ => rfl
theorem bind_D_read_tree : BindOk D_read_tree := fun _ _ _ _ _ _ us hl => match us, hl with | [_], _ => rfl
theorem bind_D_law_tree_of : BindOk D_law_tree_of := fun _ _ _ _ _ _ us hl => match us, hl with | [_], _ => rfl
theorem bind_D_law_refused : BindOk D_law_refused := fun _ _ _ _ _ _ us hl => match us, hl with | [_, _], _ => rfl
theorem bind_D_law_bent : BindOk D_law_bent := fun _ _ _ _ _ _ us hl => match us, hl with | [_, _], _ => rfl
theorem bind_D_law_right : BindOk D_law_right := fun _ _ _ _ _ _ us hl => match us, hl with | [_], _ => rfl
theorem bind_D_law_layout_text : BindOk D_law_layout_text := fun _ _ _ _ _ _ us hl => match us, hl with | [_, _], _ => rfl
theorem bind_D_law_tree_text : BindOk D_law_tree_text := fun _ _ _ _ _ _ us hl => match us, hl with | [_, _], _ => rfl
theorem bind_D_law_draw : BindOk D_law_draw := fun _ _ _ _ _ _ us hl => match us, hl with | [_, _], _ => rfl
theorem bind_D_law_pen_L : BindOk D_law_pen_L := fun _ _ _ _ _ _ us hl => match us, hl with | [_, _], _ => rfl
theorem bind_D_law : BindOk D_law := fun _ _ _ _ _ _ us hl => match us, hl with | [_], _ => rfl
theorem binds : ∀ d ∈ defs, BindOk d := by
  intro d hd
  simp only [defs, List.mem_cons, List.not_mem_nil, or_false] at hd
  rcases hd with rfl | rfl | rfl | rfl | rfl | rfl | rfl | rfl | rfl | rfl | rfl | rfl | rfl | rfl | rfl | rfl | rfl | rfl | rfl | rfl | rfl | rfl | rfl | rfl | rfl | rfl
  · exact bind_D_is_whole
  · exact bind_D_is_knot
  · exact bind_D_keys_of
  · exact bind_D_has_form
  · exact bind_D_read_key
  · exact bind_D_show_page
  · exact bind_D_read_page
  · exact bind_D_is_tree
  · exact bind_D_tree_at
  · exact bind_D_law_is_key
  · exact bind_D_law_items
  · exact bind_D_law_word
  · exact bind_D_show_layout
  · exact bind_D_read_layout
  · exact bind_D_law_layout_of
  · exact bind_D_show_tree
  · exact bind_D_read_tree
  · exact bind_D_law_tree_of
  · exact bind_D_law_refused
  · exact bind_D_law_bent
  · exact bind_D_law_right
  · exact bind_D_law_layout_text
  · exact bind_D_law_tree_text
  · exact bind_D_law_draw
  · exact bind_D_law_pen_L
  · exact bind_D_law
def tabs3 : Tbs := []
def atts3 : List (Nat × Str) := []
def exs3 : List Nat := [0, 1, 2, 3, 4, 5, 6, 7]
theorem okAll : ∀ xc : Nat → Addr, defs.all (okDD (tbOf defs (conT cons3 tabs3) xc exs3 atts3)) = true := by
  intro xc
  kernel_rfl
theorem uniq_eq : pl3 defs = [D_is_whole, D_is_knot, D_keys_of, D_has_form, D_read_key, D_show_page, D_read_page, D_is_tree, D_tree_at, D_law_is_key, D_law_items, D_law_word, D_show_layout, D_read_layout, D_law_layout_of, D_show_tree, D_read_tree, D_law_tree_of, D_law_refused, D_law_bent, D_law_right, D_law_layout_text, D_law_tree_text, D_law_draw, D_law_pen_L, D_law] := by rfl
theorem same3 : Same3 defs := by
  intro d hd hn
  rw [uniq_eq]
  simp only [defs, List.mem_cons, List.not_mem_nil, or_false] at hd
  rcases hd with rfl | rfl | rfl | rfl | rfl | rfl | rfl | rfl | rfl | rfl | rfl | rfl | rfl | rfl | rfl | rfl | rfl | rfl | rfl | rfl | rfl | rfl | rfl | rfl | rfl | rfl
  · exact ⟨D_is_whole, by simp, rfl, rfl, rfl, rfl⟩
  · exact ⟨D_is_knot, by simp, rfl, rfl, rfl, rfl⟩
  · exact ⟨D_keys_of, by simp, rfl, rfl, rfl, rfl⟩
  · exact ⟨D_has_form, by simp, rfl, rfl, rfl, rfl⟩
  · exact ⟨D_read_key, by simp, rfl, rfl, rfl, rfl⟩
  · exact ⟨D_show_page, by simp, rfl, rfl, rfl, rfl⟩
  · exact ⟨D_read_page, by simp, rfl, rfl, rfl, rfl⟩
  · exact ⟨D_is_tree, by simp, rfl, rfl, rfl, rfl⟩
  · exact ⟨D_tree_at, by simp, rfl, rfl, rfl, rfl⟩
  · exact ⟨D_law_is_key, by simp, rfl, rfl, rfl, rfl⟩
  · exact ⟨D_law_items, by simp, rfl, rfl, rfl, rfl⟩
  · exact ⟨D_law_word, by simp, rfl, rfl, rfl, rfl⟩
  · exact ⟨D_show_layout, by simp, rfl, rfl, rfl, rfl⟩
  · exact ⟨D_read_layout, by simp, rfl, rfl, rfl, rfl⟩
  · exact ⟨D_law_layout_of, by simp, rfl, rfl, rfl, rfl⟩
  · exact ⟨D_show_tree, by simp, rfl, rfl, rfl, rfl⟩
  · exact ⟨D_read_tree, by simp, rfl, rfl, rfl, rfl⟩
  · exact ⟨D_law_tree_of, by simp, rfl, rfl, rfl, rfl⟩
  · exact ⟨D_law_refused, by simp, rfl, rfl, rfl, rfl⟩
  · exact ⟨D_law_bent, by simp, rfl, rfl, rfl, rfl⟩
  · exact ⟨D_law_right, by simp, rfl, rfl, rfl, rfl⟩
  · exact ⟨D_law_layout_text, by simp, rfl, rfl, rfl, rfl⟩
  · exact ⟨D_law_tree_text, by simp, rfl, rfl, rfl, rfl⟩
  · exact ⟨D_law_draw, by simp, rfl, rfl, rfl, rfl⟩
  · exact ⟨D_law_pen_L, by simp, rfl, rfl, rfl, rfl⟩
  · exact ⟨D_law, by simp, rfl, rfl, rfl, rfl⟩
set_option maxHeartbeats 0
def loose0 : List PySem.Str := ["LeafError", "NoTree", "There", "NotThere", "Full", "NoRoom", "NoText", "NoRow", "MOST_KEYS_trees", "is_whole", "is_knot", "has_form", "keys_of", "is_tree", "FIGURES", "MOST_FIGURES", "MOST_KEYS_texts", "EMPTY", "show_tree", "show_page", "show_layout", "read_key", "tree_at", "read_tree", "read_page", "read_layout", "_law_pen", "_law_draw", "_law_tree_text", "_law_layout_text"]
def loose1 : List PySem.Str := ["_law_word", "_law_bent", "_law_is_key", "_law_items", "_law_tree_of", "_law_layout_of", "_law_refused", "_law_right"]
def loose : List PySem.Str := loose0 ++ loose1
abbrev R : PySem.W.OpenRow := PySem.W.OpenLaw.row PySem.Challenge.rw_leafpages_k48_texts_refused
abbrev hk : PySem.W.Hook := hookE6 4 (faOf defs cons3 atts3) (fnOf3 defs) exs3 tabs3 []
def ob (s : PySem.W.SharedT) : He.AlT × Bool := obsE6 4 (faOf defs cons3 atts3) (fnOf3 defs) exs3 tabs3 [] (HandSHeadRun.getT s)
theorem ob_eq (s : PySem.W.SharedT) : ob s = hk.obs s.abs := obsE6_eq (HandSHeadRun.getT_eq s)
theorem run (w : World) : HandSHeadRun.RunEq R (PySem.W.view R.prog [42]) hk ob 4000 loose w := by
  intro os
  kernel_rfl
end L3

set_option Elab.async false
set_option linter.all false
set_option maxRecDepth 100000
/-! L5: data of plain kinds, their values, their comparisons. -/
namespace L3
open PySem PySem.Spec PyProof.Rows L2
open PySem.W (alike dataLt AllAlike Sortable dataLe)
/-- a kind of data: its values -/
class Enc (α : Type) where
  val : α → Val
  dat : α → PyData
  pdv : ∀ a, pd (val a) = some (dat a)
  lay : ∀ a, (dat a).canLay0 = true
  dep : ∀ a, (dat a).depth ≤ 20
  eqv : ∀ a b, PyData.eqv (dat a) (dat b) = true ↔ a = b
abbrev ev {α : Type} [Enc α] : α → Val := Enc.val
instance : Enc (Int × Int) where
  val m := .tup [.int m.1, .int m.2]
  dat m := .tuple [.int m.1, .int m.2]
  pdv m := by simp [pd, pds]
  lay m := by simp [PyData.canLay0, PyData.canLayAll0]
  dep m := by simp [PyData.depth, PyData.depthAll]
  eqv a b := by simp [PyData.eqv, PyData.eqvAll, Prod.ext_iff]
instance : Enc (Int × Int × Int) where
  val m := .tup [.int m.1, .int m.2.1, .int m.2.2]
  dat m := .tuple [.int m.1, .int m.2.1, .int m.2.2]
  pdv m := by simp [pd, pds]
  lay m := by simp [PyData.canLay0, PyData.canLayAll0]
  dep m := by simp [PyData.depth, PyData.depthAll]
  eqv a b := by simp [PyData.eqv, PyData.eqvAll, Prod.ext_iff]
instance : Enc (List Int) where
  val m := .fl (m.map .int)
  dat m := .list (m.map .int)
  pdv m := by simp [pd, pds_ints]
  lay m := by simp [PyData.canLay0, canLay_ints]
  dep m := by simp [PyData.depth, depth_ints]
  eqv a b := by rw [eqv_ints]; simp
def Tr.top : Tr → Int
  | .nil => 0
  | .nd _ k _ => k
theorem tv_ne {t : Tr} (h : t ≠ .nil) : ∃ l k r, t = .nd l k r := by
  cases t with
  | nil => exact absurd rfl h
  | nd l k r => exact ⟨_, _, _, rfl⟩
theorem dt1_tv (h : Hq) (t : Tr) : dt1 h t.tv = some t.td := by
  have := Tr.pd_tv t
  unfold dt1
  split
  · rename_i e; rw [e] at this; cases this
  · exact this
theorem map_int {α : Type} (xs : List α) (f : α → Int) : xs.map (fun a => Val.int (f a)) = (xs.map f).map Val.int := by rw [List.map_map]; rfl
theorem map_ev {α β : Type} [Enc β] (xs : List α) (f : α → β) : xs.map (fun a => (Enc.val (f a) : Val)) = (xs.map f).map Enc.val := by rw [List.map_map]; rfl
theorem range_at {n : Nat} {pre post : List Nat} {y : Nat} (e : List.range n = pre ++ y :: post) : y = pre.length := by
  have h1 : (List.range n)[pre.length]? = some y := by rw [e]; simp
  have h2 : pre.length < n := by
    have := congrArg List.length e
    simp only [List.length_range, List.length_append, List.length_cons] at this
    omega
  rw [List.getElem?_range h2] at h1
  exact (Option.some.inj h1).symm
/-- a walk over two things -/
theorem for_two {i : Nat} {b : WS} {keep : Hq → Prop} {D : Dn} {x y : Val} {ρ : Env3} {h : Hq} (h0 : keep h)
    (w : b { D with nx := fun ρ1 h1 => keep h1 ∧ b { D with nx := fun ρ2 h2 => keep h2 ∧ D.nx ρ2 h2 } (ρ1.set i (some y)) h1 } (ρ.set i (some x)) h) : forW (.name i) b keep D [x, y] ρ h := ⟨h0, w⟩
theorem ev2 (m : Int × Int) : (Enc.val m : Val) = .tup [.int m.1, .int m.2] := rfl
theorem ev3 (m : Int × Int × Int) : (Enc.val m : Val) = .tup [.int m.1, .int m.2.1, .int m.2.2] := rfl
section
variable {α : Type} [Enc α]
theorem pds_ev : ∀ xs : List α, pds (xs.map Enc.val) = some (xs.map Enc.dat)
  | [] => rfl
  | x :: xs => by rw [List.map_cons, pds, pds_ev xs, Enc.pdv]; rfl
theorem dt_ev (h : Hq) (xs : List α) : dt h (.fl (xs.map Enc.val)) = some (.list (xs.map Enc.dat)) := by simp [dt, pd, pds_ev]
theorem dt1_val (h : Hq) (x : α) : dt1 h (Enc.val x) = some (Enc.dat x) := by
  have := Enc.pdv x
  unfold dt1
  split
  · rename_i e; rw [e] at this; cases this
  · exact this
theorem dt_val (h : Hq) (x : α) : dt h (Enc.val x) = some (Enc.dat x) := by
  have := Enc.pdv x
  unfold dt
  split
  · rename_i e; rw [e] at this; cases this
  · exact this
theorem dt_refE {h : Hq} {a : Addr} {xs : List α} (e : h a = some (.lst (xs.map Enc.val))) : dt h (.ref a) = some (.list (xs.map Enc.dat)) := by
  have : mapO (dt1 h) (xs.map Enc.val) = some (xs.map Enc.dat) := mapO_map (dt1 h) Enc.val Enc.dat (dt1_val h) xs
  simp only [dt, e, this, Option.map_some]
theorem shaped_ev (xs : List α) : SeqAt.shaped (.list (xs.map (Enc.dat : α → PyData))) = true := by
  have h1 := lay_map (Enc.dat : α → PyData) xs fun x _ => Enc.lay x
  have h2 := depth_map (Enc.dat : α → PyData) 20 xs fun x _ => Enc.dep x
  simp [SeqAt.shaped, PyData.canLay0, PyData.depth, h1]; omega
theorem shaped_one (x : α) : SeqAt.shaped (Enc.dat x) = true := by
  have h1 := Enc.lay x
  have h2 := Enc.dep x
  simp [SeqAt.shaped, h1]; omega
theorem eqvAll_ev [DecidableEq α] : ∀ xs ys : List α, PyData.eqvAll (xs.map Enc.dat) (ys.map Enc.dat) = decide (xs = ys)
  | [], [] => by simp [PyData.eqvAll]
  | [], _ :: _ => by simp [PyData.eqvAll]
  | _ :: _, [] => by simp [PyData.eqvAll]
  | x :: xs, y :: ys => by
    have h1 := Enc.eqv x y
    have h2 := eqvAll_ev xs ys
    rw [List.map_cons, List.map_cons, PyData.eqvAll, h2]
    by_cases e : x = y
    · simp [e, (Enc.eqv y y).mpr rfl]
    · have : PyData.eqv (Enc.dat x) (Enc.dat y) = false := by
        cases q : PyData.eqv (Enc.dat x) (Enc.dat y) with
        | false => rfl
        | true => exact absurd (h1.mp q) e
      simp [e, this]
theorem eqv_ev [DecidableEq α] (xs ys : List α) : PyData.eqv (.list (xs.map Enc.dat)) (.list (ys.map Enc.dat)) = decide (xs = ys) := by rw [PyData.eqv, eqvAll_ev]
theorem any_ev [DecidableEq α] (x : α) : ∀ xs : List α, ((xs.map Enc.dat).any fun z => PyData.eqv z (Enc.dat x)) = decide (x ∈ xs)
  | [] => by simp
  | y :: ys => by
    rw [List.map_cons, List.any_cons, any_ev x ys]
    by_cases e : y = x
    · simp [e, (Enc.eqv x x).mpr rfl]
    · have : PyData.eqv (Enc.dat y) (Enc.dat x) = false := by
        cases q : PyData.eqv (Enc.dat y) (Enc.dat x) with
        | false => rfl
        | true => exact absurd ((Enc.eqv y x).mp q) e
      have e' : ¬ x = y := fun z => e z.symm
      simp [e', this]
variable [DecidableEq α] {h : Hq} {Q : QV} {fz : Bool} {a : Addr} {xs ys : List α}
theorem w_eqEE : prW (cmpR .eq (.fl (xs.map Enc.val)) (.fl (ys.map Enc.val)) h) Q = Q (.bl (decide (xs = ys))) h := by
  simp only [cmpR, eqR, dt_ev, prW, optW_some, Out.w, shaped_ev, eqv_ev, and_self, t_and, Bool.false_eq_true, if_false]
theorem w_neEE : prW (cmpR .ne (.fl (xs.map Enc.val)) (.fl (ys.map Enc.val)) h) Q = Q (.bl (!decide (xs = ys))) h := by
  simp only [cmpR, eqR, dt_ev, prW, optW_some, Out.w, shaped_ev, eqv_ev, and_self, t_and, if_true]
theorem w_eqE0 : prW (cmpR .eq (.fl (xs.map Enc.val)) (.fl []) h) Q = Q (.bl (decide (xs = []))) h := w_eqEE (ys := [])
theorem w_neE0 : prW (cmpR .ne (.fl (xs.map Enc.val)) (.fl []) h) Q = Q (.bl (!decide (xs = []))) h := w_neEE (ys := [])
theorem w_eqRE (e : h a = some (.lst (xs.map Enc.val))) : prW (cmpR .eq (.ref a) (.fl (ys.map Enc.val)) h) Q = Q (.bl (decide (xs = ys))) h := by
  simp only [cmpR, eqR, dt_ev, dt_refE e, prW, optW_some, Out.w, shaped_ev, eqv_ev, and_self, t_and, Bool.false_eq_true, if_false]
theorem w_neRE (e : h a = some (.lst (xs.map Enc.val))) : prW (cmpR .ne (.ref a) (.fl (ys.map Enc.val)) h) Q = Q (.bl (!decide (xs = ys))) h := by
  simp only [cmpR, eqR, dt_ev, dt_refE e, prW, optW_some, Out.w, shaped_ev, eqv_ev, and_self, t_and, if_true]
theorem w_inE {x : α} (hf : flt (Enc.val x) = false) : prW (cmpR .isin (Enc.val x) (.fl (xs.map Enc.val)) h) Q = Q (.bl (decide (x ∈ xs))) h := by
  simp only [cmpR, inR, sinR, dr, sq, ls, lv, hf, Bool.false_and, Bool.false_eq_true, if_false, dt_ev, dt_val, prW, optW_some, Out.w, shaped_ev, shaped_one, any_ev, and_self, t_and]
theorem w_notinE {x : α} (hf : flt (Enc.val x) = false) : prW (cmpR .notin (Enc.val x) (.fl (xs.map Enc.val)) h) Q = Q (.bl (!decide (x ∈ xs))) h := by
  simp only [cmpR, inR, sinR, dr, sq, ls, lv, hf, Bool.false_and, Bool.false_eq_true, if_false, dt_ev, dt_val, prW, optW_some, Out.w, shaped_ev, shaped_one, any_ev, and_self, t_and, if_true]
end
section
variable {h : Hq} {Q : QV} {fz : Bool} {a : Addr} {ns : List Int}
theorem w_maxF : prW (bltR .max fz [.fl (ns.map .int)] h) Q = (ns ≠ [] ∧ Q (.int (maxL ns)) h) := by
  simp only [bltR, ls, lv, Option.bind_some, mapO_int, prW, optW_some, Out.w]
theorem w_minF : prW (bltR .min fz [.fl (ns.map .int)] h) Q = (ns ≠ [] ∧ Q (.int (minL ns)) h) := by
  simp only [bltR, ls, lv, Option.bind_some, mapO_int, Option.map_some, prW, optW_some, Out.w]
theorem mapO_bls : ∀ bs : List Bool, mapO blOf (bs.map Val.bl) = some bs
  | [] => rfl
  | b :: bs => by simp only [List.map_cons, mapO, blOf, mapO_bls bs]
theorem w_allF {bs : List Bool} : prW (bltR .all fz [.fl (bs.map .bl)] h) Q = Q (.bl (bs.all id)) h := by
  simp only [bltR, ls, lv, Option.bind_some, mapO_bls, Option.map_some, prW, optW_some, Out.w, t_and]
theorem w_anyF {bs : List Bool} : prW (bltR .any fz [.fl (bs.map .bl)] h) Q = Q (.bl (bs.any id)) h := by
  simp only [bltR, ls, lv, Option.bind_some, mapO_bls, Option.map_some, prW, optW_some, Out.w, t_and]
theorem mapO_tups (L : List (Int × Int)) : mapO tupI (L.map Enc.val) = some (L.map fun m => [m.1, m.2]) := mapO_map tupI _ _ (fun m => rfl) L
theorem mapO_intO_tup (m : Int × Int) (L : List (Int × Int)) : mapO intOf ((m :: L).map Enc.val) = none := rfl
end
/-! ### sorted, greatest of pairs -/
def leP (p q : Int × Int) : Bool := decide (p.1 < q.1 ∨ (p.1 = q.1 ∧ p.2 ≤ q.2))
def sortP (L : List (Int × Int)) : List (Int × Int) := L.mergeSort leP
theorem sortP_perm (L : List (Int × Int)) : (sortP L).Perm L := List.mergeSort_perm _ _
theorem sortP_up (L : List (Int × Int)) : (sortP L).Pairwise fun a b => leP a b = true :=
  List.pairwise_mergeSort (le := leP) (fun a b c h1 h2 => by simp only [leP, decide_eq_true_eq] at *; omega) (fun a b => by simp only [leP, Bool.or_eq_true, decide_eq_true_eq]; omega) L
theorem leP_anti {a b : Int × Int} (h1 : leP a b = true) (h2 : leP b a = true) : a = b := by
  simp only [leP, decide_eq_true_eq] at h1 h2
  exact Prod.ext (by omega) (by omega)
theorem sortP_uniq {L M : List (Int × Int)} (p : L.Perm M) (h : M.Pairwise fun a b => leP a b = true) : sortP L = M :=
  List.Perm.eq_of_pairwise (le := fun a b => leP a b = true) (fun a b _ _ h1 h2 => leP_anti h1 h2) (sortP_up L) h ((sortP_perm L).trans p)
theorem sortP_eq {L M : List (Int × Int)} (p : L.Perm M) : sortP L = sortP M := sortP_uniq (p.trans (sortP_perm M).symm) (sortP_up M)
theorem mapO_dt1 {α : Type} [Enc α] (h : Hq) (xs : List α) : mapO (dt1 h) (xs.map Enc.val) = some (xs.map Enc.dat) := mapO_map (dt1 h) Enc.val Enc.dat (dt1_val h) xs
theorem dtD_val {α : Type} [Enc α] (h : Hq) (x : α) : dtD h (Enc.val x) = Enc.dat x := by unfold dtD; rw [dt1_val]; rfl
theorem ordL_P {fz : Bool} {h : Hq} {Q : QV} (L : List (Int × Int)) : prW (ordL fz (L.map Enc.val) h) Q = alc fz ((sortP L).map Enc.val) h Q := by
  have c1 : AllAlike (L.map (Enc.dat : Int × Int → PyData)) := PySem.W.AllAlike.of fun b b' => by simp [Enc.dat, alike, PySem.W.alikeAll]
  have c2 : Sortable (L.map (Enc.dat : Int × Int → PyData)) := PySem.W.Sortable.tuples fun b => ⟨_, _, rfl⟩
  have c3 : shp (L.map (Enc.dat : Int × Int → PyData)) := fun d hd => by
    obtain ⟨x, _, rfl⟩ := List.mem_map.mp hd
    exact shaped_one x
  have e : (L.map Enc.val).mergeSort (dataLe false (dtD h)) = (sortP L).map Enc.val := by
    unfold sortP
    rw [List.map_mergeSort]
    intro a _ b _
    have := congrFun (congrFun (PySem.W.dataLe_ii (β := Int × Int) (·.1) (·.2)) a) b
    rw [PySem.W.dataLe_eq] at this ⊢
    show leP a b = (bif false then !dataLt (dtD h (Enc.val a)) (dtD h (Enc.val b)) else !dataLt (dtD h (Enc.val b)) (dtD h (Enc.val a)))
    rw [dtD_val, dtD_val]
    exact this.symm
  simp only [ordL, mapO_dt1, Option.map_some, prW, optW_some, Out.w, c1, c2, c3, and_self, t_and, e]
theorem w_sortPF {fz : Bool} {h : Hq} {Q : QV} {L : List (Int × Int)} : prW (bltR .sorted fz [.fl (L.map Enc.val)] h) Q = alc fz ((sortP L).map Enc.val) h Q := by
  cases L with
  | nil => simp only [bltR, ls, lv, Option.bind_some, List.map_nil, mapO, sortP, sortI, List.mergeSort_nil, prW, optW_some, Out.w, t_and]
  | cons m L =>
    simp only [bltR, ls, lv, Option.bind_some, mapO_intO_tup]
    exact ordL_P (m :: L)
theorem w_sortPR {fz : Bool} {h : Hq} {Q : QV} {a : Addr} {L : List (Int × Int)} (e : h a = some (.lst (L.map Enc.val))) : prW (bltR .sorted fz [.ref a] h) Q = alc fz ((sortP L).map Enc.val) h Q := by
  cases L with
  | nil => simp only [bltR, ls, lv, e, Option.bind_some, List.map_nil, mapO, sortP, sortI, List.mergeSort_nil, prW, optW_some, Out.w, t_and]
  | cons m L =>
    simp only [bltR, ls, lv, e, Option.bind_some, mapO_intO_tup]
    exact ordL_P (m :: L)
theorem maxL_drop (m x : Int) (r : List Int) (h : x ≤ m) : max m (maxL (x :: r)) = maxL (m :: r) := by
  cases r with
  | nil => simp only [maxL]; omega
  | cons y r =>
    show max m (max x (maxL (y :: r))) = max m (maxL (y :: r))
    omega
theorem maxL_le (x : Int) (r : List Int) : x ≤ maxL (x :: r) := by
  cases r with
  | nil => exact Int.le_refl _
  | cons y r => exact Int.le_max_left _ _
theorem bestL_fst : ∀ (L : List (Int × Int)) (m : Int × Int), ∃ b, bestL [m.1, m.2] (L.map fun m => [m.1, m.2]) = [maxL (m.1 :: L.map (·.1)), b]
  | [], m => ⟨m.2, rfl⟩
  | x :: L, m => by
    unfold bestL
    rw [List.map_cons, List.foldl_cons]
    by_cases c : [m.1, m.2] < [x.1, x.2]
    · rw [if_pos c]
      obtain ⟨b, e⟩ := bestL_fst L x
      refine ⟨b, ?_⟩
      have e' : List.foldl (fun a y => if a < y then y else a) [x.1, x.2] (L.map fun m => [m.1, m.2]) = [maxL (x.1 :: L.map (·.1)), b] := e
      rw [e', List.map_cons]
      have h1 := maxL_le x.1 (L.map (·.1))
      have h2 : m.1 ≤ x.1 := by
        rw [List.cons_lt_cons_iff] at c
        omega
      show [maxL (x.1 :: L.map (·.1)), b] = [max m.1 (maxL (x.1 :: L.map (·.1))), b]
      rw [Int.max_eq_right (by omega)]
    · rw [if_neg c]
      obtain ⟨b, e⟩ := bestL_fst L m
      refine ⟨b, ?_⟩
      have e' : List.foldl (fun a y => if a < y then y else a) [m.1, m.2] (L.map fun m => [m.1, m.2]) = [maxL (m.1 :: L.map (·.1)), b] := e
      rw [e', List.map_cons]
      show [maxL (m.1 :: L.map (·.1)), b] = [max m.1 (maxL (x.1 :: L.map (·.1))), b]
      rw [maxL_drop]
      rw [List.cons_lt_cons_iff] at c
      omega
theorem w_maxP {L : List (Int × Int)} (hL : L ≠ []) : ∃ b : Int, ∀ (fz : Bool) (h : Hq) (Q : QV), prW (bltR .max fz [.fl (L.map Enc.val)] h) Q = Q (.tup [.int (maxL (L.map (·.1))), .int b]) h := by
  cases L with
  | nil => exact absurd rfl hL
  | cons m L =>
    obtain ⟨b, e⟩ := bestL_fst L m
    refine ⟨b, fun fz h Q => ?_⟩
    simp only [bltR, ls, lv, Option.bind_some, mapO_intO_tup, mxD, mapO_tups]
    show prW (some (True, Out.v (.tup ((bestL [m.1, m.2] (L.map fun m => [m.1, m.2])).map .int)) h)) Q = _
    rw [e]
    exact t_and _
/-! ### comprehensions, once more -/
section
variable {F : Fs} {n : Nat} {β : Type} {fz : Bool} {elt cond : Ex} {tg : Tg} {keep : Hq → Prop} {ρw : Env3} {h : Hq} {Q : QV}
/-- [e for y in ys] -/
theorem comp_map (φ : β → Val) (ys : List β) (f : β → Val) (hl : ys.length < 1000000)
    (hs : ∀ p acc, h p = none → keep (up h p (.lst acc)) ∧ ∀ y ∈ ys, ∃ ρ1, bindT tg (φ y) ρw = some ρ1 ∧ ∀ K : QV, K (f y) (up h p (.lst acc)) → wpE (CN F n) elt ρ1 (up h p (.lst acc)) K fun _ _ => False)
    (hq : alc fz (ys.map f) h Q) : ∀ p, h p = none → compW tg (fun ρ1 h2 K => wpT (CN F n) .nop ρ1 h2 K fun _ _ => False) (fun ρ1 h2 K => wpE (CN F n) elt ρ1 h2 K fun _ _ => False) keep p (compFin fz p Q) ρw (ys.map φ) (up h p (.lst [])) := by
  refine comp_ok (fun ρ h Q Q' k w => moT F n .nop ρ h Q Q' (fun _ _ => False) k w) (fun ρ h Q Q' k w => moE F n elt ρ h Q Q' (fun _ _ => False) k w) φ ys (fun y => some (f y)) hl (fun p acc hp => ⟨(hs p acc hp).1, fun y hy => ?_⟩) (by rw [filterMap_one]; exact hq)
  obtain ⟨ρ1, e, w⟩ := (hs p acc hp).2 y hy
  exact ⟨ρ1, e, fun K q => w (fun v h2 => K (some v) h2) q⟩
/-- .. as the walk leaves it -/
theorem comp_map' (φ : β → Val) (ys : List β) (f : β → Val) (hl : ys.length < 1000000)
    (hs : ∀ p acc, h p = none → keep (up h p (.lst acc)) ∧ ∀ y ∈ ys, ∃ ρ1, bindT tg (φ y) ρw = some ρ1 ∧ ∀ K : QV, K (f y) (up h p (.lst acc)) → wpE (CN F n) elt ρ1 (up h p (.lst acc)) K fun _ _ => False)
    (hq : alc fz (ys.map f) h Q) : ∀ p, h p = none → compW tg (fun ρ1 h2 K => K true h2) (fun ρ1 h2 K => wpE (CN F n) elt ρ1 h2 K fun _ _ => False) keep p (compFin fz p Q) ρw (ys.map φ) (up h p (.lst [])) :=
  comp_map φ ys f hl hs hq
/-- [e for y in ys if c] -/
theorem comp_filter (φ : β → Val) (ys : List β) (c : β → Bool) (f : β → Val) (hl : ys.length < 1000000)
    (hs : ∀ p acc, h p = none → keep (up h p (.lst acc)) ∧ ∀ y ∈ ys, ∃ ρ1, bindT tg (φ y) ρw = some ρ1 ∧ (∀ K : Bool → Hq → Prop, K (c y) (up h p (.lst acc)) → wpT (CN F n) cond ρ1 (up h p (.lst acc)) K fun _ _ => False) ∧
      (c y = true → ∀ K : QV, K (f y) (up h p (.lst acc)) → wpE (CN F n) elt ρ1 (up h p (.lst acc)) K fun _ _ => False))
    (hq : alc fz ((ys.filter c).map f) h Q) : ∀ p, h p = none → compW tg (fun ρ1 h2 K => wpT (CN F n) cond ρ1 h2 K fun _ _ => False) (fun ρ1 h2 K => wpE (CN F n) elt ρ1 h2 K fun _ _ => False) keep p (compFin fz p Q) ρw (ys.map φ) (up h p (.lst [])) := by
  refine comp_ok (fun ρ h Q Q' k w => moT F n cond ρ h Q Q' (fun _ _ => False) k w) (fun ρ h Q Q' k w => moE F n elt ρ h Q Q' (fun _ _ => False) k w) φ ys (fun y => if c y = true then some (f y) else none) hl (fun p acc hp => ⟨(hs p acc hp).1, fun y hy => ?_⟩) ?_
  · obtain ⟨ρ1, e, w1, w2⟩ := (hs p acc hp).2 y hy
    refine ⟨ρ1, e, fun K q => w1 _ ?_⟩
    cases hc : c y with
    | true =>
      rw [hc] at q
      simp only [if_true] at q ⊢
      exact w2 hc (fun v h2 => K (some v) h2) q
    | false =>
      rw [hc] at q
      simp only [Bool.false_eq_true, if_false] at q ⊢
      exact q
  · rw [filterMap_if (fun y => c y = true)]
    simpa using hq
end
/-- a cut of a list of any kind -/
def cutG {α : Type} (xs : List α) (lo hi : Option Int) : List α := (xs.drop (HT.sIx xs.length 0 lo)).take (HT.sIx xs.length xs.length hi - HT.sIx xs.length 0 lo)
theorem cutG_map {α : Type} (f : α → Val) (xs : List α) (lo hi : Option Int) : cutL (xs.map f) lo hi = (cutG xs lo hi).map f := by
  unfold cutL cutG
  rw [List.length_map, ← List.map_drop, ← List.map_take]
theorem cutG_len {α : Type} (xs : List α) (lo hi : Option Int) : (cutG xs lo hi).length ≤ xs.length := by
  unfold cutG
  rw [List.length_take, List.length_drop]; omega
theorem cutG_mem {α : Type} {xs : List α} {lo hi : Option Int} {x : α} (h : x ∈ cutG xs lo hi) : x ∈ xs := List.mem_of_mem_drop (List.mem_of_mem_take h)
theorem w_slcFm {α : Type} {f : α → Val} {fz : Bool} {xs : List α} {lo hi : Option Int} {h : Hq} {Q : QV} : prW (slcR fz (.fl (xs.map f)) lo hi h) Q = alc fz ((cutG xs lo hi).map f) h Q := by
  rw [w_slcF, cutG_map]
theorem cutG_to {α : Type} {xs : List α} {k : Nat} (hk : k ≤ xs.length) : cutG xs none (some (k : Int)) = xs.take k := by
  unfold cutG
  rw [HT.sIx_nat, HT.sIx_none, Nat.min_eq_left hk, List.drop_zero, Nat.sub_zero]
theorem cutG_from {α : Type} {xs : List α} {k : Nat} (hk : k ≤ xs.length) : cutG xs (some (k : Int)) none = xs.drop k := by
  unfold cutG
  rw [HT.sIx_nat, HT.sIx_none, Nat.min_eq_left hk, List.take_of_length_le (by rw [List.length_drop]; exact Nat.le_refl _)]
/-! ### dicts -/
theorem dg_dp (kvs : KVs) (k j : Key) (v : Val) : dg (dp kvs k v) j = if j = k then some v else dg kvs j := by
  unfold dp
  split
  · rename_i h
    induction kvs with
    | nil => simp at h
    | cons p r ih =>
      obtain ⟨i, w⟩ := p
      by_cases e : i = k
      · subst e
        by_cases e2 : j = i
        · subst e2; simp [dg]
        · have e3 : ¬ i = j := fun z => e2 z.symm
          simp only [dg, List.map_cons, if_pos, List.find?_cons, e3, decide_false, if_neg e2]
          congr 1
          clear h ih
          induction r with
          | nil => rfl
          | cons q r ih2 =>
            obtain ⟨i2, w2⟩ := q
            by_cases e4 : i2 = i
            · subst e4; simp [List.find?_cons, e3, ih2]
            · by_cases e5 : i2 = j
              · subst e5; simp [List.find?_cons, e4]
              · simp [List.find?_cons, e4, e5, ih2]
      · have h' : r.any (fun kv => decide (kv.1 = k)) = true := by simpa [e] using h
        by_cases e2 : i = j
        · subst e2
          simp [dg, e]
        · have := ih h'
          simp only [dg, List.map_cons, if_neg e, List.find?_cons, e2, decide_false] at this ⊢
          exact this
  · rename_i h
    by_cases e : j = k
    · subst e
      have : kvs.find? (fun kv => decide (kv.1 = j)) = none := by
        rw [List.find?_eq_none]
        intro x hx
        simp only [List.any_eq_true, not_exists, not_and] at h
        exact h x hx
      simp [dg, List.find?_append, this]
    · have e' : ¬ k = j := fun z => e z.symm
      simp [dg, List.find?_append, e, e', List.find?_cons]
theorem dp_len (kvs : KVs) (k : Key) (v : Val) : (dp kvs k v).length ≤ kvs.length + 1 := by
  unfold dp
  split
  · rw [List.length_map]; omega
  · rw [List.length_append]; exact Nat.le_refl _
theorem dp_nodup (kvs : KVs) (k : Key) (v : Val) (h : (kvs.map (·.1)).Nodup) : ((dp kvs k v).map (·.1)).Nodup := by
  unfold dp
  split
  · rw [List.map_map]
    have : ((fun x : Key × Val => x.1) ∘ fun kv : Key × Val => if kv.1 = k then (kv.1, v) else kv) = (·.1) := by
      funext kv; simp only [Function.comp]; split <;> rfl
    rw [this]; exact h
  · rename_i c
    rw [List.map_append, List.nodup_append]
    refine ⟨h, by simp, fun a ha b hb => ?_⟩
    obtain ⟨q, hq, rfl⟩ := List.mem_map.mp ha
    simp only [List.map_cons, List.map_nil, List.mem_singleton] at hb
    subst hb
    intro z
    exact c (List.any_eq_true.mpr ⟨q, hq, decide_eq_true z⟩)
theorem dmerge_ok : ∀ (more kvs : KVs), (more.map (·.1)).Nodup → (kvs.map (·.1)).Nodup → (∀ j, dg (dmerge kvs more) j = (dg more j).or (dg kvs j)) ∧ ((dmerge kvs more).map (·.1)).Nodup ∧ (dmerge kvs more).length ≤ kvs.length + more.length
  | [], kvs, _, h => ⟨fun j => by simp [dmerge, dg], h, by simp [dmerge]⟩
  | (k, v) :: r, kvs, hm, h => by
    rw [List.map_cons, List.nodup_cons] at hm
    obtain ⟨i1, i2, i3⟩ := dmerge_ok r (dp kvs k v) hm.2 (dp_nodup kvs k v h)
    have hl := dp_len kvs k v
    refine ⟨fun j => ?_, i2, ?_⟩
    · show dg (dmerge (dp kvs k v) r) j = _
      rw [i1, dg_dp]
      by_cases e : j = k
      · subst e
        have : dg r j = none := by
          unfold dg
          rw [List.find?_eq_none.mpr fun x hx => by
            intro z
            exact hm.1 (List.mem_map.mpr ⟨x, hx, of_decide_eq_true z⟩)]
          rfl
        rw [this, if_pos rfl]
        simp [dg]
      · have e' : ¬ k = j := fun z => e z.symm
        rw [if_neg e]
        simp [dg, List.find?_cons, e']
    · show (dmerge (dp kvs k v) r).length ≤ _
      rw [List.length_cons]
      omega
theorem w_dictPF {fz : Bool} {T : List (Int × Int × Int)} {h : Hq} {Q : QV} : prW (o1R .dictP fz (.fl (T.map fun r => Val.tup [.int r.1, Enc.val r.2])) h) Q = (T.length ≤ 1000000 ∧ alcD fz (dmerge [] (T.map fun r => (Sum.inl r.1, Enc.val r.2))) h Q) := by
  have : mapO pairOf (T.map fun r => Val.tup [.int r.1, Enc.val r.2]) = some (T.map fun r => (Sum.inl r.1, Enc.val r.2)) := mapO_map pairOf _ _ (fun r => rfl) T
  simp only [o1R, ls, lv, this, Option.map_some, prW, optW_some, Out.w, List.length_map]
theorem ordR_P {f : PyData → PyData → Bool} {a b : Int × Int} {h : Hq} {Q : QV} : prW (ordR f (Enc.val a) (Enc.val b) h) Q = Q (.bl (f (Enc.dat a) (Enc.dat b))) h := by
  have h1 : alike (Enc.dat a : PyData) (Enc.dat b) = true := by simp [Enc.dat, alike, PySem.W.alikeAll]
  have h2 : (Enc.dat a : PyData) ≠ .none := by intro z; cases z
  simp only [ordR, dt_val, prW, optW_some, Out.w, h1, shaped_one, and_self, true_and, ne_eq, h2, not_false_eq_true]
theorem dLt_P (a b : Int × Int) : dataLt (Enc.dat a) (Enc.dat b) = !leP b a := by
  have := congrFun (congrFun (PySem.W.dataLe_ii (β := Int × Int) (·.1) (·.2)) b) a
  rw [PySem.W.dataLe_eq] at this
  have e : (!dataLt (Enc.dat a) (Enc.dat b)) = leP b a := this
  rw [← e, Bool.not_not]
theorem w_gtP {a b : Int × Int} {h : Hq} {Q : QV} : prW (cmpR .gt (Enc.val a) (Enc.val b) h) Q = Q (.bl (!leP a b)) h := by
  show prW (ordR (fun d e => dataLt e d) (Enc.val a) (Enc.val b) h) Q = _
  rw [ordR_P, dLt_P]
theorem w_leP {a b : Int × Int} {h : Hq} {Q : QV} : prW (cmpR .le (Enc.val a) (Enc.val b) h) Q = Q (.bl (leP a b)) h := by
  show prW (ordR (fun d e => !dataLt e d) (Enc.val a) (Enc.val b) h) Q = _
  rw [ordR_P, dLt_P, Bool.not_not]
theorem eqv_bl (a b : Bool) : PyData.eqv (.bool a) (.bool b) = decide (a = b) := by cases a <;> cases b <;> rfl
theorem w_eqB {a b : Bool} {h : Hq} {Q : QV} : prW (cmpR .eq (.bl a) (.bl b) h) Q = Q (.bl (decide (a = b))) h := by
  have s1 : SeqAt.shaped (.bool a) = true := rfl
  have s2 : SeqAt.shaped (.bool b) = true := rfl
  simp only [cmpR, eqR, dt, pd, prW, optW_some, Out.w, s1, s2, eqv_bl, and_self, t_and, Bool.false_eq_true, if_false]
theorem w_neB {a b : Bool} {h : Hq} {Q : QV} : prW (cmpR .ne (.bl a) (.bl b) h) Q = Q (.bl (!decide (a = b))) h := by
  have s1 : SeqAt.shaped (.bool a) = true := rfl
  have s2 : SeqAt.shaped (.bool b) = true := rfl
  simp only [cmpR, eqR, dt, pd, prW, optW_some, Out.w, s1, s2, eqv_bl, and_self, t_and, if_true]
end L3

set_option Elab.async false
set_option linter.all false
set_option maxRecDepth 100000
namespace L3
open PySem PySem.Spec PyProof.Rows L2
local macro_rules | `(tactic| walk_at "d") => `(tactic| first | assumption | exact up_same | exact dr_fd _ _ | exact dr_wd _ _ | exact dr_ref (by assumption) | exact dr_ref up_same | exact keyOf_int | (exact (rfl : isNop _ = false)) | exact keyOf_str | exact tyOf_fl | exact tyOf_str | exact tyOf_non | exact tyOf_int | exact tyOf_tup | exact tyOf_bl | exact tyOf_ref (by assumption) | exact tyOf_ref up_same | (intro z; cases z))
local macro_rules | `(tactic| walk_at "w") => `(tactic| try simp -implicitDefEqProofs (disch := walk_at "d") only [↓wpE, ↓wpA, ↓wpB, ↓wpT, ↓wpTs, ↓wpI, ↓wpS, ↓wpSs, ↓optW_some, ↓w_lk0, ↓w_lkS, ↓w_bs, ↓w_bl0, ↓w_bl1, ↓w_k1, ↓w_kS, ↓w_b0, ↓w_b1, ↓w_b2, ↓w_b3, ↓w_b4, ↓w_b5, ↓w_b6, ↓w_b7, ↓w_b8, ↓w_b9, ↓w_b10, ↓w_b11, ↓w_b12, ↓w_b13, ↓w_b14, ↓w_b15, ↓w_b16, ↓w_b17, ↓w_b18, ↓w_b19, ↓w_b20, ↓w_b21, ↓w_b22, ↓w_b23, ↓w_b24, ↓w_b25, ↓alc_fz, ↓alc_lv, ↓w_add, ↓w_addS, ↓w_addL, ↓w_addT, ↓w_sub, ↓w_mul, ↓w_fdiv, ↓w_mod, ↓w_pow, ↓w_shl, ↓w_shr, ↓w_band, ↓w_eqI, ↓w_neI, ↓w_eqS, ↓w_neS, ↓w_lt, ↓w_le, ↓w_gt, ↓w_ge, ↓w_is, ↓w_isnot, ↓w_isB, ↓w_isnotB, ↓w_neF0, ↓w_eqF0, ↓w_neI_L, ↓w_eqI_L, ↓w_eqLL, ↓w_neDL, ↓w_eqDL, ↓w_idxR, ↓w_slcF, ↓w_slcT, ↓w_insert, ↓w_lrange, ↓w_revF, ↓w_revR, ↓w_tmul, ↓w_ok_indexF, ↓w_inI, ↓w_notinI, ↓w_eqEE, ↓w_neEE, ↓w_eqE0, ↓w_neE0, ↓w_eqRE, ↓w_neRE, ↓w_maxF, ↓w_minF, ↓w_eqB, ↓w_neB, ↓w_sortPF, ↓w_allF, ↓w_anyF, ↓w_slcR, ↓w_oi1, ↓w_oi2, ↓w_idxD, ↓w_inD, ↓w_notinD, ↓w_okD, ↓w_okDF, ↓w_okU, ↓w_get1N, ↓w_get2N, ↓w_get1, ↓w_get2, ↓w_upd, ↓w_putD, ↓w_frzD', ↓alcD_fz, ↓alcD_lv, ↓w_rep, ↓w_sortR, ↓w_sortF, ↓w_sumF, ↓w_idxF, ↓w_idxT, ↓w_idxS, ↓w_lenR, ↓w_lenF, ↓w_lenT, ↓w_lenS, ↓w_abs, ↓w_max2, ↓w_min2, ↓w_listF, ↓w_listT, ↓w_listR, ↓w_tupleF, ↓w_int, ↓w_intB, ↓w_isi, ↓w_ok_append, ↓w_ok_extend, ↓w_ok_pop, ↓w_ok_insert, ↓w_ok_reverse, ↓w_ok_clear, ↓w_ok_index, ↓w_ok_count, ↓w_append, ↓w_extend, ↓w_reverse, ↓w_clear, ↓w_frz, ↓w_set0, ↓w_set1, ↓w_set2, ↓w_at0, ↓w_at1, ↓w_at2, ↓w_at3, ↓w_blOf, ↓w_intOf, ↓w_refOf, ↓w_cellO, ↓wdK_wd, ↓w_lenDW, lockC_dic, lockC_lst, isN_wd, ↓w_truB, ↓w_truI, ↓w_truF, ↓w_truT, ↓w_truN, ↓optI, ↓isNop, optW_some, isN_non, isN_int, isN_tup, isN_fl, isN_ref, lv_fl, ls_fl, sq_fl, sq_tup, ls_sc, sq_sc, lv_up, ls_up, sq_up, tyOf_fl, tyOf_int, tyOf_tup, tyOf_bl, tyOf_ref, Option.bind_some, List.length_cons, List.length_nil, reduceIte, Bool.false_eq_true, if_true, if_false, List.map_cons, List.map_nil, List.replicate, List.cons_append, List.nil_append, Nat.reduceSub, Nat.reduceAdd, Nat.reduceLeDiff, Int.reduceLT, Int.reduceLE, Int.reduceNeg, Int.reduceToNat, Int.reducePow, and_true, true_and, or_true, true_or, decide_eq_true_eq, Bool.not_eq_true', decide_eq_false_iff_not, up_up, decide_true, decide_false, not_true_eq_false, not_false_eq_true, Bool.not_true, Bool.not_false, List.any_cons, List.any_nil, Bool.or_false, Bool.or_true, Bool.true_or, Bool.false_or, List.mem_cons, List.not_mem_nil, or_false, false_or, reduceCtorEq, sq_ref, lv_ref, ls_ref])
local macro_rules | `(tactic| walk_at "e") => `(tactic| simp only [List.map_cons, List.map_nil, List.replicate, List.cons_append, List.nil_append, Nat.reduceSub])
local macro_rules | `(tactic| walk_at "i") => `(tactic| try simp only [Bool.true_eq_false, Bool.false_eq_true, Bool.not_true, Bool.not_false, Bool.and_true, Bool.true_and, Bool.and_false, Bool.false_and, if_false, if_true, reduceIte, decide_true, decide_false, not_true_eq_false, not_false_eq_true, eq_self])
theorem w_eqNN {h : Hq} {Q : QV} : prW (cmpR .eq .non .non h) Q = Q (.bl true) h := by
  have s1 : SeqAt.shaped .none = true := rfl
  have s2 : PyData.eqv .none .none = true := rfl
  simp only [cmpR, eqR, dt, pd, prW, optW_some, Out.w, s1, s2, and_self, t_and, Bool.false_eq_true, if_false]
theorem w_at {α : Type} {f : α → Val} {xs : List α} {i : Nat} (hi : i < xs.length) {h : Hq} {Q : QV} : prW (idxR (.fl (xs.map f)) (.int (i : Nat)) h) Q = Q (f xs[i]) h := by
  rw [w_idxF]
  unfold atI
  rw [List.length_map, ixN_nat hi]
  simp only [List.getElem?_map, List.getElem?_eq_getElem hi, Option.map_some, Option.bind_some, optW_some]
theorem evL (c : List Int) : (Enc.val c : Val) = .fl (c.map .int) := rfl
theorem w_isbN {fz : Bool} {h : Hq} {Q : QV} : prW (bltR (.isi [.bool]) fz [.non] h) Q = Q (.bl false) h := t_and _
theorem enl_len {xs : List Val} : (enumL xs).length = xs.length := by unfold enumL; simp
theorem enl_get {xs : List Val} {i : Nat} {u : Val} (e : xs[i]? = some u) : (enumL xs)[i]? = some (.tup [.int (i : Nat), u]) := by
  have hi := (List.getElem?_eq_some_iff.mp e).1
  unfold enumL
  rw [List.getElem?_zipWith, List.getElem?_range hi, e]
theorem for_enum {α : Type} {tg : Tg} {b : WS} {keep : Hq → Prop} {D : Dn} (mb : MonoS b b) (I : List α → Env3 → Hq → Prop) (φ : α → Val) (ys : List α)
    (hs : ∀ pre y post ρ h, ys = pre ++ y :: post → I pre ρ h → keep h ∧ ∃ ρ1, bindT tg (.tup [.int (pre.length : Nat), φ y]) ρ = some ρ1 ∧ b { D with nx := I (pre ++ [y]) } ρ1 h) (hd : ∀ ρ h, I ys ρ h → keep h ∧ D.nx ρ h) {ρ : Env3} {h : Hq} (h0 : I [] ρ h) : forW tg b keep D (enumL (ys.map φ)) ρ h := by
  refine for_inv mb (fun i ρ h => I (ys.take i) ρ h) (enumL (ys.map φ)) (fun i x ρ h e q => ?_) (fun ρ h q => hd ρ h (by rw [enl_len, List.length_map, List.take_length] at q; exact q)) (by simpa using h0)
  have hi : i < ys.length := by have := (List.getElem?_eq_some_iff.mp e).1; rw [enl_len, List.length_map] at this; exact this
  have e1 : ys[i]? = some ys[i] := List.getElem?_eq_getElem hi
  rw [enl_get (u := φ ys[i]) (by rw [List.getElem?_map, e1]; rfl)] at e
  have e := (Option.some.inj e).symm
  subst e
  have e3 : ys = ys.take i ++ ys[i] :: ys.drop (i + 1) := by rw [← List.drop_eq_getElem_cons hi, List.take_append_drop]
  have e4 : ys.take (i + 1) = ys.take i ++ [ys[i]] := by rw [List.take_add_one, e1]; rfl
  have := hs (ys.take i) ys[i] (ys.drop (i + 1)) ρ h e3 q
  rw [List.length_take, Nat.min_eq_left (by omega)] at this
  rw [e4]
  exact this
theorem enl_zip {α : Type} (φ : α → Val) (xs : List α) : enumL (xs.map φ) = xs.zipIdx.map fun z => .tup [.int (z.2 : Nat), φ z.1] := by
  refine List.ext_getElem? fun i => ?_
  cases e : xs[i]? with
  | none =>
    have hi : xs.length ≤ i := List.getElem?_eq_none_iff.mp e
    rw [List.getElem?_eq_none (by rw [enl_len, List.length_map]; exact hi), List.getElem?_eq_none (by rw [List.length_map, List.length_zipIdx]; exact hi)]
  | some x =>
    rw [enl_get (u := φ x) (by rw [List.getElem?_map, e]; rfl), List.getElem?_map, List.getElem?_zipIdx, e]
    simp

theorem perm_map_of {α β : Type} (f : α → β) : ∀ {ys xs : List β}, ys.Perm xs → ∀ as : List α, xs = as.map f → ∃ bs : List α, bs.Perm as ∧ ys = bs.map f := by
  intro ys xs p
  induction p with
  | nil => intro as e; exact ⟨as, .refl _, e⟩
  | cons x p ih =>
    intro as e
    cases as with
    | nil => cases e
    | cons a as =>
      injection e with e1 e2
      obtain ⟨bs, b1, b2⟩ := ih as e2
      exact ⟨a :: bs, b1.cons a, by rw [e1, b2]; rfl⟩
  | swap x y l =>
    intro as e
    match as, e with
    | a :: b :: as, e =>
      injection e with e1 e2
      injection e2 with e2 e3
      exact ⟨b :: a :: as, .swap _ _ _, by rw [e1, e2, e3]; rfl⟩
  | trans p q ih1 ih2 =>
    intro as e
    obtain ⟨bs, b1, b2⟩ := ih2 as e
    obtain ⟨cs, c1, c2⟩ := ih1 bs b2
    exact ⟨cs, c1.trans b1, c2⟩

/-- [e for y in ys], where e may write -/
theorem comp_effF {β : Type} {fz : Bool} {F : Fs} {n : Nat} {tg : Tg} {elt : Ex} {keep : Hq → Prop} {ρw : Env3} {h : Hq} {Q : QV} (φ : β → Val) (ys : List β) (hl : ys.length < 1000000) (I : Addr → List β → List Val → Hq → Prop)
    (hs : ∀ p pre y post acc h', ys = pre ++ y :: post → h' p = some (.lst acc) → I p pre acc h' → keep h' ∧ ∃ ρ1, bindT tg (φ y) ρw = some ρ1 ∧ ∀ K : QV, (∀ v h2, h2 p = some (.lst acc) → I p (pre ++ [y]) (acc ++ [v]) (up h2 p (.lst (acc ++ [v]))) → K v h2) → wpE (CN F n) elt ρ1 h' K fun _ _ => False)
    (hi : ∀ p, h p = none → I p [] [] (up h p (.lst [])))
    (hq : ∀ p acc h', h p = none → h' p = some (.lst acc) → I p ys acc h' → keep h' ∧ if fz = true then Q (.fl acc) (er h' p) else Q (.ref p) h') : ∀ p, h p = none → compW tg (fun ρ1 h2 K => K true h2) (fun ρ1 h2 K => wpE (CN F n) elt ρ1 h2 K fun _ _ => False) keep p (compFin fz p Q) ρw (ys.map φ) (up h p (.lst [])) := by
  intro p hp
  have go : ∀ (zs pre : List β) (acc : List Val) (h' : Hq), ys = pre ++ zs → acc.length = pre.length → h' p = some (.lst acc) → I p pre acc h' → compW tg (fun ρ1 h2 K => K true h2) (fun ρ1 h2 K => wpE (CN F n) elt ρ1 h2 K fun _ _ => False) keep p (compFin fz p Q) ρw (zs.map φ) h' := by
    intro zs
    induction zs with
    | nil =>
      intro pre acc h' e al hv i
      rw [List.append_nil] at e
      obtain ⟨q1, q2⟩ := hq p acc h' hp hv (e ▸ i)
      refine ⟨q1, ?_⟩
      show compFin fz p Q h'
      unfold compFin
      rw [lstO_some.mpr hv]
      exact q2
    | cons z zs ih =>
      intro pre acc h' e al hv i
      obtain ⟨k1, ρ1, b, w⟩ := hs p pre z zs acc h' e hv i
      refine ⟨k1, ?_⟩
      show optW (bindT tg (φ z) ρw) _
      rw [b]
      refine w _ fun v h2 hv2 i2 => ?_
      rw [lstO_some.mpr hv2]
      refine ⟨?_, ih (pre ++ [z]) (acc ++ [v]) _ (by rw [e]; simp) (by simp [al]) up_same i2⟩
      have := congrArg List.length e
      simp only [List.length_append, List.length_cons] at this
      omega
  exact go ys [] [] _ rfl rfl up_same (hi p hp)
/-- .. frozen at last -/
theorem comp_eff {β : Type} {F : Fs} {n : Nat} {tg : Tg} {elt : Ex} {keep : Hq → Prop} {ρw : Env3} {h : Hq} {Q : QV} (φ : β → Val) (ys : List β) (hl : ys.length < 1000000) (I : Addr → List β → List Val → Hq → Prop)
    (hs : ∀ p pre y post acc h', ys = pre ++ y :: post → h' p = some (.lst acc) → I p pre acc h' → keep h' ∧ ∃ ρ1, bindT tg (φ y) ρw = some ρ1 ∧ ∀ K : QV, (∀ v h2, h2 p = some (.lst acc) → I p (pre ++ [y]) (acc ++ [v]) (up h2 p (.lst (acc ++ [v]))) → K v h2) → wpE (CN F n) elt ρ1 h' K fun _ _ => False)
    (hi : ∀ p, h p = none → I p [] [] (up h p (.lst [])))
    (hq : ∀ p acc h', h p = none → h' p = some (.lst acc) → I p ys acc h' → keep h' ∧ Q (.fl acc) (er h' p)) : ∀ p, h p = none → compW tg (fun ρ1 h2 K => K true h2) (fun ρ1 h2 K => wpE (CN F n) elt ρ1 h2 K fun _ _ => False) keep p (compFin true p Q) ρw (ys.map φ) (up h p (.lst [])) :=
  comp_effF φ ys hl I hs hi fun p acc h' a b c => ⟨(hq p acc h' a b c).1, by rw [if_pos rfl]; exact (hq p acc h' a b c).2⟩
theorem cut1 (xs : List Int) : cutG xs (some 1) none = xs.drop 1 := by
  cases xs with
  | nil => unfold cutG; simp
  | cons x xs => exact cutG_from (k := 1) (by simp)
theorem zipL_map {α β : Type} (f : α → Val) (g : β → Val) (xs : List α) (ys : List β) : zipL (xs.map f) (ys.map g) = (xs.zip ys).map fun z => .tup [f z.1, g z.2] := by
  unfold zipL
  rw [List.zipWith_map]
  induction xs generalizing ys with
  | nil => rfl
  | cons x xs ih => cases ys with
    | nil => rfl
    | cons y ys => simp [ih]
theorem w_notinIR {p : Addr} {i : Int} {ns : List Int} {h : Hq} {Q : QV} (e0 : h p = some (.lst (ns.map .int))) : prW (cmpR .notin (.int i) (.ref p) h) Q = Q (.bl (!decide (i ∈ ns))) h := by
  have e : (ns.map Val.int).any (fun z => eqV (flV z) (flV (.int i))) = decide (i ∈ ns) := by
    rw [List.any_map]
    induction ns with
    | nil => rfl
    | cons n ns ih =>
      rw [List.any_cons]
      have ih : (ns.any ((fun z => eqV (flV z) (flV (.int i))) ∘ Val.int)) = decide (i ∈ ns) := by
        clear e0 ih
        induction ns with
        | nil => rfl
        | cons n ns ih =>
          rw [List.any_cons, ih]
          show (eqV (flV (.int n)) (flV (.int i)) || _) = _
          rw [eqV_ints]
          by_cases h1 : n = i <;> by_cases h2 : i ∈ ns <;> simp [h1, h2]
          exact fun z => h1 z.symm
      rw [ih]
      show (eqV (flV (.int n)) (flV (.int i)) || _) = _
      rw [eqV_ints]
      by_cases h1 : n = i <;> by_cases h2 : i ∈ ns <;> simp [h1, h2]
      exact fun z => h1 z.symm
  have d0 : dr h (.ref p) = none := by simp only [dr, dicAt, e0]
  simp only [cmpR, inR, sinR, d0, sq_ref e0, all_flt, flt, Bool.and_self, if_true, prW, optW_some, Out.w, t_and, e]
/-- a dict of numbers -/
def dTrue (L : List Int) : KVs := L.map fun i => (.inl i, .bl true)
theorem dTrue_any (i : Int) (L : List Int) : (dTrue L).any (fun kv => decide (kv.1 = .inl i)) = decide (i ∈ L) := by
  unfold dTrue
  rw [Bool.eq_iff_iff]
  simp only [List.any_eq_true, List.mem_map, decide_eq_true_eq]
  constructor
  · rintro ⟨kv, ⟨j, hj, rfl⟩, e⟩
    injection e with e
    rw [← e]; exact hj
  · intro h
    exact ⟨_, ⟨i, h, rfl⟩, rfl⟩
theorem dTrue_dp {i : Int} {L : List Int} (h : i ∉ L) : dp (dTrue L) (.inl i) (.bl true) = dTrue (L ++ [i]) := by
  unfold dp
  rw [dTrue_any]
  simp only [h, decide_false, Bool.false_eq_true, if_false, dTrue, List.map_append]
  rfl
theorem dTrue_dg (i : Int) (L : List Int) : (dg (dTrue L) (.inl i)).isSome = decide (i ∈ L) := by
  rw [← dTrue_any]
  unfold dg
  rw [Option.isSome_map, Bool.eq_iff_iff, List.find?_isSome, List.any_eq_true]
/-- the knots on the way to a key -/
def Tr.path : Tr → Int → List Tr
  | .nil, _ => []
  | .nd l x r, k => .nd l x r :: (if k < x then l.path k else if k > x then r.path k else [])
def Tr.way (t : Tr) (k : Int) : List Int := (t.path k).map Tr.top
/-- the up of a key -/
def _root_.L3.Tr.upAt : Val → Tr → Int → Option Val
  | _, .nil, _ => none
  | u, .nd l k r, j => if j = k then some u else (Tr.upAt (.int k) l j).or (Tr.upAt (.int k) r j)
theorem upAt_none : ∀ (u : Val) (t : Tr) (j : Int), j ∉ t.keys → Tr.upAt u t j = none
  | _, .nil, _, _ => rfl
  | u, .nd l k r, j, h => by
    simp only [Tr.keys, List.mem_append, List.mem_cons, not_or] at h
    rw [Tr.upAt, if_neg h.2.1, upAt_none _ l j h.1, upAt_none _ r j h.2.2]; rfl
theorem upAt_some : ∀ (u : Val) (t : Tr) (j : Int), j ∈ t.keys → t.keys.Nodup → ∃ v, Tr.upAt u t j = some v ∧ (v = u ∨ ∃ i, v = .int i ∧ i ∈ t.keys)
  | _, .nil, _, h, _ => by simp [Tr.keys] at h
  | u, .nd l k r, j, h, hd => by
    simp only [Tr.keys] at hd
    rw [List.nodup_append, List.nodup_cons] at hd
    obtain ⟨n1, ⟨n2, n4⟩, n3⟩ := hd
    simp only [Tr.keys, List.mem_append, List.mem_cons] at h
    rw [Tr.upAt]
    by_cases e : j = k
    · rw [if_pos e]; exact ⟨u, rfl, .inl rfl⟩
    · rw [if_neg e]
      rcases h with h | h | h
      · obtain ⟨v, e1, e2⟩ := upAt_some (.int k) l j h n1
        refine ⟨v, by rw [e1]; rfl, .inr ?_⟩
        rcases e2 with rfl | ⟨i, rfl, hi⟩
        · exact ⟨k, rfl, by simp [Tr.keys]⟩
        · exact ⟨i, rfl, by simp [Tr.keys, hi]⟩
      · exact absurd h e
      · obtain ⟨v, e1, e2⟩ := upAt_some (.int k) r j h n4
        refine ⟨v, by rw [upAt_none _ l j (fun z => n3 j z j (by simp [h]) rfl), e1]; rfl, .inr ?_⟩
        rcases e2 with rfl | ⟨i, rfl, hi⟩
        · exact ⟨k, rfl, by simp [Tr.keys]⟩
        · exact ⟨i, rfl, by simp [Tr.keys, hi]⟩
/-- a pen of two cells -/
def Pen2 (h : Hq) (a : Addr) : Prop := ∃ x z : Int, h a = some (.lst [.int x, .int z])
theorem Pen2.up {g : Hq} {a q : Addr} {c : Cell} (z : q ≠ a) (p : Pen2 g a) : Pen2 (up g q c) a := by
  obtain ⟨x, y, e⟩ := p
  exact ⟨x, y, by rw [up_ne (Ne.symm z)]; exact e⟩
theorem Pen2.er {g : Hq} {a q : Addr} (z : q ≠ a) (p : Pen2 g a) : Pen2 (er g q) a := by
  obtain ⟨x, y, e⟩ := p
  exact ⟨x, y, by rw [er_ne (Ne.symm z)]; exact e⟩
theorem Pen2.ne {g : Hq} {a q : Addr} (p : Pen2 g a) (n : g q = none) : q ≠ a := fun z => by obtain ⟨_, _, e⟩ := p; rw [← z, n] at e; cases e

/-! ### more rules -/
theorem w_dictZ {fz : Bool} {ks : List Int} {vs : List Val} {h : Hq} {Q : QV} : prW (o2R .dictZ fz (.fl (ks.map .int)) (.fl vs) h) Q = alcD fz (dmerge [] ((ks.map fun k => (Sum.inl k : Key)).zip vs)) h Q := by
  have e : mapO keyOf (ks.map Val.int) = some (ks.map fun k => (Sum.inl k : Key)) := mapO_map keyOf _ _ (fun r => rfl) ks
  simp only [o2R, ls, lv, Option.bind_some, e, Option.map_some, prW, optW_some, Out.w, t_and]
theorem find_int (i : Int) (ns : List Int) : (ns.map Val.int).findIdx? (fun z => eqV (flV z) (flV (.int i))) = ns.findIdx? fun j => decide (j = i) := by
  induction ns with
  | nil => rfl
  | cons n ns ih => 
    rw [List.map_cons, List.findIdx?_cons, List.findIdx?_cons, ih, eqV_ints]
theorem find_at {i : Int} : ∀ {pre post : List Int}, i ∉ pre → (pre ++ i :: post).findIdx? (fun j => decide (j = i)) = some pre.length
  | [], post, _ => by simp [List.findIdx?_cons]
  | x :: pre, post, h => by
    have h1 : ¬ x = i := fun z => h (by simp [z])
    rw [List.cons_append, List.findIdx?_cons, find_at (fun z => h (by simp [z]))]
    simp [h1]
theorem w_indexF {pre post : List Int} {i : Int} (hi : i ∉ pre) {h : Hq} {Q : QV} : prW (mthR .index (.fl ((pre ++ i :: post).map .int)) [.int i] h) Q = Q (.int (pre.length : Nat)) h := by
  have e := (find_int i (pre ++ i :: post)).trans (find_at hi)
  simp only [mthR, ixR, ls, lv, Option.bind_some, e, Option.map_some, prW, optW_some, Out.w, all_flt, flt, and_self, t_and]
/-- the tree of a key -/
def _root_.L3.Tr.at_ : Tr → Int → Tr
  | .nil, _ => .nil
  | .nd l x r, k => if k = x then .nd l x r else if k < x then l.at_ k else r.at_ k
theorem at_keys : ∀ {t : Tr} {k : Int}, k ∈ t.keys → t.keys.Pairwise (· < ·) → ∃ l r, t.at_ k = .nd l k r ∧ ∀ j ∈ (t.at_ k).keys, j ∈ t.keys
  | .nil, _, h, _ => by simp [Tr.keys] at h
  | .nd l x r, k, h, hu => by
    simp only [Tr.keys] at hu
    rw [List.pairwise_append, List.pairwise_cons] at hu
    obtain ⟨u1, ⟨u2, u3⟩, u4⟩ := hu
    unfold Tr.at_
    by_cases e : k = x
    · rw [if_pos e]; subst e; exact ⟨l, r, rfl, fun j hj => hj⟩
    · rw [if_neg e]
      simp only [Tr.keys, List.mem_append, List.mem_cons] at h
      by_cases c : k < x
      · rw [if_pos c]
        have hl : k ∈ l.keys := by
          rcases h with h | h | h
          · exact h
          · exact absurd h e
          · have := u2 k h; omega
        obtain ⟨a, b, e1, e2⟩ := at_keys hl u1
        exact ⟨a, b, e1, fun j hj => by simp [Tr.keys, e2 j hj]⟩
      · rw [if_neg c]
        have hr : k ∈ r.keys := by
          rcases h with h | h | h
          · have := u4 k h x (by simp); omega
          · exact absurd h e
          · exact h
        obtain ⟨a, b, e1, e2⟩ := at_keys hr u3
        exact ⟨a, b, e1, fun j hj => by simp [Tr.keys, e2 j hj]⟩

theorem path_last : ∀ {t : Tr} {k : Int}, t.keys.Pairwise (· < ·) → k ∈ t.keys → ∃ pre, t.path k = pre ++ [t.at_ k]
  | .nil, _, _, h => by simp [Tr.keys] at h
  | .nd l x r, k, hu, h => by
    simp only [Tr.keys] at hu
    rw [List.pairwise_append, List.pairwise_cons] at hu
    obtain ⟨u1, ⟨u2, u3⟩, u4⟩ := hu
    simp only [Tr.keys, List.mem_append, List.mem_cons] at h
    unfold Tr.path Tr.at_
    by_cases e : k = x
    · subst e
      rw [if_neg (by omega), if_neg (by omega), if_pos rfl]
      exact ⟨[], rfl⟩
    · rw [if_neg e]
      by_cases c : k < x
      · rw [if_pos c, if_pos c]
        have hl : k ∈ l.keys := by
          rcases h with h | h | h
          · exact h
          · exact absurd h e
          · have := u2 k h; omega
        obtain ⟨pre, ep⟩ := path_last u1 hl
        exact ⟨.nd l x r :: pre, by rw [ep]; rfl⟩
      · rw [if_neg c, if_neg c, if_pos (by omega)]
        have hr : k ∈ r.keys := by
          rcases h with h | h | h
          · have := u4 k h x (by simp); omega
          · exact absurd h e
          · exact h
        obtain ⟨pre, ep⟩ := path_last u3 hr
        exact ⟨.nd l x r :: pre, by rw [ep]; rfl⟩
/-! ### data over live lists, deep -/
section
variable {h : Hq}
theorem dtN_pd {v : Val} {d : PyData} (e : pd v = some d) : ∀ n, dtN n h v = some d
  | 0 => e
  | n + 1 => by unfold dtN; rw [e]
theorem dtN_ref {p : Addr} {xs : List Val} {ds : List PyData} {n : Nat} (e : h p = some (.lst xs)) (q : mapO (dtN n h) xs = some ds) : dtN (n + 1) h (.ref p) = some (.list ds) := by
  unfold dtN
  simp only [pd, e, q, Option.map_some]
theorem dtN_evR {α : Type} [Enc α] {p : Addr} {xs : List α} {n : Nat} (e : h p = some (.lst (xs.map Enc.val))) : dtN (n + 1) h (.ref p) = some (.list (xs.map Enc.dat)) :=
  dtN_ref e (mapO_map _ _ _ (fun x => dtN_pd (Enc.pdv x) n) xs)
theorem dtN_tup {xs : List Val} {ds : List PyData} {n : Nat} (q : mapO (dtN n h) xs = some ds) (q0 : ∀ es, pds xs = some es → es = ds) : dtN (n + 1) h (.tup xs) = some (.tuple ds) := by
  unfold dtN
  cases e : pds xs with
  | none => simp only [pd, e, Option.map_none, q, Option.map_some]
  | some es => simp only [pd, e, Option.map_some, q0 es e]
theorem NL.dtN {α : Type} [Enc α] {h0 : Hq} {p : Addr} {ps : List Addr} {css : List (List α)} {n : Nat} (N : NL h0 h p ps (css.map fun xs => xs.map Enc.val)) : L3.dtN (n + 2) h (.ref p) = some (.list (css.map fun xs => .list (xs.map Enc.dat))) := by
  have go : ∀ (ps : List Addr) (css : List (List α)), ps.length = css.length → (∀ (i : Nat) q c, ps[i]? = some q → css[i]? = some c → h q = some (.lst (c.map Enc.val))) → mapO (L3.dtN (n + 1) h) (ps.map .ref) = some (css.map fun xs => PyData.list (xs.map Enc.dat)) := by
    intro ps
    induction ps with
    | nil => intro css e _; cases css <;> first | rfl | cases e
    | cons q ps ih =>
      intro css e at_
      cases css with
      | nil => cases e
      | cons c css =>
        have e1 := at_ 0 q c rfl rfl
        have e2 := ih css (by simpa using e) (fun i q c a b => at_ (i + 1) q c (by simpa using a) (by simpa using b))
        simp only [List.map_cons, mapO, dtN_evR e1, e2]
  exact dtN_ref N.top (go ps css (by rw [N.len, List.length_map]) (fun i q c a b => N.at_ i q _ a (by rw [List.getElem?_map, b]; rfl)))
theorem w_eqTT {xs ys : List Val} {d : PyData} {Q : QV} (e1 : dtN 6 h (.tup xs) = some d) (e2 : dtN 6 h (.tup ys) = some d) (s : SeqAt.shaped d = true) (l : d.canLay0 = true) :
    (Q (.bl true) h → prW (cmpR .eq (.tup xs) (.tup ys) h) Q) ∧ (Q (.bl false) h → prW (cmpR .ne (.tup xs) (.tup ys) h) Q) := by
  have go : ∀ zs, dtN 6 h (.tup zs) = some d → dt h (.tup zs) = none ∨ dt h (.tup zs) = some d := by
    intro zs e
    show pd (.tup zs) = none ∨ pd (.tup zs) = some d
    cases q : pd (.tup zs) with
    | none => exact .inl rfl
    | some d' => rw [dtN_pd q] at e; exact .inr e
  have r := SeqAt.eqv_refl d l
  have f : ∀ neg, eqR neg (.tup xs) (.tup ys) h = some (SeqAt.shaped d = true ∧ SeqAt.shaped d = true, .v (.bl (if neg then false else true)) h) := by
    intro neg
    unfold eqR
    rcases go xs e1 with a | a <;> rcases go ys e2 with b | b <;> simp only [a, b, e1, e2, r, Bool.not_true]
  constructor
  · intro q
    show prW (eqR false (.tup xs) (.tup ys) h) Q
    rw [f]
    exact ⟨⟨s, s⟩, q⟩
  · intro q
    show prW (eqR true (.tup xs) (.tup ys) h) Q
    rw [f]
    exact ⟨⟨s, s⟩, q⟩
end

/-! ### a layout, however it is laid -/
/-- x tells P, and goes on doing so -/
def LayV (h : Hq) (x : Val) (P : List (List Int)) : Prop := ∃ ys : List (List Int × Val), ys.map (·.1) = P ∧ ∀ h', Grow h h' → lv h' x = some (ys.map (·.2)) ∧ ∀ y ∈ ys, sq h' y.2 = some (y.1.map .int)
theorem layV_fl (h : Hq) (P : List (List Int)) : LayV h (.fl (P.map Enc.val)) P :=
  ⟨P.map fun c => (c, Enc.val c), by rw [List.map_map]; exact List.map_id' P, fun h' _ => ⟨by rw [List.map_map]; rfl, fun y hy => by
    obtain ⟨c, _, rfl⟩ := List.mem_map.mp hy
    rfl⟩⟩
theorem LayV.grow {h h1 : Hq} {x : Val} {P : List (List Int)} (l : LayV h x P) (g : Grow h h1) : LayV h1 x P := by
  obtain ⟨ys, e, q⟩ := l
  exact ⟨ys, e, fun h' g' => q h' (g.trans g')⟩
theorem NL.layV {h0 h : Hq} {p : Addr} {ps : List Addr} {css : List (List Int)} (N : NL h0 h p ps (css.map fun c => c.map .int)) : LayV h (.ref p) css := by
  have hl := N.len
  rw [List.length_map] at hl
  refine ⟨css.zip (ps.map .ref), List.map_fst_zip (by rw [List.length_map]; omega), fun h' g => ⟨?_, fun y hy => ?_⟩⟩
  · rw [List.map_snd_zip (by rw [List.length_map]; omega)]
    exact lv_ref (g _ _ N.top)
  · obtain ⟨i, hi⟩ := List.getElem?_of_mem hy
    rw [List.getElem?_zip_eq_some] at hi
    obtain ⟨h1, h2⟩ := hi
    rw [List.getElem?_map] at h2
    obtain ⟨q, e1, e2⟩ := Option.map_eq_some_iff.mp h2
    rw [← e2]
    exact sq_ref (g _ _ (N.at_ i q _ e1 (by rw [List.getElem?_map, h1]; rfl)))
theorem w_lenQ {fz : Bool} {h : Hq} {Q : QV} {v : Val} {xs : List Val} (e : sq h v = some xs) : prW (bltR .len fz [v] h) Q = Q (.int (xs.length : Nat)) h := by
  simp only [bltR, e, prW, optW_some, Out.w, t_and]
/-! ### the trees within a tree -/
def _root_.L3.Tr.subs : Tr → List Tr
  | .nil => []
  | .nd l k r => .nd l k r :: (l.subs ++ r.subs)
theorem subs_self {t : Tr} (h : t ≠ .nil) : t ∈ t.subs := by
  obtain ⟨l, k, r, rfl⟩ := tv_ne h
  simp [Tr.subs]
theorem subs_ne {s : Tr} : ∀ {t : Tr}, s ∈ t.subs → s ≠ .nil
  | .nil, h => by simp [Tr.subs] at h
  | .nd l k r, h => by
    simp only [Tr.subs, List.mem_cons, List.mem_append] at h
    rcases h with rfl | h | h
    · exact fun z => by cases z
    · exact subs_ne h
    · exact subs_ne h
theorem subs_trans {u s : Tr} : ∀ {t : Tr}, u ∈ s.subs → s ∈ t.subs → u ∈ t.subs
  | .nil, _, h => by simp [Tr.subs] at h
  | .nd l k r, hu, h => by
    simp only [Tr.subs, List.mem_cons, List.mem_append] at h ⊢
    rcases h with rfl | h | h
    · simpa only [Tr.subs, List.mem_cons, List.mem_append] using hu
    · exact .inr (.inl (subs_trans hu h))
    · exact .inr (.inr (subs_trans hu h))
theorem subs_l {l r : Tr} {k : Int} {t : Tr} (h : .nd l k r ∈ t.subs) (hl : l ≠ .nil) : l ∈ t.subs := subs_trans (by simp [Tr.subs, subs_self hl]) h
theorem subs_r {l r : Tr} {k : Int} {t : Tr} (h : .nd l k r ∈ t.subs) (hl : r ≠ .nil) : r ∈ t.subs := subs_trans (by simp [Tr.subs, subs_self hl]) h
theorem subs_keys {s : Tr} : ∀ {t : Tr}, s ∈ t.subs → s.keys.Sublist t.keys
  | .nil, h => by simp [Tr.subs] at h
  | .nd l k r, h => by
    simp only [Tr.subs, List.mem_cons, List.mem_append] at h
    rcases h with rfl | h | h
    · exact List.Sublist.refl _
    · exact (subs_keys h).trans (by simp only [Tr.keys]; exact List.sublist_append_left _ _)
    · exact (subs_keys h).trans (by simp only [Tr.keys]; exact (List.sublist_cons_self _ _).trans (List.sublist_append_right _ _))
theorem subs_ht {s : Tr} : ∀ {t : Tr}, s ∈ t.subs → s.ht ≤ t.ht
  | .nil, h => by simp [Tr.subs] at h
  | .nd l k r, h => by
    simp only [Tr.subs, List.mem_cons, List.mem_append] at h
    rcases h with rfl | h | h
    · exact Nat.le_refl _
    · have := subs_ht h; simp only [Tr.ht]; omega
    · have := subs_ht h; simp only [Tr.ht]; omega
theorem subs_top {s t : Tr} (h : s ∈ t.subs) : s.top ∈ t.keys := by
  obtain ⟨l, k, r, rfl⟩ := tv_ne (subs_ne h)
  exact (subs_keys h).mem (by simp [Tr.keys, Tr.top])

end L3

set_option Elab.async false
set_option linter.all false
set_option maxRecDepth 100000
namespace L3
open PySem PySem.Spec PyProof.Rows L2
local macro_rules | `(tactic| walk_at "d") => `(tactic| first | assumption | exact up_same | exact dr_fd _ _ | exact dr_wd _ _ | exact dr_ref (by assumption) | exact dr_ref up_same | exact keyOf_int | (exact (rfl : isNop _ = false)) | exact keyOf_str | exact tyOf_fl | exact tyOf_str | exact tyOf_non | exact tyOf_int | exact tyOf_tup | exact tyOf_bl | exact tyOf_ref (by assumption) | exact tyOf_ref up_same | (intro z; cases z))
local macro_rules | `(tactic| walk_at "w") => `(tactic| try simp -implicitDefEqProofs (disch := walk_at "d") only [↓wpE, ↓wpA, ↓wpB, ↓wpT, ↓wpTs, ↓wpI, ↓wpS, ↓wpSs, ↓optW_some, ↓w_lk0, ↓w_lkS, ↓w_bs, ↓w_strI, ↓w_lenStr, ↓w_slcS, ↓w_inS, ↓w_notinS, ↓w_join, ↓w_split, ↓w_find, ↓w_find3, ↓w_ok_join, ↓w_ok_split, ↓w_ok_find, ↓w_chs, isN_str, tyOf_str, ↓w_bl0, ↓w_bl1, ↓w_k1, ↓w_kS, ↓w_b0, ↓w_b1, ↓w_b2, ↓w_b3, ↓w_b4, ↓w_b5, ↓w_b6, ↓w_b7, ↓w_b8, ↓w_b9, ↓w_b10, ↓w_b11, ↓w_b12, ↓w_b13, ↓w_b14, ↓w_b15, ↓w_b16, ↓w_b17, ↓w_b18, ↓w_b19, ↓w_b20, ↓w_b21, ↓w_b22, ↓w_b23, ↓w_b24, ↓w_b25, ↓alc_fz, ↓alc_lv, ↓w_dictZ, ↓w_eqNN, ↓w_add, ↓w_addS, ↓w_addL, ↓w_addT, ↓w_sub, ↓w_mul, ↓w_fdiv, ↓w_mod, ↓w_pow, ↓w_shl, ↓w_shr, ↓w_band, ↓w_eqI, ↓w_neI, ↓w_eqS, ↓w_neS, ↓w_lt, ↓w_le, ↓w_gt, ↓w_ge, ↓w_is, ↓w_isnot, ↓w_isB, ↓w_isnotB, ↓w_neF0, ↓w_eqF0, ↓w_neI_L, ↓w_eqI_L, ↓w_eqLL, ↓w_neDL, ↓w_eqDL, ↓w_idxR, ↓w_slcF, ↓w_slcT, ↓w_insert, ↓w_lrange, ↓w_revF, ↓w_revR, ↓w_tmul, ↓w_ok_indexF, ↓w_inI, ↓w_notinI, ↓w_eqEE, ↓w_neEE, ↓w_eqE0, ↓w_neE0, ↓w_eqRE, ↓w_neRE, ↓w_maxF, ↓w_minF, ↓w_eqB, ↓w_neB, ↓w_sortPF, ↓w_allF, ↓w_anyF, ↓w_slcR, ↓w_oi1, ↓w_oi2, ↓w_idxD, ↓w_inD, ↓w_notinD, ↓w_okD, ↓w_okDF, ↓w_okU, ↓w_get1N, ↓w_get2N, ↓w_get1, ↓w_get2, ↓w_upd, ↓w_putD, ↓w_frzD', ↓alcD_fz, ↓alcD_lv, ↓w_rep, ↓w_sortR, ↓w_sortF, ↓w_sumF, ↓w_idxF, ↓w_idxT, ↓w_idxS, ↓w_lenR, ↓w_lenF, ↓w_lenT, ↓w_lenS, ↓w_abs, ↓w_max2, ↓w_min2, ↓w_listF, ↓w_listT, ↓w_listR, ↓w_tupleF, ↓w_int, ↓w_intB, ↓w_isi, ↓w_ok_append, ↓w_ok_extend, ↓w_ok_pop, ↓w_ok_insert, ↓w_ok_reverse, ↓w_ok_clear, ↓w_ok_index, ↓w_ok_count, ↓w_append, ↓w_extend, ↓w_reverse, ↓w_clear, ↓w_frz, ↓w_set0, ↓w_set1, ↓w_set2, ↓w_at0, ↓w_at1, ↓w_at2, ↓w_at3, ↓w_blOf, ↓w_intOf, ↓w_refOf, ↓w_cellO, ↓wdK_wd, ↓w_lenDW, lockC_dic, lockC_lst, isN_wd, ↓w_truB, ↓w_truI, ↓w_truF, ↓w_truT, ↓w_truN, ↓optI, ↓isNop, optW_some, isN_non, isN_int, isN_tup, isN_fl, isN_ref, lv_fl, ls_fl, sq_fl, sq_tup, ls_sc, sq_sc, lv_up, ls_up, sq_up, tyOf_fl, tyOf_int, tyOf_tup, tyOf_bl, tyOf_ref, Option.bind_some, List.length_cons, List.length_nil, reduceIte, Bool.false_eq_true, if_true, if_false, List.map_cons, List.map_nil, List.replicate, List.cons_append, List.nil_append, Nat.reduceSub, Nat.reduceAdd, Nat.reduceLeDiff, Int.reduceLT, Int.reduceLE, Int.reduceNeg, Int.reduceToNat, Int.reducePow, and_true, true_and, or_true, true_or, decide_eq_true_eq, Bool.not_eq_true', decide_eq_false_iff_not, up_up, decide_true, decide_false, not_true_eq_false, not_false_eq_true, Bool.not_true, Bool.not_false, List.any_cons, List.any_nil, Bool.or_false, Bool.or_true, Bool.true_or, Bool.false_or, List.mem_cons, List.not_mem_nil, or_false, false_or, reduceCtorEq, sq_ref, lv_ref, ls_ref])
local macro_rules | `(tactic| walk_at "e") => `(tactic| simp only [List.map_cons, List.map_nil, List.replicate, List.cons_append, List.nil_append, Nat.reduceSub])
local macro_rules | `(tactic| walk_at "i") => `(tactic| try simp only [Bool.true_eq_false, Bool.false_eq_true, Bool.not_true, Bool.not_false, Bool.and_true, Bool.true_and, Bool.and_false, Bool.false_and, if_false, if_true, reduceIte, decide_true, decide_false, not_true_eq_false, not_false_eq_true, eq_self])
/-! ### marks in plain words -/
namespace Tr
/-- the rule -/
def ruleM (room : Int) (ms : List (Int × Int)) : Int × Int :=
  if ms = [] then (1, 1) else
    if 1 + ((ms.filter fun m => decide (m.1 = maxL (ms.map (·.1)))).map (·.2)).sum ≤ room then (maxL (ms.map (·.1)), 1 + ((ms.filter fun m => decide (m.1 = maxL (ms.map (·.1)))).map (·.2)).sum)
    else (maxL (ms.map (·.1)) + 1, 1)
def sides : Tr → List Tr
  | .nil => []
  | .nd l _ r => [l, r].filter fun t => decide (t ≠ .nil)
theorem sides_ne {l r : Tr} {k : Int} {s : Tr} (h : s ∈ sides (.nd l k r)) : s ≠ .nil ∧ (s = l ∨ s = r) := by
  simp only [sides, List.mem_filter, List.mem_cons, List.not_mem_nil, or_false, decide_eq_true_eq] at h
  exact ⟨h.2, h.1⟩
theorem sides_len (l r : Tr) (k : Int) : (sides (.nd l k r)).length ≤ 2 := List.length_filter_le (fun t => decide (t ≠ Tr.nil)) [l, r]
def mk (room : Int) : Tr → Int × Int
  | .nil => (0, 0)
  | .nd l _ r => ruleM room ((if l = .nil then [] else [mk room l]) ++ (if r = .nil then [] else [mk room r]))
theorem mk_nd (room : Int) (l r : Tr) (k : Int) : mk room (.nd l k r) = ruleM room ((sides (.nd l k r)).map (mk room)) := by
  rw [mk]
  unfold sides
  cases l <;> cases r <;> simp
/-- the rows, by key -/
def rows (room : Int) : Tr → List (Int × Int × Int)
  | .nil => []
  | .nd l k r => rows room l ++ (k, (mk room (.nd l k r)).1, (mk room (.nd l k r)).2) :: rows room r
/-- the mark of a key -/
def mkAt (room : Int) : Tr → Int → Option (Int × Int)
  | .nil, _ => none
  | .nd l k r, j => if j = k then some (mk room (.nd l k r)) else (mkAt room l j).or (mkAt room r j)
theorem mkAt_none (room : Int) : ∀ (t : Tr) (j : Int), j ∉ t.keys → mkAt room t j = none
  | .nil, _, _ => rfl
  | .nd l k r, j, h => by
    simp only [keys, List.mem_append, List.mem_cons, not_or] at h
    rw [mkAt, if_neg h.2.1, mkAt_none room l j h.1, mkAt_none room r j h.2.2]; rfl
theorem mkAt_some (room : Int) : ∀ (t : Tr) (j : Int), j ∈ t.keys → ∃ m, mkAt room t j = some m
  | .nil, _, h => by simp [keys] at h
  | .nd l k r, j, h => by
    simp only [keys, List.mem_append, List.mem_cons] at h
    rw [mkAt]
    split
    · exact ⟨_, rfl⟩
    · rename_i c
      rcases h with h | h | h
      · obtain ⟨m, e⟩ := mkAt_some room l j h
        exact ⟨m, by rw [e]; rfl⟩
      · exact absurd h c
      · obtain ⟨m, e⟩ := mkAt_some room r j h
        cases q : mkAt room l j with
        | none => exact ⟨m, by rw [e]; rfl⟩
        | some m' => exact ⟨m', rfl⟩
/-- rows, from the marks of the keys -/
theorem rows_eq (room : Int) (f : Int → Int × Int) : ∀ t : Tr, t.keys.Nodup → (∀ j ∈ t.keys, mkAt room t j = some (f j)) → rows room t = t.keys.map fun j => (j, (f j).1, (f j).2)
  | .nil, _, _ => rfl
  | .nd l k r, hn, h => by
    simp only [keys] at hn h ⊢
    rw [List.nodup_append] at hn
    obtain ⟨n1, n2, n3⟩ := hn
    rw [List.nodup_cons] at n2
    have kl : k ∉ l.keys := fun z => n3 k z k List.mem_cons_self rfl
    rw [rows, List.map_append, List.map_cons]
    have hk := h k (by simp)
    rw [mkAt, if_pos rfl] at hk
    have hk' := Option.some.inj hk
    rw [hk']
    have h1 := rows_eq room f l n1 fun j hj => by
      have := h j (by simp [hj])
      rw [mkAt, if_neg (fun z : j = k => kl (z ▸ hj)), mkAt_none room r j (fun z => n3 j hj j (by simp [z]) rfl), Option.or_none] at this
      exact this
    have h2 := rows_eq room f r n2.2 fun j hj => by
      have := h j (by simp [hj])
      rw [mkAt, if_neg (fun z : j = k => n2.1 (z ▸ hj)), mkAt_none room l j (fun z => n3 j z j (by simp [hj]) rfl)] at this
      exact this
    rw [h1, h2]
end Tr

end L3

set_option Elab.async false
set_option linter.all false
set_option maxRecDepth 100000
namespace L3
open PySem PySem.Spec PyProof.Rows L2
local macro_rules | `(tactic| walk_at "d") => `(tactic| first | assumption | exact up_same | exact dr_fd _ _ | exact dr_wd _ _ | exact dr_ref (by assumption) | exact dr_ref up_same | exact keyOf_int | (exact (rfl : isNop _ = false)) | exact keyOf_str | exact tyOf_fl | exact tyOf_str | exact tyOf_non | exact tyOf_int | exact tyOf_tup | exact tyOf_bl | exact tyOf_ref (by assumption) | exact tyOf_ref up_same | (intro z; cases z))
local macro_rules | `(tactic| walk_at "w") => `(tactic| try simp -implicitDefEqProofs (disch := walk_at "d") only [↓wpE, ↓wpA, ↓wpB, ↓wpT, ↓wpTs, ↓wpI, ↓wpS, ↓wpSs, ↓optW_some, ↓w_lk0, ↓w_lkS, ↓w_bs, ↓w_strI, ↓w_lenStr, ↓w_slcS, ↓w_inS, ↓w_notinS, ↓w_join, ↓w_split, ↓w_find, ↓w_find3, ↓w_ok_join, ↓w_ok_split, ↓w_ok_find, ↓w_chs, isN_str, tyOf_str, ↓w_bl0, ↓w_bl1, ↓w_k1, ↓w_kS, ↓w_b0, ↓w_b1, ↓w_b2, ↓w_b3, ↓w_b4, ↓w_b5, ↓w_b6, ↓w_b7, ↓w_b8, ↓w_b9, ↓w_b10, ↓w_b11, ↓w_b12, ↓w_b13, ↓w_b14, ↓w_b15, ↓w_b16, ↓w_b17, ↓w_b18, ↓w_b19, ↓w_b20, ↓w_b21, ↓w_b22, ↓w_b23, ↓w_b24, ↓w_b25, ↓alc_fz, ↓alc_lv, ↓w_dictZ, ↓w_eqNN, ↓w_add, ↓w_addS, ↓w_addL, ↓w_addT, ↓w_sub, ↓w_mul, ↓w_fdiv, ↓w_mod, ↓w_pow, ↓w_shl, ↓w_shr, ↓w_band, ↓w_eqI, ↓w_neI, ↓w_eqS, ↓w_neS, ↓w_lt, ↓w_le, ↓w_gt, ↓w_ge, ↓w_is, ↓w_isnot, ↓w_isB, ↓w_isnotB, ↓w_neF0, ↓w_eqF0, ↓w_neI_L, ↓w_eqI_L, ↓w_eqLL, ↓w_neDL, ↓w_eqDL, ↓w_idxR, ↓w_slcF, ↓w_slcT, ↓w_insert, ↓w_lrange, ↓w_revF, ↓w_revR, ↓w_tmul, ↓w_ok_indexF, ↓w_inI, ↓w_notinI, ↓w_eqEE, ↓w_neEE, ↓w_eqE0, ↓w_neE0, ↓w_eqRE, ↓w_neRE, ↓w_maxF, ↓w_minF, ↓w_eqB, ↓w_neB, ↓w_sortPF, ↓w_allF, ↓w_anyF, ↓w_slcR, ↓w_oi1, ↓w_oi2, ↓w_idxD, ↓w_inD, ↓w_notinD, ↓w_okD, ↓w_okDF, ↓w_okU, ↓w_get1N, ↓w_get2N, ↓w_get1, ↓w_get2, ↓w_upd, ↓w_putD, ↓w_frzD', ↓alcD_fz, ↓alcD_lv, ↓w_rep, ↓w_sortR, ↓w_sortF, ↓w_sumF, ↓w_idxF, ↓w_idxT, ↓w_idxS, ↓w_lenR, ↓w_lenF, ↓w_lenT, ↓w_lenS, ↓w_abs, ↓w_max2, ↓w_min2, ↓w_listF, ↓w_listT, ↓w_listR, ↓w_tupleF, ↓w_int, ↓w_intB, ↓w_isi, ↓w_ok_append, ↓w_ok_extend, ↓w_ok_pop, ↓w_ok_insert, ↓w_ok_reverse, ↓w_ok_clear, ↓w_ok_index, ↓w_ok_count, ↓w_append, ↓w_extend, ↓w_reverse, ↓w_clear, ↓w_frz, ↓w_set0, ↓w_set1, ↓w_set2, ↓w_at0, ↓w_at1, ↓w_at2, ↓w_at3, ↓w_blOf, ↓w_intOf, ↓w_refOf, ↓w_cellO, ↓wdK_wd, ↓w_lenDW, lockC_dic, lockC_lst, isN_wd, ↓w_truB, ↓w_truI, ↓w_truF, ↓w_truT, ↓w_truN, ↓optI, ↓isNop, optW_some, isN_non, isN_int, isN_tup, isN_fl, isN_ref, lv_fl, ls_fl, sq_fl, sq_tup, ls_sc, sq_sc, lv_up, ls_up, sq_up, tyOf_fl, tyOf_int, tyOf_tup, tyOf_bl, tyOf_ref, Option.bind_some, List.length_cons, List.length_nil, reduceIte, Bool.false_eq_true, if_true, if_false, List.map_cons, List.map_nil, List.replicate, List.cons_append, List.nil_append, Nat.reduceSub, Nat.reduceAdd, Nat.reduceLeDiff, Int.reduceLT, Int.reduceLE, Int.reduceNeg, Int.reduceToNat, Int.reducePow, and_true, true_and, or_true, true_or, decide_eq_true_eq, Bool.not_eq_true', decide_eq_false_iff_not, up_up, decide_true, decide_false, not_true_eq_false, not_false_eq_true, Bool.not_true, Bool.not_false, List.any_cons, List.any_nil, Bool.or_false, Bool.or_true, Bool.true_or, Bool.false_or, List.mem_cons, List.not_mem_nil, or_false, false_or, reduceCtorEq, sq_ref, lv_ref, ls_ref])
local macro_rules | `(tactic| walk_at "e") => `(tactic| simp only [List.map_cons, List.map_nil, List.replicate, List.cons_append, List.nil_append, Nat.reduceSub])
local macro_rules | `(tactic| walk_at "i") => `(tactic| try simp only [Bool.true_eq_false, Bool.false_eq_true, Bool.not_true, Bool.not_false, Bool.and_true, Bool.true_and, Bool.and_false, Bool.false_and, if_false, if_true, reduceIte, decide_true, decide_false, not_true_eq_false, not_false_eq_true, eq_self])
def HasMk (F : Fs) : Prop := F f_kids_of = some d_kids_of ∧ F f_mark_by = some d_mark_by ∧ F f_mark_all = some d_mark_all ∧ F f_marks_known = some d_marks_known
section
variable {F : Fs}
theorem kids_ok (hF : F f_kids_of = some d_kids_of) {h : Hq} {E : QE} {l r : Tr} {k : Int} {n : Nat} {Q : QV} (q : Q (.fl (((Tr.nd l k r).sides).map Tr.tv)) h) : CN F (n + 1) f_kids_of [(Tr.nd l k r).tv] h Q E := by
  refine CN_go hF rfl ?_
  unfold d_kids_of
  simp only [Tr.tv]
  walk_at "e"
  walk_at "w"
  refine comp_ok (fun ρ h Q Q' k w => moT F n p_kids_of_1 ρ h Q Q' (fun _ _ => False) k w) (fun ρ h Q Q' k w => moE F n e_kids_of_1 ρ h Q Q' (fun _ _ => False) k w) Tr.tv [l, r] (fun t => if t ≠ .nil then some t.tv else none) (by simp) ?_ ?_
  · intro p acc hp
    refine ⟨trivial, fun s hs => ⟨[some (Tr.nd l k r).tv, some s.tv], rfl, fun K q => ?_⟩⟩
    unfold p_kids_of_1
    walk_at "w"
    cases s with
    | nil => simpa [Tr.tv, isN] using q
    | nd a b c =>
      unfold e_kids_of_1
      simp only [Tr.tv, isN_tup]
      walk_at "w"
      simpa [Tr.tv] using q
  · rw [filterMap_if, alc_fz]
    exact q
theorem mark_by_ok (hF : F f_mark_by = some d_mark_by) {h : Hq} {E : QE} {room : Int} {ms : List (Int × Int)} {n : Nat} {Q : QV} (hl : ms.length ≤ 100) (q : Q (Enc.val (Tr.ruleM room ms)) h) : CN F (n + 1) f_mark_by [.int room, .fl (ms.map Enc.val)] h Q E := by
  refine CN_go hF rfl ?_
  unfold d_mark_by
  walk_at "e"
  walk_at "w"
  unfold Tr.ruleM at q
  split
  · rename_i e
    rw [if_pos e] at q
    exact q
  · rename_i hne
    rw [if_neg hne] at q
    refine comp_ok (fun ρ h Q Q' k w => moT F n .nop ρ h Q Q' (fun _ _ => False) k w) (fun ρ h Q Q' k w => moE F n e_mark_by_1 ρ h Q Q' (fun _ _ => False) k w) Enc.val ms (fun m => some (Val.int m.1)) (by omega) ?_ ?_
    · intro p acc hp
      refine ⟨trivial, fun m hm => ⟨[some (.int room), some (.fl (ms.map Enc.val)), none, some (Enc.val m), none], rfl, fun K q => ?_⟩⟩
      unfold e_mark_by_1
      rw [ev2]
      walk_at "w"
      exact q
    · rw [filterMap_one, alc_fz, show (ms.map fun m : Int × Int => Val.int m.1) = (ms.map (·.1)).map Val.int by rw [List.map_map]; rfl]
      walk_at "w"
      refine ⟨by simpa using hne, ?_⟩
      generalize maxL (ms.map (·.1)) = L at q ⊢
      refine comp_ok (fun ρ h Q Q' k w => moT F n p_mark_by_2 ρ h Q Q' (fun _ _ => False) k w) (fun ρ h Q Q' k w => moE F n e_mark_by_2 ρ h Q Q' (fun _ _ => False) k w) Enc.val ms (fun m => if m.1 = L then some (Val.int m.2) else none) (by omega) ?_ ?_
      · intro p acc hp
        refine ⟨trivial, fun m hm => ⟨[some (.int room), some (.fl (ms.map Enc.val)), some (.int L), some (Enc.val m), none], rfl, fun K q => ?_⟩⟩
        unfold p_mark_by_2
        rw [ev2]
        walk_at "w"
        unfold e_mark_by_2
        walk_at "w"
        by_cases c : m.1 = L
        · simpa [c] using q
        · simpa [c] using q
      · rw [filterMap_if, alc_fz, show ((ms.filter fun p => decide (p.1 = L)).map fun m : Int × Int => Val.int m.2) = ((ms.filter fun p => decide (p.1 = L)).map (·.2)).map Val.int by rw [List.map_map]; rfl]
        walk_at "w"
        split
        · rename_i c
          rw [if_pos c] at q
          exact q
        · rename_i c
          rw [if_neg c] at q
          exact q
theorem keys_of_ok (hF : F f_keys_of = some d_keys_of) {h : Hq} {E : QE} : ∀ (t : Tr) (n : Nat) {Q : QV}, t.ht < n → t.size ≤ 1000 → Q (.fl (t.keys.map .int)) h → CN F n f_keys_of [t.tv] h Q E
  | t, 0, Q, hn, _, q => by omega
  | .nil, n + 1, Q, hn, _, q => by
    refine CN_go hF rfl ?_
    unfold d_keys_of
    simp only [Tr.tv]
    walk_at "e"
    walk_at "w"
    exact q
  | .nd l j r, n + 1, Q, hn, hs, q => by
    refine CN_go hF rfl ?_
    unfold d_keys_of
    simp only [Tr.tv]
    walk_at "e"
    walk_at "w"
    simp only [Tr.ht] at hn
    simp only [Tr.size] at hs
    have h1 := Tr.keys_len l
    have h2 := Tr.keys_len r
    refine keys_of_ok hF l n (by omega) (by omega) ?_
    walk_at "w"
    refine ⟨by rw [List.length_map]; omega, ?_⟩
    refine keys_of_ok hF r n (by omega) (by omega) ?_
    walk_at "w"
    refine ⟨by simp only [List.length_append, List.length_map, List.length_cons, List.length_nil]; omega, ?_⟩
    simpa [Tr.keys] using q
end
section
variable {F : Fs}
theorem mkAt_top (room : Int) {t : Tr} (h : t ≠ .nil) : Tr.mkAt room t t.top = some (Tr.mk room t) ∧ t.top ∈ t.keys := by
  cases t with
  | nil => exact absurd rfl h
  | nd l k r => exact ⟨by rw [Tr.mkAt, Tr.top, if_pos rfl], by simp [Tr.keys, Tr.top]⟩
theorem mark_all_ok (hm : HasMk F) {a : Addr} {room : Int} {E : QE} : ∀ (t : Tr) (n : Nat) {h : Hq} {kvs : KVs} {Q : QV}, t.ht + 1 < n → t.keys.Nodup → h a = some (.dic kvs) → kvs.length + t.size ≤ 1000 →
    (∀ kvs', (∀ j : Int, dg kvs' (.inl j) = ((Tr.mkAt room t j).map Enc.val).or (dg kvs (.inl j))) → kvs'.length ≤ kvs.length + t.size → Q .non (up h a (.dic kvs'))) → CN F n f_mark_all [t.tv, .int room, .ref a] h Q E
  | t, 0, h, kvs, Q, hn, _, _, _, q => by omega
  | .nil, n + 1, h, kvs, Q, hn, _, hl, _, q => by
    obtain ⟨m1, m2, m3, m4⟩ := hm
    refine CN_go m3 rfl ?_
    unfold d_mark_all
    simp only [Tr.tv]
    walk_at "e"
    walk_at "w"
    have := q kvs (fun j => by simp [Tr.mkAt]) (by omega)
    rw [up_id hl] at this
    exact this
  | .nd l k r, n + 1, h, kvs, Q, hn, hd, hl, hz, q => by
    have hm' := hm
    obtain ⟨m1, m2, m3, m4⟩ := hm
    refine CN_go m3 rfl ?_
    unfold d_mark_all
    simp only [Tr.tv]
    walk_at "e"
    walk_at "w"
    simp only [Tr.ht] at hn
    simp only [Tr.size] at hz
    simp only [Tr.keys] at hd
    rw [List.nodup_append] at hd
    obtain ⟨n1, n2, n3⟩ := hd
    rw [List.nodup_cons] at n2
    have kl : k ∉ l.keys := fun z => n3 k z k List.mem_cons_self rfl
    have lr : ∀ j, j ∈ l.keys → j ∉ r.keys := fun j h1 h2 => n3 j h1 j (by simp [h2]) rfl
    obtain ⟨n, rfl⟩ : ∃ m, n = m + 1 := ⟨n - 1, by omega⟩
    refine for_two trivial ?_
    simp only [List.set]
    unfold b_mark_all_1
    walk_at "w"
    refine mark_all_ok hm' l (n + 1) (by omega) n1 hl (by omega) fun kvs1 g1 z1 => ?_
    simp only [List.set]
    walk_at "w"
    refine mark_all_ok hm' r (n + 1) (by omega) n2.2 up_same (by omega) fun kvs2 g2 z2 => ?_
    rw [up_up]
    unfold c_mark_all_1
    walk_at "w"
    rw [show (Val.tup [l.tv, .int k, r.tv]) = (Tr.nd l k r).tv from rfl]
    refine kids_ok m1 ?_
    walk_at "w"
    have look : ∀ s ∈ Tr.sides (.nd l k r), dg kvs2 (.inl s.top) = some (Enc.val (Tr.mk room s)) := by
      intro s hs
      obtain ⟨s1, s2⟩ := Tr.sides_ne hs
      obtain ⟨t1, t2⟩ := mkAt_top room s1
      rw [g2]
      rcases s2 with rfl | rfl
      · rw [Tr.mkAt_none room r _ (lr _ t2), g1, t1]; rfl
      · rw [t1]; rfl
    refine comp_ok (fun ρ h Q Q' k w => moT F (n + 1) .nop ρ h Q Q' (fun _ _ => False) k w) (fun ρ h Q Q' k w => moE F (n + 1) e_mark_all_1 ρ h Q Q' (fun _ _ => False) k w) Tr.tv (Tr.sides (.nd l k r)) (fun s => some (Enc.val (Tr.mk room s))) (by have := Tr.sides_len l r k; omega) ?_ ?_
    · intro p acc hp
      refine ⟨trivial, fun s hs => ⟨[some (Tr.nd l k r).tv, some (.int room), some (.ref a), some r.tv, some s.tv], rfl, fun K q => ?_⟩⟩
      unfold e_mark_all_1
      have lk := look s hs
      obtain ⟨sl, sk, sr, rfl⟩ := tv_ne (Tr.sides_ne hs).1
      simp only [Tr.tv]
      have e5 : (up (up h a (.dic kvs2)) p (.lst acc)) a = some (.dic kvs2) := by
        rw [up_ne (fun z => by rw [← z, up_same] at hp; cases hp), up_same]
      walk_at "w"
      rw [show dg kvs2 (.inl sk) = some (Enc.val (Tr.mk room (.nd sl sk sr))) from lk]
      exact q
    · rw [filterMap_one, alc_fz, show ((Tr.sides (.nd l k r)).map fun s => (Enc.val (Tr.mk room s) : Val)) = ((Tr.sides (.nd l k r)).map (Tr.mk room)).map Enc.val by rw [List.map_map]; rfl]
      refine mark_by_ok m2 (by have := Tr.sides_len l r k; rw [List.length_map]; omega) ?_
      rw [← Tr.mk_nd]
      walk_at "w"
      refine ⟨by omega, ?_⟩
      refine q _ (fun j => ?_) (by have := dp_len kvs2 (.inl k) (Enc.val (Tr.mk room (.nd l k r))); simp only [Tr.size]; omega)
      rw [dg_dp, Tr.mkAt]
      by_cases e : j = k
      · subst e; rw [if_pos rfl, if_pos rfl]; rfl
      · rw [if_neg (fun z => e (Sum.inl.inj z)), if_neg e, g2, g1]
        by_cases c : j ∈ l.keys
        · rw [Tr.mkAt_none room r j (lr j c)]; simp
        · rw [Tr.mkAt_none room l j c]; simp
theorem marks_known_ok (hm : HasMk F) {room : Int} {E : QE} {t : Tr} {n : Nat} {h : Hq} {Q : QV} (hn : t.ht + 2 < n) (hd : t.keys.Nodup) (hz : t.size ≤ 1000)
    (q : ∀ kvs, (∀ j : Int, dg kvs (.inl j) = (Tr.mkAt room t j).map Enc.val) → Q (fdOf kvs) h) : CN F n f_marks_known [t.tv, .int room] h Q E := by
  obtain ⟨n, rfl⟩ : ∃ m, n = m + 1 := ⟨n - 1, by omega⟩
  have hm' := hm
  obtain ⟨m1, m2, m3, m4⟩ := hm
  refine CN_go m4 rfl ?_
  unfold d_marks_known
  walk_at "e"
  walk_at "w"
  intro p hp
  refine mark_all_ok hm' t n (by omega) hd up_same (by simpa using hz) fun kvs g z => ?_
  rw [up_up]
  walk_at "w"
  rw [er_up hp]
  exact q kvs fun j => by rw [g]; simp [dg]
theorem marks_e (room : Int) {t : Tr} {kvs : KVs} (g : ∀ j : Int, dg kvs (.inl j) = (Tr.mkAt room t j).map Enc.val) (hd : t.keys.Nodup) :
    ∃ f : Int → Int × Int, (∀ j ∈ t.keys, dg kvs (.inl j) = some (Enc.val (f j))) ∧ t.keys.map (fun j => (j, (f j).1, (f j).2)) = Tr.rows room t ∧ ∀ j ∈ t.keys, Tr.mkAt room t j = some (f j) := by
  have hf : ∀ j ∈ t.keys, Tr.mkAt room t j = some ((Tr.mkAt room t j).getD (0, 0)) := fun j hj => by
    obtain ⟨m, e⟩ := Tr.mkAt_some room t j hj
    rw [e]; rfl
  refine ⟨fun j => (Tr.mkAt room t j).getD (0, 0), fun j hj => ?_, ?_, hf⟩
  · have := hf j hj
    rw [g, this]; rfl
  · exact (Tr.rows_eq room (fun j => (Tr.mkAt room t j).getD (0, 0)) t hd hf).symm
theorem marks_ok (hm : HasMk F) (hK : F f_keys_of = some d_keys_of) (hF : F f_marks = some d_marks) {room : Int} {E : QE} {t : Tr} {n : Nat} {h : Hq} {Q : QV} (hn : t.ht + 3 < n) (hd : t.keys.Nodup) (hz : t.size ≤ 1000)
    (q : Q (.fl ((Tr.rows room t).map Enc.val)) h) : CN F n f_marks [t.tv, .int room] h Q E := by
  obtain ⟨n, rfl⟩ : ∃ m, n = m + 1 := ⟨n - 1, by omega⟩
  refine CN_go hF rfl ?_
  unfold d_marks
  walk_at "e"
  walk_at "w"
  refine marks_known_ok hm (by omega) hd hz fun kvs g => ?_
  walk_at "w"
  refine keys_of_ok hK t n (by omega) hz ?_
  walk_at "w"
  obtain ⟨f, f1, f2, f3⟩ := marks_e room g hd
  refine comp_ok (fun ρ h Q Q' k w => moT F n .nop ρ h Q Q' (fun _ _ => False) k w) (fun ρ h Q Q' k w => moE F n e_marks_1 ρ h Q Q' (fun _ _ => False) k w) Val.int t.keys (fun j => some (Enc.val (j, (f j).1, (f j).2))) (by have := Tr.keys_len t; omega) ?_ ?_
  · intro p acc hp
    refine ⟨trivial, fun j hj => ⟨[some t.tv, some (.int room), some (fdOf kvs), some (.int j)], rfl, fun K q => ?_⟩⟩
    unfold e_marks_1
    walk_at "w"
    rw [f1 j hj, ev2]
    walk_at "w"
    exact q
  · rw [filterMap_one, alc_fz, show (t.keys.map fun j => (Enc.val (j, (f j).1, (f j).2) : Val)) = (t.keys.map fun j => (j, (f j).1, (f j).2)).map Enc.val by rw [List.map_map]; rfl, f2]
    exact q
theorem marks_L_ok (hm : HasMk F) (hK : F f_keys_of = some d_keys_of) (hF : F f_marks_L = some d_marks_L) {room : Int} {E : QE} {t : Tr} {n : Nat} {h : Hq} {Q : QV} (hn : t.ht + 3 < n) (hd : t.keys.Nodup) (hz : t.size ≤ 1000)
    (q : ∀ p, h p = none → Q (.ref p) (up h p (.lst ((Tr.rows room t).map Enc.val)))) : CN F n f_marks_L [t.tv, .int room] h Q E := by
  obtain ⟨n, rfl⟩ : ∃ m, n = m + 1 := ⟨n - 1, by omega⟩
  refine CN_go hF rfl ?_
  unfold d_marks_L
  walk_at "e"
  walk_at "w"
  refine marks_known_ok hm (by omega) hd hz fun kvs g => ?_
  walk_at "w"
  refine keys_of_ok hK t n (by omega) hz ?_
  walk_at "w"
  obtain ⟨f, f1, f2, f3⟩ := marks_e room g hd
  refine comp_ok (fun ρ h Q Q' k w => moT F n .nop ρ h Q Q' (fun _ _ => False) k w) (fun ρ h Q Q' k w => moE F n e_marks_L_1 ρ h Q Q' (fun _ _ => False) k w) Val.int t.keys (fun j => some (Enc.val (j, (f j).1, (f j).2))) (by have := Tr.keys_len t; omega) ?_ ?_
  · intro p acc hp
    refine ⟨trivial, fun j hj => ⟨[some t.tv, some (.int room), some (fdOf kvs), some (.int j)], rfl, fun K q => ?_⟩⟩
    unfold e_marks_L_1
    walk_at "w"
    rw [f1 j hj, ev2]
    walk_at "w"
    exact q
  · rw [filterMap_one, alc_lv, show (t.keys.map fun j => (Enc.val (j, (f j).1, (f j).2) : Val)) = (t.keys.map fun j => (j, (f j).1, (f j).2)).map Enc.val by rw [List.map_map]; rfl, f2]
    exact q
end

end L3

set_option Elab.async false
set_option linter.all false
set_option maxRecDepth 100000
namespace L3
open PySem PySem.Spec PyProof.Rows L2
local macro_rules | `(tactic| walk_at "d") => `(tactic| first | assumption | exact up_same | exact dr_fd _ _ | exact dr_wd _ _ | exact dr_ref (by assumption) | exact dr_ref up_same | exact keyOf_int | (exact (rfl : isNop _ = false)) | exact keyOf_str | exact tyOf_fl | exact tyOf_str | exact tyOf_non | exact tyOf_int | exact tyOf_tup | exact tyOf_bl | exact tyOf_ref (by assumption) | exact tyOf_ref up_same | (intro z; cases z))
local macro_rules | `(tactic| walk_at "w") => `(tactic| try simp -implicitDefEqProofs (disch := walk_at "d") only [↓wpE, ↓wpA, ↓wpB, ↓wpT, ↓wpTs, ↓wpI, ↓wpS, ↓wpSs, ↓optW_some, ↓w_lk0, ↓w_lkS, ↓w_bs, ↓w_strI, ↓w_lenStr, ↓w_slcS, ↓w_inS, ↓w_notinS, ↓w_join, ↓w_split, ↓w_find, ↓w_find3, ↓w_ok_join, ↓w_ok_split, ↓w_ok_find, ↓w_chs, isN_str, tyOf_str, ↓w_bl0, ↓w_bl1, ↓w_k1, ↓w_kS, ↓w_b0, ↓w_b1, ↓w_b2, ↓w_b3, ↓w_b4, ↓w_b5, ↓w_b6, ↓w_b7, ↓w_b8, ↓w_b9, ↓w_b10, ↓w_b11, ↓w_b12, ↓w_b13, ↓w_b14, ↓w_b15, ↓w_b16, ↓w_b17, ↓w_b18, ↓w_b19, ↓w_b20, ↓w_b21, ↓w_b22, ↓w_b23, ↓w_b24, ↓w_b25, ↓alc_fz, ↓alc_lv, ↓w_dictZ, ↓w_eqNN, ↓w_add, ↓w_addS, ↓w_addL, ↓w_addT, ↓w_sub, ↓w_mul, ↓w_fdiv, ↓w_mod, ↓w_pow, ↓w_shl, ↓w_shr, ↓w_band, ↓w_eqI, ↓w_neI, ↓w_eqS, ↓w_neS, ↓w_lt, ↓w_le, ↓w_gt, ↓w_ge, ↓w_is, ↓w_isnot, ↓w_isB, ↓w_isnotB, ↓w_neF0, ↓w_eqF0, ↓w_neI_L, ↓w_eqI_L, ↓w_eqLL, ↓w_neDL, ↓w_eqDL, ↓w_idxR, ↓w_slcF, ↓w_slcT, ↓w_insert, ↓w_lrange, ↓w_revF, ↓w_revR, ↓w_tmul, ↓w_ok_indexF, ↓w_inI, ↓w_notinI, ↓w_eqEE, ↓w_neEE, ↓w_eqE0, ↓w_neE0, ↓w_eqRE, ↓w_neRE, ↓w_maxF, ↓w_minF, ↓w_eqB, ↓w_neB, ↓w_sortPF, ↓w_allF, ↓w_anyF, ↓w_slcR, ↓w_oi1, ↓w_oi2, ↓w_idxD, ↓w_inD, ↓w_notinD, ↓w_okD, ↓w_okDF, ↓w_okU, ↓w_get1N, ↓w_get2N, ↓w_get1, ↓w_get2, ↓w_upd, ↓w_putD, ↓w_frzD', ↓alcD_fz, ↓alcD_lv, ↓w_rep, ↓w_sortR, ↓w_sortF, ↓w_sumF, ↓w_idxF, ↓w_idxT, ↓w_idxS, ↓w_lenR, ↓w_lenF, ↓w_lenT, ↓w_lenS, ↓w_abs, ↓w_max2, ↓w_min2, ↓w_listF, ↓w_listT, ↓w_listR, ↓w_tupleF, ↓w_int, ↓w_intB, ↓w_isi, ↓w_ok_append, ↓w_ok_extend, ↓w_ok_pop, ↓w_ok_insert, ↓w_ok_reverse, ↓w_ok_clear, ↓w_ok_index, ↓w_ok_count, ↓w_append, ↓w_extend, ↓w_reverse, ↓w_clear, ↓w_frz, ↓w_set0, ↓w_set1, ↓w_set2, ↓w_at0, ↓w_at1, ↓w_at2, ↓w_at3, ↓w_blOf, ↓w_intOf, ↓w_refOf, ↓w_cellO, ↓wdK_wd, ↓w_lenDW, lockC_dic, lockC_lst, isN_wd, ↓w_truB, ↓w_truI, ↓w_truF, ↓w_truT, ↓w_truN, ↓optI, ↓isNop, optW_some, isN_non, isN_int, isN_tup, isN_fl, isN_ref, lv_fl, ls_fl, sq_fl, sq_tup, ls_sc, sq_sc, lv_up, ls_up, sq_up, tyOf_fl, tyOf_int, tyOf_tup, tyOf_bl, tyOf_ref, Option.bind_some, List.length_cons, List.length_nil, reduceIte, Bool.false_eq_true, if_true, if_false, List.map_cons, List.map_nil, List.replicate, List.cons_append, List.nil_append, Nat.reduceSub, Nat.reduceAdd, Nat.reduceLeDiff, Int.reduceLT, Int.reduceLE, Int.reduceNeg, Int.reduceToNat, Int.reducePow, and_true, true_and, or_true, true_or, decide_eq_true_eq, Bool.not_eq_true', decide_eq_false_iff_not, up_up, decide_true, decide_false, not_true_eq_false, not_false_eq_true, Bool.not_true, Bool.not_false, List.any_cons, List.any_nil, Bool.or_false, Bool.or_true, Bool.true_or, Bool.false_or, List.mem_cons, List.not_mem_nil, or_false, false_or, reduceCtorEq, sq_ref, lv_ref, ls_ref])
local macro_rules | `(tactic| walk_at "e") => `(tactic| simp only [List.map_cons, List.map_nil, List.replicate, List.cons_append, List.nil_append, Nat.reduceSub])
local macro_rules | `(tactic| walk_at "i") => `(tactic| try simp only [Bool.true_eq_false, Bool.false_eq_true, Bool.not_true, Bool.not_false, Bool.and_true, Bool.true_and, Bool.and_false, Bool.false_and, if_false, if_true, reduceIte, decide_true, decide_false, not_true_eq_false, not_false_eq_true, eq_self])
open TL in
/-- a key's signs -/
def keyL (k : Int) : List Nat := if k < 0 then 45 :: TL.numL k.natAbs else TL.numL k.natAbs
theorem tl_minus (s t : String) : TL.tl (Str.ofString (s ++ t)) = TL.tl (Str.ofString s) ++ TL.tl (Str.ofString t) := by
  rw [TL.tl_ofString, TL.tl_ofString, TL.tl_ofString, String.toList_append, List.map_append]
theorem tl_strI (k : Int) : TL.tl (strI k) = keyL k := by
  unfold keyL
  by_cases h : k < 0
  · rw [if_pos h]
    have e0 : (0 - k) = ((k.natAbs : Nat) : Int) := by omega
    show TL.tl (Str.ofString (toString k)) = _
    rw [toString_neg h, tl_minus, e0, TL.tl_num]
    have : TL.tl (Str.ofString "-") = [45] := by decide +kernel
    rw [this]; rfl
  · rw [if_neg h]
    have e0 : k = ((k.natAbs : Nat) : Int) := by omega
    show TL.tl (Str.ofString (toString k)) = _
    rw [e0, TL.tl_num]; rfl
/-- not greater than sixty figures -/
def sm60 (k : Int) : Prop := k.natAbs < 10 ^ 60
theorem sm60_of {k : Int} (a : -(10 ^ 60) < k) (b : k < 10 ^ 60) : sm60 k := by
  unfold sm60
  have : ((10 ^ 60 : Nat) : Int) = 10 ^ 60 := by decide +kernel
  omega
theorem sm60_log {k : Int} (h : sm60 k) : k.natAbs.log2 < 1920 := by
  unfold sm60 at h
  have h2 : (10 : Nat) ^ 60 ≤ 2 ^ 1920 := by decide +kernel
  rcases Nat.eq_zero_or_pos k.natAbs with e | e
  · rw [e]; decide
  · exact (Nat.log2_lt (by omega)).mpr (by omega)
theorem numL_len60 {k : Int} (h : sm60 k) : (TL.numL k.natAbs).length ≤ 60 := TL.numL_len (by decide) h
theorem keyL_free {k : Int} {s : Nat} (h : s < 48 ∨ 57 < s) (h2 : s ≠ 45) : s ∉ keyL k := by
  unfold keyL
  split
  · intro m
    rcases List.mem_cons.mp m with e | m
    · exact h2 e
    · exact TL.numL_free h m
  · exact TL.numL_free h
theorem keyL_len {k : Int} (h : sm60 k) : (keyL k).length ≤ 61 := by
  have := numL_len60 h
  unfold keyL
  split <;> simp <;> omega
theorem keyL_ne (k : Int) : keyL k ≠ [] := by
  unfold keyL
  split
  · simp
  · exact TL.numL_ne _
theorem keyL_inj {j k : Int} (e : keyL j = keyL k) : j = k := by
  have nf : ∀ n : Nat, ∀ l, TL.numL n ≠ 45 :: l := fun n l z => by
    have := TL.numL_free (n := n) (s := 45) (by omega)
    rw [z] at this
    simp at this
  unfold keyL at e
  split at e <;> split at e
  · injection e with _ e
    have := TL.numL_inj e
    omega
  · exact absurd e.symm (nf _ _)
  · exact absurd e (nf _ _)
  · have := TL.numL_inj e
    omega
theorem int_key {k : Int} (h : sm60 k) : PySem.intText? (strI k) = some k := by
  have t := tl_strI k
  have l : (strI k).length ≤ 4300 := by rw [TL.len_tl, t]; have := keyL_len h; omega
  unfold keyL at t
  by_cases hk : k < 0
  · rw [if_pos hk] at t
    rw [PySem.intText_neg t (TL.numL_digits _) (TL.numL_ne _) l, TL.numL_val]
    congr 1
    omega
  · rw [if_neg hk] at t
    have e : (strI k).cps.toList = TL.numL k.natAbs := t
    rw [PySem.intText_digits (by rw [e]; exact TL.numL_digits _) (by rw [e]; exact TL.numL_ne _) l, e, TL.numL_val]
    congr 1
    omega
/-- no nought ahead -/
theorem numL_head : ∀ {n : Nat}, n ≠ 0 → ∃ c l, TL.numL n = c :: l ∧ c ≠ 48 := by
  intro n
  induction n using Nat.strongRecOn with
  | _ n ih =>
    intro h
    by_cases hn : n < 10
    · exact ⟨48 + n, [], TL.numL_lt hn, by omega⟩
    · obtain ⟨c, l, e, hc⟩ := ih (n / 10) (by omega) (by omega)
      exact ⟨c, l ++ [48 + n % 10], by rw [TL.numL_step (by omega), e]; rfl, hc⟩
theorem mem_fig {c : Nat} (h : 48 ≤ c ∧ c ≤ 57) : c ∈ [48, 49, 50, 51, 52, 53, 54, 55, 56, 57] := by
  simp only [List.mem_cons, List.not_mem_nil, or_false]
  omega
theorem cut_1 (s : Str) : cutS s none (some 1) = ⟨((TL.tl s).take 1).toArray⟩ := by
  unfold cutS
  have : HT.sIx s.length s.length (some 1) = min 1 s.length := by
    unfold HT.sIx; simp
  rw [this]
  show (⟨(((TL.tl s).drop 0).take (min 1 s.length - 0)).toArray⟩ : Str) = _
  rw [List.drop_zero, Nat.sub_zero, TL.len_tl]
  congr 2
  rcases TL.tl s with _ | ⟨c, l⟩
  · rfl
  · simp
theorem cut_from1 (s : Str) : cutS s (some 1) none = ⟨((TL.tl s).drop 1).toArray⟩ := by
  unfold cutS
  have : HT.sIx s.length 0 (some 1) = min 1 s.length := by
    unfold HT.sIx; simp
  rw [this]
  show (⟨(((TL.tl s).drop (min 1 s.length)).take (s.length - min 1 s.length)).toArray⟩ : Str) = _
  rw [TL.len_tl]
  congr 2
  rcases h : TL.tl s with _ | ⟨c, l⟩
  · rfl
  · simp

end L3

set_option Elab.async false
set_option linter.all false
set_option maxRecDepth 100000
namespace L3
open PySem PySem.Spec PyProof.Rows L2
local macro_rules | `(tactic| walk_at "d") => `(tactic| first | assumption | exact up_same | exact dr_fd _ _ | exact dr_wd _ _ | exact dr_ref (by assumption) | exact dr_ref up_same | exact keyOf_int | (exact (rfl : isNop _ = false)) | exact keyOf_str | exact tyOf_fl | exact tyOf_str | exact tyOf_non | exact tyOf_int | exact tyOf_tup | exact tyOf_bl | exact tyOf_ref (by assumption) | exact tyOf_ref up_same | (intro z; cases z))
local macro_rules | `(tactic| walk_at "w") => `(tactic| try simp -implicitDefEqProofs (disch := walk_at "d") only [↓wpE, ↓wpA, ↓wpB, ↓wpT, ↓wpTs, ↓wpI, ↓wpS, ↓wpSs, ↓optW_some, ↓w_lk0, ↓w_lkS, ↓w_bs, ↓w_strI, ↓w_lenStr, ↓w_slcS, ↓w_inS, ↓w_notinS, ↓w_join, ↓w_split, ↓w_find, ↓w_find3, ↓w_ok_join, ↓w_ok_split, ↓w_ok_find, ↓w_chs, isN_str, tyOf_str, ↓w_bl0, ↓w_bl1, ↓w_k1, ↓w_kS, ↓w_b0, ↓w_b1, ↓w_b2, ↓w_b3, ↓w_b4, ↓w_b5, ↓w_b6, ↓w_b7, ↓w_b8, ↓w_b9, ↓w_b10, ↓w_b11, ↓w_b12, ↓w_b13, ↓w_b14, ↓w_b15, ↓w_b16, ↓w_b17, ↓w_b18, ↓w_b19, ↓w_b20, ↓w_b21, ↓w_b22, ↓w_b23, ↓w_b24, ↓w_b25, ↓alc_fz, ↓alc_lv, ↓w_dictZ, ↓w_eqNN, ↓w_add, ↓w_addS, ↓w_addL, ↓w_addT, ↓w_sub, ↓w_mul, ↓w_fdiv, ↓w_mod, ↓w_pow, ↓w_shl, ↓w_shr, ↓w_band, ↓w_eqI, ↓w_neI, ↓w_eqS, ↓w_neS, ↓w_lt, ↓w_le, ↓w_gt, ↓w_ge, ↓w_is, ↓w_isnot, ↓w_isB, ↓w_isnotB, ↓w_neF0, ↓w_eqF0, ↓w_neI_L, ↓w_eqI_L, ↓w_eqLL, ↓w_neDL, ↓w_eqDL, ↓w_idxR, ↓w_slcF, ↓w_slcT, ↓w_insert, ↓w_lrange, ↓w_revF, ↓w_revR, ↓w_tmul, ↓w_ok_indexF, ↓w_inI, ↓w_notinI, ↓w_eqEE, ↓w_neEE, ↓w_eqE0, ↓w_neE0, ↓w_eqRE, ↓w_neRE, ↓w_maxF, ↓w_minF, ↓w_eqB, ↓w_neB, ↓w_sortPF, ↓w_allF, ↓w_anyF, ↓w_slcR, ↓w_oi1, ↓w_oi2, ↓w_idxD, ↓w_inD, ↓w_notinD, ↓w_okD, ↓w_okDF, ↓w_okU, ↓w_get1N, ↓w_get2N, ↓w_get1, ↓w_get2, ↓w_upd, ↓w_putD, ↓w_frzD', ↓alcD_fz, ↓alcD_lv, ↓w_rep, ↓w_sortR, ↓w_sortF, ↓w_sumF, ↓w_idxF, ↓w_idxT, ↓w_idxS, ↓w_lenR, ↓w_lenF, ↓w_lenT, ↓w_lenS, ↓w_abs, ↓w_max2, ↓w_min2, ↓w_listF, ↓w_listT, ↓w_listR, ↓w_tupleF, ↓w_int, ↓w_intB, ↓w_isi, ↓w_ok_append, ↓w_ok_extend, ↓w_ok_pop, ↓w_ok_insert, ↓w_ok_reverse, ↓w_ok_clear, ↓w_ok_index, ↓w_ok_count, ↓w_append, ↓w_extend, ↓w_reverse, ↓w_clear, ↓w_frz, ↓w_set0, ↓w_set1, ↓w_set2, ↓w_at0, ↓w_at1, ↓w_at2, ↓w_at3, ↓w_blOf, ↓w_intOf, ↓w_refOf, ↓w_cellO, ↓wdK_wd, ↓w_lenDW, lockC_dic, lockC_lst, isN_wd, ↓w_truB, ↓w_truI, ↓w_truF, ↓w_truT, ↓w_truN, ↓optI, ↓isNop, optW_some, isN_non, isN_int, isN_tup, isN_fl, isN_ref, lv_fl, ls_fl, sq_fl, sq_tup, ls_sc, sq_sc, lv_up, ls_up, sq_up, tyOf_fl, tyOf_int, tyOf_tup, tyOf_bl, tyOf_ref, Option.bind_some, List.length_cons, List.length_nil, reduceIte, Bool.false_eq_true, if_true, if_false, List.map_cons, List.map_nil, List.replicate, List.cons_append, List.nil_append, Nat.reduceSub, Nat.reduceAdd, Nat.reduceLeDiff, Int.reduceLT, Int.reduceLE, Int.reduceNeg, Int.reduceToNat, Int.reducePow, and_true, true_and, or_true, true_or, decide_eq_true_eq, Bool.not_eq_true', decide_eq_false_iff_not, up_up, decide_true, decide_false, not_true_eq_false, not_false_eq_true, Bool.not_true, Bool.not_false, List.any_cons, List.any_nil, Bool.or_false, Bool.or_true, Bool.true_or, Bool.false_or, List.mem_cons, List.not_mem_nil, or_false, false_or, reduceCtorEq, sq_ref, lv_ref, ls_ref])
local macro_rules | `(tactic| walk_at "e") => `(tactic| simp only [List.map_cons, List.map_nil, List.replicate, List.cons_append, List.nil_append, Nat.reduceSub])
local macro_rules | `(tactic| walk_at "i") => `(tactic| try simp only [Bool.true_eq_false, Bool.false_eq_true, Bool.not_true, Bool.not_false, Bool.and_true, Bool.true_and, Bool.and_false, Bool.false_and, if_false, if_true, reduceIte, decide_true, decide_false, not_true_eq_false, not_false_eq_true, eq_self])
/-! ### what writes a key -/
open NumText (digitsVal AllDigits) in
section
theorem dv_snoc (l : List Nat) (c : Nat) : NumText.digitsVal (l ++ [c]) = NumText.digitsVal l * 10 + (c - 48) := by
  unfold NumText.digitsVal
  rw [List.foldl_append]; rfl
theorem dv_lt : ∀ (n : Nat) (l : List Nat), l.length = n → NumText.AllDigits l → NumText.digitsVal l < 10 ^ n
  | 0, l, e, h => by
    have : l = [] := List.eq_nil_of_length_eq_zero e
    subst this
    decide
  | n + 1, l, e, h => by
    have ne : l ≠ [] := fun z => by rw [z] at e; simp at e
    have el := List.dropLast_concat_getLast ne
    have hl : l.dropLast.length = n := by rw [List.length_dropLast]; omega
    have ih := dv_lt n l.dropLast hl fun c hc => h c (List.dropLast_subset _ hc)
    have hc := h (l.getLast ne) (List.getLast_mem ne)
    rw [← el, dv_snoc, Nat.pow_succ]
    omega
/-- a number's figures, back -/
theorem numL_of : ∀ (n : Nat) (l : List Nat), l.length = n → NumText.AllDigits l → l ≠ [] → (l.head? ≠ some 48 ∨ l.length = 1) → TL.numL (NumText.digitsVal l) = l ∧ (l.head? ≠ some 48 → 1 ≤ NumText.digitsVal l)
  | 0, l, e, _, ne, _ => absurd (List.eq_nil_of_length_eq_zero e) ne
  | n + 1, l, e, h, ne, hd => by
    have el := List.dropLast_concat_getLast ne
    have hl : l.dropLast.length = n := by rw [List.length_dropLast]; omega
    have hc := h (l.getLast ne) (List.getLast_mem ne)
    have hdg : NumText.AllDigits l.dropLast := fun c hc => h c (List.dropLast_subset _ hc)
    generalize l.getLast ne = c at *
    generalize l.dropLast = l' at *
    subst el
    rw [dv_snoc]
    by_cases e0 : l' = []
    · subst e0
      have z : NumText.digitsVal [] = 0 := rfl
      rw [z, Nat.zero_mul, Nat.zero_add, TL.numL_lt (by omega)]
      refine ⟨by show [48 + (c - 48)] = [c]; congr 1; omega, fun z => ?_⟩
      have : c ≠ 48 := fun q => z (by rw [q]; rfl)
      omega
    · have h1 : l'.head? ≠ some 48 := by
        rcases hd with d | d
        · cases l' with
          | nil => exact absurd rfl e0
          | cons x r => exact d
        · rw [List.length_append, List.length_singleton] at d
          exact absurd (List.eq_nil_of_length_eq_zero (by omega)) e0
      obtain ⟨i1, i2⟩ := numL_of n l' hl hdg e0 (.inl h1)
      have p := i2 h1
      rw [TL.numL_step (by omega), show (NumText.digitsVal l' * 10 + (c - 48)) / 10 = NumText.digitsVal l' by omega, show (NumText.digitsVal l' * 10 + (c - 48)) % 10 = c - 48 by omega, i1]
      exact ⟨by congr 2; omega, fun _ => by omega⟩
end
/-- a key's figures -/
def figL (L : List Nat) : List Nat := if L.head? = some 45 then L.drop 1 else L
def digB (c : Nat) : Bool := decide (48 ≤ c) && decide (c ≤ 57)
def isKeyL (L : List Nat) : Bool := decide (1 ≤ (figL L).length) && decide ((figL L).length ≤ 60) && (figL L).all digB && (decide ((figL L).head? ≠ some 48) || decide (L = [48]))
theorem digB_all {l : List Nat} : l.all digB = true ↔ NumText.AllDigits l := by
  rw [List.all_eq_true]
  unfold NumText.AllDigits digB
  simp only [Bool.and_eq_true, decide_eq_true_eq]
theorem isKey_spec {L : List Nat} : isKeyL L = true ↔ 1 ≤ (figL L).length ∧ (figL L).length ≤ 60 ∧ NumText.AllDigits (figL L) ∧ ((figL L).head? ≠ some 48 ∨ L = [48]) := by
  unfold isKeyL
  simp only [Bool.and_eq_true, Bool.or_eq_true, decide_eq_true_eq, digB_all, and_assoc]
/-- what writes a key writes it as str does -/
theorem isKey_of {L : List Nat} (h : isKeyL L = true) : ∃ k, sm60 k ∧ keyL k = L := by
  obtain ⟨h1, h2, h3, h4⟩ := isKey_spec.mp h
  unfold figL at h1 h2 h3 h4
  by_cases c : L.head? = some 45
  · rw [if_pos c] at h1 h2 h3 h4
    cases L with
    | nil => simp at c
    | cons x l =>
      have ex : x = 45 := by simpa using c
      subst ex
      simp only [List.drop_succ_cons, List.drop_zero] at h1 h2 h3 h4
      have h4 : l.head? ≠ some 48 := by
        rcases h4 with h | h
        · exact h
        · injection h with h; omega
      have ne : l ≠ [] := fun z => by rw [z] at h1; simp at h1
      obtain ⟨i1, i2⟩ := numL_of l.length l rfl h3 ne (.inl h4)
      have p := i2 h4
      have b := dv_lt l.length l rfl h3
      have b2 : (10 : Nat) ^ l.length ≤ 10 ^ 60 := Nat.pow_le_pow_right (by omega) h2
      refine ⟨-(NumText.digitsVal l : Nat), ?_, ?_⟩
      · unfold sm60
        rw [Int.natAbs_neg, Int.natAbs_natCast]; omega
      · unfold keyL
        rw [if_pos (by omega), Int.natAbs_neg, Int.natAbs_natCast, i1]
  · rw [if_neg c] at h1 h2 h3 h4
    have ne : L ≠ [] := fun z => by rw [z] at h1; simp at h1
    obtain ⟨i1, i2⟩ := numL_of L.length L rfl h3 ne (h4.imp id fun h => by rw [h]; rfl)
    have b := dv_lt L.length L rfl h3
    have b2 : (10 : Nat) ^ L.length ≤ 10 ^ 60 := Nat.pow_le_pow_right (by omega) h2
    refine ⟨(NumText.digitsVal L : Nat), ?_, ?_⟩
    · unfold sm60
      rw [Int.natAbs_natCast]; omega
    · unfold keyL
      rw [if_neg (by omega), Int.natAbs_natCast, i1]
theorem isKey_key {k : Int} (h : sm60 k) : isKeyL (keyL k) = true := by
  rw [isKey_spec]
  have n60 := numL_len60 h
  have nne := TL.numL_ne k.natAbs
  have dg := TL.numL_digits k.natAbs
  have l1 : 1 ≤ (TL.numL k.natAbs).length := by
    rcases e : TL.numL k.natAbs with _ | ⟨c, l⟩
    · exact absurd e nne
    · simp
  have hz : ∀ {k : Int}, k.natAbs ≠ 0 → (TL.numL k.natAbs).head? ≠ some 48 := fun {k} hk z => by
    obtain ⟨c, l, e, hc⟩ := numL_head hk
    rw [e] at z
    exact hc (by simpa using z)
  by_cases hk : k < 0
  · have e : keyL k = 45 :: TL.numL k.natAbs := by unfold keyL; rw [if_pos hk]
    have f : figL (keyL k) = TL.numL k.natAbs := by rw [e]; rfl
    rw [f]
    exact ⟨l1, n60, dg, .inl (hz (by omega))⟩
  · have e : keyL k = TL.numL k.natAbs := by unfold keyL; rw [if_neg hk]
    have f : figL (keyL k) = TL.numL k.natAbs := by
      unfold figL
      rw [e, if_neg]
      intro z
      rcases e2 : TL.numL k.natAbs with _ | ⟨c, l⟩
      · exact absurd e2 nne
      · rw [e2] at z
        have := dg c (by rw [e2]; simp)
        have : c = 45 := by simpa using z
        omega
    rw [f]
    refine ⟨l1, n60, dg, ?_⟩
    by_cases k0 : k.natAbs = 0
    · right
      rw [e, k0]
      decide +kernel
    · exact .inl (hz k0)
theorem isKey_str {s : Str} (h : isKeyL (TL.tl s) = true) : ∃ k, sm60 k ∧ s = strI k := by
  obtain ⟨k, sm, e⟩ := isKey_of h
  exact ⟨k, sm, TL.ext_tl (by rw [tl_strI, e])⟩
/-! ### comprehensions whose element may be refused -/
section
variable {F : Fs} {n : Nat} {β : Type} {fz : Bool} {elt : Ex} {tg : Tg} {keep : Hq → Prop} {ρw : Env3} {h : Hq} {Q : QV} {EE : QE}
theorem compX_map (φ : β → Val) (ys : List β) (c : β → Bool) (f : β → Val) (hl : ys.length < 1000000)
    (hs : ∀ p acc, h p = none → keep (up h p (.lst acc)) ∧ ∀ y ∈ ys, ∃ ρ1, bindT tg (φ y) ρw = some ρ1 ∧ ∀ K : QV, (c y = true → K (f y) (up h p (.lst acc))) → wpE (CN F n) elt ρ1 (up h p (.lst acc)) K EE)
    (hq : (∀ y ∈ ys, c y = true) → alc fz (ys.map f) h Q) : ∀ p, h p = none → compW tg (fun ρ1 h2 K => K true h2) (fun ρ1 h2 K => wpE (CN F n) elt ρ1 h2 K EE) keep p (compFin fz p Q) ρw (ys.map φ) (up h p (.lst [])) := by
  intro p hp
  have G : ∀ (rest pre : List β), pre ++ rest = ys → (∀ y ∈ pre, c y = true) → compW tg (fun ρ1 h2 K => K true h2) (fun ρ1 h2 K => wpE (CN F n) elt ρ1 h2 K EE) keep p (compFin fz p Q) ρw (rest.map φ) (up h p (.lst (pre.map f))) := by
    intro rest
    induction rest with
    | nil =>
      intro pre e hc
      rw [List.append_nil] at e
      subst e
      refine ⟨(hs p _ hp).1, ?_⟩
      have hq := hq hc
      unfold compFin
      cases fz with
      | true =>
        rw [if_pos rfl, lstO_some.mpr up_same, optW_some, er_up hp]
        exact hq
      | false =>
        rw [if_neg (by simp)]
        exact hq p hp
    | cons y rest ih =>
      intro pre e hc
      have m : y ∈ ys := by rw [← e]; simp
      obtain ⟨ρ1, eb, w⟩ := (hs p (pre.map f) hp).2 y m
      refine ⟨(hs p _ hp).1, ?_⟩
      show optW (bindT tg (φ y) ρw) _
      rw [eb, optW_some]
      show if true = true then _ else _
      rw [if_pos rfl]
      refine w _ fun cy => ?_
      rw [lstO_some.mpr up_same, optW_some, up_up]
      have hle := congrArg List.length e
      rw [List.length_append, List.length_cons] at hle
      refine ⟨by rw [List.length_map]; omega, ?_⟩
      have := ih (pre ++ [y]) (by rw [List.append_assoc]; exact e) fun z hz => by
        rcases List.mem_append.mp hz with hz | hz
        · exact hc z hz
        · rw [List.mem_singleton.mp hz]; exact cy
      rw [List.map_append] at this
      exact this
  exact G ys [] rfl (by simp)
end
/-! ### a text cut at a sign -/
def cutAt (c : Nat) : List Nat → List (List Nat)
  | [] => [[]]
  | x :: r => if x = c then [] :: cutAt c r else match cutAt c r with
    | w :: ws => (x :: w) :: ws
    | [] => [[x]]
theorem cutAt_ne (c : Nat) : ∀ L : List Nat, cutAt c L ≠ []
  | [] => by simp [cutAt]
  | x :: r => by
    unfold cutAt
    split
    · simp
    · split <;> simp
theorem spl_cut (c : Nat) : ∀ (L acc : List Nat), TL.spl [c] 0 acc L = match cutAt c L with | w :: ws => (acc ++ w) :: ws | [] => []
  | [], acc => by rw [TL.spl_nil]; simp [cutAt]
  | x :: r, acc => by
    unfold cutAt
    by_cases e : x = c
    · subst e
      rw [if_pos rfl, TL.spl_hit (by rw [show x :: r = [x] ++ r from rfl]; exact TL.pre_self [x] r)]
      have := spl_cut x r []
      show acc :: TL.spl [x] 0 [] r = _
      rw [this]
      rcases h : cutAt x r with _ | ⟨w, ws⟩
      · exact absurd h (cutAt_ne x r)
      · simp
    · rw [if_neg e, TL.spl_miss (TL.pre_of_head [] r e)]
      rw [spl_cut c r (acc ++ [x])]
      rcases h : cutAt c r with _ | ⟨w, ws⟩
      · exact absurd h (cutAt_ne c r)
      · simp
theorem split_cut (s : Str) {c : Nat} (hc : c < 256) : (Txt.split s ⟨#[c]⟩).map TL.tl = cutAt c (TL.tl s) := by
  rw [TL.split_spl _ _ (by simp [TL.tl]) (TL.kind_ok (by simp [hc]))]
  show TL.spl [c] 0 [] (TL.tl s) = _
  rw [spl_cut]
  rcases h : cutAt c (TL.tl s) with _ | ⟨w, ws⟩
  · exact absurd h (cutAt_ne c _)
  · simp
def sOf (l : List Nat) : Str := ⟨l.toArray⟩
theorem tl_sOf (l : List Nat) : TL.tl (sOf l) = l := rfl
theorem sOf_tl (s : Str) : sOf (TL.tl s) = s := TL.ext_tl rfl
theorem split_mk (s : Str) {c : Nat} (hc : c < 256) : Txt.split s ⟨#[c]⟩ = (cutAt c (TL.tl s)).map sOf := by
  refine TL.map_tl_inj ?_
  rw [split_cut s hc, List.map_map]
  exact (List.map_id _).symm
theorem joinL_cut (c : Nat) : ∀ L : List Nat, TL.joinL [c] (cutAt c L) = L
  | [] => rfl
  | x :: r => by
    have ih := joinL_cut c r
    unfold cutAt
    rcases h : cutAt c r with _ | ⟨w, ws⟩
    · exact absurd h (cutAt_ne c r)
    · rw [h] at ih
      by_cases e : x = c
      · rw [if_pos e, ← ih, e]; rfl
      · rw [if_neg e]
        cases ws with
        | nil =>
          have : w = r := ih
          rw [this]; rfl
        | cons v ws =>
          show (x :: w) ++ ([c] ++ TL.joinL [c] (v :: ws)) = x :: r
          rw [← ih]; rfl
theorem cutAt_len (c : Nat) : ∀ L : List Nat, (cutAt c L).length ≤ L.length + 1 ∧ ∀ w ∈ cutAt c L, w.length ≤ L.length
  | [] => by simp [cutAt]
  | x :: r => by
    obtain ⟨i1, i2⟩ := cutAt_len c r
    unfold cutAt
    rcases h : cutAt c r with _ | ⟨w, ws⟩
    · exact absurd h (cutAt_ne c r)
    · rw [h] at i1 i2
      simp only [List.length_cons] at i1 ⊢
      by_cases e : x = c
      · rw [if_pos e]
        refine ⟨by simp only [List.length_cons]; omega, fun v hv => ?_⟩
        rcases List.mem_cons.mp hv with z | hv
        · rw [z]; simp
        · have := i2 v hv; omega
      · rw [if_neg e]
        refine ⟨by simp only [List.length_cons]; omega, fun v hv => ?_⟩
        rcases List.mem_cons.mp hv with z | hv
        · have := i2 w (by simp); rw [z, List.length_cons]; omega
        · have := i2 v (by simp [hv]); omega
theorem cutAt_free (c : Nat) : ∀ L : List Nat, ∀ w ∈ cutAt c L, c ∉ w
  | [], w, hw => by simp [cutAt] at hw; simp [hw]
  | x :: r, w, hw => by
    unfold cutAt at hw
    have ih := cutAt_free c r
    rcases h : cutAt c r with _ | ⟨u, ws⟩
    · exact absurd h (cutAt_ne c r)
    · rw [h] at ih hw
      by_cases e : x = c
      · rw [if_pos e] at hw
        rcases List.mem_cons.mp hw with z | hw
        · rw [z]; simp
        · exact ih w hw
      · rw [if_neg e] at hw
        rcases List.mem_cons.mp hw with z | hw
        · rw [z, List.mem_cons, not_or]
          exact ⟨fun q => e q.symm, ih u (by simp)⟩
        · exact ih w (by simp [hw])
/-! ### keys' numbers, pages, layouts out of texts -/
def keyN (L : List Nat) : Int := if L.head? = some 45 then -(NumText.digitsVal (L.drop 1) : Nat) else (NumText.digitsVal L : Nat)
theorem keyN_key (k : Int) : keyN (keyL k) = k := by
  have nne := TL.numL_ne k.natAbs
  have dg := TL.numL_digits k.natAbs
  by_cases hk : k < 0
  · have e : keyL k = 45 :: TL.numL k.natAbs := by unfold keyL; rw [if_pos hk]
    rw [e]
    unfold keyN
    rw [if_pos (show (45 :: TL.numL k.natAbs).head? = some 45 from rfl), List.drop_succ_cons, List.drop_zero, TL.numL_val]
    omega
  · have e : keyL k = TL.numL k.natAbs := by unfold keyL; rw [if_neg hk]
    rw [e]
    unfold keyN
    rw [if_neg, TL.numL_val]
    · omega
    · intro z
      rcases e2 : TL.numL k.natAbs with _ | ⟨c, l⟩
      · exact nne e2
      · rw [e2] at z
        have := dg c (by rw [e2]; simp)
        have : c = 45 := by simpa using z
        omega
theorem isKey_N {L : List Nat} (h : isKeyL L = true) : sm60 (keyN L) ∧ keyL (keyN L) = L := by
  obtain ⟨k, sm, e⟩ := isKey_of h
  rw [← e, keyN_key]
  exact ⟨sm, rfl⟩
theorem isKey_S {s : Str} (h : isKeyL (TL.tl s) = true) : s = strI (keyN (TL.tl s)) := TL.ext_tl (by rw [tl_strI, (isKey_N h).2])
def wordsL (L : List Nat) : List (List Nat) := if L = [] then [] else cutAt 32 L
def pageOk (L : List Nat) : Bool := (wordsL L).all isKeyL
def pageN (L : List Nat) : List Int := (wordsL L).map keyN
def partsL (L : List Nat) : List (List Nat) := if L = [] then [] else cutAt 124 L
def sumL (l : List Nat) : Nat := l.foldr (· + ·) 0
def layOk (L : List Nat) : Bool := (partsL L).all pageOk && decide ((partsL L).length ≤ 60) && decide (sumL ((partsL L).map fun p => (pageN p).length) ≤ 60)
def layN (L : List Nat) : List (List Int) := (partsL L).map pageN

end L3

set_option Elab.async false
set_option linter.all false
set_option maxRecDepth 100000
namespace L3
open PySem PySem.Spec PyProof.Rows L2
local macro_rules | `(tactic| walk_at "d") => `(tactic| first | assumption | exact up_same | exact dr_fd _ _ | exact dr_wd _ _ | exact dr_ref (by assumption) | exact dr_ref up_same | exact keyOf_int | (exact (rfl : isNop _ = false)) | exact keyOf_str | exact tyOf_fl | exact tyOf_str | exact tyOf_non | exact tyOf_int | exact tyOf_tup | exact tyOf_bl | exact tyOf_ref (by assumption) | exact tyOf_ref up_same | (intro z; cases z))
local macro_rules | `(tactic| walk_at "w") => `(tactic| try simp -implicitDefEqProofs (disch := walk_at "d") only [↓wpE, ↓wpA, ↓wpB, ↓wpT, ↓wpTs, ↓wpI, ↓wpS, ↓wpSs, ↓optW_some, ↓w_lk0, ↓w_lkS, ↓w_bs, ↓w_strI, ↓w_lenStr, ↓w_slcS, ↓w_inS, ↓w_notinS, ↓w_join, ↓w_split, ↓w_find, ↓w_find3, ↓w_ok_join, ↓w_ok_split, ↓w_ok_find, ↓w_chs, isN_str, tyOf_str, ↓w_bl0, ↓w_bl1, ↓w_k1, ↓w_kS, ↓w_b0, ↓w_b1, ↓w_b2, ↓w_b3, ↓w_b4, ↓w_b5, ↓w_b6, ↓w_b7, ↓w_b8, ↓w_b9, ↓w_b10, ↓w_b11, ↓w_b12, ↓w_b13, ↓w_b14, ↓w_b15, ↓w_b16, ↓w_b17, ↓w_b18, ↓w_b19, ↓w_b20, ↓w_b21, ↓w_b22, ↓w_b23, ↓w_b24, ↓w_b25, ↓alc_fz, ↓alc_lv, ↓w_dictZ, ↓w_eqNN, ↓w_add, ↓w_addS, ↓w_addL, ↓w_addT, ↓w_sub, ↓w_mul, ↓w_fdiv, ↓w_mod, ↓w_pow, ↓w_shl, ↓w_shr, ↓w_band, ↓w_eqI, ↓w_neI, ↓w_eqS, ↓w_neS, ↓w_lt, ↓w_le, ↓w_gt, ↓w_ge, ↓w_is, ↓w_isnot, ↓w_isB, ↓w_isnotB, ↓w_neF0, ↓w_eqF0, ↓w_neI_L, ↓w_eqI_L, ↓w_eqLL, ↓w_neDL, ↓w_eqDL, ↓w_idxR, ↓w_slcF, ↓w_slcT, ↓w_insert, ↓w_lrange, ↓w_revF, ↓w_revR, ↓w_tmul, ↓w_ok_indexF, ↓w_inI, ↓w_notinI, ↓w_eqEE, ↓w_neEE, ↓w_eqE0, ↓w_neE0, ↓w_eqRE, ↓w_neRE, ↓w_maxF, ↓w_minF, ↓w_eqB, ↓w_neB, ↓w_sortPF, ↓w_allF, ↓w_anyF, ↓w_slcR, ↓w_oi1, ↓w_oi2, ↓w_idxD, ↓w_inD, ↓w_notinD, ↓w_okD, ↓w_okDF, ↓w_okU, ↓w_get1N, ↓w_get2N, ↓w_get1, ↓w_get2, ↓w_upd, ↓w_putD, ↓w_frzD', ↓alcD_fz, ↓alcD_lv, ↓w_rep, ↓w_sortR, ↓w_sortF, ↓w_sumF, ↓w_idxF, ↓w_idxT, ↓w_idxS, ↓w_lenR, ↓w_lenF, ↓w_lenT, ↓w_lenS, ↓w_abs, ↓w_max2, ↓w_min2, ↓w_listF, ↓w_listT, ↓w_listR, ↓w_tupleF, ↓w_int, ↓w_intB, ↓w_isi, ↓w_ok_append, ↓w_ok_extend, ↓w_ok_pop, ↓w_ok_insert, ↓w_ok_reverse, ↓w_ok_clear, ↓w_ok_index, ↓w_ok_count, ↓w_append, ↓w_extend, ↓w_reverse, ↓w_clear, ↓w_frz, ↓w_set0, ↓w_set1, ↓w_set2, ↓w_at0, ↓w_at1, ↓w_at2, ↓w_at3, ↓w_blOf, ↓w_intOf, ↓w_refOf, ↓w_cellO, ↓wdK_wd, ↓w_lenDW, lockC_dic, lockC_lst, isN_wd, ↓w_truB, ↓w_truI, ↓w_truF, ↓w_truT, ↓w_truN, ↓optI, ↓isNop, optW_some, isN_non, isN_int, isN_tup, isN_fl, isN_ref, lv_fl, ls_fl, sq_fl, sq_tup, ls_sc, sq_sc, lv_up, ls_up, sq_up, tyOf_fl, tyOf_int, tyOf_tup, tyOf_bl, tyOf_ref, Option.bind_some, List.length_cons, List.length_nil, reduceIte, Bool.false_eq_true, if_true, if_false, List.map_cons, List.map_nil, List.replicate, List.cons_append, List.nil_append, Nat.reduceSub, Nat.reduceAdd, Nat.reduceLeDiff, Int.reduceLT, Int.reduceLE, Int.reduceNeg, Int.reduceToNat, Int.reducePow, and_true, true_and, or_true, true_or, decide_eq_true_eq, Bool.not_eq_true', decide_eq_false_iff_not, up_up, decide_true, decide_false, not_true_eq_false, not_false_eq_true, Bool.not_true, Bool.not_false, List.any_cons, List.any_nil, Bool.or_false, Bool.or_true, Bool.true_or, Bool.false_or, List.mem_cons, List.not_mem_nil, or_false, false_or, reduceCtorEq, sq_ref, lv_ref, ls_ref])
local macro_rules | `(tactic| walk_at "e") => `(tactic| simp only [List.map_cons, List.map_nil, List.replicate, List.cons_append, List.nil_append, Nat.reduceSub])
local macro_rules | `(tactic| walk_at "i") => `(tactic| try simp only [Bool.true_eq_false, Bool.false_eq_true, Bool.not_true, Bool.not_false, Bool.and_true, Bool.true_and, Bool.and_false, Bool.false_and, if_false, if_true, reduceIte, decide_true, decide_false, not_true_eq_false, not_false_eq_true, eq_self])
section
variable {F : Fs}
theorem fig_loop {figs : List Nat} (hd : NumText.AllDigits figs) {F : Fs} {n : Nat} {k : Int} {s : Str} {u : Option Val} {h : Hq} {Q : QV} {E : QE} (e : PySem.intText? s = some k) (hl : s.length ≤ 640) (q : Q (.int k) h) :
    wpSs (CN F n) c_read_key_2 { nx := fun x h' => Q Val.non h', rt := Q, ex := fun x x_1 h' => E x h' } [some (Val.str s), some (Val.str ⟨figs.toArray⟩), u] h := by
  unfold c_read_key_2
  walk_at "w"
  refine for_map (moS F n b_read_key_1) (fun pre ρ h' => h' = h ∧ ∃ u, ρ = [some (Val.str s), some (Val.str ⟨figs.toArray⟩), u]) (fun c => Val.str ⟨#[c]⟩) figs ?_ ?_ ?_
  · intro pre y post ρ h1 ey ⟨eh, u, eu⟩
    subst eh; subst eu
    refine ⟨trivial, _, rfl, ?_⟩
    unfold b_read_key_1
    simp only [List.set]
    walk_at "w"
    have m := mem_fig (hd y (by rw [ey]; simp))
    simp only [List.mem_cons, List.not_mem_nil, or_false] at m
    rw [if_neg (not_not_intro m)]
    exact ⟨_, rfl⟩
  · intro ρ h1 ⟨eh, u, eu⟩
    subst eh; subst eu
    refine ⟨trivial, ?_⟩
    unfold c_read_key_1
    walk_at "w"
    rw [w_intS e]
    exact ⟨hl, q⟩
  · exact ⟨rfl, _, rfl⟩
theorem read_key_ok (hF : F f_read_key = some d_read_key) {n : Nat} {k : Int} {h : Hq} {Q : QV} {E : QE} (hk : sm60 k) (q : Q (.int k) h) : CN F (n + 1) f_read_key [.str (strI k)] h Q E := by
  refine CN_go hF rfl ?_
  unfold d_read_key
  walk_at "e"
  walk_at "w"
  have T := tl_strI k
  have hlen : (strI k).length ≤ 61 := by rw [TL.len_tl, T]; exact keyL_len hk
  have n60 := numL_len60 hk
  have nne := TL.numL_ne k.natAbs
  have J : ∀ (u : Option Val), wpSs (CN F n) c_read_key_3 { nx := fun x h' => Q Val.non h', rt := Q, ex := fun x x_1 h' => E x h' } [some (Val.str (strI k)), some (Val.str ⟨(TL.numL k.natAbs).toArray⟩), u] h := by
    intro u
    have L2 := fig_loop (TL.numL_digits k.natAbs) (F := F) (n := n) (u := u) (E := E) (int_key hk) (by omega) q
    unfold c_read_key_3
    walk_at "w"
    have hl : (⟨(TL.numL k.natAbs).toArray⟩ : Str).length = (TL.numL k.natAbs).length := TL.len_tl _
    obtain ⟨c, l, e⟩ := List.exists_cons_of_ne_nil nne
    have l1 : 1 ≤ (TL.numL k.natAbs).length := by rw [e]; simp
    rw [hl, if_pos (by omega), decide_eq_true (by omega)]
    refine ⟨by omega, ?_⟩
    walk_at "i"
    rw [w_idxStr (c := c) (by show atI (TL.numL k.natAbs) ((0 : Nat) : Int) = _; rw [e]; unfold atI; rw [ixN_nat (by simp)]; rfl), hl]
    refine ⟨by omega, ?_⟩
    walk_at "w"
    split
    · rename_i h1
      split
      · rename_i h2
        refine absurd ?_ h2
        have c48 : c = 48 := by injection h1 with h1; simpa using h1
        by_cases k0 : k.natAbs = 0
        · have : k = 0 := by omega
          subst this
          refine TL.ext_tl ?_
          rw [T]
          decide +kernel
        · obtain ⟨c', l', e', hc⟩ := numL_head k0
          rw [e] at e'
          injection e' with e1 e2
          omega
      · exact L2
    · exact L2
  unfold c_read_key_4
  walk_at "w"
  refine ⟨by omega, ?_⟩
  rw [cut_1, cut_from1, T]
  by_cases hk0 : k < 0
  · have e : keyL k = 45 :: TL.numL k.natAbs := by unfold keyL; rw [if_pos hk0]
    rw [e, if_pos (by rfl)]
    exact ⟨by omega, J _⟩
  · have e : keyL k = TL.numL k.natAbs := by unfold keyL; rw [if_neg hk0]
    rw [if_neg]
    · have := J none
      rwa [← e, ← T, TL.mk_tl] at this
    · intro z
      rw [e] at z
      obtain ⟨c, l, e2⟩ := List.exists_cons_of_ne_nil nne
      rw [e2] at z
      have : c = 45 := by injection z with z; simpa using z
      have d := TL.numL_digits k.natAbs c (by rw [e2]; simp)
      omega
end
/-! ### trees as texts -/
def treeL : Tr → List Nat
  | .nil => [46]
  | .nd l k r => 40 :: (treeL l ++ (32 :: (keyL k ++ (32 :: (treeL r ++ [41])))))
theorem tl_lit1 (c : Nat) : TL.tl (⟨#[c]⟩ : Str) = [c] := rfl
def treeS (t : Tr) : Str := ⟨(treeL t).toArray⟩
theorem tl_treeS (t : Tr) : TL.tl (treeS t) = treeL t := rfl
def keysOk (t : Tr) : Prop := ∀ k ∈ t.keys, sm60 k
theorem keysOk_l {l r : Tr} {k : Int} (h : keysOk (.nd l k r)) : keysOk l := fun x m => h x (by simp [Tr.keys, m])
theorem keysOk_r {l r : Tr} {k : Int} (h : keysOk (.nd l k r)) : keysOk r := fun x m => h x (by simp [Tr.keys, m])
theorem keysOk_k {l r : Tr} {k : Int} (h : keysOk (.nd l k r)) : sm60 k := h k (by simp [Tr.keys])
theorem treeL_len : ∀ {t : Tr}, keysOk t → (treeL t).length ≤ 66 * t.size + 1
  | .nil, _ => by simp [treeL]
  | .nd l k r, h => by
    have a := treeL_len (keysOk_l h)
    have b := treeL_len (keysOk_r h)
    have c := keyL_len (keysOk_k h)
    simp only [treeL, Tr.size, List.length_cons, List.length_append, List.length_nil]
    omega
section
variable {F : Fs}
theorem show_tree_ok (hF : F f_show_tree = some d_show_tree) {h : Hq} {E : QE} : ∀ (t : Tr) (n : Nat) {Q : QV}, t.ht < n → t.size ≤ 1000 → keysOk t → Q (.str (treeS t)) h → CN F n f_show_tree [t.tv] h Q E
  | t, 0, Q, hn, _, _, q => by omega
  | .nil, n + 1, Q, hn, _, _, q => by
    refine CN_go hF rfl ?_
    unfold d_show_tree
    simp only [Tr.tv]
    walk_at "e"
    walk_at "w"
    exact q
  | .nd l k r, n + 1, Q, hn, hz, hk, q => by
    refine CN_go hF rfl ?_
    unfold d_show_tree
    simp only [Tr.tv]
    walk_at "e"
    walk_at "w"
    simp only [Tr.ht] at hn
    simp only [Tr.size] at hz
    have a := treeL_len (keysOk_l hk)
    have b := treeL_len (keysOk_r hk)
    have c := keyL_len (keysOk_k hk)
    refine show_tree_ok hF l n (by omega) (by omega) (keysOk_l hk) ?_
    walk_at "w"
    have z1 : ∀ c : Nat, (⟨#[c]⟩ : Str).length = 1 := fun _ => rfl
    have z2 : ∀ s t : Str, (s ++ t).length = s.length + t.length := fun s t => by rw [TL.len_tl, TL.tl_append, List.length_append, ← TL.len_tl, ← TL.len_tl]
    have z3 : ∀ t, (treeS t).length = (treeL t).length := fun t => TL.len_tl _
    have z4 : (strI k).length = (keyL k).length := by rw [TL.len_tl, tl_strI]
    simp only [z1, z2, z3, z4]
    refine ⟨by omega, by omega, sm60_log (keysOk_k hk), by omega, by omega, ?_⟩
    refine show_tree_ok hF r n (by omega) (by omega) (keysOk_r hk) ?_
    walk_at "w"
    simp only [z1, z2, z3, z4]
    refine ⟨by omega, by omega, ?_⟩
    have e : ∀ A B C D : Str, TL.tl (A ++ B ++ C ++ D) = TL.tl A ++ TL.tl B ++ TL.tl C ++ TL.tl D := fun A B C D => by simp only [TL.tl_append]
    refine cast (congrArg (fun s => Q (.str s) h) (TL.ext_tl ?_)) q
    simp only [TL.tl_append, tl_lit1, tl_treeS, tl_strI, treeL, List.append_assoc, List.cons_append, List.nil_append]
end
/-! ### pages and layouts as texts -/
def pageS (p : List Int) : Str := Txt.join ⟨#[32]⟩ (p.map strI)
def layS (P : List (List Int)) : Str := Txt.join ⟨#[124]⟩ (P.map pageS)
theorem tl_pageS (p : List Int) : TL.tl (pageS p) = TL.joinL [32] (p.map keyL) := by
  unfold pageS
  rw [TL.join_eq, TL.tl_join, List.map_map]
  congr 1
  exact List.map_congr_left fun k _ => tl_strI k
theorem tl_layS (P : List (List Int)) : TL.tl (layS P) = TL.joinL [124] (P.map fun p => TL.tl (pageS p)) := by
  unfold layS
  rw [TL.join_eq, TL.tl_join, List.map_map]
  rfl
theorem joinL_snoc (S : List Nat) (p : List Nat) : ∀ L : List (List Nat), TL.joinL S (L ++ [p]) = if L = [] then p else TL.joinL S L ++ (S ++ p)
  | [] => rfl
  | [q] => by simp [TL.joinL]
  | q :: r :: L => by
    have := joinL_snoc S p (r :: L)
    rw [if_neg (by simp)] at this ⊢
    show q ++ (S ++ TL.joinL S ((r :: L) ++ [p])) = (q ++ (S ++ TL.joinL S (r :: L))) ++ (S ++ p)
    rw [this]
    simp only [List.append_assoc]
theorem joinL_len {s c : Nat} : ∀ {L : List (List Nat)}, (∀ p ∈ L, p.length ≤ c) → (TL.joinL [s] L).length ≤ L.length * (c + 1)
  | [], _ => by simp [TL.joinL]
  | [p], h => by have := h p (by simp); simp [TL.joinL]; omega
  | p :: q :: r, h => by
    have h1 := h p (by simp)
    have := joinL_len (s := s) (c := c) (L := q :: r) fun x m => h x (by simp [m])
    simp only [TL.joinL, List.length_append, List.length_cons, List.length_nil] at this ⊢
    rw [Nat.add_mul, Nat.one_mul]
    omega
theorem joinL_free {s x : Nat} (hx : x ≠ s) : ∀ {L : List (List Nat)}, (∀ p ∈ L, x ∉ p) → x ∉ TL.joinL [s] L
  | [], _ => by simp [TL.joinL]
  | [p], h => by simpa [TL.joinL] using h p (by simp)
  | p :: q :: r, h => by
    have h1 := h p (by simp)
    have := joinL_free (s := s) hx (L := q :: r) fun z m => h z (by simp [m])
    simp only [TL.joinL, List.mem_append, not_or]
    exact ⟨h1, by simpa using hx, this⟩
theorem pageS_len {p : List Int} (h : ∀ k ∈ p, sm60 k) : (pageS p).length ≤ p.length * 62 := by
  rw [TL.len_tl, tl_pageS]
  have := joinL_len (s := 32) (c := 61) (L := p.map keyL) fun x m => by
    obtain ⟨k, hk, rfl⟩ := List.mem_map.mp m
    exact keyL_len (h k hk)
  rwa [List.length_map] at this
theorem pageS_bar (p : List Int) : (124 : Nat) ∉ TL.tl (pageS p) := by
  rw [tl_pageS]
  refine joinL_free (by decide) fun x m => ?_
  obtain ⟨k, hk, rfl⟩ := List.mem_map.mp m
  exact keyL_free (by omega) (by omega)
theorem pageS_ne {p : List Int} (h : p ≠ []) : pageS p ≠ ⟨#[]⟩ := fun e => by
  have e := congrArg TL.tl e
  rw [tl_pageS] at e
  obtain ⟨k, r, rfl⟩ := List.exists_cons_of_ne_nil h
  have := keyL_ne k
  cases r with
  | nil => exact this e
  | cons j r =>
    simp only [List.map_cons, TL.joinL] at e
    have e : _ ++ _ = ([] : List Nat) := e
    exact this (List.append_eq_nil_iff.mp e).1
theorem pageS_nil : pageS [] = ⟨#[]⟩ := rfl
theorem pageS_split {p : List Int} (h : p ≠ []) : Txt.split (pageS p) ⟨#[32]⟩ = p.map strI := by
  refine TL.split_join (s := 32) (S := []) rfl (by decide +kernel) (by simpa using h) fun x m => ?_
  obtain ⟨k, hk, rfl⟩ := List.mem_map.mp m
  rw [tl_strI]
  exact keyL_free (by omega) (by omega)
theorem layS_ne {P : List (List Int)} (h : P ≠ []) (h1 : P ≠ [[]]) : layS P ≠ ⟨#[]⟩ := fun e => by
  have e := congrArg TL.tl e
  rw [tl_layS] at e
  obtain ⟨p, r, rfl⟩ := List.exists_cons_of_ne_nil h
  cases r with
  | nil =>
    have : p ≠ [] := fun z => h1 (by rw [z])
    refine pageS_ne this (TL.ext_tl ?_)
    exact e
  | cons j r =>
    simp only [List.map_cons, TL.joinL] at e
    have e : _ ++ ([124] ++ _) = ([] : List Nat) := e
    have := (List.append_eq_nil_iff.mp e).2
    simp at this
theorem layS_split {P : List (List Int)} (h : P ≠ []) : Txt.split (layS P) ⟨#[124]⟩ = P.map pageS := by
  refine TL.split_join (s := 124) (S := []) rfl (by decide +kernel) (by simpa using h) fun x m => ?_
  obtain ⟨k, hk, rfl⟩ := List.mem_map.mp m
  exact pageS_bar k
/-- a layout that a text can tell -/
structure Lok (P : List (List Int)) : Prop where
  key : ∀ p ∈ P, ∀ k ∈ p, sm60 k
  few : P.length ≤ 60
  all : P.flatten.length ≤ 60
  one : P ≠ [[]]
theorem flat_le {P : List (List Int)} {p : List Int} (m : p ∈ P) : p.length ≤ P.flatten.length := by
  obtain ⟨a, b, rfl⟩ := List.append_of_mem m
  simp only [List.flatten_append, List.flatten_cons, List.length_append]
  omega
theorem sum_flat (P : List (List Int)) : (P.map List.length).sum = P.flatten.length := by
  induction P with
  | nil => rfl
  | cons p P ih => simp only [List.map_cons, List.sum_cons, List.flatten_cons, List.length_append, ih]
theorem sum_len_le {α : Type} {f : α → Nat} {c : Nat} : ∀ {L : List α}, (∀ x ∈ L, f x ≤ c) → (L.map f).sum ≤ L.length * c
  | [], _ => by simp
  | x :: L, h => by
    have h1 := h x (by simp)
    have := sum_len_le (L := L) fun y m => h y (by simp [m])
    simp only [List.map_cons, List.sum_cons, List.length_cons, Nat.add_mul, Nat.one_mul]
    omega
theorem layS_len {P : List (List Int)} (h : ∀ p ∈ P, ∀ k ∈ p, sm60 k) (h2 : P.length ≤ 61) (h3 : P.flatten.length ≤ 60) : (layS P).length ≤ 61 * 3721 := by
  rw [TL.len_tl, tl_layS]
  have := joinL_len (s := 124) (c := 3720) (L := P.map fun p => TL.tl (pageS p)) fun x m => by
    obtain ⟨k, hk, rfl⟩ := List.mem_map.mp m
    have := pageS_len (h k hk)
    have := flat_le hk
    rw [TL.len_tl] at *
    omega
  rw [List.length_map] at this
  have := Nat.mul_le_mul_right 3721 h2
  omega
section
variable {F : Fs}
theorem show_page_ok (hF : F f_show_page = some d_show_page) {n : Nat} {p : List Int} {h : Hq} {Q : QV} {E : QE} (hk : ∀ k ∈ p, sm60 k) (hl : p.length ≤ 60) (q : Q (.str (pageS p)) h) : CN F (n + 1) f_show_page [.fl (p.map .int)] h Q E := by
  refine CN_go hF rfl ?_
  unfold d_show_page
  walk_at "e"
  walk_at "w"
  refine comp_map' Val.int p (fun k => .str (strI k)) (by omega) (fun b acc hb => ⟨trivial, fun k hk' => ⟨_, rfl, fun K q => ?_⟩⟩) ?_
  · unfold e_show_page_1
    try simp only [List.set]
    walk_at "w"
    exact ⟨sm60_log (hk k hk'), q⟩
  · walk_at "w"
    have e : (p.map fun k => Val.str (strI k)) = (p.map strI).map .str := by rw [List.map_map]; rfl
    rw [e, w_join]
    refine ⟨?_, q⟩
    have : ((p.map strI).map (·.length)).sum ≤ p.length * 61 := by
      have := sum_len_le (f := fun s : Str => s.length) (c := 61) (L := p.map strI) fun x m => by
        obtain ⟨k, hk', rfl⟩ := List.mem_map.mp m
        show (strI k).length ≤ 61
        rw [TL.len_tl, tl_strI]; exact keyL_len (hk k hk')
      rwa [List.length_map] at this
    have l1 : (⟨#[32]⟩ : Str).length = 1 := rfl
    rw [l1, List.length_map]
    omega
theorem show_layout_ok (hF : F f_show_layout = some d_show_layout) (hP : F f_show_page = some d_show_page) {n : Nat} {P : List (List Int)} {h : Hq} {Q : QV} {E : QE} (hk : ∀ p ∈ P, ∀ k ∈ p, sm60 k) (hl : P.length ≤ 61) (hf : P.flatten.length ≤ 60)
    (q : Q (.str (layS P)) h) : CN F (n + 2) f_show_layout [.fl (P.map fun p => .fl (p.map .int))] h Q E := by
  refine CN_go hF rfl ?_
  unfold d_show_layout
  walk_at "e"
  walk_at "w"
  refine comp_map' (fun p : List Int => Val.fl (p.map .int)) P (fun p => .str (pageS p)) (by omega) (fun b acc hb => ⟨trivial, fun p hp => ⟨_, rfl, fun K q => ?_⟩⟩) ?_
  · unfold e_show_layout_1
    try simp only [List.set]
    walk_at "w"
    have := flat_le hp
    exact show_page_ok hP (hk p hp) (by omega) q
  · walk_at "w"
    have e : (P.map fun p => Val.str (pageS p)) = (P.map pageS).map .str := by rw [List.map_map]; rfl
    rw [e, w_join]
    refine ⟨?_, q⟩
    have : ((P.map pageS).map (·.length)).sum ≤ P.length * 3720 := by
      have := sum_len_le (f := fun s : Str => s.length) (c := 3720) (L := P.map pageS) fun x m => by
        obtain ⟨p, hp, rfl⟩ := List.mem_map.mp m
        have := pageS_len (hk p hp)
        have := flat_le hp
        show (pageS p).length ≤ 3720
        omega
      rwa [List.length_map] at this
    have l1 : (⟨#[124]⟩ : Str).length = 1 := rfl
    rw [l1, List.length_map]
    have := Nat.mul_le_mul_right 3720 hl
    omega
end
theorem sum_lenI (P : List (List Int)) : (P.map fun p => ((p.length : Nat) : Int)).sum = ((P.flatten.length : Nat) : Int) := by
  induction P with
  | nil => rfl
  | cons p P ih =>
    simp only [List.map_cons, List.sum_cons, ih, List.flatten_cons, List.length_append]
    omega
/-! ### what is refused -/
theorem tk1 (L : List Nat) : (({ cps := (List.take 1 L).toArray } : Str) = { cps := #[45] }) ↔ L.head? = some 45 := by
  cases L with
  | nil =>
    constructor
    · intro z
      injection z with z
      simp at z
    · intro z
      simp at z
  | cons c l =>
    constructor
    · intro z
      injection z with z
      simpa using z
    · intro z
      have : c = 45 := by simpa using z
      rw [this]
      rfl
section
variable {F : Fs} {n : Nat} {h : Hq} {Q : QV} {E : QE}
theorem fig_loopN {figs : List Nat} (hf : figs.all digB = false) (e6 : E 6 h) (s : Str) (u : Option Val) :
    wpSs (CN F n) c_read_key_2 { nx := fun x h' => Q Val.non h', rt := Q, ex := fun x x_1 h' => E x h' } [some (Val.str s), some (Val.str ⟨figs.toArray⟩), u] h := by
  unfold c_read_key_2
  walk_at "w"
  refine for_map (moS F n b_read_key_1) (fun pre ρ h' => h' = h ∧ pre.all digB = true ∧ ∃ u, ρ = [some (Val.str s), some (Val.str ⟨figs.toArray⟩), u]) (fun c => Val.str ⟨#[c]⟩) figs ?_ ?_ ?_
  · intro pre y post ρ h1 ey ⟨eh, hp, u, eu⟩
    subst eh; subst eu
    refine ⟨trivial, _, rfl, ?_⟩
    unfold b_read_key_1
    simp only [List.set]
    walk_at "w"
    by_cases d : digB y = true
    · have m : y ∈ [48, 49, 50, 51, 52, 53, 54, 55, 56, 57] := mem_fig (by simpa [digB] using d)
      simp only [List.mem_cons, List.not_mem_nil, or_false] at m
      rw [if_neg (not_not_intro m)]
      exact ⟨by rw [List.all_append, hp]; simp [d], _, rfl⟩
    · have m : ¬ (y = 48 ∨ y = 49 ∨ y = 50 ∨ y = 51 ∨ y = 52 ∨ y = 53 ∨ y = 54 ∨ y = 55 ∨ y = 56 ∨ y = 57) := fun z => d (by simp only [digB, Bool.and_eq_true, decide_eq_true_eq]; omega)
      rw [if_pos m]
      exact e6
  · intro ρ h1 ⟨eh, hp, u, eu⟩
    rw [hf] at hp
    cases hp
  · exact ⟨rfl, rfl, _, rfl⟩
theorem read_key_any (hF : F f_read_key = some d_read_key) {s : Str} (hl : s.length ≤ 1000000) (q : isKeyL (TL.tl s) = true → Q (.int (keyN (TL.tl s))) h) (qe : isKeyL (TL.tl s) = false → E 6 h) : CN F (n + 1) f_read_key [.str s] h Q E := by
  cases hk : isKeyL (TL.tl s) with
  | true =>
    rw [isKey_S hk]
    exact read_key_ok hF (isKey_N hk).1 (q hk)
  | false =>
    have e6 := qe hk
    refine CN_go hF rfl ?_
    unfold d_read_key
    walk_at "e"
    walk_at "w"
    have J : ∀ u, wpSs (CN F n) c_read_key_3 { nx := fun x h' => Q Val.non h', rt := Q, ex := fun x x_1 h' => E x h' } [some (.str s), some (.str ⟨(figL (TL.tl s)).toArray⟩), u] h := by
      intro u
      unfold c_read_key_3
      walk_at "w"
      have hl : (⟨(figL (TL.tl s)).toArray⟩ : Str).length = (figL (TL.tl s)).length := TL.len_tl _
      rw [hl]
      have hn : ∀ z : Nat, figL (TL.tl s) = [] ∨ 60 < (figL (TL.tl s)).length ∨ ((figL (TL.tl s)).head? = some 48 ∧ TL.tl s ≠ [48]) ∨ (figL (TL.tl s)).all digB = false := fun _ => by
        unfold isKeyL at hk
        simp only [Bool.and_eq_false_iff, Bool.or_eq_false_iff, decide_eq_false_iff_not, Classical.not_not] at hk
        rcases hk with ((h1 | h1) | h1) | h1
        · left
          rcases e : figL (TL.tl s) with _ | ⟨c, l⟩
          · rfl
          · rw [e] at h1; simp at h1
        · exact .inr (.inl (by omega))
        · exact .inr (.inr (.inr h1))
        · exact .inr (.inr (.inl h1))
      have hn := hn 0
      have hfl : (figL (TL.tl s)).length ≤ s.length := by
        rw [TL.len_tl s]
        unfold figL
        split
        · rw [List.length_drop]; omega
        · exact Nat.le_refl _
      have L6 : ∀ g6 : (figL (TL.tl s)).all digB = false, _ := fun g6 => fig_loopN (F := F) (n := n) (Q := Q) g6 e6 s u
      generalize figL (TL.tl s) = fg at *
      refine ⟨by omega, ?_⟩
      cases fg with
      | nil =>
        rw [if_neg (by simp)]
        exact e6
      | cons c l =>
        rw [if_pos (by simp only [List.length_cons]; omega)]
        by_cases g : (c :: l).length ≤ 60
        · rw [decide_eq_true (show ((c :: l).length : Int) ≤ 60 by omega)]
          walk_at "i"
          rw [w_idxStr (c := c) (by show atI (c :: l) ((0 : Nat) : Int) = _; unfold atI; rw [ixN_nat (by simp)]; rfl)]
          refine ⟨by rw [hl]; omega, ?_⟩
          walk_at "w"
          have hn : (c = 48 ∧ TL.tl s ≠ [48]) ∨ (c :: l).all digB = false := by
            rcases hn with h | h | h | h
            · cases h
            · omega
            · exact .inl ⟨by simpa using h.1, h.2⟩
            · exact .inr h
          have c1 : (({ cps := #[c] } : Str) = { cps := #[48] }) ↔ c = 48 := ⟨fun z => by injection z with z; simpa using z, fun z => by rw [z]⟩
          have c2 : (s = ({ cps := #[48] } : Str)) ↔ TL.tl s = [48] := ⟨fun z => by rw [z], fun z => TL.ext_tl (by rw [z])⟩
          simp only [c1, c2]
          by_cases c48 : c = 48
          · rw [if_pos c48]
            by_cases s48 : TL.tl s = [48]
            · rw [if_neg (not_not_intro s48)]
              rcases hn with h | h
              · exact absurd s48 h.2
              · exact L6 h
            · rw [if_pos s48]
              exact e6
          · rw [if_neg c48, if_neg c48]
            rcases hn with h | h
            · exact absurd h.1 c48
            · exact L6 h
        · rw [decide_eq_false (show ¬ ((c :: l).length : Int) ≤ 60 by omega)]
          walk_at "i"
          rw [if_pos (by omega)]
          exact e6
    unfold c_read_key_4
    walk_at "w"
    refine ⟨by omega, ?_⟩
    rw [cut_1, cut_from1]
    unfold figL at J
    by_cases c : (TL.tl s).head? = some 45
    · rw [if_pos c] at J
      rw [if_pos]
      · exact ⟨by omega, J _⟩
      · exact (tk1 _).mpr c
    · rw [if_neg c] at J
      rw [if_neg]
      · have := J none
        rwa [TL.mk_tl] at this
      · exact fun z => c ((tk1 _).mp z)
/-- a page, read -/
theorem read_page_any (hF : F f_read_page = some d_read_page) (hK : F f_read_key = some d_read_key) {s : Str} (hl : s.length ≤ 999990)
    (q : pageOk (TL.tl s) = true → Q (.fl ((pageN (TL.tl s)).map .int)) h) (qe : pageOk (TL.tl s) = false → ∀ h', Grow h h' → E 6 h') : CN F (n + 2) f_read_page [.str s] h Q E := by
  refine CN_go hF rfl ?_
  unfold d_read_page
  walk_at "e"
  walk_at "w"
  have c2 : (s = ({ cps := #[] } : Str)) ↔ TL.tl s = [] := ⟨fun z => by rw [z], fun z => TL.ext_tl (by rw [z])⟩
  simp only [c2]
  by_cases e : TL.tl s = []
  · rw [if_pos e]
    have := q (by rw [e]; rfl)
    rw [e] at this
    exact this
  · rw [if_neg e]
    unfold c_read_page_1
    walk_at "w"
    refine ⟨⟨rfl, by omega⟩, ?_⟩
    have cl := cutAt_len 32 (TL.tl s)
    have ws : wordsL (TL.tl s) = cutAt 32 (TL.tl s) := by unfold wordsL; rw [if_neg e]
    rw [split_mk s (by decide), List.map_map]
    rw [TL.len_tl] at hl
    refine compX_map (Val.str ∘ sOf) (cutAt 32 (TL.tl s)) isKeyL (fun w => .int (keyN w)) (by omega) (fun b acc hb => ⟨trivial, fun w hw => ⟨_, rfl, fun K q => ?_⟩⟩) fun all => ?_
    · unfold e_read_page_1
      try simp only [List.set]
      walk_at "w"
      have := cl.2 w hw
      refine read_key_any hK (s := sOf w) (by rw [TL.len_tl, tl_sOf]; omega) (fun k => q k) fun k => ?_
      refine qe ?_ _ (Grow.up hb)
      unfold pageOk
      rw [ws]
      cases g : (cutAt 32 (TL.tl s)).all isKeyL with
      | false => rfl
      | true =>
        have := List.all_eq_true.mp g w hw
        rw [tl_sOf] at k
        rw [this] at k
        cases k
    · rw [alc_fz]
      have := q (by unfold pageOk; rw [ws]; exact List.all_eq_true.mpr all)
      unfold pageN at this
      rw [ws, List.map_map] at this
      exact this
theorem sumL_eq : ∀ l : List Nat, ((l.map fun n => ((n : Nat) : Int)).sum) = ((sumL l : Nat) : Int)
  | [] => rfl
  | n :: l => by
    simp only [List.map_cons, List.sum_cons, sumL_eq l, sumL, List.foldr_cons]
    omega
/-- a layout, read -/
theorem read_layout_any (hF : F f_read_layout = some d_read_layout) (hP : F f_read_page = some d_read_page) (hK : F f_read_key = some d_read_key) {s : Str} (hl : s.length ≤ 999980)
    (q : layOk (TL.tl s) = true → Q (.fl ((layN (TL.tl s)).map fun p => .fl (p.map .int))) h) (qe : layOk (TL.tl s) = false → ∀ h', Grow h h' → E 6 h') : CN F (n + 3) f_read_layout [.str s] h Q E := by
  refine CN_go hF rfl ?_
  unfold d_read_layout
  walk_at "e"
  walk_at "w"
  unfold c_read_layout_4
  walk_at "w"
  have c2 : (s = ({ cps := #[] } : Str)) ↔ TL.tl s = [] := ⟨fun z => by rw [z], fun z => TL.ext_tl (by rw [z])⟩
  simp only [c2]
  by_cases e : TL.tl s = []
  · rw [if_pos e]
    have := q (by rw [e]; rfl)
    rw [e] at this
    exact this
  · rw [if_neg e]
    unfold c_read_layout_3
    walk_at "w"
    refine ⟨⟨rfl, by omega⟩, ?_⟩
    have cl := cutAt_len 124 (TL.tl s)
    have ps : partsL (TL.tl s) = cutAt 124 (TL.tl s) := by unfold partsL; rw [if_neg e]
    rw [split_mk s (by decide), List.map_map]
    rw [TL.len_tl] at hl
    refine compX_map (Val.str ∘ sOf) (cutAt 124 (TL.tl s)) pageOk (fun w => .fl ((pageN w).map .int)) (by omega) (fun b acc hb => ⟨trivial, fun w hw => ⟨_, rfl, fun K q => ?_⟩⟩) fun all => ?_
    · unfold e_read_layout_1
      try simp only [List.set]
      walk_at "w"
      have := cl.2 w hw
      refine read_page_any hP hK (s := sOf w) (by rw [TL.len_tl, tl_sOf]; omega) (fun k => q k) fun k h' g => ?_
      refine qe ?_ _ ((Grow.up hb).trans g)
      unfold layOk
      rw [ps]
      cases g : (cutAt 124 (TL.tl s)).all pageOk with
      | false => rfl
      | true =>
        have := List.all_eq_true.mp g w hw
        rw [tl_sOf] at k
        rw [this] at k
        cases k
    · rw [alc_fz]
      unfold c_read_layout_2
      have allp : (partsL (TL.tl s)).all pageOk = true := by rw [ps]; exact List.all_eq_true.mpr all
      unfold layOk at q qe
      rw [allp, ps, Bool.true_and] at q qe
      unfold layN at q
      rw [ps, List.map_map] at q
      generalize cutAt 124 (TL.tl s) = P at *
      simp only [List.set]
      walk_at "w"
      rw [List.length_map]
      by_cases h60 : P.length ≤ 60
      · rw [if_pos (by omega)]
        rw [decide_eq_true h60, Bool.true_and] at q qe
        refine comp_map' (fun w => Val.fl (List.map Val.int (pageN w))) P (fun p => .int ((pageN p).length : Nat)) (by omega) (fun b acc hb => ⟨trivial, fun p hp' => ⟨_, rfl, fun K q => ?_⟩⟩) ?_
        · unfold e_read_layout_2
          simp only [wipe3, List.set]
          walk_at "w"
          rw [List.length_map]
          exact q
        · walk_at "w"
          rw [map_int P fun p => ((pageN p).length : Nat)]
          walk_at "w"
          have es : (P.map fun p => (((pageN p).length : Nat) : Int)).sum = ((sumL (P.map fun p => (pageN p).length) : Nat) : Int) := by rw [← sumL_eq, List.map_map]; rfl
          rw [es]
          by_cases s60 : sumL (P.map fun p => (pageN p).length) ≤ 60
          · rw [if_neg (by omega)]
            unfold c_read_layout_1
            walk_at "w"
            have := q (decide_eq_true s60)
            exact this
          · rw [if_pos (by omega)]
            exact qe (decide_eq_false s60) h Grow.refl
      · rw [if_neg (by omega), if_pos (by omega)]
        exact qe (by rw [decide_eq_false h60]; rfl) h Grow.refl
end
/-! ### things -/
mutual
def okV : Val → Bool
  | .non => true | .bl _ => true | .int _ => true | .str s => PyData.strOk s
  | .tup xs => okVs xs
  | .fl xs => okVs xs
  | .fd [] [] => true
  | _ => false
def okVs : List Val → Bool
  | [] => true | x :: xs => okV x && okVs xs
end
mutual
/-- how deep -/
def dpV : Val → Nat
  | .tup xs => 1 + dpVs xs
  | .fl xs => 1 + dpVs xs
  | _ => 0
def dpVs : List Val → Nat
  | [] => 0 | x :: xs => max (dpV x) (dpVs xs)
end
theorem okVs_mem {x : Val} : ∀ {xs : List Val}, okVs xs = true → x ∈ xs → okV x = true
  | y :: ys, h, m => by
    simp only [okVs, Bool.and_eq_true] at h
    rcases List.mem_cons.mp m with rfl | m
    · exact h.1
    · exact okVs_mem h.2 m
theorem okVs_of : ∀ {xs : List Val}, (∀ x ∈ xs, okV x = true) → okVs xs = true
  | [], _ => rfl
  | y :: ys, h => by simp only [okVs, Bool.and_eq_true]; exact ⟨h y (by simp), okVs_of fun x m => h x (by simp [m])⟩
theorem dpVs_mem {x : Val} : ∀ {xs : List Val}, x ∈ xs → dpV x ≤ dpVs xs
  | y :: ys, m => by
    simp only [dpVs]
    rcases List.mem_cons.mp m with rfl | m
    · omega
    · have := dpVs_mem m; omega
theorem dpVs_of {n : Nat} : ∀ {xs : List Val}, (∀ x ∈ xs, dpV x ≤ n) → dpVs xs ≤ n
  | [], _ => Nat.zero_le _
  | y :: ys, h => by simp only [dpVs]; have := h y (by simp); have := dpVs_of (xs := ys) fun x m => h x (by simp [m]); omega
mutual
theorem pd_ok : ∀ {v : Val} {d : PyData}, okV v = true → pd v = some d → d.canLay0 = true ∧ d.depth ≤ dpV v
  | .non, d, _, e => by cases e; exact ⟨rfl, Nat.le_refl _⟩
  | .bl _, d, _, e => by cases e; exact ⟨rfl, Nat.le_refl _⟩
  | .int _, d, _, e => by cases e; exact ⟨rfl, Nat.le_refl _⟩
  | .str s, d, h, e => by cases e; exact ⟨by simpa [okV, PyData.canLay0] using h, Nat.le_refl _⟩
  | .tup xs, d, h, e => by
    simp only [pd] at e
    obtain ⟨ds, e1, rfl⟩ := Option.map_eq_some_iff.mp e
    obtain ⟨a, b⟩ := pds_ok (by simpa [okV] using h) e1
    exact ⟨by simpa [PyData.canLay0] using a, by simp only [PyData.depth, dpV]; omega⟩
  | .fl xs, d, h, e => by
    simp only [pd] at e
    obtain ⟨ds, e1, rfl⟩ := Option.map_eq_some_iff.mp e
    obtain ⟨a, b⟩ := pds_ok (by simpa [okV] using h) e1
    exact ⟨by simpa [PyData.canLay0] using a, by simp only [PyData.depth, dpV]; omega⟩
  | .sc ns, d, h, e => by simp [okV] at h
  | .ref _, d, h, e => by simp [okV] at h
  | .fd _ _, d, _, e => by cases e
  | .wd _ _, d, _, e => by cases e
theorem pds_ok : ∀ {xs : List Val} {ds : List PyData}, okVs xs = true → pds xs = some ds → PyData.canLayAll0 ds = true ∧ PyData.depthAll ds ≤ dpVs xs
  | [], ds, _, e => by cases e; exact ⟨rfl, Nat.le_refl _⟩
  | x :: xs, ds, h, e => by
    simp only [okVs, Bool.and_eq_true] at h
    unfold pds at e
    split at e
    · rename_i d ds' e1 e2
      cases e
      obtain ⟨a1, b1⟩ := pd_ok h.1 e1
      obtain ⟨a2, b2⟩ := pds_ok h.2 e2
      exact ⟨by simp only [PyData.canLayAll0, a1, a2, Bool.and_self], by simp only [PyData.depthAll, dpVs]; omega⟩
    · cases e
end
theorem mapO_pd : ∀ xs : List Val, mapO pd xs = pds xs
  | [] => rfl
  | x :: xs => by rw [mapO, pds, mapO_pd xs]; cases pd x <;> cases pds xs <;> rfl
theorem mapO_cg {f g : Val → Option PyData} : ∀ {xs : List Val}, (∀ x ∈ xs, f x = g x) → mapO f xs = mapO g xs
  | [], _ => rfl
  | x :: xs, h => by rw [mapO, mapO, h x (by simp), mapO_cg fun y m => h y (by simp [m])]
theorem dtN_ok {h : Hq} : ∀ (n : Nat) {v : Val}, okV v = true → dtN n h v = pd v
  | 0, v, _ => rfl
  | n + 1, v, o => by
    unfold dtN
    cases e : pd v with
    | some d => rfl
    | none =>
      cases v with
      | tup xs =>
        have ih : mapO (dtN n h) xs = pds xs := by rw [← mapO_pd]; exact mapO_cg fun x m => dtN_ok n (okVs_mem (by simpa [okV] using o) m)
        simp only [pd] at e
        simp only [ih]
        exact e
      | fl xs =>
        have ih : mapO (dtN n h) xs = pds xs := by rw [← mapO_pd]; exact mapO_cg fun x m => dtN_ok n (okVs_mem (by simpa [okV] using o) m)
        simp only [pd] at e
        simp only [ih]
        exact e
      | ref a => simp [okV] at o
      | _ => rfl
theorem dt1_ok {h : Hq} {v : Val} (o : okV v = true) : dt1 h v = pd v := by
  cases v <;> first | rfl | (simp [okV] at o)
/-- a live list of things against [] -/
theorem w_neOk {h : Hq} {Q : QV} {a : Addr} {xs : List Val} (e : h a = some (.lst xs)) (o : okVs xs = true) (dp : dpVs xs ≤ 63) : prW (cmpR .ne (.ref a) (.fl []) h) Q = Q (.bl (!decide (xs = []))) h := by
  have c : cmpR .ne (.ref a) (.fl []) h = eqR true (.ref a) (.fl []) h := rfl
  have d1 : dt h (.ref a) = (pds xs).map PyData.list := by
    have : mapO (dt1 h) xs = pds xs := by rw [← mapO_pd]; exact mapO_cg fun x m => dt1_ok (okVs_mem o m)
    simp only [dt, e, this]
  have d2 : dt h (.fl []) = some (.list []) := rfl
  rw [c]
  cases ep : pds xs with
  | some ds =>
    obtain ⟨a1, a2⟩ := pds_ok o ep
    have s1 : SeqAt.shaped (.list ds) = true := by simp [SeqAt.shaped, PyData.canLay0, PyData.depth, a1]; omega
    have s2 : SeqAt.shaped (.list []) = true := rfl
    have e2 : PyData.eqv (.list ds) (.list []) = decide (xs = []) := by
      cases xs with
      | nil => cases ep; rfl
      | cons x xs =>
        unfold pds at ep
        split at ep
        · cases ep; simp [PyData.eqv, PyData.eqvAll]
        · cases ep
    simp only [eqR, d1, d2, ep, Option.map_some, prW, optW_some, Out.w, s1, s2, e2, and_self, true_and, if_true]
  | none =>
    have ne : xs ≠ [] := fun z => by rw [z] at ep; cases ep
    have d3 : dtN 6 h (.ref a) = none := by
      have : mapO (dtN 5 h) xs = none := by rw [mapO_cg (g := pd) fun x m => dtN_ok 5 (okVs_mem o m), mapO_pd, ep]
      rw [show (6 : Nat) = 5 + 1 from rfl, dtN]
      simp only [pd, e, this, Option.map_none]
    have l1 : ls h (.ref a) = some xs := ls_ref e
    have l2 : ls h (.fl []) = some [] := rfl
    have b : (xs.isEmpty != ([] : List Val).isEmpty) = true := by cases xs <;> simp at ne ⊢
    simp only [eqR, d1, d2, ep, Option.map_none, d3, l1, l2, b, if_true, prW, optW_some, Out.w, true_and, ne, decide_false, Bool.not_false]
theorem tv_okV : ∀ t : Tr, okV t.tv = true
  | .nil => rfl
  | .nd l k r => by simp [Tr.tv, okV, okVs, tv_okV l, tv_okV r]
theorem tv_dp : ∀ t : Tr, dpV t.tv = t.ht
  | .nil => rfl
  | .nd l k r => by simp [Tr.tv, dpV, dpVs, tv_dp l, tv_dp r, Tr.ht]
/-- a tree's form -/
theorem tv_tup {xs : List Val} {t : Tr} (e : Val.tup xs = t.tv) : ∃ l k r, t = .nd l k r ∧ xs = [l.tv, .int k, r.tv] := by
  cases t with
  | nil => cases e
  | nd l k r => cases e; exact ⟨l, k, r, rfl, rfl⟩
theorem tv_inj : ∀ {s t : Tr}, s.tv = t.tv → s = t
  | .nil, .nil, _ => rfl
  | .nil, .nd _ _ _, e => by cases e
  | .nd _ _ _, .nil, e => by cases e
  | .nd l k r, .nd l' k' r', e => by
    simp only [Tr.tv, Val.tup.injEq, List.cons.injEq, Val.int.injEq, and_true] at e
    rw [tv_inj e.1, e.2.1, tv_inj e.2.2]
/-- a knot's parts -/
def kn : Val → Option (Val × Int × Val)
  | .tup [a, .int k, b] => some (a, k, b)
  | _ => none
theorem kn_is {v a b : Val} {k : Int} (h : kn v = some (a, k, b)) : v = .tup [a, .int k, b] := by
  unfold kn at h
  split at h
  · cases h; rfl
  · cases h
theorem kn_tv {t : Tr} (h : t ≠ .nil) : ∃ l k r, t = .nd l k r ∧ kn t.tv = some (l.tv, k, r.tv) := by
  cases t with
  | nil => exact absurd rfl h
  | nd l k r => exact ⟨l, k, r, rfl, rfl⟩
section
variable {F : Fs}
theorem whole_ok (hF : F f_is_whole = some d_is_whole) {v : Val} (o : okV v = true) {n : Nat} {h : Hq} {Q : QV} {E : QE} (q : Q (.bl (intOf v).isSome) h) : CN F (n + 1) f_is_whole [v] h Q E := by
  refine CN_go hF rfl ?_
  unfold d_is_whole
  walk_at "e"
  cases v with
  | fd ks vs =>
    walk_at "w"
    rw [w_isi (us := [.dict]) rfl]
    walk_at "w"
    exact q
  | sc _ => simp [okV] at o
  | ref _ => simp [okV] at o
  | wd _ _ => simp [okV] at o
  | exc _ => simp [okV] at o
  | clo _ _ => simp [okV] at o
  | _ => walk_at "w"; exact q
end
theorem adj_up : ∀ {ks : List Int}, ((ks.zip (ks.drop 1)).map fun z => decide (z.1 < z.2)).all id = true ↔ ks.Pairwise (· < ·)
  | [] => by simp
  | [x] => by simp
  | x :: y :: r => by
    have ih := adj_up (ks := y :: r)
    simp only [List.drop_succ_cons, List.drop_zero] at ih ⊢
    rw [List.zip_cons_cons, List.map_cons, List.all_cons, Bool.and_eq_true, ih, List.pairwise_cons (l := y :: r)]
    simp only [id, decide_eq_true_eq]
    constructor
    · rintro ⟨a, b⟩
      refine ⟨fun z hz => ?_, b⟩
      rcases List.mem_cons.mp hz with rfl | hz
      · exact a
      · exact Int.lt_trans a ((List.pairwise_cons.mp b).1 z hz)
    · rintro ⟨a, b⟩
      exact ⟨a y (by simp), b⟩
section
variable {F : Fs}
theorem knot_ok (hF : F f_is_knot = some d_is_knot) (hW : F f_is_whole = some d_is_whole) {v : Val} (o : okV v = true) {n : Nat} {h : Hq} {Q : QV} {E : QE} (q : Q (.bl (kn v).isSome) h) : CN F (n + 2) f_is_knot [v] h Q E := by
  refine CN_go hF rfl ?_
  unfold d_is_knot
  walk_at "e"
  cases v with
  | tup xs =>
    walk_at "w"
    by_cases c : xs.length = 3
    · match xs, c with
      | [a, m, b], _ =>
        walk_at "w"
        have om : okV m = true := okVs_mem (xs := [a, m, b]) (by simpa [okV] using o) (by simp)
        refine whole_ok hW om ?_
        cases m <;> exact q
    · have : kn (.tup xs) = none := by
        unfold kn
        split
        · rename_i e; cases e; simp at c
        · rfl
      rw [this] at q
      have c2 : ¬ ((xs.length : Nat) : Int) = 3 := by omega
      walk_at "w"
      simp only [c2, decide_false, if_false]
      first | exact q | (split; exact absurd ‹_› (by simp); exact q)
  | fd ks vs =>
    walk_at "w"
    rw [w_isi (us := [.dict]) rfl]
    walk_at "w"
    exact q
  | sc _ => simp [okV] at o
  | ref _ => simp [okV] at o
  | wd _ _ => simp [okV] at o
  | exc _ => simp [okV] at o
  | clo _ _ => simp [okV] at o
  | _ => walk_at "w"; exact q
/-- the things that wait are trees, of so many knots at most -/
def Wt (S : List Val) (m : Nat) : Prop := ∃ ts : List Tr, S = ts.map Tr.tv ∧ m + (ts.map Tr.size).sum ≤ 60
theorem Wt_app {S : List Val} {w : Val} {m : Nat} : Wt (S ++ [w]) m ↔ ∃ t : Tr, w = t.tv ∧ Wt S (m + t.size) := by
  constructor
  · rintro ⟨ts, e, l⟩
    obtain ⟨A, B, rfl, e1, e2⟩ := List.map_eq_append_iff.mp e.symm
    match B, e2 with
    | [t], e2 =>
      simp at e2
      refine ⟨t, e2.symm, A, e1.symm, ?_⟩
      simp at l
      omega
  · rintro ⟨t, rfl, ts, rfl, l⟩
    refine ⟨ts ++ [t], by simp, ?_⟩
    simp
    omega
theorem Wt_non {S : List Val} {m : Nat} : Wt (S ++ [.non]) m ↔ Wt S m := by
  rw [Wt_app]
  constructor
  · rintro ⟨t, e, l⟩
    cases t with
    | nil => simpa [Tr.size] using l
    | nd l k r => cases e
  · intro l
    exact ⟨.nil, rfl, by simpa [Tr.size] using l⟩
theorem Wt_full {S : List Val} {w : Val} (h : w ≠ .non) : ¬ Wt (S ++ [w]) 60 := by
  rw [Wt_app]
  rintro ⟨t, e, ts, _, l⟩
  cases t with
  | nil => exact h e
  | nd a k b => simp only [Tr.size] at l; omega
theorem Wt_bad {S : List Val} {w : Val} {m : Nat} (h : w ≠ .non) (hk : kn w = none) : ¬ Wt (S ++ [w]) m := by
  rw [Wt_app]
  rintro ⟨t, e, _⟩
  cases t with
  | nil => exact h e
  | nd a k b => rw [e] at hk; cases hk
theorem Wt_knot {S : List Val} {a b : Val} {k : Int} {m : Nat} : Wt (S ++ [.tup [a, .int k, b]]) m ↔ Wt (S ++ [a, b]) (m + 1) := by
  rw [show S ++ [a, b] = (S ++ [a]) ++ [b] by simp, Wt_app, Wt_app]
  constructor
  · rintro ⟨t, e, w⟩
    obtain ⟨l, j, r, rfl, e2⟩ := tv_tup e
    simp only [List.cons.injEq, Val.int.injEq, and_true] at e2
    refine ⟨r, e2.2.2, Wt_app.mpr ⟨l, e2.1, ?_⟩⟩
    simp only [Tr.size] at w
    rw [show m + 1 + r.size + l.size = m + (l.size + 1 + r.size) by omega]
    exact w
  · rintro ⟨r, rfl, w⟩
    obtain ⟨l, rfl, w2⟩ := Wt_app.mp w
    refine ⟨.nd l k r, rfl, ?_⟩
    simp only [Tr.size]
    rw [show m + (l.size + 1 + r.size) = m + 1 + r.size + l.size by omega]
    exact w2
theorem hform_ok (hF : F f_has_form = some d_has_form) (hK : F f_is_knot = some d_is_knot) (hW : F f_is_whole = some d_is_whole) {v : Val} (o : okV v = true) (dp : dpV v ≤ 63) {n : Nat} {h : Hq} {Q : QV} {E : QE}
    (q1 : (∃ t : Tr, v = t.tv ∧ t.size ≤ 60) → Q (.bl true) h) (q2 : (¬ ∃ t : Tr, v = t.tv ∧ t.size ≤ 60) → Q (.bl false) h) : CN F (n + 3) f_has_form [v] h Q E := by
  have tgt : Wt [v] 0 ↔ ∃ t : Tr, v = t.tv ∧ t.size ≤ 60 := by
    constructor
    · rintro ⟨ts, e, l⟩
      match ts, e with
      | [t], e => simp at e l; exact ⟨t, e, l⟩
    · rintro ⟨t, e, l⟩
      exact ⟨[t], by simp [e], by simpa using l⟩
  rw [← tgt] at q1 q2
  refine CN_go hF rfl ?_
  unfold d_has_form
  walk_at "e"
  walk_at "w"
  intro p hp
  refine whl_inv (fun ρ h Q Q' k w => moT F (n + 2) _ ρ h Q Q' _ k w) (moS F (n + 2) _) (fun j ρ h' => ∃ (S : List Val) (m : Nat) (u : Option Val), j = 2 * (61 - m) + S.length ∧ m ≤ 60 ∧ S.length ≤ m + 1 ∧ okVs S = true ∧ dpVs S ≤ 63 ∧ (Wt S m ↔ Wt [v] 0) ∧ ρ = [some v, some (.ref p), some (.int (m : Nat)), u] ∧ h' = up h p (.lst S)) ?_ (m := 2 * 61 + 1) ?_
  · intro j ρ h' ⟨S, m, u, ej, ml, sl, oS, dS, eW, eρ, eh⟩
    subst eρ eh
    unfold t_has_form_1
    walk_at "w"
    rw [w_neOk up_same oS dS]
    rcases S.eq_nil_or_concat with rfl | ⟨S', w, rfl⟩
    · walk_at "w"
      unfold c_has_form_1
      walk_at "w"
      rw [er_up hp]
      exact q1 (eW.mp ⟨[], rfl, by simpa using ml⟩)
    · rw [List.concat_eq_append] at *
      have ow : okV w = true := okVs_mem oS (by simp)
      have oS' : okVs S' = true := okVs_of fun x hx => okVs_mem oS (by simp [hx])
      have dw : dpV w ≤ 63 := Nat.le_trans (dpVs_mem (by simp)) dS
      have dS' : dpVs S' ≤ 63 := dpVs_of fun x hx => Nat.le_trans (dpVs_mem (by simp [hx])) dS
      have ne : ¬ (S' ++ [w] = []) := by simp
      rw [List.length_append, List.length_singleton] at ej sl
      walk_at "w"
      rw [if_pos ne]
      unfold b_has_form_1
      walk_at "w"
      rw [w_pop up_same (show (S' ++ [w])[(S' ++ [w]).length - 1]? = some w by simp), List.dropLast_concat, up_up]
      by_cases cn : w = .non
      · subst cn
        rw [if_neg (by simp [isN])]
        exact ⟨_, by omega, S', m, _, rfl, ml, by omega, oS', dS', Wt_non.symm.trans eW, rfl, rfl⟩
      · have nN : isN w = false := by cases w <;> first | rfl | exact absurd rfl cn
        rw [if_pos nN]
        refine knot_ok (n := n) hK hW ow ?_
        cases ek : kn w with
        | none =>
          simp only [Option.isSome_none]
          walk_at "w"
          rw [er_up hp]
          exact q2 fun z => Wt_bad cn ek (eW.mpr z)
        | some kk =>
          obtain ⟨a, k, b⟩ := kk
          obtain rfl := kn_is ek
          simp only [Option.isSome_some]
          by_cases cm : m = 60
          · subst cm
            walk_at "w"
            rw [er_up hp]
            exact q2 fun z => Wt_full cn (eW.mpr z)
          · have cm2 : ¬ ((m : Nat) : Int) = 60 := by omega
            walk_at "w"
            rw [if_neg cm2]
            walk_at "w"
            have oab : okV a = true ∧ okV b = true := by
              have : okVs [a, .int k, b] = true := by simpa [okV] using ow
              exact ⟨okVs_mem this (by simp), okVs_mem this (by simp)⟩
            have dab : dpV a ≤ 63 ∧ dpV b ≤ 63 := by
              have : 1 + dpVs [a, .int k, b] ≤ 63 := by simpa [dpV] using dw
              simp only [dpVs] at this
              omega
            rw [w_extend up_same (lv_fl _ _)]
            refine ⟨by simp only [List.length_cons, List.length_nil]; omega, ?_⟩
            exact ⟨_, by simp only [List.length_append, List.length_cons, List.length_nil]; omega, S' ++ [a, b], m + 1, _, rfl, by omega, by simp only [List.length_append, List.length_cons, List.length_nil]; omega, okVs_of fun x hx => by
              rcases List.mem_append.mp hx with hx | hx
              · exact okVs_mem oS' hx
              · simp only [List.mem_cons, List.not_mem_nil, or_false] at hx
                rcases hx with rfl | rfl
                · exact oab.1
                · exact oab.2, dpVs_of fun x hx => by
              rcases List.mem_append.mp hx with hx | hx
              · exact Nat.le_trans (dpVs_mem hx) dS'
              · simp only [List.mem_cons, List.not_mem_nil, or_false] at hx
                rcases hx with rfl | rfl
                · exact dab.1
                · exact dab.2, Wt_knot.symm.trans eW, rfl, up_up⟩
  · exact ⟨[v], 0, none, rfl, by omega, by simp, by simp [okVs, o], by simpa [dpVs] using dp, Iff.rfl, rfl, rfl⟩
theorem isTree_ok (hF : F f_is_tree = some d_is_tree) (hH : F f_has_form = some d_has_form) (hK : F f_is_knot = some d_is_knot) (hW : F f_is_whole = some d_is_whole) (hKo : F f_keys_of = some d_keys_of) {v : Val} (o : okV v = true) (dp : dpV v ≤ 63) {n : Nat} {h : Hq} {Q : QV} {E : QE}
    (q : ∀ b : Bool, (b = true ↔ ∃ t : Tr, v = t.tv ∧ t.size ≤ 60 ∧ t.keys.Pairwise (· < ·)) → Q (.bl b) h) : CN F (n + 70) f_is_tree [v] h Q E := by
  refine CN_go hF rfl ?_
  unfold d_is_tree
  walk_at "e"
  walk_at "w"
  refine hform_ok (n := n + 66) hH hK hW o dp (fun ⟨t, e, l⟩ => ?_) fun hn => ?_
  · subst e
    walk_at "w"
    have th := t.ht_le
    refine keys_of_ok hKo t _ (by omega) (by omega) ?_
    have kl := t.keys_len
    walk_at "w"
    rw [cutG_map, cut1, zipL_map]
    refine comp_map' (fun z : Int × Int => .tup [.int z.1, .int z.2]) (t.keys.zip (t.keys.drop 1)) (fun z => .bl (decide (z.1 < z.2))) (by rw [List.length_zip]; omega) (fun p acc hp => ⟨trivial, fun y hy => ⟨_, rfl, fun K q => ?_⟩⟩) ?_
    · simp only [wipe3, List.set]
      unfold e_is_tree_1
      walk_at "w"
      exact q
    · rw [alc_fz, show (t.keys.zip (t.keys.drop 1)).map (fun z => Val.bl (decide (z.1 < z.2))) = ((t.keys.zip (t.keys.drop 1)).map fun z => decide (z.1 < z.2)).map Val.bl by rw [List.map_map]; rfl]
      walk_at "w"
      refine q _ ?_
      rw [adj_up]
      constructor
      · intro h; exact ⟨t, rfl, l, h⟩
      · rintro ⟨s, e, _, h⟩; rw [tv_inj e]; exact h
  · walk_at "w"
    refine q _ ⟨fun z => (by cases z), fun ⟨t, e, l, _⟩ => absurd ⟨t, e, l⟩ hn⟩
end
theorem dt_tv {h : Hq} (t : Tr) : dt h t.tv = some t.td := by
  cases t with
  | nil => rfl
  | nd l k r => exact Tr.pd_tv (.nd l k r)
theorem sh_td {u : Tr} (hu : u.ht ≤ 62) : SeqAt.shaped u.td = true := by
  have := Tr.td_depth u
  simp only [SeqAt.shaped, Tr.td_lay, this, Bool.true_and, decide_eq_true_eq]
  omega
theorem w_neTr {s t : Tr} {h : Hq} {Q : QV} (hs : s.ht ≤ 62) (ht : t.ht ≤ 62) : prW (cmpR .ne s.tv t.tv h) Q = Q (.bl (!decide (s = t))) h := by
  have c : cmpR .ne s.tv t.tv h = eqR true s.tv t.tv h := by cases s <;> cases t <;> rfl
  rw [c]
  simp only [eqR, dt_tv, prW, optW_some, Out.w, sh_td hs, sh_td ht, Tr.td_eqv, and_self, true_and, if_true]
/-! ### reading -/
theorem cut_mid {T : Str} {A K B : List Nat} (e : TL.tl T = A ++ (K ++ B)) : cutS T (some ((A.length : Nat) : Int)) (some ((A.length + K.length : Nat) : Int)) = ⟨K.toArray⟩ := by
  have hl : T.length = A.length + (K.length + B.length) := by rw [TL.len_tl, e, List.length_append, List.length_append]
  unfold cutS
  rw [HT.sIx_nat, HT.sIx_nat, Nat.min_eq_left (by omega), Nat.min_eq_left (by omega)]
  refine TL.ext_tl ?_
  show ((TL.tl T).drop A.length).take (A.length + K.length - A.length) = K
  rw [e, List.drop_left, Nat.add_sub_cancel_left, List.take_left]
theorem find_mid {T : Str} {A K B : List Nat} {c : Nat} (e : TL.tl T = A ++ (K ++ c :: B)) (hc : c ∉ K) : Txt.find3 T ⟨#[c]⟩ ((A.length : Nat) : Int) = ((A.length + K.length : Nat) : Int) := by
  have hl : T.length = A.length + (K.length + (B.length + 1)) := by rw [TL.len_tl, e, List.length_append, List.length_append]; rfl
  have gd : ∀ v, T.cps.getD v 0 = (TL.tl T).getD v 0 := fun v => by simp [TL.tl]
  have f : PySem.fromIndex T.length ((A.length : Nat) : Int) = A.length := by
    unfold PySem.fromIndex
    rw [if_neg (by omega)]
    omega
  have at_ : T.cps.getD (A.length + K.length) 0 = c := by
    rw [gd, e, List.getD_eq_getElem?_getD, List.getElem?_append_right (by omega), List.getElem?_append_right (by omega)]
    simp
  have not_ : ∀ v, A.length ≤ v → v < A.length + K.length → T.cps.getD v 0 ≠ c := fun v h1 h2 z => by
    rw [gd, e, List.getD_eq_getElem?_getD, List.getElem?_append_right (by omega), List.getElem?_append_left (by omega), List.getElem?_eq_getElem (by omega)] at z
    exact hc (z ▸ List.getElem_mem _)
  rcases PySem.StrLaws.find3_spec T c ((A.length : Nat) : Int) with ⟨_, h⟩ | ⟨k, h, h1, h2, h3, h4⟩
  · exact absurd at_ (h _ (by rw [f]; omega) (by omega))
  · rw [h]
    rw [f] at h1 h4
    have : k = A.length + K.length := by
      rcases Nat.lt_trichotomy k (A.length + K.length) with l | l | l
      · exact absurd h3 (not_ k h1 l)
      · exact l
      · exact absurd at_ (h4 _ (by omega) l)
    rw [this]
section
variable {F : Fs}
theorem tree_at_ok (hF : F f_tree_at = some d_tree_at) (hK : F f_read_key = some d_read_key) {T : Str} (hT : T.length ≤ 1000000) {h : Hq} {E : QE} : ∀ (t : Tr) (n : Nat) (A B : List Nat) (d : Int) {Q : QV}, t.ht + 1 < n → (t.ht : Int) ≤ d → d < 1000 → keysOk t → TL.tl T = A ++ (treeL t ++ B) →
    Q (.tup [t.tv, .int ((A.length + (treeL t).length : Nat) : Int)]) h → CN F n f_tree_at [.str T, .int (A.length : Nat), .int d] h Q E
  | t, 0, A, B, d, Q, hn, _, _, _, _, q => by omega
  | .nil, n + 1, A, B, d, Q, hn, hd, hd2, hk, e, q => by
    refine CN_go hF rfl ?_
    unfold d_tree_at
    walk_at "e"
    walk_at "w"
    have c1 := cut_mid (K := [46]) e
    rw [show ((A.length + [46].length : Nat) : Int) = ((A.length : Nat) : Int) + 1 by simp] at c1
    rw [c1]
    have lA : A.length ≤ T.length := by rw [TL.len_tl, e, List.length_append]; omega
    unfold c_tree_at_9
    walk_at "w"
    exact ⟨hT, q⟩
  | .nd l k r, n + 1, A, B, d, Q, hn, hd, hd2, hk, e, q => by
    refine CN_go hF rfl ?_
    unfold d_tree_at
    walk_at "e"
    walk_at "w"
    simp only [treeL] at e
    have c1 := cut_mid (K := [40]) (B := treeL l ++ (32 :: (keyL k ++ (32 :: (treeL r ++ [41])))) ++ B) (T := T) (A := A) (by rw [e]; simp)
    rw [show ((A.length + [40].length : Nat) : Int) = ((A.length : Nat) : Int) + 1 by simp] at c1
    rw [c1]
    have lA : A.length ≤ T.length := by rw [TL.len_tl, e, List.length_append]; omega
    unfold c_tree_at_9
    walk_at "w"
    refine ⟨hT, ?_⟩
    rw [if_neg (by decide)]
    simp only [Tr.ht] at hn hd
    unfold c_tree_at_8
    walk_at "w"
    rw [if_neg (by omega)]
    unfold c_tree_at_7
    walk_at "w"
    rw [show ((A.length : Nat) : Int) + 1 = (((A ++ [40]).length : Nat) : Int) by simp]
    refine tree_at_ok hF hK hT l n (A ++ [40]) (32 :: (keyL k ++ (32 :: (treeL r ++ [41]))) ++ B) (d - 1) (by omega) (by omega) (by omega) (keysOk_l hk) (by rw [e]; simp) ?_
    obtain ⟨A2, eA2⟩ : ∃ A2, A2 = A ++ 40 :: treeL l := ⟨_, rfl⟩
    have e2 : TL.tl T = A2 ++ ([32] ++ (keyL k ++ (32 :: (treeL r ++ (41 :: B))))) := by rw [e, eA2]; simp
    have e4 : (A ++ [40]).length + (treeL l).length = A2.length := by rw [eA2]; simp; omega
    rw [e4]
    walk_at "w"
    unfold c_tree_at_6
    walk_at "w"
    have e3 : TL.tl T = (A2 ++ [32]) ++ (keyL k ++ 32 :: (treeL r ++ (41 :: B))) := by rw [e2]; simp
    rw [show ((A2.length : Nat) : Int) + 1 = (((A2 ++ [32]).length : Nat) : Int) by simp, find_mid e3 (keyL_free (by omega) (by omega))]
    unfold c_tree_at_5
    walk_at "w"
    have e5 : (((A2 ++ [32]).length : Nat) : Int) = ((A2.length : Nat) : Int) + 1 := by simp
    have c2 := cut_mid e2
    rw [show ((A2.length + [32].length : Nat) : Int) = ((A2.length : Nat) : Int) + 1 by simp] at c2
    have c3 := cut_mid (K := keyL k) e3
    rw [e5] at c3
    rw [c2]
    walk_at "w"
    refine ⟨hT, ?_⟩
    rw [if_neg (by omega)]
    unfold c_tree_at_4
    walk_at "w"
    rw [c3, show (⟨(keyL k).toArray⟩ : Str) = strI k from TL.ext_tl (by rw [tl_strI])]
    refine ⟨hT, ?_⟩
    obtain ⟨n', rfl⟩ : ∃ n', n = n' + 1 := ⟨n - 1, by omega⟩
    refine read_key_ok hK (keysOk_k hk) ?_
    walk_at "w"
    unfold c_tree_at_3
    walk_at "w"
    obtain ⟨A3, eA3⟩ : ∃ A3, A3 = A2 ++ 32 :: (keyL k ++ [32]) := ⟨_, rfl⟩
    have e6 : TL.tl T = A3 ++ (treeL r ++ (41 :: B)) := by rw [e2, eA3]; simp
    have e7 : (((A2 ++ [32]).length + (keyL k).length : Nat) : Int) + 1 = ((A3.length : Nat) : Int) := by rw [eA3]; simp; omega
    rw [e7]
    refine tree_at_ok hF hK hT r (n' + 1) A3 (41 :: B) (d - 1) (by omega) (by omega) (by omega) (keysOk_r hk) e6 ?_
    walk_at "w"
    unfold c_tree_at_2
    walk_at "w"
    have e8 : TL.tl T = (A3 ++ treeL r) ++ ([41] ++ B) := by rw [e6]; simp
    have c4 := cut_mid e8
    have e9 : ((A3.length + (treeL r).length : Nat) : Int) = (((A3 ++ treeL r).length : Nat) : Int) := by simp
    rw [show (((A3 ++ treeL r).length + [41].length : Nat) : Int) = ((A3.length + (treeL r).length : Nat) : Int) + 1 by simp, ← e9] at c4
    rw [c4]
    walk_at "w"
    refine ⟨hT, ?_⟩
    unfold c_tree_at_1
    walk_at "w"
    refine cast (congrArg (fun i => Q (.tup [.tup [l.tv, .int k, r.tv], .int i]) h) ?_) q
    rw [eA3, eA2]
    simp only [treeL, List.length_append, List.length_cons, List.length_nil]
    omega
end
section
variable {F : Fs}
theorem read_tree_ok (hF : F f_read_tree = some d_read_tree) (hA : F f_tree_at = some d_tree_at) (hRk : F f_read_key = some d_read_key) (hI : F f_is_tree = some d_is_tree) (hH : F f_has_form = some d_has_form) (hK : F f_is_knot = some d_is_knot) (hW : F f_is_whole = some d_is_whole) (hKo : F f_keys_of = some d_keys_of)
    {t : Tr} {n : Nat} {h : Hq} {Q : QV} {E : QE} (hk : keysOk t) (hz : t.size ≤ 60) (up : t.keys.Pairwise (· < ·)) (q : Q t.tv h) : CN F (n + 90) f_read_tree [.str (treeS t)] h Q E := by
  refine CN_go hF rfl ?_
  unfold d_read_tree
  walk_at "e"
  walk_at "w"
  unfold c_read_tree_3
  walk_at "w"
  have th := t.ht_le
  have lt := treeL_len hk
  have ls : (treeS t).length = (treeL t).length := TL.len_tl _
  refine tree_at_ok hA hRk (T := treeS t) (by omega) t _ [] [] 60 (by omega) (by omega) (by omega) hk (by rw [tl_treeS]; simp) ?_
  walk_at "w"
  unfold c_read_tree_2
  walk_at "w"
  rw [if_pos (by rw [ls]; omega)]
  refine ⟨by omega, ?_⟩
  refine isTree_ok (n := n + 19) hI hH hK hW hKo (tv_okV t) (by rw [tv_dp]; omega) fun b hb => ?_
  have : b = true := hb.mpr ⟨t, rfl, hz, up⟩
  subst this
  walk_at "w"
  unfold c_read_tree_1
  walk_at "w"
  exact q
end
/-! ### trees refused -/
theorem tkc (L : List Nat) (c : Nat) : (({ cps := (List.take 1 L).toArray } : Str) = { cps := #[c] }) ↔ L.head? = some c := by
  cases L with
  | nil =>
    constructor
    · intro z
      injection z with z
      simp at z
    · intro z
      simp at z
  | cons d l =>
    constructor
    · intro z
      injection z with z
      simpa using z
    · intro z
      have : d = c := by simpa using z
      rw [this]
      rfl
theorem cut_tk {T : Str} {A R : List Nat} (e : TL.tl T = A ++ R) : cutS T (some ((A.length : Nat) : Int)) (some (((A.length : Nat) : Int) + 1)) = ⟨(R.take 1).toArray⟩ := by
  have hl : T.length = A.length + R.length := by rw [TL.len_tl, e, List.length_append]
  unfold cutS
  rw [show ((A.length : Nat) : Int) + 1 = ((A.length + 1 : Nat) : Int) by omega, HT.sIx_nat, HT.sIx_nat, Nat.min_eq_left (show A.length ≤ T.length by omega)]
  refine TL.ext_tl ?_
  show ((TL.tl T).drop A.length).take (min (A.length + 1) T.length - A.length) = R.take 1
  rw [e, List.drop_left]
  cases R with
  | nil => simp
  | cons c r =>
    congr 1
    rw [hl, List.length_cons]
    omega
theorem find_none {T : Str} {A R : List Nat} {c : Nat} (e : TL.tl T = A ++ R) (hc : c ∉ R) : Txt.find3 T ⟨#[c]⟩ ((A.length : Nat) : Int) < 0 := by
  have hl : T.length = A.length + R.length := by rw [TL.len_tl, e, List.length_append]
  have gd : ∀ v, T.cps.getD v 0 = (TL.tl T).getD v 0 := fun v => by simp [TL.tl]
  have f : PySem.fromIndex T.length ((A.length : Nat) : Int) = A.length := by
    unfold PySem.fromIndex
    rw [if_neg (by omega)]
    omega
  rcases PySem.StrLaws.find3_spec T c ((A.length : Nat) : Int) with ⟨h, _⟩ | ⟨k, h, h1, h2, h3, h4⟩
  · rw [h]; decide
  · rw [f] at h1
    rw [gd, e, List.getD_eq_getElem?_getD, List.getElem?_append_right (by omega), List.getElem?_eq_getElem (by omega)] at h3
    exact absurd (h3 ▸ List.getElem_mem _) hc
section
variable {F : Fs}
theorem tree_at_any (hF : F f_tree_at = some d_tree_at) (hK : F f_read_key = some d_read_key) {T : Str} (hT : T.length ≤ 1000000) {h : Hq} {E : QE} (e6 : E 6 h) : ∀ (d n : Nat) (A R : List Nat) {Q : QV}, d + 1 < n → d < 1000 → TL.tl T = A ++ R →
    (∀ t B, R = treeL t ++ B → keysOk t → t.ht ≤ d → Q (.tup [t.tv, .int ((A.length + (treeL t).length : Nat) : Int)]) h) → CN F n f_tree_at [.str T, .int (A.length : Nat), .int (d : Nat)] h Q E
  | d, 0, A, R, Q, hn, _, _, q => by omega
  | d, n + 1, A, R, Q, hn, hd, e, q => by
    have lA : A.length ≤ T.length := by rw [TL.len_tl, e, List.length_append]; omega
    refine CN_go hF rfl ?_
    unfold d_tree_at
    walk_at "e"
    walk_at "w"
    refine ⟨hT, ?_⟩
    rw [cut_tk e]
    unfold c_tree_at_9
    walk_at "w"
    simp only [tkc]
    by_cases c46 : R.head? = some 46
    · rw [if_pos c46]
      obtain ⟨R', rfl⟩ : ∃ R', R = 46 :: R' := by
        cases R with
        | nil => simp at c46
        | cons x r => exact ⟨r, by simpa using c46⟩
      have := q .nil R' rfl (fun k hk => by simp [Tr.keys] at hk) (Nat.zero_le _)
      exact this
    · rw [if_neg c46]
      unfold c_tree_at_8
      walk_at "w"
      simp only [tkc]
      by_cases c40 : R.head? = some 40
      · obtain ⟨R1, rfl⟩ : ∃ R', R = 40 :: R' := by
          cases R with
          | nil => simp at c40
          | cons x r => exact ⟨r, by simpa using c40⟩
        simp only [c40, not_true_eq_false, if_false]
        cases d with
        | zero =>
          simp only [decide_true, Bool.not_true, if_true]
          rw [if_pos (by rfl)]
          exact e6
        | succ d =>
          simp only [decide_true, Bool.not_true, if_true]
          rw [if_neg (by omega)]
          unfold c_tree_at_7
          walk_at "w"
          rw [show ((A.length : Nat) : Int) + 1 = (((A ++ [40]).length : Nat) : Int) by simp, show (((d + 1 : Nat) : Int) - 1) = ((d : Nat) : Int) by omega]
          refine tree_at_any hF hK hT e6 d n (A ++ [40]) R1 (by omega) (by omega) (by rw [e]; simp) fun l B1 eB hkl hl => ?_
          obtain ⟨A2, eA2⟩ : ∃ A2, A2 = A ++ 40 :: treeL l := ⟨_, rfl⟩
          have e2 : TL.tl T = A2 ++ B1 := by rw [e, eA2, eB]; simp
          have e4 : (A ++ [40]).length + (treeL l).length = A2.length := by rw [eA2]; simp; omega
          rw [e4]
          have lA2 : A2.length ≤ T.length := by rw [TL.len_tl, e2, List.length_append]; omega
          walk_at "w"
          unfold c_tree_at_6
          walk_at "w"
          unfold c_tree_at_5
          walk_at "w"
          refine ⟨hT, ?_⟩
          simp only [cut_tk e2, tkc]
          by_cases c32 : B1.head? = some 32
          · obtain ⟨R2, rfl⟩ : ∃ R', B1 = 32 :: R' := by
              cases B1 with
              | nil => simp at c32
              | cons x r => exact ⟨r, by simpa using c32⟩
            have e3 : TL.tl T = (A2 ++ [32]) ++ R2 := by rw [e2]; simp
            have e5 : (((A2 ++ [32]).length : Nat) : Int) = ((A2.length : Nat) : Int) + 1 := by simp
            by_cases m32 : 32 ∈ R2
            · obtain ⟨K, B', rfl, hK32⟩ := List.eq_append_cons_of_mem m32
              have c3 := cut_mid (K := K) e3
              have f3 := find_mid e3 hK32
              rw [e5] at c3 f3
              simp only [c32, not_true_eq_false, if_false, f3, decide_true, Bool.not_true, if_true]
              rw [if_neg (by omega)]
              unfold c_tree_at_4
              walk_at "w"
              rw [c3]
              refine ⟨hT, ?_⟩
              have lK : K.length ≤ T.length := by rw [TL.len_tl, e3]; simp only [List.length_append, List.length_cons]; omega
              obtain ⟨n', rfl⟩ : ∃ n', n = n' + 1 := ⟨n - 1, by omega⟩
              refine read_key_any hK (s := sOf K) (by rw [TL.len_tl, tl_sOf]; omega) (fun kk => ?_) (fun _ => e6)
              rw [tl_sOf] at kk ⊢
              obtain ⟨sk, ek⟩ := isKey_N kk
              walk_at "w"
              unfold c_tree_at_3
              walk_at "w"
              obtain ⟨A3, eA3⟩ : ∃ A3, A3 = A2 ++ 32 :: (K ++ [32]) := ⟨_, rfl⟩
              have e6' : TL.tl T = A3 ++ B' := by rw [e3, eA3]; simp
              have e7 : (((A2 ++ [32]).length + K.length : Nat) : Int) + 1 = ((A3.length : Nat) : Int) := by rw [eA3]; simp; omega
              rw [e7, show (((d + 1 : Nat) : Int) - 1) = ((d : Nat) : Int) by omega]
              refine tree_at_any hF hK hT e6 d (n' + 1) A3 B' (by omega) (by omega) e6' fun r B2 eB2 hkr hr => ?_
              walk_at "w"
              unfold c_tree_at_2
              walk_at "w"
              have e8 : TL.tl T = (A3 ++ treeL r) ++ B2 := by rw [e6', eB2]; simp
              have c4 := cut_tk e8
              rw [show (((A3 ++ treeL r).length : Nat) : Int) = ((A3.length + (treeL r).length : Nat) : Int) by simp] at c4
              refine ⟨hT, ?_⟩
              simp only [c4, tkc]
              by_cases c41 : B2.head? = some 41
              · obtain ⟨B3, rfl⟩ : ∃ R', B2 = 41 :: R' := by
                  cases B2 with
                  | nil => simp at c41
                  | cons x r => exact ⟨r, by simpa using c41⟩
                rw [if_neg (not_not_intro c41)]
                unfold c_tree_at_1
                walk_at "w"
                have := q (.nd l (keyN K) r) B3 (by rw [eB, eB2]; simp only [treeL, ek]; simp) (fun x hx => by
                  simp only [Tr.keys, List.mem_append, List.mem_cons] at hx
                  rcases hx with hx | hx | hx
                  · exact hkl x hx
                  · rw [hx]; exact sk
                  · exact hkr x hx) (by simp only [Tr.ht]; omega)
                refine cast (congrArg (fun i => Q (.tup [.tup [l.tv, .int (keyN K), r.tv], .int i]) h) ?_) this
                rw [eA3, eA2]
                simp only [treeL, ek, List.length_append, List.length_cons, List.length_nil]
                omega
              · rw [if_pos c41]
                exact e6
            · have f3 := find_none e3 m32
              rw [e5] at f3
              simp only [c32, not_true_eq_false, if_false, decide_true, Bool.not_true, if_true]
              rw [if_pos f3]
              exact e6
          · simp only [c32, not_false_eq_true, if_true, decide_false, Bool.not_false]
            simp only [Bool.true_eq_false, if_false]
            exact e6
      · simp only [c40, not_false_eq_true, if_true, decide_false, Bool.not_false]
        simp only [Bool.true_eq_false, if_false]
        exact e6
end
/-- what a text of a tree is -/
def TreeT (L : List Nat) (t : Tr) : Prop := L = treeL t ∧ keysOk t ∧ t.size ≤ 60 ∧ t.keys.Pairwise (· < ·)
section
variable {F : Fs}
theorem read_tree_no (hF : F f_read_tree = some d_read_tree) (hA : F f_tree_at = some d_tree_at) (hRk : F f_read_key = some d_read_key) (hI : F f_is_tree = some d_is_tree) (hH : F f_has_form = some d_has_form) (hK : F f_is_knot = some d_is_knot) (hW : F f_is_whole = some d_is_whole) (hKo : F f_keys_of = some d_keys_of)
    {s : Str} {n : Nat} {h : Hq} {Q : QV} {E : QE} (hl : s.length ≤ 1000000) (hno : ¬ ∃ t, TreeT (TL.tl s) t) (e6 : E 6 h) : CN F (n + 90) f_read_tree [.str s] h Q E := by
  refine CN_go hF rfl ?_
  unfold d_read_tree
  walk_at "e"
  walk_at "w"
  unfold c_read_tree_3
  walk_at "w"
  refine tree_at_any hA hRk hl e6 60 (n + 89) [] (TL.tl s) (by omega) (by omega) (by simp) fun t B eB hk ht => ?_
  walk_at "w"
  unfold c_read_tree_2
  walk_at "w"
  have lt : s.length = (treeL t).length + B.length := by rw [TL.len_tl, eB, List.length_append]
  refine ⟨hl, ?_⟩
  by_cases hB : B = []
  · rw [if_pos (by rw [lt, hB]; simp)]
    refine isTree_ok (n := n + 19) hI hH hK hW hKo (tv_okV t) (by rw [tv_dp]; omega) fun b hb => ?_
    cases b with
    | true =>
      obtain ⟨u, eu, h1, h2⟩ := hb.mp rfl
      obtain rfl := tv_inj eu
      exact absurd ⟨t, by rw [eB, hB, List.append_nil], hk, h1, h2⟩ hno
    | false =>
      walk_at "w"
      exact e6
  · have : 0 < B.length := List.length_pos_iff.mpr hB
    rw [if_neg (by omega), if_pos (by omega)]
    exact e6
theorem read_tree_ns (hF : F f_read_tree = some d_read_tree) {v : Val} {us : List Ty} {n : Nat} {h : Hq} {Q : QV} {E : QE} (e : tyOf h v = some us) (ns : Ty.str ∉ us) (e6 : E 6 h) : CN F (n + 1) f_read_tree [v] h Q E := by
  refine CN_go hF rfl ?_
  unfold d_read_tree
  walk_at "e"
  walk_at "w"
  simp only [ns, decide_false, Bool.not_false, if_true, not_false_eq_true]
  exact e6
theorem read_layout_ns (hF : F f_read_layout = some d_read_layout) {v : Val} {us : List Ty} {n : Nat} {h : Hq} {Q : QV} {E : QE} (e : tyOf h v = some us) (ns : Ty.str ∉ us) (e6 : E 6 h) : CN F (n + 1) f_read_layout [v] h Q E := by
  refine CN_go hF rfl ?_
  unfold d_read_layout
  walk_at "e"
  walk_at "w"
  simp only [ns, decide_false, Bool.not_false, if_true, not_false_eq_true]
  exact e6
end
/-! ### texts heaped up -/
inductive HE where
  | w (l : List Nat) | tr (t : Tr)
def HE.v : HE → Val
  | .w l => .str (sOf l)
  | .tr t => .fl [t.tv]
def HE.y : HE → List Nat
  | .w l => l
  | .tr t => treeL t
/-- a sign that stands by itself -/
def dlm (c : Nat) : Bool := decide (c = 40) || decide (c = 41) || decide (c = 46) || decide (c = 32)
def wd1 (w : List Nat) : List (List Nat) := if w = [] then [] else [w]
def scanI : List Nat → List Nat → List (List Nat)
  | [], w => wd1 w
  | c :: r, w => if dlm c = true then wd1 w ++ [c] :: scanI r [] else scanI r (w ++ [c])
theorem wd1_flat (w : List Nat) : (wd1 w).flatten = w := by
  unfold wd1
  split
  · rename_i e; rw [e]; rfl
  · simp
theorem scanI_flat : ∀ (L w : List Nat), (scanI L w).flatten = w ++ L
  | [], w => by rw [scanI, wd1_flat, List.append_nil]
  | c :: r, w => by
    unfold scanI
    split
    · rw [List.flatten_append, wd1_flat, List.flatten_cons, scanI_flat r []]
      simp
    · rw [scanI_flat r (w ++ [c])]
      simp
theorem scanI_free : ∀ (K R w : List Nat), (∀ c ∈ K, dlm c = false) → scanI (K ++ R) w = scanI R (w ++ K)
  | [], R, w, _ => by simp
  | c :: K, R, w, h => by
    have hc := h c (by simp)
    rw [List.cons_append, scanI, if_neg (by rw [hc]; simp), scanI_free K R (w ++ [c]) fun d hd => h d (by simp [hd]), List.append_assoc]
    rfl
/-- a tree's words -/
def tok : Tr → List (List Nat)
  | .nil => [[46]]
  | .nd l k r => [40] :: (tok l ++ ([32] :: keyL k :: [32] :: (tok r ++ [[41]])))
theorem scanI_d {c : Nat} (h : dlm c = true) (R : List Nat) : scanI (c :: R) [] = [c] :: scanI R [] := by
  rw [scanI, if_pos h]; rfl
theorem keyL_dlm (k : Int) : ∀ c ∈ keyL k, dlm c = false := by
  intro c hc
  have f : ∀ s, (s < 48 ∨ 57 < s) → s ≠ 45 → c ≠ s := fun s h1 h2 e => keyL_free (k := k) h1 h2 (e ▸ hc)
  have h1 := f 40 (by omega) (by omega)
  have h2 := f 41 (by omega) (by omega)
  have h3 := f 46 (by omega) (by omega)
  have h4 := f 32 (by omega) (by omega)
  simp [dlm, h1, h2, h3, h4]
theorem scan_tok : ∀ (t : Tr) (R : List Nat), scanI (treeL t ++ R) [] = tok t ++ scanI R []
  | .nil, R => scanI_d (by decide) R
  | .nd l k r, R => by
    have e : treeL (.nd l k r) ++ R = 40 :: (treeL l ++ (32 :: (keyL k ++ (32 :: (treeL r ++ (41 :: R)))))) := by simp [treeL]
    have kk : scanI (keyL k ++ (32 :: (treeL r ++ (41 :: R)))) [] = keyL k :: [32] :: scanI (treeL r ++ (41 :: R)) [] := by
      rw [scanI_free _ _ _ (keyL_dlm k), List.nil_append, scanI, if_pos (by decide)]
      unfold wd1
      rw [if_neg (keyL_ne k)]
      rfl
    rw [e, scanI_d (by decide), scan_tok l, scanI_d (by decide), kk, scan_tok r, scanI_d (by decide)]
    simp [tok]
/-- the heap, its top first -/
def top6 : List HE → Option (Tr × List Nat × Tr × List HE)
  | .tr r :: .w b :: .w k :: .w a :: .tr l :: .w o :: S => if o = [40] ∧ a = [32] ∧ b = [32] ∧ isKeyL k = true then some (l, k, r, S) else none
  | _ => none
theorem top6_is {S : List HE} {l r : Tr} {k : List Nat} {S0 : List HE} (h : top6 S = some (l, k, r, S0)) : S = .tr r :: .w [32] :: .w k :: .w [32] :: .tr l :: .w [40] :: S0 ∧ isKeyL k = true := by
  unfold top6 at h
  split at h
  · split at h
    · rename_i c
      obtain ⟨c1, c2, c3, c4⟩ := c
      cases h
      exact ⟨by rw [c1, c2, c3], c4⟩
    · cases h
  · cases h
def sstep (S : List HE) (it : List Nat) : List HE :=
  if it = [46] then .tr .nil :: S else if it = [41] then (match top6 S with | some (l, k, r, S0) => .tr (.nd l (keyN k) r) :: S0 | none => .w it :: S) else .w it :: S
def kstep (ks : List Int) (it : List Nat) : List Int := if it ≠ [46] ∧ isKeyL it = true then ks ++ [keyN it] else ks
def HEok : HE → Prop
  | .w _ => True
  | .tr t => keysOk t
def yS (S : List HE) : List Nat := (S.reverse.map HE.y).flatten
theorem yS_cons (x : HE) (S : List HE) : yS (x :: S) = yS S ++ x.y := by simp [yS]
theorem sstep_y {S : List HE} {it : List Nat} (ok : ∀ x ∈ S, HEok x) : yS (sstep S it) = yS S ++ it ∧ ∀ x ∈ sstep S it, HEok x := by
  have okc : ∀ {x : HE}, HEok x → ∀ y ∈ x :: S, HEok y := fun hx y hy => by
    rcases List.mem_cons.mp hy with e | m
    · rw [e]; exact hx
    · exact ok y m
  unfold sstep
  split
  · rename_i e
    subst e
    exact ⟨yS_cons _ _, okc (fun k hk => by simp [Tr.keys] at hk)⟩
  · split
    · rename_i e
      subst e
      split
      · rename_i l k r S0 e
        obtain ⟨rfl, hk⟩ := top6_is e
        obtain ⟨sk, ek⟩ := isKey_N hk
        refine ⟨by simp only [yS_cons, HE.y, treeL, ek, List.append_assoc, List.cons_append, List.nil_append], ?_⟩
        intro x hx
        rcases List.mem_cons.mp hx with e | m
        · subst e
          have o1 : keysOk l := ok (.tr l) (by simp)
          have o2 : keysOk r := ok (.tr r) (by simp)
          intro y hy
          simp only [Tr.keys, List.mem_append, List.mem_cons] at hy
          rcases hy with hy | hy | hy
          · exact o1 y hy
          · rw [hy]; exact sk
          · exact o2 y hy
        · exact ok x (by simp [m])
      · exact ⟨yS_cons _ _, okc trivial⟩
    · exact ⟨yS_cons _ _, okc trivial⟩
theorem run_y : ∀ (its : List (List Nat)) (S : List HE), (∀ x ∈ S, HEok x) → yS (its.foldl sstep S) = yS S ++ its.flatten ∧ ∀ x ∈ its.foldl sstep S, HEok x
  | [], S, h => ⟨by simp, h⟩
  | it :: r, S, h => by
    obtain ⟨a, b⟩ := sstep_y (it := it) h
    obtain ⟨c, d⟩ := run_y r _ b
    rw [List.foldl_cons, List.flatten_cons]
    exact ⟨by rw [c, a, List.append_assoc], d⟩
theorem keyL_not (k : Int) : keyL k ≠ [46] ∧ keyL k ≠ [41] ∧ keyL k ≠ [40] ∧ keyL k ≠ [32] := by
  have f : ∀ s, (s < 48 ∨ 57 < s) → s ≠ 45 → keyL k ≠ [s] := fun s h1 h2 e => keyL_free (k := k) h1 h2 (by rw [e]; simp)
  exact ⟨f 46 (by omega) (by omega), f 41 (by omega) (by omega), f 40 (by omega) (by omega), f 32 (by omega) (by omega)⟩
theorem run_tok : ∀ (t : Tr) (S : List HE), keysOk t → (tok t).foldl sstep S = .tr t :: S
  | .nil, S, _ => by simp [tok, sstep]
  | .nd l k r, S, h => by
    have n := keyL_not k
    have s1 : ∀ S, sstep S [40] = .w [40] :: S := fun S => by simp [sstep]
    have s2 : ∀ S, sstep S [32] = .w [32] :: S := fun S => by simp [sstep]
    have s3 : ∀ S, sstep S (keyL k) = .w (keyL k) :: S := fun S => by simp [sstep, n.1, n.2.1]
    have s4 : sstep (.tr r :: .w [32] :: .w (keyL k) :: .w [32] :: .tr l :: .w [40] :: S) [41] = .tr (.nd l k r) :: S := by
      have : top6 (.tr r :: .w [32] :: .w (keyL k) :: .w [32] :: .tr l :: .w [40] :: S) = some (l, keyL k, r, S) := by
        simp [top6, isKey_key (keysOk_k h)]
      simp only [sstep, this, keyN_key]
      simp
    simp only [tok, List.foldl_cons, List.foldl_append, List.foldl_nil, s1, run_tok l _ (keysOk_l h), s2, s3, run_tok r _ (keysOk_r h), s4]
theorem keys_tok : ∀ (t : Tr) (ks : List Int), keysOk t → (tok t).foldl kstep ks = ks ++ t.keys
  | .nil, ks, _ => by simp [tok, kstep, Tr.keys]
  | .nd l k r, ks, h => by
    have n := keyL_not k
    have k1 : isKeyL [40] = false := by decide
    have k2 : isKeyL [32] = false := by decide
    have k3 : isKeyL [41] = false := by decide
    have s1 : ∀ S, kstep S [40] = S := fun S => by simp [kstep, k1]
    have s2 : ∀ S, kstep S [32] = S := fun S => by simp [kstep, k2]
    have s4 : ∀ S, kstep S [41] = S := fun S => by simp [kstep, k3]
    have s3 : ∀ S, kstep S (keyL k) = S ++ [k] := fun S => by simp [kstep, n.1, isKey_key (keysOk_k h), keyN_key]
    simp only [tok, List.foldl_cons, List.foldl_append, List.foldl_nil, s1, keys_tok l _ (keysOk_l h), s2, s3, keys_tok r _ (keysOk_r h), s4, Tr.keys, List.append_assoc, List.cons_append, List.nil_append]
def stackOf (L : List Nat) : List HE := (scanI L []).foldl sstep []
def keysT (L : List Nat) : List Int := (scanI L []).foldl kstep []
theorem scan_nil : scanI [] [] = [] := rfl
theorem stack_tree {L : List Nat} {t : Tr} (e : L = treeL t) (h : keysOk t) : stackOf L = [.tr t] ∧ keysT L = t.keys := by
  have := scan_tok t []
  rw [List.append_nil, scan_nil, List.append_nil] at this
  unfold stackOf keysT
  rw [e, this]
  exact ⟨run_tok t [] h, by rw [keys_tok t [] h]; rfl⟩
theorem stack_is {L : List Nat} {t : Tr} (e : stackOf L = [.tr t]) : L = treeL t ∧ keysOk t := by
  obtain ⟨a, b⟩ := run_y (scanI L []) [] (by simp)
  have : (scanI L []).foldl sstep [] = [.tr t] := e
  rw [this] at a b
  rw [scanI_flat] at a
  refine ⟨?_, b (.tr t) (by simp)⟩
  have : treeL t = L := by simpa [yS, HE.y] using a
  exact this.symm
/-- a tree is written just where one tree is left, its keys few and rising -/
theorem treeT_iff {L : List Nat} {t : Tr} : TreeT L t ↔ stackOf L = [.tr t] ∧ (keysT L).length ≤ 60 ∧ (keysT L).Pairwise (· < ·) := by
  constructor
  · rintro ⟨e, h1, h2, h3⟩
    obtain ⟨a, b⟩ := stack_tree e h1
    rw [b, Tr.keys_len]
    exact ⟨a, h2, h3⟩
  · rintro ⟨e, h1, h2⟩
    obtain ⟨a, b⟩ := stack_is e
    have := (stack_tree a b).2
    rw [this] at h1 h2
    rw [Tr.keys_len] at h1
    exact ⟨a, b, h1, h2⟩
theorem ssetI_eq {ks : List Int} : ks = ssetI ks ↔ ks.Pairwise (· < ·) := by
  constructor
  · intro e; rw [e]; exact ssetI_lt ks
  · intro h; exact lt_uniq h (ssetI_lt ks) fun k => by rw [ssetI_mem]
section
variable {F : Fs} {n : Nat} {h : Hq} {Q : QV} {E : QE}
theorem digit_in {y : Nat} : (y = 48 ∨ y = 49 ∨ y = 50 ∨ y = 51 ∨ y = 52 ∨ y = 53 ∨ y = 54 ∨ y = 55 ∨ y = 56 ∨ y = 57) ↔ digB y = true := by
  simp only [digB, Bool.and_eq_true, decide_eq_true_eq]; omega
theorem sOf_e {w : List Nat} : (sOf w = ({ cps := #[] } : Str)) ↔ w = [] := ⟨fun z => by have := congrArg TL.tl z; exact this, fun z => by rw [z]; rfl⟩
theorem is_key_ok (hF : F f_law_is_key = some d_law_is_key) {s : Str} (hl : s.length ≤ 900000) (q : Q (.bl (isKeyL (TL.tl s))) h) : CN F (n + 1) f_law_is_key [.str s] h Q E := by
  refine CN_go hF rfl ?_
  unfold d_law_is_key
  walk_at "e"
  walk_at "w"
  have hfl : (figL (TL.tl s)).length ≤ s.length := by
    rw [TL.len_tl s]
    unfold figL
    split
    · rw [List.length_drop]; omega
    · exact Nat.le_refl _
  have J : ∀ u, wpSs (CN F n) c_law_is_key_2 { nx := fun x h' => Q Val.non h', rt := Q, ex := fun x x_1 h' => E x h' } [some (.str s), some (.str ⟨(figL (TL.tl s)).toArray⟩), u] h := by
    intro u
    unfold c_law_is_key_2
    walk_at "w"
    have hlf : (⟨(figL (TL.tl s)).toArray⟩ : Str).length = (figL (TL.tl s)).length := TL.len_tl _
    rw [hlf]
    have hk := isKey_spec (L := TL.tl s)
    have ff : (figL (TL.tl s)).filter (fun c => !digB c) = [] ↔ NumText.AllDigits (figL (TL.tl s)) := by
      rw [← digB_all, List.filter_eq_nil_iff, List.all_eq_true]
      simp
    generalize figL (TL.tl s) = f at *
    have no : ¬ (1 ≤ f.length ∧ f.length ≤ 60 ∧ NumText.AllDigits f ∧ (f.head? ≠ some 48 ∨ TL.tl s = [48])) → isKeyL (TL.tl s) = false := fun z => by
      cases e : isKeyL (TL.tl s) with
      | false => rfl
      | true => exact absurd (hk.mp e) z
    refine ⟨by omega, ?_⟩
    by_cases e0 : f.length = 0
    · rw [if_neg (by omega), if_pos (by omega)]
      rw [no (by omega)] at q
      exact q
    · rw [if_pos (by omega)]
      refine ⟨by omega, ?_⟩
      by_cases e60 : 60 < f.length
      · rw [if_neg (by omega), if_pos (by omega)]
        rw [no (by omega)] at q
        exact q
      · rw [if_pos (by omega)]
        refine comp_filter (fun c => Val.str ⟨#[c]⟩) f (fun c => !digB c) (fun c => .str ⟨#[c]⟩) (by omega) (fun p acc hp => ⟨trivial, fun y hy => ⟨_, rfl, fun K q => ?_, fun _ K q => ?_⟩⟩) ?_
        · unfold p_law_is_key_1
          simp only [wipe3, List.set]
          walk_at "w"
          simp only [digit_in]
          rw [show (!decide (digB y = true)) = !digB y by simp]
          exact q
        · unfold e_law_is_key_1
          simp only [wipe3, List.set]
          walk_at "w"
          exact q
        · rw [alc_fz]
          walk_at "w"
          rw [List.length_map]
          by_cases ad : NumText.AllDigits f
          · rw [ff.mpr ad, if_neg (by simp)]
            unfold c_law_is_key_1
            obtain ⟨c, l, rfl⟩ := List.exists_cons_of_ne_nil (show f ≠ [] from fun z => e0 (by rw [z]; rfl))
            walk_at "w"
            have c2 : (s = ({ cps := #[48] } : Str)) ↔ TL.tl s = [48] := ⟨fun z => by rw [z], fun z => TL.ext_tl (by rw [z])⟩
            simp only [c2]
            by_cases s48 : TL.tl s = [48]
            · rw [if_neg (not_not_intro s48), decide_eq_true s48]
              rw [hk.mpr ⟨by simp, by omega, ad, .inr s48⟩] at q
              exact q
            · rw [if_pos s48]
              rw [w_idxStr (c := c) (by show atI (c :: l) ((0 : Nat) : Int) = _; unfold atI; rw [ixN_nat (by simp)]; rfl)]
              refine ⟨by rw [hlf]; omega, ?_⟩
              walk_at "w"
              have c1 : (({ cps := #[c] } : Str) = { cps := #[48] }) ↔ c = 48 := ⟨fun z => by injection z with z; simpa using z, fun z => by rw [z]⟩
              have : (!decide (({ cps := #[c] } : Str) = { cps := #[48] })) = isKeyL (TL.tl s) := by
                by_cases c48 : c = 48
                · rw [no (fun z => by rcases z.2.2.2 with z | z; exact z (by rw [c48]; rfl); exact s48 z), decide_eq_true (c1.mpr c48)]
                  rfl
                · rw [hk.mpr ⟨by simp, by omega, ad, .inl (by simpa using c48)⟩, decide_eq_false (fun z => c48 (c1.mp z))]
                  rfl
              rw [this]
              exact q
          · have : 0 < (f.filter fun c => !digB c).length := List.length_pos_iff.mpr fun z => ad (ff.mp z)
            rw [if_pos (by omega)]
            rw [no (fun z => ad z.2.2.1)] at q
            exact q
  unfold c_law_is_key_3
  walk_at "w"
  refine ⟨by omega, ?_⟩
  rw [cut_1, cut_from1]
  simp only [tkc]
  unfold figL at J
  by_cases c : (TL.tl s).head? = some 45
  · rw [if_pos c] at J ⊢
    exact ⟨by omega, J _⟩
  · rw [if_neg c] at J ⊢
    have := J none
    rwa [TL.mk_tl] at this
/-- the words of a text -/
theorem items_ok (hF : F f_law_items = some d_law_items) {s : Str} (hl : s.length ≤ 400000) (q : ∀ h', Grow h h' → Q (.fl ((scanI (TL.tl s) []).map fun w => .str (sOf w))) h') : CN F (n + 1) f_law_items [.str s] h Q E := by
  refine CN_go hF rfl ?_
  unfold d_law_items
  walk_at "e"
  walk_at "w"
  intro p hp
  unfold c_law_items_5
  walk_at "w"
  unfold c_law_items_4
  walk_at "w"
  have ps : ∀ L : List Nat, s.cps.toList = L → forW (Tg.name 3) (wpSs (CN F n) b_law_items_1) (fun x => True)
      { nx := fun ρ' h' => wpSs (CN F n) c_law_items_3 { nx := fun x h' => Q Val.non h', rt := Q, ex := fun x x_1 h' => E x h' } ρ' h', rt := Q, ex := fun x x_1 h' => E x h' }
      (L.map (fun c => Val.str { cps := #[c] })) [some (Val.str s), some (Val.ref p), some (Val.str { cps := #[] }), none] (up h p (Cell.lst [])) := by
    intro L eL
    have lL : L.length ≤ 400000 := by rw [← eL]; exact hl
    refine for_map (moS F n b_law_items_1) (fun pre ρ h' => ∃ (acc : List (List Nat)) (w : List Nat) (u : Option Val), h' = up h p (.lst (acc.map fun w => .str (sOf w))) ∧ ρ = [some (.str s), some (.ref p), some (.str (sOf w)), u] ∧ (∀ post, L = pre ++ post → acc ++ scanI post w = scanI L []) ∧ w.length ≤ pre.length ∧ acc.length ≤ 2 * pre.length) (fun c => Val.str ⟨#[c]⟩) L ?_ ?_ ?_
    · intro pre y post ρ h1 ey ⟨acc, w, u, eh, eρ, inv, lw, la⟩
      subst eh eρ
      have lpre : pre.length < 400000 := by
        have := congrArg List.length ey
        rw [List.length_append, List.length_cons] at this
        omega
      refine ⟨by first | trivial | rfl, _, rfl, ?_⟩
      unfold b_law_items_1
      simp only [List.set]
      walk_at "w"
      have dl : (y = 40 ∨ y = 41 ∨ y = 46 ∨ y = 32) ↔ dlm y = true := by
        simp only [dlm, Bool.or_eq_true, decide_eq_true_eq, or_assoc]
      have we : (sOf w = ({ cps := #[] } : Str)) ↔ w = [] := sOf_e
      have lw' : (sOf w).length = w.length := by rw [TL.len_tl, tl_sOf]
      have l1 : ({ cps := #[y] } : Str).length = 1 := rfl
      simp only [dl, we]
      by_cases d : dlm y = true
      · rw [if_neg (not_not_intro d)]
        have C2 : ∀ acc' : List (List Nat), acc' = acc ++ wd1 w → wpSs (CN F n) c_law_items_2
            { nx := fun ρ' h' => ∃ (acc : List (List Nat)) (w : List Nat) (u : Option Val), h' = up h p (Cell.lst (acc.map fun w => Val.str (sOf w))) ∧ ρ' = [some (Val.str s), some (Val.ref p), some (Val.str (sOf w)), u] ∧ (∀ (post : List Nat), L = pre ++ [y] ++ post → acc ++ scanI post w = scanI L []) ∧ w.length ≤ (pre ++ [y]).length ∧ acc.length ≤ 2 * (pre ++ [y]).length,
              rt := Q, ex := fun x x_1 h' => E x h' }
            [some (Val.str s), some (Val.ref p), some (Val.str (sOf w)), some (Val.str { cps := #[y] })] (up h p (Cell.lst (acc'.map fun w => Val.str (sOf w)))) := by
          intro acc' ea
          have lw1 : (wd1 w).length ≤ 1 := by unfold wd1; split <;> simp
          have la' : acc'.length ≤ 2 * pre.length + 1 := by rw [ea, List.length_append]; omega
          unfold c_law_items_2
          walk_at "w"
          refine ⟨by rw [List.length_map]; omega, ?_⟩
          unfold c_law_items_1
          walk_at "w"
          refine ⟨acc' ++ [[y]], [], some (.str ⟨#[y]⟩), by rw [List.map_append]; rfl, rfl, fun post' ep => ?_, by simp, by simp; omega⟩
          have := inv (y :: post') (by rw [ep]; simp)
          rw [← this, scanI, if_pos d, ea]
          simp
        by_cases e : w = []
        · simp only [e, not_true_eq_false, if_false]
          have := C2 acc (by rw [e]; unfold wd1; simp)
          rw [e] at this
          exact this
        · simp only [e, not_false_eq_true, if_true]
          refine ⟨by rw [List.length_map]; omega, ?_⟩
          have := C2 (acc ++ [w]) (by unfold wd1; rw [if_neg e])
          rw [List.map_append] at this
          exact this
      · rw [if_pos d]
        refine ⟨by rw [lw', l1]; omega, acc, w ++ [y], some (.str ⟨#[y]⟩), rfl, ?_, fun post' ep => ?_, by simp; omega, by simp; omega⟩
        · rw [show sOf (w ++ [y]) = sOf w ++ ⟨#[y]⟩ from TL.ext_tl (by rw [TL.tl_append]; rfl)]
        · have := inv (y :: post') (by rw [ep]; simp)
          rw [← this, scanI, if_neg d]
    · intro ρ h1 ⟨acc, w, u, eh, eρ, inv, lw, la⟩
      subst eh eρ
      refine ⟨by first | trivial | rfl, ?_⟩
      unfold c_law_items_3
      walk_at "w"
      have fin := inv [] (by simp)
      rw [scanI] at fin
      have q := q _ (Grow.up (c := .lst (acc.map fun w => .str (sOf w))) hp)
      rw [show TL.tl s = L from eL, ← fin, List.map_append] at q
      have we : (sOf w = ({ cps := #[] } : Str)) ↔ w = [] := sOf_e
      simp only [we]
      unfold wd1 at q
      by_cases e : w = []
      · simp only [e, not_true_eq_false, if_false] at q ⊢
        refine ⟨⟨⟨by decide, by decide⟩, by decide⟩, ?_⟩
        rw [w_addRF up_same]
        refine ⟨by simp; omega, ?_⟩
        rw [alc_fz]
        exact q
      · simp only [e, not_false_eq_true, if_true, if_false] at q ⊢
        refine ⟨⟨⟨by decide, by decide⟩, by decide⟩, ?_⟩
        rw [w_addRF up_same]
        refine ⟨by simp; omega, ?_⟩
        rw [alc_fz]
        exact q
    · exact ⟨[], [], none, rfl, rfl, fun post e => by rw [e]; rfl, by simp, by simp⟩
  exact ps _ rfl
end
/-! ### the heap of a text -/
def HE.d : HE → PyData
  | .w l => .str (sOf l)
  | .tr t => .list [t.td]
def HEs : HE → Prop
  | .w l => PyData.strOk (sOf l) = true ∧ l.length ≤ 300000
  | .tr _ => True
def isW : HE → List Nat → Bool
  | .w l, m => decide (l = m)
  | .tr _, _ => false
def isT : HE → Bool
  | .w _ => false
  | .tr _ => true
theorem pd_tvA : ∀ t : Tr, pd t.tv = some t.td
  | .nil => rfl
  | .nd l k r => Tr.pd_tv (.nd l k r)
theorem HE.pd_v : ∀ x : HE, pd x.v = some x.d
  | .w l => rfl
  | .tr t => by
    show (pds [t.tv]).map PyData.list = some _
    simp only [pds, pd_tvA, Option.map_some, HE.d]
theorem HE.lay : ∀ {x : HE}, HEs x → x.d.canLay0 = true
  | .w l, h => h.1
  | .tr t, _ => by simp [HE.d, PyData.canLay0, PyData.canLayAll0, Tr.td_lay]
theorem HE.eqv : ∀ (x : HE) (m : List Nat), PyData.eqv x.d (.str (sOf m)) = isW x m
  | .w l, m => by
    have : (sOf l = sOf m) ↔ l = m := ⟨fun z => by have := congrArg TL.tl z; exact this, fun z => by rw [z]⟩
    simp only [HE.d, PyData.eqv, isW]
    by_cases e : l = m
    · simp [e]
    · simp [e, this]
  | .tr t, m => by simp [HE.d, PyData.eqv, isW]
theorem w_eqd3 {x5 x3 x1 : HE} {h : Hq} {Q : QV} (o5 : HEs x5) (o3 : HEs x3) (o1 : HEs x1) : prW (cmpR .eqd (.fl [x5.v, x3.v, x1.v]) (.fl [.str ⟨#[40]⟩, .str ⟨#[32]⟩, .str ⟨#[32]⟩]) h) Q = Q (.bl (isW x5 [40] && isW x3 [32] && isW x1 [32])) h := by
  have d1 : dt h (.fl [x5.v, x3.v, x1.v]) = some (.list [x5.d, x3.d, x1.d]) := by
    show pd _ = _
    simp only [pd, pds, HE.pd_v, Option.map_some]
  have d2 : dt h (.fl [.str ⟨#[40]⟩, .str ⟨#[32]⟩, .str ⟨#[32]⟩]) = some (.list [.str (sOf [40]), .str (sOf [32]), .str (sOf [32])]) := rfl
  have c1 : PyData.canLay0 (.list [x5.d, x3.d, x1.d]) = true := by simp [PyData.canLay0, PyData.canLayAll0, HE.lay o5, HE.lay o3, HE.lay o1]
  have c2 : PyData.canLay0 (.list [.str (sOf [40]), .str (sOf [32]), .str (sOf [32])]) = true := by decide +kernel
  have c3 : PyData.depth (.list [.str (sOf [40]), .str (sOf [32]), .str (sOf [32])]) ≤ 64 := by decide +kernel
  have e1 : PyData.eqv (.list [x5.d, x3.d, x1.d]) (.list [.str (sOf [40]), .str (sOf [32]), .str (sOf [32])]) = (isW x5 [40] && isW x3 [32] && isW x1 [32]) := by
    simp only [PyData.eqv, PyData.eqvAll, HE.eqv, Bool.and_true, Bool.and_assoc]
  simp only [cmpR, d1, d2, prW, optW_some, Out.w, c1, c2, c3, e1, or_true, and_self, true_and]
theorem tyOf_he (h : Hq) : ∀ x : HE, tyOf h x.v = some (if isT x = true then [.list] else [.str])
  | .w l => rfl
  | .tr t => rfl
theorem sOf_is {w : List Nat} {c : Nat} : (sOf w = ({ cps := #[c] } : Str)) ↔ w = [c] := ⟨fun z => by have := congrArg TL.tl z; exact this, fun z => by rw [z]; rfl⟩
theorem w_isL {x : HE} {h : Hq} {Q : QV} : prW (bltR (.isi [.list]) true [x.v] h) Q = Q (.bl (isT x)) h := by
  rw [w_isi (tyOf_he h x)]
  cases x <;> rfl
theorem w_isS {x : HE} {h : Hq} {Q : QV} : prW (bltR (.isi [.str]) true [x.v] h) Q = Q (.bl (!isT x)) h := by
  rw [w_isi (tyOf_he h x)]
  cases x <;> rfl
theorem setW_last {p : Addr} {xs : List Val} {y v : Val} {h : Hq} {Q : Hq → Prop} (e : h p = some (.lst (xs ++ [y]))) : setW (.ref p) (.int (-1)) v h Q = Q (up h p (.lst (xs ++ [v]))) := by
  have d : dicAt h (.ref p) = none := by simp [dicAt, e]
  have l : lstAt h (.ref p) = some (p, xs ++ [y]) := by simp [lstAt, e]
  have j : ixN (xs ++ [y]).length (-1) = some xs.length := by
    unfold ixN
    simp
    omega
  simp only [setW, d, l, optW_some, intOf, j]
  rw [List.set_append_right _ _ (Nat.le_refl _), Nat.sub_self]
  rfl
theorem sIx_neg {n d k : Nat} (hk : k ≤ n) (k0 : 0 < k) : HT.sIx n d (some (-(k : Int))) = n - k := by
  show (if -(k : Int) < 0 then (-(k : Int) + (n : Int)).toNat else _) = _
  rw [if_pos (by omega)]
  omega
theorem cut_76 {A : List Val} {a b c d e f g : Val} : cutL (A ++ [a, b, c, d, e, f, g]) (some (-7)) (some (-1)) = [a, b, c, d, e, f] := by
  have l : (A ++ [a, b, c, d, e, f, g]).length = A.length + 7 := by simp
  unfold cutL
  rw [l, show (-7 : Int) = -((7 : Nat) : Int) by rfl, show (-1 : Int) = -((1 : Nat) : Int) by rfl, sIx_neg (by omega) (by omega), sIx_neg (by omega) (by omega), show A.length + 7 - 7 = A.length by omega, List.drop_left, show A.length + 7 - 1 - A.length = 6 by omega]
  rfl
theorem cut_7 {A : List Val} {a b c d e f g : Val} : cutL (A ++ [a, b, c, d, e, f, g]) none (some (-7)) = A := by
  have l : (A ++ [a, b, c, d, e, f, g]).length = A.length + 7 := by simp
  unfold cutL
  rw [l, show (-7 : Int) = -((7 : Nat) : Int) by rfl, sIx_neg (by omega) (by omega), HT.sIx_none, List.drop_zero, Nat.sub_zero, show A.length + 7 - 7 = A.length by omega, List.take_left]
theorem scan_in {L : List Nat} {w : List Nat} (hw : w ∈ scanI L []) : ∀ c ∈ w, c ∈ L := fun c hc => by
  have := scanI_flat L []
  rw [List.nil_append] at this
  rw [← this]
  exact List.mem_flatten.mpr ⟨w, hw, hc⟩
theorem scan_len : ∀ (L w : List Nat), (scanI L w).length ≤ 2 * L.length + 1
  | [], w => by unfold scanI wd1; split <;> simp
  | c :: r, w => by
    unfold scanI
    split
    · have := scan_len r []
      have l1 : (wd1 w).length ≤ 1 := by unfold wd1; split <;> simp
      simp only [List.length_append, List.length_cons]
      omega
    · have := scan_len r (w ++ [c])
      simp only [List.length_cons]
      omega
theorem sstep_len (S : List HE) (it : List Nat) : (sstep S it).length ≤ S.length + 1 := by
  unfold sstep
  split
  · simp
  · split
    · split
      · rename_i l k r S0 e
        obtain ⟨rfl, _⟩ := top6_is e
        simp
      · simp
    · simp
theorem sstep_s {S : List HE} {it : List Nat} (hs : ∀ x ∈ S, HEs x) (hi : HEs (.w it)) : ∀ x ∈ sstep S it, HEs x := by
  have okc : ∀ {x : HE}, HEs x → ∀ y ∈ x :: S, HEs y := fun hx y hy => by
    rcases List.mem_cons.mp hy with e | m
    · rw [e]; exact hx
    · exact hs y m
  unfold sstep
  split
  · exact okc trivial
  · split
    · split
      · rename_i l k r S0 e
        obtain ⟨rfl, _⟩ := top6_is e
        intro y hy
        rcases List.mem_cons.mp hy with e | m
        · rw [e]; trivial
        · exact hs y (by simp [m])
      · exact okc hi
    · exact okc hi
theorem top6_short {S : List HE} (h : S.length < 6) : top6 S = none := by
  cases e : top6 S with
  | none => rfl
  | some p =>
    obtain ⟨l, k, r, S0⟩ := p
    obtain ⟨rfl, _⟩ := top6_is e
    simp only [List.length_cons] at h
    omega
theorem strI_len' {k : Int} (h : sm60 k) : (strI k).length ≤ 61 := by rw [TL.len_tl, tl_strI]; exact keyL_len h
theorem w_sortSet {a : Addr} {ns : List Int} {h : Hq} {fz : Bool} {Q : QV} (e : h a = some (.lst (ns.map .int))) : prW (o1R .sortSet fz (.ref a) h) Q = (ns.length < 64 ∧ alc fz ((ssetI ns).map .int) h Q) := by
  simp only [o1R, ls_ref e, Option.bind_some, mapO_int, Option.map_some, prW, optW_some, Out.w]
theorem w_neRI {a : Addr} {ns ms : List Int} {h : Hq} {Q : QV} (e : h a = some (.lst (ns.map .int))) : prW (cmpR .ne (.ref a) (.fl (ms.map .int)) h) Q = Q (.bl (!decide (ns = ms))) h := by
  simp only [cmpR, eqR, dt_ints, dt_ref e, prW, optW_some, Out.w, shaped_ints, eqv_ints, and_self, true_and, if_true]
/-- what is left -/
def LeftT (L : List Nat) (xs : List Val) : Prop := (∃ t, TreeT L t ∧ xs = [.fl [t.tv]]) ∨ ((¬ ∃ t, TreeT L t) ∧ (xs.length ≠ 1 ∨ ∃ s, xs = [.str s]))
section
variable {F : Fs} {n : Nat} {h : Hq} {Q : QV} {E : QE}
theorem tree_close (hK : F f_law_is_key = some d_law_is_key) {D : Dn} {s : Val} {hp kp : Addr} {y : Val} {x0 x1 x2 x3 x4 x5 : HE} {S0 : List HE} (o5 : HEs x5) (o3 : HEs x3) (o2 : HEs x2) (o1 : HEs x1) (hl : S0.length ≤ 500000) (a1 : h hp = some (.lst (S0.reverse.map HE.v ++ [x5.v, x4.v, x3.v, x2.v, x1.v, x0.v, y])))
    (k1 : top6 (x0 :: x1 :: x2 :: x3 :: x4 :: x5 :: S0) = none → D.nx [some s, some (.ref hp), some (.ref kp), some y, some x5.v, some x4.v, some x3.v, some x2.v, some x1.v, some x0.v] h)
    (k2 : ∀ l k r S1, top6 (x0 :: x1 :: x2 :: x3 :: x4 :: x5 :: S0) = some (l, k, r, S1) → ∀ p', h p' = none → D.nx [some s, some (.ref p'), some (.ref kp), some y, some x5.v, some x4.v, some x3.v, some x2.v, some x1.v, some x0.v] (up h p' (.lst (S1.reverse.map HE.v ++ [.fl [(Tr.nd l (keyN k) r).tv]])))) :
    wpSs (CN F (n + 1)) c_law_tree_of_1 D [some s, some (.ref hp), some (.ref kp), some y, some x5.v, some x4.v, some x3.v, some x2.v, some x1.v, some x0.v] h := by
  unfold c_law_tree_of_1
  simp only [wpSs, wpS, wpT, wpTs, wpE, wpA, w_lkS, w_lk0, optW_some]
  refine ⟨by simp, ?_⟩
  rw [alc_fz]
  refine ⟨by simp, ?_⟩
  rw [alc_fz, w_eqd3 o5 o3 o1]
  simp only [blOf, optW_some]
  cases e6 : top6 (x0 :: x1 :: x2 :: x3 :: x4 :: x5 :: S0) with
  | none =>
    have K := k1 e6
    cases b : (isW x5 [40] && isW x3 [32] && isW x1 [32]) with
    | false =>
      simp only [Bool.false_eq_true, if_false]
      exact K
    | true =>
      simp only [if_true]
      rw [w_isL]
      simp only [w_truB]
      cases t4 : isT x4 with
      | false =>
        simp only [Bool.false_eq_true, if_false]
        exact K
      | true =>
        simp only [if_true]
        rw [w_isL]
        simp only [w_truB]
        cases t0 : isT x0 with
        | false =>
          simp only [Bool.false_eq_true, if_false]
          exact K
        | true =>
          simp only [if_true]
          rw [w_isS]
          simp only [w_truB]
          cases x2 with
          | tr u =>
            simp only [isT, Bool.not_true, Bool.false_eq_true, if_false]
            exact K
          | w k =>
            simp only [isT, Bool.not_false, if_true]
            refine is_key_ok (n := n) (s := sOf k) hK (by have := o2.2; rw [TL.len_tl, tl_sOf]; omega) ?_
            simp only [w_truB, tl_sOf]
            cases kk : isKeyL k with
            | false =>
              simp only [Bool.false_eq_true, if_false]
              exact K
            | true =>
              exfalso
              simp only [Bool.and_eq_true] at b
              cases x0 with
              | w _ => cases t0
              | tr r =>
                cases x4 with
                | w _ => cases t4
                | tr l =>
                  cases x5 with
                  | tr _ => cases b.1.1
                  | w a5 =>
                    cases x3 with
                    | tr _ => cases b.1.2
                    | w a3 =>
                      cases x1 with
                      | tr _ => cases b.2
                      | w a1' =>
                        have b1 : a5 = [40] := of_decide_eq_true b.1.1
                        have b2 : a3 = [32] := of_decide_eq_true b.1.2
                        have b3 : a1' = [32] := of_decide_eq_true b.2
                        simp [top6, b1, b2, b3, kk] at e6
  | some p =>
    obtain ⟨l, k, r, S1⟩ := p
    have K := k2 l k r S1 e6
    obtain ⟨es, kk⟩ := top6_is e6
    injection es with q0 es
    injection es with q1 es
    injection es with q2 es
    injection es with q3 es
    injection es with q4 es
    injection es with q5 es
    subst q0 q1 q2 q3 q4 q5 es
    obtain ⟨sk, ek⟩ := isKey_N kk
    have eS : sOf k = strI (keyN k) := TL.ext_tl (by rw [tl_strI, tl_sOf, ek])
    have ls := strI_len' sk
    rw [show (isW (.w [40]) [40] && isW (.w [32]) [32] && isW (.w [32]) [32]) = true by decide]
    simp only [if_true]
    rw [w_isL]
    simp only [w_truB, isT, if_true]
    rw [w_isL]
    simp only [w_truB, isT, if_true]
    rw [w_isS]
    simp only [w_truB, isT, if_true, Bool.not_false]
    refine is_key_ok (n := n) (s := sOf k) hK (by have := o2.2; rw [TL.len_tl, tl_sOf]; omega) ?_
    simp only [w_truB, tl_sOf, kk, if_true]
    simp only [w_oi1, intOf, optW_some]
    rw [w_oi2 (by rfl), w_slcR a1, cut_7, alc_fz]
    simp only [HE.v]
    rw [w_idxF, show atI [l.tv] 0 = some l.tv by rfl, optW_some, w_intS (s := sOf k) (by rw [eS]; exact int_key sk)]
    refine ⟨by rw [eS]; omega, ?_⟩
    rw [w_idxF, show atI [r.tv] 0 = some r.tv by rfl, optW_some]
    refine ⟨by simp, by simp, ?_⟩
    rw [alc_fz]
    refine ⟨by simp, ?_⟩
    rw [alc_fz, w_addL]
    refine ⟨by simp; omega, ?_⟩
    rw [alc_lv]
    intro p' hp'
    exact K p' hp'
theorem tree_of_ok (hF : F f_law_tree_of = some d_law_tree_of) (hI : F f_law_items = some d_law_items) (hK : F f_law_is_key = some d_law_is_key) {s : Str} (ok : PyData.strOk s = true) (hl : s.length ≤ 200000)
    (q : ∀ xs h', LeftT (TL.tl s) xs → Grow h h' → Q (.fl xs) h') : CN F (n + 2) f_law_tree_of [.str s] h Q E := by
  refine CN_go hF rfl ?_
  unfold d_law_tree_of
  walk_at "e"
  walk_at "w"
  intro p0 hp0
  unfold c_law_tree_of_10
  walk_at "w"
  intro kp hkp0
  have nkp : kp ≠ p0 := fun z => by rw [z, up_same] at hkp0; cases hkp0
  have hkp : h kp = none := by rwa [up_ne nkp] at hkp0
  unfold c_law_tree_of_9
  walk_at "w"
  refine items_ok (n := n) hI (by omega) fun h1 g1 => ?_
  walk_at "w"
  have gi : Grow h h1 := (Grow.up hp0).trans ((Grow.up hkp0).trans g1)
  have c0 : h1 p0 = some (.lst []) := g1 _ _ ((up_ne nkp.symm).trans up_same)
  have c1 : h1 kp = some (.lst []) := g1 _ _ up_same
  have sl := scan_len (TL.tl s) []
  rw [← TL.len_tl] at sl
  refine for_map (moS F (n + 1) b_law_tree_of_1) (fun pre ρ h' => ∃ (hp : Addr) (u3 u4 u5 u6 u7 u8 u9 : Option Val), h' hp = some (.lst ((pre.foldl sstep []).reverse.map HE.v)) ∧ h' kp = some (.lst ((pre.foldl kstep []).map .int)) ∧ hp ≠ kp ∧ h hp = none ∧ Grow h h' ∧ (∀ x ∈ pre.foldl sstep [], HEs x) ∧ (pre.foldl sstep []).length ≤ pre.length ∧ (pre.foldl kstep []).length ≤ pre.length ∧
    ρ = [some (.str s), some (.ref hp), some (.ref kp), u3, u4, u5, u6, u7, u8, u9]) (fun w => Val.str (sOf w)) (scanI (TL.tl s) []) ?_ ?_ ?_
  · intro pre y post ρ h2 ey ⟨hp, u3, u4, u5, u6, u7, u8, u9, e1, e2, np, hn, g, hs, ls, lk, eρ⟩
    subst eρ
    have lpre : pre.length + 1 ≤ 400001 := by
      have := congrArg List.length ey
      rw [List.length_append, List.length_cons] at this
      omega
    have okY : PyData.strOk (sOf y) = true := by
      rw [PyData.strOk, ← Array.all_toList, List.all_eq_true]
      intro c hc
      have := scan_in (L := TL.tl s) (w := y) (by rw [ey]; simp) c hc
      rw [PyData.strOk, ← Array.all_toList, List.all_eq_true] at ok
      exact ok c this
    have ly : (sOf y).length ≤ 200000 := by
      have e := scanI_flat (TL.tl s) []
      rw [ey, List.flatten_append, List.flatten_cons] at e
      have := congrArg List.length e
      simp only [List.length_append, List.nil_append] at this
      rw [TL.len_tl, tl_sOf]
      rw [TL.len_tl] at hl
      omega
    rw [List.foldl_append, List.foldl_append, List.foldl_cons, List.foldl_nil, List.foldl_cons, List.foldl_nil]
    generalize pre.foldl sstep [] = S at *
    generalize pre.foldl kstep [] = ks at *
    refine ⟨by first | trivial | rfl, _, rfl, ?_⟩
    unfold b_law_tree_of_1
    simp only [List.set]
    walk_at "w"
    have lS : (S.reverse.map HE.v).length = S.length := by rw [List.length_map, List.length_reverse]
    have l1 : (pre ++ [y]).length = pre.length + 1 := by simp
    rw [l1]
    refine ⟨by rw [lS]; omega, ?_⟩
    have g2 : Grow h (up h2 hp (.lst (S.reverse.map HE.v ++ [.str (sOf y)]))) := fun a c ea => by
      have na : a ≠ hp := fun z => by rw [z, hn] at ea; cases ea
      rw [up_ne na]
      exact g _ _ ea
    have okS := sstep_s hs (it := y) ⟨okY, by rw [TL.len_tl, tl_sOf] at ly; omega⟩
    have lenS := sstep_len S y
    -- the last step: a bracket closes
    have C2 : ∀ (h3 : Hq) (ks' : List Int), y ≠ [46] → kstep ks y = ks' → ks'.length ≤ pre.length + 1 → h3 hp = some (.lst (S.reverse.map HE.v ++ [.str (sOf y)])) → h3 kp = some (.lst (ks'.map .int)) → Grow h h3 →
        wpSs (CN F (n + 1)) c_law_tree_of_2
          { nx := fun ρ h' => ∃ (hp : Addr) (u3 u4 u5 u6 u7 u8 u9 : Option Val), h' hp = some (.lst ((sstep S y).reverse.map HE.v)) ∧ h' kp = some (.lst ((kstep ks y).map .int)) ∧ hp ≠ kp ∧ h hp = none ∧ Grow h h' ∧ (∀ x ∈ sstep S y, HEs x) ∧ (sstep S y).length ≤ pre.length + 1 ∧ (kstep ks y).length ≤ pre.length + 1 ∧
              ρ = [some (.str s), some (.ref hp), some (.ref kp), u3, u4, u5, u6, u7, u8, u9], rt := Q, ex := fun x x_1 h' => E x h' }
          [some (.str s), some (.ref hp), some (.ref kp), some (.str (sOf y)), u4, u5, u6, u7, u8, u9] h3 := by
      intro h3 ks' n46 ek lk' a1 a2 g3
      have plain : ∀ (w4 w5 w6 w7 w8 w9 : Option Val), sstep S y = .w y :: S → ∃ (hq : Addr) (u3 u4' u5' u6' u7' u8' u9' : Option Val), h3 hq = some (.lst ((sstep S y).reverse.map HE.v)) ∧ h3 kp = some (.lst ((kstep ks y).map .int)) ∧ hq ≠ kp ∧ h hq = none ∧ Grow h h3 ∧ (∀ x ∈ sstep S y, HEs x) ∧ (sstep S y).length ≤ pre.length + 1 ∧ (kstep ks y).length ≤ pre.length + 1 ∧
          [some (.str s), some (.ref hp), some (.ref kp), some (.str (sOf y)), w4, w5, w6, w7, w8, w9] = [some (.str s), some (.ref hq), some (.ref kp), u3, u4', u5', u6', u7', u8', u9'] := fun w4 w5 w6 w7 w8 w9 es =>
        ⟨hp, _, _, _, _, _, _, _, by rw [es, a1]; simp [HE.v], by rw [ek]; exact a2, np, hn, g3, okS, by omega, by rw [ek]; exact lk', rfl⟩
      unfold c_law_tree_of_2
      walk_at "w"
      simp only [sOf_is]
      by_cases y41 : y = [41]
      · rw [if_pos y41, List.length_append, lS]
        by_cases h6 : S.length < 6
        · rw [if_neg (by simp; omega)]
          refine plain _ _ _ _ _ _ ?_
          unfold sstep
          rw [if_neg n46, if_pos y41, top6_short h6]
        · rw [if_pos (by simp; omega)]
          obtain ⟨x0, x1, x2, x3, x4, x5, S0, rfl⟩ : ∃ x0 x1 x2 x3 x4 x5 S0, S = x0 :: x1 :: x2 :: x3 :: x4 :: x5 :: S0 := by
            rcases S with _ | ⟨x0, _ | ⟨x1, _ | ⟨x2, _ | ⟨x3, _ | ⟨x4, _ | ⟨x5, S0⟩⟩⟩⟩⟩⟩
            all_goals first | exact ⟨_, _, _, _, _, _, _, rfl⟩ | (exfalso; simp at h6)
          have er : (x0 :: x1 :: x2 :: x3 :: x4 :: x5 :: S0).reverse.map HE.v ++ [.str (sOf y)] = S0.reverse.map HE.v ++ [x5.v, x4.v, x3.v, x2.v, x1.v, x0.v, .str (sOf y)] := by simp
          rw [er] at a1 ⊢
          rw [cut_76]
          walk_at "w"
          refine tree_close hK (hs x5 (by simp)) (hs x3 (by simp)) (hs x2 (by simp)) (hs x1 (by simp)) (by simp at ls; omega) a1 (fun e6 => ?_) fun l k r S1 e6 p' hp' => ?_
          · refine plain _ _ _ _ _ _ ?_
            unfold sstep
            rw [if_neg n46, if_pos y41, e6]
          · have es : sstep (x0 :: x1 :: x2 :: x3 :: x4 :: x5 :: S0) y = .tr (.nd l (keyN k) r) :: S1 := by
              unfold sstep
              rw [if_neg n46, if_pos y41, e6]
            have np' : p' ≠ kp := fun z => by rw [z, a2] at hp'; cases hp'
            have hn' : h p' = none := by
              cases e : h p' with
              | none => rfl
              | some c => rw [g3 _ _ e] at hp'; cases hp'
            exact ⟨p', _, _, _, _, _, _, _, by rw [es, up_same]; simp [HE.v], by rw [ek, up_ne np'.symm]; exact a2, np', hn', g3.trans (Grow.up hp'), okS, by omega, by rw [ek]; exact lk', rfl⟩
      · have es : sstep S y = .w y :: S := by unfold sstep; rw [if_neg n46, if_neg y41]
        simp only [y41, if_false]
        exact plain _ _ _ _ _ _ es
    unfold c_law_tree_of_3
    walk_at "w"
    simp only [sOf_is]
    by_cases y46 : y = [46]
    · rw [if_pos y46, setW_last up_same, up_up]
      unfold c_law_tree_of_2
      walk_at "w"
      simp only [sOf_is]
      have n41 : ¬ y = [41] := fun z => by rw [z] at y46; simp at y46
      simp only [n41, if_false]
      have es : sstep S y = .tr .nil :: S := by unfold sstep; rw [if_pos y46]
      have ek : kstep ks y = ks := by unfold kstep; rw [if_neg fun z => z.1 y46]
      refine ⟨hp, _, _, _, _, _, _, _, by rw [es, up_same]; simp [HE.v, Tr.tv], by rw [ek, up_ne np.symm]; exact e2, np, hn, fun a c ea => ?_, okS, by omega, by rw [ek]; omega, rfl⟩
      have na : a ≠ hp := fun z => by rw [z, hn] at ea; cases ea
      rw [up_ne na]
      exact g _ _ ea
    · rw [if_neg y46]
      refine is_key_ok (n := n) hK (by omega) ?_
      rw [tl_sOf]
      walk_at "w"
      by_cases ky : isKeyL y = true
      · rw [if_pos ky]
        have k2 : up h2 hp (.lst (S.reverse.map HE.v ++ [.str (sOf y)])) kp = some (.lst (ks.map .int)) := (up_ne np.symm).trans e2
        obtain ⟨sk, ek⟩ := isKey_N ky
        have eS : sOf y = strI (keyN y) := TL.ext_tl (by rw [tl_strI, tl_sOf, ek])
        have ls := strI_len' sk
        rw [w_ok_append k2, w_intS (s := sOf y) (by rw [eS]; exact int_key sk)]
        refine ⟨by rw [eS]; omega, ?_⟩
        rw [w_append k2]
        refine ⟨by rw [List.length_map]; omega, ?_⟩
        refine C2 _ (ks ++ [keyN y]) y46 (by unfold kstep; rw [if_pos ⟨y46, ky⟩]) (by simp; omega) ((up_ne np).trans up_same) (by rw [up_same]; simp) fun a c ea => ?_
        have na : a ≠ kp := fun z => by rw [z, hkp] at ea; cases ea
        rw [up_ne na]
        exact g2 _ _ ea
      · rw [if_neg ky]
        refine C2 _ ks y46 ?_ (by omega) up_same ((up_ne np.symm).trans e2) g2
        unfold kstep
        rw [if_neg fun z => ky z.2]
  · intro ρ h2 ⟨hp, u3, u4, u5, u6, u7, u8, u9, e1, e2, np, hn, g, hs, ls, lk, eρ⟩
    subst eρ
    refine ⟨by first | trivial | rfl, ?_⟩
    have hk : (scanI (TL.tl s) []).foldl kstep [] = keysT (TL.tl s) := rfl
    have hS : (scanI (TL.tl s) []).foldl sstep [] = stackOf (TL.tl s) := rfl
    rw [hk] at e2 lk
    rw [hS] at e1 hs ls
    unfold c_law_tree_of_8
    walk_at "w"
    rw [List.length_map]
    have gE : Grow h (er (er h2 hp) kp) := fun a c e => by
      rw [er_ne (fun z => by rw [z, hkp] at e; cases e), er_ne (fun z => by rw [z, hn] at e; cases e)]
      exact g _ _ e
    have gE2 : Grow h (er (er h2 kp) hp) := fun a c e => by
      rw [er_ne (fun z => by rw [z, hn] at e; cases e), er_ne (fun z => by rw [z, hkp] at e; cases e)]
      exact g _ _ e
    have bad : ¬ ((keysT (TL.tl s)).length ≤ 60 ∧ (keysT (TL.tl s)).Pairwise (· < ·)) → wpSs (CN F (n + 1)) c_law_tree_of_5
        { nx := fun ρ' h' => wpSs (CN F (n + 1)) c_law_tree_of_7 { nx := fun x h' => Q Val.non h', rt := Q, ex := fun x x_1 h' => E x h' } ρ' h', rt := Q, ex := fun x x_1 h' => E x h' }
        [some (Val.str s), some (Val.ref hp), some (Val.ref kp), u3, u4, u5, u6, u7, u8, u9] (er h2 hp) := by
      intro nb
      unfold c_law_tree_of_5
      walk_at "w"
      unfold c_law_tree_of_4
      walk_at "w"
      refine q _ _ (.inr ⟨fun ⟨t, ht⟩ => nb (treeT_iff.mp ht).2, .inl (by simp)⟩) gE
    have good : (keysT (TL.tl s)).length ≤ 60 → (keysT (TL.tl s)).Pairwise (· < ·) → wpSs (CN F (n + 1)) c_law_tree_of_7
        { nx := fun x h' => Q Val.non h', rt := Q, ex := fun x x_1 h' => E x h' }
        [some (Val.str s), some (Val.ref hp), some (Val.ref kp), u3, u4, u5, u6, u7, u8, u9] h2 := by
      intro b1 b2
      unfold c_law_tree_of_7
      walk_at "w"
      unfold c_law_tree_of_6
      walk_at "w"
      rw [w_frz ((er_ne np).trans e1)]
      refine q _ _ ?_ gE2
      rcases hst : stackOf (TL.tl s) with _ | ⟨x, r⟩
      · exact .inr ⟨(fun ⟨t, ht⟩ => by rw [(treeT_iff.mp ht).1] at hst; cases hst), .inl (by simp)⟩
      · cases r with
        | cons y r => exact .inr ⟨(fun ⟨t, ht⟩ => by rw [(treeT_iff.mp ht).1] at hst; cases hst), .inl (by simp)⟩
        | nil =>
          cases x with
          | w l => exact .inr ⟨(fun ⟨t, ht⟩ => by rw [(treeT_iff.mp ht).1] at hst; cases hst), .inr ⟨sOf l, rfl⟩⟩
          | tr t => exact .inl ⟨t, treeT_iff.mpr ⟨hst, b1, b2⟩, rfl⟩
    by_cases b1 : (keysT (TL.tl s)).length ≤ 60
    · rw [if_pos (by omega), w_sortSet e2]
      refine ⟨by omega, ?_⟩
      rw [alc_fz, w_neRI e2]
      walk_at "w"
      by_cases b2 : (keysT (TL.tl s)).Pairwise (· < ·)
      · rw [if_neg (not_not_intro (ssetI_eq.mpr b2))]
        exact good b1 b2
      · rw [if_pos fun z => b2 (ssetI_eq.mp z)]
        exact bad fun z => b2 z.2
    · rw [if_neg (by omega), if_pos (by omega)]
      exact bad fun z => b1 z.1
  · exact ⟨p0, none, none, none, none, none, none, none, c0, c1, nkp.symm, hp0, gi, by simp, by simp, by simp, rfl⟩
end
/-! ### layouts, part by part -/
def strsD (ws : List (List Nat)) : List Val := ws.map fun w => .str (sOf w)
theorem w_neS0 {ws : List (List Nat)} {h : Hq} {Q : QV} (ok : ∀ w ∈ ws, PyData.strOk (sOf w) = true) : prW (cmpR .ne (.fl (ws.map fun w => .str (sOf w))) (.fl []) h) Q = Q (.bl (!decide (ws = []))) h := by
  have c : cmpR .ne (.fl (ws.map fun w => .str (sOf w))) (.fl []) h = eqR true (.fl (ws.map fun w => .str (sOf w))) (.fl []) h := rfl
  have p1 : ∀ ws : List (List Nat), pds (ws.map fun w => Val.str (sOf w)) = some (ws.map fun w => PyData.str (sOf w)) := by
    intro ws
    induction ws with
    | nil => rfl
    | cons w ws ih => simp only [List.map_cons, pds, pd, ih]
  have d1 : dt h (.fl (ws.map fun w => .str (sOf w))) = some (.list (ws.map fun w => PyData.str (sOf w))) := by
    show pd _ = _
    simp only [pd, p1, Option.map_some]
  have l1 : ∀ ws : List (List Nat), (∀ w ∈ ws, PyData.strOk (sOf w) = true) → PyData.canLayAll0 (ws.map fun w => PyData.str (sOf w)) = true ∧ PyData.depthAll (ws.map fun w => PyData.str (sOf w)) = 0 := by
    intro ws
    induction ws with
    | nil => intro _; exact ⟨rfl, rfl⟩
    | cons w ws ih =>
      intro h
      obtain ⟨i1, i2⟩ := ih fun x hx => h x (by simp [hx])
      simp [PyData.canLayAll0, PyData.canLay0, PyData.depthAll, PyData.depth, i1, i2, h w (by simp)]
  have s1 : SeqAt.shaped (.list (ws.map fun w => PyData.str (sOf w))) = true := by
    obtain ⟨i1, i2⟩ := l1 ws ok
    simp [SeqAt.shaped, PyData.canLay0, PyData.depth, i1, i2]
  have s2 : SeqAt.shaped (.list []) = true := by decide +kernel
  have e2 : PyData.eqv (.list (ws.map fun w => PyData.str (sOf w))) (.list []) = decide (ws = []) := by
    cases ws <;> simp [PyData.eqv, PyData.eqvAll]
  rw [c]
  simp only [eqR, d1, dt_nil, prW, optW_some, Out.w, s1, s2, e2, and_self, true_and, if_true]
theorem cut_sub {c : Nat} {L w : List Nat} (hw : w ∈ cutAt c L) : ∀ x ∈ w, x ∈ L := fun x hx => by
  have e := joinL_cut c L
  have : ∀ (ws : List (List Nat)), w ∈ ws → x ∈ TL.joinL [c] ws := by
    intro ws
    induction ws with
    | nil => intro m; simp at m
    | cons v r ih =>
      intro m
      cases r with
      | nil =>
        rw [List.mem_singleton.mp m] at hx
        exact hx
      | cons u r =>
        show x ∈ v ++ ([c] ++ TL.joinL [c] (u :: r))
        rcases List.mem_cons.mp m with e | m
        · rw [e] at hx; simp [hx]
        · have := ih m; simp [this]
  rw [← e]
  exact this _ hw
theorem okS_sub {L w : List Nat} (ok : PyData.strOk (sOf L) = true) (h : ∀ x ∈ w, x ∈ L) : PyData.strOk (sOf w) = true := by
  rw [PyData.strOk, ← Array.all_toList, List.all_eq_true] at ok ⊢
  exact fun c hc => ok c (h c hc)
def LeftL (L : List Nat) (xs : List Val) : Prop := (layOk L = true ∧ xs = [.fl ((layN L).map fun p => .fl (p.map .int))]) ∨ (layOk L = false ∧ xs = [])
section
variable {F : Fs} {n : Nat} {h : Hq} {Q : QV} {E : QE}
theorem layout_of_ok (hF : F f_law_layout_of = some d_law_layout_of) (hK : F f_law_is_key = some d_law_is_key) {s : Str} (ok : PyData.strOk s = true) (hl : s.length ≤ 200000)
    (q : ∀ xs h', LeftL (TL.tl s) xs → Grow h h' → Q (.fl xs) h') : CN F (n + 2) f_law_layout_of [.str s] h Q E := by
  refine CN_go hF rfl ?_
  unfold d_law_layout_of
  walk_at "e"
  walk_at "w"
  have c2 : (s = ({ cps := #[] } : Str)) ↔ TL.tl s = [] := ⟨fun z => by rw [z], fun z => TL.ext_tl (by rw [z])⟩
  simp only [c2]
  by_cases e : TL.tl s = []
  · rw [if_pos e]
    exact q _ _ (.inl ⟨by rw [e]; rfl, by rw [e]; rfl⟩) Grow.refl
  · rw [if_neg e]
    unfold c_law_layout_of_9
    walk_at "w"
    intro lp hlp
    unfold c_law_layout_of_8
    walk_at "w"
    refine ⟨⟨rfl, by omega⟩, ?_⟩
    have cl := cutAt_len 124 (TL.tl s)
    have ps : partsL (TL.tl s) = cutAt 124 (TL.tl s) := by unfold partsL; rw [if_neg e]
    have sub : ∀ p ∈ cutAt 124 (TL.tl s), ∀ x ∈ p, x ∈ TL.tl s := fun p hp => cut_sub hp
    rw [split_mk s (by decide), List.map_map]
    rw [TL.len_tl] at hl
    refine for_map (moS F (n + 1) b_law_layout_of_1) (fun pre ρ h' => ∃ (u2 u3 u4 u5 : Option Val), h' lp = some (.lst (pre.map fun p => .fl ((pageN p).map .int))) ∧ Grow h h' ∧ (∀ p ∈ pre, pageOk p = true) ∧ ρ = [some (.str s), some (.ref lp), u2, u3, u4, u5]) (Val.str ∘ sOf) (cutAt 124 (TL.tl s)) ?_ ?_ ?_
    · intro pre y post ρ h1 ey ⟨u2, u3, u4, u5, e1, g, hp, eρ⟩
      subst eρ
      have my : y ∈ cutAt 124 (TL.tl s) := by rw [ey]; simp
      have ly := cl.2 y my
      have sy := sub y my
      have hlen := congrArg List.length ey
      rw [List.length_append, List.length_cons] at hlen
      refine ⟨by first | trivial | rfl, _, rfl, ?_⟩
      unfold b_law_layout_of_1
      simp only [List.set, Function.comp]
      walk_at "w"
      refine ⟨⟨rfl, by rw [TL.len_tl, tl_sOf]; omega⟩, ?_⟩
      rw [split_mk (sOf y) (by decide), tl_sOf, List.map_map]
      have cw := cutAt_len 32 y
      have wl : (wordsL y).length ≤ y.length + 1 := by unfold wordsL; split; simp; exact cw.1
      have wl2 : ∀ w ∈ wordsL y, w.length ≤ y.length ∧ ∀ x ∈ w, x ∈ TL.tl s := by
        unfold wordsL
        split
        · simp
        · exact fun w hw => ⟨cw.2 w hw, fun x hx => sy x (cut_sub hw x hx)⟩
      have g2 : Grow h (er h1 lp) := fun a c ea => by
        rw [er_ne (fun z => by rw [z, hlp] at ea; cases ea)]
        exact g _ _ ea
      have J : wpSs (CN F (n + 1)) c_law_layout_of_3
          { nx := fun ρ h' => ∃ (u2 u3 u4 u5 : Option Val), h' lp = some (Cell.lst (List.map (fun p => Val.fl (List.map Val.int (pageN p))) (pre ++ [y]))) ∧ Grow h h' ∧ (∀ (p : List Nat), p ∈ pre ++ [y] → pageOk p = true) ∧ ρ = [some (Val.str s), some (Val.ref lp), u2, u3, u4, u5],
            rt := Q, ex := fun x x_1 h' => E x h' }
          [some (Val.str s), some (Val.ref lp), some (Val.str (sOf y)), some (Val.fl ((wordsL y).map fun w => .str (sOf w))), u4, u5] h1 := by
        unfold c_law_layout_of_3
        walk_at "w"
        refine comp_filter (fun w => Val.str (sOf w)) (wordsL y) (fun w => !isKeyL w) (fun w => .str (sOf w)) (by omega) (fun p acc hp => ⟨trivial, fun w hw => ⟨_, rfl, fun K q => ?_, fun _ K q => ?_⟩⟩) ?_
        · unfold p_law_layout_of_1
          simp only [wipe3, List.set]
          walk_at "w"
          have := (wl2 w hw).1
          refine is_key_ok (n := n) hK (by rw [TL.len_tl, tl_sOf]; omega) ?_
          rw [tl_sOf, w_truB]
          exact q
        · unfold e_law_layout_of_1
          simp only [wipe3, List.set]
          walk_at "w"
          exact q
        · rw [alc_fz, w_neS0 (fun w hw => okS_sub (L := TL.tl s) (by rw [sOf_tl]; exact ok) (wl2 w (List.mem_filter.mp hw).1).2)]
          walk_at "w"
          have ap : (wordsL y).filter (fun w => !isKeyL w) = [] ↔ pageOk y = true := by
            unfold pageOk
            rw [List.filter_eq_nil_iff, List.all_eq_true]
            simp
          by_cases po : pageOk y = true
          · rw [if_neg (not_not_intro (ap.mpr po))]
            unfold c_law_layout_of_2
            walk_at "w"
            refine comp_map' (fun w => Val.str (sOf w)) (wordsL y) (fun w => .int (keyN w)) (by omega) (fun p acc hp => ⟨trivial, fun w hw => ⟨_, rfl, fun K q => ?_⟩⟩) ?_
            · unfold e_law_layout_of_2
              simp only [wipe3, List.set]
              walk_at "w"
              have kw : isKeyL w = true := List.all_eq_true.mp po w hw
              obtain ⟨sk, ek⟩ := isKey_N kw
              have eS : sOf w = strI (keyN w) := TL.ext_tl (by rw [tl_strI, tl_sOf, ek])
              have ls := strI_len' sk
              rw [w_intS (s := sOf w) (by rw [eS]; exact int_key sk)]
              exact ⟨by rw [eS]; omega, q⟩
            · rw [alc_fz, w_append e1]
              refine ⟨by rw [List.length_map]; omega, ?_⟩
              refine ⟨_, _, _, _, ?_, fun a c ea => ?_, fun p hp' => ?_, rfl⟩
              · rw [up_same, List.map_append, List.map_cons, List.map_nil]
                unfold pageN
                rw [List.map_map]
                rfl
              · rw [up_ne (fun z => by rw [z, hlp] at ea; cases ea)]
                exact g _ _ ea
              · rcases List.mem_append.mp hp' with m | m
                · exact hp p m
                · rw [List.mem_singleton.mp m]; exact po
          · rw [if_pos fun z => po (ap.mp z)]
            unfold c_law_layout_of_1
            walk_at "w"
            refine q _ _ (.inr ⟨?_, rfl⟩) g2
            unfold layOk
            rw [ps]
            cases ga : (cutAt 124 (TL.tl s)).all pageOk with
            | false => rfl
            | true => exact absurd (List.all_eq_true.mp ga y my) po
      unfold c_law_layout_of_4
      walk_at "w"
      simp only [sOf_e]
      by_cases y0 : y = []
      · rw [if_pos y0]
        unfold wordsL at J
        rw [if_pos y0] at J
        exact J
      · rw [if_neg y0]
        unfold wordsL at J
        rw [if_neg y0] at J
        exact J
    · intro ρ h1 ⟨u2, u3, u4, u5, e1, g, hp, eρ⟩
      subst eρ
      refine ⟨by first | trivial | rfl, ?_⟩
      unfold c_law_layout_of_7
      walk_at "w"
      rw [w_cellOl e1, lockC_lst]
      simp only [List.set]
      have g2 : Grow h (er h1 lp) := fun a c ea => by
        rw [er_ne (fun z => by rw [z, hlp] at ea; cases ea)]
        exact g _ _ ea
      have allp : (partsL (TL.tl s)).all pageOk = true := by rw [ps]; exact List.all_eq_true.mpr hp
      have lo : layOk (TL.tl s) = (decide ((cutAt 124 (TL.tl s)).length ≤ 60) && decide (sumL ((cutAt 124 (TL.tl s)).map fun p => (pageN p).length) ≤ 60)) := by
        unfold layOk
        rw [allp, ps, Bool.true_and]
      have ln : (layN (TL.tl s)).map (fun p => Val.fl (p.map .int)) = (cutAt 124 (TL.tl s)).map fun p => Val.fl ((pageN p).map .int) := by
        unfold layN
        rw [ps, List.map_map]
        rfl
      unfold LeftL at q
      rw [lo, ln] at q
      generalize cutAt 124 (TL.tl s) = P at *
      unfold c_law_layout_of_6
      walk_at "w"
      rw [List.length_map]
      by_cases h60 : P.length ≤ 60
      · rw [if_pos (by omega)]
        rw [decide_eq_true h60, Bool.true_and] at q
        refine comp_map' (fun p => Val.fl (List.map Val.int (pageN p))) P (fun p => .int ((pageN p).length : Nat)) (by omega) (fun b acc hb => ⟨trivial, fun p hp' => ⟨_, rfl, fun K q => ?_⟩⟩) ?_
        · unfold e_law_layout_of_3
          simp only [wipe3, List.set]
          walk_at "w"
          rw [List.length_map]
          exact q
        · rw [alc_fz]
          rw [map_int P fun p => ((pageN p).length : Nat)]
          walk_at "w"
          have es : (P.map fun p => (((pageN p).length : Nat) : Int)).sum = ((sumL (P.map fun p => (pageN p).length) : Nat) : Int) := by rw [← sumL_eq, List.map_map]; rfl
          rw [es]
          by_cases s60 : sumL (P.map fun p => (pageN p).length) ≤ 60
          · rw [if_neg (by omega)]
            unfold c_law_layout_of_5
            walk_at "w"
            exact q _ _ (.inl ⟨decide_eq_true s60, rfl⟩) g2
          · rw [if_pos (by omega)]
            exact q _ _ (.inr ⟨decide_eq_false s60, rfl⟩) g2
      · rw [if_neg (by omega), if_pos (by omega)]
        exact q _ _ (.inr ⟨by rw [decide_eq_false h60]; rfl, rfl⟩) g2
    · exact ⟨none, none, none, none, up_same, Grow.up hlp, by simp, rfl⟩
end
/-! ### refused, or right -/
structure Has48 (F : Fs) : Prop where
  rt : F f_read_tree = some d_read_tree
  ta : F f_tree_at = some d_tree_at
  rk : F f_read_key = some d_read_key
  it : F f_is_tree = some d_is_tree
  hf : F f_has_form = some d_has_form
  ik : F f_is_knot = some d_is_knot
  iw : F f_is_whole = some d_is_whole
  ko : F f_keys_of = some d_keys_of
  rl : F f_read_layout = some d_read_layout
  rp : F f_read_page = some d_read_page
  st : F f_show_tree = some d_show_tree
  sl : F f_show_layout = some d_show_layout
  sp : F f_show_page = some d_show_page
  lt : F f_law_tree_of = some d_law_tree_of
  li : F f_law_items = some d_law_items
  lk : F f_law_is_key = some d_law_is_key
  ll : F f_law_layout_of = some d_law_layout_of
  lr : F f_law_refused = some d_law_refused
  lg : F f_law_right = some d_law_right
section
variable {F : Fs} {n : Nat} {h : Hq} {Q : QV} {E : QE}
/-- a text is refused -/
theorem refused_ok (S : Has48 F) {v : Val} {b : Bool} (w : ∀ {Q : QV} {E : QE}, (∀ h', Grow h h' → E 6 h') → CN F n (if b = true then f_read_layout else f_read_tree) [v] h Q E) (q : ∀ h', Grow h h' → Q (.bl true) h') : CN F (n + 1) f_law_refused [v, .bl b] h Q E := by
  refine CN_go S.lr rfl ?_
  unfold d_law_refused
  walk_at "e"
  walk_at "w"
  have J : ∀ h', Grow h h' → wpSs (CN F n) c_law_refused_2 { nx := fun x h' => Q Val.non h', rt := Q, ex := fun x x_1 h' => E x h' } [some v, some (.bl b), some (.exc 6), none] h' := by
    intro h' g
    unfold c_law_refused_2
    walk_at "w"
    rw [show excOf (.exc 6) = some 6 from rfl, optW_some]
    refine ⟨by decide, ?_⟩
    rw [if_neg (by decide)]
    unfold c_law_refused_1
    walk_at "w"
    rw [show excOf (.exc 6) = some 6 from rfl]
    simp only [optW_some]
    refine ⟨by decide, ?_⟩
    rw [if_pos (by decide)]
    exact ⟨by decide, q h' g⟩
  unfold c_law_refused_3
  walk_at "w"
  unfold b_law_refused_1
  walk_at "w"
  have X : ∀ h', Grow h h' → (if subX 6 0 = true then ((6 = 0 ∨ 6 = 1 ∨ 6 = 2 ∨ 6 = 3 ∨ 6 = 4 ∨ 6 = 5 ∨ 6 = 6 ∨ 6 = 7) ∧ 3 < 4) ∧
      wpSs (CN F n) c_law_refused_2 { nx := fun x h' => Q Val.non h', rt := Q, ex := fun x x_1 h' => E x h' } (([some v, some (Val.bl b), some Val.non, none].set 2 (some (Val.exc 6))).set 3 none) h'
      else (6 = 0 ∨ 6 = 1 ∨ 6 = 2 ∨ 6 = 3 ∨ 6 = 4 ∨ 6 = 5 ∨ 6 = 6 ∨ 6 = 7) ∧ E 6 h') := fun h' g => by
    rw [if_pos (by decide)]
    exact ⟨⟨by decide, by decide⟩, J h' g⟩
  cases b with
  | true => 
    rw [if_pos rfl]
    rw [if_pos rfl] at w
    exact w X
  | false =>
    rw [if_neg (by simp)]
    rw [if_neg (by simp)] at w
    exact w X
end
theorem pageN_text {p : List Nat} (h : pageOk p = true) : TL.tl (pageS (pageN p)) = p := by
  have e : (pageN p).map keyL = wordsL p := by
    unfold pageN
    rw [List.map_map]
    have : ∀ w ∈ wordsL p, (keyL ∘ keyN) w = id w := fun w hw => (isKey_N (List.all_eq_true.mp h w hw)).2
    rw [List.map_congr_left this, List.map_id]
  rw [tl_pageS, e]
  unfold wordsL
  split
  · rename_i z; rw [z]; rfl
  · exact joinL_cut 32 p
theorem layN_text {L : List Nat} (h : layOk L = true) : TL.tl (layS (layN L)) = L := by
  have ha : (partsL L).all pageOk = true := by
    unfold layOk at h
    simp only [Bool.and_eq_true] at h
    exact h.1.1
  have e : (layN L).map (fun p => TL.tl (pageS p)) = partsL L := by
    unfold layN
    rw [List.map_map]
    have : ∀ p ∈ partsL L, ((fun p => TL.tl (pageS p)) ∘ pageN) p = id p := fun p hp => pageN_text (List.all_eq_true.mp ha p hp)
    rw [List.map_congr_left this, List.map_id]
  rw [tl_layS, e]
  unfold partsL
  split
  · rename_i z; rw [z]; rfl
  · exact joinL_cut 124 L
theorem sumL_flat (P : List (List Int)) : sumL (P.map List.length) = P.flatten.length := by
  induction P with
  | nil => rfl
  | cons p P ih =>
    simp only [List.map_cons, List.flatten_cons, List.length_append, sumL, List.foldr_cons] at *
    omega
theorem layN_ok {L : List Nat} (h : layOk L = true) : (∀ p ∈ layN L, ∀ k ∈ p, sm60 k) ∧ (layN L).length ≤ 60 ∧ (layN L).flatten.length ≤ 60 := by
  unfold layOk at h
  simp only [Bool.and_eq_true, decide_eq_true_eq] at h
  obtain ⟨⟨h1, h2⟩, h3⟩ := h
  refine ⟨fun p hp k hk => ?_, by unfold layN; rw [List.length_map]; exact h2, ?_⟩
  · unfold layN at hp
    obtain ⟨y, hy, rfl⟩ := List.mem_map.mp hp
    obtain ⟨w, hw, rfl⟩ := List.mem_map.mp hk
    exact (isKey_N (List.all_eq_true.mp (List.all_eq_true.mp h1 y hy) w hw)).1
  · rw [← sumL_flat]
    unfold layN
    rw [List.map_map]
    exact h3
theorem w_eqX0 {P : List (List Int)} {h : Hq} {Q : QV} : prW (cmpR .eq (.fl [.fl (P.map fun p => .fl (p.map .int))]) (.fl []) h) Q = Q (.bl false) h := by
  have c : cmpR .eq (.fl [.fl (P.map fun p => .fl (p.map .int))]) (.fl []) h = eqR false (.fl [.fl (P.map fun p => .fl (p.map .int))]) (.fl []) h := rfl
  have d1 : dt h (.fl [.fl (P.map fun p => .fl (p.map .int))]) = some (.list [dLL P]) := by
    show pd _ = _
    have : pd (.fl (P.map fun p => .fl (p.map .int))) = some (dLL P) := dt_ll h P
    simp only [pd, pds] at this ⊢
    simp only [this, Option.map_some]
  have s1 : SeqAt.shaped (.list [dLL P]) = true := by
    have := depth_ll P
    simp [SeqAt.shaped, dLL, PyData.canLay0, PyData.canLayAll0, canLay_ll, PyData.depth, PyData.depthAll]
    omega
  have s2 : SeqAt.shaped (.list []) = true := by decide +kernel
  rw [c]
  simp only [eqR, d1, dt_nil, prW, optW_some, Out.w, s1, s2, and_self, true_and, Bool.false_eq_true, if_false]
  rfl
section
variable {F : Fs} {n : Nat} {h : Hq} {Q : QV} {E : QE}
/-- a text is read as it should -/
theorem right_ok (S : Has48 F) {s : Str} (ok : PyData.strOk s = true) (hl : s.length ≤ 200000) (q : ∀ h', Grow h h' → Q (.bl true) h') : CN F (n + 93) f_law_right [.str s] h Q E := by
  refine CN_go S.lg rfl ?_
  unfold d_law_right
  walk_at "e"
  walk_at "w"
  refine tree_of_ok (n := n + 90) S.lt S.li S.lk ok hl fun xs h1 hx g1 => ?_
  have J : ∀ h2, Grow h h2 → wpSs (CN F (n + 92)) c_law_right_3 { nx := fun x h' => Q Val.non h', rt := Q, ex := fun x x_1 h' => E x h' } [some (.str s), some (.fl xs)] h2 := by
    intro h2 g2
    unfold c_law_right_3
    walk_at "w"
    refine layout_of_ok (n := n + 90) S.ll S.lk ok hl fun ys h3 hy g3 => ?_
    have g3 := g2.trans g3
    unfold c_law_right_2
    walk_at "w"
    rcases hy with ⟨lo, rfl⟩ | ⟨lo, rfl⟩
    · obtain ⟨k1, k2, k3⟩ := layN_ok lo
      rw [w_eqX0]
      walk_at "w"
      unfold c_law_right_1
      walk_at "w"
      refine read_layout_any (n := n + 89) S.rl S.rp S.rk (by omega) (fun _ => ?_) (fun z => by rw [lo] at z; cases z)
      walk_at "w"
      refine show_layout_ok (P := layN (TL.tl s)) (n := n + 90) S.sl S.sp k1 (by omega) k3 ?_
      walk_at "w"
      have es : layS (layN (TL.tl s)) = s := TL.ext_tl (layN_text lo)
      rw [decide_eq_true es]
      exact q _ g3
    · walk_at "w"
      rw [show prW (cmpR .eq (.fl []) (.fl []) h3) = prW (cmpR .eq (.fl (([] : List Int).map .int)) (.fl (([] : List Int).map .int)) h3) from rfl, w_eqI_L]
      walk_at "w"
      refine refused_ok (n := n + 91) S (fun {Q E} w => ?_) fun h' g => q _ (g3.trans g)
      refine read_layout_any (n := n + 88) S.rl S.rp S.rk (by omega) (fun z => ?_) (fun _ => w)
      rw [lo] at z
      cases z
  unfold c_law_right_4
  rcases hx with ⟨t, ht, rfl⟩ | ⟨hno, hsh⟩
  · obtain rfl : s = treeS t := TL.ext_tl (by rw [tl_treeS]; exact ht.1)
    obtain ⟨_, hk, hz, up⟩ := ht
    have th := t.ht_le
    walk_at "w"
    rw [if_pos (by decide)]
    refine read_tree_ok (n := n + 2) S.rt S.ta S.rk S.it S.hf S.ik S.iw S.ko hk hz up ?_
    rw [w_neTr (by omega) (by omega)]
    walk_at "w"
    refine show_tree_ok S.st t _ (by omega) (by omega) hk ?_
    walk_at "w"
    exact J _ g1
  · have J2 : ∀ {Q' : QV} {E' : QE}, (∀ h', Grow h h' → Q' (.bl true) h') → CN F (n + 92) f_law_refused [.str s, .bl false] h1 Q' E' := fun {Q' E'} q' => by
      refine refused_ok (n := n + 91) S (fun {Q E} w => ?_) fun h' g => q' _ (g1.trans g)
      exact read_tree_no (n := n + 1) S.rt S.ta S.rk S.it S.hf S.ik S.iw S.ko (by omega) hno (w h1 Grow.refl)
    rcases hsh with hl1 | ⟨s', rfl⟩
    · walk_at "w"
      rw [decide_eq_false (show ¬ ((xs.length : Nat) : Int) = 1 by omega), if_neg (by simp), if_pos (by omega)]
      refine J2 fun h' g => ?_
      rw [w_truB, if_neg (by simp)]
      exact J h' g
    · walk_at "w"
      rw [if_pos (by decide)]
      refine J2 fun h' g => ?_
      rw [w_truB, if_neg (by simp)]
      exact J h' g
end
/-! ### drawn texts -/
section
variable {F : Fs} {n : Nat} {a : Addr} {h : Hq} {Q : QV} {E : QE}
theorem draw_ok (hF : F f_law_draw = some d_law_draw) {m : Int} (hp : PenAt h a) (hm : 0 < m) (hm2 : m < 2 ^ 250)
    (k : ∀ r h', 0 ≤ r → r < m → PenAt h' a → Ex1 a h h' → Q (.int r) h') : CN F (n + 1) f_law_draw [.ref a, .int m] h Q E := by
  obtain ⟨x, y, z, hp, hx⟩ := hp
  refine CN_go hF rfl ?_
  unfold d_law_draw
  walk_at "e"
  walk_at "w"
  unfold c_law_draw_6
  walk_at "w"
  split
  · refine ⟨hm, ?_⟩
    unfold c_law_draw_2
    walk_at "w"
    refine ⟨⟨hm, by omega⟩, ?_⟩
    unfold c_law_draw_1
    walk_at "w"
    exact k _ _ (Int.emod_nonneg _ (by omega)) (Int.emod_lt_of_pos _ hm) ⟨_, _, _, up_same, Int.ediv_nonneg hx (by omega)⟩ Ex1.up
  · unfold c_law_draw_5
    walk_at "w"
    have b1 : 0 ≤ (y + 22013 * (z + 1) + 1) * 45991 % 2147483563 := Int.emod_nonneg _ (by decide)
    have b2 : (y + 22013 * (z + 1) + 1) * 45991 % 2147483563 < 2147483563 := Int.emod_lt_of_pos _ (by decide)
    generalize (y + 22013 * (z + 1) + 1) * 45991 % 2147483563 = u at *
    unfold c_law_draw_4
    walk_at "w"
    refine ⟨.inl ⟨by omega, by omega⟩, ?_⟩
    have c1 : 0 ≤ u * (u % 65213 + (z + 1) + 3) % 2147483647 := Int.emod_nonneg _ (by decide)
    have c2 : u * (u % 65213 + (z + 1) + 3) % 2147483647 < 2147483647 := Int.emod_lt_of_pos _ (by decide)
    generalize u * (u % 65213 + (z + 1) + 3) % 2147483647 = v at *
    unfold c_law_draw_3
    walk_at "w"
    refine ⟨.inl ⟨by omega, by omega⟩, hm, ?_⟩
    exact k _ _ (Int.emod_nonneg _ (by omega)) (Int.emod_lt_of_pos _ hm) ⟨_, _, _, up_same, hx⟩ Ex1.up
theorem pen_ok (hF : F f_law_pen_L = some d_law_pen_L) {ns : List Int} {i : Int} (h0 : 0 ≤ i) (h1 : i < 1000)
    (k : ∀ p h', h p = none → PenAt h' p → Ex1 p h h' → Q (.ref p) h') : CN F (n + 1) f_law_pen_L [.sc ns, .int i] h Q E := by
  refine CN_go hF rfl ?_
  unfold d_law_pen_L
  walk_at "e"
  walk_at "w"
  have J : ∀ c : Int, wpSs (CN F n) c_law_pen_L_2 { nx := fun x h' => Q Val.non h', rt := Q, ex := fun x x_1 h' => E x h' } [some (Val.sc ns), some (Val.int i), some (Val.int c)] h := by
    intro c
    unfold c_law_pen_L_2
    walk_at "w"
    split
    · rename_i hc
      intro p hp
      exact k p _ hp ⟨_, _, _, up_same, by omega⟩ Ex1.up
    · unfold c_law_pen_L_1
      walk_at "w"
      intro p hp
      exact k p _ hp ⟨_, _, _, up_same, by omega⟩ Ex1.up
  unfold c_law_pen_L_3
  walk_at "w"
  split
  · obtain ⟨v, hv, e⟩ := atI_open (xs := ns.map Val.int) h0 (by rw [List.length_map]; omega)
    rw [e]
    obtain ⟨c, _, rfl⟩ := List.mem_map.mp hv
    exact J c
  · split
    · rename_i hl
      refine ⟨hl, ?_⟩
      obtain ⟨v, hv, e⟩ := atI_open (xs := ns.map Val.int) (i := i % ns.length) (Int.emod_nonneg _ (by omega)) (by rw [List.length_map]; exact Int.emod_lt_of_pos _ hl)
      rw [e]
      obtain ⟨c, _, rfl⟩ := List.mem_map.mp hv
      walk_at "w"
      exact J _
    · exact J _

/-- a text that may be drawn -/
def TxO (s : Str) (b : Nat) : Prop := PyData.strOk s = true ∧ s.length ≤ b
def txB : Val → Bool
  | .str s => PyData.strOk s && decide (s.length ≤ 100)
  | _ => false
theorem txB_is {v : Val} (h : txB v = true) : ∃ s, v = .str s ∧ TxO s 100 := by
  cases v with
  | str s =>
    simp only [txB, Bool.and_eq_true, decide_eq_true_eq] at h
    exact ⟨s, rfl, h⟩
  | _ => cases h
theorem word_ok (hF : F f_law_word = some d_law_word) (hD : F f_law_draw = some d_law_draw) (hp : PenAt h a) (k : ∀ s h', TxO s 100 → PenAt h' a → Ex1 a h h' → Q (.str s) h') : CN F (n + 2) f_law_word [.ref a] h Q E := by
  refine CN_go hF rfl ?_
  unfold d_law_word
  walk_at "e"
  walk_at "w"
  unfold c_law_word_3
  walk_at "w"
  unfold c_law_word_2
  walk_at "w"
  rw [w_mulS]
  refine ⟨by decide, ?_⟩
  rw [w_mulS]
  refine ⟨by decide, ?_⟩
  rw [w_mulS]
  refine ⟨by decide, ?_⟩
  rw [w_addS]
  refine ⟨by decide +kernel, ?_⟩
  rw [w_mulS]
  refine ⟨by decide, ?_⟩
  rw [w_addS]
  refine ⟨by decide +kernel, ?_⟩
  rw [w_mulS]
  refine ⟨by decide, ?_⟩
  unfold c_law_word_1
  walk_at "w"
  refine draw_ok (n := n) hD hp (by decide) (by decide) fun r h' r0 r1 pn1 e1 => ?_
  rw [w_idxF]
  refine pick r0 r1 fun v hv => ?_
  obtain ⟨s, rfl, ts⟩ := txB_is (List.all_eq_true.mp (by decide +kernel) v hv)
  exact k s h' ts pn1 e1
theorem tx_cut {s : Str} {b : Nat} (h : TxO s b) (lo hi : Option Int) : TxO (cutS s lo hi) b := by
  refine ⟨?_, Nat.le_trans (cutS_length s lo hi) h.2⟩
  have ok := h.1
  rw [PyData.strOk, ← Array.all_toList, List.all_eq_true] at ok ⊢
  intro c hc
  have hc : c ∈ ((TL.tl s).drop (HT.sIx s.length 0 lo)).take (HT.sIx s.length s.length hi - HT.sIx s.length 0 lo) := hc
  exact ok c (List.mem_of_mem_drop (List.mem_of_mem_take hc))
theorem len_add (s t : Str) : (s ++ t).length = s.length + t.length := by rw [TL.len_tl, TL.tl_append, List.length_append, ← TL.len_tl, ← TL.len_tl]
theorem okS_add {a b : Str} (ha : PyData.strOk a = true) (hb : PyData.strOk b = true) : PyData.strOk (a ++ b) = true := by
  rw [PyData.strOk, ← Array.all_toList, List.all_eq_true] at *
  intro c hc
  have hc : c ∈ TL.tl (a ++ b) := hc
  rw [TL.tl_append] at hc
  rcases List.mem_append.mp hc with m | m
  · exact ha c m
  · exact hb c m
theorem tx_add {s t : Str} {b c : Nat} (h : TxO s b) (k : TxO t c) : TxO (s ++ t) (b + c) := ⟨okS_add h.1 k.1, by rw [len_add]; have := h.2; have := k.2; omega⟩
theorem TxO.le {s : Str} {b c : Nat} (h : TxO s b) (k : b ≤ c) : TxO s c := ⟨h.1, Nat.le_trans h.2 k⟩
def tot (ws : List Str) : Nat := (ws.map (·.length)).sum + ws.length
theorem tot_app (a b : List Str) : tot (a ++ b) = tot a + tot b := by simp only [tot, List.map_append, List.sum_append, List.length_append]; omega
theorem joinL_sum (c : Nat) : ∀ {L : List (List Nat)}, L ≠ [] → (TL.joinL [c] L).length + 1 = (L.map List.length).sum + L.length
  | [], h => absurd rfl h
  | [p], _ => by simp [TL.joinL]
  | p :: q :: r, _ => by
    have := joinL_sum c (L := q :: r) (by simp)
    simp only [TL.joinL, List.length_append, List.length_cons, List.length_nil, List.map_cons, List.sum_cons] at this ⊢
    omega
theorem tot_cut (c : Nat) (L : List Nat) : tot ((cutAt c L).map sOf) = L.length + 1 := by
  have e := joinL_sum c (cutAt_ne c L)
  rw [joinL_cut] at e
  have : ((cutAt c L).map sOf).map (·.length) = (cutAt c L).map List.length := by rw [List.map_map]; rfl
  rw [tot, this, List.length_map, e]
theorem okS_joinL {c : Nat} (hc : c < 1114112) : ∀ {L : List (List Nat)}, (∀ p ∈ L, ∀ x ∈ p, x < 1114112) → ∀ x ∈ TL.joinL [c] L, x < 1114112
  | [], _, x, hx => by simp [TL.joinL] at hx
  | [p], h, x, hx => h p (by simp) x (by simpa [TL.joinL] using hx)
  | p :: q :: r, h, x, hx => by
    simp only [TL.joinL, List.mem_append, List.mem_cons, List.not_mem_nil, or_false] at hx
    rcases hx with hx | hx | hx
    · exact h p (by simp) x hx
    · rw [hx]; exact hc
    · exact okS_joinL hc (L := q :: r) (fun y m => h y (by simp [List.mem_cons.mp m])) x hx
theorem okS_tl {s : Str} : PyData.strOk s = true ↔ ∀ x ∈ TL.tl s, x < 1114112 := by
  unfold PyData.strOk
  rw [← Array.all_toList, List.all_eq_true]
  constructor
  · intro h x hx; exact of_decide_eq_true (h x hx)
  · intro h x hx; exact decide_eq_true (h x hx)
theorem tx_join {c : Nat} (hc : c < 1114112) {ws : List Str} {m : Nat} (h : ∀ w ∈ ws, PyData.strOk w = true) (hm : tot ws ≤ m + 1) : TxO (Txt.join ⟨#[c]⟩ ws) m := by
  constructor
  · rw [okS_tl, TL.join_eq, TL.tl_join]
    refine okS_joinL (c := c) hc fun p hp => ?_
    obtain ⟨w, hw, rfl⟩ := List.mem_map.mp hp
    exact okS_tl.mp (h w hw)
  · rw [TL.len_tl, TL.join_eq, TL.tl_join]
    by_cases e : ws = []
    · subst e; exact Nat.zero_le _
    · have z := joinL_sum c (L := ws.map TL.tl) (by simpa using e)
      have : (ws.map TL.tl).map List.length = ws.map (·.length) := by rw [List.map_map]; exact List.map_congr_left fun w _ => (TL.len_tl w).symm
      rw [this, List.length_map] at z
      have z : (TL.joinL [c] (ws.map TL.tl)).length + 1 = tot ws := z
      show (TL.joinL [c] (ws.map TL.tl)).length ≤ m
      omega
theorem bent_ok (hF : F f_law_bent = some d_law_bent) (hW : F f_law_word = some d_law_word) (hD : F f_law_draw = some d_law_draw) (hp : PenAt h a) {s : Str} {b : Nat} (ts : TxO s b) (hb : b ≤ 100000) (k : ∀ s h', TxO s (3 * b + 300) → PenAt h' a → Ex1 a h h' → Q (.str s) h') : CN F (n + 3) f_law_bent [.ref a, .str s] h Q E := by
  have lb := ts.2
  refine CN_go hF rfl ?_
  unfold d_law_bent
  walk_at "e"
  walk_at "w"
  refine draw_ok (n := n + 1) (m := 9) hD hp (by decide) (by decide) fun kind h1 k0 k1 p1 e1 => ?_
  unfold c_law_bent_16
  walk_at "w"
  refine ⟨by omega, ?_⟩
  refine draw_ok (n := n + 1) hD p1 (by omega) (by omega) fun at_ h2 a0 a1 p2 e2 => ?_
  unfold c_law_bent_15
  walk_at "w"
  refine ⟨by omega, ?_⟩
  refine draw_ok (n := n + 1) hD p2 (by omega) (by omega) fun to h3 t0 t1 p3 e3 => ?_
  unfold c_law_bent_14
  walk_at "w"
  refine draw_ok (n := n + 1) (m := 18) hD p3 (by decide) (by decide) fun sg h4 s0 s1 p4 e4 => ?_
  obtain ⟨c, hc, ec⟩ := atI_open (xs := [48, 49, 50, 51, 52, 53, 54, 55, 56, 57, 45, 40, 41, 124, 46, 32, 97, 126]) s0 (by exact s1)
  rw [w_idxStr (c := c) ec]
  refine ⟨by decide, ?_⟩
  have tc : TxO ⟨#[c]⟩ 1 := by
    have : ∀ c ∈ [48, 49, 50, 51, 52, 53, 54, 55, 56, 57, 45, 40, 41, 124, 46, 32, 97, 126], PyData.strOk ⟨#[c]⟩ = true := by decide +kernel
    exact ⟨this c hc, by show 1 ≤ 1; omega⟩
  have e14 := ((e1.trans e2).trans e3).trans e4
  unfold c_law_bent_13
  walk_at "w"
  unfold c_law_bent_12
  walk_at "w"
  generalize (if to < at_ then to else at_) = low at *
  generalize (if to > at_ then to else at_) = high at *
  have out : ∀ s', TxO s' (3 * b + 300) → Q (.str s') h4 := fun s' t => k s' h4 t p4 e14
  have C : ∀ lo hi, TxO (cutS s lo hi) b := tx_cut ts
  have L : ∀ lo hi, (cutS s lo hi).length ≤ b := fun lo hi => (C lo hi).2
  unfold c_law_bent_11
  walk_at "w"
  by_cases k0' : kind = 0
  · rw [if_pos k0']
    have l1 := L none (some at_)
    have l2 := L (some (at_ + 1)) none
    exact ⟨by omega, by omega, by omega, out _ ((tx_add (C _ _) (C _ _)).le (by omega))⟩
  rw [if_neg k0']
  unfold c_law_bent_10
  walk_at "w"
  by_cases k1' : kind = 1
  · rw [if_pos k1']
    have l1 := L none (some at_)
    have l2 := L (some at_) none
    have l3 := tc.2
    exact ⟨by omega, by omega, by omega, by rw [len_add]; omega, out _ ((tx_add (tx_add (C _ _) tc) (C _ _)).le (by omega))⟩
  rw [if_neg k1']
  unfold c_law_bent_9
  walk_at "w"
  by_cases k2' : kind = 2
  · rw [if_pos k2']
    have l1 := L none (some at_)
    have l2 := L (some (at_ + 1)) none
    have l3 := tc.2
    exact ⟨by omega, by omega, by omega, by rw [len_add]; omega, out _ ((tx_add (tx_add (C _ _) tc) (C _ _)).le (by omega))⟩
  rw [if_neg k2']
  unfold c_law_bent_8
  walk_at "w"
  by_cases k3' : kind = 3
  · rw [if_pos k3']
    have l1 := L none (some low)
    have l2 := L (some high) none
    exact ⟨by omega, by omega, by omega, out _ ((tx_add (C _ _) (C _ _)).le (by omega))⟩
  rw [if_neg k3']
  unfold c_law_bent_7
  walk_at "w"
  by_cases k4' : kind = 4
  · rw [if_pos k4']
    have l1 := L none (some high)
    have l2 := L (some high) none
    have l3 := L (some low) (some high)
    have c3 := tx_cut (C (some low) (some high)) none (some 200)
    have l4 := c3.2
    exact ⟨by omega, by omega, by omega, by omega, by omega, by rw [len_add]; omega, out _ ((tx_add (tx_add (C _ _) c3) (C _ _)).le (by omega))⟩
  rw [if_neg k4']
  unfold c_law_bent_6
  walk_at "w"
  by_cases k5' : kind = 5
  · rw [if_pos k5']
    have l1 := L (some high) none
    have l2 := L (some low) (some high)
    have l3 := L none (some low)
    exact ⟨by omega, by omega, by omega, by omega, by rw [len_add]; omega, out _ ((tx_add (tx_add (C _ _) (C _ _)) (C _ _)).le (by omega))⟩
  rw [if_neg k5']
  unfold c_law_bent_5
  walk_at "w"
  refine ⟨⟨rfl, by omega⟩, ?_⟩
  rw [split_mk s (by decide)]
  unfold c_law_bent_4
  walk_at "w"
  have cl := cutAt_len 32 (TL.tl s)
  have cne := cutAt_ne 32 (TL.tl s)
  rw [← TL.len_tl] at cl
  have lcp : 0 < (cutAt 32 (TL.tl s)).length := List.length_pos_iff.mpr cne
  rw [List.length_map, List.length_map]
  refine draw_ok (n := n + 1) hD p4 (by omega) (by omega) fun place h5 pl0 pl1 p5 e5 => ?_
  have e15 := e14.trans e5
  unfold c_law_bent_3
  walk_at "w"
  by_cases k6' : kind = 6
  · rw [if_pos k6']
    refine word_ok (n := n) hW hD p5 fun w h6 tw p6 e6 => ?_
    obtain ⟨p, rfl⟩ := Int.eq_ofNat_of_zero_le pl0
    have okc : ∀ v ∈ (cutAt 32 (TL.tl s)).map sOf, PyData.strOk v = true := by
      intro v hv
      obtain ⟨u, hu, rfl⟩ := List.mem_map.mp hv
      exact okS_sub (L := TL.tl s) (by rw [sOf_tl]; exact ts.1) (cut_sub hu)
    have tt := tot_cut 32 (TL.tl s)
    rw [← TL.len_tl] at tt
    have lW : ((cutAt 32 (TL.tl s)).map sOf).length = (cutAt 32 (TL.tl s)).length := List.length_map _
    generalize (cutAt 32 (TL.tl s)).map sOf = W at *
    have pl : p < W.length := by omega
    rw [cutG_map, cutG_map, cutG_to (by omega), show ((p : Nat) : Int) + 1 = ((p + 1 : Nat) : Int) by omega, cutG_from (by omega)]
    have eW : W.take p ++ W.drop p = W := List.take_append_drop p W
    have eD : W.drop p = (W[p]) :: W.drop (p + 1) := List.drop_eq_getElem_cons pl
    have t1 : tot (W.take p) + tot (W.drop p) = tot W := by rw [← tot_app, eW]
    have t2 : tot (W.drop (p + 1)) ≤ tot (W.drop p) := by
      rw [eD]; simp only [tot, List.map_cons, List.sum_cons, List.length_cons]; omega
    have t3 : tot (W.take p ++ [w] ++ W.drop (p + 1)) ≤ b + 102 := by
      rw [tot_app, tot_app]
      have : tot [w] = w.length + 1 := by simp [tot]
      have := tw.2
      omega
    rw [show (W.take p).map Val.str ++ [Val.str w] ++ (W.drop (p + 1)).map Val.str = (W.take p ++ [w] ++ W.drop (p + 1)).map Val.str by simp only [List.map_append, List.map_cons, List.map_nil], w_join]
    have t4 := t3
    rw [tot] at t4
    have z1 : (⟨#[32]⟩ : Str).length = 1 := rfl
    have l1 : (W.take p).length ≤ W.length := by rw [List.length_take]; omega
    have l2 : (W.drop (p + 1)).length ≤ W.length := by rw [List.length_drop]; omega
    refine ⟨by rw [List.length_map]; omega, by simp only [List.length_append, List.length_map, List.length_cons, List.length_nil]; omega, by rw [z1]; omega, ?_⟩
    refine k _ h6 ((tx_join (by decide) ?_ t3).le (by omega)) p6 (e15.trans e6)
    intro v hv
    rcases List.mem_append.mp hv with m | m
    · rcases List.mem_append.mp m with m | m
      · exact okc v (List.mem_of_mem_take m)
      · rw [List.mem_singleton.mp m]; exact tw.1
    · exact okc v (List.mem_of_mem_drop m)
  rw [if_neg k6']
  unfold c_law_bent_2
  walk_at "w"
  by_cases k7' : kind = 7
  · rw [if_pos k7']
    refine ⟨by omega, ?_⟩
    refine word_ok (n := n) hW hD p5 fun w h6 tw p6 e6 => ?_
    have l1 := L none (some at_)
    have l2 := L (some at_) none
    have l3 := tw.2
    have aw := tx_add (C none (some at_)) tw
    rw [w_addS]
    refine ⟨by omega, by omega, ?_⟩
    rw [w_addS]
    exact ⟨by rw [len_add]; omega, k _ h6 ((tx_add aw (C (some at_) none)).le (by omega)) p6 (e15.trans e6)⟩
  rw [if_neg k7']
  unfold c_law_bent_1
  walk_at "w"
  exact word_ok (n := n) hW hD p5 fun w h6 tw p6 e6 => k w h6 (tw.le (by omega)) p6 (e15.trans e6)
end
theorem strOk_of (s : String) : PyData.strOk (Str.ofString s) = true := by
  have e : (Str.ofString s).cps.toList = s.toList.map Char.toNat := by
    unfold Str.ofString
    rw [List.toList_toArray, cpsOfBytes_string]
  unfold PyData.strOk
  rw [← Array.all_toList, e, List.all_eq_true]
  intro x hx
  obtain ⟨c, _, rfl⟩ := List.mem_map.mp hx
  have h := c.valid
  unfold UInt32.isValidChar Nat.isValidChar at h
  show decide (c.val.toNat < 1114112) = true
  exact decide_eq_true (by omega)
theorem okS_I (k : Int) : PyData.strOk (strI k) = true := strOk_of _
section
variable {F : Fs} {n : Nat} {a : Addr} {h : Hq} {Q : QV} {E : QE}
theorem w_joinR {ys : List Str} {p : Addr} {s : Str} (e : h p = some (.lst (ys.map .str))) : prW (mthR .sjoin (.str s) [.ref p] h) Q = ((ys.map (·.length)).sum + ys.length * s.length ≤ 1000000 ∧ Q (.str (Txt.join s ys)) h) := by
  simp only [mthR, joR, stO, Option.bind_some, sq_ref e, mapO_str, Option.map_some, prW, optW_some, Out.w]
theorem tot_le {ws : List Str} {c m : Nat} (hw : ∀ w ∈ ws, TxO w c) (hl : ws.length ≤ m) : tot ws ≤ m * (c + 1) := by
  have : tot ws ≤ ws.length * (c + 1) := by
    clear hl
    induction ws with
    | nil => simp [tot]
    | cons w ws ih =>
      have i := ih fun v m => hw v (by simp [m])
      have := (hw w (by simp)).2
      simp only [tot, List.map_cons, List.sum_cons, List.length_cons] at i ⊢
      rw [Nat.add_mul, Nat.one_mul]; omega
  exact Nat.le_trans this (Nat.mul_le_mul_right _ hl)
theorem layout_text_ok (hF : F f_law_layout_text = some d_law_layout_text) (hD : F f_law_draw = some d_law_draw) (hp : PenAt h a) {m : Nat} (hm : m ≤ 61) (k : ∀ s h', TxO s 16170 → PenAt h' a → Q (.str s) h') : CN F (n + 2) f_law_layout_text [.ref a, .int m] h Q E := by
  refine CN_go hF rfl ?_
  unfold d_law_layout_text
  walk_at "e"
  walk_at "w"
  intro p hpn
  have pa : p ≠ a := hp.ne hpn
  unfold c_law_layout_text_2
  walk_at "w"
  refine ⟨by omega, ?_⟩
  rw [show intsFrom 0 ((m : Nat) : Int).toNat = (List.range m).map fun i : Nat => Val.int (0 + (i : Int)) from rfl]
  refine for_map (moS F (n + 1) b_law_layout_text_1) (fun pre ρ h' => ∃ (ws : List Str) (u v : Option Val), ws.length = pre.length ∧ (∀ w ∈ ws, TxO w 185) ∧ h' p = some (.lst (ws.map .str)) ∧ PenAt h' a ∧ ρ = [some (.ref a), some (.int m), some (.ref p), u, v]) (fun i : Nat => Val.int (0 + (i : Int))) (List.range m) ?_ ?_ ?_
  · intro pre y post ρ h1 ey ⟨ws, u, v, wl, wo, hv, pn, eρ⟩
    subst eρ
    refine ⟨by first | trivial | rfl, _, rfl, ?_⟩
    unfold b_law_layout_text_1
    simp only [List.set]
    walk_at "w"
    refine draw_ok (n := n) hD pn (by decide) (by decide) fun c h2 c0 c1 pn2 e2 => ?_
    walk_at "w"
    refine ⟨by omega, ?_⟩
    obtain ⟨cc, rfl⟩ := Int.eq_ofNat_of_zero_le c0
    have hv2 : h2 p = some (.lst (ws.map .str)) := (e2 p pa).trans hv
    rw [show intsFrom 0 ((cc : Nat) : Int).toNat = (List.range cc).map fun i : Nat => Val.int (0 + (i : Int)) from rfl]
    refine comp_eff (fun i : Nat => Val.int (0 + (i : Int))) (List.range cc) (by rw [List.length_range]; omega) (fun cp pre acc h' => cp ≠ a ∧ cp ≠ p ∧ ∃ us : List Str, us.length = pre.length ∧ acc = us.map .str ∧ (∀ w ∈ us, TxO w 61) ∧ h' p = some (.lst (ws.map .str)) ∧ PenAt h' a) ?_ ?_ ?_
    · intro cp pre2 y2 post2 acc h3 ey2 hcp ⟨ca, cq, us, ul, ee, uo, hv3, pn3⟩
      subst ee
      refine ⟨trivial, _, rfl, fun K q => ?_⟩
      simp only [wipe3, List.set]
      unfold e_law_layout_text_1
      walk_at "w"
      refine draw_ok (n := n) hD pn3 (by decide) (by decide) fun r h4 r0 r1 pn4 e4 => ?_
      walk_at "w"
      have sm : sm60 (r - 100) := by
        have : (r - 100).natAbs ≤ 1000 := by omega
        exact Nat.lt_of_le_of_lt this (by decide)
      refine ⟨sm60_log sm, q _ _ ((e4 cp ca).trans hcp) ⟨ca, cq, us ++ [strI (r - 100)], by simp [ul], by simp, fun w hw => ?_, ?_, PenAt.up ca pn4⟩⟩
      · rcases List.mem_append.mp hw with hw | hw
        · exact uo w hw
        · rw [List.mem_singleton.mp hw]; exact ⟨strOk_of _, strI_len' sm⟩
      · rw [up_ne (Ne.symm cq), e4 p pa]; exact hv3
    · intro cp hcp
      have cq := ne_of_live hv2 hcp
      exact ⟨pn2.ne hcp, Ne.symm cq, [], rfl, rfl, fun w hw => (by simp at hw), (up_ne cq).trans hv2, PenAt.up (pn2.ne hcp) pn2⟩
    intro cp acc h3 hc0 hc1 ⟨ca, cq, us, ul, ee, uo, hv3, pn3⟩
    subst ee
    refine ⟨trivial, ?_⟩
    rw [List.length_range] at ul
    have t := tot_le uo (show us.length ≤ 3 by omega)
    have t2 := t
    rw [tot] at t2
    have z1 : (⟨#[32]⟩ : Str).length = 1 := rfl
    rw [w_join]
    refine ⟨by rw [z1]; omega, ?_⟩
    have hv4 : er h3 cp p = some (.lst (ws.map .str)) := (er_ne (Ne.symm cq)).trans hv3
    rw [w_append hv4]
    have wl2 := congrArg List.length ey
    simp only [List.length_append, List.length_cons, List.length_range] at wl2
    refine ⟨by rw [List.length_map]; omega, ws ++ [Txt.join ⟨#[32]⟩ us], _, _, by simp [wl], fun w hw => ?_, by rw [up_same, List.map_append]; rfl, PenAt.up pa (PenAt.er ca pn3), rfl⟩
    rcases List.mem_append.mp hw with hw | hw
    · exact wo w hw
    · rw [List.mem_singleton.mp hw]; exact tx_join (by decide) (fun w hw => (uo w hw).1) (by omega)
  · intro ρ h1 ⟨ws, u, v, wl, wo, hv, pn, eρ⟩
    subst eρ
    refine ⟨by first | trivial | rfl, ?_⟩
    unfold c_law_layout_text_1
    walk_at "w"
    rw [w_joinR hv]
    rw [List.length_range] at wl
    have t := tot_le wo (show ws.length ≤ 61 by omega)
    have t2 := t
    rw [tot] at t2
    have z1 : (⟨#[124]⟩ : Str).length = 1 := rfl
    exact ⟨by rw [z1]; omega, k _ _ (tx_join (by decide) (fun w hw => (wo w hw).1) (by omega)) pn⟩
  · exact ⟨[], _, _, rfl, fun w hw => (by simp at hw), up_same, PenAt.up pa hp, rfl⟩
end
section
variable {F : Fs} {n : Nat} {a : Addr} {h : Hq} {Q : QV} {E : QE}
/-- what the drawn tree's heap holds -/
inductive Hi where
  | st (x : Str)
  | it (k : Int)
def Hi.v : Hi → Val
  | .st x => .str x
  | .it k => .int k
def Hi.w : Hi → Nat
  | .st _ => 1
  | .it k => 4 * k.toNat + 1
def Hi.ok : Hi → Prop
  | .st x => TxO x 1
  | .it k => -1 ≤ k ∧ k ≤ 61
theorem hi_pos (S : List Hi) : S.length ≤ (S.map Hi.w).sum := by
  induction S with
  | nil => simp
  | cons x S ih =>
    have : 1 ≤ x.w := by cases x with
      | it t => simp only [Hi.w]; omega
      | st _ => exact Nat.le_refl _
    simp only [List.length_cons, List.map_cons, List.sum_cons]; omega
theorem Hi.okV {x : Hi} (h : x.ok) : L3.okV x.v = true ∧ dpV x.v ≤ 63 := by
  cases x with
  | it k => exact ⟨rfl, by simp [Hi.v, dpV]⟩
  | st x => exact ⟨h.1, by simp [Hi.v, dpV]⟩
theorem tree_text_ok (hF : F f_law_tree_text = some d_law_tree_text) (hD : F f_law_draw = some d_law_draw) (hp : PenAt h a) {m : Nat} (hm : m ≤ 61) (k : ∀ s h', TxO s 16170 → PenAt h' a → Q (.str s) h') : CN F (n + 2) f_law_tree_text [.ref a, .int m] h Q E := by
  refine CN_go hF rfl ?_
  unfold d_law_tree_text
  walk_at "e"
  walk_at "w"
  refine draw_ok (n := n) hD hp (by decide) (by decide) fun k0 h1 b0 b1 pn1 e1 => ?_
  unfold c_law_tree_text_11
  walk_at "w"
  refine draw_ok (n := n) hD pn1 (by decide) (by decide) fun lf h2 l0 l1 pn2 e2 => ?_
  unfold c_law_tree_text_10
  walk_at "w"
  unfold c_law_tree_text_9
  walk_at "w"
  intro p hpn
  have pa : p ≠ a := pn2.ne hpn
  unfold c_law_tree_text_8
  walk_at "w"
  have z1 : ∀ c : Nat, (⟨#[c]⟩ : Str).length = 1 := fun _ => rfl
  refine whl_inv (fun ρ h Q Q' k w => moT F (n + 1) _ ρ h Q Q' _ k w) (moS F (n + 1) _) (fun j ρ h' => ∃ (S : List Hi) (T : Str) (ky : Int) (u v : Option Val), j = (S.map Hi.w).sum ∧ (∀ x ∈ S, x.ok) ∧ PyData.strOk T = true ∧ T.length + 66 * j ≤ 16170 ∧ -1000 ≤ ky ∧ ky + 6 * j ≤ 3000 ∧ PenAt h' a ∧ h' p = some (.lst (S.map Hi.v)) ∧ ρ = [some (.ref a), some (.int m), some (.int ky), some (.int lf), some (.str T), some (.ref p), u, v]) (m := 4 * m + 1) ?_ ?_
  · intro j ρ h' ⟨S, T, ky, u, v, ej, oS, oT, lT, ky0, ky1, pn, hv, eρ⟩
    subst eρ
    unfold t_law_tree_text_1
    walk_at "w"
    rw [w_neOk hv (okVs_of fun x m => by obtain ⟨y, hy, rfl⟩ := List.mem_map.mp m; exact (Hi.okV (oS y hy)).1) (dpVs_of fun x m => by obtain ⟨y, hy, rfl⟩ := List.mem_map.mp m; exact (Hi.okV (oS y hy)).2)]
    rcases S.eq_nil_or_concat with rfl | ⟨S', x, rfl⟩
    · walk_at "w"
      unfold c_law_tree_text_7
      walk_at "w"
      unfold c_law_tree_text_6
      walk_at "w"
      exact k _ _ ⟨oT, by omega⟩ (PenAt.er pa pn)
    · rw [List.concat_eq_append] at *
      have ne : ¬ ((S' ++ [x]).map Hi.v = []) := by simp
      have sl := hi_pos (S' ++ [x])
      rw [List.map_append, List.sum_append, List.map_singleton, List.sum_singleton] at ej
      rw [List.length_append, List.length_singleton, List.map_append, List.sum_append, List.map_singleton, List.sum_singleton] at sl
      walk_at "w"
      rw [if_pos ne]
      unfold b_law_tree_text_1
      walk_at "w"
      rw [w_pop hv (show ((S' ++ [x]).map Hi.v)[((S' ++ [x]).map Hi.v).length - 1]? = some x.v by simp), List.map_append, List.map_singleton, List.dropLast_concat]
      have ox := oS x (by simp)
      have oS' : ∀ y ∈ S', y.ok := fun y m => oS y (by simp [m])
      have pn3 := PenAt.up (c := .lst (S'.map Hi.v)) pa pn
      have hv3 : up h' p (.lst (S'.map Hi.v)) p = some (.lst (S'.map Hi.v)) := up_same
      generalize up h' p (.lst (S'.map Hi.v)) = h3 at *
      unfold c_law_tree_text_5
      cases x with
      | st x =>
        simp only [Hi.v]
        walk_at "w"
        have ox2 := ox.2
        simp only [Hi.w] at ej
        refine ⟨by omega, _, ?_, S', _, _, _, _, rfl, oS', okS_add oT ox.1, ?_, ky0, ?_, pn3, hv3, rfl⟩
        · omega
        · rw [len_add]; omega
        · omega
      | it z =>
        simp only [Hi.v]
        walk_at "w"
        obtain ⟨oz0, oz1⟩ : -1 ≤ z ∧ z ≤ 61 := ox
        simp only [Hi.w] at ej sl
        by_cases z0 : z = 0
        · rw [if_pos z0]
          refine ⟨by rw [z1]; omega, _, ?_, S', _, _, _, _, rfl, oS', okS_add oT (by decide +kernel), ?_, ky0, ?_, pn3, hv3, rfl⟩
          · omega
          · rw [len_add, z1]; omega
          · omega
        rw [if_neg z0]
        by_cases zn : z < 0
        · rw [if_pos zn]
          refine draw_ok (n := n) hD pn3 (by decide) (by decide) fun r h4 r0 r1 pn4 e4 => ?_
          walk_at "w"
          unfold c_law_tree_text_1
          walk_at "w"
          have sm : sm60 (ky + 1 + r) := by
            have : (ky + 1 + r).natAbs ≤ 5000 := by omega
            exact Nat.lt_of_le_of_lt this (by decide)
          have sl2 := strI_len' sm
          refine ⟨by rw [z1]; omega, sm60_log sm, by rw [len_add, z1]; omega, by rw [len_add, len_add, z1]; omega, _, ?_, S', _, _, _, _, rfl, oS', okS_add (okS_add (okS_add oT (by decide +kernel)) (okS_I _)) (by decide +kernel), ?_, ?_, ?_, pn4, (e4 p pa).trans hv3, rfl⟩
          · omega
          · simp only [len_add, z1]; omega
          · omega
          · omega
        rw [if_neg zn]
        walk_at "w"
        refine pick l0 l1 fun v hv' => ?_
        obtain ⟨left, rfl, f0, f1⟩ : ∃ left : Int, v = .int left ∧ 0 ≤ left ∧ left ≤ z - 1 := by
          simp only [List.mem_cons, List.not_mem_nil, or_false] at hv'
          rcases hv' with e | e | e | e | e
          · exact ⟨_, e, by omega, by omega⟩
          · exact ⟨_, e, by omega, by omega⟩
          · exact ⟨_, e, by omega, by omega⟩
          · exact ⟨_, e, by omega, by omega⟩
          · exact ⟨_, e, by omega, by omega⟩
        have J : ∀ (left : Int) (h4 : Hq), 0 ≤ left → left ≤ z - 1 → PenAt h4 a → h4 p = some (.lst (S'.map Hi.v)) → wpSs (CN F (n + 1)) c_law_tree_text_3 (⟨fun ρ' h' => ∃ m' : Nat, m' < j ∧ ∃ (S : List Hi) (T : Str) (ky : Int) (u v : Option Val), m' = (List.map Hi.w S).sum ∧ (∀ (x : Hi), x ∈ S → x.ok) ∧ PyData.strOk T = true ∧ T.length + 66 * m' ≤ 16170 ∧ -1000 ≤ ky ∧ ky + 6 * (m' : Int) ≤ 3000 ∧ PenAt h' a ∧ h' p = some (Cell.lst (List.map Hi.v S)) ∧ ρ' = [some (Val.ref a), some (Val.int ↑m), some (Val.int ky), some (Val.int lf), some (Val.str T), some (Val.ref p), u, v], Q, fun x x_1 h' => E x h'⟩ : Dn)
            [some (.ref a), some (.int m), some (.int ky), some (.int lf), some (.str T), some (.ref p), some (.int z), some (.int left)] h4 := by
          intro left h4 f0 f1 pn4 hv4
          unfold c_law_tree_text_3
          walk_at "w"
          refine ⟨by rw [z1]; omega, ?_⟩
          unfold c_law_tree_text_2
          walk_at "w"
          rw [w_extend hv4 (lv_fl _ _)]
          refine ⟨by simp only [List.length_map, List.length_cons, List.length_nil] at sl ⊢; omega, ?_⟩
          refine ⟨_, ?_, S' ++ [.st ⟨#[41]⟩, .it (z - 1 - left), .it (-1), .it left], _, ky, _, _, rfl, fun x m => ?_, okS_add oT (by decide +kernel), ?_, ky0, ?_, PenAt.up pa pn4, ?_, rfl⟩
          · simp only [List.map_append, List.sum_append, List.map_cons, List.map_nil, List.sum_cons, List.sum_nil, Hi.w]; omega
          · rcases List.mem_append.mp m with m | m
            · exact oS' x m
            · simp only [List.mem_cons, List.not_mem_nil, or_false] at m
              rcases m with rfl | rfl | rfl | rfl
              · exact ⟨by decide +kernel, by decide⟩
              · exact ⟨by omega, by omega⟩
              · exact ⟨by omega, by omega⟩
              · exact ⟨by omega, by omega⟩
          · rw [len_add, z1]; simp only [List.map_append, List.sum_append, List.map_cons, List.map_nil, List.sum_cons, List.sum_nil, Hi.w]; omega
          · simp only [List.map_append, List.sum_append, List.map_cons, List.map_nil, List.sum_cons, List.sum_nil, Hi.w]; omega
          · rw [up_same, List.map_append]; rfl
        unfold c_law_tree_text_4
        walk_at "w"
        split
        · refine draw_ok (n := n) hD pn3 (by omega) (by omega) fun r h4 r0 r1 pn4 e4 => ?_
          walk_at "w"
          exact J r h4 r0 (by omega) pn4 ((e4 p pa).trans hv3)
        · exact J left h3 f0 f1 pn3 hv3
  · refine ⟨[.it m], ⟨#[]⟩, _, none, none, by simp [Hi.w], fun x m => by rw [List.mem_singleton.mp m]; exact ⟨by omega, by omega⟩, by decide +kernel, ?_, ?_, ?_, PenAt.up pa pn2, up_same, rfl⟩ <;> (try (show 0 + _ ≤ _)) <;> omega
end
section
variable {F : Fs}
theorem law_gen (S : Has48 F) (hPen : F f_law_pen_L = some d_law_pen_L) (hD : F f_law_draw = some d_law_draw) (hW : F f_law_word = some d_law_word) (hB : F f_law_bent = some d_law_bent) (hTt : F f_law_tree_text = some d_law_tree_text) (hLt : F f_law_layout_text = some d_law_layout_text) (hF : F f_law = some d_law)
    (n : Nat) (ns : List Int) (h : Hq) : CN F (n + 95) f_law [.sc ns] h (fun v _ => v = .bl true) (fun _ _ => False) := by
  refine CN_go hF rfl ?_
  unfold d_law
  walk_at "e"
  walk_at "w"
  rw [show intsFrom 0 8 = (List.range 8).map fun i : Nat => Val.int (0 + (i : Int)) from rfl]
  refine for_map (moS F (n + 94) b_law_2) (fun pre ρ h' => ∃ (u1 u2 u3 u4 u5 u6 : Option Val), ρ = [some (.sc ns), u1, u2, u3, u4, u5, u6, none]) (fun i : Nat => Val.int (0 + (i : Int))) (List.range 8) ?_ ?_ ?_
  · intro pre y post ρ h1 ey ⟨u1, u2, u3, u4, u5, u6, eρ⟩
    subst eρ
    refine ⟨by first | trivial | rfl, _, rfl, ?_⟩
    unfold b_law_2
    simp only [List.set]
    walk_at "w"
    have ly := congrArg List.length ey
    have y8 : y < 8 := List.mem_range.mp (by rw [ey]; simp)
    refine pen_ok (n := n + 93) hPen (by omega) (by omega) fun a h2 ha pn2 e2 => ?_
    unfold c_law_7
    walk_at "w"
    refine draw_ok (n := n + 93) hD pn2 (by decide) (by decide) fun m h3 m0 m1 pn3 e3 => ?_
    obtain ⟨m, rfl⟩ := Int.eq_ofNat_of_zero_le m0
    unfold c_law_6
    walk_at "w"
    refine tree_text_ok (n := n + 92) hTt hD pn3 (by omega) fun s1 h4 t1 pn4 => ?_
    walk_at "w"
    refine layout_text_ok (n := n + 92) hLt hD pn4 (by omega) fun s2 h5 t2 pn5 => ?_
    walk_at "w"
    refine draw_ok (n := n + 93) hD pn5 (by decide) (by decide) fun r h6 r0 r1 pn6 e6 => ?_
    rw [w_idxF]
    refine pick r0 r1 fun v hv => ?_
    obtain ⟨s, rfl, ts⟩ : ∃ s, v = .str s ∧ TxO s 16170 := by
      simp only [List.mem_cons, List.not_mem_nil, or_false] at hv
      rcases hv with e | e
      · exact ⟨_, e, t1⟩
      · exact ⟨_, e, t2⟩
    unfold c_law_5
    walk_at "w"
    refine right_ok (n := n + 1) S ts.1 (by have := ts.2; omega) fun h7 g7 => ?_
    have pn7 := pn6.grow g7
    walk_at "w"
    unfold c_law_4
    walk_at "w"
    rw [show intsFrom 0 2 = (List.range 2).map fun i : Nat => Val.int (0 + (i : Int)) from rfl]
    refine for_map (moS F (n + 94) b_law_1) (fun pre ρ h' => ∃ (s : Str) (u5 : Option Val), PenAt h' a ∧ TxO s ([16170, 48810, 146730].getD pre.length 0) ∧ ρ = [some (.sc ns), some (.int (0 + (y : Int))), some (.ref a), some (.int m), some (.str s), u5, u6, none]) (fun i : Nat => Val.int (0 + (i : Int))) (List.range 2) ?_ ?_ ?_
    · intro pre2 y2 post2 ρ h8 ey2 ⟨s, u5, pn8, ts, eρ⟩
      subst eρ
      refine ⟨by first | trivial | rfl, _, rfl, ?_⟩
      unfold b_law_1
      simp only [List.set]
      walk_at "w"
      have ly2 := congrArg List.length ey2
      simp only [List.length_append, List.length_cons, List.length_range] at ly2
      have hp2 : pre2.length = 0 ∨ pre2.length = 1 := by omega
      have tb : [16170, 48810, 146730].getD pre2.length 0 ≤ 48810 ∧ 3 * [16170, 48810, 146730].getD pre2.length 0 + 300 = [16170, 48810, 146730].getD (pre2.length + 1) 0 := by
        rcases hp2 with e | e <;> rw [e] <;> decide
      refine bent_ok (n := n + 91) hB hW hD pn8 ts (by omega) fun s' h9 ts' pn9 e9 => ?_
      unfold c_law_1
      walk_at "w"
      refine right_ok (n := n + 1) S ts'.1 (by have := ts'.2; omega) fun h10 g10 => ?_
      walk_at "w"
      refine ⟨_, _, pn9.grow g10, ?_, rfl⟩
      rw [List.length_append, List.length_singleton, ← tb.2]
      exact ts'
    · intro ρ h8 ⟨s, u5, pn8, ts, eρ⟩
      subst eρ
      refine ⟨by first | trivial | rfl, ?_⟩
      unfold c_law_3
      walk_at "w"
      refine draw_ok (n := n + 93) hD pn8 (by decide) (by decide) fun r h9 r0 r1 pn9 e9 => ?_
      rw [w_idxF]
      refine pick r0 r1 fun v hv => ?_
      have tv : ∀ h : Hq, ∃ us, tyOf h v = some us ∧ Ty.str ∉ us := by
        intro h
        simp only [List.mem_cons, List.not_mem_nil, or_false] at hv
        rcases hv with e | e | e | e | e | e | e | e <;> rw [e] <;> exact ⟨_, rfl, by decide⟩
      unfold c_law_2
      walk_at "w"
      refine refused_ok (n := n + 93) S (fun {Q E} w => ?_) fun h10 g10 => ?_
      · obtain ⟨us, e, ns⟩ := tv h9
        exact read_tree_ns (n := n + 92) S.rt e ns (w h9 Grow.refl)
      walk_at "w"
      refine refused_ok (n := n + 93) S (fun {Q E} w => ?_) fun h11 g11 => ?_
      · obtain ⟨us, e, ns⟩ := tv h10
        exact read_layout_ns (n := n + 92) S.rl e ns (w h10 Grow.refl)
      walk_at "w"
      exact ⟨_, _, _, _, _, _, rfl⟩
    · exact ⟨_, _, pn7, ts, rfl⟩
  · intro ρ h1 ⟨u1, u2, u3, u4, u5, u6, eρ⟩
    subst eρ
    refine ⟨by first | trivial | rfl, ?_⟩
    unfold c_law_9
    walk_at "w"
    refine ⟨by decide, ?_⟩
    change prW (mthR .sjoin (.str ⟨#[124]⟩) [.fl ((List.replicate 60 (⟨#[49]⟩ : Str)).map .str)] h1) _
    rw [w_join]
    refine ⟨by decide, ?_⟩
    have ok1 : ∀ w ∈ List.replicate 60 (⟨#[49]⟩ : Str), PyData.strOk w = true := fun w hw => by rw [List.eq_of_mem_replicate hw]; decide +kernel
    have ok7 : ∀ w ∈ List.replicate 61 (⟨#[55]⟩ : Str), PyData.strOk w = true := fun w hw => by rw [List.eq_of_mem_replicate hw]; decide +kernel
    have t1 : TxO (Txt.join ⟨#[124]⟩ (List.replicate 60 (⟨#[49]⟩ : Str))) 120 := tx_join (by decide) ok1 (by decide)
    have t7 : TxO (Txt.join ⟨#[32]⟩ (List.replicate 61 (⟨#[55]⟩ : Str))) 122 := tx_join (by decide) ok7 (by decide)
    generalize Txt.join ⟨#[124]⟩ (List.replicate 60 (⟨#[49]⟩ : Str)) = great at *
    unfold c_law_8
    walk_at "w"
    have l1 := t1.2
    refine right_ok (n := n + 1) S t1.1 (by omega) fun h2 g2 => ?_
    walk_at "w"
    have t2 : TxO (great ++ (⟨#[124, 49]⟩ : Str)) 122 := tx_add t1 (show TxO (⟨#[124, 49]⟩ : Str) 2 from ⟨by decide +kernel, by decide⟩)
    have l2 := t2.2
    have z2 : (⟨#[124, 49]⟩ : Str).length = 2 := rfl
    refine ⟨by rw [z2]; omega, ?_⟩
    refine right_ok (n := n + 1) S t2.1 (by omega) fun h3 g3 => ?_
    walk_at "w"
    refine ⟨by decide, ?_⟩
    change prW (mthR .sjoin (.str ⟨#[32]⟩) [.fl ((List.replicate 61 (⟨#[55]⟩ : Str)).map .str)] h3) _
    rw [w_join]
    refine ⟨by decide, ?_⟩
    have l7 := t7.2
    refine right_ok (n := n + 1) S t7.1 (by omega) fun h4 g4 => ?_
    walk_at "w"
    rw [w_mulS]
    refine ⟨by decide, ?_⟩
    have t9 : TxO (repS (⟨#[124]⟩ : Str) (60 : Int).toNat) 60 := ⟨by decide +kernel, by decide⟩
    have l9 := t9.2
    exact right_ok (n := n + 1) S t9.1 (by omega) fun h5 g5 => rfl
  · exact ⟨_, _, _, _, _, _, rfl⟩
end
theorem law_ok (ns : List Int) (h : Hq) (hn : ns.length ≤ 63) (h0 : ∀ a, h a = none) : CN (FOf defs) 110 f_law [.sc ns] h (fun v _ => v = .bl true) (fun _ _ => False) :=
  law_gen ⟨rfl, rfl, rfl, rfl, rfl, rfl, rfl, rfl, rfl, rfl, rfl, rfl, rfl, rfl, rfl, rfl, rfl, rfl, rfl⟩ rfl rfl rfl rfl rfl rfl rfl 15 ns h
end L3
open PySem PySem.W PySem.Calls PyProof.Rows
set_option maxHeartbeats 0 in
set_option maxRecDepth 100000 in
theorem PySem.Challenge.cw_leafpages_k48_texts_refused_holds : PySem.Challenge.rw_leafpages_k48_texts_refused.Holds := by
  w_on; o_law
  refine HandSHeadRun.head_any (r := OpenLaw.row PySem.Challenge.rw_leafpages_k48_texts_refused) (q := view (OpenLaw.row PySem.Challenge.rw_leafpages_k48_texts_refused).prog [42]) (H := L3.hk) (ob := L3.ob) (M := 4000) (loose := L3.loose) (d := HandSHeadRun.topDef (OpenLaw.row PySem.Challenge.rw_leafpages_k48_texts_refused).prog 42) (kwd := []) L3.ob_eq
    (by kernel_rfl) (fun s => by kernel_rfl) L3.run (by kernel_rfl) (by kernel_rfl) (by kernel_rfl) (by rfl) (by first | assumption | decide +kernel) (by decide +kernel) ⟨rfl, rfl, rfl, rfl, rfl, by decide +kernel⟩ ?hw ?hc
  case hw => w_witness2
  case hc => exact L3.law_walkZ (exs := L3.exs3) (tabs := L3.tabs3) (atts := L3.atts3) (l := PySem.Challenge.rw_leafpages_k48_texts_refused) (m := 4) (L := L3.defs) (cs := L3.cons3) (n := 110) (id := L3.f_law) (dl := L3.D_law) rfl (by kernel_rfl) ⟨rfl, by decide, by decide⟩ (by kernel_rfl) rfl rfl rfl rfl rfl L3.okAll L3.binds L3.same3 (by decide +kernel) (by kernel_rfl) (by kernel_rfl) (by kernel_rfl) L3.law_ok
