import PyProof.Rows.All
import Wide.All
import OpenK.AllK
import Wide.FinOn
import HandS.ForMost
import HandS.Lambda
import KE.KDflt
import HandS.TupMul
import HandS.FStr
import HandS.Flow
import HandS.Wide
import HandS.Zip
import HandS.StrMore
import HandS.ForExc
import HandS.IsInst
import HandS.Style
import HandS.Deep
import HandS.RaiseMore
import HandS.Property
import PyProof.StrBlock2
import HandS.Defaults
import HandS.Head0
import HandS.Head1
import HandS.Head2
import HandS.HeadEnd
import HandS.HeadHook1
import HandS.HeadHook2
import HandS.WordsExc
import HandS.ExcInit
import KE.KExcSuper
import HandS.More
import HandS.Star
import KE.GoesEnum
import HandS.Iter
import HandS.HotCalls
import KE.KTryMore
import HandS.ExcField
import HandS.HeadHook4
import HandS.HeadWalk
import KE.LtData
import HandS.Replace
import HandS.OwnEq
import PyProof.EqKinds
import HandS.MakeKwOnly
import HandS.ClsMeth
import KE.GoesMore
import HandS.MakeKw
import PySem.Challenge.RW_roundswap_k12_towns_that_are_made
set_option Elab.async false
set_option linter.all false
set_option maxRecDepth 100000
set_option maxHeartbeats 4000000
/-! DL: readings over deep data. D: data; Mp: the objects that may change; F: the frozen heap. -/
namespace DL
open PySem PySem.Spec PyProof.Rows L2
/-- a function object that stands at f -/
def FunO (f : Addr) (o : Obj) : HO := .ext fun h => h.get? f = some o
/-- a lambda of a def: its qualified name, its text, its cells, the default of its one parameter -/
structure LamD where
  q : Str
  params : Arguments
  body : Expr
  scope : Scope
  cl : List (Str × Addr)
  dfl : Option Int
  deriving Inhabited
def DflAt (F : Hp) (dV : Value) : Option Int → Prop
  | none => dV = .none
  | some i => ∃ t, dV = .ref t ∧ F t = some (.tup [.int i])
abbrev lamO (l : LamD) (dV doc pm : Value) (c' : Addr) (ctv : Value) : Obj := PySem.W.kdv_obj "<lambda>" l.q l.params (.expr l.body) l.scope l.cl dV doc pm c' ctv
def LamAt (F : Hp) (f : Addr) (l : LamD) : Prop := ∃ (dV doc pm : Value) (c' : Addr) (ctv : Value), F f = some (FunO f (lamO l dV doc pm c' ctv)) ∧ F c' = some (LamX.CodeO c' l.q) ∧ DflAt F dV l.dfl
theorem LamAt.mono {F F' : Hp} (e : Same F F') {f : Addr} {l : LamD} (h : LamAt F f l) : LamAt F' f l := by
  obtain ⟨dV, doc, pm, c', ctv, h1, h2, h3⟩ := h
  refine ⟨dV, doc, pm, c', ctv, e _ _ h1, e _ _ h2, ?_⟩
  cases q : l.dfl with
  | none => rw [q] at h3; exact h3
  | some i => rw [q] at h3; obtain ⟨t, a, b⟩ := h3; exact ⟨t, a, e _ _ b⟩
inductive D where
  | non
  | bl (b : Bool)
  | int (i : Int)
  | str (x : Str)
  | lst (xs : List D)
  | lsx (xs : List D)
  | tup (xs : List D)
  | ptr (a : Addr)
  | ty (n : String)
  | obj (C : Addr) (fs : List (Str × D))
  | fn (l : LamD)
  deriving Inhabited
mutual
def Rep (K : PySem.W.Frag) (F : Hp) : D → V → Prop
  | .non, v => v = .non
  | .bl b, v => v = .bl b
  | .int i, v => v = .int i
  | .str x, v => v = .str x
  | .lst ds, v => ∃ a vs, v = .ref a ∧ F a = some (.lst vs) ∧ Reps K F ds vs
  | .lsx ds, v => ∃ a vs, v = .ref a ∧ SqL K F a vs ∧ Reps K F ds vs
  | .tup ds, v => ∃ a vs, v = .ref a ∧ SqT K F a vs ∧ Reps K F ds vs
  | .ptr a, v => v = .ref a
  | .ty n, v => v = .ty n
  | .obj C fs, v => ∃ a dx vs, v = .ref a ∧ F a = some (.ins C dx vs) ∧ RepF K F fs vs
  | .fn l, v => ∃ f, v = .ref f ∧ LamAt F f l
def Reps (K : PySem.W.Frag) (F : Hp) : List D → List V → Prop
  | [], vs => vs = []
  | d :: ds, vs => ∃ v r, vs = v :: r ∧ Rep K F d v ∧ Reps K F ds r
def RepF (K : PySem.W.Frag) (F : Hp) : List (Str × D) → List (Str × V) → Prop
  | [], vs => vs = []
  | p :: ds, vs => ∃ v r, vs = v :: r ∧ RepP K F p v ∧ RepF K F ds r
def RepP (K : PySem.W.Frag) (F : Hp) : Str × D → Str × V → Prop
  | (n, d), v => v.1 = n ∧ Rep K F d v.2
end
theorem sameT {K : PySem.W.Frag} {H H' : Hp} {a : Addr} {xs : List V} (e : Same H H') (h : SqT K H a xs) : SqT K H' a xs := by
  rcases h with (h | ⟨o, h⟩) | h
  · exact .inl (.inl (e _ _ h))
  · exact .inl (.inr ⟨o, e _ _ h⟩)
  · exact .inr h
section
variable {K : PySem.W.Frag} {F F' H H' H1 : Hp}
mutual
theorem Rep.mono (e : Same F F') : ∀ (d : D) (v : V), Rep K F d v → Rep K F' d v
  | .non, _, h => by rw [Rep] at *; exact h
  | .bl _, _, h => by rw [Rep] at *; exact h
  | .int _, _, h => by rw [Rep] at *; exact h
  | .str _, _, h => by rw [Rep] at *; exact h
  | .ptr _, _, h => by rw [Rep] at *; exact h
  | .ty _, _, h => by rw [Rep] at *; exact h
  | .lst ds, v, h => by
    rw [Rep] at *
    obtain ⟨a, vs, e1, e2, e3⟩ := h
    exact ⟨a, vs, e1, e _ _ e2, Reps.mono e ds vs e3⟩
  | .lsx ds, v, h => by
    rw [Rep] at *
    obtain ⟨a, vs, e1, e2, e3⟩ := h
    exact ⟨a, vs, e1, e.seq e2, Reps.mono e ds vs e3⟩
  | .tup ds, v, h => by
    rw [Rep] at *
    obtain ⟨a, vs, e1, e2, e3⟩ := h
    exact ⟨a, vs, e1, sameT e e2, Reps.mono e ds vs e3⟩
  | .obj C fs, v, h => by
    rw [Rep] at *
    obtain ⟨a, dx, vs, e1, e2, e3⟩ := h
    exact ⟨a, dx, vs, e1, e _ _ e2, RepF.mono e fs vs e3⟩
  | .fn l, v, h => by
    rw [Rep] at *
    obtain ⟨f, e1, e2⟩ := h
    exact ⟨f, e1, e2.mono e⟩
theorem Reps.mono (e : Same F F') : ∀ (ds : List D) (vs : List V), Reps K F ds vs → Reps K F' ds vs
  | [], _, h => by rw [Reps] at *; exact h
  | d :: ds, vs, h => by
    rw [Reps] at *
    obtain ⟨v, r, e1, e2, e3⟩ := h
    exact ⟨v, r, e1, Rep.mono e d v e2, Reps.mono e ds r e3⟩
theorem RepF.mono (e : Same F F') : ∀ (ds : List (Str × D)) (vs : List (Str × V)), RepF K F ds vs → RepF K F' ds vs
  | [], _, h => by rw [RepF] at *; exact h
  | p :: ds, vs, h => by
    rw [RepF] at *
    obtain ⟨v, r, e1, e2, e3⟩ := h
    exact ⟨v, r, e1, RepP.mono e p v e2, RepF.mono e ds r e3⟩
theorem RepP.mono (e : Same F F') : ∀ (p : Str × D) (v : Str × V), RepP K F p v → RepP K F' p v
  | (n, d), v, h => by
    rw [RepP] at *
    exact ⟨h.1, Rep.mono e d v.2 h.2⟩
end
theorem Reps.len : ∀ {ds : List D} {vs : List V}, Reps K F ds vs → vs.length = ds.length
  | [], _, h => by rw [Reps] at h; subst h; rfl
  | d :: ds, vs, h => by
    rw [Reps] at h
    obtain ⟨v, r, e1, e2, e3⟩ := h
    subst e1
    simp [Reps.len e3]
theorem Reps.nil : Reps K F [] [] := by rw [Reps]
theorem Reps.cons {d : D} {v : V} {ds : List D} {vs : List V} (a : Rep K F d v) (b : Reps K F ds vs) : Reps K F (d :: ds) (v :: vs) := by rw [Reps]; exact ⟨v, vs, rfl, a, b⟩
theorem Reps.get : ∀ {ds : List D} {vs : List V} {i : Nat} {d : D}, Reps K F ds vs → ds[i]? = some d → ∃ v, vs[i]? = some v ∧ Rep K F d v
  | [], _, _, _, _, e => by simp at e
  | x :: ds, vs, 0, d, h, e => by
    rw [Reps] at h
    obtain ⟨v, r, e1, e2, e3⟩ := h
    simp at e; subst e e1
    exact ⟨v, rfl, e2⟩
  | x :: ds, vs, i + 1, d, h, e => by
    rw [Reps] at h
    obtain ⟨v, r, e1, e2, e3⟩ := h
    subst e1
    obtain ⟨u, q1, q2⟩ := Reps.get (i := i) (d := d) e3 (by simpa using e)
    exact ⟨u, by simpa using q1, q2⟩
theorem Reps.get' {ds : List D} {vs : List V} {i : Nat} {v : V} (h : Reps K F ds vs) (e : vs[i]? = some v) : ∃ d, ds[i]? = some d ∧ Rep K F d v := by
  have hl := h.len
  have hi : i < vs.length := (List.getElem?_eq_some_iff.mp e).1
  obtain ⟨u, q1, q2⟩ := h.get (i := i) (d := ds[i]) (by simp)
  rw [e] at q1; cases q1
  exact ⟨_, by simp, q2⟩
theorem Reps.app : ∀ {ds es : List D} {vs ws : List V}, Reps K F ds vs → Reps K F es ws → Reps K F (ds ++ es) (vs ++ ws)
  | [], es, vs, ws, h, g => by rw [Reps] at h; subst h; exact g
  | d :: ds, es, vs, ws, h, g => by
    rw [Reps] at h
    obtain ⟨v, r, e1, e2, e3⟩ := h
    subst e1
    exact Reps.cons e2 (Reps.app e3 g)
theorem Reps.one {d : D} {v : V} (a : Rep K F d v) : Reps K F [d] [v] := Reps.cons a Reps.nil
theorem Reps.take : ∀ (n : Nat) {ds : List D} {vs : List V}, Reps K F ds vs → Reps K F (ds.take n) (vs.take n)
  | 0, _, _, h => Reps.nil
  | n + 1, [], vs, h => by rw [Reps] at h; subst h; exact Reps.nil
  | n + 1, d :: ds, vs, h => by
    rw [Reps] at h
    obtain ⟨v, r, e1, e2, e3⟩ := h
    subst e1
    exact Reps.cons e2 (Reps.take n e3)
theorem Reps.drop : ∀ (n : Nat) {ds : List D} {vs : List V}, Reps K F ds vs → Reps K F (ds.drop n) (vs.drop n)
  | 0, _, _, h => h
  | n + 1, [], vs, h => by rw [Reps] at h; subst h; exact Reps.nil
  | n + 1, d :: ds, vs, h => by
    rw [Reps] at h
    obtain ⟨v, r, e1, e2, e3⟩ := h
    subst e1
    exact Reps.drop n e3
theorem Reps.set {d : D} {v : V} (a : Rep K F d v) : ∀ (n : Nat) {ds : List D} {vs : List V}, Reps K F ds vs → Reps K F (ds.set n d) (vs.set n v)
  | _, [], vs, h => by rw [Reps] at h; subst h; exact Reps.nil
  | 0, x :: ds, vs, h => by
    rw [Reps] at h
    obtain ⟨v, r, e1, e2, e3⟩ := h
    subst e1
    exact Reps.cons a e3
  | n + 1, x :: ds, vs, h => by
    rw [Reps] at h
    obtain ⟨v, r, e1, e2, e3⟩ := h
    subst e1
    exact Reps.cons e2 (Reps.set a n e3)
theorem Reps.dropLast {ds : List D} {vs : List V} (h : Reps K F ds vs) : Reps K F ds.dropLast vs.dropLast := by
  rw [List.dropLast_eq_take, List.dropLast_eq_take, h.len]; exact h.take _
theorem Reps.reverse : ∀ {ds : List D} {vs : List V}, Reps K F ds vs → Reps K F ds.reverse vs.reverse
  | [], vs, h => by rw [Reps] at h; subst h; exact Reps.nil
  | d :: ds, vs, h => by
    rw [Reps] at h
    obtain ⟨v, r, e1, e2, e3⟩ := h
    subst e1
    rw [List.reverse_cons, List.reverse_cons]
    exact Reps.app (Reps.reverse e3) (Reps.one e2)
theorem Reps.strs : ∀ {ys : List Str} {vs : List V}, Reps K F (ys.map D.str) vs → vs = ys.map V.str
  | [], vs, h => by rw [List.map_nil, Reps] at h; subst h; rfl
  | y :: ys, vs, h => by
    rw [List.map_cons, Reps] at h
    obtain ⟨v, r, e1, e2, e3⟩ := h
    rw [Rep] at e2
    subst e1 e2
    rw [Reps.strs e3]; rfl
theorem Reps.ints : ∀ {ys : List Int} {vs : List V}, Reps K F (ys.map D.int) vs → vs = ys.map V.int
  | [], vs, h => by rw [List.map_nil, Reps] at h; subst h; rfl
  | y :: ys, vs, h => by
    rw [List.map_cons, Reps] at h
    obtain ⟨v, r, e1, e2, e3⟩ := h
    rw [Rep] at e2
    subst e1 e2
    rw [Reps.ints e3]; rfl
theorem Reps.of_strs : ∀ {ys : List Str}, Reps K F (ys.map D.str) (ys.map V.str)
  | [] => Reps.nil
  | y :: ys => Reps.cons (by rw [Rep]) Reps.of_strs
theorem Reps.of_ints : ∀ {ys : List Int}, Reps K F (ys.map D.int) (ys.map V.int)
  | [] => Reps.nil
  | y :: ys => Reps.cons (by rw [Rep]) Reps.of_ints
theorem RepF.look : ∀ {fs : List (Str × D)} {vs : List (Str × V)} {n : Str} {d : D}, RepF K F fs vs → fs.lookup n = some d → ∃ v, vs.lookup n = some v ∧ Rep K F d v
  | [], vs, n, d, h, e => by simp at e
  | (m, x) :: fs, vs, n, d, h, e => by
    rw [RepF] at h
    obtain ⟨v, r, e1, e2, e3⟩ := h
    rw [RepP] at e2
    obtain ⟨e2, e4⟩ := e2
    subst e1
    obtain ⟨m', u⟩ := v
    simp only at e2 e4
    subst e2
    rw [List.lookup_cons] at e ⊢
    cases q : n == m' with
    | true => rw [q] at e; simp at e; subst e; exact ⟨u, rfl, e4⟩
    | false => rw [q] at e; exact RepF.look e3 e
theorem RepF.look0 : ∀ {fs : List (Str × D)} {vs : List (Str × V)} {n : Str}, RepF K F fs vs → fs.lookup n = none → vs.lookup n = none
  | [], vs, n, h, e => by rw [RepF] at h; subst h; rfl
  | (m, x) :: fs, vs, n, h, e => by
    rw [RepF] at h
    obtain ⟨v, r, e1, e2, e3⟩ := h
    rw [RepP] at e2
    obtain ⟨e2, e4⟩ := e2
    subst e1
    obtain ⟨m', u⟩ := v
    simp only at e2 e4
    subst e2
    rw [List.lookup_cons] at e ⊢
    cases q : n == m' with
    | true => rw [q] at e; simp at e
    | false => rw [q] at e; exact RepF.look0 e3 e
theorem RepF.len : ∀ {fs : List (Str × D)} {vs : List (Str × V)}, RepF K F fs vs → vs.length = fs.length
  | [], vs, h => by rw [RepF] at h; subst h; rfl
  | p :: fs, vs, h => by
    rw [RepF] at h
    obtain ⟨v, r, e1, e2, e3⟩ := h
    subst e1
    simp [RepF.len e3]
/-- as putF -/
def putD (f : Str) (v : D) : List (Str × D) → List (Str × D)
  | [] => [(f, v)]
  | (g, x) :: r => if g = f then (g, v) :: r else (g, x) :: putD f v r
theorem RepF.put {f : Str} {d : D} {v : V} (hd : Rep K F d v) : ∀ {fs : List (Str × D)} {vs : List (Str × V)}, RepF K F fs vs → RepF K F (putD f d fs) (putF f v vs)
  | [], vs, h => by
    rw [RepF] at h; subst h
    show RepF K F [(f, d)] [(f, v)]
    rw [RepF]; exact ⟨_, _, rfl, by rw [RepP]; exact ⟨rfl, hd⟩, by rw [RepF]⟩
  | (m, x) :: fs, vs, h => by
    rw [RepF] at h
    obtain ⟨v', r, e1, e2, e3⟩ := h
    rw [RepP] at e2
    obtain ⟨e2, e4⟩ := e2
    subst e1
    obtain ⟨m', u⟩ := v'
    simp only at e2 e4
    subst e2
    unfold putD putF
    by_cases q : m' = f
    · rw [if_pos q, if_pos q]
      rw [RepF]; exact ⟨_, _, rfl, by rw [RepP]; exact ⟨rfl, hd⟩, e3⟩
    · rw [if_neg q, if_neg q]
      rw [RepF]; exact ⟨_, _, rfl, by rw [RepP]; exact ⟨rfl, e4⟩, RepF.put hd e3⟩
/-! ### objects that may change -/
inductive MO where
  | lst (xs : List D)
  | ins (C : Addr) (fs : List (Str × D))
  | tab (q : Str)
  deriving Inhabited
abbrev Mp := Addr → Option MO
def RepM (K : PySem.W.Frag) (F : Hp) : MO → HO → Prop
  | .lst ds, o => ∃ vs, o = .lst vs ∧ Reps K F ds vs
  | .ins C fs, o => ∃ dx vs, o = .ins C dx vs ∧ RepF K F fs vs
  | .tab q, o => ∃ ps : Array Value, o = .tbl ps ∧ TriplesOk ps.toList ∧ ∀ (pos : Pos) (cv : Value), codeAmong pos ps.toList = some cv → ∃ c, cv = .ref c ∧ F c = some (LamX.CodeO c q)
theorem RepM.mono (e : Same F F') {mo : MO} {o : HO} (h : RepM K F mo o) : RepM K F' mo o := by
  cases mo with
  | lst ds => obtain ⟨vs, e1, e2⟩ := h; exact ⟨vs, e1, e2.mono e⟩
  | ins C fs => obtain ⟨dx, vs, e1, e2⟩ := h; exact ⟨dx, vs, e1, e2.mono e⟩
  | tab q => obtain ⟨ps, e1, e2, e3⟩ := h; exact ⟨ps, e1, e2, fun pos cv z => let ⟨c, a, b⟩ := e3 pos cv z; ⟨c, a, e _ _ b⟩⟩
def up (M : Mp) (a : Addr) (o : MO) : Mp := fun b => if b = a then some o else M b
def rm (M : Mp) (a : Addr) : Mp := fun b => if b = a then none else M b
@[simp] theorem up_same {M : Mp} {a : Addr} {o : MO} : up M a o a = some o := by simp [up]
theorem up_ne {M : Mp} {a b : Addr} {o : MO} (h : b ≠ a) : up M a o b = M b := by simp [up, h]
@[simp] theorem up_up {M : Mp} {a : Addr} {o o' : MO} : up (up M a o) a o' = up M a o' := by
  funext b; unfold up; split <;> rfl
theorem up_comm {M : Mp} {a b : Addr} {o o' : MO} (h : a ≠ b) : up (up M a o) b o' = up (up M b o') a o := by
  funext c; unfold up
  by_cases e1 : c = a
  · subst e1; simp [h]
  · simp [e1]
@[simp] theorem rm_up {M : Mp} {a : Addr} {o : MO} : rm (up M a o) a = rm M a := by
  funext b
  by_cases e : b = a
  · simp [rm, e]
  · simp [rm, up, e]
theorem rm_of {M : Mp} {a : Addr} (h : M a = none) : rm M a = M := by
  funext b
  by_cases e : b = a
  · subst e; simp [rm, h]
  · simp [rm, e]
theorem up_id {M : Mp} {a : Addr} {o : MO} (h : M a = some o) : up M a o = M := by
  funext b
  by_cases e : b = a
  · subst e; rw [up_same, h]
  · rw [up_ne e]
structure CoreP (K : PySem.W.Frag) (F H : Hp) (M : Mp) : Prop where
  same : Same F H
  mem : ∀ a mo, M a = some mo → F a = none ∧ ∃ o, H a = some o ∧ RepM K F mo o
/-- what stands outside M stays -/
def Fr (F H : Hp) (M : Mp) (F' H' : Hp) (M' : Mp) : Prop := ∀ a o, H a = some o → M a = none → H' a = some o ∧ M' a = none ∧ (F a = none → F' a = none)
theorem Fr.refl {M : Mp} : Fr F H M F H M := fun _ _ a b => ⟨a, b, fun z => z⟩
theorem Fr.trans {F1 : Hp} {M M1 M2 : Mp} (a : Fr F H M F1 H1 M1) (b : Fr F1 H1 M1 F' H' M2) : Fr F H M F' H' M2 := fun c o e n =>
  let ⟨e1, n1, g1⟩ := a c o e n
  let ⟨e2, n2, g2⟩ := b c o e1 n1
  ⟨e2, n2, fun z => g2 (g1 z)⟩
theorem CoreP.fr {M M' : Mp} (c : CoreP K F H M) (f : Fr F H M F' H' M') : Same F H' := fun a o e => by
  cases q : M a with
  | none => exact (f a o (c.same a o e) q).1
  | some mo => rw [(c.mem a mo q).1] at e; cases e
theorem CoreP.nones {M : Mp} (c : CoreP K F H M) {p : Addr} (h : H p = none) : F p = none ∧ M p = none := by
  refine ⟨c.same.free h, ?_⟩
  cases q : M p with
  | none => rfl
  | some mo => obtain ⟨_, o, e, _⟩ := c.mem p mo q; rw [h] at e; cases e
/-- a new frozen object -/
theorem CoreP.new {M : Mp} (c : CoreP K F H M) {p : Addr} (h : H p = none) (o : HO) : CoreP K (upd F p o) (upd H p o) M ∧ Same F (upd F p o) ∧ Fr F H M (upd F p o) (upd H p o) M := by
  obtain ⟨n1, n2⟩ := c.nones h
  have s1 : Same F (upd F p o) := fun b u e => by rw [upd_ne (ne_of_none e n1)]; exact e
  refine ⟨⟨fun b u e => ?_, fun a mo e => ?_⟩, s1, fun b u e n => ⟨by rw [upd_ne (ne_of_none e h)]; exact e, n, fun z => by rw [upd_ne (ne_of_none e h)]; exact z⟩⟩
  · by_cases hb : b = p
    · subst hb; rw [upd_same] at e ⊢; exact e
    · rw [upd_ne hb] at e ⊢; exact c.same b u e
  · obtain ⟨f0, u, e1, r⟩ := c.mem a mo e
    have na : a ≠ p := fun z => by rw [z, n2] at e; cases e
    refine ⟨by rw [upd_ne na]; exact f0, u, by rw [upd_ne na]; exact e1, r.mono s1⟩
/-- a new object that may change -/
theorem CoreP.newM {M : Mp} (c : CoreP K F H M) {p : Addr} (h : H p = none) {o : HO} {mo : MO} (r : RepM K F mo o) : CoreP K F (upd H p o) (up M p mo) ∧ Fr F H M F (upd H p o) (up M p mo) := by
  obtain ⟨n1, n2⟩ := c.nones h
  refine ⟨⟨fun b u e => by rw [upd_ne (ne_of_none e n1)]; exact c.same b u e, fun a mo' e => ?_⟩, fun b u e n => ⟨by rw [upd_ne (ne_of_none e h)]; exact e, by rw [up_ne (ne_of_none e h)]; exact n, fun z => z⟩⟩
  by_cases ha : a = p
  · subst ha
    rw [up_same] at e; cases e
    exact ⟨n1, o, upd_same, r⟩
  · rw [up_ne ha] at e
    obtain ⟨f0, u, e1, r'⟩ := c.mem a mo' e
    exact ⟨f0, u, by rw [upd_ne ha]; exact e1, r'⟩
/-- an object of M is written -/
theorem CoreP.write {M : Mp} (c : CoreP K F H M) {p : Addr} {mo0 mo : MO} (h : M p = some mo0) {o : HO} (r : RepM K F mo o) : CoreP K F (upd H p o) (up M p mo) ∧ Fr F H M F (upd H p o) (up M p mo) := by
  obtain ⟨n1, u0, h1, r0⟩ := c.mem p mo0 h
  refine ⟨⟨fun b u e => by rw [upd_ne (ne_of_none e n1)]; exact c.same b u e, fun a mo' e => ?_⟩, fun b u e n => ?_⟩
  · by_cases ha : a = p
    · subst ha
      rw [up_same] at e; cases e
      exact ⟨n1, o, upd_same, r⟩
    · rw [up_ne ha] at e
      obtain ⟨f0, u, e1, r'⟩ := c.mem a mo' e
      exact ⟨f0, u, by rw [upd_ne ha]; exact e1, r'⟩
  · have hb : b ≠ p := fun z => by rw [z, h] at n; cases n
    exact ⟨by rw [upd_ne hb]; exact e, by rw [up_ne hb]; exact n, fun z => z⟩
/-- an object of M is frozen -/
theorem CoreP.freeze {M : Mp} (c : CoreP K F H M) {p : Addr} {mo : MO} (h : M p = some mo) : ∃ o, RepM K F mo o ∧ CoreP K (upd F p o) H (rm M p) ∧ Same F (upd F p o) ∧ Fr F H M (upd F p o) H (rm M p) := by
  obtain ⟨n1, o, h1, r⟩ := c.mem p mo h
  have s1 : Same F (upd F p o) := fun b u e => by rw [upd_ne (ne_of_none e n1)]; exact e
  refine ⟨o, r, ⟨fun b u e => ?_, fun a mo' e => ?_⟩, s1, fun b u e n => ⟨e, ?_, fun z => by rw [upd_ne (fun w => by rw [w, h] at n; cases n)]; exact z⟩⟩
  · by_cases hb : b = p
    · subst hb; rw [upd_same] at e; cases e; exact h1
    · rw [upd_ne hb] at e; exact c.same b u e
  · by_cases ha : a = p
    · subst ha; simp [rm] at e
    · simp [rm, ha] at e
      obtain ⟨f0, u, e1, r'⟩ := c.mem a mo' e
      exact ⟨by rw [upd_ne ha]; exact f0, u, e1, r'.mono s1⟩
  · unfold rm; split
    · rfl
    · exact n
/-- an object of M is forgotten -/
theorem CoreP.drop {M M' : Mp} (c : CoreP K F H M) (h : ∀ a mo, M' a = some mo → M a = some mo) : CoreP K F H M' := ⟨c.same, fun a mo e => c.mem a mo (h a mo e)⟩
/-! ### environments -/
abbrev DSt := List (Option D)
def EnvR (K : PySem.W.Frag) (F : Hp) (σ : L2.St) (env : DSt) : Prop := σ.length = env.length ∧ ∀ (i : Nat) (d : D), env[i]? = some (some d) → ∃ v : V, σ[i]? = some (some v) ∧ Rep K F d v
theorem EnvR.mono (e : Same F F') {σ : L2.St} {env : DSt} (h : EnvR K F σ env) : EnvR K F' σ env := ⟨h.1, fun i d q => let ⟨v, a, b⟩ := h.2 i d q; ⟨v, a, b.mono e⟩⟩
theorem EnvR.set {σ : L2.St} {env : DSt} {d : D} {v : V} (h : EnvR K F σ env) (i : Nat) (r : Rep K F d v) : EnvR K F (σ.set i (some v)) (env.set i (some d)) := by
  refine ⟨by simp [h.1], fun j e q => ?_⟩
  by_cases hj : i = j
  · subst hj
    have hi : i < env.length := by
      have := (List.getElem?_eq_some_iff.mp q).1
      simpa using this
    rw [List.getElem?_set_self hi] at q
    cases q
    exact ⟨v, by rw [List.getElem?_set_self (by rw [h.1]; exact hi)], r⟩
  · rw [List.getElem?_set_ne hj] at q ⊢
    exact h.2 j e q
end
/-- what is kept through a body beside the heaps themselves -/
class GI (K : PySem.W.Frag) where
  p : Hp → Hp → Mp → Prop
  cl : ∀ {F H : Hp} {M : Mp} {F' H' : Hp} {M' : Mp}, p F H M → Same F F' → Fr F H M F' H' M' → p F' H' M'
structure Core (K : PySem.W.Frag) [G : GI K] (F H : Hp) (M : Mp) : Prop extends CoreP K F H M where
  g : G.p F H M
section
variable {K : PySem.W.Frag} {G : GI K} {F H F' H' : Hp} {M M' : Mp}
theorem Core.to (c : Core K F H M) (c' : CoreP K F' H' M') (s : Same F F') (f : Fr F H M F' H' M') : Core K F' H' M' := ⟨c', G.cl c.g s f⟩
theorem Core.fr (c : Core K F H M) (f : Fr F H M F' H' M') : Same F H' := c.toCoreP.fr f
theorem Core.nones (c : Core K F H M) {p : Addr} (h : H p = none) : F p = none ∧ M p = none := c.toCoreP.nones h
/-- a new object that nothing is told of -/
theorem Core.out (c : Core K F H M) {L : Addr} (hL : H L = none) (o : HO) : Core K F (upd H L o) M :=
  c.to ⟨fun b u e => by rw [upd_ne (ne_of_none (c.same b u e) hL)]; exact c.same b u e, fun a mo e => by
    obtain ⟨x1, o, x2, x3⟩ := c.mem a mo e
    exact ⟨x1, o, by rw [upd_ne (ne_of_none x2 hL)]; exact x2, x3⟩⟩ (Same.refl F) fun a o e n => ⟨by rw [upd_ne (ne_of_none e hL)]; exact e, n, fun z => z⟩
theorem Core.new (c : Core K F H M) {p : Addr} (h : H p = none) (o : HO) : Core K (upd F p o) (upd H p o) M ∧ Same F (upd F p o) ∧ Fr F H M (upd F p o) (upd H p o) M :=
  let ⟨c1, s1, f1⟩ := c.toCoreP.new h o
  ⟨c.to c1 s1 f1, s1, f1⟩
theorem Core.newM (c : Core K F H M) {p : Addr} (h : H p = none) {o : HO} {mo : MO} (r : RepM K F mo o) : Core K F (upd H p o) (up M p mo) ∧ Fr F H M F (upd H p o) (up M p mo) :=
  let ⟨c1, f1⟩ := c.toCoreP.newM h r
  ⟨c.to c1 (Same.refl F) f1, f1⟩
theorem Core.write (c : Core K F H M) {p : Addr} {mo0 mo : MO} (h : M p = some mo0) {o : HO} (r : RepM K F mo o) : Core K F (upd H p o) (up M p mo) ∧ Fr F H M F (upd H p o) (up M p mo) :=
  let ⟨c1, f1⟩ := c.toCoreP.write h r
  ⟨c.to c1 (Same.refl F) f1, f1⟩
theorem Core.freeze (c : Core K F H M) {p : Addr} {mo : MO} (h : M p = some mo) : ∃ o, RepM K F mo o ∧ Core K (upd F p o) H (rm M p) ∧ Same F (upd F p o) ∧ Fr F H M (upd F p o) H (rm M p) :=
  let ⟨o, r, c1, s1, f1⟩ := c.toCoreP.freeze h
  ⟨o, r, c.to c1 s1 f1, s1, f1⟩
end
/-! ### readings -/
abbrev DQ := D → Mp → Prop
abbrev DTE := DSt → Mp → DQ → Prop
abbrev DTT := DSt → Mp → (Bool → Mp → Prop) → Prop
abbrev DTA := DSt → Mp → (List D → Mp → Prop) → Prop
structure DEnds where
  nx : DSt → Mp → Prop
  rt : DQ
  bk : DSt → Mp → Prop := fun _ _ => False
  ct : DSt → Mp → Prop := fun _ _ => False
abbrev DTS := DEnds → DSt → Mp → Prop
def Post (K : PySem.W.Frag) [GI K] (F H : Hp) (M : Mp) (Q0 : DQ) (Q : VK) : Prop := ∀ d M' F' H' v, Q0 d M' → Same F F' → Fr F H M F' H' M' → Core K F' H' M' → Rep K F' d v → Q v H'
def PostT (K : PySem.W.Frag) [GI K] (F H : Hp) (M : Mp) (Q0 : Bool → Mp → Prop) (Q : Bool → Hp → Prop) : Prop := ∀ d M' F' H', Q0 d M' → Same F F' → Fr F H M F' H' M' → Core K F' H' M' → Q d H'
def PostA (K : PySem.W.Frag) [GI K] (F H : Hp) (M : Mp) (Q0 : List D → Mp → Prop) (Q : List V → Hp → Prop) : Prop := ∀ ds M' F' H' vs, Q0 ds M' → Same F F' → Fr F H M F' H' M' → Core K F' H' M' → Reps K F' ds vs → Q vs H'
def PostN (K : PySem.W.Frag) [GI K] (F H : Hp) (M : Mp) (Q0 : DSt → Mp → Prop) (Q : L2.St → Hp → Prop) : Prop := ∀ env M' F' H' σ, Q0 env M' → Same F F' → Fr F H M F' H' M' → Core K F' H' M' → EnvR K F' σ env → Q σ H'
structure PostS (K : PySem.W.Frag) [GI K] (F H : Hp) (M : Mp) (D0 : DEnds) (E : Ends) : Prop where
  nx : PostN K F H M D0.nx E.nx
  rt : Post K F H M D0.rt E.rt
  bk : PostN K F H M D0.bk E.bk
  ct : PostN K F H M D0.ct E.ct
section
variable {K : PySem.W.Frag} {G : GI K} {F F1 H H1 : Hp} {M M1 : Mp}
theorem Post.after {Q0 : DQ} {Q : VK} (p : Post K F H M Q0 Q) (s : Same F F1) (f : Fr F H M F1 H1 M1) : Post K F1 H1 M1 Q0 Q := fun d M' F' H' v q s' f' c r => p d M' F' H' v q (s.trans s') (f.trans f') c r
theorem PostT.after {Q0 : Bool → Mp → Prop} {Q : Bool → Hp → Prop} (p : PostT K F H M Q0 Q) (s : Same F F1) (f : Fr F H M F1 H1 M1) : PostT K F1 H1 M1 Q0 Q := fun d M' F' H' q s' f' c => p d M' F' H' q (s.trans s') (f.trans f') c
theorem PostA.after {Q0 : List D → Mp → Prop} {Q : List V → Hp → Prop} (p : PostA K F H M Q0 Q) (s : Same F F1) (f : Fr F H M F1 H1 M1) : PostA K F1 H1 M1 Q0 Q := fun d M' F' H' v q s' f' c r => p d M' F' H' v q (s.trans s') (f.trans f') c r
theorem PostN.after {Q0 : DSt → Mp → Prop} {Q : L2.St → Hp → Prop} (p : PostN K F H M Q0 Q) (s : Same F F1) (f : Fr F H M F1 H1 M1) : PostN K F1 H1 M1 Q0 Q := fun d M' F' H' v q s' f' c r => p d M' F' H' v q (s.trans s') (f.trans f') c r
theorem PostS.after {D0 : DEnds} {E : Ends} (p : PostS K F H M D0 E) (s : Same F F1) (f : Fr F H M F1 H1 M1) : PostS K F1 H1 M1 D0 E := ⟨p.nx.after s f, p.rt.after s f, p.bk.after s f, p.ct.after s f⟩
end
def lE (K : PySem.W.Frag) [GI K] (t : DTE) : TE := fun σ H Q => ∃ F env M Q0, EnvR K F σ env ∧ Core K F H M ∧ t env M Q0 ∧ Post K F H M Q0 Q
def lT (K : PySem.W.Frag) [GI K] (t : DTT) : TT := fun σ H Q => ∃ F env M Q0, EnvR K F σ env ∧ Core K F H M ∧ t env M Q0 ∧ PostT K F H M Q0 Q
def lA (K : PySem.W.Frag) [GI K] (t : DTA) : TA := fun σ H Q => ∃ F env M Q0, EnvR K F σ env ∧ Core K F H M ∧ t env M Q0 ∧ PostA K F H M Q0 Q
def lS (K : PySem.W.Frag) [GI K] (t : DTS) : TS := fun E σ H => ∃ F env M D0, EnvR K F σ env ∧ Core K F H M ∧ t D0 env M ∧ PostS K F H M D0 E
abbrev DE (X : Cx) [GI X.K] (e : Expr) (t : DTE) : Prop := PE X e (lE X.K t)
abbrev DT (X : Cx) [GI X.K] (e : Expr) (t : DTT) : Prop := PT X e (lT X.K t)
abbrev DA (X : Cx) [GI X.K] (e : List Expr) (t : DTA) : Prop := PA X e (lA X.K t)
abbrev DS (X : Cx) [GI X.K] (st : Stmt) (t : DTS) : Prop := PS X st (lS X.K t)
abbrev DSs (X : Cx) [GI X.K] (st : List Stmt) (t : DTS) : Prop := PSs X st (lS X.K t)
theorem PE.imp {X : Cx} {e : Expr} {t t' : TE} (h : PE X e t) (i : ∀ σ H Q, t' σ H Q → t σ H Q) : PE X e t' := ⟨fun pins s σ H Q I q => h.run pins s σ H Q I (i σ H Q q)⟩
theorem PT.imp {X : Cx} {e : Expr} {t t' : TT} (h : PT X e t) (i : ∀ σ H Q, t' σ H Q → t σ H Q) : PT X e t' := ⟨fun pins s σ H Q I q => h.run pins s σ H Q I (i σ H Q q)⟩
theorem PW.imp {X : Cx} {e : Expr} {t t' : TT} (h : PW X e t) (i : ∀ σ H Q, t' σ H Q → t σ H Q) : PW X e t' := ⟨fun wh pins s σ H Q I q => h.run wh pins s σ H Q I (i σ H Q q)⟩
theorem PA.imp {X : Cx} {e : List Expr} {t t' : TA} (h : PA X e t) (i : ∀ σ H Q, t' σ H Q → t σ H Q) : PA X e t' := ⟨fun pos pins s σ H Q I q => h.run pos pins s σ H Q I (i σ H Q q)⟩
theorem PS.imp {X : Cx} {e : Stmt} {t t' : TS} (h : PS X e t) (i : ∀ E σ H, t' E σ H → t E σ H) : PS X e t' := ⟨fun pins s σ H D I q => h.run pins s σ H D I (i D σ H q)⟩
theorem PSs.imp {X : Cx} {e : List Stmt} {t t' : TS} (h : PSs X e t) (i : ∀ E σ H, t' E σ H → t E σ H) : PSs X e t' := ⟨fun pins s σ H D I q => h.run pins s σ H D I (i D σ H q)⟩
/-- a D-level weakening of the same judgement -/
theorem DE.imp {X : Cx} {G : GI X.K} {e : Expr} {t t' : DTE} (h : DE X e t) (i : ∀ env M Q, t' env M Q → t env M Q) : DE X e t' :=
  PE.imp h fun σ H Q ⟨F, env, M, Q0, a, b, c, d⟩ => ⟨F, env, M, Q0, a, b, i _ _ _ c, d⟩
theorem DT.imp {X : Cx} {G : GI X.K} {e : Expr} {t t' : DTT} (h : DT X e t) (i : ∀ env M Q, t' env M Q → t env M Q) : DT X e t' :=
  PT.imp h fun σ H Q ⟨F, env, M, Q0, a, b, c, d⟩ => ⟨F, env, M, Q0, a, b, i _ _ _ c, d⟩
theorem DSs.imp {X : Cx} {G : GI X.K} {e : List Stmt} {t t' : DTS} (h : DSs X e t) (i : ∀ E env M, t' E env M → t E env M) : DSs X e t' :=
  PSs.imp h fun E σ H ⟨F, env, M, D0, a, b, c, d⟩ => ⟨F, env, M, D0, a, b, i _ _ _ c, d⟩
end DL
namespace DL
open PySem PySem.Spec PyProof.Rows L2
section
variable {X : Cx} {GX : GI X.K} {K : PySem.W.Frag} {G : GI K} {a b c e : Expr} {es : List Expr} {ta tb tc : DTE} {pos : Pos}
/-! ### names, constants -/
def dVar (i : Nat) : DTE := fun env M Q => match env[i]? with | some (some d) => Q d M | _ => False
def dC (d : D) : DTE := fun _ M Q => Q d M
theorem de_of {t : TE} {td : DTE} (h : PE X e t) (i : ∀ {F H M env σ Q0 Q}, EnvR X.K F σ env → Core X.K F H M → td env M Q0 → Post X.K F H M Q0 Q → t σ H Q) : DE X e td :=
  PE.imp h fun _ _ _ ⟨_, _, _, _, he, hc, ht, hp⟩ => i he hc ht hp
theorem de_var {i : Nat} (h : PE X e (tVar i)) : DE X e (dVar i) := de_of h fun {F H M env σ Q0 Q} he hc ht hp => by
  unfold dVar at ht
  split at ht
  · rename_i d q
    obtain ⟨v, e1, r⟩ := he.2 i d q
    exact ⟨v, e1, hp d M F H v ht (Same.refl F) Fr.refl hc r⟩
  · exact ht.elim
theorem de_c {v : V} {d : D} (h : PE X e (tC v)) (r : ∀ F, Rep X.K F d v) : DE X e (dC d) := de_of h fun {F H M env σ Q0 Q} he hc ht hp => hp d M F H v ht (Same.refl F) Fr.refl hc (r F)
theorem dv (i : Nat) {x : Str} {pos : Pos} (hN : X.N[i]? = some x := by rfl) (hv : Vis X.env.scope x := by first | exact Or.inl rfl | exact Or.inr (Or.inl rfl) | exact Or.inr (Or.inr rfl)) (hd : (x == ("__debug__" : Str)) = false := by decide)
    (hcd : (x == ("__classdict__" : Str)) = false := by decide) : DE X (.Name x pos) (dVar i) := de_var (pv i hN hv hd hcd)
theorem de_int {i j pos} : DE X (.Constant (.int i) j pos) (dC (.int i)) := de_c pe_int fun F => by rw [Rep]
theorem de_bl {i j pos} : DE X (.Constant (.bool i) j pos) (dC (.bl i)) := de_c pe_bl fun F => by rw [Rep]
theorem de_str {i j pos} : DE X (.Constant (.str i) j pos) (dC (.str i)) := de_c pe_str fun F => by rw [Rep]
theorem de_non {j pos} : DE X (.Constant .none j pos) (dC .non) := de_c pe_non fun F => by rw [Rep]
/-- a module's constant -/
theorem de_glob {x : Str} {v : V} {u : Value} {d : D} {pos : Pos} (hg : Gl X x) (hm : X.mg x = some u) (r : RelV v u) (q : ∀ F, Rep X.K F d v) (hd : (x == ("__debug__" : Str)) = false := by decide) : DE X (.Name x pos) (dC d) := de_c (pe_glob hg hm r hd) q
/-! ### operations by values -/
abbrev D2 := D → D → Mp → DQ → Prop
def LR2 (K : PySem.W.Frag) [GI K] (r : R2) (rd : D2) : Prop := ∀ {F H M d e v w Q0 Q}, Core K F H M → Rep K F d v → Rep K F e w → rd d e M Q0 → Post K F H M Q0 Q → r v w H Q
def dOp (rd : D2) (ta tb : DTE) : DTE := fun env M Q => ta env M fun x M1 => tb env M1 fun y M2 => rd x y M2 Q
theorem lop {r : R2} {rd : D2} (l : LR2 K r rd) : ∀ σ H Q, lE K (dOp rd ta tb) σ H Q → tOp r (lE K ta) (lE K tb) σ H Q := fun σ H Q ⟨F, env, M, Q0, he, hc, ht, hp⟩ =>
  ⟨F, env, M, _, he, hc, ht, fun d M1 F1 H1 v q s1 f1 c1 r1 => ⟨F1, env, M1, _, he.mono s1, c1, q, fun d' M2 F2 H2 v' q2 s2 f2 c2 r2 =>
    l c2 (r1.mono s2) r2 q2 (hp.after (s1.trans s2) (f1.trans f2))⟩⟩
theorem de_op {op : Operator} {r : R2} {rd : D2} (ho : OpR X (binaryOp op) r) (l : LR2 X.K r rd) (ha : DE X a ta) (hb : DE X b tb) : DE X (.BinOp a op b pos) (dOp rd ta tb) := PE.imp (pe_op ho ha hb) (lop l)
theorem de_cmp {op : CmpOp} {r : R2} {rd : D2} (ho : OpR X (compareOp op) r) (l : LR2 X.K r rd) (ha : DE X a ta) (hb : DE X b tb) (hm : behindInMarks op b = false) : DE X (.Compare a [op] [b] pos) (dOp rd ta tb) := PE.imp (pe_cmpR ho ha hb hm) (lop l)
/-- a value that is a bool, as a test -/
def dTB (t : DTE) : DTT := fun env M Q => t env M fun x M' => match x with | .bl k => Q k M' | _ => False
theorem dt_cmp {op : CmpOp} {r : R2} {rd : D2} (ho : OpR X (compareOp op) r) (l : LR2 X.K r rd) (ha : DE X a ta) (hb : DE X b tb) (hm : behindInMarks op b = false) : DT X (.Compare a [op] [b] pos) (dTB (dOp rd ta tb)) :=
  PT.imp (pt_cmpR ho ha hb hm) fun σ H Q ⟨F, env, M, Q0, he, hc, ht, hp⟩ => by
    refine lop l σ H _ ⟨F, env, M, _, he, hc, ht, fun d M1 F1 H1 v q s1 f1 c1 r1 => ?_⟩
    cases d with
    | bl k => rw [Rep] at r1; exact ⟨k, r1, hp k M1 F1 H1 q s1 f1 c1⟩
    | _ => exact False.elim q
/-- as a test: any expression whose value is True or False -/
theorem dt_val (h : DE X e ta) (he : ∀ whole, isTrue e X.env whole = (do let v ← whole; standAt e.pos; holding [v] (truthy v)) := by intro _; rfl) : DT X e (dTB ta) :=
  PT.imp (pt_val h he) fun σ H Q ⟨F, env, M, Q0, he, hc, ht, hp⟩ => by
    refine ⟨F, env, M, _, he, hc, ht, fun d M1 F1 H1 v q s1 f1 c1 r1 => ?_⟩
    cases d with
    | bl k => rw [Rep] at r1; exact ⟨k, r1, hp k M1 F1 H1 q s1 f1 c1⟩
    | _ => exact False.elim q
/-- a list that M or the data hold -/
def lstOf (M : Mp) : D → Option (List D)
  | .lst ds => some ds
  | .lsx ds => some ds
  | .ptr a => match M a with | some (.lst ds) => some ds | _ => none
  | _ => none
def tupOf : D → Option (List D)
  | .tup ds => some ds
  | _ => none
theorem lstOf_ok {F H : Hp} {M : Mp} {d : D} {v : V} {ds : List D} (c : Core K F H M) (r : Rep K F d v) (h : lstOf M d = some ds) : ∃ a vs, v = .ref a ∧ SqL K H a vs ∧ Reps K F ds vs := by
  cases d with
  | lst es =>
    simp [lstOf] at h; subst h
    rw [Rep] at r
    obtain ⟨a, vs, e1, e2, e3⟩ := r
    exact ⟨a, vs, e1, SqL.of (c.same _ _ e2), e3⟩
  | lsx es =>
    simp [lstOf] at h; subst h
    rw [Rep] at r
    obtain ⟨a, vs, e1, e2, e3⟩ := r
    exact ⟨a, vs, e1, c.same.seq e2, e3⟩
  | ptr a =>
    rw [Rep] at r
    simp only [lstOf] at h
    split at h
    · rename_i q
      cases h
      obtain ⟨_, o, ho, rm⟩ := c.mem a _ q
      obtain ⟨vs, e1, e2⟩ := rm
      subst e1
      exact ⟨a, vs, r, SqL.of ho, e2⟩
    · cases h
  | _ => simp [lstOf] at h
theorem tupOf_ok {F H : Hp} {M : Mp} {d : D} {v : V} {ds : List D} (c : Core K F H M) (r : Rep K F d v) (h : tupOf d = some ds) : ∃ a vs, v = .ref a ∧ SqT K H a vs ∧ Reps K F ds vs := by
  cases d with
  | tup es =>
    simp [tupOf] at h; subst h
    rw [Rep] at r
    obtain ⟨a, vs, e1, e2, e3⟩ := r
    exact ⟨a, vs, e1, sameT c.same e2, e3⟩
  | _ => simp [tupOf] at h
theorem Post.lst {F H : Hp} {M : Mp} {Q0 : DQ} {Q : VK} (p : Post K F H M Q0 Q) (c : Core K F H M) {ds : List D} {vs : List V} (r : Reps K F ds vs) (q : Q0 (.lst ds) M) : ∀ x, H x = none → Q (.ref x) (upd H x (.lst vs)) := fun x hx => by
  obtain ⟨c1, s1, f1⟩ := c.new hx (.lst vs)
  exact p _ _ _ _ _ q s1 f1 c1 (by rw [Rep]; exact ⟨x, vs, rfl, upd_same, r.mono s1⟩)
theorem Post.tup {F H : Hp} {M : Mp} {Q0 : DQ} {Q : VK} (p : Post K F H M Q0 Q) (c : Core K F H M) {ds : List D} {vs : List V} (r : Reps K F ds vs) (q : Q0 (.tup ds) M) : ∀ x, H x = none → Q (.ref x) (upd H x (.tup vs)) := fun x hx => by
  obtain ⟨c1, s1, f1⟩ := c.new hx (.tup vs)
  exact p _ _ _ _ _ q s1 f1 c1 (by rw [Rep]; exact ⟨x, vs, rfl, SqT.of upd_same, r.mono s1⟩)
theorem Post.val {F H : Hp} {M : Mp} {Q0 : DQ} {Q : VK} (p : Post K F H M Q0 Q) (c : Core K F H M) {d : D} {v : V} (q : Q0 d M) (r : Rep K F d v) : Q v H := p _ _ _ _ _ q (Same.refl F) Fr.refl c r
theorem Post.int {F H : Hp} {M : Mp} {Q0 : DQ} {Q : VK} (p : Post K F H M Q0 Q) (c : Core K F H M) {i : Int} (q : Q0 (.int i) M) : Q (.int i) H := p.val c q (by rw [Rep])
theorem Post.str {F H : Hp} {M : Mp} {Q0 : DQ} {Q : VK} (p : Post K F H M Q0 Q) (c : Core K F H M) {i : Str} (q : Q0 (.str i) M) : Q (.str i) H := p.val c q (by rw [Rep])
theorem Post.bl {F H : Hp} {M : Mp} {Q0 : DQ} {Q : VK} (p : Post K F H M Q0 Q) (c : Core K F H M) {i : Bool} (q : Q0 (.bl i) M) : Q (.bl i) H := p.val c q (by rw [Rep])
theorem Post.non {F H : Hp} {M : Mp} {Q0 : DQ} {Q : VK} (p : Post K F H M Q0 Q) (c : Core K F H M) (q : Q0 .non M) : Q .non H := p.val c q (by rw [Rep])
/-- the data as they stand in H -/
def rs (M : Mp) : D → D
  | .ptr a => match M a with | some (.lst ds) => .lst ds | _ => .ptr a
  | d => d
theorem rs_ok {F H : Hp} {M : Mp} {d : D} {v : V} (c : Core K F H M) (r : Rep K F d v) : Rep K H (rs M d) v := by
  cases d with
  | ptr a =>
    cases q : M a with
    | none =>
      simp only [rs, q]
      exact r.mono c.same
    | some mo =>
      cases mo with
      | lst ds =>
        obtain ⟨_, o, ho, vs, e1, e2⟩ := c.mem a _ q
        subst e1
        rw [Rep] at r
        simp only [rs, q]
        rw [Rep]
        exact ⟨a, vs, r, ho, e2.mono c.same⟩
      | tab z =>
        simp only [rs, q]
        exact r.mono c.same
      | ins C fs =>
        simp only [rs, q]
        exact r.mono c.same
  | _ => exact r.mono c.same
/-! ### data without objects -/
mutual
def D.py : D → PyData
  | .non => .none
  | .bl b => .bool b
  | .int i => .int i
  | .str x => .str x
  | .lst ds => .list (D.pys ds)
  | .lsx ds => .list (D.pys ds)
  | .tup ds => .tuple (D.pys ds)
  | .ptr _ => .none
  | .ty _ => .none
  | .obj _ _ => .none
  | .fn _ => .none
def D.pys : List D → List PyData
  | [] => []
  | d :: ds => D.py d :: D.pys ds
end
mutual
def D.pl : D → Bool
  | .non => true
  | .bl _ => true
  | .int _ => true
  | .str _ => true
  | .lst ds => D.pls ds
  | .lsx ds => D.pls ds
  | .tup ds => D.pls ds
  | .ptr _ => false
  | .ty _ => false
  | .obj _ _ => false
  | .fn _ => false
def D.pls : List D → Bool
  | [] => true
  | d :: ds => D.pl d && D.pls ds
end
mutual
theorem Rep.dp {H : Hp} : ∀ (d : D) (v : V), Rep K H d v → d.pl = true → Dp K H v d.py
  | .non, v, r, _ => by rw [Rep] at r; subst r; exact .non
  | .bl b, v, r, _ => by rw [Rep] at r; subst r; exact .bl b
  | .int b, v, r, _ => by rw [Rep] at r; subst r; exact .int b
  | .str b, v, r, _ => by rw [Rep] at r; subst r; exact .str b
  | .lst ds, v, r, h => by
    rw [Rep] at r
    obtain ⟨a, vs, e1, e2, e3⟩ := r
    subst e1
    rw [D.pl] at h
    rw [D.py]
    exact .lst (SqL.of e2) (Reps.dp ds vs e3 h)
  | .lsx ds, v, r, h => by
    rw [Rep] at r
    obtain ⟨a, vs, e1, e2, e3⟩ := r
    subst e1
    rw [D.pl] at h
    rw [D.py]
    exact .lst e2 (Reps.dp ds vs e3 h)
  | .tup ds, v, r, h => by
    rw [Rep] at r
    obtain ⟨a, vs, e1, e2, e3⟩ := r
    subst e1
    rw [D.pl] at h
    rw [D.py]
    exact .tup e2 (Reps.dp ds vs e3 h)
  | .ptr _, v, r, h => by rw [D.pl] at h; cases h
  | .ty _, v, r, h => by rw [D.pl] at h; cases h
  | .obj _ _, v, r, h => by rw [D.pl] at h; cases h
  | .fn _, v, r, h => by rw [D.pl] at h; cases h
theorem Reps.dp {H : Hp} : ∀ (ds : List D) (vs : List V), Reps K H ds vs → D.pls ds = true → DpAll K H vs (D.pys ds)
  | [], vs, r, _ => by rw [Reps] at r; subst r; exact .nil
  | d :: ds, vs, r, h => by
    rw [Reps] at r
    obtain ⟨v, w, e1, e2, e3⟩ := r
    subst e1
    rw [D.pls, Bool.and_eq_true] at h
    rw [D.pys]
    exact .cons (Rep.dp d v e2 h.1) (Reps.dp ds w e3 h.2)
end
/-- may be asked for == : no objects, texts of true signs, not too deep -/
def D.ok (d : D) : Bool := d.pl && SeqAt.shaped d.py
def D.eqv (d e : D) : Bool := PyData.eqv d.py e.py
/-! ### == -/
/-- the scalars -/
def sc2 : D → D → Bool
  | .non, .non => true | .non, .int _ => true | .int _, .non => true | .non, .bl _ => true | .bl _, .non => true | .non, .str _ => true | .str _, .non => true
  | .int _, .int _ => true | .bl _, .bl _ => true | .str _, .str _ => true
  | .int _, .str _ => true | .str _, .int _ => true | .bl _, .str _ => true | .str _, .bl _ => true
  | _, _ => false
def sEq : D → D → Bool
  | .non, .non => true
  | .int i, .int j => i == j
  | .bl i, .bl j => i == j
  | .str i, .str j => i == j
  | _, _ => false
theorem sc2_ok {F H : Hp} {d e : D} {v w : V} (r1 : Rep K F d v) (r2 : Rep K F e w) (h : sc2 d e = true) : scal v w = true ∧ decide (v = w) = sEq d e := by
  cases d <;> cases e <;> first
    | (simp [sc2] at h; done)
    | (simp only [Rep] at r1 r2; subst r1 r2; refine ⟨rfl, ?_⟩; first | rfl | exact dec_int | exact dec_bl | exact dec_str | (simp [sEq]; done))
def rEqW (neg : Bool) : D2 := fun x y M Q => if sc2 x y = true then Q (.bl (neg ^^ sEq x y)) M else ((rs M x).ok = true ∧ (rs M y).ok = true) ∧ Q (.bl (neg ^^ (rs M x).eqv (rs M y))) M
theorem ok2 {d : D} (h : d.ok = true) : d.pl = true ∧ SeqAt.shaped d.py = true := by
  unfold D.ok at h
  rw [Bool.and_eq_true] at h
  exact h
theorem l_eq : LR2 K (fun x y H Q => rEq x y H Q ∨ rEqD K x y H Q) (rEqW false) := by
  intro F H M d e v w Q0 Q c r1 r2 h p
  unfold rEqW at h
  split at h
  · rename_i q
    obtain ⟨q1, q2⟩ := sc2_ok (H := H) r1 r2 q
    refine .inl ⟨q1, ?_⟩
    rw [q2]
    exact p.bl c (by simpa using h)
  · obtain ⟨⟨h1, h2⟩, h3⟩ := h
    obtain ⟨a1, a2⟩ := ok2 h1
    obtain ⟨b1, b2⟩ := ok2 h2
    exact .inr ⟨_, _, Rep.dp _ _ (rs_ok c r1) a1, Rep.dp _ _ (rs_ok c r2) b1, a2, b2, p.bl c (by simpa [D.eqv] using h3)⟩
theorem l_ne : LR2 K (fun x y H Q => rNe x y H Q ∨ rNeD K x y H Q) (rEqW true) := by
  intro F H M d e v w Q0 Q c r1 r2 h p
  unfold rEqW at h
  split at h
  · rename_i q
    obtain ⟨q1, q2⟩ := sc2_ok (H := H) r1 r2 q
    refine .inl ⟨q1, ?_⟩
    rw [q2]
    exact p.bl c (by simpa using h)
  · obtain ⟨⟨h1, h2⟩, h3⟩ := h
    obtain ⟨a1, a2⟩ := ok2 h1
    obtain ⟨b1, b2⟩ := ok2 h2
    exact .inr ⟨_, _, Rep.dp _ _ (rs_ok c r1) a1, Rep.dp _ _ (rs_ok c r2) b1, a2, b2, p.bl c (by simpa [D.eqv] using h3)⟩
theorem o_eq (hu : X.A.units + 64 < cLine) : OpR X (compareOp .Eq) (fun x y H Q => rEq x y H Q ∨ rEqD X.K x y H Q) := op_eq.or (op_eqD hu)
theorem o_ne (hu : X.A.units + 64 < cLine) : OpR X (compareOp .NotEq) (fun x y H Q => rNe x y H Q ∨ rNeD X.K x y H Q) := op_ne.or (op_neD hu)
end
end DL
namespace DL
open PySem PySem.Spec PyProof.Rows L2
section
variable {X : Cx} {GX : GI X.K} {K : PySem.W.Frag} {G : GI K} {a b c e : Expr} {es : List Expr} {ta tb tc : DTE} {pos : Pos}
/-! ### arithmetic -/
def lstM (M : Mp) : D → Option (List D)
  | .lst ds => some ds
  | .ptr a => match M a with | some (.lst ds) => some ds | _ => none
  | _ => none
theorem lstM_ok {F H : Hp} {M : Mp} {d : D} {v : V} {ds : List D} (c : Core K F H M) (r : Rep K F d v) (h : lstM M d = some ds) : ∃ a vs, v = .ref a ∧ H a = some (.lst vs) ∧ Reps K F ds vs := by
  cases d with
  | lst es =>
    simp [lstM] at h; subst h
    rw [Rep] at r
    obtain ⟨a, vs, e1, e2, e3⟩ := r
    exact ⟨a, vs, e1, c.same _ _ e2, e3⟩
  | ptr a =>
    rw [Rep] at r
    simp only [lstM] at h
    split at h
    · rename_i q
      cases h
      obtain ⟨_, o, ho, rm⟩ := c.mem a _ q
      obtain ⟨vs, e1, e2⟩ := rm
      subst e1
      exact ⟨a, vs, r, ho, e2⟩
    · cases h
  | _ => simp [lstM] at h
def rAdd : D2 := fun x y M Q => match x, y with
  | .int i, .int j => Q (.int (i + j)) M
  | .str i, .str j => i.length + j.length ≤ sizeLine ∧ Q (.str (i ++ j)) M
  | .tup i, .tup j => (i ≠ [] ∧ j ≠ []) ∧ i.length + j.length ≤ sizeLine ∧ Q (.tup (i ++ j)) M
  | x, y => match lstM M x, lstM M y with
    | some i, some j => i.length + j.length ≤ sizeLine ∧ Q (.lst (i ++ j)) M
    | _, _ => False
abbrev rStrs : R2 := fun x y H Q => ∃ i j, x = .str i ∧ y = .str j ∧ i.length + j.length ≤ sizeLine ∧ Q (.str (i ++ j)) H
theorem l_add : LR2 K (fun x y H Q => ((rI0 fun i j => .int (i + j)) x y H Q ∨ rStrs x y H Q) ∨ (rCatT K x y H Q ∨ rCat x y H Q)) rAdd := by
  intro F H M d e v w Q0 Q c r1 r2 h p
  unfold rAdd at h
  split at h
  · simp only [Rep] at r1 r2
    exact .inl (.inl ⟨_, _, r1, r2, p.int c h⟩)
  · simp only [Rep] at r1 r2
    exact .inl (.inr ⟨_, _, r1, r2, h.1, p.str c h.2⟩)
  · rename_i i j
    rw [Rep] at r1 r2
    obtain ⟨x, xs, e1, e2, e3⟩ := r1
    obtain ⟨y, ys, f1, f2, f3⟩ := r2
    obtain ⟨⟨h1, h2⟩, h3, h4⟩ := h
    have l1 := e3.len
    have l2 := f3.len
    refine .inr (.inl ⟨x, y, xs, ys, e1, f1, sameT c.same e2, sameT c.same f2, fun z => h1 ?_, by omega, fun z => absurd ?_ h2, fun _ => p.tup c (e3.app f3) h4⟩)
    · subst z; exact List.length_eq_zero_iff.mp l1.symm
    · subst z; exact List.length_eq_zero_iff.mp l2.symm
  · split at h
    · rename_i i j g1 g2
      obtain ⟨x, xs, e1, e2, e3⟩ := lstM_ok c r1 g1
      obtain ⟨y, ys, f1, f2, f3⟩ := lstM_ok c r2 g2
      have l1 := e3.len
      have l2 := f3.len
      exact .inr (.inr ⟨x, y, xs, ys, e1, f1, e2, f2, by omega, p.lst c (e3.app f3) h.2⟩)
    · exact h.elim
theorem o_add : OpR X (binaryOp .Add) (fun x y H Q => ((rI0 fun i j => .int (i + j)) x y H Q ∨ rStrs x y H Q) ∨ (rCatT X.K x y H Q ∨ rCat x y H Q)) := (op_add.or op_add_str).or (op_catT.or op_cat)
theorem de_add (ha : DE X a ta) (hb : DE X b tb) : DE X (.BinOp a .Add b pos) (dOp rAdd ta tb) := de_op o_add l_add ha hb
/-- ints alone -/
def rInt2 (C : Int → Int → Prop) (g : Int → Int → Int) : D2 := fun x y M Q => match x, y with
  | .int i, .int j => C i j ∧ Q (.int (g i j)) M
  | _, _ => False
theorem l_int {C : Int → Int → Prop} {g : Int → Int → Int} : LR2 K (rI C fun i j => .int (g i j)) (rInt2 C g) := by
  intro F H M d e v w Q0 Q c r1 r2 h p
  unfold rInt2 at h
  split at h
  · simp only [Rep] at r1 r2
    exact ⟨_, _, r1, r2, h.1, p.int c h.2⟩
  · exact h.elim
def rSubI : D2 := fun x y M Q => match x, y with
  | .int i, .int j => Q (.int (i - j)) M
  | _, _ => False
theorem l_sub : LR2 K (rI0 fun i j => .int (i - j)) rSubI := by
  intro F H M d e v w Q0 Q c r1 r2 h p
  unfold rSubI at h
  split at h
  · simp only [Rep] at r1 r2
    exact ⟨_, _, r1, r2, p.int c h⟩
  · exact h.elim
theorem de_sub (ha : DE X a ta) (hb : DE X b tb) : DE X (.BinOp a .Sub b pos) (dOp rSubI ta tb) := de_op op_sub l_sub ha hb
theorem de_fdiv (ha : DE X a ta) (hb : DE X b tb) : DE X (.BinOp a .FloorDiv b pos) (dOp (rInt2 CDivN Int.fdiv) ta tb) := de_op op_fdivN l_int ha hb
theorem de_mod (ha : DE X a ta) (hb : DE X b tb) : DE X (.BinOp a .Mod b pos) (dOp (rInt2 (fun _ j => j ≠ 0) Int.fmod) ta tb) := de_op op_modN l_int ha hb
theorem de_mul (ha : DE X a ta) (hb : DE X b tb) : DE X (.BinOp a .Mult b pos) (dOp (rInt2 CMul fun i j => i * j) ta tb) := de_op op_mul l_int ha hb
theorem de_pow (ha : DE X a ta) (hb : DE X b tb) : DE X (.BinOp a .Pow b pos) (dOp (rInt2 CPow fun i j => i ^ j.toNat) ta tb) := de_op op_pow l_int ha hb
def rNeg : D → Mp → DQ → Prop := fun x M Q => match x with | .int i => Q (.int (-i)) M | _ => False
def dUn (r : D → Mp → DQ → Prop) (t : DTE) : DTE := fun env M Q => t env M fun x M' => r x M' Q
theorem de_neg (ha : DE X a ta) : DE X (.UnaryOp .USub a pos) (dUn rNeg ta) := PE.imp (pe_un un_neg ha) fun σ H Q ⟨F, env, M, Q0, he, hc, ht, hp⟩ =>
  ⟨F, env, M, _, he, hc, ht, fun d M1 F1 H1 v q s1 f1 c1 r1 => by
    cases d with
    | int i => rw [Rep] at r1; exact ⟨i, r1, (hp.after s1 f1).int c1 q⟩
    | _ => exact False.elim q⟩
/-! ### order -/
def rOrd (fi : Int → Int → Bool) (fs : Str → Str → Bool) (ft : List Int → List Int → Bool) : D2 := fun x y M Q => match x, y with
  | .int i, .int j => Q (.bl (fi i j)) M
  | .str i, .str j => Q (.bl (fs i j)) M
  | _, _ => False
theorem l_ord {fi : Int → Int → Bool} {fs : Str → Str → Bool} {ft : List Int → List Int → Bool} :
    LR2 K (fun x y H Q => (rI0 fun i j => .bl (fi i j)) x y H Q ∨ (∃ i j, x = .str i ∧ y = .str j ∧ Q (.bl (fs i j)) H)) (rOrd fi fs ft) := by
  intro F H M d e v w Q0 Q c r1 r2 h p
  unfold rOrd at h
  split at h
  · simp only [Rep] at r1 r2
    exact .inl ⟨_, _, r1, r2, p.bl c h⟩
  · simp only [Rep] at r1 r2
    exact .inr ⟨_, _, r1, r2, p.bl c h⟩
  · exact h.elim
/-! ### items -/
theorem atI_len {α β : Type} {xs : List α} {ys : List β} (h : xs.length = ys.length) (i : Int) : ixN xs.length i = ixN ys.length i := by rw [h]
theorem atI_rep {F : Hp} {ds : List D} {vs : List V} {i : Int} {d : D} (r : Reps K F ds vs) (h : atI ds i = some d) : ∃ v, atI vs i = some v ∧ Rep K F d v := by
  unfold atI at h ⊢
  rw [r.len]
  cases q : ixN ds.length i with
  | none => rw [q] at h; cases h
  | some j => rw [q] at h; exact r.get h
def rIxD : D2 := fun x y M Q => match y with
  | .int i => match x with
    | .str z => z.length ≤ sizeLine ∧ ∃ c, atI z.cps.toList i = some c ∧ Q (.str ⟨#[c]⟩) M
    | .tup ds => ∃ d, atI ds i = some d ∧ Q d M
    | x => match lstOf M x with
      | some ds => ∃ d, atI ds i = some d ∧ Q d M
      | none => False
  | _ => False
theorem l_ix : LR2 K (rIx K) rIxD := by
  intro F H M d e v w Q0 Q c r1 r2 h p
  unfold rIxD at h
  split at h
  · rename_i i
    simp only [Rep] at r2
    subst r2
    split at h
    · simp only [Rep] at r1
      obtain ⟨h1, cc, h2, h3⟩ := h
      exact .inr (.inr ⟨_, i, cc, r1, rfl, h1, h2, p.str c h3⟩)
    · rename_i ds
      rw [Rep] at r1
      obtain ⟨x, xs, e1, e2, e3⟩ := r1
      obtain ⟨d, h1, h2⟩ := h
      obtain ⟨u, q1, q2⟩ := atI_rep e3 h1
      exact .inr (.inl ⟨x, xs, i, u, e1, rfl, sameT c.same e2, q1, p.val c h2 q2⟩)
    · split at h
      · rename_i ds g
        obtain ⟨x, xs, e1, e2, e3⟩ := lstOf_ok c r1 g
        obtain ⟨d, h1, h2⟩ := h
        obtain ⟨u, q1, q2⟩ := atI_rep e3 h1
        exact .inl ⟨x, xs, i, u, e1, rfl, e2, q1, p.val c h2 q2⟩
      · exact h.elim
  · exact h.elim
theorem de_ix (ha : DE X a ta) (hb : DE X b tb) (hs : PlainIx b := by intro _ _; rfl) : DE X (.Subscript a b pos) (dOp rIxD ta tb) := PE.imp (pe_ix ix_seq ha hb hs) (lop l_ix)
/-! ### slices -/
abbrev DTO := DSt → Mp → (Option Int → Mp → Prop) → Prop
def lO (K : PySem.W.Frag) [GI K] (t : DTO) : TO := fun σ H Q => ∃ F env M Q0, EnvR K F σ env ∧ Core K F H M ∧ t env M Q0 ∧ ∀ o M' F' H', Q0 o M' → Same F F' → Fr F H M F' H' M' → Core K F' H' M' → Q o H'
theorem do_none : PO X none (lO X.K fun _ M Q => Q none M) := ⟨fun pins s σ H Q I ⟨F, env, M, Q0, he, hc, ht, hp⟩ => po_none.run pins s σ H Q I (hp none M F H ht (Same.refl F) Fr.refl hc)⟩
def dPart (t : DTE) : DTO := fun env M Q => t env M fun x M' => match x with | .int i => Q (some i) M' | _ => False
theorem do_some (h : DE X e ta) : PO X (some e) (lO X.K (dPart ta)) := ⟨fun pins s σ H Q I ⟨F, env, M, Q0, he, hc, ht, hp⟩ => (po_some h).run pins s σ H Q I
  ⟨F, env, M, _, he, hc, ht, fun d M1 F1 H1 v q s1 f1 c1 r1 => by
    cases d with
    | int i => rw [Rep] at r1; exact ⟨i, r1, hp _ _ _ _ q s1 f1 c1⟩
    | _ => exact False.elim q⟩⟩
def cutD (xs : List D) (lo hi : Option Int) : List D := (xs.drop (HT.sIx xs.length 0 lo)).take (HT.sIx xs.length xs.length hi - HT.sIx xs.length 0 lo)
theorem cut_rep {F : Hp} {ds : List D} {vs : List V} {lo hi : Option Int} (r : Reps K F ds vs) : Reps K F (cutD ds lo hi) (cutV vs lo hi) := by
  unfold cutD cutV
  rw [r.len]
  exact (r.drop _).take _
def rSlD : D → Option Int → Option Int → Mp → DQ → Prop := fun x lo hi M Q => match x with
  | .str z => z.length ≤ sizeLine ∧ Q (.str (cutS z lo hi)) M
  | .tup ds => ¬ (HT.sIx ds.length 0 lo = 0 ∧ HT.sIx ds.length ds.length hi = ds.length) ∧ Q (.tup (cutD ds lo hi)) M
  | x => match lstOf M x with
    | some ds => Q (.lst (cutD ds lo hi)) M
    | none => False
theorem SlR.or {r r' : V → Option Int → Option Int → Hp → VK → Prop} (h : SlR X r) (h' : SlR X r') : SlR X (fun x l u H Q => r x l u H Q ∨ r' x l u H Q) := by
  intro pins s σ H x v vl vu l u p Q I rv hp pl pu q
  rcases q with q | q
  · exact h pins s σ H x v vl vu l u p Q I rv hp pl pu q
  · exact h' pins s σ H x v vl vu l u p Q I rv hp pl pu q
def dSl (ta : DTE) (tl th : DTO) : DTE := fun env M Q => ta env M fun x M1 => tl env M1 fun l M2 => th env M2 fun u M3 => rSlD x l u M3 Q
theorem l_sl {F H : Hp} {M : Mp} {d : D} {v : V} {l u : Option Int} {Q0 : DQ} {Q : VK} (c : Core K F H M) (r : Rep K F d v) (h : rSlD d l u M Q0) (p : Post K F H M Q0 Q) :
    rSlL K v l u H Q ∨ rSlT K v l u H Q ∨ rSlS v l u H Q := by
  unfold rSlD at h
  split at h
  · rw [Rep] at r
    exact .inr (.inr ⟨_, r, h.1, p.str c h.2⟩)
  · rw [Rep] at r
    obtain ⟨x, xs, e1, e2, e3⟩ := r
    refine .inr (.inl ⟨x, xs, e1, sameT c.same e2, ?_, p.tup c (cut_rep e3) h.2⟩)
    rw [e3.len]; exact h.1
  · split at h
    · rename_i ds g
      obtain ⟨x, xs, e1, e2, e3⟩ := lstOf_ok c r g
      exact .inl ⟨x, xs, e1, e2, p.lst c (cut_rep e3) h⟩
    · exact h.elim
theorem de_sl {lo hi : Option Expr} {tl th : DTO} {p2 : Pos} (he : DE X e ta) (hl : PO X lo (lO X.K tl)) (hu : PO X hi (lO X.K th)) : DE X (.Subscript e (.Slice lo hi none p2) pos) (dSl ta tl th) :=
  PE.imp (pe_slice (SlR.or sl_list (SlR.or sl_tup sl_str)) he hl hu) fun σ H Q ⟨F, env, M, Q0, he, hc, ht, hp⟩ =>
    ⟨F, env, M, _, he, hc, ht, fun d M1 F1 H1 v q s1 f1 c1 r1 => ⟨F1, env, M1, _, he.mono s1, c1, q, fun l M2 F2 H2 q2 s2 f2 c2 => ⟨F2, env, M2, _, (he.mono s1).mono s2, c2, q2, fun u M3 F3 H3 q3 s3 f3 c3 =>
      l_sl c3 ((r1.mono s2).mono s3) q3 (hp.after ((s1.trans s2).trans s3) ((f1.trans f2).trans f3))⟩⟩⟩
end
end DL
namespace DL
open PySem PySem.Spec PyProof.Rows L2
section
variable {X : Cx} {GX : GI X.K} {K : PySem.W.Frag} {G : GI K} {a b c e : Expr} {es : List Expr} {ta tb tc : DTE} {pos : Pos} {st : Stmt} {rest sa sb : List Stmt} {t u : DTS} {tt : DTT}
/-! ### truth, and, or, not, if -/
def dTru (ta : DTE) : DTT := fun env M Q => ta env M fun x M' => match x with
  | .non => Q false M'
  | .bl b => Q b M'
  | .int i => Q (i != 0) M'
  | .str y => y.length ≤ sizeLine ∧ Q ((y.length : Int) != 0) M'
  | .tup ds => Q (!ds.isEmpty) M'
  | x => match lstOf M' x with
    | some ds => Q (!ds.isEmpty) M'
    | none => False
theorem emp_len {F : Hp} {ds : List D} {vs : List V} (r : Reps K F ds vs) : (!vs.isEmpty) = !ds.isEmpty := by
  have h := r.len
  cases vs <;> cases ds <;> simp_all
theorem dt_tru (ha : DE X a ta) (he : ∀ whole, isTrue a X.env whole = (do let v ← whole; standAt a.pos; holding [v] (truthy v)) := by intro _; rfl) : DT X a (dTru ta) :=
  PT.imp (pt_truth ha he) fun σ H Q ⟨F, env, M, Q0, he, hc, ht, hp⟩ => ⟨F, env, M, _, he, hc, ht, fun d M1 F1 H1 v q s1 f1 c1 r1 => by
    have go : ∀ {b}, Q0 b M1 → Q b H1 := fun {b} h => hp b M1 F1 H1 h s1 f1 c1
    revert q
    dsimp only
    split <;> intro q
    · rw [Rep] at r1; subst r1; exact ⟨_, rfl, go q⟩
    · rw [Rep] at r1; subst r1; exact ⟨_, rfl, go q⟩
    · rw [Rep] at r1; subst r1; exact ⟨_, rfl, go q⟩
    · rw [Rep] at r1; subst r1; exact ⟨_, ⟨q.1, rfl⟩, go q.2⟩
    · rw [Rep] at r1
      obtain ⟨x, vs, e1, e2, e3⟩ := r1
      subst e1
      exact ⟨_, .inr (.inl ⟨vs, sameT c1.same e2, rfl⟩), by rw [emp_len e3]; exact go q⟩
    · split at q
      · rename_i ds g
        obtain ⟨x, vs, e1, e2, e3⟩ := lstOf_ok c1 r1 g
        subst e1
        exact ⟨_, .inl ⟨vs, e2, rfl⟩, by rw [emp_len e3]; exact go q⟩
      · exact q.elim⟩
abbrev DW (X : Cx) [GI X.K] (e : Expr) (t : DTT) : Prop := PW X e (lT X.K t)
def dAnd (t u : DTT) : DTT := fun env M Q => t env M fun c M1 => if c = true then u env M1 Q else Q false M1
def dOr (t u : DTT) : DTT := fun env M Q => t env M fun c M1 => if c = true then Q true M1 else u env M1 Q
def dNot (t : DTT) : DTT := fun env M Q => t env M fun c M1 => Q (!c) M1
variable {t1 t2 : DTT}
theorem dw_and1 (h : DT X a t1) : DW X (.BoolOp .And [a] pos) t1 := pw_and1 h
theorem dw_or1 (h : DT X a t1) : DW X (.BoolOp .Or [a] pos) t1 := pw_or1 h
theorem dw_and {es : List Expr} (ha : DT X a t1) (hb : DW X (.BoolOp .And (b :: es) pos) t2) : DW X (.BoolOp .And (a :: b :: es) pos) (dAnd t1 t2) :=
  PW.imp (pw_and ha hb) fun σ H Q ⟨F, env, M, Q0, he, hc, ht, hp⟩ => ⟨F, env, M, _, he, hc, ht, fun d M1 F1 H1 q s1 f1 c1 => by
    cases d with
    | true => exact ⟨F1, env, M1, _, he.mono s1, c1, q, hp.after s1 f1⟩
    | false => exact hp false M1 F1 H1 q s1 f1 c1⟩
theorem dw_or {es : List Expr} (ha : DT X a t1) (hb : DW X (.BoolOp .Or (b :: es) pos) t2) : DW X (.BoolOp .Or (a :: b :: es) pos) (dOr t1 t2) :=
  PW.imp (pw_or ha hb) fun σ H Q ⟨F, env, M, Q0, he, hc, ht, hp⟩ => ⟨F, env, M, _, he, hc, ht, fun d M1 F1 H1 q s1 f1 c1 => by
    cases d with
    | false => exact ⟨F1, env, M1, _, he.mono s1, c1, q, hp.after s1 f1⟩
    | true => exact hp true M1 F1 H1 q s1 f1 c1⟩
theorem dt_not (ha : DT X a t1) : DT X (.UnaryOp .Not a pos) (dNot t1) :=
  PT.imp (pt_not ha) fun σ H Q ⟨F, env, M, Q0, he, hc, ht, hp⟩ => ⟨F, env, M, _, he, hc, ht, fun d M1 F1 H1 q s1 f1 c1 => hp _ M1 F1 H1 q s1 f1 c1⟩
def dNotV (ta : DTE) : DTE := fun env M Q => ta env M fun x M1 => match x with | .bl k => Q (.bl (!k)) M1 | _ => False
def dAndV (ta tb : DTE) : DTE := fun env M Q => ta env M fun x M1 => match x with | .bl k => (if k = true then tb env M1 Q else Q (.bl false) M1) | _ => False
def dOrV (ta tb : DTE) : DTE := fun env M Q => ta env M fun x M1 => match x with | .bl k => (if k = true then Q (.bl true) M1 else tb env M1 Q) | _ => False
theorem de_not (ha : DE X a ta) : DE X (.UnaryOp .Not a pos) (dNotV ta) :=
  PE.imp (pe_not ha) fun σ H Q ⟨F, env, M, Q0, he, hc, ht, hp⟩ => ⟨F, env, M, _, he, hc, ht, fun d M1 F1 H1 v q s1 f1 c1 r1 => by
    cases d with
    | bl k => rw [Rep] at r1; exact ⟨k, r1, (hp.after s1 f1).bl c1 q⟩
    | _ => exact False.elim q⟩
theorem de_one {op} (h : DE X a ta) : DE X (.BoolOp op [a] pos) ta := pe_one h
theorem de_and {es : List Expr} (ha : DE X a ta) (hb : DE X (.BoolOp .And (b :: es) pos) tb) : DE X (.BoolOp .And (a :: b :: es) pos) (dAndV ta tb) :=
  PE.imp (pe_and ha hb) fun σ H Q ⟨F, env, M, Q0, he, hc, ht, hp⟩ => ⟨F, env, M, _, he, hc, ht, fun d M1 F1 H1 v q s1 f1 c1 r1 => by
    cases d with
    | bl k =>
      rw [Rep] at r1
      refine ⟨k, r1, ?_⟩
      cases k with
      | true => exact ⟨F1, env, M1, _, he.mono s1, c1, q, hp.after s1 f1⟩
      | false => exact (hp.after s1 f1).bl c1 q
    | _ => exact False.elim q⟩
theorem de_or {es : List Expr} (ha : DE X a ta) (hb : DE X (.BoolOp .Or (b :: es) pos) tb) : DE X (.BoolOp .Or (a :: b :: es) pos) (dOrV ta tb) :=
  PE.imp (pe_or ha hb) fun σ H Q ⟨F, env, M, Q0, he, hc, ht, hp⟩ => ⟨F, env, M, _, he, hc, ht, fun d M1 F1 H1 v q s1 f1 c1 r1 => by
    cases d with
    | bl k =>
      rw [Rep] at r1
      refine ⟨k, r1, ?_⟩
      cases k with
      | false => exact ⟨F1, env, M1, _, he.mono s1, c1, q, hp.after s1 f1⟩
      | true => exact (hp.after s1 f1).bl c1 q
    | _ => exact False.elim q⟩
def dIf (tt : DTT) (ta tb : DTE) : DTE := fun env M Q => tt env M fun k M1 => if k = true then ta env M1 Q else tb env M1 Q
theorem de_if (hc : DT X c tt) (ha : DE X a ta) (hb : DE X b tb) : DE X (.IfExp c a b pos) (dIf tt ta tb) :=
  PE.imp (pe_ifExp hc ha hb) fun σ H Q ⟨F, env, M, Q0, he, hc, ht, hp⟩ => ⟨F, env, M, _, he, hc, ht, fun d M1 F1 H1 q s1 f1 c1 => by
    cases d with
    | true => exact ⟨F1, env, M1, _, he.mono s1, c1, q, hp.after s1 f1⟩
    | false => exact ⟨F1, env, M1, _, he.mono s1, c1, q, hp.after s1 f1⟩⟩
def isNon : D → Bool
  | .non => true
  | _ => false
def dIsN (neg : Bool) (ta : DTE) : DTE := fun env M Q => ta env M fun x M1 => Q (.bl (neg ^^ isNon x)) M1
theorem isN_of {F : Hp} {d : D} {v : V} (r : Rep K F d v) : decide (v = .non) = isNon d := by
  cases d <;> simp only [Rep] at r <;> simp only [isNon] <;> first
    | (subst r; simp; done)
    | (obtain ⟨a, vs, e1, _⟩ := r; subst e1; simp; done)
    | (obtain ⟨a, dx, vs, e1, _⟩ := r; subst e1; simp; done)
    | (obtain ⟨a, e1, _⟩ := r; subst e1; simp; done)
theorem de_isN {j pos'} (ha : DE X a ta) : DE X (.Compare a [.Is] [.Constant .none j pos'] pos) (dIsN false ta) :=
  PE.imp (pe_cmp (pc_isN ha) rfl) fun σ H Q ⟨F, env, M, Q0, he, hc, ht, hp⟩ => ⟨F, env, M, _, he, hc, ht, fun d M1 F1 H1 v q s1 f1 c1 r1 => by
    refine (hp.after s1 f1).bl c1 ?_
    rw [isN_of r1]
    simpa using q⟩
theorem de_notN {j pos'} (ha : DE X a ta) : DE X (.Compare a [.IsNot] [.Constant .none j pos'] pos) (dIsN true ta) :=
  PE.imp (pe_cmp (pc_notN ha) rfl) fun σ H Q ⟨F, env, M, Q0, he, hc, ht, hp⟩ => ⟨F, env, M, _, he, hc, ht, fun d M1 F1 H1 v q s1 f1 c1 r1 => by
    refine (hp.after s1 f1).bl c1 ?_
    rw [isN_of r1]
    simpa using q⟩
theorem dt_isN {j pos'} (ha : DE X a ta) : DT X (.Compare a [.Is] [.Constant .none j pos'] pos) (dTB (dIsN false ta)) :=
  PT.imp (pt_cmp (pc_isN ha) rfl) fun σ H Q ⟨F, env, M, Q0, he, hc, ht, hp⟩ => ⟨F, env, M, _, he, hc, ht, fun d M1 F1 H1 v q s1 f1 c1 r1 => by
    refine ⟨_, rfl, hp _ M1 F1 H1 ?_ s1 f1 c1⟩
    rw [isN_of r1]
    simpa using q⟩
theorem dt_notN {j pos'} (ha : DE X a ta) : DT X (.Compare a [.IsNot] [.Constant .none j pos'] pos) (dTB (dIsN true ta)) :=
  PT.imp (pt_cmp (pc_notN ha) rfl) fun σ H Q ⟨F, env, M, Q0, he, hc, ht, hp⟩ => ⟨F, env, M, _, he, hc, ht, fun d M1 F1 H1 v q s1 f1 c1 r1 => by
    refine ⟨_, rfl, hp _ M1 F1 H1 ?_ s1 f1 c1⟩
    rw [isN_of r1]
    simpa using q⟩
/-! ### blocks -/
def dNext : DTS := fun E env M => E.nx env M
def dSeq (t u : DTS) : DTS := fun E env M => t { E with nx := u E } env M
theorem dss_nil : DSs X [] dNext := PSs.imp pss_nil fun E σ H ⟨F, env, M, D0, he, hc, ht, hp⟩ => hp.nx env M F H σ ht (Same.refl F) Fr.refl hc he
theorem dss_cons (h1 : DS X st t) (h2 : DSs X rest u) : DSs X (st :: rest) (dSeq t u) := PSs.imp (pss_cons h1 h2) fun E σ H ⟨F, env, M, D0, he, hc, ht, hp⟩ =>
  ⟨F, env, M, { D0 with nx := u D0 }, he, hc, ht, ⟨fun env' M' F' H' σ' q s f c r => ⟨F', env', M', D0, r, c, q, hp.after s f⟩, hp.rt, hp.bk, hp.ct⟩⟩
theorem dss_one (h : DS X st t) : DSs X [st] t := pss_one h
def dBreak : DTS := fun E env M => E.bk env M
def dCont : DTS := fun E env M => E.ct env M
theorem ds_pass : DS X (.Pass pos) dNext := PS.imp ps_pass fun E σ H ⟨F, env, M, D0, he, hc, ht, hp⟩ => hp.nx env M F H σ ht (Same.refl F) Fr.refl hc he
theorem ds_break : DS X (.Break pos) dBreak := PS.imp ps_break fun E σ H ⟨F, env, M, D0, he, hc, ht, hp⟩ => hp.bk env M F H σ ht (Same.refl F) Fr.refl hc he
theorem ds_continue : DS X (.Continue pos) dCont := PS.imp ps_continue fun E σ H ⟨F, env, M, D0, he, hc, ht, hp⟩ => hp.ct env M F H σ ht (Same.refl F) Fr.refl hc he
def dDrop (ta : DTE) : DTS := fun E env M => ta env M fun _ M' => E.nx env M'
theorem ds_expr (h : DE X e ta) (hs : swapsWith e none pos.line X.env = pure false := by rfl) : DS X (.Expr e pos) (dDrop ta) := PS.imp (ps_expr h hs) fun E σ H ⟨F, env, M, D0, he, hc, ht, hp⟩ =>
  ⟨F, env, M, _, he, hc, ht, fun d M1 F1 H1 v q s1 f1 c1 r1 => hp.nx env M1 F1 H1 σ q s1 f1 c1 (he.mono s1)⟩
def dRet (ta : DTE) : DTS := fun E env M => ta env M E.rt
theorem ds_ret (h : DE X e ta) : DS X (.Return (some e) pos) (dRet ta) := PS.imp (ps_ret h) fun E σ H ⟨F, env, M, D0, he, hc, ht, hp⟩ =>
  ⟨F, env, M, _, he, hc, ht, fun d M1 F1 H1 v q s1 f1 c1 r1 => hp.rt d M1 F1 H1 v q s1 f1 c1 r1⟩
def dRetN : DTS := fun E _ M => E.rt .non M
theorem ds_retN : DS X (.Return none pos) dRetN := PS.imp ps_retN fun E σ H ⟨F, env, M, D0, he, hc, ht, hp⟩ => hp.rt.non hc ht
def dIfS (tt : DTT) (t u : DTS) : DTS := fun E env M => tt env M fun k M1 => if k = true then t E env M1 else u E env M1
theorem ds_if (hc : DT X c tt) (ha : DSs X sa t) (hb : DSs X sb u) : DS X (.If c sa sb pos) (dIfS tt t u) := PS.imp (ps_if hc ha hb) fun E σ H ⟨F, env, M, D0, he, hc, ht, hp⟩ =>
  ⟨F, env, M, _, he, hc, ht, fun d M1 F1 H1 q s1 f1 c1 => by
    cases d with
    | true => exact ⟨F1, env, M1, D0, he.mono s1, c1, q, hp.after s1 f1⟩
    | false => exact ⟨F1, env, M1, D0, he.mono s1, c1, q, hp.after s1 f1⟩⟩
/-- a choice of the proof: the reading is weakened -/
theorem ds_wk {t' : DTS} (h : DS X st t) (i : ∀ E env M, t' E env M → t E env M) : DS X st t' :=
  PS.imp h fun E σ H ⟨F, env, M, D0, he, hc, ht, hp⟩ => ⟨F, env, M, D0, he, hc, i _ _ _ ht, hp⟩
/-! ### targets -/
abbrev DTG := D → DSt → Mp → (DSt → Mp → Prop) → Prop
abbrev DTGs := List D → DSt → Mp → (DSt → Mp → Prop) → Prop
def lG (K : PySem.W.Frag) [GI K] (t : DTG) : TG := fun v σ H Q => ∃ F env M d Q0, EnvR K F σ env ∧ Core K F H M ∧ Rep K F d v ∧ t d env M Q0 ∧ PostN K F H M Q0 Q
def lGs (K : PySem.W.Frag) [GI K] (t : DTGs) : TGs := fun vs σ H Q => ∃ F env M ds Q0, EnvR K F σ env ∧ Core K F H M ∧ Reps K F ds vs ∧ t ds env M Q0 ∧ PostN K F H M Q0 Q
abbrev DG (X : Cx) [GI X.K] (e : Expr) (t : DTG) : Prop := PG X e (lG X.K t)
abbrev DGs (X : Cx) [GI X.K] (es : List Expr) (t : DTGs) : Prop := PGs X es (lGs X.K t)
theorem PG.imp {t t' : TG} (h : PG X e t) (i : ∀ v σ H Q, t' v σ H Q → t v σ H Q) : PG X e t' := ⟨fun pins s σ H v u Q I r q => h.run pins s σ H v u Q I r (i v σ H Q q)⟩
theorem PGs.imp {t t' : TGs} (h : PGs X es t) (i : ∀ v σ H Q, t' v σ H Q → t v σ H Q) : PGs X es t' := ⟨fun pins s σ H v u Q I r q => h.run pins s σ H v u Q I r (i v σ H Q q)⟩
def dgName (i : Nat) : DTG := fun d env M Q => Q (env.set i (some d)) M
theorem dg_of {i : Nat} (h : PG X e (gName i)) : DG X e (dgName i) := PG.imp h fun v σ H Q ⟨F, env, M, d, Q0, he, hc, r, ht, hp⟩ =>
  hp _ M F H _ ht (Same.refl F) Fr.refl hc (he.set i r)
theorem dg_name {i : Nat} {x : Str} (hN : X.N.Nodup) (hi : X.N[i]? = some x := by rfl) (hx : Loc X.env.scope x := by first | exact Or.inl rfl | exact Or.inr rfl) (hf : X.fn x = true ∨ X.env.scope.names.lookup x = some .local := by first | exact .inl rfl | exact .inr rfl | assumption) : DG X (.Name x pos) (dgName i) := dg_of (pg_name hN hi hx hf)
def dgNil : DTGs := fun ds env M Q => ds = [] ∧ Q env M
def dgCons (t : DTG) (u : DTGs) : DTGs := fun ds env M Q => match ds with | d :: r => t d env M fun env' M' => u r env' M' Q | [] => False
theorem dgs_nil : DGs X [] dgNil := PGs.imp pgs_nil fun v σ H Q ⟨F, env, M, ds, Q0, he, hc, r, ht, hp⟩ => by
  obtain ⟨e, ht⟩ := ht
  subst e
  rw [Reps] at r
  exact ⟨r, hp _ M F H _ ht (Same.refl F) Fr.refl hc he⟩
theorem dgs_cons {t : DTG} {u : DTGs} (h1 : DG X e t) (h2 : DGs X es u) (hs : (assignEach (e :: es) X.env).map (·.2) = assign e X.env :: (assignEach es X.env).map (·.2) := by rfl) : DGs X (e :: es) (dgCons t u) :=
  PGs.imp (pgs_cons h1 h2 hs) fun v σ H Q ⟨F, env, M, ds, Q0, he, hc, r, ht, hp⟩ => by
    cases ds with
    | nil => exact False.elim ht
    | cons d ds =>
      rw [Reps] at r
      obtain ⟨v1, r1, e1, e2, e3⟩ := r
      exact ⟨v1, r1, e1, F, env, M, d, _, he, hc, e2, ht, fun env' M' F' H' σ' q s f c r => ⟨F', env', M', ds, Q0, r, c, e3.mono s, q, hp.after s f⟩⟩
def dgTup (n : Nat) (t : DTGs) : DTG := fun d env M Q => match d with | .tup ds => ds.length = n ∧ t ds env M Q | _ => False
theorem dg_tup {k : Nat} {t : DTGs} {n : Nat} (hc : X.calm = true) (h : DGs X es t) (hn : (assignEach es X.env).length = n := by rfl) (hst : (assignEach es X.env).findIdx? (·.1) = none := by rfl) : DG X (.Tuple es k pos) (dgTup n t) :=
  PG.imp (pg_tup hc h hn hst) fun v σ H Q ⟨F, env, M, d, Q0, he, hc, r, ht, hp⟩ => by
    cases d with
    | tup ds =>
      rw [Rep] at r
      obtain ⟨a, vs, e1, e2, e3⟩ := r
      exact ⟨a, vs, e1, sameT hc.same e2, by rw [e3.len]; exact ht.1, F, env, M, ds, Q0, he, hc, e3, ht.2, hp⟩
    | _ => exact False.elim ht
/-! ### stores -/
def dAsg (ta : DTE) (g : DTG) : DTS := fun E env M => ta env M fun d M1 => g d env M1 E.nx
theorem dasg {g : DTG} : ∀ E σ H, lS K (dAsg ta g) E σ H → tAsg (lE K ta) (lG K g) E σ H := fun E σ H ⟨F, env, M, D0, he, hc, ht, hp⟩ =>
  ⟨F, env, M, _, he, hc, ht, fun d M1 F1 H1 v q s1 f1 c1 r1 => ⟨F1, env, M1, d, _, he.mono s1, c1, r1, q, hp.nx.after s1 f1⟩⟩
theorem ds_asg {tg : Expr} {g : DTG} (he : DE X e ta) (hg : DG X tg g) (hs : swapsWithSole [tg] e pos.line X.env = pure false := by rfl) (hw : swappedStores [tg] e X.env = pure none := by rfl)
    (h1 : (assignEach [tg] X.env).map (·.2) = [assign tg X.env] := by rfl) : DS X (.Assign [tg] e pos) (dAsg ta g) := PS.imp (ps_asg he hg hs hw h1) dasg
theorem ds_set {i : Nat} {x : Str} {pos' : Pos} (hN : X.N.Nodup) (he : DE X e ta) (hi : X.N[i]? = some x := by rfl) (hx : Loc X.env.scope x := by first | exact Or.inl rfl | exact Or.inr rfl) (hs : swapsWith e (some (.Name x pos')) pos.line X.env = pure false := by rfl) (hf : X.fn x = true ∨ X.env.scope.names.lookup x = some .local := by first | exact .inl rfl | exact .inr rfl | assumption) :
    DS X (.Assign [.Name x pos'] e pos) (dAsg ta (dgName i)) := PS.imp (ps_set hN hi hx he hs hf) fun E σ H ⟨F, env, M, D0, he, hc, ht, hp⟩ =>
  ⟨F, env, M, _, he, hc, ht, fun d M1 F1 H1 v q s1 f1 c1 r1 => hp.nx _ M1 F1 H1 _ q s1 f1 c1 ((he.mono s1).set i r1)⟩
/-- a, b = x, y -/
def dPar (i j : Nat) (ta tb : DTE) : DTS := fun E env M => ta env M fun x M1 => tb env M1 fun y M2 => E.nx ((env.set i (some x)).set j (some y)) M2
/-! ### loops -/
def dWhile (tt : DTT) (t : DTS) : DTS := fun E env M => ∃ Pv : Nat → DSt → Mp → Prop, (∃ m, Pv m env M) ∧ ∀ m env M, Pv m env M →
  tt env M fun k M1 => if k = true then t { E with nx := fun env' M' => ∃ m', m' < m ∧ Pv m' env' M', ct := fun env' M' => ∃ m', m' < m ∧ Pv m' env' M', bk := E.nx } env M1 else E.nx env M1
theorem ds_while {body : List Stmt} (hp : PassesOwn (model X.prog X.w) X.A X.env X.xe) (hc : DT X c tt) (hb : DSs X body t) : DS X (.While c body [] pos) (dWhile tt t) :=
  PS.imp (ps_while hp hc hb) fun E σ H ⟨F, env, M, D0, he, hc, ⟨Pv, ⟨m0, p0⟩, turn⟩, hp⟩ => by
    refine ⟨fun m σ' H' => ∃ F' env' M', Same F F' ∧ Fr F H M F' H' M' ∧ EnvR X.K F' σ' env' ∧ Core X.K F' H' M' ∧ Pv m env' M', ⟨m0, F, env, M, Same.refl F, Fr.refl, he, hc, p0⟩, ?_⟩
    rintro m σ1 H1 ⟨F1, env1, M1, s1, f1, r1, c1, p1⟩
    refine ⟨F1, env1, M1, _, r1, c1, turn m env1 M1 p1, fun k M2 F2 H2 q s2 f2 c2 => ?_⟩
    cases k with
    | false => exact hp.nx _ M2 F2 H2 _ q (s1.trans s2) (f1.trans f2) c2 (r1.mono s2)
    | true =>
      have go : PostN X.K F2 H2 M2 (fun env' M' => ∃ m', m' < m ∧ Pv m' env' M') (fun σ' H' => ∃ m', m' < m ∧ ∃ F' env' M', Same F F' ∧ Fr F H M F' H' M' ∧ EnvR X.K F' σ' env' ∧ Core X.K F' H' M' ∧ Pv m' env' M') :=
        fun env' M' F' H' σ' ⟨m', hm, p'⟩ s f c r => ⟨m', hm, F', env', M', (s1.trans s2).trans s, (f1.trans f2).trans f, r, c, p'⟩
      rw [if_pos rfl]
      refine ⟨_, fun σ' H' z => z, F2, env1, M2, _, r1.mono s2, c2, q, ⟨go, (hp.after (s1.trans s2) (f1.trans f2)).rt, (hp.after (s1.trans s2) (f1.trans f2)).nx, go⟩⟩
/-- what a loop walks: the items -/
structure Yl (K : PySem.W.Frag) [GI K] (J : It) (F : Hp) (ds : List D) (kp : Mp → Prop) : Prop where
  go : ∀ {F' H : Hp} {M : Mp} {i : Nat}, Same F F' → Core K F' H M → kp M → i < ds.length → J.go i H
  stop : ∀ {F' H : Hp} {M : Mp} {i : Nat}, Same F F' → Core K F' H M → kp M → ds.length ≤ i → J.stop i H
  yld : ∀ {F' H H' : Hp} {M : Mp} {i : Nat} {x : V}, Same F F' → Core K F' H M → kp M → i < ds.length → J.yld i H x H' → ∃ d F'', ds[i]? = some d ∧ Same F' F'' ∧ Core K F'' H' M ∧ Fr F' H M F'' H' M ∧ Rep K F'' d x
theorem Yl.mono {J : It} {F F1 : Hp} {ds : List D} {kp : Mp → Prop} (y : Yl K J F ds kp) (s : Same F F1) : Yl K J F1 ds kp := ⟨fun s' => y.go (s.trans s'), fun s' => y.stop (s.trans s'), fun s' => y.yld (s.trans s')⟩
abbrev DTI := DSt → Mp → (List D → (Mp → Prop) → Mp → Prop) → Prop
def lI (K : PySem.W.Frag) [GI K] (t : DTI) : TI := fun σ H R => ∃ F env M R0, EnvR K F σ env ∧ Core K F H M ∧ t env M R0 ∧ ∀ ds kp M' F' H' J, R0 ds kp M' → Same F F' → Fr F H M F' H' M' → Core K F' H' M' → Yl K J F' ds kp → R J H'
abbrev DI (X : Cx) [GI X.K] (tg iter : Expr) (t : DTI) : Prop := PI X tg iter (lI X.K t)
theorem PI.imp {tg iter : Expr} {t t' : TI} (h : PI X tg iter t) (i : ∀ σ H R, t' σ H R → t σ H R) : PI X tg iter t' := ⟨fun pins s σ H R I q => h.run pins s σ H R I (i σ H R q)⟩
def dFor (ti : DTI) (g : DTG) (t : DTS) : DTS := fun E env M => ti env M fun ds kp M1 => ∃ Pv : Nat → DSt → Mp → Prop, Pv 0 env M1 ∧ (∀ i env M, Pv i env M → kp M) ∧
  (∀ i d env M, ds[i]? = some d → Pv i env M → g d env M fun env' M' => t { E with nx := Pv (i + 1), ct := Pv (i + 1), bk := E.nx } env' M') ∧ ∀ env M, Pv ds.length env M → E.nx env M
theorem ds_for {tg iter : Expr} {body : List Stmt} {ti : DTI} {g : DTG} (hp : PassesOwn (model X.prog X.w) X.A X.env X.xe) (hc : X.calm = true) (hi : DI X tg iter ti) (hg : DG X tg g) (hb : DSs X body t)
    (hs : ∀ x, foldedSetIterable iter X.env x = pure x := by intro _; rfl) : DS X (.For tg iter body [] pos) (dFor ti g t) :=
  PS.imp (ps_for hp hc hi hg hb hs) fun E σ H ⟨F, env, M, D0, he, hc, ht, hp⟩ => by
    refine ⟨F, env, M, _, he, hc, ht, fun ds kp M1 F1 H1 J q s1 f1 c1 Y => ?_⟩
    obtain ⟨Pv, p0, hk, turn, fin⟩ := q
    refine ⟨fun i m σ' H' => m = ds.length - i ∧ i ≤ ds.length ∧ ∃ F' env' M', Same F1 F' ∧ Fr F1 H1 M1 F' H' M' ∧ EnvR X.K F' σ' env' ∧ Core X.K F' H' M' ∧ Pv i env' M', ⟨_, rfl, Nat.zero_le _, F1, env, M1, Same.refl _, Fr.refl, he.mono s1, c1, p0⟩, ?_⟩
    rintro i m σ2 H2 ⟨rfl, hle, F2, env2, M2, s2, f2, r2, c2, p2⟩
    have kk := hk _ _ _ p2
    by_cases hlt : i < ds.length
    · refine .inr ⟨Y.go s2 c2 kk hlt, fun σ' H' => ∃ F' env' M', Same F1 F' ∧ Fr F1 H1 M1 F' H' M' ∧ EnvR X.K F' σ' env' ∧ Core X.K F' H' M' ∧ Pv (i + 1) env' M', fun σ' H' z => ⟨_, by omega, rfl, hlt, z⟩, fun x H3 y => ?_⟩
      obtain ⟨d, F3, hd, s3, c3, f3, r3⟩ := Y.yld s2 c2 kk hlt y
      have t1 := turn i d env2 M2 hd p2
      have go : PostN X.K F3 H3 M2 (Pv (i + 1)) (fun σ' H' => ∃ F' env' M', Same F1 F' ∧ Fr F1 H1 M1 F' H' M' ∧ EnvR X.K F' σ' env' ∧ Core X.K F' H' M' ∧ Pv (i + 1) env' M') :=
        fun env' M' F' H' σ' p' s f c r => ⟨F', env', M', (s2.trans s3).trans s, (f2.trans f3).trans f, r, c, p'⟩
      have hp' := hp.after ((s1.trans s2).trans s3) ((f1.trans f2).trans f3)
      exact ⟨F3, env2, M2, d, _, r2.mono s3, c3, r3, t1, fun env' M' F' H' σ' p' s f c r => ⟨F', env', M', _, r, c, p', ⟨go.after s f, (hp'.after s f).rt, (hp'.after s f).nx, go.after s f⟩⟩⟩
    · have e : i = ds.length := by omega
      subst e
      exact .inl ⟨Y.stop s2 c2 kk (Nat.le_refl _), hp.nx _ M2 F2 H2 _ (fin _ _ p2) (s1.trans s2) (f1.trans f2) c2 r2⟩
end
end DL
namespace DL
open PySem PySem.Spec PyProof.Rows L2
section
variable {X : Cx} {GX : GI X.K} {K : PySem.W.Frag} {G : GI K} {a b c e : Expr} {es : List Expr} {ta tb tc : DTE} {pos : Pos} {tt : DTT} {tr : DTA}
/-! ### argument lists, displays -/
def dNil : DTA := fun _ M Q => Q [] M
def dCons (ta : DTE) (tr : DTA) : DTA := fun env M Q => ta env M fun x M1 => tr env M1 fun xs M2 => Q (x :: xs) M2
theorem da_nil : DA X [] dNil := PA.imp pa_nil fun σ H Q ⟨F, env, M, Q0, he, hc, ht, hp⟩ => hp [] M F H [] ht (Same.refl F) Fr.refl hc Reps.nil
theorem da_cons (ha : DE X e ta) (hr : DA X es tr) (hs : starEach (e :: es) X.env = (false, eval e X.env) :: starEach es X.env := by rfl) : DA X (e :: es) (dCons ta tr) :=
  PA.imp (pa_cons ha hr hs) fun σ H Q ⟨F, env, M, Q0, he, hc, ht, hp⟩ => ⟨F, env, M, _, he, hc, ht, fun d M1 F1 H1 v q s1 f1 c1 r1 => ⟨F1, env, M1, _, he.mono s1, c1, q, fun ds M2 F2 H2 vs q2 s2 f2 c2 r2 =>
    hp _ M2 F2 H2 _ q2 (s1.trans s2) (f1.trans f2) c2 (Reps.cons (r1.mono s2) r2)⟩⟩
theorem pa_of {t : TA} {td : DTA} (h : PA X es t) (i : ∀ {F H M env σ Q0 Q}, EnvR X.K F σ env → Core X.K F H M → td env M Q0 → PostA X.K F H M Q0 Q → t σ H Q) : DA X es td :=
  PA.imp h fun _ _ _ ⟨_, _, _, _, he, hc, ht, hp⟩ => i he hc ht hp
def dTup (t : DTA) : DTE := fun env M Q => t env M fun ds M1 => ds.length ≤ sizeLine ∧ Q (.tup ds) M1
def dLst (t : DTA) : DTE := fun env M Q => t env M fun ds M1 => ds.length ≤ sizeLine ∧ Q (.lst ds) M1
def dLstM (t : DTA) : DTE := fun env M Q => t env M fun ds M1 => ds.length ≤ sizeLine ∧ ∀ p, M1 p = none → Q (.ptr p) (up M1 p (.lst ds))
theorem de_tup {k} (h : DA X es tr) : DE X (.Tuple es k pos) (dTup tr) := PE.imp (pe_tup h) fun σ H Q ⟨F, env, M, Q0, he, hc, ht, hp⟩ =>
  ⟨F, env, M, _, he, hc, ht, fun ds M1 F1 H1 vs q s1 f1 c1 r1 => ⟨by rw [r1.len]; exact q.1, (hp.after s1 f1).tup c1 r1 q.2⟩⟩
theorem de_lst (h : DA X es tr) : DE X (.List es pos) (dLst tr) := PE.imp (pe_lst h) fun σ H Q ⟨F, env, M, Q0, he, hc, ht, hp⟩ =>
  ⟨F, env, M, _, he, hc, ht, fun ds M1 F1 H1 vs q s1 f1 c1 r1 => ⟨by rw [r1.len]; exact q.1, (hp.after s1 f1).lst c1 r1 q.2⟩⟩
theorem Post.ptr {F H : Hp} {M : Mp} {Q0 : DQ} {Q : VK} (p : Post K F H M Q0 Q) (c : Core K F H M) {o : HO} {mo : MO} (r : RepM K F mo o) (q : ∀ x, M x = none → Q0 (.ptr x) (up M x mo)) : ∀ x, H x = none → Q (.ref x) (upd H x o) := fun x hx => by
  obtain ⟨c1, f1⟩ := c.newM hx r
  exact p _ _ _ _ _ (q x (c.nones hx).2) (Same.refl F) f1 c1 (by rw [Rep])
theorem de_lstM (h : DA X es tr) : DE X (.List es pos) (dLstM tr) := PE.imp (pe_lst h) fun σ H Q ⟨F, env, M, Q0, he, hc, ht, hp⟩ =>
  ⟨F, env, M, _, he, hc, ht, fun ds M1 F1 H1 vs q s1 f1 c1 r1 => ⟨by rw [r1.len]; exact q.1, (hp.after s1 f1).ptr (mo := .lst ds) c1 ⟨vs, rfl, r1⟩ q.2⟩⟩
/-! ### what is walked -/
theorem yl_list {F : Hp} {a : Addr} {vs : List V} {ds : List D} {kp : Mp → Prop} (r : Reps K F ds vs) (h : ∀ {F' H : Hp} {M : Mp}, Same F F' → Core K F' H M → kp M → SqL K H a vs) : Yl K (Itl K a) F ds kp where
  go := fun {F' H M i} s c k hi => ⟨vs, vs[i]'(by rw [r.len]; exact hi), h s c k, by simp⟩
  stop := fun {F' H M i} s c k hi => ⟨vs, h s c k, by rw [r.len]; exact hi⟩
  yld := fun {F' H H' M i x} s c k hi y => by
    obtain ⟨e, y⟩ := y
    subst e
    obtain ⟨d, e1, e2⟩ := r.get' (y vs (h s c k))
    exact ⟨d, F', e1, Same.refl _, c, Fr.refl, e2.mono s⟩
def dIter (ta : DTE) : DTI := fun env M R => ta env M fun x M1 => match x with
  | .lst ds => R ds (fun _ => True) M1
  | .lsx ds => R ds (fun _ => True) M1
  | .ptr a => match M1 a with | some (.lst ds) => R ds (fun M => M a = some (.lst ds)) M1 | _ => False
  | _ => False
theorem di_list {tg : Expr} (h : DE X e ta) : DI X tg e (dIter ta) := PI.imp (pi_list h) fun σ H R ⟨F, env, M, R0, he, hc, ht, hp⟩ =>
  ⟨F, env, M, _, he, hc, ht, fun d M1 F1 H1 v q s1 f1 c1 r1 => by
    revert q
    dsimp only
    split <;> intro q
    · rw [Rep] at r1
      obtain ⟨a, vs, e1, e2, e3⟩ := r1
      exact ⟨a, e1, ⟨vs, SqL.of (c1.same _ _ e2)⟩, hp _ _ _ _ _ _ q s1 f1 c1 (yl_list e3 fun s c k => SqL.of (c.same _ _ (s _ _ e2)))⟩
    · rw [Rep] at r1
      obtain ⟨a, vs, e1, e2, e3⟩ := r1
      exact ⟨a, e1, ⟨vs, c1.same.seq e2⟩, hp _ _ _ _ _ _ q s1 f1 c1 (yl_list e3 fun s c k => c.same.seq (s.seq e2))⟩
    · rename_i a
      split at q
      · rename_i ds g
        rw [Rep] at r1
        obtain ⟨_, o, ho, vs, e1, e2⟩ := c1.mem a _ g
        subst e1
        have y : Yl X.K (Itl X.K a) F1 ds (fun M => M a = some (.lst ds)) := {
          go := fun {F' H M i} s c k hi => by
            obtain ⟨_, o, ho, vs, e1, e2⟩ := c.mem a _ k
            subst e1
            exact ⟨vs, vs[i]'(by rw [e2.len]; exact hi), SqL.of ho, by simp⟩
          stop := fun {F' H M i} s c k hi => by
            obtain ⟨_, o, ho, vs, e1, e2⟩ := c.mem a _ k
            subst e1
            exact ⟨vs, SqL.of ho, by rw [e2.len]; exact hi⟩
          yld := fun {F' H H' M i x} s c k hi y => by
            obtain ⟨_, o, ho, vs, e1, e2⟩ := c.mem a _ k
            subst e1
            obtain ⟨e, y⟩ := y
            subst e
            obtain ⟨d, e3, e4⟩ := e2.get' (y vs (SqL.of ho))
            exact ⟨d, F', e3, Same.refl _, c, Fr.refl, e4⟩ }
        exact ⟨a, r1, ⟨vs, SqL.of ho⟩, hp _ _ _ _ _ _ q s1 f1 c1 y⟩
      · exact q.elim
    · exact q.elim⟩
def dIterT (ta : DTE) : DTI := fun env M R => ta env M fun x M1 => match x with
  | .tup ds => R ds (fun _ => True) M1
  | _ => False
theorem di_tup {tg : Expr} (h : DE X e ta) : DI X tg e (dIterT ta) := PI.imp (pi_tup h) fun σ H R ⟨F, env, M, R0, he, hc, ht, hp⟩ =>
  ⟨F, env, M, _, he, hc, ht, fun d M1 F1 H1 v q s1 f1 c1 r1 => by
    revert q
    dsimp only
    split <;> intro q
    · rename_i ds
      rw [Rep] at r1
      obtain ⟨a, vs, e1, e2, e3⟩ := r1
      have y : Yl X.K (Itt X.K a) F1 ds (fun _ => True) := {
          go := fun {F' H M i} s c k hi => ⟨vs, vs[i]'(by rw [e3.len]; exact hi), sameT c.same (sameT s e2), by simp⟩
          stop := fun {F' H M i} s c k hi => ⟨vs, sameT c.same (sameT s e2), by rw [e3.len]; exact hi⟩
          yld := fun {F' H H' M i x} s c k hi y => by
            obtain ⟨e, y⟩ := y
            subst e
            obtain ⟨d, e4, e5⟩ := e3.get' (y vs (sameT c.same (sameT s e2)))
            exact ⟨d, F', e4, Same.refl _, c, Fr.refl, e5.mono s⟩ }
      exact ⟨a, e1, ⟨vs, sameT c1.same e2⟩, hp _ _ _ _ _ _ q s1 f1 c1 y⟩
    · exact q.elim⟩
/-- the sgs of a text -/
def sgs (x : Str) : List D := x.cps.toList.map fun c => .str ⟨#[c]⟩
def dIterS (ta : DTE) : DTI := fun env M R => ta env M fun x M1 => match x with
  | .str z => R (sgs z) (fun _ => True) M1
  | _ => False
theorem di_str {tg : Expr} (h : DE X e ta) : DI X tg e (dIterS ta) := PI.imp (pi_str h) fun σ H R ⟨F, env, M, R0, he, hc, ht, hp⟩ =>
  ⟨F, env, M, _, he, hc, ht, fun d M1 F1 H1 v q s1 f1 c1 r1 => by
    cases d with
    | str z =>
      rw [Rep] at r1
      have hl : (sgs z).length = z.cps.size := by simp [sgs]
      have y : Yl X.K (Its z) F1 (sgs z) (fun _ => True) := {
          go := fun {F' H M i} s c k hi => by rw [hl] at hi; exact hi
          stop := fun {F' H M i} s c k hi => by rw [hl] at hi; exact hi
          yld := fun {F' H H' M i x} s c k hi y => by
            obtain ⟨e, cc, e1, e2⟩ := y
            subst e
            refine ⟨.str ⟨#[cc]⟩, F', ?_, Same.refl _, c, Fr.refl, by rw [Rep]; exact e2⟩
            simp [sgs, e1] }
      exact ⟨z, r1, hp _ _ _ _ _ _ q s1 f1 c1 y⟩
    | _ => exact False.elim q⟩
def rng (lo : Int) (n : Nat) : List D := (List.range n).map fun i => .int (lo + (i : Nat))
theorem yl_rng {F : Hp} {lo : Int} {n : Nat} : Yl K (Itr lo n) F (rng lo n) (fun _ => True) where
  go := fun {F' H M i} s c k hi => by
    have h : i < n := by simpa [rng] using hi
    exact h
  stop := fun {F' H M i} s c k hi => by
    have h : n ≤ i := by simpa [rng] using hi
    exact h
  yld := fun {F' H H' M i x} s c k hi y => by
    obtain ⟨e, e1⟩ := y
    subst e e1
    have hi' : i < n := by simpa [rng] using hi
    exact ⟨.int (lo + (i : Nat)), F', by simp [rng, hi'], Same.refl _, c, Fr.refl, by rw [Rep]⟩
def dRng1 (tr : DTA) : DTI := fun env M R => tr env M fun ds M1 => match ds with
  | [.int j] => (-(2 ^ 62) ≤ j ∧ j < 2 ^ 62) ∧ R (rng 0 j.toNat) (fun _ => True) M1
  | _ => False
theorem di_rng1 {tg : Expr} {p : Pos} (hm : X.mg "range" = none) (ha : DA X [a] tr) (hg : Gl X "range" := by rfl) (hs : starEach [a] X.env = [(false, eval a X.env)] := by rfl) : DI X tg (.Call (.Name "range" p) [a] [] pos) (dRng1 tr) :=
  PI.imp (pi_range1 hg hm ha hs) fun σ H R ⟨F, env, M, R0, he, hc, ht, hp⟩ => ⟨F, env, M, _, he, hc, ht, fun ds M1 F1 H1 vs q s1 f1 c1 r1 => by
    revert q
    dsimp only
    split <;> intro q
    · simp only [Reps, Rep] at r1
      obtain ⟨v, r, e1, e2, e3⟩ := r1
      subst e1 e2 e3
      exact ⟨_, rfl, q.1.1, q.1.2, hp _ _ _ _ _ _ q.2 s1 f1 c1 yl_rng⟩
    · exact q.elim⟩
def dRng2 (tr : DTA) : DTI := fun env M R => tr env M fun ds M1 => match ds with
  | [.int i, .int j] => (-(2 ^ 62) ≤ i ∧ i < 2 ^ 62 ∧ -(2 ^ 62) ≤ j ∧ j < 2 ^ 62) ∧ R (rng i (j - i).toNat) (fun _ => True) M1
  | _ => False
theorem di_rng2 {tg : Expr} {p : Pos} (hm : X.mg "range" = none) (ha : DA X [a, b] tr) (hg : Gl X "range" := by rfl) (hs : starEach [a, b] X.env = [(false, eval a X.env), (false, eval b X.env)] := by rfl) (hs2 : starEach [b] X.env = [(false, eval b X.env)] := by rfl) : DI X tg (.Call (.Name "range" p) [a, b] [] pos) (dRng2 tr) :=
  PI.imp (pi_range2 hg hm ha hs hs2) fun σ H R ⟨F, env, M, R0, he, hc, ht, hp⟩ => ⟨F, env, M, _, he, hc, ht, fun ds M1 F1 H1 vs q s1 f1 c1 r1 => by
    revert q
    dsimp only
    split <;> intro q
    · simp only [Reps, Rep] at r1
      obtain ⟨v, r, e1, e2, v', r', e4, e5, e6⟩ := r1
      subst e1 e2 e4 e5 e6
      exact ⟨_, _, rfl, q.1, hp _ _ _ _ _ _ q.2 s1 f1 c1 yl_rng⟩
    · exact q.elim⟩
/-! ### comprehensions -/
def wipeD (env : DSt) : List Nat → DSt
  | [] => env
  | v :: vs => (wipeD env vs).set v none
theorem EnvR.wipe {F : Hp} {σ : L2.St} {env : DSt} (h : EnvR K F σ env) : ∀ vs : List Nat, EnvR K F (wipe σ vs) (wipeD env vs)
  | [] => h
  | v :: vs => by
    have ih := EnvR.wipe h vs
    refine ⟨by unfold L2.wipe wipeD; rw [List.length_set, List.length_set]; exact ih.1, fun i d q => ?_⟩
    unfold wipeD at q
    unfold L2.wipe
    by_cases hv : v = i
    · subst hv
      by_cases hl : v < (wipeD env vs).length
      · rw [List.getElem?_set_self hl] at q; cases q
      · rw [List.getElem?_eq_none (by simp; omega)] at q; cases q
    · rw [List.getElem?_set_ne hv] at q ⊢
      exact ih.2 i d q
theorem wipe_set {σ : L2.St} {i : Nat} {x : Option V} : ∀ {vs : List Nat}, i ∈ vs → wipe (σ.set i x) vs = wipe σ vs
  | v :: vs, h => by
    have key : ∀ (ws : List Nat) (τ : L2.St) (y : Option V), wipe (τ.set i y) ws = (wipe τ ws).set i (if i ∈ ws then none else y) ∨ wipe (τ.set i y) ws = wipe τ ws := by
      intro ws
      induction ws with
      | nil => intro τ y; left; simp [wipe]
      | cons w ws ih =>
        intro τ y
        unfold wipe
        by_cases hw : w = i
        · subst hw
          rcases ih τ y with e | e
          · right; rw [e, List.set_set]
          · right; rw [e]
        · rcases ih τ y with e | e
          · left; rw [e, List.set_comm _ _ (Ne.symm hw)]; simp [Ne.symm hw]
          · right; rw [e]
    rcases key (v :: vs) σ x with e | e
    · rw [e, if_pos h]
      have : ∀ (ws : List Nat) (τ : L2.St), i ∈ ws → (wipe τ ws).set i none = wipe τ ws := by
        intro ws
        induction ws with
        | nil => intro τ h; cases h
        | cons w ws ih =>
          intro τ h
          unfold wipe
          by_cases hw : w = i
          · subst hw; rw [List.set_set]
          · rw [List.set_comm _ _ hw]
            rcases List.mem_cons.mp h with z | z
            · exact absurd z.symm hw
            · rw [ih τ z]
      exact this _ _ h
    · exact e
theorem wipe_idem {σ : L2.St} : ∀ vs : List Nat, wipe (wipe σ vs) vs = wipe σ vs
  | [] => rfl
  | v :: vs => by
    show (wipe ((wipe σ vs).set v none) vs).set v none = (wipe σ vs).set v none
    by_cases h : v ∈ vs
    · rw [wipe_set h, wipe_idem vs]
    · have key : ∀ (ws : List Nat) (τ : L2.St), v ∉ ws → wipe (τ.set v none) ws = (wipe τ ws).set v none := by
        intro ws
        induction ws with
        | nil => intro τ _; rfl
        | cons w ws ih =>
          intro τ hn
          have h1 : w ≠ v := fun e => hn (by rw [e]; exact List.mem_cons_self)
          show (wipe (τ.set v none) ws).set w none = ((wipe τ ws).set w none).set v none
          rw [ih τ fun z => hn (List.mem_cons_of_mem _ z), List.set_comm _ _ h1]
      rw [key vs _ h, List.set_set, wipe_idem vs]
def TgL (K : PySem.W.Frag) [GI K] (g : TG) (dg : DTG) (vs : List Nat) : Prop := ∀ {F H : Hp} {M : Mp} {σ : L2.St} {env : DSt} {d : D} {v : V} {Q0 : DSt → Mp → Prop} {Q : L2.St → Hp → Prop}, EnvR K F σ env → Core K F H M → Rep K F d v → dg d env M Q0 →
  (∀ σ' env', wipe σ' vs = wipe σ vs → EnvR K F σ' env' → Q0 env' M → Q σ' H) → g v σ H Q
def TgsL (K : PySem.W.Frag) [GI K] (g : TGs) (dg : DTGs) (vs : List Nat) : Prop := ∀ {F H : Hp} {M : Mp} {σ : L2.St} {env : DSt} {d : List D} {v : List V} {Q0 : DSt → Mp → Prop} {Q : L2.St → Hp → Prop}, EnvR K F σ env → Core K F H M → Reps K F d v → dg d env M Q0 →
  (∀ σ' env', wipe σ' vs = wipe σ vs → EnvR K F σ' env' → Q0 env' M → Q σ' H) → g v σ H Q
theorem tg_name {i : Nat} {vs : List Nat} (h : i ∈ vs) : TgL K (gName i) (dgName i) vs := fun he hc r q k => k _ _ (wipe_set h) (he.set i r) q
theorem tgs_nil {vs : List Nat} : TgsL K gNil dgNil vs := fun he hc r q k => by
  obtain ⟨e, q⟩ := q
  subst e
  rw [Reps] at r
  exact ⟨r, k _ _ rfl he q⟩
theorem tgs_cons {vs : List Nat} {g : TG} {dg : DTG} {gs : TGs} {dgs : DTGs} (h : TgL K g dg vs) (hs : TgsL K gs dgs vs) : TgsL K (gCons g gs) (dgCons dg dgs) vs := fun {F H M σ env d v Q0 Q} he hc r q k => by
  cases d with
  | nil => exact False.elim q
  | cons d ds =>
    rw [Reps] at r
    obtain ⟨v1, r1, e1, e2, e3⟩ := r
    exact ⟨v1, r1, e1, h he hc e2 q fun σ' env' w he' q' => hs he' hc e3 q' fun σ2 env2 w2 => k σ2 env2 (w2.trans w)⟩
theorem tg_tup {n : Nat} {vs : List Nat} {gs : TGs} {dgs : DTGs} (hs : TgsL K gs dgs vs) : TgL K (gTup K n gs) (dgTup n dgs) vs := fun {F H M σ env d v Q0 Q} he hc r q k => by
  cases d with
  | tup ds =>
    rw [Rep] at r
    obtain ⟨a, ws, e1, e2, e3⟩ := r
    exact ⟨a, ws, e1, sameT hc.same e2, by rw [e3.len]; exact q.1, hs he hc e3 q.2 k⟩
  | _ => exact False.elim q
def dLc (ti : DTI) (g : DTG) (tt : DTT) (te : DTE) (vs : List Nat) : DTE := fun env M Q => ti env M fun ds kp M1 => ∃ Pv : Nat → List D → Mp → Prop, Pv 0 [] M1 ∧ (∀ i acc M, Pv i acc M → kp M) ∧
  (∀ i d acc M, ds[i]? = some d → Pv i acc M → g d (wipeD env vs) M fun env2 M2 => tt env2 M2 fun b M3 => if b = true then te env2 M3 fun y M4 => acc.length < sizeLine ∧ Pv (i + 1) (acc ++ [y]) M4 else Pv (i + 1) acc M3) ∧
  ∀ acc M, Pv ds.length acc M → Q (.lst acc) M
abbrev DTs (X : Cx) [GI X.K] (ifs : List Expr) (t : DTT) : Prop := PTs X ifs (lT X.K t)
def dYes : DTT := fun _ M Q => Q true M
theorem dts_nil : DTs X [] dYes := ⟨fun pins s σ H Q I ⟨F, env, M, Q0, he, hc, ht, hp⟩ => pts_nil.run pins s σ H Q I (hp true M F H ht (Same.refl F) Fr.refl hc)⟩
theorem dts_one (h : DT X c tt) : DTs X [c] tt := pts_one h
theorem l_lc {ti : DTI} {g : TG} {dg : DTG} {te : DTE} {vs : List Nat} (tl : TgL K g dg vs) : ∀ σ H Q, lE K (dLc ti dg tt te vs) σ H Q → tLc (lI K ti) g (lT K tt) (lE K te) vs σ H Q := fun σ H Q ⟨F, env, M, Q0, he, hc, ht, hp⟩ => by
  refine ⟨F, env, M, _, he, hc, ht, fun ds kp M1 F1 H1 J q s1 f1 c1 Y L hL => ?_⟩
  obtain ⟨Pv, p0, hk, turn, fin⟩ := q
  have n1 := c1.nones hL
  have c1' : Core K F1 (upd H1 L (.lst [])) M1 := c1.out hL _
  have fL : Fr F1 H1 M1 F1 (upd H1 L (.lst [])) M1 := fun a o e n => ⟨by rw [upd_ne (ne_of_none e hL)]; exact e, n, fun z => z⟩
  refine ⟨fun i m H' => m = ds.length - i ∧ i ≤ ds.length ∧ ∃ F' M' acc va, Same F1 F' ∧ Fr F1 H1 M1 F' H' M' ∧ Core K F' H' M' ∧ H' L = some (.lst va) ∧ F' L = none ∧ M' L = none ∧ Reps K F' acc va ∧ Pv i acc M',
    ⟨_, rfl, Nat.zero_le _, F1, M1, [], [], Same.refl _, fL, c1', upd_same, n1.1, n1.2, Reps.nil, p0⟩, ?_⟩
  rintro i m H2 ⟨rfl, hle, F2, M2, acc, va, s2, f2, c2, hv, hF, hM, ra, p2⟩
  have kk := hk _ _ _ p2
  by_cases hlt : i < ds.length
  · refine .inr ⟨Y.go s2 c2 kk hlt, fun H' => ∃ F' M' acc va, Same F1 F' ∧ Fr F1 H1 M1 F' H' M' ∧ Core K F' H' M' ∧ H' L = some (.lst va) ∧ F' L = none ∧ M' L = none ∧ Reps K F' acc va ∧ Pv (i + 1) acc M', fun H' z => ⟨_, by omega, rfl, hlt, z⟩, fun x H3 y => ?_⟩
    obtain ⟨d, F3, hd, s3, c3, f3, r3⟩ := Y.yld s2 c2 kk hlt y
    obtain ⟨hv3, _, hF3⟩ := f3 L _ hv hM
    refine tl (((he.mono s1).mono (s2.trans s3)).wipe vs) c3 r3 (turn i d acc M2 hd p2) fun σ' env' hw he' q' => ⟨hw.trans (wipe_idem vs), F3, env', M2, _, he', c3, q', fun b M4 F4 H4 q4 s4 f4 c4 => ?_⟩
    obtain ⟨hv4, hM4, hF4⟩ := f4 L _ hv3 hM
    cases b with
    | false => exact ⟨F4, M4, acc, va, s2.trans (s3.trans s4), f2.trans (f3.trans f4), c4, hv4, hF4 (hF3 hF), hM4, ra.mono (s3.trans s4), q4⟩
    | true =>
      rw [if_pos rfl] at q4 ⊢
      refine ⟨F4, env', M4, _, he'.mono s4, c4, q4, fun z M5 F5 H5 v5 q5 s5 f5 c5 r5 => ?_⟩
      obtain ⟨hv5, hM5, hF5⟩ := f5 L _ hv4 hM4
      have hF' := hF5 (hF4 (hF3 hF))
      have ra5 := ra.mono ((s3.trans s4).trans s5)
      have fr5 : Fr F1 H1 M1 F5 (upd H5 L (.lst (va ++ [v5]))) M5 := fun a o e n => by
        obtain ⟨x1, x2, x3⟩ := (f2.trans (f3.trans (f4.trans f5))) a o e n
        exact ⟨by rw [upd_ne (ne_of_none e hL)]; exact x1, x2, x3⟩
      refine ⟨va, hv5, by rw [ra5.len]; exact q5.1, F5, M5, acc ++ [z], va ++ [v5], s2.trans (s3.trans (s4.trans s5)), fr5, c1.to ⟨fun b u e => ?_, fun a mo e => ?_⟩ (s2.trans (s3.trans (s4.trans s5))) fr5, upd_same, hF', hM5, ra5.app (Reps.one r5), q5.2⟩
      · have hb : b ≠ L := fun z => by rw [z, hF'] at e; cases e
        rw [upd_ne hb]; exact c5.same b u e
      · obtain ⟨x1, o, x2, x3⟩ := c5.mem a mo e
        have ha : a ≠ L := fun z => by rw [z, hM5] at e; cases e
        exact ⟨x1, o, by rw [upd_ne ha]; exact x2, x3⟩
  · have e : i = ds.length := by omega
    subst e
    obtain ⟨o, r, c', s', f'⟩ : ∃ F', Core K F' H2 M2 ∧ Same F2 F' ∧ Fr F1 H1 M1 F' H2 M2 ∧ F' L = some (.lst va) := by
      have s' : Same F2 (upd F2 L (.lst va)) := fun b u e => by rw [upd_ne (ne_of_none e hF)]; exact e
      have fr2 : Fr F1 H1 M1 (upd F2 L (.lst va)) H2 M2 := fun a o e n => by
        obtain ⟨x1, x2, x3⟩ := f2 a o e n
        exact ⟨x1, x2, fun z => by rw [upd_ne (ne_of_none e hL)]; exact x3 z⟩
      refine ⟨upd F2 L (.lst va), c1.to ⟨fun b u e => ?_, fun a mo e => ?_⟩ (s2.trans s') fr2, s', fr2, upd_same⟩
      · by_cases hb : b = L
        · subst hb; rw [upd_same] at e; cases e; exact hv
        · rw [upd_ne hb] at e; exact c2.same b u e
      · obtain ⟨x1, o, x2, x3⟩ := c2.mem a mo e
        have ha : a ≠ L := fun z => by rw [z, hM] at e; cases e
        exact ⟨by rw [upd_ne ha]; exact x1, o, x2, x3.mono s'⟩
    exact .inl ⟨Y.stop s2 c2 kk (Nat.le_refl _), hp _ M2 o H2 _ (fin _ _ p2) (s1.trans (s2.trans c')) (f1.trans s') r (by rw [Rep]; exact ⟨L, va, rfl, f', ra.mono c'⟩)⟩
abbrev ForBlk (X : Cx) (scope : Scope) (P : Cx → Prop) : Prop := ∀ (s : Shared) (H : Hp) (C : Addr) (cl : List (Str × Addr)) (fp : List Addr), P (X.blk s H scope (compEnvC scope cl C X.env) fp)
theorem de_lc {elt tg iter : Expr} {ifs : List Expr} {scope : Scope} {own : List (Str × Nat)} {vs : List Nat} {ti : DTI} {g : TG} {dg : DTG} {te : DTE} (hN : X.N.Nodup) (hi : DI X tg iter ti) (ok : BlkOk X.N X.env.scope scope own) (tl : TgL X.K g dg vs)
    (hg : ForBlk X scope fun Y => PG Y tg g) (ht : ForBlk X scope fun Y => PTs Y ifs (lT X.K tt)) (he : ForBlk X scope fun Y => PE Y elt (lE X.K te)) (ho : own.map (·.2) = vs := by rfl) (hc : X.calm = true := by rfl) (hs : ∀ x, foldedSetIterable iter X.env x = pure x := by intro _; rfl) :
    DE X (.ListComp elt [⟨tg, iter, ifs, 0⟩] scope pos) (dLc ti dg tt te vs) := by
  subst ho
  exact PE.imp (pe_lc hc hN hi ok hg ht he hs) (l_lc tl)
theorem ds_setLc {i : Nat} {y : Str} {py spos : Pos} {elt tg iter : Expr} {ifs : List Expr} {scope : Scope} {own : List (Str × Nat)} {vs : List Nat} {ti : DTI} {g : TG} {dg : DTG} {te : DTE} (hN : X.N.Nodup) (hi : DI X tg iter ti) (ok : BlkOk X.N X.env.scope scope own) (tl : TgL X.K g dg vs)
    (hg : ForBlk X scope fun Y => PG Y tg g) (ht : ForBlk X scope fun Y => PTs Y ifs (lT X.K tt)) (he : ForBlk X scope fun Y => PE Y elt (lE X.K te)) (hy : X.N[i]? = some y := by rfl) (hyl : X.env.scope.names.lookup y = some .local := by rfl)
    (hsw : swapsWith (.ListComp elt [⟨tg, iter, ifs, 0⟩] scope pos) (some (.Name y py)) spos.line X.env = pure true := by exact sw_true rfl rfl rfl (by decide +kernel)) (ho : own.map (·.2) = vs := by rfl) (hc : X.calm = true := by rfl) (hs : ∀ x, foldedSetIterable iter X.env x = pure x := by intro _; rfl) :
    DS X (.Assign [.Name y py] (.ListComp elt [⟨tg, iter, ifs, 0⟩] scope pos) spos) (dAsg (dLc ti dg tt te vs) (dgName i)) := by
  subst ho
  exact PS.imp (ps_setLc hc hN hy hyl hsw hi ok hg ht he hs) fun E σ H ⟨F, env, M, D0, he, hc, ht, hp⟩ => l_lc tl σ H _ ⟨F, env, M, _, he, hc, ht, fun d M1 F1 H1 v q s1 f1 c1 r1 => hp.nx _ M1 F1 H1 _ q s1 f1 c1 ((he.mono s1).set i r1)⟩
end
end DL
namespace DL
open PySem PySem.Spec PyProof.Rows L2
section
variable {X : Cx} {GX : GI X.K} {K : PySem.W.Frag} {G : GI K} {a b c e : Expr} {es : List Expr} {ta tb tc : DTE} {pos : Pos} {tt : DTT} {tr : DTA}
/-! ### calls of built-ins -/
abbrev DC := List D → Mp → DQ → Prop
def LC (K : PySem.W.Frag) [GI K] (r : List V → Hp → VK → Prop) (rd : DC) : Prop := ∀ {F H : Hp} {M : Mp} {ds : List D} {vs : List V} {Q0 : DQ} {Q : VK}, Core K F H M → Reps K F ds vs → rd ds M Q0 → Post K F H M Q0 Q → r vs H Q
theorem CallR.or {f : Value} {r r' : List V → Hp → VK → Prop} (h : CallR X f r) (h' : CallR X f r') : CallR X f (fun xs H Q => r xs H Q ∨ r' xs H Q) := by
  intro pins s σ H xs us Q I rx q
  rcases q with q | q
  · exact h pins s σ H xs us Q I rx q
  · exact h' pins s σ H xs us Q I rx q
def dCB (rd : DC) (tr : DTA) : DTE := fun env M Q => tr env M fun ds M1 => rd ds M1 Q
theorem l_cb {r : List V → Hp → VK → Prop} {rd : DC} (l : LC K r rd) : ∀ σ H Q, lE K (dCB rd tr) σ H Q → tCB r (lA K tr) σ H Q := fun σ H Q ⟨F, env, M, Q0, he, hc, ht, hp⟩ =>
  ⟨F, env, M, _, he, hc, ht, fun ds M1 F1 H1 vs q s1 f1 c1 r1 => l c1 r1 q (hp.after s1 f1)⟩
theorem de_callB {x : Str} {id : String} {r : List V → Hp → VK → Prop} {rd : DC} {p : Pos} (hc : CallR X (.builtin id) r) (l : LC X.K r rd) (hm : X.mg x = none) (hv : bootBuiltins x = some (.builtin id)) (ha : DA X (e :: es) tr) (hg : Gl X x := by rfl) (hn : x ≠ "__name__" := by decide) (hdb : (x == ("__debug__" : Str)) = false := by decide)
    (na : starEach (e :: es) X.env = (false, eval e X.env) :: starEach es X.env := by rfl) (hpl : (backTo pos (starEach es X.env)).any (·.1) = false := by rfl) : DE X (.Call (.Name x p) (e :: es) [] pos) (dCB rd tr) :=
  PE.imp (by first | exact pe_callB hc hg hm hv ha hn hdb na hpl | exact pe_callB hc hg hm hv ha hn hdb) (l_cb l)
theorem de_callTy {x : Str} {T : String} {r : List V → Hp → VK → Prop} {rd : DC} {p : Pos} (hc : CallR X (.type T) r) (l : LC X.K r rd) (hm : X.mg x = none) (hv : bootBuiltins x = some (.type T)) (ha : DA X (e :: es) tr) (hg : Gl X x := by rfl) (hn : x ≠ "__name__" := by decide) (hdb : (x == ("__debug__" : Str)) = false := by decide)
    (na : starEach (e :: es) X.env = (false, eval e X.env) :: starEach es X.env := by rfl) (hpl : (backTo pos (starEach es X.env)).any (·.1) = false := by rfl) : DE X (.Call (.Name x p) (e :: es) [] pos) (dCB rd tr) :=
  PE.imp (by first | exact pe_callTy hc hg hm hv ha hn hdb na hpl | exact pe_callTy hc hg hm hv ha hn hdb) (l_cb l)
theorem reps1 {F : Hp} {d : D} {vs : List V} (h : Reps K F [d] vs) : ∃ v, vs = [v] ∧ Rep K F d v := by
  simp only [Reps] at h
  obtain ⟨v, r, e1, e2, e3⟩ := h
  subst e3
  exact ⟨v, e1, e2⟩
theorem reps2 {F : Hp} {d d' : D} {vs : List V} (h : Reps K F [d, d'] vs) : ∃ v v', vs = [v, v'] ∧ Rep K F d v ∧ Rep K F d' v' := by
  simp only [Reps] at h
  obtain ⟨v, r, e1, e2, v', r', e3, e4, e5⟩ := h
  subst e5 e3
  exact ⟨v, v', e1, e2, e4⟩
def rLen : DC := fun ds M Q => match ds with
  | [.str z] => z.length ≤ sizeLine ∧ Q (.int z.length) M
  | [.tup xs] => Q (.int xs.length) M
  | [x] => match lstOf M x with | some xs => Q (.int xs.length) M | none => False
  | _ => False
theorem o_len : CallR X (.builtin "len") (fun xs H Q => (∃ p ys, xs = [.ref p] ∧ (SqL X.K H p ys ∨ SqT X.K H p ys) ∧ Q (.int ys.length) H) ∨ (∃ z, xs = [.str z] ∧ z.length ≤ sizeLine ∧ Q (.int z.length) H)) := CallR.or call_len_seq call_len_str
theorem l_len : LC K (fun xs H Q => (∃ p ys, xs = [.ref p] ∧ (SqL K H p ys ∨ SqT K H p ys) ∧ Q (.int ys.length) H) ∨ (∃ z, xs = [.str z] ∧ z.length ≤ sizeLine ∧ Q (.int z.length) H)) rLen := by
  intro F H M ds vs Q0 Q c r h p
  unfold rLen at h
  split at h
  · obtain ⟨v, e1, e2⟩ := reps1 r
    rw [Rep] at e2
    subst e1 e2
    exact .inr ⟨_, rfl, h.1, p.int c h.2⟩
  · obtain ⟨v, e1, e2⟩ := reps1 r
    rw [Rep] at e2
    obtain ⟨a, vs, f1, f2, f3⟩ := e2
    subst e1 f1
    exact .inl ⟨a, vs, rfl, .inr (sameT c.same f2), by rw [f3.len]; exact p.int c h⟩
  · split at h
    · rename_i xs g
      obtain ⟨v, e1, e2⟩ := reps1 r
      obtain ⟨a, vs, f1, f2, f3⟩ := lstOf_ok c e2 g
      subst e1 f1
      exact .inl ⟨a, vs, rfl, .inl f2, by rw [f3.len]; exact p.int c h⟩
    · exact h.elim
  · exact h.elim
theorem de_len {p : Pos} (hm : X.mg "len" = none) (ha : DA X [a] tr) (hg : Gl X "len" := by rfl) (na : starEach [a] X.env = (false, eval a X.env) :: starEach [] X.env := by rfl) : DE X (.Call (.Name "len" p) [a] [] pos) (dCB rLen tr) := de_callB o_len l_len hm PySem.boot_len ha hg (by decide) (by decide) na rfl
def rAbs : DC := fun ds M Q => match ds with | [.int i] => Q (.int (if i < 0 then -i else i)) M | _ => False
theorem l_abs : LC K (fun xs H Q => ∃ i, xs = [.int i] ∧ Q (.int (if i < 0 then -i else i)) H) rAbs := by
  intro F H M ds vs Q0 Q c r h p
  unfold rAbs at h
  split at h
  · obtain ⟨v, e1, e2⟩ := reps1 r
    rw [Rep] at e2
    subst e1 e2
    exact ⟨_, rfl, p.int c h⟩
  · exact h.elim
def rInt : DC := fun ds M Q => match ds with
  | [.int i] => Q (.int i) M
  | [.bl k] => Q (.int (if k then 1 else 0)) M
  | [.str a] => ∃ n, PySem.intText? a = some n ∧ a.length ≤ 640 ∧ Q (.int n) M
  | _ => False
theorem l_toInt : LC K (fun xs H Q => ((∃ i, xs = [.int i] ∧ Q (.int i) H) ∨ ∃ k, xs = [.bl k] ∧ Q (.int (if k then 1 else 0)) H) ∨ (∃ a n, xs = [.str a] ∧ PySem.intText? a = some n ∧ a.length ≤ 640 ∧ Q (.int n) H)) rInt := by
  intro F H M ds vs Q0 Q c r h p
  unfold rInt at h
  split at h
  · obtain ⟨v, e1, e2⟩ := reps1 r
    rw [Rep] at e2
    subst e1 e2
    exact .inl (.inl ⟨_, rfl, p.int c h⟩)
  · obtain ⟨v, e1, e2⟩ := reps1 r
    rw [Rep] at e2
    subst e1 e2
    exact .inl (.inr ⟨_, rfl, p.int c h⟩)
  · obtain ⟨v, e1, e2⟩ := reps1 r
    rw [Rep] at e2
    subst e1 e2
    obtain ⟨n, h1, h2, h3⟩ := h
    exact .inr ⟨_, n, rfl, h1, h2, p.int c h3⟩
  · exact h.elim
theorem o_int : CallR X (.type "int") (fun xs H Q => ((∃ i, xs = [.int i] ∧ Q (.int i) H) ∨ ∃ k, xs = [.bl k] ∧ Q (.int (if k then 1 else 0)) H) ∨ (∃ a n, xs = [.str a] ∧ PySem.intText? a = some n ∧ a.length ≤ 640 ∧ Q (.int n) H)) := CallR.or call_int1 call_int_str
theorem de_toInt {p : Pos} (hm : X.mg "int" = none) (ha : DA X [a] tr) (hg : Gl X "int" := by rfl) (na : starEach [a] X.env = (false, eval a X.env) :: starEach [] X.env := by rfl) : DE X (.Call (.Name "int" p) [a] [] pos) (dCB rInt tr) := de_callTy o_int l_toInt hm (by decide +kernel) ha hg (by decide) (by decide) na rfl
def rToList : DC := fun ds M Q => match ds with
  | [.tup xs] => Q (.lst xs) M
  | [x] => match lstOf M x with | some xs => Q (.lst xs) M | none => False
  | _ => False
def rToListM : DC := fun ds M Q => match ds with
  | [.tup xs] => ∀ p, M p = none → Q (.ptr p) (up M p (.lst xs))
  | [x] => match lstOf M x with | some xs => ∀ p, M p = none → Q (.ptr p) (up M p (.lst xs)) | none => False
  | _ => False
theorem l_toList : LC K (fun xs H Q => ∃ p ys, xs = [.ref p] ∧ (SqL K H p ys ∨ SqT K H p ys) ∧ ∀ l, H l = none → Q (.ref l) (upd H l (.lst ys))) rToList := by
  intro F H M ds vs Q0 Q c r h p
  unfold rToList at h
  split at h
  · obtain ⟨v, e1, e2⟩ := reps1 r
    rw [Rep] at e2
    obtain ⟨a, vs, f1, f2, f3⟩ := e2
    subst e1 f1
    exact ⟨a, vs, rfl, .inr (sameT c.same f2), p.lst c f3 h⟩
  · split at h
    · rename_i xs g
      obtain ⟨v, e1, e2⟩ := reps1 r
      obtain ⟨a, vs, f1, f2, f3⟩ := lstOf_ok c e2 g
      subst e1 f1
      exact ⟨a, vs, rfl, .inl f2, p.lst c f3 h⟩
    · exact h.elim
  · exact h.elim
theorem l_toListM : LC K (fun xs H Q => ∃ p ys, xs = [.ref p] ∧ (SqL K H p ys ∨ SqT K H p ys) ∧ ∀ l, H l = none → Q (.ref l) (upd H l (.lst ys))) rToListM := by
  intro F H M ds vs Q0 Q c r h p
  unfold rToListM at h
  split at h
  · obtain ⟨v, e1, e2⟩ := reps1 r
    rw [Rep] at e2
    obtain ⟨a, vs, f1, f2, f3⟩ := e2
    subst e1 f1
    exact ⟨a, vs, rfl, .inr (sameT c.same f2), p.ptr (mo := .lst _) c ⟨vs, rfl, f3⟩ h⟩
  · split at h
    · rename_i xs g
      obtain ⟨v, e1, e2⟩ := reps1 r
      obtain ⟨a, vs, f1, f2, f3⟩ := lstOf_ok c e2 g
      subst e1 f1
      exact ⟨a, vs, rfl, .inl f2, p.ptr (mo := .lst _) c ⟨vs, rfl, f3⟩ h⟩
    · exact h.elim
  · exact h.elim
def rToTup : DC := fun ds M Q => match ds with
  | [.tup xs] => Q (.tup xs) M
  | [x] => match lstOf M x with | some xs => Q (.tup xs) M | none => False
  | _ => False
theorem l_toTup : LC K (fun xs H Q => ∃ p ys, xs = [.ref p] ∧ ((SqL K H p ys ∧ ∀ l, H l = none → Q (.ref l) (upd H l (.tup ys))) ∨ (SqT K H p ys ∧ Q (.ref p) H))) rToTup := by
  intro F H M ds vs Q0 Q c r h p
  unfold rToTup at h
  split at h
  · obtain ⟨v, e1, e2⟩ := reps1 r
    have e3 := e2
    rw [Rep] at e2
    obtain ⟨a, vs, f1, f2, f3⟩ := e2
    subst e1 f1
    exact ⟨a, vs, rfl, .inr ⟨sameT c.same f2, p.val c h e3⟩⟩
  · split at h
    · rename_i xs g
      obtain ⟨v, e1, e2⟩ := reps1 r
      obtain ⟨a, vs, f1, f2, f3⟩ := lstOf_ok c e2 g
      subst e1 f1
      exact ⟨a, vs, rfl, .inl ⟨f2, p.tup c f3 h⟩⟩
    · exact h.elim
  · exact h.elim
def rSum : DC := fun ds M Q => match ds with | [x] => ∃ ns : List Int, lstOf M x = some (ns.map D.int) ∧ Q (.int ns.sum) M | _ => False
theorem l_sum : LC K (L2.rSum K) rSum := by
  intro F H M ds vs Q0 Q c r h p
  unfold rSum at h
  split at h
  · obtain ⟨v, e1, e2⟩ := reps1 r
    obtain ⟨ns, g, h⟩ := h
    obtain ⟨a, vs, f1, f2, f3⟩ := lstOf_ok c e2 g
    have := f3.ints
    subst e1 f1 this
    exact ⟨a, ns, rfl, f2, p.int c h⟩
  · exact h.elim
def rAll : DC := fun ds M Q => match ds with | [x] => ∃ ns : List Bool, lstOf M x = some (ns.map D.bl) ∧ Q (.bl (ns.all id)) M | _ => False
def rAny : DC := fun ds M Q => match ds with | [x] => ∃ ns : List Bool, lstOf M x = some (ns.map D.bl) ∧ Q (.bl (ns.any id)) M | _ => False
theorem Reps.bls {F : Hp} : ∀ {ys : List Bool} {vs : List V}, Reps K F (ys.map D.bl) vs → vs = ys.map V.bl
  | [], vs, h => by rw [List.map_nil, Reps] at h; subst h; rfl
  | y :: ys, vs, h => by
    rw [List.map_cons, Reps] at h
    obtain ⟨v, r, e1, e2, e3⟩ := h
    rw [Rep] at e2
    subst e1 e2
    rw [Reps.bls e3]; rfl
theorem l_all : LC K (L2.rAll K) rAll := by
  intro F H M ds vs Q0 Q c r h p
  unfold rAll at h
  split at h
  · obtain ⟨v, e1, e2⟩ := reps1 r
    obtain ⟨ns, g, h⟩ := h
    obtain ⟨a, vs, f1, f2, f3⟩ := lstOf_ok c e2 g
    have := f3.bls
    subst e1 f1 this
    exact ⟨a, ns, rfl, f2, p.bl c h⟩
  · exact h.elim
theorem l_any : LC K (L2.rAny K) rAny := by
  intro F H M ds vs Q0 Q c r h p
  unfold rAny at h
  split at h
  · obtain ⟨v, e1, e2⟩ := reps1 r
    obtain ⟨ns, g, h⟩ := h
    obtain ⟨a, vs, f1, f2, f3⟩ := lstOf_ok c e2 g
    have := f3.bls
    subst e1 f1 this
    exact ⟨a, ns, rfl, f2, p.bl c h⟩
  · exact h.elim
def rStrN : DC := fun ds M Q => match ds with | [.int n] => n.natAbs.log2 < 1920 ∧ Q (.str (toString n)) M | _ => False
/-! ### methods of built-in types -/
abbrev DM := D → List D → Mp → DQ → Prop
def LM (K : PySem.W.Frag) [GI K] (r : V → List V → Hp → VK → Prop) (rd : DM) : Prop := ∀ {F H : Hp} {M : Mp} {d : D} {v : V} {ds : List D} {vs : List V} {Q0 : DQ} {Q : VK}, Core K F H M → Rep K F d v → Reps K F ds vs → rd d ds M Q0 → Post K F H M Q0 Q → r v vs H Q
def tyD (T : String) (d : D) (M : Mp) : Prop := match d with
  | .str _ => T = "str"
  | d => T = "list" ∧ ∃ ds, lstOf M d = some ds
theorem tyD_ok {F H : Hp} {M : Mp} {T : String} {d : D} {v : V} (c : Core K F H M) (r : Rep K F d v) (h : tyD T d M) : tyV K T v H := by
  unfold tyD at h
  split at h
  · rw [Rep] at r; subst r; exact h
  · obtain ⟨e, ds, g⟩ := h
    obtain ⟨a, vs, f1, f2, f3⟩ := lstOf_ok c r g
    subst f1
    exact .inl ⟨e, vs, f2⟩
def dBM (T : String) (rd : DM) (ta : DTE) (tr : DTA) : DTE := fun env M Q => ta env M fun x M1 => tyD T x M1 ∧ tr env M1 fun xs M2 => rd x xs M2 Q
def dBM0 (T : String) (rd : DM) (ta : DTE) : DTE := fun env M Q => ta env M fun x M1 => tyD T x M1 ∧ rd x [] M1 Q
theorem de_bm {T : String} {name : Str} {id : String} {r : V → List V → Hp → VK → Prop} {rd : DM} {apos cpos : Pos} (pa : PlainAttrs T) (slot : Slot T name id) (hty : typeOf (.builtin id) = pure (.type "method_descriptor")) (hm : MtR X id r) (l : LM X.K r rd) (ho : DE X a ta) (ha : DA X (e :: es) tr)
    (hbase : attributeBase a name X.env (eval a X.env) = eval a X.env := by rfl)
    (hfew : ((backTo cpos (starEach (e :: es) X.env)).all (fun x => !x.1) && (backToKw cpos (keywordEach [] X.env)).all (fun x => x.1.isSome)
      && decide ((e :: es).length + ([] : List Keyword).length + (if ([] : List Keyword).isEmpty then 0 else 1) < 30)) = true := by rfl)
    (hline : (apos.endLine == cpos.line) = true := by rfl) (hs : starEach (e :: es) X.env = (false, eval e X.env) :: starEach es X.env := by rfl) (hplain : (backTo cpos (starEach es X.env)).any (·.1) = false := by rfl) :
    DE X (.Call (.Attribute a name apos) (e :: es) [] cpos) (dBM T rd ta tr) := PE.imp (pe_bm pa slot hty hm ho ha hbase hfew hline hs hplain) fun σ H Q ⟨F, env, M, Q0, he, hc, ht, hp⟩ =>
  ⟨F, env, M, _, he, hc, ht, fun d M1 F1 H1 v q s1 f1 c1 r1 => ⟨tyD_ok c1 r1 q.1, F1, env, M1, _, he.mono s1, c1, q.2, fun ds M2 F2 H2 vs q2 s2 f2 c2 r2 => l c2 (r1.mono s2) r2 q2 (hp.after (s1.trans s2) (f1.trans f2))⟩⟩
theorem de_bm0 {T : String} {name : Str} {id : String} {r : V → List V → Hp → VK → Prop} {rd : DM} {apos cpos : Pos} (pa : PlainAttrs T) (slot : Slot T name id) (hty : typeOf (.builtin id) = pure (.type "method_descriptor")) (hm : MtR X id r) (l : LM X.K r rd) (ho : DE X a ta)
    (hbase : attributeBase a name X.env (eval a X.env) = eval a X.env := by rfl) (hline : (apos.endLine == cpos.line) = true := by rfl) : DE X (.Call (.Attribute a name apos) [] [] cpos) (dBM0 T rd ta) :=
  PE.imp (pe_bm0 pa slot hty hm ho hbase hline) fun σ H Q ⟨F, env, M, Q0, he, hc, ht, hp⟩ => ⟨F, env, M, _, he, hc, ht, fun d M1 F1 H1 v q s1 f1 c1 r1 => ⟨tyD_ok c1 r1 q.1, l c1 r1 Reps.nil q.2 (hp.after s1 f1)⟩⟩
def rS0 (C : Str → Prop) (g : Str → D) : DM := fun x xs M Q => match x, xs with | .str a, [] => C a ∧ Q (g a) M | _, _ => False
def rS1 (C : Str → Str → Prop) (g : Str → Str → D) : DM := fun x xs M Q => match x, xs with | .str a, [.str b] => C a b ∧ Q (g a b) M | _, _ => False
theorem l_s0 {C : Str → Prop} {g : Str → D} {h : Str → V} (e : ∀ F a, Rep K F (g a) (h a)) : LM K (fun x xs H Q => ∃ a, x = .str a ∧ xs = [] ∧ C a ∧ Q (h a) H) (rS0 C g) := by
  intro F H M d v ds vs Q0 Q c r rs h p
  unfold rS0 at h
  split at h
  · simp only [Rep, Reps] at r rs
    exact ⟨_, r, rs, h.1, p.val c h.2 (e F _)⟩
  · exact h.elim
theorem l_s1 {C : Str → Str → Prop} {g : Str → Str → D} {h : Str → Str → V} (e : ∀ F a b, Rep K F (g a b) (h a b)) : LM K (fun x xs H Q => ∃ a b, x = .str a ∧ xs = [.str b] ∧ C a b ∧ Q (h a b) H) (rS1 C g) := by
  intro F H M d v ds vs Q0 Q c r rs h p
  unfold rS1 at h
  split at h
  · obtain ⟨w, e1, e2⟩ := reps1 rs
    simp only [Rep] at r e2
    subst e1 e2
    exact ⟨_, _, r, rfl, h.1, p.val c h.2 (e F _ _)⟩
  · exact h.elim
theorem l_s1' {g : Str → Str → D} {h : Str → Str → V} (e : ∀ F a b, Rep K F (g a b) (h a b)) : LM K (fun x xs H Q => ∃ a b, x = .str a ∧ xs = [.str b] ∧ Q (h a b) H) (rS1 (fun _ _ => True) g) := by
  intro F H M d v ds vs Q0 Q c r rs q p
  obtain ⟨a, b, e1, e2, _, e3⟩ := l_s1 (C := fun _ _ => True) (h := h) e c r rs q p
  exact ⟨a, b, e1, e2, e3⟩
theorem de_lower {apos cpos : Pos} (ho : DE X a ta) (hbase : attributeBase a "lower" X.env (eval a X.env) = eval a X.env := by rfl) (hline : (apos.endLine == cpos.line) = true := by rfl) : DE X (.Call (.Attribute a "lower" apos) [] [] cpos) (dBM0 "str" (rS0 (fun a => a.length ≤ 5592405) fun a => .str (Txt.lower a)) ta) :=
  de_bm0 F.plainAttrs_str F.slot_str_lower F.type_str_lower mt_lower (l_s0 fun F a => by rw [Rep]) ho hbase hline
theorem de_upper {apos cpos : Pos} (ho : DE X a ta) (hbase : attributeBase a "upper" X.env (eval a X.env) = eval a X.env := by rfl) (hline : (apos.endLine == cpos.line) = true := by rfl) : DE X (.Call (.Attribute a "upper" apos) [] [] cpos) (dBM0 "str" (rS0 (fun a => a.length ≤ 5592405) fun a => .str (Txt.upper a)) ta) :=
  de_bm0 F.plainAttrs_str F.slot_str_upper F.type_str_upper mt_upper (l_s0 fun F a => by rw [Rep]) ho hbase hline
theorem de_scount {apos cpos : Pos} (ho : DE X a ta) (ha : DA X [b] tr) (hbase : attributeBase a "count" X.env (eval a X.env) = eval a X.env := by rfl) (hline : (apos.endLine == cpos.line) = true := by rfl) (hs : starEach [b] X.env = (false, eval b X.env) :: starEach [] X.env := by rfl) :
    DE X (.Call (.Attribute a "count" apos) [b] [] cpos) (dBM "str" (rS1 (fun _ _ => True) fun a b => .int (Txt.count a b)) ta tr) :=
  de_bm F.plainAttrs_str F.slot_str_count F.type_str_count mt_count (l_s1' fun F a b => by rw [Rep]) ho ha hbase (by rw [hs]; rfl) hline hs rfl
def rJoin : DM := fun x xs M Q => match x, xs with
  | .str a, [.tup ds] => ∃ ys : List Str, ds = ys.map D.str ∧ (ys.map (·.length)).sum + ys.length * a.length ≤ 16777216 ∧ Q (.str (Txt.join a ys)) M
  | .str a, [x] => ∃ ys : List Str, lstOf M x = some (ys.map D.str) ∧ (ys.map (·.length)).sum + ys.length * a.length ≤ 16777216 ∧ Q (.str (Txt.join a ys)) M
  | _, _ => False
theorem l_join : LM K (fun x xs H Q => ∃ a p, ∃ ys : List Str, x = .str a ∧ xs = [.ref p] ∧ (SqL K H p (ys.map V.str) ∨ SqT K H p (ys.map V.str)) ∧ (ys.map (·.length)).sum + ys.length * a.length ≤ 16777216 ∧ Q (.str (Txt.join a ys)) H) rJoin := by
  intro F H M d v ds vs Q0 Q c r rs h p
  unfold rJoin at h
  split at h
  · obtain ⟨w, e1, e2⟩ := reps1 rs
    simp only [Rep] at r e2
    obtain ⟨ys, e, h1, h2⟩ := h
    obtain ⟨x, vs, f1, f2, f3⟩ := e2
    subst e
    have := f3.strs
    subst e1 f1 this
    exact ⟨_, x, ys, r, rfl, .inr (sameT c.same f2), h1, p.str c h2⟩
  · obtain ⟨w, e1, e2⟩ := reps1 rs
    rw [Rep] at r
    obtain ⟨ys, g, h1, h2⟩ := h
    obtain ⟨x, vs, f1, f2, f3⟩ := lstOf_ok c e2 g
    have := f3.strs
    subst e1 f1 this
    exact ⟨_, x, ys, r, rfl, .inl f2, h1, p.str c h2⟩
  · exact h.elim
theorem de_join {apos cpos : Pos} (ho : DE X a ta) (ha : DA X [b] tr) (hbase : attributeBase a "join" X.env (eval a X.env) = eval a X.env := by rfl) (hline : (apos.endLine == cpos.line) = true := by rfl) (hs : starEach [b] X.env = (false, eval b X.env) :: starEach [] X.env := by rfl) :
    DE X (.Call (.Attribute a "join" apos) [b] [] cpos) (dBM "str" rJoin ta tr) :=
  de_bm F.plainAttrs_str F.slot_str_join F.type_str_join mt_join l_join ho ha hbase (by rw [hs]; rfl) hline hs rfl
/-- a list that M holds is written -/
theorem Post.put {F H : Hp} {M : Mp} {Q0 : DQ} {Q : VK} (p : Post K F H M Q0 Q) (c : Core K F H M) {x : Addr} {o : HO} {mo0 mo : MO} (h : M x = some mo0) (r : RepM K F mo o) {d : D} {v : V} (q : Q0 d (up M x mo)) (rd : Rep K F d v) : Q v (upd H x o) := by
  obtain ⟨c1, f1⟩ := c.write h r
  exact p _ _ _ _ _ q (Same.refl F) f1 c1 rd
theorem ptr_lst {F H : Hp} {M : Mp} {x : Addr} {ds : List D} (c : Core K F H M) (h : M x = some (.lst ds)) : ∃ vs, H x = some (.lst vs) ∧ Reps K F ds vs := by
  obtain ⟨_, o, ho, vs, e1, e2⟩ := c.mem x _ h
  subst e1
  exact ⟨vs, ho, e2⟩
def rAppend : DM := fun x xs M Q => match x, xs with
  | .ptr a, [y] => match M a with | some (.lst ds) => ds.length < sizeLine ∧ Q .non (up M a (.lst (ds ++ [y]))) | _ => False
  | _, _ => False
theorem l_append : LM K L2.rAppend rAppend := by
  intro F H M d v ds vs Q0 Q c r rs h p
  unfold rAppend at h
  split at h
  · split at h
    · rename_i xs g
      obtain ⟨w, e1, e2⟩ := reps1 rs
      rw [Rep] at r
      obtain ⟨ws, h1, h2⟩ := ptr_lst c g
      subst e1 r
      exact ⟨_, ws, w, rfl, rfl, h1, by rw [h2.len]; exact h.1, p.put (mo := .lst _) c g ⟨_, rfl, h2.app (Reps.one e2)⟩ h.2 (by rw [Rep])⟩
    · exact h.elim
  · exact h.elim
theorem de_append {apos cpos : Pos} (ho : DE X a ta) (ha : DA X [b] tr) (hbase : attributeBase a "append" X.env (eval a X.env) = eval a X.env := by rfl) (hline : (apos.endLine == cpos.line) = true := by rfl) (hs : starEach [b] X.env = (false, eval b X.env) :: starEach [] X.env := by rfl) :
    DE X (.Call (.Attribute a "append" apos) [b] [] cpos) (dBM "list" rAppend ta tr) :=
  de_bm F.plainAttrs_list F.slot_list_append F.type_list_append mt_append l_append ho ha hbase (by rw [hs]; rfl) hline hs rfl
def rPop : DM := fun x xs M Q => match x, xs with
  | .ptr a, [] => match M a with | some (.lst ds) => ∃ y, ds[ds.length - 1]? = some y ∧ Q y (up M a (.lst ds.dropLast)) | _ => False
  | _, _ => False
theorem l_pop : LM K L2.rPop rPop := by
  intro F H M d v ds vs Q0 Q c r rs h p
  unfold rPop at h
  split at h
  · split at h
    · rename_i xs g
      rw [Rep] at r
      rw [Reps] at rs
      obtain ⟨ws, h1, h2⟩ := ptr_lst c g
      obtain ⟨y, h3, h4⟩ := h
      obtain ⟨w, q1, q2⟩ := h2.get h3
      subst r rs
      exact ⟨_, ws, w, rfl, rfl, h1, by rw [h2.len]; exact q1, p.put (mo := .lst _) c g ⟨_, rfl, h2.dropLast⟩ h4 q2⟩
    · exact h.elim
  · exact h.elim
theorem de_pop {apos cpos : Pos} (ho : DE X a ta) (hbase : attributeBase a "pop" X.env (eval a X.env) = eval a X.env := by rfl) (hline : (apos.endLine == cpos.line) = true := by rfl) : DE X (.Call (.Attribute a "pop" apos) [] [] cpos) (dBM0 "list" rPop ta) :=
  de_bm0 F.plainAttrs_list F.slot_list_pop F.type_list_pop mt_pop l_pop ho hbase hline
/-! ### stores into lists -/
def dgSub (ta tb : DTE) : DTG := fun d env M Q => ta env M fun o M1 => tb env M1 fun i M2 => match o, i with
  | .ptr a, .int k => match M2 a with | some (.lst ds) => ∃ j, ixN ds.length k = some j ∧ Q env (up M2 a (.lst (ds.set j d))) | _ => False
  | _, _ => False
theorem dg_sub (ha : DE X a ta) (hb : DE X b tb) (hs : ∀ v, assign (.Subscript a b pos) X.env v = (do
      let ov ← holding [v] (eval a X.env)
      let iv ← holding [v, ov] (eval b X.env)
      standAt pos
      holding [v, ov, iv] (setItem ov iv v)
      release [v, ov, iv] []) := by intro _; rfl) : DG X (.Subscript a b pos) (dgSub ta tb) :=
  PG.imp (pg_sub ha hb set_list hs) fun v σ H Q ⟨F, env, M, d, Q0, he, hc, r, ht, hp⟩ => ⟨F, env, M, _, he, hc, ht, fun o M1 F1 H1 ov q s1 f1 c1 r1 => ⟨F1, env, M1, _, he.mono s1, c1, q, fun i M2 F2 H2 iv q2 s2 f2 c2 r2 => by
    revert q2
    dsimp only
    split <;> intro q2
    · rename_i a k
      split at q2
      · rename_i ds g
        obtain ⟨j, h1, h2⟩ := q2
        simp only [Rep] at r1 r2
        obtain ⟨ws, g1, g2⟩ := ptr_lst c2 g
        subst r1 r2
        have r0 := (r.mono s1).mono s2
        obtain ⟨c3, f3⟩ := c2.write (o := .lst (ws.set j v)) (mo := .lst (ds.set j d)) g ⟨_, rfl, Reps.set r0 j g2⟩
        exact ⟨a, ws, k, j, rfl, rfl, g1, by rw [g2.len]; exact h1, hp _ _ _ _ _ h2 (s1.trans s2) ((f1.trans f2).trans f3) c3 ((he.mono s1).mono s2)⟩
      · exact q2.elim
    · exact q2.elim⟩⟩
/-! ### name op= e -/
def dAug (i : Nat) (ta : DTE) (rd : D2) : DTS := fun E env M => match env[i]? with
  | some (some x) => ta env M fun y M1 => rd x y M1 fun z M2 => E.nx (env.set i (some z)) M2
  | _ => False
theorem ds_aug {i : Nat} {x : Str} {op : Operator} {r : R2} {rd : D2} {pos' : Pos} (hN : X.N.Nodup) (he : DE X e ta) (ho : OpR X (inplaceOp op) r) (l : LR2 X.K r rd) (hi : X.N[i]? = some x := by rfl) (hx : Loc X.env.scope x := by first | exact Or.inl rfl | exact Or.inr rfl) (hf : X.fn x = true ∨ X.env.scope.names.lookup x = some .local := by first | exact .inl rfl | exact .inr rfl | assumption) :
    DS X (.AugAssign (.Name x pos') op e pos) (dAug i ta rd) := PS.imp (ps_aug (ti := r) hN hi hx he (fun pins s σ H x y v u Q I rx ry q => ho pins s σ H x y v u Q I rx ry q) hf) fun E σ H ⟨F, env, M, D0, he, hc, ht, hp⟩ => by
    unfold dAug at ht
    split at ht
    · rename_i d g
      obtain ⟨v, e1, r1⟩ := he.2 i d g
      exact ⟨v, e1, F, env, M, _, he, hc, ht, fun y M1 F1 H1 w q s1 f1 c1 r2 => l c1 (r1.mono s1) r2 q fun z M2 F2 H2 u q2 s2 f2 c2 r3 => hp.nx _ M2 F2 H2 _ q2 (s1.trans s2) (f1.trans f2) c2 (((he.mono s1).mono s2).set i r3)⟩
    · exact ht.elim
theorem l_iadd : LR2 K (fun x y H Q => (rI0 fun i j => .int (i + j)) x y H Q ∨ rStrs x y H Q) (fun x y M Q => match x, y with | .int i, .int j => Q (.int (i + j)) M | .str i, .str j => i.length + j.length ≤ sizeLine ∧ Q (.str (i ++ j)) M | _, _ => False) := by
  intro F H M d e v w Q0 Q c r1 r2 h p
  split at h
  · simp only [Rep] at r1 r2
    exact .inl ⟨_, _, r1, r2, p.int c h⟩
  · simp only [Rep] at r1 r2
    exact .inr ⟨_, _, r1, r2, h.1, p.str c h.2⟩
  · exact h.elim
theorem o_iadd : OpR X (inplaceOp .Add) (fun x y H Q => (rI0 fun i j => .int (i + j)) x y H Q ∨ rStrs x y H Q) := iop_add.or iop_add_str
end
end DL
namespace DL
open PySem PySem.Spec PyProof.Rows L2
/-- what is wanted of an exception: its class, its fields -/
abbrev DX := Value → List (Str × D) → Mp → Prop
abbrev DSp := List D → Mp → DQ → DX → Prop
def PostX (K : PySem.W.Frag) (F H : Hp) (M : Mp) (Q0 : DX) (Q : XK) : Prop := ∀ c fs M' F' H' dd vs, Q0 c fs M' → Same F F' → Fr F H M F' H' M' → CoreP K F' H' M' → F' dd = some (.xd vs) → RepF K F' fs vs → Q c (some dd) H'
theorem PostX.after {K : PySem.W.Frag} {F H F1 H1 : Hp} {M M1 : Mp} {Q0 : DX} {Q : XK} (p : PostX K F H M Q0 Q) (s : Same F F1) (f : Fr F H M F1 H1 M1) : PostX K F1 H1 M1 Q0 Q := fun c fs M' F' H' dd vs q s' f' c' h r => p c fs M' F' H' dd vs q (s.trans s') (f.trans f') c' h r
/-- .. for a call: nothing but the heaps is kept -/
def PostP (K : PySem.W.Frag) (F H : Hp) (M : Mp) (Q0 : DQ) (Q : VK) : Prop := ∀ d M' F' H' v, Q0 d M' → Same F F' → Fr F H M F' H' M' → CoreP K F' H' M' → Rep K F' d v → Q v H'
theorem Post.plain {K : PySem.W.Frag} {G : GI K} {F H : Hp} {M : Mp} {Q0 : DQ} {Q : VK} (p : Post K F H M Q0 Q) (c : Core K F H M) : PostP K F H M Q0 Q := fun d M' F' H' v q s f c' r => p d M' F' H' v q s f (c.to c' s f) r
def lSp (K : PySem.W.Frag) (sp : DSp) : Sp := fun vs H Q E => ∃ F M ds Q0 E0, CoreP K F H M ∧ Reps K F ds vs ∧ sp ds M Q0 E0 ∧ PostP K F H M Q0 Q ∧ PostX K F H M E0 E
def noX : DX := fun _ _ _ => False
theorem postX0 {K : PySem.W.Frag} {F H : Hp} {M : Mp} {Q : XK} : PostX K F H M noX Q := fun _ _ _ _ _ _ _ q => q.elim
section
variable {X : Cx} {GX : GI X.K} {K : PySem.W.Frag} {G : GI K} {a b c e : Expr} {es : List Expr} {ta tb tc : DTE} {pos p : Pos} {tt : DTT} {tr tk : DTA} {k : Nat} {f : Addr} {fd : FuncData} {ps ks : List Str} {sp : DSp} {x : Str}
/-- f(e, ..); nothing is raised out of f -/
def dCall (sp : DSp) (tr : DTA) : DTE := fun env M Q => tr env M fun ds M1 => sp ds M1 Q noX
theorem l_call : ∀ σ H Q, lE K (dCall sp tr) σ H Q → tCall (lSp K sp) [] E0 (lA K tr) σ H Q := fun σ H Q ⟨F, env, M, Q0, he, hc, ht, hp⟩ =>
  ⟨F, env, M, _, he, hc, ht, fun ds M1 F1 H1 vs q s1 f1 c1 r1 => by
    show lSp K sp (vs ++ []) H1 Q E0
    rw [List.append_nil]
    exact ⟨F1, M1, ds, Q0, noX, c1.toCoreP, r1, q, (hp.after s1 f1).plain c1, postX0⟩⟩
theorem de_call (G : FnOk X.prog X.w X.K X.mg X.base CX0 k f fd ps (lSp X.K sp)) (hr : Room k X.A) (hm : X.mg x = some (.ref f)) (hk : PySem.W.keepIn X.K (.ref f) = true) (hb : Binds X.K fd ps []) (ha : DA X (e :: es) tr) (hg : Gl X x := by rfl)
    (hdb : (x == ("__debug__" : Str)) = false := by decide) (he : starEach (e :: es) X.env = (false, eval e X.env) :: starEach es X.env := by rfl) (hpl : (backTo pos (starEach es X.env)).any (·.1) = false := by rfl) : DE X (.Call (.Name x p) (e :: es) [] pos) (dCall sp tr) :=
  PE.imp (pe_call G hr hg hm hk hb .nil pass0 ha hdb he hpl) l_call
theorem de_call0 (G : FnOk X.prog X.w X.K X.mg X.base CX0 k f fd ps (lSp X.K sp)) (hr : Room k X.A) (hm : X.mg x = some (.ref f)) (hk : PySem.W.keepIn X.K (.ref f) = true) (hb : Binds X.K fd ps []) (hg : Gl X x := by rfl)
    (hdb : (x == ("__debug__" : Str)) = false := by decide) : DE X (.Call (.Name x p) [] [] pos) (dCall sp dNil) :=
  PE.imp (pe_call0 G hr hg hm hk hb .nil pass0 hdb) fun σ H Q ⟨F, env, M, Q0, he, hc, ht, hp⟩ => ⟨F, M, [], Q0, noX, hc.toCoreP, Reps.nil, ht, hp.plain hc, postX0⟩
/-- keywords: gV puts the values in the parameters' order -/
structure GD (gV : List V → List V → List V) (gD : List D → List D → List D) : Prop where
  rep : ∀ {K : PySem.W.Frag} {F : Hp} {ds es : List D} {vs ws : List V}, Reps K F ds vs → Reps K F es ws → Reps K F (gD ds es) (gV vs ws)
def dCallK (sp : DSp) (gD : List D → List D → List D) (tr tk : DTA) : DTE := fun env M Q => tr env M fun ds M1 => tk env M1 fun es M2 => sp (gD ds es) M2 Q noX
abbrev DK (X : Cx) [GI X.K] (kws : List Keyword) (t : DTA) : Prop := PK X kws (lA X.K t)
theorem dk_nil : DK X [] dNil := ⟨fun pos pins s σ H Q I ⟨F, env, M, Q0, he, hc, ht, hp⟩ => pk_nil.run pos pins s σ H Q I (hp [] M F H [] ht (Same.refl F) Fr.refl hc Reps.nil)⟩
theorem dk_cons {kws : List Keyword} {nm : Option Str} {kpos : Pos} (ha : DE X e ta) (hr : DK X kws tr) : DK X (⟨nm, e, kpos⟩ :: kws) (dCons ta tr) := ⟨fun pos pins s σ H Q I ⟨F, env, M, Q0, he, hc, ht, hp⟩ =>
  (pk_cons ha hr).run pos pins s σ H Q I ⟨F, env, M, _, he, hc, ht, fun d M1 F1 H1 v q s1 f1 c1 r1 => ⟨F1, env, M1, _, he.mono s1, c1, q, fun ds M2 F2 H2 vs q2 s2 f2 c2 r2 =>
    hp _ M2 F2 H2 _ q2 (s1.trans s2) (f1.trans f2) c2 (Reps.cons (r1.mono s2) r2)⟩⟩⟩
theorem de_callK {kws : List Keyword} {g : List Value → List Value → List Value} {gV : List V → List V → List V} {gD : List D → List D → List D} (G : FnOk X.prog X.w X.K X.mg X.base CX0 k f fd ps (lSp X.K sp)) (hr : Room k X.A) (hm : X.mg x = some (.ref f)) (hk : PySem.W.keepIn X.K (.ref f) = true) (hb : KBinds X.K fd ps ks g gV) (hgd : GD gV gD)
    (ha : DA X (e :: es) tr) (hkw : DK X kws tk) (hg : Gl X x := by rfl) (hall : (backToKw pos (keywordEach kws X.env)).all (·.1.isSome) = true := by rfl) (hks : (backToKw pos (keywordEach kws X.env)).filterMap (·.1) = ks := by rfl)
    (hdb : (x == ("__debug__" : Str)) = false := by decide) (he : starEach (e :: es) X.env = (false, eval e X.env) :: starEach es X.env := by rfl)
    (hpl : ((backTo pos (starEach (e :: es) X.env)).any (·.1) || (backToKw pos (keywordEach kws X.env)).any (·.1.isNone)) = false := by rfl) : DE X (.Call (.Name x p) (e :: es) kws pos) (dCallK sp gD tr tk) :=
  PE.imp (pe_callK G hr hg hm hk hb pass0 ha hkw hall hks hdb he hpl) fun σ H Q ⟨F, env, M, Q0, he, hc, ht, hp⟩ =>
    ⟨F, env, M, _, he, hc, ht, fun ds M1 F1 H1 vs q s1 f1 c1 r1 => ⟨F1, env, M1, _, he.mono s1, c1, q, fun es M2 F2 H2 ws q2 s2 f2 c2 r2 =>
      ⟨F2, M2, _, Q0, noX, c2.toCoreP, hgd.rep (r1.mono s2) r2, q2, ((hp.after s1 f1).after s2 f2).plain c2, postX0⟩⟩⟩
end
/-! ### a def's body -/
def startD (N : List Str) (ds : List D) : DSt := ds.map some ++ List.replicate (N.length - ds.length) none
theorem start_env {K : PySem.W.Frag} {F : Hp} {N : List Str} {ds : List D} {vs : List V} (r : Reps K F ds vs) : EnvR K F (L2.start N vs) (startD N ds) := by
  have hl := r.len
  refine ⟨by simp [L2.start, startD, hl], fun i d h => ?_⟩
  unfold startD at h
  unfold L2.start
  by_cases hi : i < ds.length
  · rw [List.getElem?_append_left (by simpa using hi)] at h
    rw [List.getElem?_append_left (by simpa [hl] using hi)]
    simp only [List.getElem?_map, Option.map_eq_some_iff] at h
    obtain ⟨d', e1, e2⟩ := h
    cases e2
    obtain ⟨v, e3, e4⟩ := r.get e1
    exact ⟨v, by simp [e3], e4⟩
  · rw [List.getElem?_append_right (by simpa using hi)] at h
    rw [List.getElem?_replicate] at h
    split at h <;> cases h
/-- what is told at the end: the frame's own objects are forgotten or frozen -/
def Wk (K : PySem.W.Frag) (d : D) (M : Mp) (d0 : D) (M0 : Mp) : Prop := ∀ {F H : Hp} {v : V}, CoreP K F H M → Rep K F d v → ∃ F', Same F F' ∧ CoreP K F' H M0 ∧ Fr F H M F' H M0 ∧ Rep K F' d0 v
def Fin (K : PySem.W.Frag) (Q : DQ) : DQ := fun d M => ∃ d0 M0, Wk K d M d0 M0 ∧ Q d0 M0
def Sub (M0 M : Mp) : Prop := ∀ a mo, M0 a = some mo → M a = some mo
theorem Sub.refl {M : Mp} : Sub M M := fun _ _ h => h
theorem Sub.up {M0 M : Mp} (h : Sub M0 M) {a : Addr} {o : MO} (n : M0 a = none) : Sub M0 (up M a o) := fun b mo e => by
  rw [up_ne fun z => by rw [z, n] at e; cases e]; exact h b mo e
theorem Sub.up2 {M0 M : Mp} (h : Sub M0 M) {a : Addr} {o : MO} : Sub (DL.up M0 a o) (DL.up M a o) := fun b mo e => by
  by_cases hb : b = a
  · subst hb; rw [up_same] at e ⊢; exact e
  · rw [up_ne hb] at e ⊢; exact h b mo e
theorem Sub.rm {M0 M : Mp} (h : Sub M0 M) {a : Addr} (n : M0 a = none) : Sub M0 (rm M a) := fun b mo e => by
  have : b ≠ a := fun z => by rw [z, n] at e; cases e
  simp [DL.rm, this]; exact h b mo e
section
variable {K : PySem.W.Frag} {d : D} {M M0 : Mp} {Q : DQ}
theorem sub_none {M0 M : Mp} (h : Sub M0 M) {a : Addr} (n : M a = none) : M0 a = none := by
  cases e : M0 a with
  | none => rfl
  | some mo => rw [h a mo e] at n; cases n
theorem wk_drop (h : Sub M0 M) : Wk K d M d M0 := fun {F H v} c r => ⟨F, Same.refl F, c.drop h, fun a o e n => ⟨e, sub_none h n, fun z => z⟩, r⟩
theorem Fin.drop (h : Sub M0 M) (q : Q d M0) : Fin K Q d M := ⟨d, M0, wk_drop h, q⟩
theorem Fin.same (q : Q d M) : Fin K Q d M := Fin.drop Sub.refl q
theorem Fin.frz {a : Addr} {ds : List D} (h : M a = some (.lst ds)) (n : M0 a = none) (hs : Sub M0 M) (q : Q (.lst ds) M0) : Fin K Q (.ptr a) M := by
  refine ⟨.lst ds, M0, fun {F H v} c r => ?_, q⟩
  obtain ⟨o, r1, c1, s1, f1⟩ := c.freeze h
  obtain ⟨vs, e1, e2⟩ := r1
  subst e1
  rw [Rep] at r
  exact ⟨_, s1, c1.drop (hs.rm n), fun b o e nb => ⟨e, sub_none hs nb, (f1 b o e nb).2.2⟩, by rw [Rep]; exact ⟨a, vs, r, upd_same, e2.mono s1⟩⟩
theorem Fin.frzI {a C : Addr} {ds : List (Str × D)} (h : M a = some (.ins C ds)) (n : M0 a = none) (hs : Sub M0 M) (q : Q (.obj C ds) M0) : Fin K Q (.ptr a) M := by
  refine ⟨.obj C ds, M0, fun {F H v} c r => ?_, q⟩
  obtain ⟨o, r1, c1, s1, f1⟩ := c.freeze h
  obtain ⟨dx, vs, e1, e2⟩ := r1
  subst e1
  rw [Rep] at r
  exact ⟨_, s1, c1.drop (hs.rm n), fun b o e nb => ⟨e, sub_none hs nb, (f1 b o e nb).2.2⟩, by rw [Rep]; exact ⟨a, dx, vs, r, upd_same, e2.mono s1⟩⟩
end
theorem post_fin {K : PySem.W.Frag} {G : GI K} {F H : Hp} {M : Mp} {Q0 : DQ} {Q : VK} (p : Post K F H M Q0 Q) : Post K F H M (Fin K Q0) Q := fun d M' F' H' v ⟨d0, M0, w, q⟩ s f c r => by
  obtain ⟨F2, s2, c2, f2, r2⟩ := w c.toCoreP r
  exact p d0 M0 F2 H' v q (s.trans s2) (f.trans f2) (c.to c2 s2 f2) r2
def bodyE (K : PySem.W.Frag) (Q : DQ) : DEnds := { nx := fun _ M => Fin K Q .non M, rt := Fin K Q }
theorem fin_ok {K : PySem.W.Frag} {G : GI K} {F H : Hp} {M : Mp} {Q0 : DQ} {Q : VK} (p : Post K F H M Q0 Q) : PostS K F H M (bodyE K Q0) { nx := fun _ H' => Q .non H', rt := Q } :=
  ⟨fun env M' F' H' σ q s f c r => post_fin p .non M' F' H' .non q s f c (by rw [Rep]), post_fin p, fun _ _ _ _ _ q => q.elim, fun _ _ _ _ _ q => q.elim⟩
/-- the entry state is kept -/
abbrev entryG (K : PySem.W.Frag) (F0 H0 : Hp) (M0 : Mp) : GI K := ⟨fun F H M => Same F0 F ∧ Fr F0 H0 M0 F H M, fun ⟨a, b⟩ s f => ⟨a.trans s, b.trans f⟩⟩
theorem PostP.post {K : PySem.W.Frag} {G : GI K} {F H : Hp} {M : Mp} {Q0 : DQ} {Q : VK} (p : PostP K F H M Q0 Q) : Post K F H M Q0 Q := fun d M' F' H' v q s f c r => p d M' F' H' v q s f c.toCoreP r
end DL
namespace DL
open PySem PySem.Spec PyProof.Rows L2
/-- no name of a built-in is hidden -/
structure NB (mg : Str → Option Value) : Prop where
  len : mg "len" = none
  int : mg "int" = none
  range : mg "range" = none
  list : mg "list" = none
  tuple : mg "tuple" = none
  str : mg "str" = none
  bool : mg "bool" = none
  abs : mg "abs" = none
  sum : mg "sum" = none
  all : mg "all" = none
  any : mg "any" = none
  max : mg "max" = none
  min : mg "min" = none
  sorted : mg "sorted" = none
  zip : mg "zip" = none
  enumerate : mg "enumerate" = none
  isinstance : mg "isinstance" = none
  repr : mg "repr" = none
  dict : mg "dict" = none
  super : mg "super" = none
  type : mg "type" = none
/-- a def that is called: where it stands, its promise -/
structure Cal (P : Program) (w : World) (K : PySem.W.Frag) (mg : Str → Option Value) (base : Heap) (k : Nat) (x : Str) (ps : List Str) (sp : DSp) (f : Addr) (fd : FuncData) : Prop where
  fn : FnOk P w K mg base CX0 k f fd ps (lSp K sp)
  g : mg x = some (.ref f)
  kp : PySem.W.keepIn K (.ref f) = true
  b : Binds K fd ps []
abbrev CMulA (i j : Int) : Prop := CMul i j ∨ CMulW i j
abbrev CDivA (i j : Int) : Prop := CDivN i j ∨ CDivW i j
abbrev rMul : D2 := rInt2 CMulA fun i j => i * j
abbrev rFdiv : D2 := rInt2 CDivA Int.fdiv
abbrev rMod : D2 := rInt2 (fun _ j => j ≠ 0) Int.fmod
abbrev rPow : D2 := rInt2 CPow fun i j => i ^ j.toNat
def rIadd : D2 := fun x y M Q => match x, y with | .int i, .int j => Q (.int (i + j)) M | .str i, .str j => i.length + j.length ≤ sizeLine ∧ Q (.str (i ++ j)) M | _, _ => False
abbrev rLower : DM := rS0 (fun a => a.length ≤ 5592405) fun a => .str (Txt.lower a)
abbrev rUpper : DM := rS0 (fun a => a.length ≤ 5592405) fun a => .str (Txt.upper a)
abbrev rScount : DM := rS1 (fun _ _ => True) fun a b => .int (Txt.count a b)
theorem Room.unitsI {k : Nat} {A : Around} (r : Room k A) : A.units + 65 < cLine := by have := r.un; omega
section
variable {X : Cx} {GX : GI X.K} {K : PySem.W.Frag} {G : GI K} {a b c e : Expr} {es : List Expr} {ta tb tc : DTE} {pos p : Pos} {tt : DTT} {tr tk : DTA} {k : Nat} {f : Addr} {fd : FuncData} {ps ks : List Str} {sp : DSp} {x : Str}
theorem de_callC (G : Cal X.prog X.w X.K X.mg X.base k x ps sp f fd) (hr : Room k X.A) (ha : DA X (e :: es) tr) (hg : Gl X x := by rfl)
    (hdb : (x == ("__debug__" : Str)) = false := by decide) (he : starEach (e :: es) X.env = (false, eval e X.env) :: starEach es X.env := by rfl) (hpl : (backTo pos (starEach es X.env)).any (·.1) = false := by rfl) : DE X (.Call (.Name x p) (e :: es) [] pos) (dCall sp tr) :=
  de_call G.fn hr G.g G.kp G.b ha hg hdb he hpl
theorem de_callC0 (G : Cal X.prog X.w X.K X.mg X.base k x ps sp f fd) (hr : Room k X.A) (hg : Gl X x := by rfl) (hdb : (x == ("__debug__" : Str)) = false := by decide) : DE X (.Call (.Name x p) [] [] pos) (dCall sp dNil) := de_call0 G.fn hr G.g G.kp G.b hg hdb
theorem o_mulA : OpR X (binaryOp .Mult) (rI CMulA fun i j => .int (i * j)) := by
  intro pins s σ H x y v u Q I rx ry q
  obtain ⟨i, j, e1, e2, h | h, q⟩ := q
  · exact op_mul pins s σ H x y v u Q I rx ry ⟨i, j, e1, e2, h, q⟩
  · exact op_mulW pins s σ H x y v u Q I rx ry ⟨i, j, e1, e2, h, q⟩
theorem o_fdivA : OpR X (binaryOp .FloorDiv) (rI CDivA fun i j => .int (i.fdiv j)) := by
  intro pins s σ H x y v u Q I rx ry q
  obtain ⟨i, j, e1, e2, h | h, q⟩ := q
  · exact op_fdivN pins s σ H x y v u Q I rx ry ⟨i, j, e1, e2, h, q⟩
  · refine op_fdivW pins s σ H x y v u Q I rx ry ⟨i, j, e1, e2, h, ?_⟩
    show Q (.int (i / j)) H
    rw [← Int.fdiv_eq_ediv_of_nonneg i (Int.le_of_lt h.1)]
    exact q
theorem de_mulA (ha : DE X a ta) (hb : DE X b tb) : DE X (.BinOp a .Mult b pos) (dOp rMul ta tb) := de_op o_mulA l_int ha hb
theorem de_fdivA (ha : DE X a ta) (hb : DE X b tb) : DE X (.BinOp a .FloorDiv b pos) (dOp rFdiv ta tb) := de_op o_fdivA l_int ha hb
/-! ### order -/
abbrev rLt : D2 := rOrd (fun i j => decide (i < j)) (fun i j => decide (i.cps.toList < j.cps.toList)) (fun _ _ => false)
abbrev rLe : D2 := rOrd (fun i j => decide (i ≤ j)) (fun i j => !decide (j.cps.toList < i.cps.toList)) (fun _ _ => false)
abbrev rGt : D2 := rOrd (fun i j => decide (j < i)) (fun i j => decide (j.cps.toList < i.cps.toList)) (fun _ _ => false)
abbrev rGe : D2 := rOrd (fun i j => decide (j ≤ i)) (fun i j => !decide (i.cps.toList < j.cps.toList)) (fun _ _ => false)
theorem o_lt : OpR X (compareOp .Lt) (fun x y H Q => (rI0 fun i j => .bl (decide (i < j))) x y H Q ∨ (∃ i j, x = .str i ∧ y = .str j ∧ Q (.bl (decide (i.cps.toList < j.cps.toList))) H)) := op_lt.or op_lt_str
theorem o_le : OpR X (compareOp .LtE) (fun x y H Q => (rI0 fun i j => .bl (decide (i ≤ j))) x y H Q ∨ (∃ i j, x = .str i ∧ y = .str j ∧ Q (.bl (!decide (j.cps.toList < i.cps.toList))) H)) := op_le.or op_le_str
theorem o_gt : OpR X (compareOp .Gt) (fun x y H Q => (rI0 fun i j => .bl (decide (j < i))) x y H Q ∨ (∃ i j, x = .str i ∧ y = .str j ∧ Q (.bl (decide (j.cps.toList < i.cps.toList))) H)) := op_gt.or op_gt_str
theorem o_ge : OpR X (compareOp .GtE) (fun x y H Q => (rI0 fun i j => .bl (decide (j ≤ i))) x y H Q ∨ (∃ i j, x = .str i ∧ y = .str j ∧ Q (.bl (!decide (i.cps.toList < j.cps.toList))) H)) := op_ge.or op_ge_str
theorem l_lt : LR2 K (fun x y H Q => (rI0 fun i j => .bl (decide (i < j))) x y H Q ∨ (∃ i j, x = .str i ∧ y = .str j ∧ Q (.bl (decide (i.cps.toList < j.cps.toList))) H)) rLt := l_ord
theorem l_le : LR2 K (fun x y H Q => (rI0 fun i j => .bl (decide (i ≤ j))) x y H Q ∨ (∃ i j, x = .str i ∧ y = .str j ∧ Q (.bl (!decide (j.cps.toList < i.cps.toList))) H)) rLe := l_ord
theorem l_gt : LR2 K (fun x y H Q => (rI0 fun i j => .bl (decide (j < i))) x y H Q ∨ (∃ i j, x = .str i ∧ y = .str j ∧ Q (.bl (decide (j.cps.toList < i.cps.toList))) H)) rGt := l_ord
theorem l_ge : LR2 K (fun x y H Q => (rI0 fun i j => .bl (decide (j ≤ i))) x y H Q ∨ (∃ i j, x = .str i ∧ y = .str j ∧ Q (.bl (!decide (i.cps.toList < j.cps.toList))) H)) rGe := l_ord
/-! ### in -/
def strIn (s z : Str) : Bool := !(Builtin.Str.occurrences z s 0 z.length 1).isEmpty
theorem strIn_sign (c : Nat) (z : Str) : strIn ⟨#[c]⟩ z = decide (c ∈ z.cps.toList) := PySem.StrLaws.found_one z c
def flatD : D → Bool
  | .non => true
  | .bl _ => true
  | .int _ => true
  | .str _ => true
  | _ => false
def rInD (neg : Bool) : D2 := fun x y M Q => match y with
  | .str z => match x with | .str s => Q (.bl (neg ^^ strIn s z)) M | _ => False
  | .tup ds => (flatD x = true ∧ ds.all flatD = true) ∧ Q (.bl (neg ^^ ds.any fun z => D.eqv z x)) M
  | y => match lstOf M y with
    | some ds => if (flatD x && ds.all flatD) = true then Q (.bl (neg ^^ ds.any fun z => D.eqv z x)) M else (rs M x).ok = true ∧ (D.lst ds).ok = true ∧ Q (.bl (neg ^^ ds.any fun z => D.eqv z (rs M x))) M
    | none => False
theorem flat_v {F : Hp} {d : D} {v : V} (r : Rep K F d v) (h : flatD d = true) : flatV v = true := by
  cases d <;> first | (simp [flatD] at h; done) | (simp only [Rep] at r; subst r; rfl)
theorem flat_eqv {F F' : Hp} {d e : D} {v w : V} (r : Rep K F d v) (r' : Rep K F' e w) (h : flatD d = true) (h' : flatD e = true) : eqV v w = D.eqv d e := by
  cases d <;> first | (simp [flatD] at h; done) | skip
  all_goals cases e <;> first | (simp [flatD] at h'; done) | skip
  all_goals
    simp only [Rep] at r r'
    subst r r'
    simp [eqV, D.eqv, D.py, PyData.eqv]
theorem flat_all {F : Hp} : ∀ {ds : List D} {vs : List V}, Reps K F ds vs → ds.all flatD = true → vs.all flatV = true
  | [], vs, r, _ => by rw [Reps] at r; subst r; rfl
  | d :: ds, vs, r, h => by
    rw [Reps] at r
    obtain ⟨v, w, e1, e2, e3⟩ := r
    subst e1
    rw [List.all_cons, Bool.and_eq_true] at h ⊢
    exact ⟨flat_v e2 h.1, flat_all e3 h.2⟩
theorem flat_any {F F' : Hp} {x : D} {u : V} (rx : Rep K F' x u) (hx : flatD x = true) : ∀ {ds : List D} {vs : List V}, Reps K F ds vs → ds.all flatD = true → inV u vs = ds.any fun z => D.eqv z x
  | [], vs, r, _ => by rw [Reps] at r; subst r; rfl
  | d :: ds, vs, r, h => by
    rw [Reps] at r
    obtain ⟨v, w, e1, e2, e3⟩ := r
    subst e1
    rw [List.all_cons, Bool.and_eq_true] at h
    have ih := flat_any rx hx e3 h.2
    unfold inV at ih ⊢
    rw [List.any_cons, List.any_cons, ih, flat_eqv e2 rx h.1 hx]
theorem pys_map : ∀ ds : List D, D.pys ds = ds.map D.py
  | [] => by rw [D.pys]; rfl
  | d :: ds => by rw [D.pys, pys_map ds]; rfl
abbrev rInA (K : PySem.W.Frag) (neg : Bool) : R2 := fun x y H Q => (∃ i j, x = .str i ∧ y = .str j ∧ Q (.bl (neg ^^ strIn i j)) H) ∨ (rIn K neg x y H Q ∨ (∃ d ds, Dp K H x d ∧ Dp K H y (.list ds) ∧ SeqAt.shaped d = true ∧ SeqAt.shaped (.list ds) = true ∧ Q (.bl (neg ^^ ds.any fun z => PyData.eqv z d)) H))
theorem l_inA {neg : Bool} : LR2 K (rInA K neg) (rInD neg) := by
  intro F H M d e v w Q0 Q c r1 r2 h p
  unfold rInD at h
  have eqb : ∀ b : Bool, (if neg = true then !b else b) = (neg ^^ b) := fun b => by cases neg <;> cases b <;> rfl
  split at h
  · split at h
    · simp only [Rep] at r1 r2
      exact .inl ⟨_, _, r1, r2, p.bl c h⟩
    · exact h.elim
  · rename_i ds
    obtain ⟨⟨h1, h2⟩, h3⟩ := h
    rw [Rep] at r2
    obtain ⟨a, vs, e1, e2, e3⟩ := r2
    subst e1
    refine .inr (.inl ⟨a, vs, rfl, .inr (sameT c.same e2), flat_v r1 h1, flat_all e3 h2, ?_⟩)
    rw [flat_any r1 h1 e3 h2, eqb]
    exact p.bl c h3
  · split at h
    · rename_i ds g
      obtain ⟨a, vs, e1, e2, e3⟩ := lstOf_ok c r2 g
      subst e1
      split at h
      · rename_i hf
        rw [Bool.and_eq_true] at hf
        refine .inr (.inl ⟨a, vs, rfl, .inl e2, flat_v r1 hf.1, flat_all e3 hf.2, ?_⟩)
        rw [flat_any r1 hf.1 e3 hf.2, eqb]
        exact p.bl c h
      · obtain ⟨h1, h2, h3⟩ := h
        obtain ⟨a1, a2⟩ := ok2 h1
        obtain ⟨b1, b2⟩ := ok2 h2
        rw [D.pl] at b1
        rw [D.py] at b2
        refine .inr (.inr ⟨_, _, Rep.dp _ _ (rs_ok c r1) a1, .lst e2 (Reps.dp _ _ (e3.mono c.same) b1), a2, b2, ?_⟩)
        rw [pys_map, List.any_map]
        exact p.bl c h3
    · exact h.elim
theorem l_in : LR2 K (rInA K false) (rInD false) := l_inA
theorem l_nin : LR2 K (rInA K true) (rInD true) := l_inA
theorem OpR.imp {f : Value → Value → Sem Value} {r r' : R2} (h : OpR X f r) (i : ∀ x y H Q, r' x y H Q → r x y H Q) : OpR X f r' := fun pins s σ H x y v u Q I rx ry q => h pins s σ H x y v u Q I rx ry (i x y H Q q)
theorem o_in (hu : X.A.units + 65 < cLine) : OpR X (compareOp .In) (rInA X.K false) := OpR.imp (op_in_str.or (op_in_seq.or (op_inD hu))) fun x y H Q q => by
  rcases q with ⟨i, j, e1, e2, q⟩ | q | ⟨d, ds, e1, e2, e3, e4, q⟩
  · exact .inl ⟨i, j, e1, e2, by rw [Bool.false_xor] at q; exact q⟩
  · exact .inr (.inl q)
  · exact .inr (.inr ⟨d, ds, e1, e2, e3, e4, by rw [Bool.false_xor] at q; exact q⟩)
theorem o_nin (hu : X.A.units + 65 < cLine) : OpR X (compareOp .NotIn) (rInA X.K true) := OpR.imp (op_notIn_str.or (op_notIn_seq.or (op_notInD hu))) fun x y H Q q => by
  rcases q with ⟨i, j, e1, e2, q⟩ | q | ⟨d, ds, e1, e2, e3, e4, q⟩
  · exact .inl ⟨i, j, e1, e2, by rw [Bool.true_xor] at q; exact q⟩
  · exact .inr (.inl q)
  · exact .inr (.inr ⟨d, ds, e1, e2, e3, e4, by rw [Bool.true_xor] at q; exact q⟩)
/-! ### chains -/
def dChain (r r' : D2) (ta tb tc : DTE) : DTE := fun env M Q => ta env M fun x M1 => tb env M1 fun y M2 => r x y M2 fun z M3 => match z with
  | .bl k => if k = true then tc env M3 fun w M4 => r' y w M4 Q else Q (.bl false) M3
  | _ => False
theorem l_chain {r r' : R2} {rd rd' : D2} (l : LR2 K r rd) (l' : LR2 K r' rd') : ∀ σ H Q, lE K (dChain rd rd' ta tb tc) σ H Q → tChain r r' (lE K ta) (lE K tb) (lE K tc) σ H Q := fun σ H Q ⟨F, env, M, Q0, he, hc, ht, hp⟩ =>
  ⟨F, env, M, _, he, hc, ht, fun d M1 F1 H1 v q s1 f1 c1 r1 => ⟨F1, env, M1, _, he.mono s1, c1, q, fun d' M2 F2 H2 v' q2 s2 f2 c2 r2 =>
    l c2 (r1.mono s2) r2 q2 fun z M3 F3 H3 u q3 s3 f3 c3 r3 => by
      revert q3
      split <;> intro q3
      · rename_i k
        rw [Rep] at r3
        refine ⟨k, r3, ?_⟩
        have hp3 := ((hp.after s1 f1).after s2 f2).after s3 f3
        cases k with
        | false => exact hp3.bl c3 q3
        | true =>
          rw [if_pos rfl] at q3 ⊢
          exact ⟨F3, env, M3, _, ((he.mono s1).mono s2).mono s3, c3, q3, fun w' M4 F4 H4 u4 q4 s4 f4 c4 r4 => l' c4 ((r2.mono s3).mono s4) r4 q4 (hp3.after s4 f4)⟩
      · exact q3.elim⟩⟩
theorem de_chain {op op' : CmpOp} {r r' : R2} {rd rd' : D2} (ho : OpR X (compareOp op) r) (l : LR2 X.K r rd) (ho' : OpR X (compareOp op') r') (l' : LR2 X.K r' rd') (ha : DE X a ta) (hb : DE X b tb) (hc : DE X c tc)
    (hm : lastMarks [op, op'] [b, c] = false := by with_unfolding_all rfl) : DE X (.Compare a [op, op'] [b, c] pos) (dChain rd rd' ta tb tc) := PE.imp (pe_chain ho ho' ha hb hc hm) (l_chain l l')
theorem dt_chain {op op' : CmpOp} {r r' : R2} {rd rd' : D2} (ho : OpR X (compareOp op) r) (l : LR2 X.K r rd) (ho' : OpR X (compareOp op') r') (l' : LR2 X.K r' rd') (ha : DE X a ta) (hb : DE X b tb) (hc : DE X c tc)
    (hm : lastMarks [op, op'] [b, c] = false := by with_unfolding_all rfl) : DT X (.Compare a [op, op'] [b, c] pos) (dTB (dChain rd rd' ta tb tc)) := PT.imp (pt_chain ho ho' ha hb hc hm) fun σ H Q ⟨F, env, M, Q0, he, hc, ht, hp⟩ =>
  l_chain l l' σ H _ ⟨F, env, M, _, he, hc, ht, fun d M1 F1 H1 v q s1 f1 c1 r1 => by
    cases d with
    | bl k => rw [Rep] at r1; exact ⟨k, r1, hp k M1 F1 H1 q s1 f1 c1⟩
    | _ => exact False.elim q⟩
/-! ### built-ins by their names -/
theorem de_abs (hm : X.mg "abs" = none) (ha : DA X [a] tr) (hg : Gl X "abs" := by rfl) (na : starEach [a] X.env = (false, eval a X.env) :: starEach [] X.env := by rfl) : DE X (.Call (.Name "abs" p) [a] [] pos) (dCB rAbs tr) := de_callB call_abs l_abs hm (by decide +kernel) ha hg (by decide) (by decide) na rfl
theorem de_sum (hm : X.mg "sum" = none) (ha : DA X [a] tr) (hc : X.calm = true := by rfl) (hg : Gl X "sum" := by rfl) (na : starEach [a] X.env = (false, eval a X.env) :: starEach [] X.env := by rfl) : DE X (.Call (.Name "sum" p) [a] [] pos) (dCB rSum tr) := de_callB (cr_sum hc) l_sum hm (by decide +kernel) ha hg (by decide) (by decide) na rfl
theorem de_all (hm : X.mg "all" = none) (ha : DA X [a] tr) (hc : X.calm = true := by rfl) (hg : Gl X "all" := by rfl) (na : starEach [a] X.env = (false, eval a X.env) :: starEach [] X.env := by rfl) : DE X (.Call (.Name "all" p) [a] [] pos) (dCB rAll tr) := de_callB (cr_all hc) l_all hm (by decide +kernel) ha hg (by decide) (by decide) na rfl
theorem de_any (hm : X.mg "any" = none) (ha : DA X [a] tr) (hc : X.calm = true := by rfl) (hg : Gl X "any" := by rfl) (na : starEach [a] X.env = (false, eval a X.env) :: starEach [] X.env := by rfl) : DE X (.Call (.Name "any" p) [a] [] pos) (dCB rAny tr) := de_callB (cr_any hc) l_any hm (by decide +kernel) ha hg (by decide) (by decide) na rfl
theorem de_toTup (hm : X.mg "tuple" = none) (ha : DA X [a] tr) (hg : Gl X "tuple" := by rfl) (na : starEach [a] X.env = (false, eval a X.env) :: starEach [] X.env := by rfl) : DE X (.Call (.Name "tuple" p) [a] [] pos) (dCB rToTup tr) := de_callTy call_tuple_of l_toTup hm (by decide +kernel) ha hg (by decide) (by decide) na rfl
theorem de_toListM (hm : X.mg "list" = none) (ha : DA X [a] tr) (hg : Gl X "list" := by rfl) (na : starEach [a] X.env = (false, eval a X.env) :: starEach [] X.env := by rfl) : DE X (.Call (.Name "list" p) [a] [] pos) (dCB rToListM tr) := de_callTy call_list_of l_toListM hm (by decide +kernel) ha hg (by decide) (by decide) na rfl
def rMax2 : DC := fun ds M Q => match ds with | [.int i, .int j] => Q (.int (if j > i then j else i)) M | _ => False
def rMin2 : DC := fun ds M Q => match ds with | [.int i, .int j] => Q (.int (if j < i then j else i)) M | _ => False
theorem l_max2 : LC K (fun xs H Q => ∃ i j, xs = [.int i, .int j] ∧ Q (.int (if j > i then j else i)) H) rMax2 := by
  intro F H M ds vs Q0 Q c r h p
  unfold rMax2 at h
  split at h
  · obtain ⟨v, v', e1, e2, e3⟩ := reps2 r
    simp only [Rep] at e2 e3
    subst e1 e2 e3
    exact ⟨_, _, rfl, p.int c h⟩
  · exact h.elim
theorem l_min2 : LC K (fun xs H Q => ∃ i j, xs = [.int i, .int j] ∧ Q (.int (if j < i then j else i)) H) rMin2 := by
  intro F H M ds vs Q0 Q c r h p
  unfold rMin2 at h
  split at h
  · obtain ⟨v, v', e1, e2, e3⟩ := reps2 r
    simp only [Rep] at e2 e3
    subst e1 e2 e3
    exact ⟨_, _, rfl, p.int c h⟩
  · exact h.elim
theorem de_max2 (hm : X.mg "max" = none) (ha : DA X [a, b] tr) (hc : X.calm = true := by rfl) (hg : Gl X "max" := by rfl) (na : starEach [a, b] X.env = (false, eval a X.env) :: starEach [b] X.env := by rfl) (hpl : (backTo pos (starEach [b] X.env)).any (·.1) = false := by rfl) : DE X (.Call (.Name "max" p) [a, b] [] pos) (dCB rMax2 tr) := de_callB (call_max2 hc) l_max2 hm (by decide +kernel) ha hg (by decide) (by decide) na hpl
theorem de_min2 (hm : X.mg "min" = none) (ha : DA X [a, b] tr) (hc : X.calm = true := by rfl) (hg : Gl X "min" := by rfl) (na : starEach [a, b] X.env = (false, eval a X.env) :: starEach [b] X.env := by rfl) (hpl : (backTo pos (starEach [b] X.env)).any (·.1) = false := by rfl) : DE X (.Call (.Name "min" p) [a, b] [] pos) (dCB rMin2 tr) := de_callB (call_min2 hc) l_min2 hm (by decide +kernel) ha hg (by decide) (by decide) na hpl
theorem l_strN : LC K (fun xs H Q => ∃ i, xs = [.int i] ∧ i.natAbs.log2 < 1920 ∧ Q (.str (toString i)) H) rStrN := by
  intro F H M ds vs Q0 Q c r h p
  unfold rStrN at h
  split at h
  · obtain ⟨v, e1, e2⟩ := reps1 r
    rw [Rep] at e2
    subst e1 e2
    exact ⟨_, rfl, h.1, p.str c h.2⟩
  · exact h.elim
theorem de_strN (hm : X.mg "str" = none) (ha : DA X [a] tr) (hg : Gl X "str" := by rfl) (na : starEach [a] X.env = (false, eval a X.env) :: starEach [] X.env := by rfl) : DE X (.Call (.Name "str" p) [a] [] pos) (dCB rStrN tr) := de_callTy call_str_int l_strN hm (by decide +kernel) ha hg (by decide) (by decide) na rfl
/-! ### a, b = x, y -/
theorem ds_par {i j : Nat} {x y : Str} {px py pt : Pos} {kt k2 pt2} (hc : X.calm = true) (hN : X.N.Nodup) (hi : X.N[i]? = some x) (hj : X.N[j]? = some y) (hij : i ≠ j)
    (hx : X.env.scope.names.lookup x = some .local) (hy : X.env.scope.names.lookup y = some .local) (ha : DE X a ta) (hb : DE X b tb) (hw : swappedStores [.Tuple [.Name x px, .Name y py] kt pt] (.Tuple [a, b] k2 pt2) X.env = pure (some [x, y]))
    (na : starEach [a, b] X.env = (false, eval a X.env) :: starEach [b] X.env := by rfl) (nb : starEach [b] X.env = (false, eval b X.env) :: starEach [] X.env := by rfl)
    (hs : swapsWithSole [.Tuple [.Name x px, .Name y py] kt pt] (.Tuple [a, b] k2 pt2) pos.line X.env = pure false := by rfl) :
    DS X (.Assign [.Tuple [.Name x px, .Name y py] kt pt] (.Tuple [a, b] k2 pt2) pos) (dPar i j ta tb) :=
  PS.imp (ps_par hc hN hi hj hij hx hy (pa_cons ha (pa_cons hb pa_nil nb) na) hw hs) fun E σ H ⟨F, env, M, D0, he, hc, ht, hp⟩ =>
    ⟨F, env, M, _, he, hc, ht, fun d M1 F1 H1 v q s1 f1 c1 r1 => ⟨F1, env, M1, _, he.mono s1, c1, q, fun d' M2 F2 H2 v' q2 s2 f2 c2 r2 =>
      ⟨v, v', rfl, hp.nx _ M2 F2 H2 _ q2 (s1.trans s2) (f1.trans f2) c2 ((((he.mono s1).mono s2).set i (r1.mono s2)).set j r2)⟩⟩⟩
/-! ### the built-in types of data -/
def tyN (M : Mp) : D → Option String
  | .non => some "NoneType"
  | .bl _ => some "bool"
  | .int _ => some "int"
  | .str _ => some "str"
  | .tup _ => some "tuple"
  | .lst _ => some "list"
  | .lsx _ => some "list"
  | .ptr a => match M a with | some (.lst _) => some "list" | _ => none
  | _ => none
theorem sq_ty {H : Hp} {a : Addr} {vs : List V} (h : SqL K H a vs) : TyX K H (.ref a) (.type "list") := by
  rcases h with (h | ⟨o, h⟩) | ⟨o, its, n, h1, h2, _⟩
  · exact .base (.lst h)
  · exact .base (.frz h)
  · exact .kList h1 h2
theorem sqt_ty {H : Hp} {a : Addr} {vs : List V} (h : SqT K H a vs) : TyX K H (.ref a) (.type "tuple") := by
  rcases h with (h | ⟨o, h⟩) | ⟨o, its, n, h1, h2, _⟩
  · exact .base (.tup h)
  · exact .fTuple h
  · exact .kTuple h1 h2
theorem tyN_ok {F H : Hp} {M : Mp} {d : D} {v : V} {n : String} (c : Core K F H M) (r : Rep K F d v) (h : tyN M d = some n) : TyX K H v (.type n) := by
  cases d with
  | non => simp only [tyN] at h; cases h; rw [Rep] at r; subst r; exact .base .non
  | bl _ => simp only [tyN] at h; cases h; rw [Rep] at r; subst r; exact .base (.bl _)
  | int _ => simp only [tyN] at h; cases h; rw [Rep] at r; subst r; exact .base (.int _)
  | str _ => simp only [tyN] at h; cases h; rw [Rep] at r; subst r; exact .base (.str _)
  | lst ds =>
    simp only [tyN] at h; cases h
    obtain ⟨a, vs, e1, e2, e3⟩ := lstOf_ok c r rfl
    subst e1
    exact sq_ty e2
  | lsx ds =>
    simp only [tyN] at h; cases h
    obtain ⟨a, vs, e1, e2, e3⟩ := lstOf_ok c r rfl
    subst e1
    exact sq_ty e2
  | tup ds =>
    simp only [tyN] at h; cases h
    obtain ⟨a, vs, e1, e2, e3⟩ := tupOf_ok c r rfl
    subst e1
    exact sqt_ty e2
  | ptr a =>
    simp only [tyN] at h
    split at h
    · rename_i ds g
      cases h
      rw [Rep] at r
      obtain ⟨vs, e1, _⟩ := ptr_lst c g
      subst r
      exact sq_ty (SqL.of e1)
    · cases h
  | ty _ => simp [tyN] at h
  | obj _ _ => simp [tyN] at h
  | fn _ => simp [tyN] at h
def isT (a b : String) : Bool := a == b || (a == "bool" && b == "int")
def tyNames : List String := ["int", "bool", "str", "list", "tuple", "dict"]
theorem kit_isT {M : Mp} {d : D} {n T : String} (h : tyN M d = some n) (hT : T ∈ tyNames) : PySem.W.kitOne K (.type n) (.type T) = some (isT n T) := by
  have key : ∀ n ∈ ["NoneType", "bool", "int", "str", "tuple", "list"], ∀ T ∈ tyNames, kitB n T = some (isT n T) := by decide +kernel
  refine kit_ty (key n ?_ T hT)
  cases d <;> simp only [tyN] at h <;> first | (cases h; simp; done) | (cases h; done) | (split at h <;> first | (cases h; simp; done) | (cases h; done))
def dIsi (T : String) (ta : DTE) : DTE := fun env M Q => ta env M fun x M1 => match tyN M1 x with | some n => Q (.bl (isT n T)) M1 | none => False
theorem de_isi {T : Str} {Ts : String} {p2 : Pos} (B : NB X.mg) (ha : DE X a ta) (hT : Ts ∈ tyNames := by decide) (hv : bootBuiltins T = some (.type Ts) := by decide +kernel) (hm : X.mg T = none := by first | exact NB.int ‹_› | exact NB.str ‹_› | exact NB.bool ‹_› | exact NB.tuple ‹_› | exact NB.list ‹_›) (hg : Gl X "isinstance" := by rfl) (hgT : Gl X T := by rfl)
    (hn : T ≠ "__name__" := by decide) (hd : (T == ("__debug__" : Str)) = false := by decide)
    (na : starEach [a, .Name T p2] X.env = (false, eval a X.env) :: starEach [.Name T p2] X.env := by rfl) (nb : starEach [.Name T p2] X.env = (false, eval (.Name T p2) X.env) :: starEach [] X.env := by rfl) (hpl : (backTo pos (starEach [.Name T p2] X.env)).any (·.1) = false := by rfl) :
    DE X (.Call (.Name "isinstance" p) [a, .Name T p2] [] pos) (dIsi Ts ta) :=
  PE.imp (pe_callB call_isi hg B.isinstance (by decide +kernel) (pa_cons ha (pa_cons (pe_bltn (v := .ty Ts) hgT hm hv rfl hn hd) pa_nil nb) na) (by decide) (by decide) na hpl) fun σ H Q ⟨F, env, M, Q0, he, hc, ht, hp⟩ =>
    ⟨F, env, M, _, he, hc, ht, fun d M1 F1 H1 v q s1 f1 c1 r1 => by
      revert q
      dsimp only
      split <;> intro q
      · rename_i n g
        exact ⟨v, .ty Ts, _, _, _, rfl, .ty Ts, tyN_ok c1 r1 g, kit_isT g hT, (hp.after s1 f1).bl c1 q⟩
      · exact q.elim⟩
def dIsi2 (T U : String) (ta : DTE) : DTE := fun env M Q => ta env M fun x M1 => match tyN M1 x with | some n => Q (.bl (isT n T || isT n U)) M1 | none => False
theorem de_isi2 {T U : Str} {Ts Us : String} {p2 p3 p4 : Pos} {k4} (B : NB X.mg) (ha : DE X a ta) (hT : Ts ∈ tyNames := by decide) (hU : Us ∈ tyNames := by decide) (hv : bootBuiltins T = some (.type Ts) := by decide +kernel) (hw : bootBuiltins U = some (.type Us) := by decide +kernel)
    (hm : X.mg T = none := by first | exact NB.int ‹_› | exact NB.str ‹_› | exact NB.bool ‹_› | exact NB.tuple ‹_› | exact NB.list ‹_›) (hm2 : X.mg U = none := by first | exact NB.int ‹_› | exact NB.str ‹_› | exact NB.bool ‹_› | exact NB.tuple ‹_› | exact NB.list ‹_›) (hg : Gl X "isinstance" := by rfl) (hgT : Gl X T := by rfl) (hgU : Gl X U := by rfl)
    (hn : T ≠ "__name__" := by decide) (hd : (T == ("__debug__" : Str)) = false := by decide) (hn2 : U ≠ "__name__" := by decide) (hd2 : (U == ("__debug__" : Str)) = false := by decide)
    (na : starEach [a, .Tuple [.Name T p2, .Name U p3] k4 p4] X.env = (false, eval a X.env) :: starEach [.Tuple [.Name T p2, .Name U p3] k4 p4] X.env := by rfl)
    (nb : starEach [.Tuple [.Name T p2, .Name U p3] k4 p4] X.env = (false, eval (.Tuple [.Name T p2, .Name U p3] k4 p4) X.env) :: starEach [] X.env := by rfl) (hpl : (backTo pos (starEach [.Tuple [.Name T p2, .Name U p3] k4 p4] X.env)).any (·.1) = false := by rfl)
    (nc : starEach [.Name T p2, .Name U p3] X.env = (false, eval (.Name T p2) X.env) :: starEach [.Name U p3] X.env := by rfl) (nd : starEach [.Name U p3] X.env = (false, eval (.Name U p3) X.env) :: starEach [] X.env := by rfl) :
    DE X (.Call (.Name "isinstance" p) [a, .Tuple [.Name T p2, .Name U p3] k4 p4] [] pos) (dIsi2 Ts Us ta) :=
  PE.imp (pe_callB call_isiT hg B.isinstance (by decide +kernel) (pa_cons ha (pa_cons (pe_tup (pa_cons (pe_bltn (v := .ty Ts) hgT hm hv rfl hn hd) (pa_cons (pe_bltn (v := .ty Us) hgU hm2 hw rfl hn2 hd2) pa_nil nd) nc)) pa_nil nb) na) (by decide) (by decide) na hpl) fun σ H Q ⟨F, env, M, Q0, he, hc, ht, hp⟩ =>
    ⟨F, env, M, _, he, hc, ht, fun d M1 F1 H1 v q s1 f1 c1 r1 => by
      revert q
      dsimp only
      split <;> intro q
      · rename_i n g
        refine ⟨by show 2 ≤ sizeLine; decide, fun t ht => ?_⟩
        obtain ⟨c2, s2, f2⟩ := c1.new ht (.tup [.ty Ts, .ty Us])
        refine ⟨v, t, [.ty Ts, .ty Us], .type n, [.type Ts, .type Us], _, rfl, upd_same, .cons (.ty Ts) (.cons (.ty Us) .nil), tyN_ok c2 (r1.mono s2) g, ?_, ((hp.after s1 f1).after s2 f2).bl c2 q⟩
        refine kitAny_cons (kit_isT g hT) (fun hb => ?_) (fun hb => by rw [hb]; rfl)
        rw [hb, Bool.false_or]
        exact kitAny_cons (kit_isT g hU) (fun hb => by rw [hb]; rfl) (fun hb => hb)
      · exact q.elim⟩
end
end DL
namespace DL
open PySem PySem.Spec PyProof.Rows L2
/-- the sgs from the end -/
def srev (z : Str) : Str := ⟨z.cps.toList.reverse.toArray⟩
theorem filterMap_rev (l : List Nat) : ∀ (n : Nat), n ≤ l.length → ((List.range n).map fun k => n - 1 - k).filterMap (fun i => l[i]?) = (l.take n).reverse := by
  intro n
  induction n with
  | zero => intro _; simp
  | succ n ih =>
    intro h
    have hn : n < l.length := h
    rw [List.range_succ_eq_map, List.map_cons, List.map_map, List.filterMap_cons]
    have e0 : n + 1 - 1 - 0 = n := by omega
    rw [e0, List.getElem?_eq_getElem hn]
    simp only
    have e1 : ((fun k => n + 1 - 1 - k) ∘ Nat.succ) = fun k => n - 1 - k := by
      funext k
      show n + 1 - 1 - (k + 1) = n - 1 - k
      omega
    rw [e1, ih (by omega)]
    have e2 : List.take (n + 1) l = List.take n l ++ [l[n]] := by rw [List.take_add_one, List.getElem?_eq_getElem hn]; rfl
    rw [e2, List.reverse_append]
    rfl
theorem rev_picked (z : Str) : ((Builtin.Str.strSliceIndices none none (-1) z.length).filterMap (z.cps[·]?)) = z.cps.toList.reverse := by
  have hz : z.cps.toList.length = z.length := by simp [Str.length]
  have e : Builtin.Str.strSliceIndices none none (-1) z.length = (List.range z.length).map fun k => z.length - 1 - k := by
    show sliceRange ((z.length : Int) - 1) (-1) (-1) = _
    unfold sliceRange
    have c1 : ¬ ((-1 : Int) > 0) := by decide
    simp only [if_neg c1]
    have c2 : (if (z.length : Int) - 1 > -1 then ((z.length : Int) - 1 - -1 - -1 - 1) / (- -1) else 0).toNat = z.length := by
      split
      · have : ((z.length : Int) - 1 - -1 - -1 - 1) / (- -1) = z.length := by
          have h1 : (- -1 : Int) = 1 := by decide
          rw [h1, Int.ediv_one]; omega
        rw [this]; omega
      · omega
    rw [c2]
    apply List.map_congr_left
    intro k hk
    have := List.mem_range.mp hk
    omega
  rw [e]
  have := filterMap_rev z.cps.toList z.length (by omega)
  rw [List.take_of_length_le (by omega)] at this
  rw [← this]
  congr 1
  funext i
  simp
section
variable {X : Cx} {GX : GI X.K} {K : PySem.W.Frag} {G : GI K} {a b c e : Expr} {es : List Expr} {ta tb tc : DTE} {pos p : Pos} {tt : DTT} {tr tk : DTA} {k : Nat} {f : Addr} {fd : FuncData} {ps ks : List Str} {sp : DSp} {x : Str}
/-! ### x[::-1] -/
def tRevA (K : PySem.W.Frag) (te : TE) : TE := fun σ H Q => te σ H fun x H1 => (∃ z, x = .str z ∧ z.length ≤ sizeLine ∧ Q (.str (srev z)) H1) ∨ (∃ a xs, x = .ref a ∧ SqL K H1 a xs ∧ ∀ p, H1 p = none → Q (.ref p) (upd H1 p (.lst xs.reverse)))
theorem pe_revA {te : TE} {kk : Nat} {p1 p2 p3 : Pos} (he : PE X e te) : PE X (.Subscript e (.Slice none none (some (.UnaryOp .USub (.Constant (.int 1) kk p1) p2)) p3) pos) (tRevA X.K te) := by
  refine ⟨fun pins s σ H Q I hh => ?_⟩
  refine Subscript_ (thn (he.run pins s σ H _ I hh) fun vv s1 ⟨xx, H1, I1, rr1, qq1⟩ => ?_)
  have step : PO X (some (.UnaryOp .USub (.Constant (.int 1) kk p1) p2)) (tPart (tUn (rU fun i => .int (-i)) (tC (.int 1)))) := po_some (pe_un un_neg pe_int)
  refine wpAny_Slice (thn (po_none.run pins s1 σ H1 (fun o H2 => o = none ∧ H2 = H1) I1 ⟨rfl, rfl⟩) fun vl s2 ⟨l, H2, I2, pl, el, e2⟩ => ?_)
  subst el e2
  refine thn (po_none.run pins s2 σ H2 (fun o H3 => o = none ∧ H3 = H2) I2 ⟨rfl, rfl⟩) fun vu s3 ⟨u, H3, I3, pu, eu, e3⟩ => ?_
  subst eu e3
  refine thn (step.run pins s3 σ H3 (fun o H4 => o = some (-1) ∧ H4 = H3) I3 ⟨1, rfl, -1, rfl, rfl, rfl⟩) fun w4 s4 ⟨o, H4, I4, ps, eo, e4⟩ => ?_
  subst eo e4
  have J : Inv X pins σ H4 { s4 with heap := s4.heap.push { cls := .type "slice", data := .fields #[vl, vu, w4] } } := I4.kept (t' := s4.toks) fun b ob q => Heap.get?_push_of_some _ q
  rcases qq1 with ⟨z, ez, hz, q⟩ | ⟨a, xs, ea, hx, q⟩
  · subst ez
    obtain ⟨t, rfl⟩ := rr1
    show wpAny (model X.prog X.w) X.A (subscriptTail e (.Slice none none (some (.UnaryOp .USub (.Constant (.int 1) kk p1) p2)) p3) (.str z t) (.ref s4.heap.objs.size)) (EP X pins σ Q) X.xe { s4 with heap := s4.heap.push { cls := .type "slice", data := .fields #[vl, vu, w4] } }
    cases pl
    cases pu
    cases ps with
    | int _ tk =>
    refine tail_any (ops := [.ref s4.heap.objs.size, .str z t]) (typeIs_str _ _ _) F.slot_str_getitem.lookup ?_ (by with_unfolding_all rfl)
    refine wpAny_getItem_str_slice (l := none) (u := none) (st := some (-1, tk)) ⟨_, Heap.get?_push_size _ rfl, rfl, rfl⟩ rfl ?_
    show Made.post (if ((-1 : Int) == 1 && _) = true then Made.val (.str z t) else Made.str ⟨((Builtin.Str.strSliceIndices none none (-1) z.length).filterMap (z.cps[·]?)).toArray⟩) (EP X pins σ Q) _
    have c0 : ((-1 : Int) == 1) = false := by decide
    rw [c0, Bool.false_and, if_neg Bool.false_ne_true, rev_picked]
    refine ⟨?_, .str (srev z), H4, J.tok _, ⟨_, rfl⟩, q⟩
    show z.cps.toList.reverse.toArray.size ≤ sizeLine
    rw [List.size_toArray, List.length_reverse]
    exact hz
  · subst ea
    cases rr1
    obtain ⟨its, r, ht, hz⟩ := J.list hx
    have hlen := r.length
    show wpAny (model X.prog X.w) X.A (subscriptTail e (.Slice none none (some (.UnaryOp .USub (.Constant (.int 1) kk p1) p2)) p3) (.ref a) (.ref s4.heap.objs.size)) (EP X pins σ Q) X.xe { s4 with heap := s4.heap.push { cls := .type "slice", data := .fields #[vl, vu, w4] } }
    refine tail_any (ops := [.ref a, .ref s4.heap.objs.size]) ht.isList.typeIs (PySem.slot_list_getitem.lookup) ?_ (by with_unfolding_all rfl)
    refine wpAny_getItem_list_slice ht.isList (Heap.IsSliceOf.new _ vl vu w4) pl pu ps (by decide) ?_ (by rw [List.size_toArray]; omega)
    rw [PySem.W.krv_pick]
    have nw := J.hok.fresh (Nat.le_refl _)
    refine ⟨.ref _, _, J.laid (t' := s4.toks) (o := .lst xs.reverse) (fun b ob q => Heap.get?_push_of_some _ q) (Nat.le_refl _) ?_, rfl, q _ nw⟩
    refine ⟨by rw [List.length_reverse]; exact hz, its.reverse, 0, r.reverse, ?_⟩
    exact Heap.get?_push_size _ rfl
def dRev (ta : DTE) : DTE := fun env M Q => ta env M fun x M1 => match x with
  | .str z => z.length ≤ sizeLine ∧ Q (.str (srev z)) M1
  | x => match lstOf M1 x with | some ds => Q (.lst ds.reverse) M1 | none => False
theorem de_rev {kk : Nat} {p1 p2 p3 : Pos} (he : DE X e ta) : DE X (.Subscript e (.Slice none none (some (.UnaryOp .USub (.Constant (.int 1) kk p1) p2)) p3) pos) (dRev ta) := PE.imp (pe_revA he) fun σ H Q ⟨F, env, M, Q0, he, hc, ht, hp⟩ =>
  ⟨F, env, M, _, he, hc, ht, fun d M1 F1 H1 v q s1 f1 c1 r1 => by
    revert q
    dsimp only
    split <;> intro q
    · rw [Rep] at r1
      exact .inl ⟨_, r1, q.1, (hp.after s1 f1).str c1 q.2⟩
    · split at q
      · rename_i ds g
        obtain ⟨a, vs, e1, e2, e3⟩ := lstOf_ok c1 r1 g
        exact .inr ⟨a, vs, e1, e2, (hp.after s1 f1).lst c1 e3.reverse q⟩
      · exact q.elim⟩
/-! ### list(x): a list, a tuple, a text -/
def rToListA : DC := fun ds M Q => match ds with
  | [.tup xs] => Q (.lst xs) M
  | [.str z] => z.length ≤ sizeLine ∧ Q (.lst (sgs z)) M
  | [x] => match lstOf M x with | some xs => Q (.lst xs) M | none => False
  | _ => False
theorem call_list_text (hc : X.calm = true) : CallR X (.type "list") (fun xs H Q => ∃ z, xs = [.str z] ∧ z.length ≤ sizeLine ∧ ∀ l, H l = none → Q (.ref l) (upd H l (.lst (z.cps.toList.map fun c => .str ⟨#[c]⟩)))) := by
  intro pins s σ H xs us Q I r hh
  obtain ⟨z, rfl, hz, q⟩ := hh
  obtain ⟨u, rfl, t, rfl⟩ := vals1 r
  refine call_list_str (I.ok.hd hc) z t (fun h' tk acc cc hk ho hi => ?_) hz
  have fresh : H s.heap.objs.size = none := I.hok.fresh (Nat.le_refl _)
  have va : Vals (z.cps.toList.map fun c => V.str ⟨#[c]⟩) acc.toList := by
    have key : ∀ (l : List Nat) (us : List Value), us.length = l.length → (∀ (j : Nat) (v : Value), us[j]? = some v → ∃ c u, l[j]? = some c ∧ v = .str ⟨#[c]⟩ u) → Vals (l.map fun c => V.str ⟨#[c]⟩) us := by
      intro l
      induction l with
      | nil => intro us h0 _; cases us with
        | nil => exact .nil
        | cons _ _ => cases h0
      | cons c l ih =>
        intro us h0 hj
        cases us with
        | nil => cases h0
        | cons v us =>
          obtain ⟨c', u, e1, e2⟩ := hj 0 v rfl
          cases e1
          exact .cons ⟨u, e2⟩ (ih us (by simpa using h0) fun j w hw => hj (j + 1) w (by simpa using hw))
    refine key _ _ (by simpa using hi.1) fun j v hv => ?_
    obtain ⟨c, u, e1, e2⟩ := hi.2 j v (by simpa using hv)
    exact ⟨c, u, by simpa using e1, e2⟩
  refine ⟨.ref s.heap.objs.size, _, I.laid (t' := tk) (a := s.heap.objs.size) (o := .lst (z.cps.toList.map fun c => .str ⟨#[c]⟩)) hk (Nat.le_refl _) ⟨?_, acc.toList, cc, va, ?_⟩, rfl, q _ fresh⟩
  · rw [List.length_map]; simpa [Str.length] using hz
  · simpa using ho
theorem l_toListA : LC K (fun xs H Q => (∃ z, xs = [.str z] ∧ z.length ≤ sizeLine ∧ ∀ l, H l = none → Q (.ref l) (upd H l (.lst (z.cps.toList.map fun c => .str ⟨#[c]⟩)))) ∨ (∃ p ys, xs = [.ref p] ∧ (SqL K H p ys ∨ SqT K H p ys) ∧ ∀ l, H l = none → Q (.ref l) (upd H l (.lst ys)))) rToListA := by
  intro F H M ds vs Q0 Q c r h p
  unfold rToListA at h
  split at h
  · obtain ⟨v, e1, e2⟩ := reps1 r
    rw [Rep] at e2
    obtain ⟨a, vs, f1, f2, f3⟩ := e2
    subst e1 f1
    exact .inr ⟨a, vs, rfl, .inr (sameT c.same f2), p.lst c f3 h⟩
  · rename_i z
    obtain ⟨v, e1, e2⟩ := reps1 r
    rw [Rep] at e2
    subst e1 e2
    refine .inl ⟨z, rfl, h.1, p.lst c ?_ h.2⟩
    have e : (z.cps.toList.map fun c => V.str ⟨#[c]⟩) = (z.cps.toList.map fun c => (⟨#[c]⟩ : Str)).map V.str := by rw [List.map_map]; rfl
    have e' : sgs z = (z.cps.toList.map fun c => (⟨#[c]⟩ : Str)).map D.str := by unfold sgs; rw [List.map_map]; rfl
    rw [e, e']
    exact Reps.of_strs
  · split at h
    · rename_i xs g
      obtain ⟨v, e1, e2⟩ := reps1 r
      obtain ⟨a, vs, f1, f2, f3⟩ := lstOf_ok c e2 g
      subst e1 f1
      exact .inr ⟨a, vs, rfl, .inl f2, p.lst c f3 h⟩
    · exact h.elim
  · exact h.elim
theorem de_toList (hm : X.mg "list" = none) (ha : DA X [a] tr) (hc : X.calm = true := by rfl) (hg : Gl X "list" := by rfl) (na : starEach [a] X.env = (false, eval a X.env) :: starEach [] X.env := by rfl) : DE X (.Call (.Name "list" p) [a] [] pos) (dCB rToListA tr) := de_callTy (CallR.or (call_list_text hc) call_list_of) l_toListA hm (by decide +kernel) ha hg (by decide) (by decide) na rfl
end
end DL
namespace DL
open PySem PySem.Spec PyProof.Rows L2
theorem de_globE {X : Cx} {GX : GI X.K} {x : Str} {v : V} {d : D} {pos : Pos} (h : ∃ u, X.mg x = some u ∧ RelV v u) (q : ∀ F, Rep X.K F d v) (hg : Gl X x := by rfl) (hd : (x == ("__debug__" : Str)) = false := by decide) : DE X (.Name x pos) (dC d) := by
  obtain ⟨u, h1, h2⟩ := h
  exact de_glob hg h1 h2 q hd
end DL
namespace DL
open PySem PySem.Spec PyProof.Rows L2
theorem uI {k : Nat} {A : Around} (r : L2.Room k A) : A.units + 65 < cLine := by have := r.un; omega
end DL
namespace DL
open PySem PySem.Spec PyProof.Rows L2
/-! ### what the readings' proofs use: each combinator at work -/
section
variable {env : DSt} {M : Mp} {Q : DQ} {E : DEnds} {i j n : Int} {k l : Bool} {x y : Str} {xs ys : List D} {d : D} {ta tb tc : DTE} {t u : DTS} {tt t1 t2 : DTT} {tr : DTA} {g : DTG} {gs : DTGs}
theorem bodyE_rt {K : PySem.W.Frag} {G : GI K} : (bodyE K Q).rt = Fin K Q := rfl
theorem bodyE_nx {K : PySem.W.Frag} {G : GI K} : (bodyE K Q).nx env M = Fin K Q .non M := rfl
theorem dVar_ap {m : Nat} : dVar m env M Q = (match env[m]? with | some (some d) => Q d M | _ => False) := rfl
theorem dC_ap : dC d env M Q = Q d M := rfl
theorem dOp_ap {r : D2} : dOp r ta tb env M Q = ta env M fun x M1 => tb env M1 fun y M2 => r x y M2 Q := rfl
theorem dTB_ap {R : Bool → Mp → Prop} : dTB ta env M R = ta env M fun x M' => (match x with | .bl k => R k M' | _ => False) := rfl
theorem dTru_ap {R : Bool → Mp → Prop} : dTru ta env M R = ta env M fun x M' => (match x with
  | .non => R false M' | .bl b => R b M' | .int i => R (i != 0) M' | .str y => y.length ≤ sizeLine ∧ R ((y.length : Int) != 0) M' | .tup ds => R (!ds.isEmpty) M'
  | x => (match lstOf M' x with | some ds => R (!ds.isEmpty) M' | none => False)) := rfl
theorem dAnd_ap {R : Bool → Mp → Prop} : dAnd t1 t2 env M R = t1 env M fun c M1 => if c = true then t2 env M1 R else R false M1 := rfl
theorem dOr_ap {R : Bool → Mp → Prop} : dOr t1 t2 env M R = t1 env M fun c M1 => if c = true then R true M1 else t2 env M1 R := rfl
theorem dNot_ap {R : Bool → Mp → Prop} : dNot t1 env M R = t1 env M fun c M1 => R (!c) M1 := rfl
theorem dNotV_ap : dNotV ta env M Q = ta env M fun x M1 => (match x with | .bl k => Q (.bl (!k)) M1 | _ => False) := rfl
theorem dAndV_ap : dAndV ta tb env M Q = ta env M fun x M1 => (match x with | .bl k => (if k = true then tb env M1 Q else Q (.bl false) M1) | _ => False) := rfl
theorem dOrV_ap : dOrV ta tb env M Q = ta env M fun x M1 => (match x with | .bl k => (if k = true then Q (.bl true) M1 else tb env M1 Q) | _ => False) := rfl
theorem dIf_ap : dIf tt ta tb env M Q = tt env M fun k M1 => if k = true then ta env M1 Q else tb env M1 Q := rfl
theorem dIsN_ap {b : Bool} : dIsN b ta env M Q = ta env M fun x M1 => Q (.bl (b ^^ isNon x)) M1 := rfl
theorem dNext_ap : dNext E env M = E.nx env M := rfl
theorem dSeq_ap : dSeq t u E env M = t { E with nx := u E } env M := rfl
theorem dBreak_ap : dBreak E env M = E.bk env M := rfl
theorem dCont_ap : dCont E env M = E.ct env M := rfl
theorem dDrop_ap : dDrop ta E env M = ta env M fun _ M' => E.nx env M' := rfl
theorem dRet_ap : dRet ta E env M = ta env M E.rt := rfl
theorem dRetN_ap : dRetN E env M = E.rt .non M := rfl
theorem dIfS_ap : dIfS tt t u E env M = tt env M fun k M1 => if k = true then t E env M1 else u E env M1 := rfl
theorem dgName_ap {m : Nat} {R : DSt → Mp → Prop} : dgName m d env M R = R (env.set m (some d)) M := rfl
theorem dgNil_ap {R : DSt → Mp → Prop} : dgNil xs env M R = (xs = [] ∧ R env M) := rfl
theorem dgCons_ap {R : DSt → Mp → Prop} : dgCons g gs (d :: xs) env M R = g d env M fun env' M' => gs xs env' M' R := rfl
theorem dgTup_ap {m : Nat} {R : DSt → Mp → Prop} : dgTup m gs (.tup xs) env M R = (xs.length = m ∧ gs xs env M R) := rfl
theorem dgSub_ap {R : DSt → Mp → Prop} : dgSub ta tb d env M R = ta env M fun o M1 => tb env M1 fun i M2 => (match o, i with
  | .ptr a, .int k => (match M2 a with | some (.lst ds) => ∃ j, ixN ds.length k = some j ∧ R env (up M2 a (.lst (ds.set j d))) | _ => False) | _, _ => False) := rfl
theorem dAsg_ap : dAsg ta g E env M = ta env M fun d M1 => g d env M1 E.nx := rfl
theorem dPar_ap {m m' : Nat} : dPar m m' ta tb E env M = ta env M fun x M1 => tb env M1 fun y M2 => E.nx ((env.set m (some x)).set m' (some y)) M2 := rfl
theorem dAug_ap {m : Nat} {r : D2} : dAug m ta r E env M = (match env[m]? with | some (some x) => ta env M fun y M1 => r x y M1 fun z M2 => E.nx (env.set m (some z)) M2 | _ => False) := rfl
theorem dNil_ap {R : List D → Mp → Prop} : dNil env M R = R [] M := rfl
theorem dCons_ap {R : List D → Mp → Prop} : dCons ta tr env M R = ta env M fun x M1 => tr env M1 fun xs M2 => R (x :: xs) M2 := rfl
theorem dTup_ap : dTup tr env M Q = tr env M fun ds M1 => ds.length ≤ sizeLine ∧ Q (.tup ds) M1 := rfl
theorem dLst_ap : dLst tr env M Q = tr env M fun ds M1 => ds.length ≤ sizeLine ∧ Q (.lst ds) M1 := rfl
theorem dLstM_ap : dLstM tr env M Q = tr env M fun ds M1 => ds.length ≤ sizeLine ∧ ∀ p, M1 p = none → Q (.ptr p) (up M1 p (.lst ds)) := rfl
theorem dCB_ap {r : DC} : dCB r tr env M Q = tr env M fun ds M1 => r ds M1 Q := rfl
theorem dBM_ap {T : String} {r : DM} : dBM T r ta tr env M Q = ta env M fun x M1 => tyD T x M1 ∧ tr env M1 fun xs M2 => r x xs M2 Q := rfl
theorem dBM0_ap {T : String} {r : DM} : dBM0 T r ta env M Q = ta env M fun x M1 => tyD T x M1 ∧ r x [] M1 Q := rfl
theorem dCall_ap {sp : DSp} : dCall sp tr env M Q = tr env M fun ds M1 => sp ds M1 Q noX := rfl
theorem dCallK_ap {sp : DSp} {gD : List D → List D → List D} {tk : DTA} : dCallK sp gD tr tk env M Q = tr env M fun ds M1 => tk env M1 fun es M2 => sp (gD ds es) M2 Q noX := rfl
theorem dRev_s : dRev ta env M Q = ta env M fun x M1 => (match x with | .str z => z.length ≤ sizeLine ∧ Q (.str (srev z)) M1 | x => (match lstOf M1 x with | some ds => Q (.lst ds.reverse) M1 | none => False)) := rfl
theorem dSl_ap {tl th : DTO} : dSl ta tl th env M Q = ta env M fun x M1 => tl env M1 fun l M2 => th env M2 fun u M3 => rSlD x l u M3 Q := rfl
theorem dPart_ap {R : Option Int → Mp → Prop} : dPart ta env M R = ta env M fun x M' => (match x with | .int i => R (some i) M' | _ => False) := rfl
theorem dUn_ap {r : D → Mp → DQ → Prop} : dUn r ta env M Q = ta env M fun x M' => r x M' Q := rfl
theorem dChain_ap {r r' : D2} : dChain r r' ta tb tc env M Q = ta env M fun x M1 => tb env M1 fun y M2 => r x y M2 fun z M3 => (match z with | .bl k => if k = true then tc env M3 fun w M4 => r' y w M4 Q else Q (.bl false) M3 | _ => False) := rfl
theorem dIsi_ap {T : String} : dIsi T ta env M Q = ta env M fun x M1 => (match tyN M1 x with | some n => Q (.bl (isT n T)) M1 | none => False) := rfl
theorem dIsi2_ap {T U : String} : dIsi2 T U ta env M Q = ta env M fun x M1 => (match tyN M1 x with | some n => Q (.bl (isT n T || isT n U)) M1 | none => False) := rfl
theorem dIter_ap {R : List D → (Mp → Prop) → Mp → Prop} : dIter ta env M R = ta env M fun x M1 => (match x with
  | .lst ds => (R ds (fun _ => True) M1)
  | .lsx ds => (R ds (fun _ => True) M1)
  | .ptr a => (match M1 a with
    | some (.lst ds) => (R ds (fun M => M a = some (.lst ds)) M1)
    | _ => False)
  | _ => False) := rfl
theorem dIterT_ap {R : List D → (Mp → Prop) → Mp → Prop} : dIterT ta env M R = ta env M fun x M1 => (match x with
  | .tup ds => (R ds (fun _ => True) M1)
  | _ => False) := rfl
theorem dIterS_ap {R : List D → (Mp → Prop) → Mp → Prop} : dIterS ta env M R = ta env M fun x M1 => (match x with
  | .str z => (R (sgs z) (fun _ => True) M1)
  | _ => False) := rfl
theorem dRng1_ap {R : List D → (Mp → Prop) → Mp → Prop} : dRng1 tr env M R = tr env M fun ds M1 => (match ds with
  | [.int j] => ((-(2 ^ 62) ≤ j ∧ j < 2 ^ 62) ∧ R (rng 0 j.toNat) (fun _ => True) M1)
  | _ => False) := rfl
theorem dRng2_ap {R : List D → (Mp → Prop) → Mp → Prop} : dRng2 tr env M R = tr env M fun ds M1 => (match ds with
  | [.int i, .int j] => ((-(2 ^ 62) ≤ i ∧ i < 2 ^ 62 ∧ -(2 ^ 62) ≤ j ∧ j < 2 ^ 62) ∧ R (rng i (j - i).toNat) (fun _ => True) M1)
  | _ => False) := rfl
/-! operations at data of known kinds -/
theorem rAdd_ii : rAdd (.int i) (.int j) M Q = Q (.int (i + j)) M := rfl
theorem rAdd_ss : rAdd (.str x) (.str y) M Q = (x.length + y.length ≤ sizeLine ∧ Q (.str (x ++ y)) M) := rfl
theorem rAdd_tt : rAdd (.tup xs) (.tup ys) M Q = ((xs ≠ [] ∧ ys ≠ []) ∧ xs.length + ys.length ≤ sizeLine ∧ Q (.tup (xs ++ ys)) M) := rfl
theorem rAdd_ll : rAdd (.lst xs) (.lst ys) M Q = (xs.length + ys.length ≤ sizeLine ∧ Q (.lst (xs ++ ys)) M) := rfl
theorem rSub_ii : rSubI (.int i) (.int j) M Q = Q (.int (i - j)) M := rfl
theorem rInt2_ii {C : Int → Int → Prop} {f : Int → Int → Int} : rInt2 C f (.int i) (.int j) M Q = (C i j ∧ Q (.int (f i j)) M) := rfl
theorem rNeg_i : rNeg (.int i) M Q = Q (.int (-i)) M := rfl
theorem rOrd_ii {fi : Int → Int → Bool} {fs : Str → Str → Bool} {ft : List Int → List Int → Bool} : rOrd fi fs ft (.int i) (.int j) M Q = Q (.bl (fi i j)) M := rfl
theorem rOrd_ss {fi : Int → Int → Bool} {fs : Str → Str → Bool} {ft : List Int → List Int → Bool} : rOrd fi fs ft (.str x) (.str y) M Q = Q (.bl (fs x y)) M := rfl
theorem rIadd_ii : rIadd (.int i) (.int j) M Q = Q (.int (i + j)) M := rfl
theorem rIadd_ss : rIadd (.str x) (.str y) M Q = (x.length + y.length ≤ sizeLine ∧ Q (.str (x ++ y)) M) := rfl
theorem rEqW_ii {b : Bool} : rEqW b (.int i) (.int j) M Q = Q (.bl (b ^^ (i == j))) M := if_pos rfl
theorem rEqW_ss {b : Bool} : rEqW b (.str x) (.str y) M Q = Q (.bl (b ^^ (x == y))) M := if_pos rfl
theorem rEqW_bb {b : Bool} : rEqW b (.bl k) (.bl l) M Q = Q (.bl (b ^^ (k == l))) M := if_pos rfl
theorem rIn_ss {b : Bool} : rInD b (.str x) (.str y) M Q = Q (.bl (b ^^ strIn x y)) M := rfl
theorem rIxD_l : rIxD (.lst xs) (.int i) M Q = ∃ d, atI xs i = some d ∧ Q d M := rfl
theorem rIxD_x : rIxD (.lsx xs) (.int i) M Q = ∃ d, atI xs i = some d ∧ Q d M := rfl
theorem rIxD_t : rIxD (.tup xs) (.int i) M Q = ∃ d, atI xs i = some d ∧ Q d M := rfl
theorem rIxD_s : rIxD (.str x) (.int i) M Q = (x.length ≤ sizeLine ∧ ∃ c, atI x.cps.toList i = some c ∧ Q (.str ⟨#[c]⟩) M) := rfl
theorem rIxD_p {a : Addr} : rIxD (.ptr a) (.int i) M Q = (match lstOf M (.ptr a) with | some ds => ∃ d, atI ds i = some d ∧ Q d M | none => False) := rfl
theorem lstOf_p {a : Addr} : lstOf M (.ptr a) = (match M a with | some (.lst ds) => some ds | _ => none) := rfl
theorem lstOf_l : lstOf M (.lst xs) = some xs := rfl
theorem lstOf_x : lstOf M (.lsx xs) = some xs := rfl
theorem rSlD_s {lo hi : Option Int} : rSlD (.str x) lo hi M Q = (x.length ≤ sizeLine ∧ Q (.str (cutS x lo hi)) M) := rfl
theorem rSlD_t {lo hi : Option Int} : rSlD (.tup xs) lo hi M Q = (¬ (HT.sIx xs.length 0 lo = 0 ∧ HT.sIx xs.length xs.length hi = xs.length) ∧ Q (.tup (cutD xs lo hi)) M) := rfl
theorem rSlD_l {lo hi : Option Int} : rSlD (.lst xs) lo hi M Q = Q (.lst (cutD xs lo hi)) M := rfl
theorem rSlD_x {lo hi : Option Int} : rSlD (.lsx xs) lo hi M Q = Q (.lst (cutD xs lo hi)) M := rfl
theorem rLen_s : rLen [.str x] M Q = (x.length ≤ sizeLine ∧ Q (.int x.length) M) := rfl
theorem rLen_t : rLen [.tup xs] M Q = Q (.int xs.length) M := rfl
theorem rLen_l : rLen [.lst xs] M Q = Q (.int xs.length) M := rfl
theorem rLen_x : rLen [.lsx xs] M Q = Q (.int xs.length) M := rfl
theorem rLen_p {a : Addr} : rLen [.ptr a] M Q = (match lstOf M (.ptr a) with | some xs => Q (.int xs.length) M | none => False) := rfl
theorem rAbs_i : rAbs [.int i] M Q = Q (.int (if i < 0 then -i else i)) M := rfl
theorem rInt_i : rInt [.int i] M Q = Q (.int i) M := rfl
theorem rInt_b : rInt [.bl k] M Q = Q (.int (if k then 1 else 0)) M := rfl
theorem rToListA_t : rToListA [.tup xs] M Q = Q (.lst xs) M := rfl
theorem rToListA_l : rToListA [.lst xs] M Q = Q (.lst xs) M := rfl
theorem rToListA_s : rToListA [.str x] M Q = (x.length ≤ sizeLine ∧ Q (.lst (sgs x)) M) := rfl
theorem rToListM_t : rToListM [.tup xs] M Q = ∀ p, M p = none → Q (.ptr p) (up M p (.lst xs)) := rfl
theorem rToListM_l : rToListM [.lst xs] M Q = ∀ p, M p = none → Q (.ptr p) (up M p (.lst xs)) := rfl
theorem rToTup_t : rToTup [.tup xs] M Q = Q (.tup xs) M := rfl
theorem rToTup_l : rToTup [.lst xs] M Q = Q (.tup xs) M := rfl
theorem rToTup_p {a : Addr} : rToTup [.ptr a] M Q = (match lstOf M (.ptr a) with | some xs => Q (.tup xs) M | none => False) := rfl
theorem rSum_ap : rSum [d] M Q = ∃ ns : List Int, lstOf M d = some (ns.map D.int) ∧ Q (.int ns.sum) M := rfl
theorem rAll_ap : rAll [d] M Q = ∃ ns : List Bool, lstOf M d = some (ns.map D.bl) ∧ Q (.bl (ns.all id)) M := rfl
theorem rAny_ap : rAny [d] M Q = ∃ ns : List Bool, lstOf M d = some (ns.map D.bl) ∧ Q (.bl (ns.any id)) M := rfl
theorem rStrN_i : rStrN [.int n] M Q = (n.natAbs.log2 < 1920 ∧ Q (.str (toString n)) M) := rfl
theorem rMax2_ii : rMax2 [.int i, .int j] M Q = Q (.int (if j > i then j else i)) M := rfl
theorem rMin2_ii : rMin2 [.int i, .int j] M Q = Q (.int (if j < i then j else i)) M := rfl
theorem rS0_ap {C : Str → Prop} {f : Str → D} : rS0 C f (.str x) [] M Q = (C x ∧ Q (f x) M) := rfl
theorem rS1_ap {C : Str → Str → Prop} {f : Str → Str → D} : rS1 C f (.str x) [.str y] M Q = (C x y ∧ Q (f x y) M) := rfl
theorem tyD_s {T : String} : tyD T (.str x) M = (T = "str") := rfl
theorem tyD_p {T : String} {a : Addr} : tyD T (.ptr a) M = (T = "list" ∧ ∃ ds, lstOf M (.ptr a) = some ds) := rfl
theorem tyD_l {T : String} : tyD T (.lst xs) M = (T = "list" ∧ ∃ ds, lstOf M (.lst xs) = some ds) := rfl
theorem rJoin_l : rJoin (.str x) [.lst xs] M Q = ∃ ys : List Str, lstOf M (.lst xs) = some (ys.map D.str) ∧ (ys.map (·.length)).sum + ys.length * x.length ≤ 16777216 ∧ Q (.str (Txt.join x ys)) M := rfl
theorem rJoin_p {a : Addr} : rJoin (.str x) [.ptr a] M Q = ∃ ys : List Str, lstOf M (.ptr a) = some (ys.map D.str) ∧ (ys.map (·.length)).sum + ys.length * x.length ≤ 16777216 ∧ Q (.str (Txt.join x ys)) M := rfl
theorem rAppend_p {a : Addr} : rAppend (.ptr a) [d] M Q = (match M a with | some (.lst ds) => ds.length < sizeLine ∧ Q .non (up M a (.lst (ds ++ [d]))) | _ => False) := rfl
theorem rPop_p {a : Addr} : rPop (.ptr a) [] M Q = (match M a with | some (.lst ds) => ∃ y, ds[ds.length - 1]? = some y ∧ Q y (up M a (.lst ds.dropLast)) | _ => False) := rfl
/-! ### loops by typed data -/
/-- for, by a state that each item moves on -/
theorem for_fold {α β : Type} {ti : DTI} {kp : Mp → Prop} {M1 : Mp} (xs : List α) (enc : α → D) (s0 : β) (step : β → α → β) (inv : β → DSt → Mp → Prop)
    (hi : ∀ R, R (xs.map enc) kp M1 → ti env M R) (h0 : inv s0 env M1) (hk : ∀ s env M, inv s env M → kp M)
    (hs : ∀ s x env M, x ∈ xs → inv s env M → g (enc x) env M fun env' M' => t { E with nx := inv (step s x), ct := inv (step s x), bk := E.nx } env' M')
    (hd : ∀ env M, inv (xs.foldl step s0) env M → E.nx env M) : dFor ti g t E env M := by
  refine hi _ ⟨fun i env M => inv ((xs.take i).foldl step s0) env M, h0, fun i env M => hk _ env M, fun i d env M hx p => ?_, fun env M p => ?_⟩
  · rw [List.getElem?_map] at hx
    cases q : xs[i]? with
    | none => rw [q] at hx; cases hx
    | some x =>
      rw [q] at hx
      cases hx
      have e : (xs.take (i + 1)).foldl step s0 = step ((xs.take i).foldl step s0) x := by rw [List.take_add_one, q]; simp
      dsimp only
      rw [e]
      exact hs _ x env M (List.mem_of_getElem? q) p
  · rw [List.length_map, List.take_length] at p
    exact hd env M p
/-- .. by the part that is done -/
theorem for_pre {α : Type} {ti : DTI} {kp : Mp → Prop} {M1 : Mp} (xs : List α) (enc : α → D) (inv : List α → DSt → Mp → Prop)
    (hi : ∀ R, R (xs.map enc) kp M1 → ti env M R) (h0 : inv [] env M1) (hk : ∀ s env M, inv s env M → kp M)
    (hs : ∀ pre x post env M, xs = pre ++ x :: post → inv pre env M → g (enc x) env M fun env' M' => t { E with nx := inv (pre ++ [x]), ct := inv (pre ++ [x]), bk := E.nx } env' M')
    (hd : ∀ env M, inv xs env M → E.nx env M) : dFor ti g t E env M := by
  refine hi _ ⟨fun i env M => inv (xs.take i) env M, by simpa using h0, fun i env M => hk _ env M, fun i d env M hx p => ?_, fun env M p => ?_⟩
  · rw [List.getElem?_map] at hx
    cases q : xs[i]? with
    | none => rw [q] at hx; cases hx
    | some x =>
      rw [q] at hx
      cases hx
      have hi : i < xs.length := (List.getElem?_eq_some_iff.mp q).1
      have e : xs.take (i + 1) = xs.take i ++ [x] := by rw [List.take_add_one, q]; rfl
      dsimp only
      rw [e]
      refine hs _ x (xs.drop (i + 1)) env M ?_ p
      have e2 : xs.drop i = x :: xs.drop (i + 1) := by
        rw [List.drop_eq_getElem_cons hi]
        congr 1
        exact Option.some.inj ((List.getElem?_eq_getElem hi).symm.trans q)
      rw [← e2, List.take_append_drop]
  · rw [List.length_map, List.take_length] at p
    exact hd env M p
/-- a comprehension whose turns leave M as it is -/
theorem lc_fm {α : Type} {ti : DTI} {dg : DTG} {te : DTE} {vs : List Nat} {kp : Mp → Prop} {M1 : Mp} (xs : List α) (enc f : α → D) (p : α → Bool) (hi : ∀ R, R (xs.map enc) kp M1 → ti env M R) (hk : kp M1) (hz : xs.length ≤ sizeLine)
    (h : ∀ x, x ∈ xs → ∀ (R : DQ) (S : Mp → Prop), (p x = true → R (f x) M1) → (p x = false → S M1) → dg (enc x) (wipeD env vs) M1 fun env2 M2 => tt env2 M2 fun b M3 => if b = true then te env2 M3 R else S M3)
    (q : Q (.lst ((xs.filter p).map f)) M1) : dLc ti dg tt te vs env M Q := by
  refine hi _ ⟨fun i acc M' => M' = M1 ∧ acc = ((xs.take i).filter p).map f ∧ i ≤ xs.length, ⟨rfl, by simp, Nat.zero_le _⟩, fun _ _ _ z => by rw [z.1]; exact hk, fun i d acc M' hd ⟨e1, e2, e3⟩ => ?_, fun acc M' ⟨e1, e2, e3⟩ => ?_⟩
  · subst e1 e2
    rw [List.getElem?_map] at hd
    cases q : xs[i]? with
    | none => rw [q] at hd; cases hd
    | some x =>
      rw [q] at hd
      cases hd
      have hi : i < xs.length := (List.getElem?_eq_some_iff.mp q).1
      have e : xs.take (i + 1) = xs.take i ++ [x] := by rw [List.take_add_one, q]; rfl
      refine h x (List.mem_of_getElem? q) _ _ (fun hp => ⟨?_, rfl, ?_, hi⟩) fun hp => ⟨rfl, ?_, hi⟩
      · have := List.length_filter_le p (xs.take i)
        rw [List.length_take] at this
        rw [List.length_map]
        omega
      · rw [e, List.filter_append, List.map_append]; simp [hp]
      · rw [e, List.filter_append]; simp [hp]
  · rw [List.length_map, List.take_length] at e2
    rw [e1, e2]
    exact q
theorem lc_m {α : Type} {ti : DTI} {dg : DTG} {te : DTE} {vs : List Nat} {kp : Mp → Prop} {M1 : Mp} (xs : List α) (enc f : α → D) (hi : ∀ R, R (xs.map enc) kp M1 → ti env M R) (hk : kp M1) (hz : xs.length ≤ sizeLine)
    (h : ∀ x, x ∈ xs → ∀ R : DQ, R (f x) M1 → dg (enc x) (wipeD env vs) M1 fun env2 M2 => te env2 M2 R)
    (q : Q (.lst (xs.map f)) M1) : dLc ti dg dYes te vs env M Q :=
  lc_fm xs enc f (fun _ => true) hi hk hz (fun x hx R S h1 _ => h x hx R (h1 rfl)) (by rw [List.filter_eq_self.mpr (fun _ _ => rfl)]; exact q)
/-- .. whose turns may change M -/
theorem lc_pre {α : Type} {ti : DTI} {dg : DTG} {te : DTE} {vs : List Nat} {kp : Mp → Prop} {M1 : Mp} (xs : List α) (enc : α → D) (inv : List α → List D → Mp → Prop) (hi : ∀ R, R (xs.map enc) kp M1 → ti env M R) (h0 : inv [] [] M1) (hk : ∀ s acc M, inv s acc M → kp M) (hz : ∀ s acc M, inv s acc M → acc.length < sizeLine)
    (h : ∀ pre x post acc M, xs = pre ++ x :: post → inv pre acc M → dg (enc x) (wipeD env vs) M fun env2 M2 => tt env2 M2 fun b M3 => if b = true then te env2 M3 fun y M4 => inv (pre ++ [x]) (acc ++ [y]) M4 else inv (pre ++ [x]) acc M3)
    (mono : ∀ d env M (R R' : DSt → Mp → Prop), (∀ e m, R e m → R' e m) → dg d env M R → dg d env M R') (monoT : ∀ env M (R R' : Bool → Mp → Prop), (∀ e m, R e m → R' e m) → tt env M R → tt env M R') (monoE : ∀ env M (R R' : DQ), (∀ e m, R e m → R' e m) → te env M R → te env M R')
    (hd : ∀ acc M, inv xs acc M → Q (.lst acc) M) : dLc ti dg tt te vs env M Q := by
  refine hi _ ⟨fun i acc M => inv (xs.take i) acc M, by simpa using h0, fun i acc M => hk _ _ M, fun i d acc M hx p => ?_, fun acc M p => ?_⟩
  · rw [List.getElem?_map] at hx
    cases q : xs[i]? with
    | none => rw [q] at hx; cases hx
    | some x =>
      rw [q] at hx
      cases hx
      have hi : i < xs.length := (List.getElem?_eq_some_iff.mp q).1
      have e : xs.take (i + 1) = xs.take i ++ [x] := by rw [List.take_add_one, q]; rfl
      have e2 : xs.drop i = x :: xs.drop (i + 1) := by
        rw [List.drop_eq_getElem_cons hi]
        congr 1
        exact Option.some.inj ((List.getElem?_eq_getElem hi).symm.trans q)
      dsimp only
      rw [e]
      refine mono _ _ _ _ _ (fun env2 M2 h2 => monoT _ _ _ _ (fun b M3 h3 => ?_) h2) (h _ x (xs.drop (i + 1)) acc M (by rw [← e2, List.take_append_drop]) p)
      cases b with
      | true => exact monoE _ _ _ _ (fun y M4 h4 => ⟨hz _ _ _ p, h4⟩) h3
      | false => exact h3
  · rw [List.length_map, List.take_length] at p
    exact hd acc M p
end
end DL
namespace DL
open PySem PySem.Spec PyProof.Rows L2
/-! ### instances -/
def insOf (M : Mp) : D → Option (Addr × List (Str × D))
  | .ptr a => match M a with | some (.ins C fs) => some (C, fs) | _ => none
  | .obj C fs => some (C, fs)
  | _ => none
section
variable {K : PySem.W.Frag} {G : GI K}
theorem insOf_ok {F H : Hp} {M : Mp} {d : D} {v : V} {C : Addr} {fs : List (Str × D)} (c : Core K F H M) (r : Rep K F d v) (h : insOf M d = some (C, fs)) : ∃ a dx vs, v = .ref a ∧ H a = some (.ins C dx vs) ∧ RepF K F fs vs := by
  cases d with
  | ptr a =>
    rw [Rep] at r
    simp only [insOf] at h
    split at h
    · rename_i g
      cases h
      obtain ⟨_, o, ho, dx, vs, e1, e2⟩ := c.mem a _ g
      subst e1
      exact ⟨a, dx, vs, r, ho, e2⟩
    · cases h
  | obj C' gs =>
    simp only [insOf] at h
    cases h
    rw [Rep] at r
    obtain ⟨a, dx, vs, e1, e2, e3⟩ := r
    exact ⟨a, dx, vs, e1, c.same _ _ e2, e3⟩
  | _ => simp [insOf] at h
/-- a class of the text -/
structure Kls (K : PySem.W.Frag) (C : Addr) (fields : List Str) : Prop where
  cls : Cls K C
  no : ∀ f ∈ fields, NoAttr K C f
structure CalM (P : Program) (w : World) (K : PySem.W.Frag) (mg : Str → Option Value) (base : Heap) (k : Nat) (C : Addr) (m : Str) (ps : List Str) (sp : DSp) (f : Addr) (fd : FuncData) : Prop where
  fn : FnOk P w K mg base CX0 k f fd ps (lSp K sp)
  cls : Cls K C
  me : Meth K C m f
  b : Binds K fd ps []
structure CalI (P : Program) (w : World) (K : PySem.W.Frag) (mg : Str → Option Value) (base : Heap) (k : Nat) (x : Str) (C : Addr) (ps : List Str) (sp : DSp) (f : Addr) (fd : FuncData) : Prop where
  fn : FnOk P w K mg base CX0 k f fd ps (lSp K sp)
  mk1 : Mk K C f
  g : mg x = some (.ref C)
  b : Binds K fd ps []
end
section
variable {X : Cx} {GX : GI X.K} {K : PySem.W.Frag} {G : GI K} {a b c e o : Expr} {es : List Expr} {ta tb tv : DTE} {pos p pos' apos : Pos} {tt : DTT} {tr tk : DTA} {k : Nat} {f C : Addr} {fd : FuncData} {ps ks : List Str} {sp : DSp} {x m n : Str} {fl : List Str}
def dFld (C : Addr) (n : Str) (ta : DTE) : DTE := fun env M Q => ta env M fun x M1 => match insOf M1 x with
  | some (C', fs) => C' = C ∧ ∃ d, fs.lookup n = some d ∧ Q d M1
  | none => False
theorem de_fld (T : Kls X.K C fl) (he : DE X e ta) (hn : n ∈ fl := by decide +kernel) (hb : attributeBase e n X.env (eval e X.env) = eval e X.env := by rfl) : DE X (.Attribute e n pos) (dFld C n ta) :=
  PE.imp (pe_fld he hb) fun σ H Q ⟨F, env, M, Q0, he, hc, ht, hp⟩ => ⟨F, env, M, _, he, hc, ht, fun d M1 F1 H1 v q s1 f1 c1 r1 => by
    revert q
    dsimp only
    split <;> intro q
    · rename_i C' fs g
      obtain ⟨q0, d', q1, q2⟩ := q
      subst q0
      obtain ⟨a, dx, vs, e1, e2, e3⟩ := insOf_ok c1 r1 g
      obtain ⟨u, h1, h2⟩ := e3.look q1
      exact ⟨a, C', dx, vs, u, e1, e2, T.cls, T.no n hn, h1, (hp.after s1 f1).val c1 q2 h2⟩
    · exact q.elim⟩
def dSetF (C : Addr) (n : Str) (ta tv : DTE) : DTS := fun E env M => tv env M fun d M1 => ta env M1 fun x M2 => match x with
  | .ptr a => (match M2 a with
    | some (.ins C' fs) => C' = C ∧ fs.length < 1000 ∧ E.nx env (up M2 a (.ins C (putD n d fs)))
    | _ => False)
  | _ => False
theorem ptr_ins {F H : Hp} {M : Mp} {x C : Addr} {ds : List (Str × D)} (c : Core K F H M) (h : M x = some (.ins C ds)) : ∃ dx vs, H x = some (.ins C dx vs) ∧ RepF K F ds vs := by
  obtain ⟨_, o, ho, dx, vs, e1, e2⟩ := c.mem x _ h
  subst e1
  exact ⟨dx, vs, ho, e2⟩
theorem ds_setF (T : Kls X.K C fl) (ho : DE X o ta) (hv : DE X e tv) (hn : n ∈ fl := by decide +kernel) (hs : swapsWith e (some (.Attribute o n pos')) pos.line X.env = pure false := by rfl) : DS X (.Assign [.Attribute o n pos'] e pos) (dSetF C n ta tv) :=
  PS.imp (ps_fld ho hv hs) fun E σ H ⟨F, env, M, D0, he, hc, ht, hp⟩ => ⟨F, env, M, _, he, hc, ht, fun d M1 F1 H1 v q s1 f1 c1 r1 => ⟨F1, env, M1, _, he.mono s1, c1, q, fun d2 M2 F2 H2 v2 q2 s2 f2 c2 r2 => by
    revert q2
    dsimp only
    split <;> intro q2
    · rename_i a
      split at q2
      · rename_i C' fs g
        obtain ⟨q0, q1, q3⟩ := q2
        subst q0
        rw [Rep] at r2
        obtain ⟨dx, vs, e1, e2⟩ := ptr_ins c2 g
        obtain ⟨c3, f3⟩ := c2.write (o := .ins C' dx (putF n v vs)) (mo := .ins C' (putD n d fs)) g ⟨dx, _, rfl, RepF.put (r1.mono s2) e2⟩
        exact ⟨a, C', dx, vs, r2, e1, T.cls, T.no n hn, by rw [e2.len]; exact q1, hp.nx _ _ _ _ _ q3 (s1.trans s2) ((f1.trans f2).trans f3) c3 ((he.mono s1).mono s2)⟩
      · exact q2.elim
    · exact q2.elim⟩⟩
def dAugF (C : Addr) (n : Str) (ta tv : DTE) (rd : D2) : DTS := fun E env M => ta env M fun x M1 => match x with
  | .ptr a => (match M1 a with
    | some (.ins C' fs) => C' = C ∧ ∃ d, fs.lookup n = some d ∧ tv env M1 fun y M2 => rd d y M2 fun z M3 => (match M3 a with
      | some (.ins C2 fs2) => C2 = C ∧ fs2.length < 1000 ∧ E.nx env (up M3 a (.ins C (putD n z fs2)))
      | _ => False)
    | _ => False)
  | _ => False
theorem ds_augF {op : Operator} {r : R2} {rd : D2} (T : Kls X.K C fl) (ho : DE X o ta) (hv : DE X e tv) (hop : OpR X (inplaceOp op) r) (l : LR2 X.K r rd) (hn : n ∈ fl := by decide +kernel) : DS X (.AugAssign (.Attribute o n pos') op e pos) (dAugF C n ta tv rd) :=
  PS.imp (ps_fldaug (rd := r) ho hv hop) fun E σ H ⟨F, env, M, D0, he, hc, ht, hp⟩ => ⟨F, env, M, _, he, hc, ht, fun d M1 F1 H1 v q s1 f1 c1 r1 => by
    revert q
    dsimp only
    split <;> intro q
    · rename_i a
      split at q
      · rename_i C' fs g
        obtain ⟨q0, d0, q1, q2⟩ := q
        subst q0
        rw [Rep] at r1
        obtain ⟨dx, vs, e1, e2⟩ := ptr_ins c1 g
        obtain ⟨u, h1, h2⟩ := e2.look q1
        refine ⟨a, C', dx, vs, u, r1, e1, T.cls, T.no n hn, h1, F1, env, M1, _, he.mono s1, c1, q2, fun y M2 F2 H2 v2 q3 s2 f2 c2 r2 => l c2 (h2.mono s2) r2 q3 fun z M3 F3 H3 v3 q4 s3 f3 c3 r3 => ?_⟩
        revert q4
        split <;> intro q4
        · rename_i C2 fs2 g2
          obtain ⟨p0, p1, p2⟩ := q4
          subst p0
          obtain ⟨dx2, vs2, k1, k2⟩ := ptr_ins c3 g2
          obtain ⟨c4, f4⟩ := c3.write (o := .ins C2 dx2 (putF n v3 vs2)) (mo := .ins C2 (putD n z fs2)) g2 ⟨dx2, _, rfl, RepF.put r3 k2⟩
          exact ⟨dx2, vs2, k1, by rw [k2.len]; exact p1, hp.nx _ _ _ _ _ p2 ((s1.trans s2).trans s3) (((f1.trans f2).trans f3).trans f4) c4 (((he.mono s1).mono s2).mono s3)⟩
        · exact q4.elim
      · exact q.elim
    · exact q.elim⟩
/-- o.m(..) -/
def dMeth (C : Addr) (m : Str) (sp : DSp) (ta : DTE) (tr : DTA) : DTE := fun env M Q => ta env M fun x M1 => match insOf M1 x with
  | some (C', fs) => C' = C ∧ fs.lookup m = none ∧ tr env M1 fun ds M2 => sp (x :: ds) M2 Q noX
  | none => False
theorem l_meth : ∀ σ H Q, lE K (dMeth C m sp ta tr) σ H Q → tMeth C m (lSp K sp) [] E0 (lE K ta) (lA K tr) σ H Q := fun σ H Q ⟨F, env, M, Q0, he, hc, ht, hp⟩ =>
  ⟨F, env, M, _, he, hc, ht, fun d M1 F1 H1 v q s1 f1 c1 r1 => by
    revert q
    dsimp only
    split <;> intro q
    · rename_i C' fs g
      obtain ⟨q0, q1, q2⟩ := q
      subst q0
      obtain ⟨a, dx, vs, e1, e2, e3⟩ := insOf_ok c1 r1 g
      refine ⟨a, dx, vs, e1, e2, e3.look0 q1, F1, env, M1, _, he.mono s1, c1, q2, fun ds M2 F2 H2 ws q3 s2 f2 c2 r2 => ?_⟩
      show lSp K sp (v :: (ws ++ [])) H2 Q E0
      rw [List.append_nil]
      exact ⟨F2, M2, d :: ds, Q0, noX, c2.toCoreP, Reps.cons (r1.mono s2) r2, q3, ((hp.after s1 f1).after s2 f2).plain c2, postX0⟩
    · exact q.elim⟩
theorem de_meth {pl : Sem Bool} (G : CalM X.prog X.w X.K X.mg X.base k C m ps sp f fd) (hr : Room k X.A) (ho : DE X o ta) (ha : DA X (e :: es) tr)
    (hst : starEach (e :: es) X.env = (false, eval e X.env) :: starEach es X.env := by rfl) (hpl : (backTo pos (starEach es X.env)).any (·.1) = false := by rfl)
    (ht : eval (.Call (.Attribute o m apos) (e :: es) [] pos) X.env = (do
      let ov ← eval o X.env
      standAt apos.atName
      let (f, first) ← holding [ov] (getMethod ov m pl)
      callWith pos f first (backTo pos (starEach (e :: es) X.env)) (backToKw pos (keywordEach [] X.env))) := by rfl) : DE X (.Call (.Attribute o m apos) (e :: es) [] pos) (dMeth C m sp ta tr) :=
  PE.imp (pe_meth ho G.cls G.me G.fn hr G.b .nil pass0 ha hst hpl ht) l_meth
theorem de_meth0 {pl : Sem Bool} (G : CalM X.prog X.w X.K X.mg X.base k C m ps sp f fd) (hr : Room k X.A) (ho : DE X o ta)
    (ht : eval (.Call (.Attribute o m apos) [] [] pos) X.env = (do
      let ov ← eval o X.env
      standAt apos.atName
      let (f, first) ← holding [ov] (getMethod ov m pl)
      callWith pos f first (backTo pos (starEach [] X.env)) (backToKw pos (keywordEach [] X.env))) := by rfl) : DE X (.Call (.Attribute o m apos) [] [] pos) (dMeth C m sp ta dNil) :=
  PE.imp (pe_meth0 ho G.cls G.me G.fn hr G.b .nil pass0 ht) fun σ H Q h => by
    obtain ⟨F, env, M, Q1, he, hc, ht, hp⟩ := l_meth σ H Q h
    refine ⟨F, env, M, Q1, he, hc, ht, fun d M' F' H' v q s f c r => ?_⟩
    obtain ⟨a, dx, fs, e1, e2, e3, F2, env2, M2, Q2, g1, g2, g3, g4⟩ := hp d M' F' H' v q s f c r
    exact ⟨a, dx, fs, e1, e2, e3, g4 [] M2 F2 H' [] g3 (Same.refl _) Fr.refl g2 Reps.nil⟩
/-- C(..) -/
def dMake (C : Addr) (sp : DSp) (tr : DTA) : DTE := fun env M Q => tr env M fun ds M1 => ∀ x, M1 x = none → sp (.ptr x :: ds) (up M1 x (.ins C [])) (fun v M2 => v = .non ∧ Q (.ptr x) M2) noX
theorem l_make : ∀ σ H Q, lE K (dMake C sp tr) σ H Q → tMake C (lSp K sp) [] E0 (lA K tr) σ H Q := fun σ H Q ⟨F, env, M, Q0, he, hc, ht, hp⟩ =>
  ⟨F, env, M, _, he, hc, ht, fun ds M1 F1 H1 vs q s1 f1 c1 r1 x dx hx hdx ne => by
    rw [List.append_nil]
    obtain ⟨n1, n2⟩ := c1.nones hx
    obtain ⟨d1, d2⟩ := c1.nones hdx
    -- the instance's own dict: outside of what is known
    have c2 : Core K F1 (upd H1 dx (.own x)) M1 := c1.out hdx _
    have f2 : Fr F1 H1 M1 F1 (upd H1 dx (.own x)) M1 := fun a o e n => ⟨by rw [upd_ne (ne_of_none e hdx)]; exact e, n, fun z => z⟩
    have hx2 : upd H1 dx (.own x) x = none := by rw [upd_ne (Ne.symm ne)]; exact hx
    obtain ⟨c3, f3⟩ := c2.newM (mo := .ins C []) hx2 (o := .ins C dx []) ⟨dx, [], rfl, by rw [RepF]⟩
    have hp3 := (hp.after s1 f1).after (Same.refl _) (f2.trans f3)
    refine ⟨F1, _, .ptr x :: ds, _, noX, c3.toCoreP, Reps.cons (by rw [Rep]) r1, q x n2, fun d M4 F4 H4 v q4 s4 f4 c4 r4 => ?_, postX0⟩
    obtain ⟨e0, q4⟩ := q4
    subst e0
    rw [Rep] at r4
    exact ⟨r4, hp3 _ M4 F4 H4 _ q4 s4 f4 (c3.to c4 s4 f4) (by rw [Rep])⟩⟩
theorem de_make (G : CalI X.prog X.w X.K X.mg X.base k x C ps sp f fd) (hr : Room (k + 1) X.A) (ha : DA X (e :: es) tr) (hg : Gl X x := by rfl) (hdb : (x == ("__debug__" : Str)) = false := by decide) (he : starEach (e :: es) X.env = (false, eval e X.env) :: starEach es X.env := by rfl)
    (hpl : (backTo pos (starEach es X.env)).any (·.1) = false := by rfl) : DE X (.Call (.Name x p) (e :: es) [] pos) (dMake C sp tr) :=
  PE.imp (pe_make G.mk1 G.fn hr hg G.g G.b .nil pass0 ha hdb he hpl) l_make
/-- e.f, a property -/
def dProp (C : Addr) (sp : DSp) (ta : DTE) : DTE := fun env M Q => ta env M fun x M1 => match insOf M1 x with
  | some (C', fs) => C' = C ∧ sp [x] M1 Q noX
  | none => False
structure CalP (P : Program) (w : World) (K : PySem.W.Frag) (mg : Str → Option Value) (base : Heap) (k : Nat) (C : Addr) (n : Str) (sp : DSp) (pr f : Addr) (fd : FuncData) : Prop where
  fn : FnOk P w K mg base CX0 k f fd ["self"] (lSp K sp)
  cls : Cls K C
  pr : PropOf K C n pr f
  b : Binds K fd ["self"] []
theorem de_prop {pr : Addr} (G : CalP X.prog X.w X.K X.mg X.base k C n sp pr f fd) (hr : Room (k + 1) X.A) (he : DE X e ta) (hab : attributeBase e n X.env (eval e X.env) = eval e X.env := by rfl) : DE X (.Attribute e n pos) (dProp C sp ta) :=
  PE.imp (pe_prop he G.cls G.pr G.fn hr G.b .nil pass0 hab) fun σ H Q ⟨F, env, M, Q0, he, hc, ht, hp⟩ => ⟨F, env, M, _, he, hc, ht, fun d M1 F1 H1 v q s1 f1 c1 r1 => by
    revert q
    dsimp only
    split <;> intro q
    · rename_i C' fs g
      obtain ⟨q0, q1⟩ := q
      subst q0
      obtain ⟨a, dx, vs, e1, e2, e3⟩ := insOf_ok c1 r1 g
      subst e1
      exact ⟨a, dx, vs, rfl, e2, F1, M1, [d], Q0, noX, c1.toCoreP, Reps.one r1, q1, (hp.after s1 f1).plain c1, postX0⟩
    · exact q.elim⟩
end
end DL
namespace DL
open PySem PySem.Spec PyProof.Rows L2
/-! ### comprehensions of two clauses -/
def dLc2 (ti : DTI) (g : DTG) (tt : DTT) (ti1 : DTI) (g1 : DTG) (tt1 : DTT) (te : DTE) (vs vs1 : List Nat) : DTE := fun env M Q => ti env M fun ds kp M1 => ∃ Pv : Nat → List D → Mp → Prop, Pv 0 [] M1 ∧ (∀ i acc M, Pv i acc M → kp M) ∧
  (∀ i d acc M, ds[i]? = some d → Pv i acc M → g d (wipeD env vs) M fun env2 M2 => tt env2 M2 fun b M3 => if b = true then
    ti1 env2 M3 fun ds1 kp1 M4 => ∃ Pv1 : Nat → List D → Mp → Prop, Pv1 0 acc M4 ∧ (∀ j acc M, Pv1 j acc M → kp1 M) ∧
      (∀ j d1 acc1 M, ds1[j]? = some d1 → Pv1 j acc1 M → g1 d1 (wipeD env2 vs1) M fun env3 M5 => tt1 env3 M5 fun b M6 => if b = true then te env3 M6 fun y M7 => acc1.length < sizeLine ∧ Pv1 (j + 1) (acc1 ++ [y]) M7 else Pv1 (j + 1) acc1 M6) ∧
      ∀ acc1 M, Pv1 ds1.length acc1 M → Pv (i + 1) acc1 M
    else Pv (i + 1) acc M3) ∧
  ∀ acc M, Pv ds.length acc M → Q (.lst acc) M
/-- the state of a comprehension: its list at L -/
def LcS (K : PySem.W.Frag) [GI K] (F1 H1 : Hp) (M1 : Mp) (L : Addr) (P : List D → Mp → Prop) (H' : Hp) : Prop :=
  ∃ F' M' acc va, Same F1 F' ∧ Fr F1 H1 M1 F' H' M' ∧ Core K F' H' M' ∧ H' L = some (.lst va) ∧ F' L = none ∧ M' L = none ∧ Reps K F' acc va ∧ P acc M'
section
variable {X : Cx} {GX : GI X.K} {K : PySem.W.Frag} {G : GI K}
theorem lcs_app {F1 H1 F5 H5 : Hp} {M1 M5 : Mp} {L : Addr} {P : List D → Mp → Prop} {acc : List D} {va : List V} {z : D} {v5 : V} (c1 : Core K F1 H1 M1) (hL : H1 L = none) (s : Same F1 F5) (f : Fr F1 H1 M1 F5 H5 M5) (c5 : Core K F5 H5 M5) (hv5 : H5 L = some (.lst va)) (hF : F5 L = none) (hM : M5 L = none) (ra : Reps K F5 acc va) (r5 : Rep K F5 z v5)
    (p : P (acc ++ [z]) M5) : LcS K F1 H1 M1 L P (upd H5 L (.lst (va ++ [v5]))) := by
  have fr5 : Fr F1 H1 M1 F5 (upd H5 L (.lst (va ++ [v5]))) M5 := fun a o e n => by
    obtain ⟨x1, x2, x3⟩ := f a o e n
    exact ⟨by rw [upd_ne (ne_of_none e hL)]; exact x1, x2, x3⟩
  refine ⟨F5, M5, acc ++ [z], va ++ [v5], s, fr5, c1.to ⟨fun b u e => ?_, fun a mo e => ?_⟩ s fr5, upd_same, hF, hM, ra.app (Reps.one r5), p⟩
  · have hb : b ≠ L := fun z => by rw [z, hF] at e; cases e
    rw [upd_ne hb]; exact c5.same b u e
  · obtain ⟨x1, o, x2, x3⟩ := c5.mem a mo e
    have ha : a ≠ L := fun z => by rw [z, hM] at e; cases e
    exact ⟨x1, o, by rw [upd_ne ha]; exact x2, x3⟩
theorem l_lc2 {ti ti1 : DTI} {g g1 : TG} {dg dg1 : DTG} {tt tt1 : DTT} {te : DTE} {vs vs1 : List Nat} (tl : TgL K g dg vs) (tl1 : TgL K g1 dg1 vs1) : ∀ σ H Q, lE K (dLc2 ti dg tt ti1 dg1 tt1 te vs vs1) σ H Q → tLc2 (lI K ti) g (lT K tt) (lI K ti1) g1 (lT K tt1) (lE K te) vs vs1 σ H Q := fun σ H Q ⟨F, env, M, Q0, he, hc, ht, hp⟩ => by
  refine ⟨F, env, M, _, he, hc, ht, fun ds kp M1 F1 H1 J q s1 f1 c1 Y L hL => ?_⟩
  obtain ⟨Pv, p0, hk, turn, fin⟩ := q
  have n1 := c1.nones hL
  have c1' : Core K F1 (upd H1 L (.lst [])) M1 := c1.out hL _
  have fL : Fr F1 H1 M1 F1 (upd H1 L (.lst [])) M1 := fun a o e n => ⟨by rw [upd_ne (ne_of_none e hL)]; exact e, n, fun z => z⟩
  refine ⟨fun i m H' => m = ds.length - i ∧ i ≤ ds.length ∧ LcS K F1 H1 M1 L (Pv i) H', ⟨_, rfl, Nat.zero_le _, F1, M1, [], [], Same.refl _, fL, c1', upd_same, n1.1, n1.2, Reps.nil, p0⟩, ?_⟩
  rintro i m H2 ⟨rfl, hle, F2, M2, acc, va, s2, f2, c2, hv, hF, hM, ra, p2⟩
  have kk := hk _ _ _ p2
  by_cases hlt : i < ds.length
  · refine .inr ⟨Y.go s2 c2 kk hlt, LcS K F1 H1 M1 L (Pv (i + 1)), fun H' z => ⟨_, by omega, rfl, hlt, z⟩, fun x H3 y => ?_⟩
    obtain ⟨d, F3, hd, s3, c3, f3, r3⟩ := Y.yld s2 c2 kk hlt y
    obtain ⟨hv3, _, hF3⟩ := f3 L _ hv hM
    refine tl (((he.mono s1).mono (s2.trans s3)).wipe vs) c3 r3 (turn i d acc M2 hd p2) fun σ' env' hw he' q' => ⟨hw.trans (wipe_idem vs), F3, env', M2, _, he', c3, q', fun b M4 F4 H4 q4 s4 f4 c4 => ?_⟩
    obtain ⟨hv4, hM4, hF4⟩ := f4 L _ hv3 hM
    have hF4' := hF4 (hF3 hF)
    have S4 := s2.trans (s3.trans s4)
    have R4 := f2.trans (f3.trans f4)
    have ra4 := ra.mono (s3.trans s4)
    cases b with
    | false => exact ⟨F4, M4, acc, va, S4, R4, c4, hv4, hF4', hM4, ra4, q4⟩
    | true =>
      rw [if_pos rfl] at q4 ⊢
      refine ⟨F4, env', M4, _, he'.mono s4, c4, q4, fun ds1 kp1 M5 F5 H5 J1 q5 s5 f5 c5 Y1 => ?_⟩
      obtain ⟨Pv1, p10, hk1, turn1, fin1⟩ := q5
      obtain ⟨hv5, hM5, hF5⟩ := f5 L _ hv4 hM4
      refine ⟨fun j k H' => k = ds1.length - j ∧ j ≤ ds1.length ∧ ∃ F' M' acc va, Same F5 F' ∧ Same F1 F' ∧ Fr F1 H1 M1 F' H' M' ∧ Core K F' H' M' ∧ H' L = some (.lst va) ∧ F' L = none ∧ M' L = none ∧ Reps K F' acc va ∧ Pv1 j acc M',
        ⟨_, rfl, Nat.zero_le _, F5, M5, acc, va, Same.refl _, S4.trans s5, R4.trans f5, c5, hv5, hF5 hF4', hM5, ra4.mono s5, p10⟩, ?_⟩
      rintro j k H6 ⟨rfl, hle1, F6, M6, acc1, va1, s6, S6, R6, c6, hv6, hF6, hM6, ra6, p6⟩
      have kk1 := hk1 _ _ _ p6
      by_cases hlt1 : j < ds1.length
      · refine .inr ⟨Y1.go s6 c6 kk1 hlt1, fun H' => ∃ F' M' acc va, Same F5 F' ∧ Same F1 F' ∧ Fr F1 H1 M1 F' H' M' ∧ Core K F' H' M' ∧ H' L = some (.lst va) ∧ F' L = none ∧ M' L = none ∧ Reps K F' acc va ∧ Pv1 (j + 1) acc M', fun H' z => ⟨_, by omega, rfl, hlt1, z⟩, fun x1 H7 y1 => ?_⟩
        obtain ⟨d1, F7, hd1, s7, c7, f7, r7⟩ := Y1.yld s6 c6 kk1 hlt1 y1
        obtain ⟨hv7, _, hF7⟩ := f7 L _ hv6 hM6
        refine tl1 (((he'.mono s4).mono (s5.trans (s6.trans s7))).wipe vs1) c7 r7 (turn1 j d1 acc1 M6 hd1 p6) fun σ3 env3 hw3 he3 q3 => ⟨hw3.trans (wipe_idem vs1), F7, env3, M6, _, he3, c7, q3, fun b1 M8 F8 H8 q8 s8 f8 c8 => ?_⟩
        obtain ⟨hv8, hM8, hF8⟩ := f8 L _ hv7 hM6
        have hF8' := hF8 (hF7 hF6)
        have S8 := S6.trans (s7.trans s8)
        have R8 := R6.trans (f7.trans f8)
        have ra8 := ra6.mono (s7.trans s8)
        cases b1 with
        | false => exact ⟨F8, M8, acc1, va1, s6.trans (s7.trans s8), S8, R8, c8, hv8, hF8', hM8, ra8, q8⟩
        | true =>
          rw [if_pos rfl] at q8 ⊢
          refine ⟨F8, env3, M8, _, he3.mono s8, c8, q8, fun z M9 F9 H9 v9 q9 s9 f9 c9 r9 => ?_⟩
          obtain ⟨hv9, hM9, hF9⟩ := f9 L _ hv8 hM8
          have ra9 := ra8.mono s9
          have hF9' := hF9 hF8'
          have fr9 : Fr F1 H1 M1 F9 (upd H9 L (.lst (va1 ++ [v9]))) M9 := fun a o e n => by
            obtain ⟨y1, y2, y3⟩ := (R8.trans f9) a o e n
            exact ⟨by rw [upd_ne (ne_of_none e hL)]; exact y1, y2, y3⟩
          refine ⟨va1, hv9, by rw [ra9.len]; exact q9.1, F9, M9, acc1 ++ [z], va1 ++ [v9], (s6.trans (s7.trans s8)).trans s9, S8.trans s9, fr9, c1.to ⟨fun b u e => ?_, fun a mo e => ?_⟩ (S8.trans s9) fr9, upd_same, hF9', hM9, ra9.app (Reps.one r9), q9.2⟩
          · have hb : b ≠ L := fun z => by rw [z, hF9'] at e; cases e
            rw [upd_ne hb]; exact c9.same b u e
          · obtain ⟨y1, o, y2, y3⟩ := c9.mem a mo e
            have ha : a ≠ L := fun z => by rw [z, hM9] at e; cases e
            exact ⟨y1, o, by rw [upd_ne ha]; exact y2, y3⟩
      · have e : j = ds1.length := by omega
        subst e
        exact .inl ⟨Y1.stop s6 c6 kk1 (Nat.le_refl _), F6, M6, acc1, va1, S6, R6, c6, hv6, hF6, hM6, ra6, fin1 _ _ p6⟩
  · have e : i = ds.length := by omega
    subst e
    have s' : Same F2 (upd F2 L (.lst va)) := fun b u e => by rw [upd_ne (ne_of_none e hF)]; exact e
    have c0 : CoreP K (upd F2 L (.lst va)) H2 M2 := by
      refine ⟨fun b u e => ?_, fun a mo e => ?_⟩
      · by_cases hb : b = L
        · subst hb; rw [upd_same] at e; cases e; exact hv
        · rw [upd_ne hb] at e; exact c2.same b u e
      · obtain ⟨x1, o, x2, x3⟩ := c2.mem a mo e
        have ha : a ≠ L := fun z => by rw [z, hM] at e; cases e
        exact ⟨by rw [upd_ne ha]; exact x1, o, x2, x3.mono s'⟩
    have f' : Fr F1 H1 M1 (upd F2 L (.lst va)) H2 M2 := fun a o e n => by
      obtain ⟨x1, x2, x3⟩ := f2 a o e n
      exact ⟨x1, x2, fun z => by rw [upd_ne (ne_of_none e hL)]; exact x3 z⟩
    have c' : Core K (upd F2 L (.lst va)) H2 M2 := c1.to c0 (s2.trans s') f'
    exact .inl ⟨Y.stop s2 c2 kk (Nat.le_refl _), hp _ M2 _ H2 _ (fin _ _ p2) (s1.trans (s2.trans s')) (f1.trans f') c' (by rw [Rep]; exact ⟨L, va, rfl, upd_same, ra.mono s'⟩)⟩
variable {a b c e : Expr} {tt tt1 : DTT} {pos p : Pos} {k : Nat}
theorem de_lc2 {elt tg iter tg1 iter1 : Expr} {ifs ifs1 : List Expr} {scope : Scope} {own : List (Str × Nat)} {vs vs1 : List Nat} {ti ti1 : DTI} {g g1 : TG} {dg dg1 : DTG} {te : DTE} (hN : X.N.Nodup) (hi : DI X tg iter ti) (ok : BlkOk X.N X.env.scope scope own) (tl : TgL X.K g dg vs) (tl1 : TgL X.K g1 dg1 vs1)
    (hg : ForBlk X scope fun Y => PG Y tg g) (ht : ForBlk X scope fun Y => PTs Y ifs (lT X.K tt)) (hi1 : ForBlk X scope fun Y => PI Y tg1 iter1 (lI X.K ti1)) (hg1 : ForBlk X scope fun Y => PG Y tg1 g1) (ht1 : ForBlk X scope fun Y => PTs Y ifs1 (lT X.K tt1)) (he : ForBlk X scope fun Y => PE Y elt (lE X.K te))
    (ho : own.map (·.2) = vs := by rfl) (hv : ∀ i ∈ vs1, i ∈ own.map (·.2) := by decide) (hc : X.calm = true := by rfl) (hs : ∀ x, foldedSetIterable iter X.env x = pure x := by intro _; rfl) (hs1 : ∀ env x, foldedSetIterable iter1 env x = pure x := by intro _ _; rfl) :
    DE X (.ListComp elt [⟨tg, iter, ifs, 0⟩, ⟨tg1, iter1, ifs1, 0⟩] scope pos) (dLc2 ti dg tt ti1 dg1 tt1 te vs vs1) := by
  subst ho
  exact PE.imp (pe_lc2 hc hN hi ok hv hg ht hi1 hg1 ht1 he hs hs1) (l_lc2 tl tl1)
theorem ds_setLc2 {i : Nat} {y : Str} {py spos : Pos} {elt tg iter tg1 iter1 : Expr} {ifs ifs1 : List Expr} {scope : Scope} {own : List (Str × Nat)} {vs vs1 : List Nat} {ti ti1 : DTI} {g g1 : TG} {dg dg1 : DTG} {te : DTE} (hN : X.N.Nodup) (hi : DI X tg iter ti) (ok : BlkOk X.N X.env.scope scope own) (tl : TgL X.K g dg vs) (tl1 : TgL X.K g1 dg1 vs1)
    (hg : ForBlk X scope fun Y => PG Y tg g) (ht : ForBlk X scope fun Y => PTs Y ifs (lT X.K tt)) (hi1 : ForBlk X scope fun Y => PI Y tg1 iter1 (lI X.K ti1)) (hg1 : ForBlk X scope fun Y => PG Y tg1 g1) (ht1 : ForBlk X scope fun Y => PTs Y ifs1 (lT X.K tt1)) (he : ForBlk X scope fun Y => PE Y elt (lE X.K te))
    (hy : X.N[i]? = some y := by rfl) (hyl : X.env.scope.names.lookup y = some .local := by rfl) (hsw : swapsWith (.ListComp elt [⟨tg, iter, ifs, 0⟩, ⟨tg1, iter1, ifs1, 0⟩] scope pos) (some (.Name y py)) spos.line X.env = pure true := by exact sw_true rfl rfl rfl (by decide +kernel))
    (ho : own.map (·.2) = vs := by rfl) (hv : ∀ i ∈ vs1, i ∈ own.map (·.2) := by decide) (hc : X.calm = true := by rfl) (hs : ∀ x, foldedSetIterable iter X.env x = pure x := by intro _; rfl) (hs1 : ∀ env x, foldedSetIterable iter1 env x = pure x := by intro _ _; rfl) :
    DS X (.Assign [.Name y py] (.ListComp elt [⟨tg, iter, ifs, 0⟩, ⟨tg1, iter1, ifs1, 0⟩] scope pos) spos) (dAsg (dLc2 ti dg tt ti1 dg1 tt1 te vs vs1) (dgName i)) := by
  subst ho
  exact PS.imp (ps_setLc2 hc hN hy hyl hsw hi ok hv hg ht hi1 hg1 ht1 he hs hs1) fun E σ H ⟨F, env, M, D0, he, hc, ht, hp⟩ => l_lc2 tl tl1 σ H _ ⟨F, env, M, _, he, hc, ht, fun d M1 F1 H1 v q s1 f1 c1 r1 => hp.nx _ M1 F1 H1 _ q s1 f1 c1 ((he.mono s1).set i r1)⟩
end
end DL
namespace DL
open PySem PySem.Spec PyProof.Rows L2
section
variable {X : Cx} {GX : GI X.K} {K : PySem.W.Frag} {G : GI K} {a b c e : Expr} {es : List Expr} {ta tb tc : DTE} {pos p : Pos} {tt : DTT} {tr tk : DTA} {k : Nat} {f : Addr} {fd : FuncData} {ps ks : List Str} {sp : DSp} {x : Str}
/-! ### x * n, x a text too -/
def rMulX : D2 := fun x y M Q => match x, y with
  | .int i, .int j => CMulA i j ∧ Q (.int (i * j)) M
  | .str s, .int j => MulOk s j ∧ Q (.str (Txt.mul s j)) M
  | _, _ => False
theorem o_mulStr : OpR X (binaryOp .Mult) (fun x y H Q => ∃ s i, x = .str s ∧ y = .int i ∧ MulOk s i ∧ Q (.str (Txt.mul s i)) H) := by
  intro pins s σ H x y v u Q I rx ry ⟨z, i, e1, e2, hc, q⟩
  subst e1 e2
  obtain ⟨t, rfl⟩ := rx
  obtain ⟨t2, rfl⟩ := ry
  exact PySem.SB.mul hc fun t' k => ⟨.str (Txt.mul z i), H, I.tok k, ⟨t', rfl⟩, q⟩
theorem l_mulX : LR2 K (fun x y H Q => (rI CMulA fun i j => .int (i * j)) x y H Q ∨ (∃ s i, x = .str s ∧ y = .int i ∧ MulOk s i ∧ Q (.str (Txt.mul s i)) H)) rMulX := by
  intro F H M d e v w Q0 Q c r1 r2 h p
  unfold rMulX at h
  split at h
  · simp only [Rep] at r1 r2
    exact .inl ⟨_, _, r1, r2, h.1, p.int c h.2⟩
  · simp only [Rep] at r1 r2
    exact .inr ⟨_, _, r1, r2, h.1, p.str c h.2⟩
  · exact h.elim
theorem de_mulX (ha : DE X a ta) (hb : DE X b tb) : DE X (.BinOp a .Mult b pos) (dOp rMulX ta tb) := de_op (o_mulA.or o_mulStr) l_mulX ha hb
theorem rMulX_ii {i j : Int} {M : Mp} {Q : DQ} : rMulX (.int i) (.int j) M Q = (CMulA i j ∧ Q (.int (i * j)) M) := rfl
theorem rMulX_si {i : Str} {j : Int} {M : Mp} {Q : DQ} : rMulX (.str i) (.int j) M Q = (MulOk i j ∧ Q (.str (Txt.mul i j)) M) := rfl
/-! ### f-strings -/
def fmtD : DQ → DQ := fun Q d M => match d with
  | .str y => y.length ≤ sizeLine ∧ Q (.str y) M
  | .int i => i.natAbs.log2 < 1920 ∧ Q (.str (toString i)) M
  | _ => False
def dFmt (t : DTE) : DTE := fun env M Q => t env M (fmtD Q)
theorem de_fmt (h : DE X e ta) : DE X (.FormattedValue e (-1) none pos) (dFmt ta) := PE.imp (pe_fmt h) fun σ H Q ⟨F, env, M, Q0, he, hc, ht, hp⟩ => by
  refine ⟨F, env, M, _, he, hc, ht, fun d M1 F1 H1 v q s1 f1 c1 r1 => ?_⟩
  unfold fmtD at q
  split at q
  · rw [Rep] at r1
    exact .inl ⟨_, r1, q.1, (hp.after s1 f1).str c1 q.2⟩
  · rw [Rep] at r1
    exact .inr ⟨_, r1, q.1, (hp.after s1 f1).str c1 q.2⟩
  · exact q.elim
def jStep (acc : Str) (r : Str → Mp → Prop) : DQ := fun d M => match d with | .str y => (acc ++ y).length ≤ sizeLine ∧ r (acc ++ y) M | _ => False
def dJs : List DTE → Str → DSt → Mp → DQ → Prop
  | [], acc, _, M, Q => Q (.str acc) M
  | t :: ts, acc, env, M, Q => t env M (jStep acc fun z M1 => dJs ts z env M1 Q)
def dJoined (ts : List DTE) : DTE := fun env M Q => dJs ts Str.empty env M Q
inductive DJ (X : Cx) [GI X.K] : List Expr → List DTE → Prop where
  | nil : DJ X [] []
  | cons {e : Expr} {t : DTE} {es : List Expr} {ts : List DTE} (h : DE X e t) (r : DJ X es ts) : DJ X (e :: es) (t :: ts)
theorem dj_nil : DJ X [] [] := .nil
theorem dj_cons {t : DTE} {ts : List DTE} (h : DE X e t) (r : DJ X es ts) : DJ X (e :: es) (t :: ts) := .cons h r
theorem DJ.pj {ts : List DTE} (h : DJ X es ts) : PJ X es (ts.map (lE X.K)) := by
  induction h with
  | nil => exact .nil
  | cons h r ih => exact .cons h ih
theorem l_js : ∀ (ts : List DTE) (acc : Str) {σ : L2.St} {H F : Hp} {env : DSt} {M : Mp} {Q0 : DQ} {Q : VK}, EnvR K F σ env → Core K F H M → dJs ts acc env M Q0 → Post K F H M Q0 Q → tJs (ts.map (lE K)) acc σ H fun out H1 => Q (.str out) H1
  | [], acc, σ, H, F, env, M, Q0, Q, he, hc, ht, hp => hp.str hc ht
  | t :: ts, acc, σ, H, F, env, M, Q0, Q, he, hc, ht, hp => by
    refine ⟨F, env, M, _, he, hc, ht, fun d M1 F1 H1 v q s1 f1 c1 r1 => ?_⟩
    unfold jStep at q
    split at q
    · rw [Rep] at r1
      exact ⟨_, r1, q.1, l_js ts _ (he.mono s1) c1 q.2 (hp.after s1 f1)⟩
    · exact q.elim
theorem de_joined {v1 v2 : Expr} {rest : List Expr} {ts : List DTE} (h : DJ X (v1 :: v2 :: rest) ts) : DE X (.JoinedStr (v1 :: v2 :: rest) pos) (dJoined ts) :=
  PE.imp (pe_joined h.pj) fun σ H Q ⟨F, env, M, Q0, he, hc, ht, hp⟩ => l_js ts _ he hc ht hp
theorem de_joined1 (h : DE X e ta) : DE X (.JoinedStr [e] pos) ta := pe_joined1 h
theorem dFmt_ap {t : DTE} {env : DSt} {M : Mp} {Q : DQ} : dFmt t env M Q = t env M (fmtD Q) := rfl
theorem fmtD_s {s : Str} {M : Mp} {Q : DQ} : fmtD Q (.str s) M = (s.length ≤ sizeLine ∧ Q (.str s) M) := rfl
theorem fmtD_i {s : Int} {M : Mp} {Q : DQ} : fmtD Q (.int s) M = (s.natAbs.log2 < 1920 ∧ Q (.str (toString s)) M) := rfl
theorem dJoined_ap {ts : List DTE} {env : DSt} {M : Mp} {Q : DQ} : dJoined ts env M Q = dJs ts Str.empty env M Q := rfl
theorem dJs_nil {acc : Str} {env : DSt} {M : Mp} {Q : DQ} : dJs [] acc env M Q = Q (.str acc) M := rfl
theorem dJs_cons {t : DTE} {ts : List DTE} {acc : Str} {env : DSt} {M : Mp} {Q : DQ} : dJs (t :: ts) acc env M Q = t env M (jStep acc fun z M1 => dJs ts z env M1 Q) := rfl
theorem jStep_s {acc s : Str} {r : Str → Mp → Prop} {M : Mp} : jStep acc r (.str s) M = ((acc ++ s).length ≤ sizeLine ∧ r (acc ++ s) M) := rfl
/-! ### x.lstrip(signs) -/
abbrev rLstripC : DM := rS1 (fun a _ => a.length ≤ sizeLine) fun a b => .str (Txt.lstripChars a b)
theorem de_lstripC {apos cpos : Pos} (ho : DE X a ta) (ha : DA X [b] tr) (hbase : attributeBase a "lstrip" X.env (eval a X.env) = eval a X.env := by rfl) (hline : (apos.endLine == cpos.line) = true := by rfl) (hs : starEach [b] X.env = (false, eval b X.env) :: starEach [] X.env := by rfl) :
    DE X (.Call (.Attribute a "lstrip" apos) [b] [] cpos) (dBM "str" rLstripC ta tr) :=
  de_bm F.plainAttrs_str F.slot_str_lstrip F.type_str_lstrip mt_lstripChars (l_s1 fun F a b => by rw [Rep]) ho ha hbase (by rw [hs]; rfl) hline hs rfl
/-! ### names only -/
def gKV {α : Type} (m n : Nat) (π : List Nat) (us ws : List α) : List α := if us.length = m ∧ ws.length = n then π.filterMap fun i => (us ++ ws)[i]? else []
theorem gkv_vals {xs ys : List V} {us ws : List Value} {m n : Nat} : ∀ (π : List Nat), Vals xs us → Vals ys ws → Vals (gKV m n π xs ys) (gKV m n π us ws) := by
  intro π r1 r2
  unfold gKV
  rw [r1.length, r2.length]
  split
  · have r := r1.append r2
    induction π with
    | nil => exact .nil
    | cons i π ih =>
      rw [List.filterMap_cons, List.filterMap_cons]
      cases h : (xs ++ ys)[i]? with
      | none => rw [r.none_of h]; exact ih
      | some x => obtain ⟨u, e, g⟩ := r.get h; rw [e]; exact .cons g ih
  · exact .nil
theorem gkv_rep (m n : Nat) (π : List Nat) : GD (gKV m n π) (gKV m n π) := by
  refine ⟨fun {K F ds es vs ws} r1 r2 => ?_⟩
  unfold gKV
  rw [r1.len, r2.len]
  split
  · have r := r1.app r2
    induction π with
    | nil => exact Reps.nil
    | cons i π ih =>
      rw [List.filterMap_cons, List.filterMap_cons]
      cases h : (ds ++ es)[i]? with
      | none =>
        have h2 : (vs ++ ws)[i]? = none := by
          rw [List.getElem?_eq_none_iff] at h ⊢
          rw [r.len]; exact h
        rw [h2]; exact ih
      | some x => obtain ⟨u, e, g⟩ := r.get h; rw [e]; exact Reps.cons g ih
  · exact Reps.nil
theorem kb_of {m n : Nat} {π : List Nat} (hp : ps.length ≠ 0) (h : ∀ us ws : List Value, us.length = m → ws.length = n → bindArgs fd ⟨us, ks.zip ws⟩ = pure (ps.zip (gKV m n π us ws))) : KBinds K fd ps ks (gKV m n π) (gKV m n π) :=
  ⟨fun s us ws _ hl => by
    by_cases e : us.length = m ∧ ws.length = n
    · exact BindsTo.of_eq (h us ws e.1 e.2)
    · unfold gKV at hl; rw [if_neg e] at hl; exact absurd hl.symm hp, fun r1 r2 => gkv_vals π r1 r2⟩
theorem de_callKC {kws : List Keyword} {m n : Nat} {π : List Nat} (G : Cal X.prog X.w X.K X.mg X.base k x ps sp f fd) (hr : Room k X.A) (hb : KBinds X.K fd ps ks (gKV m n π) (gKV m n π)) (ha : DA X (e :: es) tr) (hkw : DK X kws tk) (hg : Gl X x := by rfl)
    (hall : (backToKw pos (keywordEach kws X.env)).all (·.1.isSome) = true := by rfl) (hks : (backToKw pos (keywordEach kws X.env)).filterMap (·.1) = ks := by rfl)
    (hdb : (x == ("__debug__" : Str)) = false := by decide) (he : starEach (e :: es) X.env = (false, eval e X.env) :: starEach es X.env := by rfl)
    (hpl : ((backTo pos (starEach (e :: es) X.env)).any (·.1) || (backToKw pos (keywordEach kws X.env)).any (·.1.isNone)) = false := by rfl) : DE X (.Call (.Name x p) (e :: es) kws pos) (dCallK sp (gKV m n π) tr tk) :=
  de_callK G.fn hr G.g G.kp hb (gkv_rep m n π) ha hkw hg hall hks hdb he hpl
theorem de_callKC0 {kws : List Keyword} {m n : Nat} {π : List Nat} (G : Cal X.prog X.w X.K X.mg X.base k x ps sp f fd) (hr : Room k X.A) (hb : KBinds X.K fd ps ks (gKV m n π) (gKV m n π)) (hkw : DK X kws tk) (hg : Gl X x := by rfl)
    (hall : (backToKw pos (keywordEach kws X.env)).all (·.1.isSome) = true := by rfl) (hks : (backToKw pos (keywordEach kws X.env)).filterMap (·.1) = ks := by rfl)
    (hdb : (x == ("__debug__" : Str)) = false := by decide)
    (hpl : ((backTo pos (starEach [] X.env)).any (·.1) || (backToKw pos (keywordEach kws X.env)).any (·.1.isNone)) = false := by rfl) : DE X (.Call (.Name x p) [] kws pos) (dCallK sp (gKV m n π) dNil tk) := by
  have h : PE X (.Call (.Name x p) [] kws pos) (tCallK (lSp X.K sp) (gKV m n π) (fun _ _ _ => False) tNil (lA X.K tk)) := by
    refine ⟨fun pins s σ H Q I h => ?_⟩
    refine wpAny_Call_Name_kw (ld_glob I hg G.g ?_ hdb)
    refine PySem.W.callWith_KW0 (h₀ := X.base) I.ok.mod.kin G.kp hall (thn (hkw.run pos pins s σ H _ I h) fun ws s2 ⟨zs, H2, I2, rz, q2⟩ => ⟨I2.kIn, ?_⟩) hpl
    rw [hks]
    exact run_fnk (us := []) (vs := []) G.fn hr hb pass0 I2 .nil rz q2
  exact PE.imp h fun σ H Q ⟨F, env, M, Q0, he, hc, ht, hp⟩ => ⟨F, env, M, _, he, hc, ht, fun es M2 F2 H2 ws q2 s2 f2 c2 r2 =>
      ⟨F2, M2, _, Q0, noX, c2.toCoreP, (gkv_rep m n π).rep Reps.nil r2, q2, (hp.after s2 f2).plain c2, postX0⟩⟩
end
end DL
namespace DL
open PySem PySem.Spec PyProof.Rows L2
/-! ### loops, behind their iterables -/
def lcB (g : DTG) (tt : DTT) (te : DTE) (vs : List Nat) (env : DSt) (Q : DQ) : List D → (Mp → Prop) → Mp → Prop := fun ds kp M1 => ∃ Pv : Nat → List D → Mp → Prop, Pv 0 [] M1 ∧ (∀ i acc M, Pv i acc M → kp M) ∧
  (∀ i d acc M, ds[i]? = some d → Pv i acc M → g d (wipeD env vs) M fun env2 M2 => tt env2 M2 fun b M3 => if b = true then te env2 M3 fun y M4 => acc.length < sizeLine ∧ Pv (i + 1) (acc ++ [y]) M4 else Pv (i + 1) acc M3) ∧
  ∀ acc M, Pv ds.length acc M → Q (.lst acc) M
def frB (g : DTG) (t : DTS) (E : DEnds) (env : DSt) : List D → (Mp → Prop) → Mp → Prop := fun ds kp M1 => ∃ Pv : Nat → DSt → Mp → Prop, Pv 0 env M1 ∧ (∀ i env M, Pv i env M → kp M) ∧
  (∀ i d env M, ds[i]? = some d → Pv i env M → g d env M fun env' M' => t { E with nx := Pv (i + 1), ct := Pv (i + 1), bk := E.nx } env' M') ∧ ∀ env M, Pv ds.length env M → E.nx env M
section
variable {env : DSt} {M M1 : Mp} {Q : DQ} {E : DEnds} {te : DTE} {t : DTS} {tt : DTT} {g : DTG} {ti : DTI} {vs : List Nat} {kp : Mp → Prop} {α : Type} {xs : List α}
theorem dLc_un : dLc ti g tt te vs env M Q = ti env M (lcB g tt te vs env Q) := rfl
theorem dFor_un : dFor ti g t E env M = ti env M (frB g t E env) := rfl
theorem lcB_fm (enc f : α → D) (p : α → Bool) (hk : kp M1) (hz : xs.length ≤ sizeLine)
    (h : ∀ x, x ∈ xs → ∀ (R : DQ) (S : Mp → Prop), (p x = true → R (f x) M1) → (p x = false → S M1) → g (enc x) (wipeD env vs) M1 fun env2 M2 => tt env2 M2 fun b M3 => if b = true then te env2 M3 R else S M3)
    (q : Q (.lst ((xs.filter p).map f)) M1) : lcB g tt te vs env Q (xs.map enc) kp M1 :=
  lc_fm (ti := fun _ _ R => R (xs.map enc) kp M1) (M := M1) (M1 := M1) xs enc f p (fun _ r => r) hk hz h q
theorem lcB_m (enc f : α → D) (hk : kp M1) (hz : xs.length ≤ sizeLine)
    (h : ∀ x, x ∈ xs → ∀ R : DQ, R (f x) M1 → g (enc x) (wipeD env vs) M1 fun env2 M2 => te env2 M2 R)
    (q : Q (.lst (xs.map f)) M1) : lcB g dYes te vs env Q (xs.map enc) kp M1 :=
  lc_m (ti := fun _ _ R => R (xs.map enc) kp M1) (M := M1) (M1 := M1) xs enc f (fun _ r => r) hk hz h q
/-- turns that change M -/
theorem lcB_st (enc : α → D) (inv : List α → List D → Mp → Prop) (h0 : inv [] [] M1) (hk : ∀ s acc M, inv s acc M → kp M) (hz : ∀ s acc M, inv s acc M → acc.length < sizeLine)
    (h : ∀ pre x post acc M, xs = pre ++ x :: post → inv pre acc M → ∀ R : DQ, (∀ y M', inv (pre ++ [x]) (acc ++ [y]) M' → R y M') → g (enc x) (wipeD env vs) M fun env2 M2 => te env2 M2 R)
    (q : ∀ acc M, inv xs acc M → Q (.lst acc) M) : lcB g dYes te vs env Q (xs.map enc) kp M1 := by
  refine ⟨fun i acc M => inv (xs.take i) acc M, by simpa using h0, fun i acc M => hk _ _ M, fun i d acc M hx p => ?_, fun acc M p => ?_⟩
  · rw [List.getElem?_map] at hx
    cases q : xs[i]? with
    | none => rw [q] at hx; cases hx
    | some x =>
      rw [q] at hx
      cases hx
      have hi : i < xs.length := (List.getElem?_eq_some_iff.mp q).1
      have e : xs.take (i + 1) = xs.take i ++ [x] := by rw [List.take_add_one, q]; rfl
      have e2 : xs.drop i = x :: xs.drop (i + 1) := by
        rw [List.drop_eq_getElem_cons hi]
        congr 1
        exact Option.some.inj ((List.getElem?_eq_getElem hi).symm.trans q)
      refine h _ x (xs.drop (i + 1)) acc M (by rw [← e2, List.take_append_drop]) p _ fun y M' hy => ?_
      dsimp only
      rw [e]
      exact ⟨hz _ _ _ p, hy⟩
  · rw [List.length_map, List.take_length] at p
    exact q acc M p
theorem frB_pre (enc : α → D) (inv : List α → DSt → Mp → Prop) (h0 : inv [] env M1) (hk : ∀ s env M, inv s env M → kp M)
    (hs : ∀ pre x post env M, xs = pre ++ x :: post → inv pre env M → ∀ R : DSt → Mp → Prop, (∀ env' M', inv (pre ++ [x]) env' M' → R env' M') → g (enc x) env M fun env' M' => t { E with nx := R, ct := R, bk := E.nx } env' M')
    (hd : ∀ env M, inv xs env M → E.nx env M) : frB g t E env (xs.map enc) kp M1 :=
  for_pre (ti := fun _ _ R => R (xs.map enc) kp M1) (M := M1) (M1 := M1) xs enc inv (fun _ r => r) h0 hk (fun pre x post env M e i => hs pre x post env M e i _ fun _ _ h => h) hd
end
end DL
namespace DL
open PySem PySem.Spec PyProof.Rows L2
section
variable {env : DSt} {M M1 : Mp} {Q : DQ} {E : DEnds} {te ta tv : DTE} {t : DTS} {tt : DTT} {g g1 : DTG} {ti : DTI} {tr : DTA} {vs vs1 : List Nat} {kp : Mp → Prop} {α β : Type} {xs : List α} {C : Addr} {n m : Str} {sp : DSp} {fs : List (Str × D)} {a : Addr} {rd : D2}
/-- a statement that is not reached -/
def dNever : DTS := fun _ _ _ => False
theorem ds_never {X : Cx} {GX : GI X.K} {st : Stmt} : DS X st dNever := PS.imp ps_never fun D σ H h => by
  obtain ⟨F, env, M, D0, he, hc, ht, hp⟩ := h
  exact ht.elim
theorem dNever_ap : dNever E env M = False := rfl
theorem insOf_p : insOf M (.ptr a) = (match M a with | some (.ins C fs) => some (C, fs) | _ => none) := rfl
theorem insOf_o : insOf M (.obj C fs) = some (C, fs) := rfl
theorem dFld_ap : dFld C n ta env M Q = ta env M fun x M1 => (match insOf M1 x with
  | some (C', fs) => C' = C ∧ ∃ d, fs.lookup n = some d ∧ Q d M1
  | none => False) := rfl
theorem dSetF_ap : dSetF C n ta tv E env M = tv env M fun d M1 => ta env M1 fun x M2 => (match x with
  | .ptr a => (match M2 a with
    | some (.ins C' fs) => C' = C ∧ fs.length < 1000 ∧ E.nx env (up M2 a (.ins C (putD n d fs)))
    | _ => False)
  | _ => False) := rfl
theorem dAugF_ap : dAugF C n ta tv rd E env M = ta env M fun x M1 => (match x with
  | .ptr a => (match M1 a with
    | some (.ins C' fs) => C' = C ∧ ∃ d, fs.lookup n = some d ∧ tv env M1 fun y M2 => rd d y M2 fun z M3 => (match M3 a with
      | some (.ins C2 fs2) => C2 = C ∧ fs2.length < 1000 ∧ E.nx env (up M3 a (.ins C (putD n z fs2)))
      | _ => False)
    | _ => False)
  | _ => False) := rfl
theorem dMeth_ap : dMeth C m sp ta tr env M Q = ta env M fun x M1 => (match insOf M1 x with
  | some (C', fs) => C' = C ∧ fs.lookup m = none ∧ tr env M1 fun ds M2 => sp (x :: ds) M2 Q noX
  | none => False) := rfl
theorem dMake_ap : dMake C sp tr env M Q = tr env M fun ds M1 => ∀ x, M1 x = none → sp (.ptr x :: ds) (up M1 x (.ins C [])) (fun v M2 => v = .non ∧ Q (.ptr x) M2) noX := rfl
theorem dProp_ap : dProp C sp ta env M Q = ta env M fun x M1 => (match insOf M1 x with
  | some (C', fs) => C' = C ∧ sp [x] M1 Q noX
  | none => False) := rfl
/-- a while loop by a measure: Pv tells state and measure -/
theorem wh_of (Pv : Nat → DSt → Mp → Prop) (m : Nat) (h0 : Pv m env M)
    (h : ∀ m env M, Pv m env M → ∀ R : DSt → Mp → Prop, (∀ m' env' M', m' < m → Pv m' env' M' → R env' M') → tt env M fun k M1 => if k = true then t { E with nx := R, ct := R, bk := E.nx } env M1 else E.nx env M1) : dWhile tt t E env M :=
  ⟨Pv, ⟨m, h0⟩, fun m env M p => h m env M p _ fun m' env' M' hm hp => ⟨m', hm, hp⟩⟩
def lc2B (g : DTG) (tt : DTT) (ti1 : DTI) (g1 : DTG) (tt1 : DTT) (te : DTE) (vs vs1 : List Nat) (env : DSt) (Q : DQ) : List D → (Mp → Prop) → Mp → Prop := fun ds kp M1 => ∃ Pv : Nat → List D → Mp → Prop, Pv 0 [] M1 ∧ (∀ i acc M, Pv i acc M → kp M) ∧
  (∀ i d acc M, ds[i]? = some d → Pv i acc M → g d (wipeD env vs) M fun env2 M2 => tt env2 M2 fun b M3 => if b = true then
    ti1 env2 M3 fun ds1 kp1 M4 => ∃ Pv1 : Nat → List D → Mp → Prop, Pv1 0 acc M4 ∧ (∀ j acc M, Pv1 j acc M → kp1 M) ∧
      (∀ j d1 acc1 M, ds1[j]? = some d1 → Pv1 j acc1 M → g1 d1 (wipeD env2 vs1) M fun env3 M5 => tt1 env3 M5 fun b M6 => if b = true then te env3 M6 fun y M7 => acc1.length < sizeLine ∧ Pv1 (j + 1) (acc1 ++ [y]) M7 else Pv1 (j + 1) acc1 M6) ∧
      ∀ acc1 M, Pv1 ds1.length acc1 M → Pv (i + 1) acc1 M
    else Pv (i + 1) acc M3) ∧
  ∀ acc M, Pv ds.length acc M → Q (.lst acc) M
def lc2I (acc : List D) (g1 : DTG) (tt1 : DTT) (te : DTE) (env2 : DSt) (vs1 : List Nat) (Z : List D → Mp → Prop) : List D → (Mp → Prop) → Mp → Prop := fun ds1 kp1 M4 => ∃ Pv1 : Nat → List D → Mp → Prop, Pv1 0 acc M4 ∧ (∀ j acc M, Pv1 j acc M → kp1 M) ∧
      (∀ j d1 acc1 M, ds1[j]? = some d1 → Pv1 j acc1 M → g1 d1 (wipeD env2 vs1) M fun env3 M5 => tt1 env3 M5 fun b M6 => if b = true then te env3 M6 fun y M7 => acc1.length < sizeLine ∧ Pv1 (j + 1) (acc1 ++ [y]) M7 else Pv1 (j + 1) acc1 M6) ∧
      ∀ acc1 M, Pv1 ds1.length acc1 M → Z acc1 M
theorem dLc2_un {ti1 : DTI} {tt1 : DTT} : dLc2 ti g tt ti1 g1 tt1 te vs vs1 env M Q = ti env M (lc2B g tt ti1 g1 tt1 te vs vs1 env Q) := rfl
/-- the inner clause: M unchanged, a map -/
theorem lc2I_m {acc : List D} {Z : List D → Mp → Prop} {ys : List β} (enc f : β → D) (hk : kp M) (hz : acc.length + ys.length ≤ sizeLine)
    (h : ∀ y, y ∈ ys → ∀ R : DQ, R (f y) M → g1 (enc y) (wipeD env vs1) M fun env3 M5 => te env3 M5 R) (q : Z (acc ++ ys.map f) M) : lc2I acc g1 dYes te env vs1 Z (ys.map enc) kp M := by
  refine ⟨fun j a M' => M' = M ∧ a = acc ++ (ys.take j).map f ∧ j ≤ ys.length, ⟨rfl, by simp, Nat.zero_le _⟩, fun _ _ _ z => by rw [z.1]; exact hk, fun j d a M' hd ⟨e1, e2, e3⟩ => ?_, fun a M' ⟨e1, e2, e3⟩ => ?_⟩
  · subst e1 e2
    rw [List.getElem?_map] at hd
    cases q : ys[j]? with
    | none => rw [q] at hd; cases hd
    | some x =>
      rw [q] at hd
      cases hd
      have hi : j < ys.length := (List.getElem?_eq_some_iff.mp q).1
      have e : ys.take (j + 1) = ys.take j ++ [x] := by rw [List.take_add_one, q]; rfl
      refine h x (List.mem_of_getElem? q) (fun y M7 => _ ∧ _) ⟨?_, rfl, ?_, hi⟩
      · rw [List.length_append, List.length_map, List.length_take]; omega
      · rw [e, List.map_append, List.append_assoc]; rfl
  · rw [List.length_map, List.take_length] at e2
    rw [e1, e2]
    exact q
/-- two clauses, M unchanged: one list behind the other -/
theorem lc2B_m {ti1 : DTI} {tt1 : DTT} (enc : α → D) (f : α → List D) (hk : kp M1) (hz : (xs.flatMap f).length ≤ sizeLine)
    (h : ∀ x, x ∈ xs → ∀ (acc : List D) (Z : List D → Mp → Prop), acc.length + (f x).length ≤ sizeLine → Z (acc ++ f x) M1 → g (enc x) (wipeD env vs) M1 fun env2 M2 => ti1 env2 M2 (lc2I acc g1 tt1 te env2 vs1 Z))
    (q : Q (.lst (xs.flatMap f)) M1) : lc2B g dYes ti1 g1 tt1 te vs vs1 env Q (xs.map enc) kp M1 := by
  refine ⟨fun i acc M' => M' = M1 ∧ acc = (xs.take i).flatMap f ∧ i ≤ xs.length, ⟨rfl, by simp, Nat.zero_le _⟩, fun _ _ _ z => by rw [z.1]; exact hk, fun i d acc M' hd ⟨e1, e2, e3⟩ => ?_, fun acc M' ⟨e1, e2, e3⟩ => ?_⟩
  · subst e1 e2
    rw [List.getElem?_map] at hd
    cases q : xs[i]? with
    | none => rw [q] at hd; cases hd
    | some x =>
      rw [q] at hd
      cases hd
      have hi : i < xs.length := (List.getElem?_eq_some_iff.mp q).1
      have e : xs.take (i + 1) = xs.take i ++ [x] := by rw [List.take_add_one, q]; rfl
      have e4 : ((xs.take i).flatMap f).length + (f x).length ≤ (xs.flatMap f).length := by
        have e5 : xs = xs.take (i + 1) ++ xs.drop (i + 1) := (List.take_append_drop _ _).symm
        have := congrArg (fun l => (l.flatMap f).length) e5
        simp only [List.flatMap_append, List.length_append, e, List.flatMap_cons, List.flatMap_nil, List.append_nil] at this
        omega
      exact h x (List.mem_of_getElem? q) _ _ (by omega) ⟨rfl, by rw [e, List.flatMap_append]; simp, hi⟩
  · rw [List.length_map, List.take_length] at e2
    rw [e1, e2]
    exact q
end
end DL
namespace DL
open PySem PySem.Spec PyProof.Rows L2
/-- plain data of a depth -/
def Pl : Nat → D → Bool
  | _, .non => true
  | _, .bl _ => true
  | _, .int _ => true
  | _, .str x => PyData.strOk x
  | n + 1, .lst ds => ds.all (Pl n) && decide (ds.length ≤ 1000000)
  | n + 1, .tup ds => ds.all (Pl n) && decide (ds.length ≤ 1000000)
  | _, _ => false
def ShD (n : Nat) (d : D) : Prop := d.pl = true ∧ d.py.canLay0 = true ∧ d.py.depth ≤ n
theorem shs_of {n : Nat} : ∀ {ds : List D}, (∀ d ∈ ds, ShD n d) → D.pls ds = true ∧ PyData.canLayAll0 (D.pys ds) = true ∧ PyData.depthAll (D.pys ds) ≤ n
  | [], _ => ⟨by rw [D.pls], by rw [D.pys]; rfl, by rw [D.pys]; exact Nat.zero_le _⟩
  | d :: ds, h => by
    obtain ⟨a, b, c⟩ := h d List.mem_cons_self
    obtain ⟨a', b', c'⟩ := shs_of fun e he => h e (List.mem_cons_of_mem _ he)
    rw [D.pls, D.pys]
    refine ⟨by rw [a, a']; rfl, ?_, ?_⟩
    · show (_ && _) = true
      rw [b, b']; rfl
    · exact Nat.max_le.mpr ⟨c, c'⟩
theorem pl_sh : ∀ (n : Nat) (d : D), Pl n d = true → ShD n d
  | n, .non, _ => ⟨by rw [D.pl], by rw [D.py]; rfl, by rw [D.py]; exact Nat.zero_le _⟩
  | n, .bl _, _ => ⟨by rw [D.pl], by rw [D.py]; rfl, by rw [D.py]; exact Nat.zero_le _⟩
  | n, .int _, _ => ⟨by rw [D.pl], by rw [D.py]; rfl, by rw [D.py]; exact Nat.zero_le _⟩
  | n, .str x, h => ⟨by rw [D.pl], by rw [D.py]; cases n <;> exact h, by rw [D.py]; exact Nat.zero_le _⟩
  | n + 1, .lst ds, h => by
    rw [Pl, Bool.and_eq_true] at h
    obtain ⟨a, b, c⟩ := shs_of (n := n) (ds := ds) fun d hd => pl_sh n d (List.all_eq_true.mp h.1 d hd)
    exact ⟨by rw [D.pl]; exact a, by rw [D.py]; exact b, by rw [D.py]; exact Nat.succ_le_succ c⟩
  | n + 1, .tup ds, h => by
    rw [Pl, Bool.and_eq_true] at h
    obtain ⟨a, b, c⟩ := shs_of (n := n) (ds := ds) fun d hd => pl_sh n d (List.all_eq_true.mp h.1 d hd)
    exact ⟨by rw [D.pl]; exact a, by rw [D.py]; exact b, by rw [D.py]; exact Nat.succ_le_succ c⟩
  | 0, .lst _, h => by cases h
  | 0, .tup _, h => by cases h
  | n, .lsx _, h => by cases n <;> cases h
  | n, .ptr _, h => by cases n <;> cases h
  | n, .ty _, h => by cases n <;> cases h
  | n, .obj _ _, h => by cases n <;> cases h
  | n, .fn _, h => by cases n <;> cases h
theorem pl_ok {n : Nat} {d : D} (h : Pl n d = true) (hn : n ≤ 64) : d.ok = true := by
  obtain ⟨a, b, c⟩ := pl_sh n d h
  unfold D.ok SeqAt.shaped
  rw [a, b, Bool.true_and, Bool.true_and]
  exact decide_eq_true (Nat.le_trans c hn)
section
variable {M : Mp} {Q : DQ} {x y : D} {b : Bool} {n : Nat} {a : Addr} {ds : List D}
/-- a list of plain data, and [] -/
theorem rEqW_p0 (h : M a = some (.lst ds)) (hp : ∀ d ∈ ds, Pl n d = true) (hz : ds.length ≤ 1000000) (hn : n ≤ 60) : rEqW b (.ptr a) (.lst []) M Q = Q (.bl (b ^^ ds.isEmpty)) M := by
  unfold rEqW
  rw [if_neg (by exact Bool.false_ne_true)]
  have e : rs M (.ptr a) = .lst ds := by show (match M a with | some (.lst ds) => D.lst ds | _ => D.ptr a) = _; rw [h]
  have k : (D.lst ds).ok = true := pl_ok (n := n + 1) (by rw [Pl, Bool.and_eq_true]; exact ⟨List.all_eq_true.mpr hp, decide_eq_true hz⟩) (by omega)
  have e2 : rs M (.lst []) = .lst [] := by unfold rs; rfl
  have k2 : (D.lst []).ok = true := pl_ok (n := 1) rfl (by decide)
  rw [e, e2, k, k2]
  have e3 : D.eqv (.lst ds) (.lst []) = ds.isEmpty := by
    unfold D.eqv
    rw [D.py, D.py]
    cases ds with
    | nil => rfl
    | cons d r => rw [D.pys]; rfl
  rw [e3]
  simp only [and_self, true_and]
end
end DL
namespace DL
open PySem PySem.Spec PyProof.Rows L2
/-- a def of the text, its defaults by values -/
abbrev FnD (K : PySem.W.Frag) (x qual : Str) (st : Stmt) (dvs : List V) (kws : List (Str × V)) (f : Addr) (fd : FuncData) : Prop := FunD K x qual (defArgs st) (defBody st) (defScope st) dvs kws f fd
section
variable {P : Program} {w : World} {K : PySem.W.Frag} {G : GI K} {mg : Str → Option Value} {base : Heap} {dvs : List V} {kws : List (Str × V)}
/-- THE RULE for a def that raises nothing -/
theorem dfunD {x qual : Str} {st : Stmt} {f : Addr} {fd : FuncData} {N ps : List Str} {k : Nat} {sp : DSp} (F : FnD K x qual st dvs kws f fd) (S : FnScope N ps (defScope st)) (len : ∀ ds M Q E, sp ds M Q E → ds.length = ps.length)
    (hbody : ∀ (cdv : Value) (A : Around) (outer : List Env) (s : Shared) (H : Hp) (E : XK), Room k (A.deeper (envOfC qual (defScope st) s.heap.objs.size f cdv)) →
      ∃ t, (∀ G : GI K, @DSs (cxOf CX0 P w K mg base N qual (defScope st) f cdv A outer s H E).nox G (defBody st) t) ∧ ∀ ds M Q E0, sp ds M Q E0 → t (bodyE K Q) (startD N ds) M) : FnOk P w K mg base CX0 (k + 1) f fd ps (lSp K sp) :=
  FunD.ok F S (fun vs H Q E ⟨F, M, ds, Q0, E0, c, r, h, _⟩ => by rw [r.len]; exact len ds M Q0 E0 h) fun cdv A outer s H vs Q E hr ⟨F, M, ds, Q0, E0, c, r, h, p, _⟩ => by
    obtain ⟨t, h1, h2⟩ := hbody cdv A outer s H E hr
    exact ⟨_, PSs.nox (h1 (entryG K F H M)), F, startD N ds, M, bodyE K Q0, start_env r, @Core.mk K (entryG K F H M) F H M c ⟨Same.refl F, Fr.refl⟩, h2 ds M Q0 E0 h, @fin_ok K (entryG K F H M) F H M Q0 Q (@PostP.post K (entryG K F H M) F H M Q0 Q p)⟩
/-- the law's own promise -/
abbrev spLaw : DSp := fun ds M Q _ => ∃ ms : List Int, ds = [.lsx (ms.map D.int)] ∧ ms.length ≤ 63 ∧ Q (.bl true) M
theorem law_in {H : Hp} {a : Addr} {ns : List Int} (hl : ns.length ≤ 63) (hS : SqL K H a (ns.map V.int)) : lSp K spLaw [.ref a] H (fun v _ => v = .bl true) fun _ _ _ => False :=
  ⟨H, fun _ => none, [.lsx (ns.map D.int)], fun d _ => d = .bl true, noX, ⟨Same.refl H, fun _ _ e => by cases e⟩, Reps.one (by rw [Rep]; exact ⟨a, _, rfl, hS, Reps.of_ints⟩), ⟨ns, rfl, hl, rfl⟩,
    fun d M' F' H' v e _ _ _ r => by subst e; rw [Rep] at r; exact r, postX0⟩
/-- an empty promise is kept by every def -/
theorem fn_no {x qual : Str} {st : Stmt} {f : Addr} {fd : FuncData} {N ps : List Str} (F : FnD K x qual st dvs kws f fd) (S : FnScope N ps (defScope st)) {k : Nat} : FnOk P w K mg base CX0 (k + 1) f fd ps (lSp K fun _ _ _ _ => False) :=
  FunD.ok F S (fun vs H Q E ⟨F, M, ds, Q0, E0, c, r, h, _⟩ => h.elim) fun cdv A outer s H vs Q E hr ⟨F, M, ds, Q0, E0, c, r, h, p, _⟩ => h.elim
theorem kbN {x qual : Str} {st : Stmt} {f : Addr} {fd : FuncData} {ps ks : List Str} {m n : Nat} {π : List Nat} (F : FnD K x qual st [] kws f fd) (hp : ps.length ≠ 0)
    (h : ∀ (kV doc pm : Value) (an : Option Addr) (cdv ct : Value) (us ws : List Value), us.length = m → ws.length = n → bindArgs (PySem.W.fnOf x qual (defArgs st) (defBody st) (defScope st) .none kV doc pm an cdv ct) ⟨us, ks.zip ws⟩ = pure (ps.zip (gKV m n π us ws))) : KBinds K fd ps ks (gKV m n π) (gKV m n π) := by
  obtain ⟨oc, od, dV, kV, doc, pm, an, cdv, ct, osl, rfl, lk, hcd, hD, hK⟩ := F.ex
  rcases hD with ⟨_, rfl⟩ | ⟨e, _⟩
  · exact kb_of hp (h kV doc pm an cdv ct)
  · exact absurd rfl e
end
end DL
namespace DL
open PySem PySem.Spec PyProof.Rows L2
/-! ### what is raised -/
/-- the frame's wish for what is raised, told by data -/
def Wish (K : PySem.W.Frag) [GI K] (E0 : DX) (E : XK) : Prop := ∀ {c : Value} {fs : List (Str × D)} {M' : Mp} {F' H' : Hp} {dd : Addr} {vs : List (Str × V)}, E0 c fs M' → Core K F' H' M' → F' dd = some (.xd vs) → RepF K F' fs vs → E c (some dd) H'
abbrev WE (E : XK) : WX := fun cls d _ H => E cls d H
/-- an expression that makes an exception of the class at C, its fields by the values -/
def tMkE (C : Addr) (g : List V → List (Str × V)) (n : Nat) (ta : TA) : L2.St → Hp → XK → Prop := fun σ H Q => ta σ H fun vs H1 => vs.length = n ∧ ∀ d, H1 d = none → Q (.ref C) (some d) (upd H1 d (.xd (g vs)))
/-- .. by data -/
structure FsD (g : List V → List (Str × V)) (gd : List D → List (Str × D)) (n : Nat) : Prop where
  rep : ∀ {K : PySem.W.Frag} {F : Hp} {ds : List D} {vs : List V}, ds.length = n → Reps K F ds vs → RepF K F (gd ds) (g vs)
/-- an own exception class of the text, its __init__ among it: called by n values -/
structure CalE (P : Program) (w : World) (K : PySem.W.Frag) (mg : Str → Option Value) (base : Heap) (k : Nat) (x : Str) (C : Addr) (g : List V → List (Str × V)) (gd : List D → List (Str × D)) (n : Nat) : Prop where
  mk1 : ∀ {X : Cx} {p pos : Pos} {e : Expr} {es : List Expr} {ta : TA}, X.prog = P → X.w = w → X.K = K → X.mg = mg → X.base = base → Room k X.A → Gl X x → PA X (e :: es) ta → starEach (e :: es) X.env = (false, eval e X.env) :: starEach es X.env → (backTo pos (starEach es X.env)).any (·.1) = false →
    PMk X (.Call (.Name x p) (e :: es) [] pos) (tMkE C g n ta)
  fs : FsD g gd n
/-- raise C(e, ..) -/
def dRaise (E0 : DX) (C : Addr) (gd : List D → List (Str × D)) (n : Nat) (tr : DTA) : DTS := fun _ env M => tr env M fun ds M1 => ds.length = n ∧ E0 (.ref C) (gd ds) M1
section
variable {X : Cx} {GX : GI X.K} {E : XK} {E0 : DX} {x : Str} {C : Addr} {g : List V → List (Str × V)} {gd : List D → List (Str × D)} {n k : Nat} {p pos pos' : Pos} {e : Expr} {es : List Expr} {tr tk : DTA} {f : Addr} {fd : FuncData} {ps ks : List Str} {sp : DSp}
theorem ds_raise (G : CalE X.prog X.w X.K X.mg X.base k x C g gd n) (ws : Wish X.K E0 E) (hr : Room k X.A) (ha : DA X (e :: es) tr) (hc : X.calm = true := by rfl) (tk : L2.Takes X (WE E) := by exact L2.takes_of rfl rfl rfl rfl) (hg : Gl X x := by rfl)
    (he : starEach (e :: es) X.env = (false, eval e X.env) :: starEach es X.env := by rfl) (hpl : (backTo pos (starEach es X.env)).any (·.1) = false := by rfl) : DS X (.Raise (some (.Call (.Name x p) (e :: es) [] pos)) none pos') (dRaise E0 C gd n tr) :=
  PS.imp (L2.ps_raise hc tk (G.mk1 rfl rfl rfl rfl rfl hr hg ha he hpl)) fun D σ H ⟨F, env, M, D0, he, hc, ht, hp⟩ =>
    ⟨F, env, M, _, he, hc, ht, fun ds M1 F1 H1 vs q s1 f1 c1 r1 => ⟨by rw [r1.len]; exact q.1, fun d hd => by
      obtain ⟨c2, s2, _⟩ := c1.new hd (.xd (g vs))
      exact ws q.2 c2 upd_same (RepF.mono s2 _ _ (G.fs.rep q.1 r1))⟩⟩
/-- f(e, ..); what f raises passes on -/
def dCallX (E0 : DX) (sp : DSp) (tr : DTA) : DTE := fun env M Q => tr env M fun ds M1 => sp ds M1 Q E0
/-- a def that is called and may raise -/
structure CalX (P : Program) (w : World) (K : PySem.W.Frag) (mg : Str → Option Value) (base : Heap) (k : Nat) (x : Str) (ps : List Str) (sp : DSp) (f : Addr) (fd : FuncData) : Prop where
  fn : FnOk P w K mg base (L2.CX P w) k f fd ps (lSp K sp)
  g : mg x = some (.ref f)
  kp : PySem.W.keepIn K (.ref f) = true
  b : Binds K fd ps []
theorem Wish.post {K : PySem.W.Frag} {G : GI K} {F H : Hp} {M : Mp} (ws : Wish K E0 E) (c : Core K F H M) : PostX K F H M E0 E := fun c' fs M' F' H' dd vs q s f c1 h r => ws q (c.to c1 s f) h r
theorem l_callX (ws : Wish X.K E0 E) : ∀ σ H Q, lE X.K (dCallX E0 sp tr) σ H Q → tCall (lSp X.K sp) [] E (lA X.K tr) σ H Q := fun σ H Q ⟨F, env, M, Q0, he, hc, ht, hp⟩ =>
  ⟨F, env, M, _, he, hc, ht, fun ds M1 F1 H1 vs q s1 f1 c1 r1 => by
    show lSp X.K sp (vs ++ []) H1 Q E
    rw [List.append_nil]
    exact ⟨F1, M1, ds, Q0, E0, c1.toCoreP, r1, q, (hp.after s1 f1).plain c1, ws.post c1⟩⟩
theorem de_callX (G : CalX X.prog X.w X.K X.mg X.base k x ps sp f fd) (ws : Wish X.K E0 E) (hr : Room k X.A) (ha : DA X (e :: es) tr) (tk : L2.Takes X (WE E) := by exact L2.takes_of rfl rfl rfl rfl) (hg : Gl X x := by rfl)
    (hdb : (x == ("__debug__" : Str)) = false := by decide) (he : starEach (e :: es) X.env = (false, eval e X.env) :: starEach es X.env := by rfl) (hpl : (backTo pos (starEach es X.env)).any (·.1) = false := by rfl) : DE X (.Call (.Name x p) (e :: es) [] pos) (dCallX E0 sp tr) :=
  PE.imp (pe_call G.fn hr hg G.g G.kp G.b .nil (L2.passes_call tk fun _ _ _ _ h => h) ha hdb he hpl) (l_callX ws)
end
section
variable {P : Program} {w : World} {K : PySem.W.Frag} {mg : Str → Option Value} {base : Heap} {dvs : List V} {kws : List (Str × V)}
/-- THE RULE for a def that may raise -/
theorem dfunX {x qual : Str} {st : Stmt} {f : Addr} {fd : FuncData} {N ps : List Str} {k : Nat} {sp : DSp} (F : FnD K x qual st dvs kws f fd) (S : FnScope N ps (defScope st)) (len : ∀ ds M Q E, sp ds M Q E → ds.length = ps.length)
    (hbody : ∀ (cdv : Value) (A : Around) (outer : List Env) (s : Shared) (H : Hp) (E : XK) (E0 : DX), Room k (A.deeper (envOfC qual (defScope st) s.heap.objs.size f cdv)) →
      ∃ t, (∀ G : GI K, @Wish K G E0 E → @DSs (cxOf (L2.CX P w) P w K mg base N qual (defScope st) f cdv A outer s H E) G (defBody st) t) ∧ ∀ ds M Q, sp ds M Q E0 → t (bodyE K Q) (startD N ds) M) : FnOk P w K mg base (L2.CX P w) (k + 1) f fd ps (lSp K sp) :=
  FunD.ok F S (fun vs H Q E ⟨F, M, ds, Q0, E0, c, r, h, _⟩ => by rw [r.len]; exact len ds M Q0 E0 h) fun cdv A outer s H vs Q E hr ⟨F, M, ds, Q0, E0, c, r, h, p, px⟩ => by
    obtain ⟨t, h1, h2⟩ := hbody cdv A outer s H E E0 hr
    have ws : @Wish K (entryG K F H M) E0 E := by
      intro c' fs M' F' H' dd vs' q c1 h r
      have g := @Core.g K (entryG K F H M) F' H' M' c1
      exact px c' fs M' F' H' dd vs' q g.1 g.2 (@Core.toCoreP K (entryG K F H M) F' H' M' c1) h r
    exact ⟨_, h1 (entryG K F H M) ws, F, startD N ds, M, bodyE K Q0, start_env r, @Core.mk K (entryG K F H M) F H M c ⟨Same.refl F, Fr.refl⟩, h2 ds M Q0 h, @fin_ok K (entryG K F H M) F H M Q0 Q (@PostP.post K (entryG K F H M) F H M Q0 Q p)⟩
end
end DL
namespace DL
open PySem PySem.Spec PyProof.Rows L2
/-! ### a method that says super().__init__(..) first -/
abbrev supEnv (qual : Str) (sc : Scope) (L f : Addr) (cd : Value) (cc : Addr) : Env := PySem.W.ksEnv qual sc L f cd cc
def cxSup (CX : CXT) (P : Program) (w : World) (K : PySem.W.Frag) (mg : Str → Option Value) (base : Heap) (N : List Str) (qual : Str) (sc : Scope) (f : Addr) (cd : Value) (cc : Addr) (A : Around) (outer : List Env) (s : Shared) (H : Hp) (E : XK) : Cx where
  prog := P
  w := w
  K := K
  mg := mg
  base := base
  A := A.deeper (supEnv qual sc s.heap.objs.size f cd cc)
  N := N
  s_0 := s
  H_0 := H
  env := supEnv qual sc s.heap.objs.size f cd cc
  outer := outer
  stack := supEnv qual sc s.heap.objs.size f cd cc :: outer
  ex := []
  calm := true
  fn := fun _ => false
  pn := []
  xe := fun e s' => wpAny (model P w) (A.deeper (supEnv qual sc s.heap.objs.size f cd cc)) (leaving (supEnv qual sc s.heap.objs.size f cd cc) e) (fun _ s'' => CX outer H s E e s'') (fun e' s'' => CX outer H s E e' s'') s'
structure SupScope (N P : List Str) (sc : Scope) : Prop where
  kind : sc.kind = .function
  co : sc.isCoroutine = false
  gen : sc.isGenerator = false
  nd : N.Nodup
  pre : N.take P.length = P
  par : ∀ x ∈ P, sc.names.lookup x = some .local
  nocell : ∀ y ∈ sc.names, y.2 ≠ .cell
  free : ∀ y ∈ sc.names, y.2 = .free → y.1 = ("__class__" : Str)
theorem zip_keys : ∀ (ps : List Str) (us : List Value), ps.Nodup → ((ps.zip us).map (·.1)).Nodup ∧ ∀ x ∈ (ps.zip us).map (·.1), x ∈ ps
  | [], us, _ => ⟨by simp, fun x h => by simp at h⟩
  | p :: ps, [], _ => ⟨by simp, fun x h => by simp at h⟩
  | p :: ps, u :: us, h => by
    obtain ⟨h1, h2⟩ := List.nodup_cons.mp h
    obtain ⟨i1, i2⟩ := zip_keys ps us h2
    rw [List.zip_cons_cons, List.map_cons]
    exact ⟨List.nodup_cons.mpr ⟨fun z => h1 (i2 _ z), i1⟩, fun x hx => by
      rcases List.mem_cons.mp hx with rfl | hx
      · exact List.mem_cons_self
      · exact List.mem_cons_of_mem _ (i2 x hx)⟩
theorem zip_get : ∀ {ps : List Str} {us : List Value} {i : Nat} {y : Str} {u : Value}, ps.Nodup → ps[i]? = some y → us[i]? = some u → (ps.zip us).lookup y = some u
  | [], _, _, _, _, _, h, _ => by simp at h
  | _ :: _, [], _, _, _, _, _, h => by simp at h
  | p :: ps, u' :: us, 0, y, u, nd, h1, h2 => by
    simp at h1 h2; subst h1 h2
    rw [List.zip_cons_cons, List.lookup_cons]; simp
  | p :: ps, u' :: us, i + 1, y, u, nd, h1, h2 => by
    obtain ⟨n1, n2⟩ := List.nodup_cons.mp nd
    rw [List.getElem?_cons_succ] at h1 h2
    have hne : (y == p) = false := beq_eq_false_iff_ne.mpr fun e => n1 (by rw [← e]; exact List.mem_of_getElem? h1)
    rw [List.zip_cons_cons, List.lookup_cons, hne]
    exact zip_get n2 h1 h2
theorem rev_lookup {ps : List Str} {us : List Value} {i : Nat} {y : Str} {u : Value} (nd : ps.Nodup) (h1 : ps[i]? = some y) (h2 : us[i]? = some u) : (ps.zip us).reverse.lookup y = some u := by
  rw [PySem.lookup_reverse_of_nodup _ (zip_keys ps us nd).1]
  exact zip_get nd h1 h2
theorem inv_sup {CX : CXT} {P : Program} {w : World} {K : PySem.W.Frag} {mg : Str → Option Value} {base : Heap} {N ps : List Str} {qual : Str} {sc : Scope} {f cc : Addr} {cd cl v0 : Value} {cld : Option Addr} {csl : Array (Option Value)} {A : Around} {outer : List Env} {s : Shared} {H : Hp} {E : XK} {us : List Value} {vs : List V} {h1 : Heap} {tk : Nat}
    (S : SupScope N ps sc) (hd : A.handled = none) (e0 : Env0 P w K mg base A outer s H) (hl : vs.length = ps.length) (r : Vals vs us) (hcell : K.lookup cc = some ⟨cl, cld, .cell (some v0), csl⟩)
    (hns : h1.Ns s.heap.objs.size (fun x => (ps.zip us).reverse.lookup x)) (hk : ∀ b o, s.heap.get? b = some o → h1.get? b = some o) :
    Inv (cxSup CX P w K mg base N qual sc f cd cc A outer s H E) [] (start N vs) H { s with heap := h1, toks := tk } := by
  have noA : ∀ b : Addr, b ∉ (cxSup CX P w K mg base N qual sc f cd cc A outer s H E).ex := fun b z => absurd (show b ∈ ([] : List Addr) from z) (by simp)
  have hcb := e0.mod.kin _ _ hcell
  have cls : ∀ (x : Str) (c : Addr), List.lookup x [(("__class__" : Str), cc)] = some c → x = ("__class__" : Str) ∧ c = cc := fun x c h => by
    simp only [List.lookup] at h
    split at h
    · rename_i q; exact ⟨beq_iff_eq.mp q, (Option.some.inj h).symm⟩
    · cases h
  refine ⟨⟨e0.mod, S.kind, rfl, rfl, Nat.le_refl _, fun y z c a b => (cls y c a).1.trans (cls z c b).1.symm, fun y hy => ?_, fun y c h => (by cases h), fun _ => hd, Around.frames_deeper e0.frames, .inr ⟨rfl, rfl⟩, fun b z => absurd z (noA b), e0.bs, e0.bsz, fun b _ _ => noA b, fun b z => absurd z (noA b), e0.funs, e0.frf⟩,
    rfl, e0.bare, Un.kept hk, ⟨_, hns, fun i y v a b c => ?_⟩, fun y c h => ?_, e0.hok.fresh (Nat.le_refl _), fun y c h => ?_, fun p hp => absurd (show p ∈ ([] : List (Addr × Obj)) from hp) (by simp), e0.hok.kept hk, ?_⟩
  · rcases hy with hy | hy
    · exact absurd rfl (S.nocell _ (PySem.mem_of_lookup hy))
    · have e := S.free _ (PySem.mem_of_lookup hy) rfl
      exact ⟨cc, by show List.lookup y [(("__class__" : Str), cc)] = _; rw [show y = ("__class__" : Str) from e]; rfl⟩
  · have hi : i < vs.length := by
      unfold L2.start at b
      by_cases hi : i < vs.length
      · exact hi
      · rw [List.getElem?_append_right (by simpa using hi), List.getElem?_replicate] at b
        split at b <;> cases b
    have ha : vs[i]? = some v := by
      unfold L2.start at b
      rw [List.getElem?_append_left (by simpa using hi), List.getElem?_map] at b
      cases e : vs[i]? with
      | none => rw [e] at b; cases b
      | some a => rw [e] at b; cases b; rfl
    obtain ⟨u, hu, rv⟩ := r.get ha
    have hp : ps[i]? = some y := by rw [← S.pre, List.getElem?_take_of_lt (by omega)]; exact a
    have ndP : ps.Nodup := by rw [← S.pre]; exact S.nd.sublist (List.take_sublist _ _)
    exact ⟨u, rv, .inl ⟨S.par y (List.mem_of_getElem? hp), rev_lookup ndP hp hu⟩⟩
  · obtain ⟨_, rfl⟩ := cls y c h
    exact ⟨_, _, hk _ _ (e0.bs _ _ hcb).1, rfl⟩
  · obtain ⟨_, rfl⟩ := cls y c h
    exact (e0.bs _ _ hcb).2
  · have hpl : ps.length ≤ N.length := by have := congrArg List.length S.pre; rw [List.length_take] at this; omega
    unfold L2.start
    show _ = N.length
    rw [List.length_append, List.length_map, List.length_replicate]
    omega
/-- what the written part says of super().__init__ in the class at C (a ValueError) -/
structure SupC (P : Program) (K : PySem.W.Frag) (mg : Str → Option Value) (C cc cda : Addr) : Prop where
  ox : OexC K C
  cell : ∃ cl cld csl, K.lookup cc = some ⟨cl, cld, .cell (some (.ref C)), csl⟩
  code : ∃ ccl cdd vs ccs file tf, K.lookup cda = some ⟨ccl, cdd, .fields vs, ccs⟩ ∧ vs[2]? = some (.str file tf) ∧ ((P.main.file : Str) == file) = true
  sup : mg "super" = none
  top : (P.main.scope.names.lookup ("super" : Str)).isSome = false
  sub : PySem.W.mroIn K C (.ref C) = some true
  subB : PySem.W.subIn K (.ref C) (.type "ValueError") = some true
  op : PySem.W.nsIn K cStatics "thirdparty.any" = some none
  ini : PySem.W.ks_superIn K C C "__init__" = some (some (.builtin "ValueError.__init__"))
theorem sup_first {CX : CXT} {P : Program} {w : World} {K : PySem.W.Frag} {mg : Str → Option Value} {base : Heap} {N : List Str} {qual m : Str} {sc : Scope} {f cc cda a C : Addr} {A : Around} {outer : List Env} {s s1 : Shared} {H H1 : Hp} {E : XK} {σ : L2.St} {rest : List Stmt} {j : Nat}
    {p0 p1 p2 ap cp pos : Pos} {fd : FuncData} {oc : Value} {od : Option Addr} {osl : Array (Option Value)} {ar : Arg} {Q : Flow → Shared → Prop}
    (T : SupC P K mg C cc cda) (lk : K.lookup f = some ⟨oc, od, .func fd, osl⟩) (hp : (fd.params.posonlyargs ++ fd.params.args).head? = some ar)
    (hks : sc.names.lookup ("super" : Str) = some .globalImplicit) (hkc : sc.names.lookup ("__class__" : Str) = some .free) (hka : sc.names.lookup ar.arg = some .local) (hk : sc.kind = .function) (hn : N[0]? = some ar.arg)
    (I : Inv (cxSup CX P w K mg base N qual sc f (.ref cda) cc A outer s H E) [] σ H1 s1) (h0 : σ[0]? = some (some (.ref a))) (ha : H1 a = some (exo a C none))
    (hq : ∀ s', Inv (cxSup CX P w K mg base N qual sc f (.ref cda) cc A outer s H E) [] σ H1 s' → Q .next s') {pl : Sem Bool}
    (he : eval (.Call (.Attribute (.Call (.Name "super" p0) [] [] p1) "__init__" ap) [.Constant (.str m) j cp] [] pos) (supEnv qual sc s.heap.objs.size f (.ref cda) cc) = (do
      let ov ← attributeBase (.Call (.Name "super" p0) [] [] p1) "__init__" (supEnv qual sc s.heap.objs.size f (.ref cda) cc) (eval (.Call (.Name "super" p0) [] [] p1) (supEnv qual sc s.heap.objs.size f (.ref cda) cc))
      standAt ap.atName
      let (g, first) ← holding [ov] (getMethod ov "__init__" pl)
      callWith pos g first (backTo pos (starEach [.Constant (.str m) j cp] (supEnv qual sc s.heap.objs.size f (.ref cda) cc))) [])) :
    _root_.PySem.wpAt (model P w) (A.deeper (supEnv qual sc s.heap.objs.size f (.ref cda) cc)) (.func rest (supEnv qual sc s.heap.objs.size f (.ref cda) cc))
      (exec (.Expr (.Call (.Attribute (.Call (.Name "super" p0) [] [] p1) "__init__" ap) [.Constant (.str m) j cp] [] pos) p2) (supEnv qual sc s.heap.objs.size f (.ref cda) cc)) Q
      (cxSup CX P w K mg base N qual sc f (.ref cda) cc A outer s H E).xe s1 := by
  obtain ⟨cl, cld, csl, hcell⟩ := T.cell
  obtain ⟨ccl, cdd, vs, ccs, file, tf, hcode, hvs, hfile⟩ := T.code
  obtain ⟨nm, q, Nn, bs, bm, sn, sub, ab, col, dd, k0, k1, k2, k3, k5, hC, hbm⟩ := T.ox.cls
  have KX := I.kIn
  obtain ⟨t1, ho⟩ := exo_at I.hok ha
  obtain ⟨mb, hb1, hb2⟩ := I.mod.blt
  have hint : interactive (supEnv qual sc s.heap.objs.size f (.ref cda) cc) = false := by
    unfold interactive
    rw [show (supEnv qual sc s.heap.objs.size f (.ref cda) cc).scope.kind = .function from hk]
    rfl
  refine PySem.ks_wpAt_Expr_any (PySem.ks_wpAt_MethodCall (pl := pl) ?_ he) hint
  refine PySem.ks_wpAt_super_base (env := supEnv qual sc s.heap.objs.size f (.ref cda) cc) hks hkc (by decide) rfl (KX _ _ lk) rfl hp rfl (KX _ _ hcode) rfl hvs hfile T.top ?_
  refine PySem.W.ks_loadName_global hk hks (Calls.loadGlobal_builtin (env := supEnv qual sc s.heap.objs.size f (.ref cda) cc) (I.mod.glob.keeps I.bk) T.sup (hb1.keeps I.bk) ((hb2 _ (by decide +kernel)).trans (by first | rfl | kernel_rfl)) ⟨rfl, ?_⟩)
  refine wpAny_loadName_free hk hkc rfl ⟨_, KX _ _ hcell, rfl⟩ ?_
  obtain ⟨mm, hns, hlk⟩ := I.loc
  obtain ⟨u, ru, lu⟩ := hlk 0 ar.arg (.ref a) hn h0 (.inl hka)
  obtain rfl : u = Value.ref a := ru
  obtain ⟨_, hm⟩ : (supEnv qual sc s.heap.objs.size f (.ref cda) cc).kindOf ar.arg = some .local ∧ mm ar.arg = some (.ref a) := by
    rcases lu with z | ⟨z, _⟩
    · exact z
    · rcases z with z | z <;> (rw [show (cxSup CX P w K mg base N qual sc f (.ref cda) cc A outer s H E).env.kindOf ar.arg = some .local from hka] at z; cases z)
  refine wpAny_loadName_local hk hka hns hm ?_
  have hCd := KX _ _ hC
  obtain ⟨hp1, g1, d1, tk1, os1⟩ := s1
  refine PySem.ks_wpAny_isType_cls hCd rfl ⟨rfl, ?_⟩
  refine PySem.ks_wpAny_call_super hCd rfl ho rfl (fun c e => by cases e) (PySem.W.looks_mroIn KX T.sub) (fun h2 so2 k2 => ?_)
  have I2 := I.kept (t' := tk1) k2
  have KX2 := I2.kIn
  have hinst : PySem.W.Looks (model P w) h2 (isInstance (.ref a) (.type "ValueError")) true := by
    have IA : PySem.W.InstAt h2 a { cls := .ref C, data := .fields #[.ref t1, .none, .none, .none, .bool false, .none] } C none := ⟨k2 _ _ ho, rfl, rfl, trivial⟩
    exact IA.type.andThen (PySem.W.looks_subIn KX2 T.subB)
  cases hcd : PySem.W.clsIn K C with
  | none => have z := T.ini; unfold PySem.W.ks_superIn at z; rw [hcd] at z; cases z
  | some cdD =>
  have hini := T.ini
  unfold PySem.W.ks_superIn at hini
  rw [hcd] at hini
  have hne : a ≠ C := fun z => by
    rw [z] at ho
    rw [hCd] at ho
    cases ho
  refine PySem.W.kxs_getMethod PySem.W.kxs_ValueError so2 (PySem.W.looks_opaque KX2 T.op) (l₀ := cdD.mro) (fun A Q E s k q => wpAny_bind ((PySem.W.looks_clsIn KX2 hcd) A _ E s k (wpAny_pure q))) rfl KX2 hini hinst hne (by decide) ?_
  have I3 := I2.kept (t' := tk1 + 1) (h' := h2.push (PySem.W.kxs_mw "ValueError.__init__" a)) fun b o e => Heap.get?_push_of_some _ e
  have hu : (h2.push (PySem.W.kxs_mw "ValueError.__init__" a)).get? h2.objs.size = some (PySem.W.kxs_mw "ValueError.__init__" a) := Heap.get?_push_at rfl rfl
  obtain ⟨mL, hnL, _⟩ := I2.loc
  obtain ⟨oL, esL, epL, hL, _⟩ := hnL
  have hlL := Heap.lt_size hL
  have I4 : Inv (cxSup CX P w K mg base N qual sc f (.ref cda) cc A outer s H E) [(h2.objs.size, PySem.W.kxs_mw "ValueError.__init__" a)] σ H1 ⟨h2.push (PySem.W.kxs_mw "ValueError.__init__" a), g1, d1, tk1 + 1, os1⟩ :=
    I3.pins_of fun p hp => by
      rw [List.mem_singleton] at hp
      subst hp
      refine ⟨hu, I2.hok.fresh (Nat.le_refl _), Ne.symm (Nat.ne_of_lt hlL), fun hb => ?_, fun v z => by cases z⟩
      obtain ⟨_, o, e, _⟩ := I2.ok.funs.mem hb
      have h3 := Heap.lt_size e
      have h4 := I2.ok.above
      exact absurd (Nat.lt_trans (Nat.lt_of_lt_of_le h3 h4) hlL) (Nat.lt_irrefl _)
  have hargs : PA (cxSup CX P w K mg base N qual sc f (.ref cda) cc A outer s H E) [.Constant (.str m) j cp] (tCons (tC (.str m)) tNil) := pa_cons pe_str pa_nil
  have hsp := hargs.run pos _ _ σ H1 (fun vs H' => vs = [V.str m] ∧ H1 = H') I4 ⟨rfl, rfl⟩
  have hspl : starEach [.Constant (.str m) j cp] (supEnv qual sc s.heap.objs.size f (.ref cda) cc) = (false, eval (.Constant (.str m) j cp) (supEnv qual sc s.heap.objs.size f (.ref cda) cc)) :: starEach [] (supEnv qual sc s.heap.objs.size f (.ref cda) cc) := rfl
  refine PySem.W.kxs_callWith (i := "ValueError.__init__") (x := a) rfl (PySem.Calls.evalArgs_plain (wpAny_mono hsp (fun us s4 hh => ?_) fun _ _ z => z))
  obtain ⟨vs', H', I5, r5, ev, eH⟩ := hh
  subst ev eH
  obtain ⟨hu5, _⟩ := I5.pin (h2.objs.size, PySem.W.kxs_mw "ValueError.__init__" a) (by simp)
  refine ⟨hu5, ?_⟩
  have I6 : Inv (cxSup CX P w K mg base N qual sc f (.ref cda) cc A outer s H E) [] σ H1 s4 := I5.pins_of (pins' := []) fun p hp => absurd hp (by simp)
  obtain ⟨t6, ho6⟩ := exo_at I6.hok ha
  have hC6 := I6.kIn _ _ hC
  have hz : us.length ≤ sizeLine := by
    have e := Vals.length r5
    rw [← e, sizeLine_eq]; simp
  obtain ⟨h6, g6, d6, tk6, os6⟩ := s4
  show wpAny _ _ (call (.ref h2.objs.size) us) _ _ _
  refine wpAny_call (codeAny_of_tree ?_)
  show wpAny _ _ (callAny (.ref h2.objs.size) ⟨us, []⟩) _ _ _
  simp only [callAny]
  refine wpAny_bind (wpAny_load hu5 ?_)
  simp only [PySem.W.kxs_mw, show (Value.type "method-wrapper" == Value.type "method" || Value.type "method-wrapper" == Value.type "builtin_function_or_method" || Value.type "method-wrapper" == Value.type "method-wrapper") = true by decide, if_true]
  refine PySem.W.KFB.if_so (by decide) ?_
  refine wpAny_bind (PySem.W.check_bound_init F.excBase_ValueError.toExcCallFacts hC6 ho6 rfl ?_)
  refine wpAny_bind (wpAny_pure (wpAny_pure ?_))
  refine ⟨plainId_quiet F.excBase_ValueError.init.plain _, codeAny_builtin F.excBase_ValueError.initEntry ?_⟩
  refine PySem.W.exc_init_tree (cls := .ref C) (t0 := t6) (dv := none) (c2 := .none) (c3 := .none) (b4 := .bool false) ho6 hz fun h' k hx _ => ?_
  have J := I6.write (t' := tk6) (x := a) (e := a) (o := exo a C none) (by rw [ha]; exact True.intro) (.inl rfl) k ⟨_, hx⟩ (exo_ok hx)
  have eu : upd H1 a (exo a C none) = H1 := by
    funext b
    by_cases hb : b = a
    · rw [hb, upd_same, ha]
    · rw [upd_ne hb]
  rw [eu] at J
  exact hq _ J
/-- an own __init__ whose first statement is super().__init__('..') -/
theorem fn_sup {CX : CXT} {P : Program} {w : World} {K : PySem.W.Frag} {mg : Str → Option Value} {base : Heap} {N ps : List Str} {name qual m : Str} {params : Arguments} {sc : Scope} {f cc cda C : Addr} {rest : List Stmt} {k j : Nat}
    {p0 p1 p2 ap cp pos : Pos} {dV kV doc pm ct oc : Value} {an od : Option Addr} {osl : Array (Option Value)} {ar : Arg} {sp : Sp}
    (T : SupC P K mg C cc cda)
    (lk : K.lookup f = some ⟨oc, od, .func (PySem.W.ksFn name qual params (.Expr (.Call (.Attribute (.Call (.Name "super" p0) [] [] p1) "__init__" ap) [.Constant (.str m) j cp] [] pos) p2 :: rest) sc dV kV doc pm an (.ref cda) ct cc), osl⟩)
    (hcd : PySem.W.codeIn K (.ref cda) qual = true) (S : SupScope N ps sc) (hp : (params.posonlyargs ++ params.args).head? = some ar) (hps : ps.head? = some ar.arg)
    (hks : sc.names.lookup ("super" : Str) = some .globalImplicit) (hkc : sc.names.lookup ("__class__" : Str) = some .free) (len : ∀ vs H Q E, sp vs H Q E → vs.length = ps.length) (hsp : ∀ vs H Q E, sp vs H Q E → ∃ a r, vs = .ref a :: r ∧ H a = some (exo a C none))
    {pl : Sem Bool}
    (he : ∀ L : Addr, eval (.Call (.Attribute (.Call (.Name "super" p0) [] [] p1) "__init__" ap) [.Constant (.str m) j cp] [] pos) (supEnv qual sc L f (.ref cda) cc) = (do
      let ov ← attributeBase (.Call (.Name "super" p0) [] [] p1) "__init__" (supEnv qual sc L f (.ref cda) cc) (eval (.Call (.Name "super" p0) [] [] p1) (supEnv qual sc L f (.ref cda) cc))
      standAt ap.atName
      let (g, first) ← holding [ov] (getMethod ov "__init__" pl)
      callWith pos g first (backTo pos (starEach [.Constant (.str m) j cp] (supEnv qual sc L f (.ref cda) cc))) []))
    (hbody : ∀ (A : Around) (outer : List Env) (s : Shared) (H : Hp) (vs : List V) (Q : VK) (E : XK), Room k (A.deeper (supEnv qual sc s.heap.objs.size f (.ref cda) cc)) → sp vs H Q E →
      ∃ t, PSs (cxSup CX P w K mg base N qual sc f (.ref cda) cc A outer s H E) rest t ∧ t { nx := fun _ H' => Q .non H', rt := Q } (L2.start N vs) H) :
    FnOk P w K mg base CX (k + 1) f (PySem.W.ksFn name qual params (.Expr (.Call (.Attribute (.Call (.Name "super" p0) [] [] p1) "__init__" ap) [.Constant (.str m) j cp] [] pos) p2 :: rest) sc dV kV doc pm an (.ref cda) ct cc) ps sp := by
  refine ⟨len, fun A outer s H args us vs Q E hr e0 hb r hs => ?_⟩
  have hl := len _ _ _ _ hs
  obtain ⟨a, rr, ev, ha⟩ := hsp _ _ _ _ hs
  obtain ⟨cl, cld, csl, hcell⟩ := T.cell
  have KX : K.In s.heap := e0.mod.kin.keeps fun b o e => (e0.bs b o e).1
  have lim : s.heap.NoLimit := e0.mod.nolimit.keeps fun b o e => (e0.bs b o e).1
  refine PySem.ks_codeAny_call_defAt (fd := PySem.W.ksFn name qual params (.Expr (.Call (.Attribute (.Call (.Name "super" p0) [] [] p1) "__init__" ap) [.Constant (.str m) j cp] [] pos) p2 :: rest) sc dV kV doc pm an (.ref cda) ct cc)
    (body := .Expr (.Call (.Attribute (.Call (.Name "super" p0) [] [] p1) "__init__" ap) [.Constant (.str m) j cp] [] pos) p2 :: rest) (binds := ps.zip us) hr.depth (KX _ _ lk) rfl lim (PySem.W.codeRec_of KX hcd) rfl hb S.nocell (fun ⟨n, v⟩ hy => S.par n (List.of_mem_zip hy).1) (fun h1 hns hk1 => ?_) S.co S.gen S.kind
  have I := inv_sup (CX := CX) (qual := qual) (f := f) (cd := .ref cda) (E := E) (tk := s.toks + (ps.zip us).length) S hr.hd e0 hl r hcell hns hk1
  obtain ⟨t, ht, hq⟩ := hbody A outer s H vs Q E (hr.deeper _) hs
  have hN0 : N[0]? = some ar.arg := by
    have e := congrArg List.head? S.pre
    rw [hps] at e
    cases hN : N with
    | nil => rw [hN] at e; cases hps2 : ps with
      | nil => rw [hps2] at hps; cases hps
      | cons p r => rw [hps2] at e; simp at e
    | cons n0 r0 =>
      rw [hN] at e
      cases hps2 : ps with
      | nil => rw [hps2] at hps; cases hps
      | cons p r => rw [hps2] at e; simpa using e
  have hka : sc.names.lookup ar.arg = some .local := S.par _ (List.mem_of_mem_head? (by rw [hps]; rfl))
  refine PySem.ks_wpAt_execs_cons (PySem.ks_wpAt_mono (sup_first (σ := L2.start N vs) (a := a) (Q := fun fl s' => match fl with
    | .next => _root_.PySem.wpAt (model P w) (A.deeper (supEnv qual sc s.heap.objs.size f (.ref cda) cc)) (.func _ (supEnv qual sc s.heap.objs.size f (.ref cda) cc)) (execs rest (supEnv qual sc s.heap.objs.size f (.ref cda) cc)) _ _ s'
    | fl => _) T lk hp hks hkc hka S.kind hN0 I ?_ ha (fun s' I' => ?_) (he _)) (fun fl s' z => z) fun e s' z => z)
  · subst ev; rfl
  · have fin : ∀ {σ' : L2.St} {H' : Hp} {v : V} {u : Value} {s'' : Shared}, Inv (cxSup CX P w K mg base N qual sc f (.ref cda) cc A outer s H E) [] σ' H' s'' → RelV v u → Q v H' → CE outer P w H s Q u s'' :=
      fun {σ' H' v u s''} J rv q => ⟨v, H', J.os, J.bare, J.base, J.hok, rv, q⟩
    refine wpAt_of_wpAny (wpAny_mono (ht.run [] s' (L2.start N vs) H _ I' hq) (fun fl s'' hs2 => ?_) fun e s'' hs2 => hs2)
    cases fl with
    | ret u =>
      obtain ⟨v, σ', H', J, rv, q⟩ := hs2
      exact fin J rv q
    | next =>
      obtain ⟨σ', H', J, q⟩ := hs2
      exact fin (v := V.non) (u := Value.none) J rfl q
    | brk =>
      obtain ⟨_, _, _, q⟩ := hs2
      exact False.elim q
    | cont =>
      obtain ⟨_, _, _, q⟩ := hs2
      exact False.elim q
end DL
namespace DL
open PySem PySem.Spec PyProof.Rows L2
/-! ### an own exception class: super().__init__('..'), then fields -/
def tFields (K : PySem.W.Frag) : List (Str × TE) → TS
  | [] => tNext
  | (f, te) :: r => tSeq (tOst K f (tVar 0) te) (tFields K r)
abbrev FV := Str × TE × V
def FV.st (l : List FV) : List (Str × TE) := l.map fun x => (x.1, x.2.1)
def FV.fs (l : List FV) : List (Str × V) := (l.map fun x => (x.1, x.2.2)).reverse
theorem FV.fs_cons (x : FV) (l : List FV) : FV.fs (x :: l) = FV.fs l ++ [(x.1, x.2.2)] := by unfold FV.fs; rw [List.map_cons, List.reverse_cons]
theorem ost_more {K : PySem.W.Frag} {C a d : Addr} (T : OexC K C) (hd : a ≠ d) {σ : L2.St} (h0 : σ[0]? = some (some (.ref a))) : ∀ (l : List FV) (acc : List (Str × V)) (H : Hp) (E : Ends), (∀ x ∈ l, PySem.W.findIn K (.ref C) x.1 = some none ∧ ∀ H Q, Q x.2.2 H → x.2.1 σ H Q) → acc.length + l.length ≤ 900 →
    H a = some (exo a C (some d)) → H d = some (exd d acc) → (∀ H2, H2 a = some (exo a C (some d)) → H2 d = some (exd d (FV.fs l ++ acc)) → (∀ b, b ≠ a → b ≠ d → H2 b = H b) → E.nx σ H2) → tFields K (FV.st l) E σ H
  | [], acc, H, E, _, _, ha, he, q => q H ha he fun _ _ _ => rfl
  | (f, te, v) :: l, acc, H, E, hl, hz, ha, he, q => by
    obtain ⟨h1, h2⟩ := hl _ List.mem_cons_self
    simp only [List.length_cons] at hz
    refine h2 H _ ⟨_, h0, a, C, rfl, T, h1, .inr ⟨d, acc, ha, he, by omega, ?_⟩⟩
    refine ost_more T hd h0 l ((f, v) :: acc) _ E (fun x hx => hl x (List.mem_cons_of_mem _ hx)) (by simp only [List.length_cons]; omega) (by rw [upd_ne hd]; exact ha) upd_same fun H2 e1 e2 e3 => q H2 e1 ?_ fun b n1 n2 => ?_
    · rw [e2, FV.fs_cons, List.append_assoc]; rfl
    · rw [e3 b n1 n2, upd_ne n2]
/-- what __init__ of such a class keeps: self at a, the values us; its fields g us -/
def spE (C : Addr) (g : List V → List (Str × V)) (n : Nat) : Sp := fun vs H Q _ => ∃ a us, vs = .ref a :: us ∧ us.length = n ∧ H a = some (exo a C none) ∧
  ∀ d H2, H d = none → d ≠ a → H2 a = some (exo a C (some d)) → H2 d = some (exd d (g us)) → (∀ b, b ≠ a → b ≠ d → H2 b = H b) → Q .non H2
theorem ost_all {K : PySem.W.Frag} {C a : Addr} (T : OexC K C) {σ : L2.St} (h0 : σ[0]? = some (some (.ref a))) (x : FV) (l : List FV) (H : Hp) (E : Ends) (hl : ∀ y ∈ x :: l, PySem.W.findIn K (.ref C) y.1 = some none ∧ ∀ H Q, Q y.2.2 H → y.2.1 σ H Q) (hz : l.length ≤ 800)
    (ha : H a = some (exo a C none)) (q : ∀ d H2, H d = none → d ≠ a → H2 a = some (exo a C (some d)) → H2 d = some (exd d (FV.fs (x :: l))) → (∀ b, b ≠ a → b ≠ d → H2 b = H b) → E.nx σ H2) : tFields K (FV.st (x :: l)) E σ H := by
  obtain ⟨f, te, v⟩ := x
  obtain ⟨h1, h2⟩ := hl _ List.mem_cons_self
  refine h2 H _ ⟨_, h0, a, C, rfl, T, h1, .inl ⟨ha, fun d hd hda => ?_⟩⟩
  refine ost_more T (Ne.symm hda) h0 l [(f, v)] _ E (fun y hy => hl y (List.mem_cons_of_mem _ hy)) (by simp only [List.length_cons, List.length_nil]; omega) upd_same (by rw [upd_ne hda]; exact upd_same) fun H2 e1 e2 e3 => q d H2 hd hda e1 (by rw [e2, FV.fs_cons]) fun b n1 n2 => ?_
  rw [e3 b n1 n2, upd_ne n1, upd_ne n2]
/-- C(e, ..) as an exception that is made -/
theorem mk_spE {P : Program} {w : World} {K : PySem.W.Frag} {mg : Str → Option Value} {base : Heap} {k n : Nat} {x : Str} {C fI : Addr} {fd : FuncData} {ps : List Str} {g : List V → List (Str × V)} {gd : List D → List (Str × D)} (T : OexC K C) (iC : PySem.W.findIn K (.ref C) "__init__" = some (some (.ref fI))) (tI : PySem.W.typeIn K (.ref fI) = some (.type "function"))
    (F1 : FnOk P w K mg base CX0 k fI fd ps (spE C g n)) (hb : Binds K fd ps []) (hm : mg x = some (.ref C)) (hn : n ≤ 1000) (hdb : (x == ("__debug__" : Str)) = false) (fs : FsD g gd n) : CalE P w K mg base (k + 1) x C g gd n := by
  refine ⟨fun {X p pos e es ta} e1 e2 e3 e4 e5 hr hg ha he hpl => ?_, fs⟩
  subst e1 e2 e3 e4 e5
  intro pins s σ H Q I h
  have ha' : PA X (e :: es) (fun σ H Q => ∃ Q0, ta σ H Q0 ∧ ∀ vs H1, Q0 vs H1 → Q vs H1) :=
    ⟨fun pos pins s σ H Q I ⟨Q0, h, mo⟩ => wpAny_mono (ha.run pos pins s σ H Q0 I h) (fun us s1 ⟨vs, H1, I1, r, q⟩ => ⟨vs, H1, I1, r, mo _ _ q⟩) fun _ _ z => z⟩
  refine pmk_oex T iC tI F1 hr hb .nil pass0 hg hm ha' hdb he hpl pins s σ H Q I ⟨_, h, fun vs H1 ⟨hl, q⟩ => ⟨by omega, fun a na => ⟨a, vs, by rw [List.append_nil], hl, upd_same, fun d H2 hd hda e1 e2 e3 => ⟨rfl, d, g vs, e1, e2, ?_, ?_⟩⟩⟩⟩
  · rw [upd_ne hda] at hd; exact hd
  · rw [upd_ne hda] at hd
    have e : upd (del H2 a) d (.xd (g vs)) = upd H1 d (.xd (g vs)) := by
      funext b
      by_cases h1 : b = d
      · rw [h1, upd_same, upd_same]
      · rw [upd_ne h1, upd_ne h1]
        by_cases h2 : b = a
        · rw [h2, del_same, na]
        · rw [del_ne h2, e3 b h2 h1, upd_ne h2]
    rw [e]
    exact q d hd
end DL
namespace DL
open PySem PySem.Spec PyProof.Rows L2
/-! ### the head's facts of an own exception class -/
/-- what is asked of a class under ValueError -/
def oexB (K : PySem.W.Frag) (C : Addr) : Bool := (match K.lookup C with
  | some ⟨.type "type", _, .cls cd, sl⟩ => (match cd.mro, sl.toList with
    | .ref C' :: bm, [_, _, _, _, some (.builtin n), _] => decide (C' = C) && decide (n = "ValueError.__new__") && !cd.hasDel && cd.hasDict && PySem.HandSPX.refsVE bm
    | _, _ => false)
  | _ => false) && He.eqO (PySem.W.findIn K (.ref C) "__setattr__") (some (some (.builtin "object.__setattr__"))) && decide (PySem.W.subIn K (.ref C) (.type "BaseException") = some true) && decide (PySem.W.typeIn K (.ref C) = some (.type "type")) && PySem.W.keepIn K (.ref C)
theorem oex_ok {K : PySem.W.Frag} {C : Addr} (h : oexB K C = true) : OexC K C := by
  unfold oexB at h
  obtain ⟨h, h5⟩ := He.ba h
  obtain ⟨h, h4⟩ := He.ba h
  obtain ⟨h, h3⟩ := He.ba h
  obtain ⟨h, h2⟩ := He.ba h
  refine ⟨?_, He.eqO_ok h2, of_decide_eq_true h3, of_decide_eq_true h4, h5⟩
  split at h
  · rename_i dd cd sl ho
    split at h
    · rename_i C' bm k0 k1 k2 k3 n k5 hm hs
      simp only [Bool.and_eq_true, Bool.not_eq_true', decide_eq_true_eq] at h
      obtain ⟨⟨⟨⟨rfl, rfl⟩, hdel⟩, hdict⟩, hr⟩ := h
      obtain ⟨nm, bs, mro, ns, qn, hd, sn, sub, ab, col, del⟩ := cd
      dsimp only at hm hdel hdict
      subst hm hdel hdict
      have hsl : sl = #[k0, k1, k2, k3, some (.builtin "ValueError.__new__"), k5] := by
        obtain ⟨l⟩ := sl
        simp only at hs
        rw [hs]
      subst hsl
      exact ⟨nm, qn, ns, bs, bm, sn, sub, ab, col, dd, k0, k1, k2, k3, k5, ho, hr⟩
    · cases h
  · cases h
/-- the class of the name x, its own __init__ -/
structure ExD where
  cls : Str
  params : Arguments
  body : List Stmt
  scope : Scope
  fields : List Str
def ExD.C (K : PySem.W.Frag) (d : ExD) : Addr := He.ga K d.cls
def ExD.f (K : PySem.W.Frag) (d : ExD) : Addr := He.ma K (He.ga K d.cls) "__init__"
abbrev FnC : Type := Option (Str × Str × Arguments × FuncBody × Scope × Addr × Addr × Value)
def fnC (K : PySem.W.Frag) (f : Addr) : FnC := match K.lookup f with
  | some ⟨_, _, .func fd, _⟩ => some (fd.name, fd.qualname, fd.params, fd.body, fd.scope, fd.globals, fd.builtins, fd.defaults)
  | _ => none
def ExD.val (d : ExD) : FnC := some ("__init__", d.cls ++ ".__init__", d.params, .stmts d.body, d.scope, mainGlobals, builtinsNs, .none)
/-- .. over the closure's cell and the code's file -/
def supB (P : Program) (K : PySem.W.Frag) (C f : Addr) (qual : Str) : Bool := match K.lookup f with
  | some ⟨_, _, .func fd, _⟩ => (match fd.closure, fd.code with
    | [(x, cc)], .ref cda => decide (x = ("__class__" : Str)) && (match K.lookup cc with
        | some ⟨_, _, .cell (some (.ref D)), _⟩ => decide (D = C)
        | _ => false) && (match K.lookup cda with
        | some ⟨_, _, .fields vs, _⟩ => (match vs[2]? with
          | some (Value.str file _) => (P.main.file : Str) == file
          | _ => false)
        | _ => false) && PySem.W.codeIn K (.ref cda) qual
    | _, _ => false)
  | _ => false
def ExD.ok (P : Program) (K : PySem.W.Frag) (d : ExD) : Bool := oexB K (d.C K) && supB P K (d.C K) (d.f K) (d.cls ++ ".__init__") && He.eqO (PySem.W.nsIn K mainGlobals d.cls) (some (some (.ref (d.C K)))) && He.eqO (PySem.W.nsIn K mainGlobals "super") (some none) && !(P.main.scope.names.lookup ("super" : Str)).isSome
  && decide (PySem.W.mroIn K (d.C K) (.ref (d.C K)) = some true) && decide (PySem.W.subIn K (.ref (d.C K)) (.type "ValueError") = some true) && He.eqO (PySem.W.nsIn K cStatics "thirdparty.any") (some none)
  && decide (PySem.W.ks_superIn K (d.C K) (d.C K) "__init__" = some (some (.builtin "ValueError.__init__"))) && He.eqO (PySem.W.findIn K (.ref (d.C K)) "__init__") (some (some (.ref (d.f K)))) && decide (PySem.W.typeIn K (.ref (d.f K)) = some (.type "function"))
  && d.fields.all fun x => He.eqO (PySem.W.findIn K (.ref (d.C K)) x) (some none)
/-- what is known of such a class -/
structure ExK (P : Program) (K : PySem.W.Frag) (mg : Str → Option Value) (d : ExD) (fd : FuncData) : Prop where
  ex : ∃ (oc : Value) (od : Option Addr) (osl : Array (Option Value)) (kV doc pm ct : Value) (an : Option Addr) (cda cc : Addr), fd = PySem.W.ksFn "__init__" (d.cls ++ ".__init__") d.params d.body d.scope .none kV doc pm an (.ref cda) ct cc ∧
    K.lookup (d.f K) = some ⟨oc, od, .func fd, osl⟩ ∧ PySem.W.codeIn K (.ref cda) (d.cls ++ ".__init__") = true ∧ SupC P K mg (d.C K) cc cda
  ox : OexC K (d.C K)
  g : mg d.cls = some (.ref (d.C K))
  ini : PySem.W.findIn K (.ref (d.C K)) "__init__" = some (some (.ref (d.f K)))
  ty : PySem.W.typeIn K (.ref (d.f K)) = some (.type "function")
  no : ∀ x ∈ d.fields, PySem.W.findIn K (.ref (d.C K)) x = some none
theorem exk_of {P : Program} {K : PySem.W.Frag} {h : Heap} {mg : Str → Option Value} {d : ExD} (X : K.In h) (G : h.Ns mainGlobals mg) (e : fnC K (d.f K) = d.val) (c : d.ok P K = true) : ∃ fd, ExK P K mg d fd := by
  unfold ExD.ok at c
  obtain ⟨c, c11⟩ := He.ba c
  obtain ⟨c, c10⟩ := He.ba c
  obtain ⟨c, c9⟩ := He.ba c
  obtain ⟨c, c8⟩ := He.ba c
  obtain ⟨c, c7⟩ := He.ba c
  obtain ⟨c, c6⟩ := He.ba c
  obtain ⟨c, c5⟩ := He.ba c
  obtain ⟨c, c4⟩ := He.ba c
  obtain ⟨c, c3⟩ := He.ba c
  obtain ⟨c, c2⟩ := He.ba c
  obtain ⟨c, c1⟩ := He.ba c
  have ox := oex_ok c
  unfold supB at c1
  unfold fnC at e
  cases q : K.lookup (d.f K) with
  | none => rw [q] at c1; cases c1
  | some o =>
    obtain ⟨oc, od, dt, osl⟩ := o
    rw [q] at c1 e
    cases dt with
    | func fd =>
      obtain ⟨n1, n2, n3, n4, n5, n6, n7, n8, n9, n10, n11, n12, n13, n14, n15⟩ := fd
      have e2 : (some (n1, n2, n3, n4, n5, n6, n15, n8) : FnC) = some (("__init__" : Str), d.cls ++ ".__init__", d.params, FuncBody.stmts d.body, d.scope, mainGlobals, builtinsNs, Value.none) := e
      simp only [Option.some.injEq, Prod.mk.injEq] at e2
      obtain ⟨h1, h2, h3, h4, h5, h6, h7, h8⟩ := e2
      subst h1 h2 h3 h4 h5 h6 h7 h8
      dsimp only at c1
      split at c1
      · rename_i x cc cda
        obtain ⟨c1, k4⟩ := He.ba c1
        obtain ⟨c1, k3⟩ := He.ba c1
        obtain ⟨k1, k2⟩ := He.ba c1
        have ex : x = ("__class__" : Str) := of_decide_eq_true k1
        subst ex
        have cell : ∃ cl cld csl, K.lookup cc = some ⟨cl, cld, .cell (some (.ref (d.C K))), csl⟩ := by
          split at k2
          · rename_i a1 a2 D a3 ho
            have : D = d.C K := of_decide_eq_true k2
            subst this
            exact ⟨_, _, _, ho⟩
          · cases k2
        have code : ∃ ccl cdd vs ccs file tf, K.lookup cda = some ⟨ccl, cdd, .fields vs, ccs⟩ ∧ vs[2]? = some (.str file tf) ∧ ((P.main.file : Str) == file) = true := by
          split at k3
          · rename_i a1 a2 vs a3 ho
            split at k3
            · rename_i file tf hv
              exact ⟨_, _, _, _, file, tf, ho, hv, k3⟩
            · cases k3
          · cases k3
        exact ⟨_, ⟨oc, od, osl, n9, n10, n11, n14, n12, cda, cc, rfl, q, k4, ⟨ox, cell, code, PySem.W.mg_none_of X G (He.eqO_ok c3), by simpa using c4, of_decide_eq_true c5, of_decide_eq_true c6, He.eqO_ok c7, of_decide_eq_true c8⟩⟩, ox, PySem.W.mg_of X G (He.eqO_ok c2), He.eqO_ok c9, of_decide_eq_true c10,
          fun x hx => He.eqO_ok (List.all_eq_true.mp c11 x hx)⟩
      · cases c1
    | _ => cases c1
end DL
namespace DL
open PySem PySem.Spec PyProof.Rows L2
/-! ### the head's Hook with exception classes -/
abbrev AlX : Type := He.AlD × Bool × List FnC
def obsX (P : Program) (fa : List He.Fa) (fn : List He.DefD) (ex : List ExD) (K : PySem.W.Frag) : AlX := (He.obsD fa fn K, ex.all fun d => d.ok P K, ex.map fun d => fnC K (d.f K))
def valX (fn : List He.DefD) (ex : List ExD) : AlX := (He.valD fn, true, ex.map ExD.val)
def SaysX (P : Program) (fa : List He.Fa) (fn : List He.DefD) (ex : List ExD) (K : PySem.W.Frag) : Prop := obsX P fa fn ex K = valX fn ex
def obsXG (P : Program) (n : Nat) (fa : List He.Fa) (fn : List He.DefD) (ex : List ExD) (g : Addr → Option Obj) : AlX := obsX P fa fn ex (He.frG g (He.asD g n))
def hookX (P : Program) (n : Nat) (fa : List He.Fa) (fn : List He.DefD) (ex : List ExD) : PySem.W.Hook where
  α := AlX
  obs := fun s => obsXG P n fa fn ex s.heap.get?
  val := fun _ => valX fn ex
  says := fun _ h => ∃ K : PySem.W.Frag, K.In h ∧ SaysX P fa fn ex K
  of := fun _ _ e => ⟨_, He.frG_in, e⟩
  keeps := fun _ _ _ ⟨K, hK, c⟩ k => ⟨K, PySem.W.Frag.In.keeps hK k, c⟩
theorem obsXG_eq {P : Program} {n : Nat} {fa : List He.Fa} {fn : List He.DefD} {ex : List ExD} {g : Addr → Option Obj} {s : Shared} (h : ∀ a, g a = s.heap.get? a) : obsXG P n fa fn ex g = (hookX P n fa fn ex).obs s := by
  have e : g = s.heap.get? := funext h
  rw [e] <;> rfl
section
variable {P : Program} {fa : List He.Fa} {fn : List He.DefD} {ex : List ExD} {K : PySem.W.Frag}
theorem SaysX.d (c : SaysX P fa fn ex K) : He.SaysD fa fn K := congrArg (fun z : AlX => z.1) c
theorem SaysX.exk (c : SaysX P fa fn ex K) {h : Heap} {mg : Str → Option Value} (X : K.In h) (G : h.Ns mainGlobals mg) (i : Nat) {d : ExD} (e : ex[i]? = some d := by rfl) : ∃ fd, ExK P K mg d fd := by
  have c1 : (ex.all fun d => d.ok P K) = true := congrArg (fun z : AlX => z.2.1) c
  have c2 : (ex.map fun d => fnC K (d.f K)) = ex.map ExD.val := congrArg (fun z : AlX => z.2.2) c
  have e2 : (ex.map fun d => fnC K (d.f K))[i]? = (ex.map ExD.val)[i]? := by rw [c2]
  rw [List.getElem?_map, List.getElem?_map, e] at e2
  exact exk_of X G (Option.some.inj e2) (List.all_eq_true.mp c1 d (List.mem_of_getElem? e))
end
theorem repF_nil {K : PySem.W.Frag} {F : Hp} : RepF K F [] [] := by rw [RepF]
theorem repF_cons {K : PySem.W.Frag} {F : Hp} {n : Str} {d : D} {v : V} {ds : List (Str × D)} {vs : List (Str × V)} (h : Rep K F d v) (r : RepF K F ds vs) : RepF K F ((n, d) :: ds) ((n, v) :: vs) := by
  rw [RepF]
  exact ⟨_, _, rfl, by rw [RepP]; exact ⟨rfl, h⟩, r⟩
/-- the scope of an __init__ that says super() -/
def supScB (N P : List Str) (sc : Scope) : Bool := decide (N.Nodup) && decide (N.take P.length = P) && P.all (fun x => decide (sc.names.lookup x = some .local)) && sc.names.all (fun y => decide (y.2 ≠ .cell) && (decide (y.2 ≠ .free) || decide (y.1 = ("__class__" : Str))))
theorem supSc {N P : List Str} {sc : Scope} (h1 : sc.kind = .function) (h2 : sc.isCoroutine = false) (h3 : sc.isGenerator = false) (h : supScB N P sc = true) : SupScope N P sc := by
  unfold supScB at h
  obtain ⟨h, h7⟩ := He.ba h
  obtain ⟨h, h6⟩ := He.ba h
  obtain ⟨h4, h5⟩ := He.ba h
  refine ⟨h1, h2, h3, of_decide_eq_true h4, of_decide_eq_true h5, fun x hx => of_decide_eq_true (List.all_eq_true.mp h6 x hx), fun y hy => ?_, fun y hy e => ?_⟩
  · exact of_decide_eq_true (He.ba (List.all_eq_true.mp h7 y hy)).1
  · have := (He.ba (List.all_eq_true.mp h7 y hy)).2
    rw [Bool.or_eq_true] at this
    rcases this with z | z
    · exact absurd e (of_decide_eq_true z)
    · exact of_decide_eq_true z
end DL
namespace DL
open PySem PySem.Spec PyProof.Rows L2
/-! ### f(a, *r) -/
/-- the promise as the caller sees it: the star's values laid as one tuple -/
def spV (nmax : Nat) (sp : DSp) : DSp := fun ds M Q E0 => ∃ d rest, ds = d :: rest ∧ rest.length ≤ nmax ∧ sp [d, .tup rest] M Q E0
section
variable {P : Program} {w : World} {K : PySem.W.Frag} {mg : Str → Option Value} {base : Heap} {kws : List (Str × V)}
theorem cxNew {P : Program} {w : World} : CXNew (L2.CX P w) := by
  intro outer s H h2 p rest E e s' k hz hn c
  refine StX.cxUp outer s H { s with heap := h2 } (upd H p (.tup rest)) E e s' (Un.laid k hz hn) k rfl c
theorem dfunXV {x qual pa pv : Str} {st : Stmt} {f : Addr} {fd : FuncData} {N : List Str} {k nmax : Nat} {sp : DSp} (F : FnD K x qual st [] kws f fd) (S : FnScope N [pa, pv] (defScope st)) (hz : nmax ≤ sizeLine)
    (hb : ∀ (kV doc pm : Value) (an : Option Addr) (cdv ct : Value) (u : Value) (rest : List Value), rest.length ≤ nmax → bindArgs (PySem.W.fnOf x qual (defArgs st) (defBody st) (defScope st) .none kV doc pm an cdv ct) ⟨u :: rest, []⟩ = (newTuple rest >>= fun t => pure [(pa, u), (pv, t)]))
    (hbody : ∀ (cdv : Value) (A : Around) (outer : List Env) (s : Shared) (H : Hp) (E : XK) (E0 : DX), Room k (A.deeper (envOfC qual (defScope st) s.heap.objs.size f cdv)) →
      ∃ t, (∀ G : GI K, @Wish K G E0 E → @DSs (cxOf (L2.CX P w) P w K mg base N qual (defScope st) f cdv A outer s H E) G (defBody st) t) ∧ ∀ ds M Q, sp ds M Q E0 → t (bodyE K Q) (startD N ds) M) : FnR P w K mg base (L2.CX P w) (k + 1) f (lSp K (spV nmax sp)) := by
  obtain ⟨oc, od, dV, kV, doc, pm, an, cdv, ct, osl, rfl, lk, hcd, hD, _⟩ := F.ex
  have e : dV = .none := by
    rcases hD with ⟨_, e⟩ | ⟨e, _⟩
    · exact e
    · exact absurd rfl e
  subst e
  refine FnR.imp (fn_ofV (sp := lSp K sp) lk hcd S hz (hb kV doc pm an cdv ct) cxNew fun A outer s H vs Q E hr ⟨F, M, ds, Q0, E0, c, r, h, p, px⟩ => ?_) fun vs H Q E ⟨F, M, ds, Q0, E0, c, r, ⟨d, rest, e1, e2, h⟩, p, px⟩ => ?_
  · obtain ⟨t, h1, h2⟩ := hbody cdv A outer s H E E0 hr
    have ws : @Wish K (entryG K F H M) E0 E := by
      intro c' fs M' F' H' dd vs' q c1 h r
      have g := @Core.g K (entryG K F H M) F' H' M' c1
      exact px c' fs M' F' H' dd vs' q g.1 g.2 (@Core.toCoreP K (entryG K F H M) F' H' M' c1) h r
    exact ⟨_, h1 (entryG K F H M) ws, F, startD N ds, M, bodyE K Q0, start_env r, @Core.mk K (entryG K F H M) F H M c ⟨Same.refl F, Fr.refl⟩, h2 ds M Q0 h, @fin_ok K (entryG K F H M) F H M Q0 Q (@PostP.post K (entryG K F H M) F H M Q0 Q p)⟩
  · subst e1
    rw [Reps] at r
    obtain ⟨v, vr, e3, r1, r2⟩ := r
    refine ⟨v, vr, e3, by rw [r2.len]; exact e2, fun p hp => ?_⟩
    obtain ⟨c1, s1, f1⟩ := c.new hp (.tup vr)
    exact ⟨_, M, [d, .tup rest], Q0, E0, c1, Reps.cons (r1.mono s1) (Reps.one (by rw [Rep]; exact ⟨p, vr, rfl, .inl (.inl upd_same), r2.mono s1⟩)), h,
      fun d' M' F' H' v' q s f c' r' => ‹PostP K F H M Q0 Q› d' M' F' H' v' q (s1.trans s) (f1.trans f) c' r', px.after s1 f1⟩
structure CalXV (P : Program) (w : World) (K : PySem.W.Frag) (mg : Str → Option Value) (base : Heap) (k : Nat) (x : Str) (sp : DSp) (f : Addr) : Prop where
  fn : FnR P w K mg base (L2.CX P w) k f (lSp K sp)
  g : mg x = some (.ref f)
  kp : PySem.W.keepIn K (.ref f) = true
end
section
variable {X : Cx} {GX : GI X.K} {E : XK} {E0 : DX} {x : Str} {k : Nat} {p pos : Pos} {e : Expr} {es : List Expr} {tr : DTA} {f : Addr} {sp : DSp}
theorem de_callXV (G : CalXV X.prog X.w X.K X.mg X.base k x sp f) (ws : Wish X.K E0 E) (hr : Room k X.A) (ha : DA X (e :: es) tr) (tk : L2.Takes X (WE E) := by exact L2.takes_of rfl rfl rfl rfl) (hg : Gl X x := by rfl)
    (hdb : (x == ("__debug__" : Str)) = false := by decide) (he : starEach (e :: es) X.env = (false, eval e X.env) :: starEach es X.env := by rfl) (hpl : (backTo pos (starEach es X.env)).any (·.1) = false := by rfl) : DE X (.Call (.Name x p) (e :: es) [] pos) (dCallX E0 sp tr) := by
  have h : PE X (.Call (.Name x p) (e :: es) [] pos) (tCall (lSp X.K sp) [] E (lA X.K tr)) := by
    refine ⟨fun pins s σ H Q I h => ?_⟩
    refine wpAny_Call_Name_kw (ld_glob I hg G.g ?_ hdb)
    refine PySem.W.callWith_K (h₀ := X.base) I.ok.mod.kin G.kp (thn (ha.run pos pins s σ H _ I h) fun us s1 ⟨vs, H1, I1, r, q⟩ => ⟨I1.kIn, ?_⟩) he hpl
    have q' : lSp X.K sp vs H1 Q E := by rw [← List.append_nil vs]; exact q
    exact wpAny_call (run_fnR G.fn hr (L2.passes_call tk fun _ _ _ _ h => h) I1 r q')
  exact PE.imp h (l_callX ws)
end
end DL
namespace PySem
/-! enumerate(t), t a tuple -/
theorem dl_enum_newT (t : Addr) (items : Array Value) : Meets (Builtin.«enumerate.__new__» ⟨[.type "enumerate", .ref t], []⟩) (fun _ R s => s.heap.IsTuple t items ∧
      R (.ok (.ret (.ref (s.heap.push ({ cls := .type "tuple_iterator", data := .fields #[.ref t, .int 0 0] } : Obj)).objs.size))) { s with heap := (s.heap.push ({ cls := .type "tuple_iterator", data := .fields #[.ref t, .int 0 0] } : Obj)).push { cls := .type "enumerate", data := .fields #[.none, .bool false, .ref s.heap.objs.size, rawInt 0, .none, .none] } }) :=
  .of_wp fun prog w A R s h => by
    obtain ⟨hp, g, d, tk, os⟩ := s; obtain ⟨h1, h⟩ := h
    have hsub := sub_enumerate
    have q1 : ∀ {A' : Around} {E : Value → Shared → Prop} {Q : Value → Shared → Prop}, Q (.ref hp.objs.size) ⟨hp.push ({ cls := .type "tuple_iterator", data := .fields #[.ref t, .int 0 0] } : Obj), g, d, tk, os⟩ → wpAny (model prog w) A' (pyIter (.ref t)) Q E ⟨hp, g, d, tk, os⟩ :=
      fun q => (begins_tuple t items).iter prog w _ _ ⟨hp, g, d, tk, os⟩ _ h1 q
    wp_walk using q1
    refine wpAny_stack_any fun st => wpAny_pure ?_
    split
    · rename_i c _ _ _ _ _
      cases (c == Value.type "enumerate")
      · wp_walk using q1
        exact ⟨_, rfl, h⟩
      · wp_walk using q1
        exact ⟨_, rfl, h⟩
    · wp_walk using q1
      exact ⟨_, rfl, h⟩
theorem dl_call_enumT {prog : Program} {w : World} {A : Around} {E : Value → Shared → Prop} {s : Shared} {t : Addr} {items : Array Value} {Q : Value → Shared → Prop} (h1 : s.heap.IsTuple t items)
    (h : ∀ h', IsEnum h' (s.heap.objs.size + 1) s.heap.objs.size 0 .none → h'.IsTupleIter s.heap.objs.size t 0 → (∀ b o, s.heap.get? b = some o → h'.get? b = some o) → Q (.ref (s.heap.objs.size + 1)) { s with heap := h' }) :
    wpAny (model prog w) A (call (.type "enumerate") [.ref t]) Q E s := by
  refine callType_new F.called_enumerate (by decide) (F.typeCall_enumerate_1 _) (F.newCall_enumerate_1 _) (fun obj => F.args_object_init_2 obj _) F.entry_enumerate_new (dl_enum_newT t items) ⟨h1, ?_⟩
  have hz : (s.heap.push ({ cls := .type "tuple_iterator", data := .fields #[.ref t, .int 0 0] } : Obj)).objs.size = s.heap.objs.size + 1 := Heap.size_push ..
  show _ ∧ _
  rw [hz]
  have he : IsEnum ((s.heap.push ({ cls := .type "tuple_iterator", data := .fields #[.ref t, .int 0 0] } : Obj)).push { cls := .type "enumerate", data := .fields #[.none, .bool false, .ref s.heap.objs.size, rawInt 0, .none, .none] }) (s.heap.objs.size + 1) s.heap.objs.size 0 .none := by
    have := Heap.get?_push_size (s.heap.push ({ cls := .type "tuple_iterator", data := .fields #[.ref t, .int 0 0] } : Obj)) (o := { cls := .type "enumerate", data := .fields #[.none, .bool false, .ref s.heap.objs.size, rawInt 0, .none, .none] }) rfl
    rw [hz] at this; exact this
  exact ⟨⟨_, he, rfl⟩, h _ he ⟨_, Heap.get?_push_of_some _ (Heap.get?_push_size _ rfl), rfl, rfl⟩ fun b o x => Heap.get?_push_of_some _ (Heap.get?_push_of_some _ x)⟩
theorem dl_enum_endT {prog : Program} {w : World} {A : Around} {E : Value → Shared → Prop} {s : Shared} {e it t : Addr} {i : Nat} {items : Array Value} {old : Value} {Q : Option Value → Shared → Prop} (hh : A.handled = none)
    (he : IsEnum s.heap e it i old) (hit : s.heap.IsTupleIter it t i) (ht : s.heap.IsTuple t items) (hx : items[i]? = none)
    (hQ : ∀ h', Heap.ExtBut it s.heap h' → Q none { s with heap := h' }) : wpAny (model prog w) A (pyNext (.ref e)) Q E s := by
  have hT : s.TypeIs (.ref e) "enumerate" := ⟨_, he, rfl⟩
  unfold pyNext
  refine wpAny_bind (wpAny_attempt (wpAny_callSpecial?_slot (name := Str.ofString "__next__") hT F.slot_enumerate_next (wpAny_call_entry F.slot_enumerate_next hT F.entry_enumerate_next ?_ (F.args_enumerate_next_1 _))))
  show wpAny _ _ (field (.ref e) 2 >>= _) _ _ _
  refine wpAny_bind (wpAny_field he rfl (x := .ref it) rfl ?_)
  refine wpAny_bind (wpAny_nextOf_tuple_end (A := A.in1) hh hit ht hx fun h' x he' hx' => ?_)
  obtain ⟨o, ho, hc⟩ := hx'
  refine wpAny_bind (wpAny_isInstance (T := "StopIteration") (b := true) ⟨o, ho, hc⟩ isSubtype_stop ?_)
  exact wpAny_pure (hQ _ he')
end PySem
namespace DL
open PySem PySem.Spec PyProof.Rows L2
def IteT (K : PySem.W.Frag) (a : Addr) : It :=
  ⟨fun i H => ∃ (xs : List V) (x : V), SqT K H a xs ∧ xs[i]? = some x, fun i H v H' => ∃ T x, v = .ref T ∧ H T = none ∧ H' = upd H T (.tup [.int (i : Nat), x]) ∧ ∀ xs, SqT K H a xs → xs[i]? = some x, fun i H => ∃ xs : List V, SqT K H a xs ∧ xs.length ≤ i⟩
theorem turn_enumT {P : Program} {w : World} {K : PySem.W.Frag} {elts : List Expr} {kk : Nat} {tpos : Pos} (a e it : Addr) :
    Turn P w K (.Tuple elts kk tpos) (IteT K a) [e, it] e (fun i h => (∃ old, IsEnum h e it ((i : Nat) : Int) old) ∧ h.IsTupleIter it a i ∧ e ≠ it) where
  mem := by simp
  obj := fun i h st b hb => by
    obtain ⟨⟨old, he⟩, ⟨o, ho, hc, hd⟩, _⟩ := st
    have e' : b = e ∨ b = it := by simpa using hb
    rcases e' with z | z
    · rw [z]; exact ⟨_, he, fun v q => nomatch q⟩
    · rw [z]; exact ⟨o, ho, fun v q => by rw [hd] at q; cases q⟩
  keep := fun i h h' st k => let ⟨⟨old, he⟩, hi, hne⟩ := st; ⟨⟨old, k e (by simp) _ he⟩, hi.at fun o q => k it (by simp) o q, hne⟩
  item := by
    intro X hP hw hK hc i pins s σ H E I hf st hg
    subst hP hw hK
    obtain ⟨⟨old, he⟩, hit, hne⟩ := st
    obtain ⟨xs, x, hq, hx⟩ := hg
    obtain ⟨its, rv, p, hz⟩ := I.tuple hq
    obtain ⟨u, hu, ru⟩ := rv.get hx
    have hel : e < s.heap.objs.size := Heap.lt_size he
    have hil : it < s.heap.objs.size := by obtain ⟨_, q, _⟩ := hit; exact Heap.lt_size q
    have hai : a ≠ it := fun z => by
      subst z
      obtain ⟨o1, g1, c1, _⟩ := p
      obtain ⟨o2, g2, c2, _⟩ := hit
      rw [g1] at g2; cases g2
      rw [c1] at c2
      exact absurd (Value.type.inj c2) (by decide)
    have hea : e ≠ a := fun z => by
      subst z
      obtain ⟨o1, g1, c1, _⟩ := p
      rw [he] at g1; cases g1
      exact absurd (Value.type.inj c1) (by decide)
    have hlt : i < its.toArray.size := by
      have := (List.getElem?_eq_some_iff.mp hu).1
      simpa using this
    refine wpAny_pyNext_enum_itemD (Draws.tuple (A := X.A.in1) (show X.A.in1.handled = none from I.ok.hd hc) it a hai its.toArray) he ⟨hit, p⟩ hlt hne (by simp [hne, hea]) fun x' h' tk hx' ho st' hT hsz hk => ?_
    have ex : x' = u := by
      have z : its.toArray[i]? = some x' := hx'
      rw [List.getElem?_toArray, hu] at z
      exact (Option.some.inj z).symm
    subst ex
    refine ⟨_, rfl, wpAny_letOwnedTupleGo_enum (s := { s with heap := h', toks := tk + 1 }) ho fun h'' he' sb => ?_⟩
    have hT2 : h''.get? s.heap.objs.size = some { cls := .type "tuple", data := .seq #[.int i tk, x'] } := (sb.2 _ (Nat.ne_of_gt hel)).trans hT
    have new : ObjOk X.prog X.w (upd H s.heap.objs.size (.tup [.int (i : Nat), x])) h'' s.heap.objs.size (.tup [.int (i : Nat), x]) :=
      ⟨by show 2 ≤ sizeLine; decide, [.int i tk, x'], .cons ⟨_, rfl⟩ (.cons ru .nil), ⟨_, hT2, rfl, _, rfl⟩⟩
    have I1 : Inv X pins σ (upd H s.heap.objs.size (.tup [.int (i : Nat), x])) { s with heap := h'', toks := tk + 1 } :=
      I.turnedNew (ch := [e, it]) (fun b ob hb q => (sb.2 b (fun z => hb (by simp [z]))).trans (hk b ob (fun z => hb (by simp [z])) (fun z => hb (by simp [z])) q)) hf (Nat.le_refl _) new
    refine ⟨.ref s.heap.objs.size, _, I1, rfl, ⟨_, x, rfl, I.hok.fresh (Nat.le_refl _), rfl, fun ys hy => by rw [I.tuple_inj hy hq]; exact hx⟩, ⟨⟨x', ?_⟩, st'.1.at fun o q => (sb.2 it (Ne.symm hne)).trans q, hne⟩, fun b hb => ?_⟩
    · have e1 : ((i + 1 : Nat) : Int) = (i : Int) + 1 := by omega
      rw [e1]; exact he'
    · have hb' : b < s.heap.objs.size := by
        have e' : b = e ∨ b = it := by simpa using hb
        rcases e' with z | z
        · rw [z]; exact hel
        · rw [z]; exact hil
      rw [upd_ne (Nat.ne_of_lt hb')]
      exact (hf b hb).1
  done := by
    intro X hP hw hK hc i pins s σ H E I hf st hg
    subst hP hw hK
    obtain ⟨⟨old, he⟩, hit, hne⟩ := st
    obtain ⟨xs, hq, hx⟩ := hg
    obtain ⟨its, rv, p, hz⟩ := I.tuple hq
    obtain ⟨f0, f1, f2, f3, f4, f5⟩ := hf it (by simp)
    have hl := rv.length
    exact dl_enum_endT (I.ok.hd hc) he hit p (by simp; omega) fun h' eb => ⟨rfl, I.turned (t' := s.toks) (fun b o hb q => eb b o hb q) f0 f1 f3 f4 f5⟩
  self := fun A i s Q E st h => let ⟨⟨_, he⟩, _⟩ := st; wpAny_pyIter_enum he h
def iEnumT (K : PySem.W.Frag) (ta : TA) : TI := fun σ H R => ta σ H fun vs H1 => ∃ a xs, vs = [.ref a] ∧ SqT K H1 a xs ∧ R (IteT K a) H1
theorem pi_enumT {X : Cx} {e : Expr} {ta : TA} {p pos tpos : Pos} {elts : List Expr} {kk : Nat} (hg : Gl X "enumerate") (hm : X.mg "enumerate" = none) (ha : PA X [e] ta) (hs : starEach [e] X.env = [(false, eval e X.env)] := by rfl) :
    PI X (.Tuple elts kk tpos) (.Call (.Name "enumerate" p) [e] [] pos) (iEnumT X.K ta) := by
  refine ⟨fun pins s σ H R I h => ?_⟩
  refine Call_ (ld_blt I hg hm boot_enumerate (PyProof.Rows.callWith_type1 (thn (ha.run pos pins s σ H _ I h) fun us s1 ⟨vs, H1, I1, r1, q1⟩ => ?_) hs rfl))
  obtain ⟨a, xs, ex, hq, q⟩ := q1
  subst ex
  cases r1 with
  | cons r rr =>
    cases rr
    cases r
    obtain ⟨its, rv, p', hz⟩ := I1.tuple hq
    refine dl_call_enumT p' fun h' he hit hk => wpAny_pyIter_enum he ?_
    have I2 : Inv X pins σ H1 { s1 with heap := h' } := I1.kept (t' := s1.toks) hk
    refine ⟨s1.heap.objs.size + 1, [s1.heap.objs.size + 1, s1.heap.objs.size], _, _, H1, rfl, I2, turn_enumT a (s1.heap.objs.size + 1) s1.heap.objs.size, ⟨⟨.none, he⟩, hit, Nat.succ_ne_self _⟩, fun b hb => ?_, q⟩
    have e' : b = s1.heap.objs.size + 1 ∨ b = s1.heap.objs.size := by simpa using hb
    have hle : s1.heap.objs.size ≤ b := by
      rcases e' with z | z
      · rw [z]; exact Nat.le_add_right _ _
      · rw [z]; exact Nat.le_refl _
    exact I1.fpOk hle (I1.hok.fresh hle)
/-! ### enumerate, by data -/
def enumD : Nat → List D → List D
  | _, [] => []
  | i, d :: r => .tup [.int i, d] :: enumD (i + 1) r
theorem enumD_len : ∀ (k : Nat) (ds : List D), (enumD k ds).length = ds.length
  | _, [] => rfl
  | k, d :: r => by rw [enumD, List.length_cons, List.length_cons, enumD_len]
theorem enumD_get : ∀ (k : Nat) (ds : List D) (i : Nat), (enumD k ds)[i]? = ds[i]?.map fun d => D.tup [.int ((k + i : Nat) : Int), d]
  | _, [], i => by simp [enumD]
  | k, d :: r, 0 => by simp [enumD]
  | k, d :: r, i + 1 => by
    rw [enumD, List.getElem?_cons_succ, enumD_get, List.getElem?_cons_succ, show k + 1 + i = k + (i + 1) by omega]
theorem yl_enumT {K : PySem.W.Frag} {G : GI K} {F : Hp} {a : Addr} {ds : List D} {vs : List V} (r : Reps K F ds vs) (hT : SqT K F a vs) : Yl K (IteT K a) F (enumD 0 ds) (fun _ => True) where
  go := fun {F' H M i} s c k hi => by
    rw [enumD_len, ← r.len] at hi
    exact ⟨vs, vs[i], sameT (s.trans c.same) hT, List.getElem?_eq_getElem hi⟩
  stop := fun {F' H M i} s c k hi => by
    rw [enumD_len, ← r.len] at hi
    exact ⟨vs, sameT (s.trans c.same) hT, hi⟩
  yld := fun {F' H H' M i x} s c k hi hy => by
    rw [enumD_len] at hi
    obtain ⟨T, x0, rfl, hn, rfl, hx⟩ := hy
    have hx0 := hx vs (sameT (s.trans c.same) hT)
    obtain ⟨v, e1, e2⟩ := r.get (List.getElem?_eq_getElem hi)
    rw [e1] at hx0
    cases hx0
    obtain ⟨c1, s1, f1⟩ := c.new hn (.tup [.int (i : Nat), x0])
    refine ⟨.tup [.int ((0 + i : Nat) : Int), ds[i]], _, by rw [enumD_get, List.getElem?_eq_getElem hi]; rfl, s1, c1, f1, ?_⟩
    rw [Rep]
    exact ⟨T, [.int (i : Nat), x0], rfl, .inl (.inl upd_same), Reps.cons (by rw [Rep, Nat.zero_add]) (Reps.one (e2.mono (s.trans s1)))⟩
def dEnumT (tr : DTA) : DTI := fun env M R => tr env M fun ds M1 => match ds with
  | [.tup xs] => R (enumD 0 xs) (fun _ => True) M1
  | _ => False
section
variable {X : Cx} {GX : GI X.K} {e : Expr} {tr : DTA} {p pos tpos : Pos} {elts : List Expr} {kk : Nat}
theorem di_enumT (hm : X.mg "enumerate" = none) (ha : DA X [e] tr) (hg : Gl X "enumerate" := by rfl) (hs : starEach [e] X.env = [(false, eval e X.env)] := by rfl) : DI X (.Tuple elts kk tpos) (.Call (.Name "enumerate" p) [e] [] pos) (dEnumT tr) :=
  PI.imp (pi_enumT hg hm ha hs) fun σ H R ⟨F, env, M, R0, he, hc, ht, hp⟩ => ⟨F, env, M, _, he, hc, ht, fun ds M1 F1 H1 vs q s1 f1 c1 r1 => by
    revert q
    dsimp only
    split <;> intro q
    · obtain ⟨v, e1, e2⟩ := reps1 r1
      rw [Rep] at e2
      obtain ⟨a, us, e3, e4, e5⟩ := e2
      subst e1 e3
      exact ⟨a, us, rfl, sameT c1.same e4, hp _ _ _ _ _ _ q s1 f1 c1 (yl_enumT e5 e4)⟩
    · exact q.elim⟩
theorem dEnumT_ap {env : DSt} {M : Mp} {R : List D → (Mp → Prop) → Mp → Prop} : dEnumT tr env M R = tr env M fun ds M1 => (match ds with
  | [.tup xs] => R (enumD 0 xs) (fun _ => True) M1
  | _ => False) := rfl
end
end DL
namespace DL
open PySem PySem.Spec PyProof.Rows L2
/-! ### try: .. except (A, B, C) as e: .. -/
theorem flying_keeps {B h h' : Heap} {l : List Env} {a : Addr} {Z : Obj → Prop} (f : HandSPX.FlyingZ B l a Z h) (k : ∀ b o, h.get? b = some o → h'.get? b = some o) : HandSPX.FlyingZ B l a Z h' := by
  obtain ⟨k1, k2, k3, oe, vs, tr, ot, ts, he, hz, hd, h1, hr⟩ := f
  refine ⟨fun b o e => k b o (k1 b o e), k2, Heap.FunFrames.of_keeps (fun b o e _ => ⟨o, k b o e, rfl⟩) k3, oe, vs, tr, ot, ts, k _ _ he, hz, hd, h1, ?_⟩
  exact ⟨hr.1, hr.2.1, k _ _ hr.2.2.1, hr.2.2.2⟩
end DL
namespace L2H
open PySem PySem.Spec PyProof.Rows L2
open DL (flying_keeps)
/-- what the clause 'except (A, B, C) as n' wishes -/
def wAs3 (K : PySem.W.Frag) (c1 c2 c3 : Value) (i : Nat) (ts : Addr → Value → Option Addr → TS) (Wout : WX) (D : Ends) : WX := fun cls d σ H =>
  ∃ b, PySem.W.exmAny K cls [c1, c2, c3] = some b ∧ (b = true → ∀ a, H a = none → ts a cls d { nx := fun σ' H' => D.nx (σ'.set i none) H', rt := D.rt, bk := fun σ' H' => D.bk (σ'.set i none) H', ct := fun σ' H' => D.ct (σ'.set i none) H' } (σ.set i (some (.ref a))) H) ∧
    (b = false → Wout cls d σ H)
section
variable {X : Cx} {y1 y2 y3 n : Str} {c1 c2 c3 : Value} {i kk : Nat} {body suite : List Stmt} {b₀ : Stmt} {q0 q1 q2 q3 pos pos' : Pos} {tb : WX → TS} {ts : Addr → Value → Option Addr → TS} {Wout : WX}
theorem ps_try_three (hs : X.stack = X.env :: X.outer) (hf : X.env.frame = some X.env.locals) (hN : X.N.Nodup) (hi : X.N[i]? = some n) (hln : X.env.kindOf n = some .local) (hc1 : Names X y1 c1) (hc2 : Names X y2 c2) (hc3 : Names X y3 c3) (tk : Takes X Wout)
    (hb : ∀ (W : WX) (pn : List (Addr × Obj)) (xe : Value → Shared → Prop), (∀ q ∈ X.pn, q ∈ pn) → Takes (X.tr pn xe) W → PassesOwn (model X.prog X.w) X.A X.env xe → PSs (X.tr pn xe) body (tb W))
    (hsu : ∀ (a : Addr) (oe : Obj) (cls : Value) (d : Option Addr) (pn : List (Addr × Obj)), Zc cls d oe → (∃ vs, oe.data = .fields vs) → PSs (X.suite a ((a, oe) :: pn)) (b₀ :: suite) (ts a cls d)) :
    PS X (.Try body [.ExceptHandler (some (.Tuple [.Name y1 q1, .Name y2 q2, .Name y3 q3] kk q0)) (some n) (b₀ :: suite) pos'] [] [] pos) (fun D σ H => tb (wAs3 X.K c1 c2 c3 i ts Wout D) D σ H) := by
  refine ⟨fun pins s σ H D I h => ?_⟩
  have ok := I.ok
  have hfr : X.A.frames = some (X.env :: X.outer) := by rw [ok.frames, hs]
  have hloc : Loc X.env.scope n := .inl hln
  refine wpAny_Try_except ?_
  refine wpAny_mono ((hb (wAs3 X.K c1 c2 c3 i ts Wout D) (X.pn ++ pins) (fun e s₁ => wpAny (model X.prog X.w) X.A (noteFrame e X.env) (fun _ s₂ => wpAny (model X.prog X.w) X.A (setFlight e none) (fun _ s₃ =>
    wpAny (model X.prog X.w) X.A (handleBy e X.env [.ExceptHandler (some (.Tuple [.Name y1 q1, .Name y2 q2, .Name y3 q3] kk q0)) (some n) (b₀ :: suite) pos']) (SP X pins D) X.xe s₃) X.xe s₂) X.xe s₁) (fun q hq => List.mem_append_left _ hq) (fun u s' xx => ?_) PassesOwn.looking).run [] s σ H D (I.toTry _) h) (fun f s1 hsp => ?_) (fun e s1 he => he)
  · -- the catch
    obtain ⟨a, B, sI, pins', σ', H', cls, d, rfl, J', nb, up, sky, na, os, ag, b, hb1, hyes, hno⟩ := xx
    have J : Inv X pins σ' H' sI := J'.ofTry ok
    have sky' : Sky B (X.env :: X.outer) a (Zc cls d) X.env.locals s'.heap := by rw [← hs]; exact sky
    show wpAny (model X.prog X.w) X.A (noteFrame (.ref a) X.env) _ _ _
    refine Sky.land Zc.steady hfr hf sky' fun h3 fl3 up3 => ?_
    have J3 : Inv X pins σ' H' { s' with heap := h3 } := J.landed nb fl3.1 (up.trans up3) os ag
    obtain ⟨oe3, vs3, he3, hz3, hd3⟩ := fl3.there
    have notFr : ∀ {h : Heap} {o : Obj} {vs : Array Value}, h.FunFrames B (X.env :: X.outer) → h.get? a = some o → o.data = .fields vs → a ∉ frs (X.env :: X.outer) := fun {h o vs} ff e dd hm => by
      obtain ⟨_, o', e', hnf⟩ := ff.mem hm
      rw [e] at e'; cases e'
      exact hnf _ dd
    have nfr := notFr fl3.2.2.1 he3 hd3
    have nL : a ≠ X.env.locals := fun z => nfr (List.mem_filterMap.mpr ⟨X.env, List.mem_cons_self, by rw [hf, z]⟩)
    have nF : a ∉ X.fs := fun hm => by
      obtain ⟨e, he, q⟩ := List.mem_filterMap.mp hm
      exact nfr (List.mem_filterMap.mpr ⟨e, List.mem_cons_of_mem _ he, q⟩)
    have S3 := J3.suite he3 hd3 na nL nF
    refine wpAny_handleBy_cons (codeAny_handlers_test ?_) (by intro q; cases q)
    have kp : ∀ q o, h3.get? q = some o → (h3.push { cls := .type "tuple", data := .seq [c1, c2, c3].toArray }).get? q = some o := fun _ _ z => Heap.get?_push_of_some _ z
    have LT : PySem.W.Looks (model X.prog X.w) h3 (typeOf (.ref a)) cls := fun A Q E s k q => wpAny_typeOf_ref (k _ _ he3) (by rw [hz3.1]; exact q)
    have LM := PySem.W.exm_tup3 (M := model X.prog X.w) ((J3.kIn).keeps kp) (LT.keeps kp) (Heap.get?_push_size h3 rfl) hb1
    have test : ∀ {y : Str} {c : Value} {np : Pos}, Names X y c → ∀ {Q : Value → Shared → Prop} {E : Value → Shared → Prop}, Q c { s' with heap := h3 } → wpAny (model X.prog X.w) (X.A.mark (some (.ref a))) (eval (.Name y np) X.env) Q E { s' with heap := h3 } := fun {y c np} hc {Q E} q => by
      obtain ⟨hg, hdbg, hm | ⟨hm, hv, hnn⟩⟩ := hc
      · exact ld_glob (X := X.suite a ((a, oe3) :: (X.pn ++ pins))) S3 hg hm q hdbg
      · exact ld_blt (X := X.suite a ((a, oe3) :: (X.pn ++ pins))) S3 hg hm hv q hnn hdbg
    have flp := flying_keeps fl3 kp
    have upp : h3.UpToSlots (h3.push { cls := .type "tuple", data := .seq [c1, c2, c3].toArray }) := fun b o e _ => ⟨o.slots, kp b o e⟩
    refine wpAny_Tuple (wpAny_items_cons (test hc1 (wpAny_items_cons (test hc2 (wpAny_items_cons (test hc3 (wpAny_items_nil ⟨by size_fits, ?_⟩)))))))
    refine LM.here ?_
    cases b with
    | true =>
      refine codeAny_handlers_suite_as ?_
      refine HandSPX.lands_againZ flp fun h4 fl4 up4 => ?_
      have J4 : Inv X pins σ' H' { s' with heap := h4 } := J.landed nb fl4.1 (((up.trans up3).trans upp).trans up4) os ag
      obtain ⟨oe4, vs4, he4, hz4, hd4⟩ := fl4.there
      have S4 := J4.suite he4 hd4 na nL nF
      refine store_ok (X := X.suite a ((a, oe4) :: (X.pn ++ pins))) (v := .ref a) S4 hN hi hloc rfl (fun s5 S5 => ?_) (.inr hln)
      refine wpAny_mono ((hsu a oe4 cls d (X.pn ++ pins) hz4 ⟨_, hd4⟩).run [] s5 _ H' _ S5 (hyes rfl a na)) (fun f s6 hsp => ?_) (fun _ _ z => False.elim z)
      have end_ : ∀ {σ6 : St} {H6 : Hp} {Q : Shared → Prop}, Inv (X.suite a ((a, oe4) :: (X.pn ++ pins))) [] σ6 H6 s6 → (∀ s7, Inv X pins (σ6.set i none) H6 s7 → Q s7) →
          wpAny (model X.prog X.w) X.A (do bindName X.env n .none; unbindBehindTheSuite X.env n pos') (fun _ s7 => Q s7) X.xe s6 := fun {σ6 H6 Q} S6 hq => gone_ok (S6.unsuite ok) hN hi hln hq
      cases f with
      | next =>
        obtain ⟨σ6, H6, S6, q6⟩ := hsp
        exact end_ S6 fun s7 J7 => ⟨_, _, J7, q6⟩
      | brk =>
        obtain ⟨σ6, H6, S6, q6⟩ := hsp
        exact end_ S6 fun s7 J7 => ⟨_, _, J7, q6⟩
      | cont =>
        obtain ⟨σ6, H6, S6, q6⟩ := hsp
        exact end_ S6 fun s7 J7 => ⟨_, _, J7, q6⟩
      | ret u =>
        obtain ⟨v6, σ6, H6, S6, r6, q6⟩ := hsp
        exact end_ S6 fun s7 J7 => ⟨_, _, _, J7, r6, q6⟩
    | false =>
      show wpAny _ X.A (handleBy (.ref a) X.env []) _ _ _
      refine wpAny_handleBy_nil ?_
      obtain ⟨k1, k2, k3, oe, vs, T, oT, ts', he, hz, hd, h1, hr⟩ := id flp
      unfold PySem.passOn
      refine wpAny_bind (wpAny_field he hd h1 ?_)
      rw [if_neg (show ¬ ((Value.ref T == Value.none) = true) from by simp)]
      have fin : wpAny (model X.prog X.w) X.A (setFlight (.ref a) X.env.frame) (fun _ s4 => wpAny (model X.prog X.w) X.A (throw (.ref a) : Sem Flow) (SP X pins D) X.xe s4) X.xe { s' with heap := h3.push { cls := .type "tuple", data := .seq [c1, c2, c3].toArray } } := by
        rw [hf]
        refine HandSPX.setFlight_upZ flp fun h4 hh4 up4 => wpAny_throw (tk _ _ ?_)
        exact ⟨a, B, sI, pins, σ', H', cls, d, rfl, J, nb, ((up.trans up3).trans upp).trans up4, .inr (.inr (by rw [hs]; exact hh4)), na, os, ag, hno rfl⟩
      first
        | exact wpAny_bind (wpAny_pure (wpAny_bind fin))
        | exact wpAny_bind fin
  · cases f with
    | next =>
      obtain ⟨σ', H', J', q⟩ := hsp
      exact wpAny_execs_nil ⟨σ', H', J'.ofTry ok, q⟩
    | brk =>
      obtain ⟨σ', H', J', q⟩ := hsp
      exact ⟨σ', H', J'.ofTry ok, q⟩
    | cont =>
      obtain ⟨σ', H', J', q⟩ := hsp
      exact ⟨σ', H', J'.ofTry ok, q⟩
    | ret u =>
      obtain ⟨v, σ', H', J', r, q⟩ := hsp
      exact ⟨v, σ', H', J'.ofTry ok, r, q⟩
end
end L2H
namespace DL
open PySem PySem.Spec PyProof.Rows L2
/-- a wish that looks at no slot of the body -/
def anyE (n : Nat) (W : WX) : XK := fun c d H => ∀ σ' : L2.St, σ'.length = n → W c d σ' H
theorem takes_any {X : Cx} {W : WX} (t : L2.Takes X W) : L2.Takes X (WE (anyE X.N.length W)) := fun u s' ⟨a, B, sI, pins, σ, H, cls, d, e, I, nb, up, sky, na, os, ag, w⟩ =>
  t u s' ⟨a, B, sI, pins, σ, H, cls, d, e, I, nb, up, sky, na, os, ag, w σ I.len⟩
/-- a reading of which there is some kept relation and some wish -/
def tSome (K : PySem.W.Frag) (E : XK) (r : GI K → DX → TS) : TS := fun D σ H => ∃ (G : GI K) (E0 : DX), @Wish K G E0 E ∧ r G E0 D σ H
theorem pss_some {X : Cx} {b : List Stmt} {E : XK} {r : GI X.K → DX → TS} (h : ∀ (G : GI X.K) (E0 : DX), @Wish X.K G E0 E → PSs X b (r G E0)) : PSs X b (tSome X.K E r) :=
  ⟨fun pins s σ H D I ⟨G, E0, ws, q⟩ => (h G E0 ws).run pins s σ H D I q⟩
end DL
namespace DL
open PySem PySem.Spec PyProof.Rows L2
/-- e.f of the caught exception at a, whose fields are fs -/
def dXf (a : Addr) (fs : List (Str × D)) (f : Str) (te : DTE) : DTE := fun env M Q => te env M fun x M1 => x = .ptr a ∧ ∃ d, fs.lookup f = some d ∧ Q d M1
/-- the kept relation tells the fields -/
def Tells (K : PySem.W.Frag) (G : GI K) (dd : Addr) (fs : List (Str × D)) : Prop := ∀ {F H : Hp} {M : Mp}, G.p F H M → ∃ vs, F dd = some (.xd vs) ∧ RepF K F fs vs
theorem l_xf {K : PySem.W.Frag} {G : GI K} {a C dd : Addr} {fs : List (Str × D)} {f : Str} {te : DTE} (T : Tells K G dd fs) : ∀ σ H Q, lE K (dXf a fs f te) σ H Q → tXf a (.ref C) (some dd) C f (lE K te) σ H Q := fun σ H Q ⟨F, env, M, Q0, he, hc, ht, hp⟩ =>
  ⟨F, env, M, _, he, hc, ht, fun d M' F' H' v ⟨e, d2, l, q⟩ s1 f1 c1 r1 => by
    subst e
    obtain ⟨vs, hF, rf⟩ := T c1.g
    obtain ⟨v2, l2, r2⟩ := rf.look l
    rw [Rep] at r1
    exact ⟨r1, rfl, dd, vs, v2, rfl, c1.same _ _ hF, l2, hp _ _ _ _ _ q s1 f1 c1 r2⟩⟩
theorem de_xf {X : Cx} {G : GI X.K} {a C dd : Addr} {oe : Obj} {pn : List (Addr × Obj)} {e : Expr} {te : DTE} {pos : Pos} {n : Str} {fs : List (Str × D)} (T : Tells X.K G dd fs) (xc : XfC X.K C) (hno : PySem.W.findIn X.K (.ref C) n = some none)
    (hz : Zc (.ref C) (some dd) oe) (hf : ∃ vs, oe.data = .fields vs) (he : DE (X.suite a ((a, oe) :: pn)) e te) (hb : attributeBase e n X.env (eval e X.env) = eval e X.env := by rfl) : DE (X.suite a ((a, oe) :: pn)) (.Attribute e n pos) (dXf a fs n te) :=
  PE.imp (pe_xf xc hno hz hf he hb) (l_xf T)
end DL
namespace LamN
open PySem PySem.Spec PyProof.Rows L2 DL
open LamX (CodeO TabB among_app inv_table codeO_ne)
/-! ### making a lambda: its function object and its code object are told -/
section
variable {X : Cx} {pins : List (Addr × Obj)} {σ : L2.St} {H : Hp} {s : Shared}
/-- what the table at P tells -/
def TabO (H : Hp) (ps : Array Value) (q : Str) : Prop := TriplesOk ps.toList ∧ ∀ (pos : Pos) (cv : Value), codeAmong pos ps.toList = some cv → ∃ c, cv = .ref c ∧ H c = some (CodeO c q)
/-- a new object that is told by itself -/
theorem inv_fun {f : Addr} {o : Obj} {h' : Heap} {tk : Nat} (I : Inv X pins σ H s) (k : ∀ b u, s.heap.get? b = some u → h'.get? b = some u) (hf : s.heap.objs.size ≤ f) (ho : h'.get? f = some o) : Inv X pins σ (upd H f (FunO f o)) { s with heap := h', toks := tk } :=
  I.laid (t' := tk) (a := f) (o := FunO f o) (h' := h') k hf ⟨ho, ⟨o, ho⟩, fun h1 h2 e st => st _ e⟩
theorem lam_tail {F : Hp} {c P : Addr} {q : Str} {params : Arguments} {body : Expr} {scope : Scope} {pos : Pos} {dV : Value} {dfl : Option Int} {ps : Array Value} {E : Value → Shared → Prop} {Q : Value → Shared → Prop} {fl : Nat} (I : Inv X pins σ H s) (TB : TabB X.base X.mg c P) (hcode : X.env.code = .ref c)
    (hP : H P = some (.tbl ps)) (hS : Same F H) (hT : TabO F ps q) (hd : DflAt F dV dfl) (hfree : ∀ y ∈ scope.names, y.2 = .free → ∃ c, X.env.cells.lookup y.1 = some c)
    (h : ∀ (f : Addr) (F1 H1 : Hp) (s' : Shared) (more : Array Value), Inv X pins σ H1 s' → Same F F1 → Same F1 (fun b => if b = P then F1 P else H1 b) → (∀ b o, H b = some o → F b = none → F1 b = none) → (∀ b o, H b = some o → b ≠ P → H1 b = some o) → H1 P = some (.tbl (ps ++ more)) → TabO F1 (ps ++ more) q →
      LamAt F1 f ⟨q, params, body, scope, cloFrom X.env.cells scope.names [], dfl⟩ → Q (.ref f) s') :
    wpAny (model X.prog X.w) X.A (makeTail "<lambda>" q params (.expr body) scope X.env dV .none none pos fl) Q E s := by
  have bP : s.heap.BuiltinsAt X.mg P := TB.bm.keeps I.bk
  have hP' : s.heap.get? P = some { cls := .none, data := .fields ps } := I.hok P _ hP
  have dfl_up : ∀ {F' : Hp}, Same F F' → DflAt F' dV dfl := fun {F'} e => by
    cases dfl with
    | none => exact hd
    | some i =>
      obtain ⟨t, a, b⟩ := hd
      exact ⟨t, a, e _ _ b⟩
  have noF : ∀ {a : Addr}, H a = none → F a = none := fun {a} n => hS.free n
  cases hc : codeAmong pos ps.toList with
  | none =>
    refine PySem.W.kdv_makeTail (mg := X.mg) (c := c) (P := P) (ps := ps) (closure_ok hfree) I.ok.glob (I.mod.glob.keeps I.bk) hcode (TB.code.keeps I.bk) hP' hT.1 hc TB.gP bP fun c' ctv doc h' tk hx hge hlt hrec htb => ?_
    obtain ⟨c2, oc, vs, t, e2, hoc, hdd, hv⟩ := hrec
    cases e2
    have hsz : s.heap.objs.size ≤ h'.objs.size := Nat.le_trans hge (Nat.le_of_lt hlt)
    have nC : H c' = none := I.hok.fresh hge
    have nPc : P ≠ c' := ne_of_none hP nC
    have I1 := inv_table (t' := tk) (more := #[rawInt pos.line, rawInt pos.col, .ref c']) (h' := h') I hP (fun b o hb e => hx b o hb e) htb hge ⟨oc, vs, t, hoc, hdd, hv⟩
    generalize hH2 : upd (upd H P (.tbl (ps ++ #[rawInt pos.line, rawInt pos.col, .ref c']))) c' (CodeO c' q) = H2 at I1
    have hE2 : ∀ b o, H b = some o → b ≠ P → H2 b = some o := fun b o e n => by rw [← hH2, upd_ne (ne_of_none e nC), upd_ne n]; exact e
    have hP2 : H2 P = some (.tbl (ps ++ #[rawInt pos.line, rawInt pos.col, .ref c'])) := by rw [← hH2, upd_ne nPc, upd_same]
    have hC2 : H2 c' = some (CodeO c' q) := by rw [← hH2, upd_same]
    have nF2 : H2 h'.objs.size = none := I1.hok.fresh (Nat.le_refl _)
    have nF : H h'.objs.size = none := I.hok.fresh hsz
    have I2 := inv_fun (f := h'.objs.size) (o := lamO ⟨q, params, body, scope, cloFrom X.env.cells scope.names [], dfl⟩ dV doc ((X.mg "__name__").getD .none) c' ctv) (h' := h'.push (PySem.W.kdv_obj "<lambda>" q params (.expr body) scope (cloFrom X.env.cells scope.names []) dV doc ((X.mg "__name__").getD .none) c' ctv)) (tk := tk) I1 (fun b u e => Heap.get?_push_of_some _ e) (Nat.le_refl _) (Heap.get?_push_size _ rfl)
    generalize hO : lamO ⟨q, params, body, scope, cloFrom X.env.cells scope.names [], dfl⟩ dV doc ((X.mg "__name__").getD .none) c' ctv = O at I2
    have hE3 : ∀ b o, H2 b = some o → upd H2 h'.objs.size (FunO h'.objs.size O) b = some o := fun b o e => by rw [upd_ne (ne_of_none e nF2)]; exact e
    have nfc : c' ≠ h'.objs.size := Nat.ne_of_lt hlt
    have s1 : Same F (upd (upd F c' (CodeO c' q)) h'.objs.size (FunO h'.objs.size O)) := fun b o e => by rw [upd_ne (ne_of_none e (noF nF)), upd_ne (ne_of_none e (noF nC))]; exact e
    have fC : upd (upd F c' (CodeO c' q)) h'.objs.size (FunO h'.objs.size O) c' = some (CodeO c' q) := by rw [upd_ne nfc, upd_same]
    refine h h'.objs.size (upd (upd F c' (CodeO c' q)) h'.objs.size (FunO h'.objs.size O)) _ _ #[rawInt pos.line, rawInt pos.col, .ref c'] I2 s1 (fun b o e => ?_) (fun b o e n => ?_) (fun b o e n => hE3 _ _ (hE2 b o e n)) (hE3 _ _ hP2) ⟨?_, fun p' cv hcv => ?_⟩ ⟨dV, doc, _, c', ctv, by rw [hO, upd_same], fC, dfl_up s1⟩
    · dsimp only
      split
      · rename_i z; rw [← z]; exact e
      · rename_i z
        by_cases hb : b = h'.objs.size
        · rw [hb, upd_same] at e ⊢; exact e
        · rw [upd_ne hb] at e ⊢
          by_cases hb2 : b = c'
          · rw [hb2, upd_same] at e; rw [hb2, hC2]; exact e
          · rw [upd_ne hb2] at e; exact hE2 _ _ (hS _ _ e) z
    · rw [upd_ne (ne_of_none e nF), upd_ne (ne_of_none e nC)]; exact n
    · have eL : (ps ++ #[rawInt pos.line, rawInt pos.col, .ref c']).toList = ps.toList ++ [rawInt pos.line, rawInt pos.col, .ref c'] := by simp
      rw [eL]; exact PySem.TriplesOk_snoc _ _ _ _ hT.1
    · have eL : (ps ++ #[rawInt pos.line, rawInt pos.col, .ref c']).toList = ps.toList ++ [rawInt pos.line, rawInt pos.col, .ref c'] := by simp
      rw [eL] at hcv
      rcases among_app _ hT.1 hcv with z | z
      · obtain ⟨c0, e1, e2⟩ := hT.2 p' cv z
        exact ⟨c0, e1, s1 _ _ e2⟩
      · exact ⟨c', z, fC⟩
  | some cv =>
    obtain ⟨c', e, hco⟩ := hT.2 pos cv hc
    subst e
    refine PySem.W.kdv_makeTailHit (mg := X.mg) (c := c) (P := P) (ps := ps) (closure_ok hfree) I.ok.glob (I.mod.glob.keeps I.bk) hcode (TB.code.keeps I.bk) hP' hT.1 hc bP fun ctv doc h' tk hx hsz => ?_
    have nF : H h'.objs.size = none := I.hok.fresh hsz
    have I2 := inv_fun (f := h'.objs.size) (o := lamO ⟨q, params, body, scope, cloFrom X.env.cells scope.names [], dfl⟩ dV doc ((X.mg "__name__").getD .none) c' ctv) (h' := h'.push (PySem.W.kdv_obj "<lambda>" q params (.expr body) scope (cloFrom X.env.cells scope.names []) dV doc ((X.mg "__name__").getD .none) c' ctv)) (tk := tk) I (fun b u e => Heap.get?_push_of_some _ (hx b u e)) hsz (Heap.get?_push_size _ rfl)
    generalize hO : lamO ⟨q, params, body, scope, cloFrom X.env.cells scope.names [], dfl⟩ dV doc ((X.mg "__name__").getD .none) c' ctv = O at I2
    have hE3 : ∀ b o, H b = some o → upd H h'.objs.size (FunO h'.objs.size O) b = some o := fun b o e => by rw [upd_ne (ne_of_none e nF)]; exact e
    have s1 : Same F (upd F h'.objs.size (FunO h'.objs.size O)) := fun b o e => by rw [upd_ne (ne_of_none e (noF nF))]; exact e
    refine h h'.objs.size (upd F h'.objs.size (FunO h'.objs.size O)) _ _ #[] I2 s1 (fun b o e => ?_) (fun b o e n => ?_) (fun b o e n => hE3 _ _ e) (by rw [Array.append_empty]; exact hE3 _ _ hP) ?_ ⟨dV, doc, _, c', ctv, by rw [hO, upd_same], s1 _ _ hco, dfl_up s1⟩
    · dsimp only
      split
      · rename_i z; rw [← z]; exact e
      · by_cases hb : b = h'.objs.size
        · rw [hb, upd_same] at e ⊢; exact e
        · rw [upd_ne hb] at e ⊢; exact hS _ _ e
    · rw [upd_ne (ne_of_none e nF)]; exact n
    · rw [Array.append_empty]
      refine ⟨hT.1, fun p' cv hcv => ?_⟩
      obtain ⟨c0, e1, e2⟩ := hT.2 p' cv hcv
      exact ⟨c0, e1, s1 _ _ e2⟩
end
end LamN
namespace LamN
open PySem PySem.Spec PyProof.Rows L2 DL
open LamX (CodeO)
/-! ### calling a lambda -/
/-- the lambda's names: its parameter is none of the maker's names, the others are captured or global -/
structure LamS (N : List Str) (scope : Scope) : Prop where
  kind : scope.kind = .function
  co : scope.isCoroutine = false
  gen : scope.isGenerator = false
  own : ∀ y ∈ scope.names, y.2 ≠ .cell
  loc : ∀ y ∈ scope.names, y.2 = .local → y.1 ∉ N
def lamSB (N : List Str) (scope : Scope) : Bool := decide (scope.kind = .function) && !scope.isCoroutine && !scope.isGenerator && scope.names.all fun y => !decide (y.2 = .cell) && (!decide (y.2 = .local) || !decide (y.1 ∈ N))
theorem lamS_by {N : List Str} {scope : Scope} (h : lamSB N scope = true) : LamS N scope := by
  unfold lamSB at h
  simp only [Bool.and_eq_true, Bool.or_eq_true, Bool.not_eq_true', decide_eq_true_eq, decide_eq_false_iff_not, List.all_eq_true] at h
  obtain ⟨⟨⟨h1, h2⟩, h3⟩, h4⟩ := h
  exact ⟨h1, h2, h3, fun y hy => (h4 y hy).1, fun y hy e => (h4 y hy).2.elim (fun z => absurd e z) id⟩
structure LamC (l : LamD) : Prop where
  inj : ∀ x y c, l.cl.lookup x = some c → l.cl.lookup y = some c → x = y
  has : ∀ y, l.scope.names.lookup y = some .free → ∃ c, l.cl.lookup y = some c
/-- what the captured cells hold -/
def CellsAt (N : List Str) (l : LamD) (σ : L2.St) (H : Hp) (h : Heap) : Prop := (∀ y c, l.cl.lookup y = some c → H c = none ∧ ∃ w, h.IsCell c w) ∧
  ∀ (i : Nat) (y : Str) (v : V), N[i]? = some y → σ[i]? = some (some v) → l.scope.names.lookup y = some .free → ∃ c u, l.cl.lookup y = some c ∧ RelV v u ∧ h.IsCell c (some u)
/-- the parameters are bound -/
def BindL (l : LamD) : Prop := ∀ (s : Shared) (H : Hp) (P : Program) (w : World) (dV doc pm cdv ctv : Value), HOk P w H s.heap → DflAt H dV l.dfl → ∃ binds, BindsTo s (PySem.W.kdv_fn "<lambda>" l.q l.params (.expr l.body) l.scope l.cl dV doc pm cdv ctv) ⟨[], []⟩ binds ∧ ∀ y ∈ binds, l.scope.names.lookup y.1 = some .local
abbrev lEnv (l : LamD) (L f c' : Addr) : Env := PySem.W.envX l.q l.scope L f (.ref c') l.cl
def lamCx (P : Program) (w : World) (K : PySem.W.Frag) (mg : Str → Option Value) (base : Heap) (N : List Str) (l : LamD) (A : Around) (outer : List Env) (s : Shared) (H : Hp) (E : XK) (f c' : Addr) : Cx where
  prog := P
  w := w
  K := K
  mg := mg
  base := base
  A := A.deeper (lEnv l s.heap.objs.size f c')
  N := N
  s_0 := s
  H_0 := H
  env := lEnv l s.heap.objs.size f c'
  outer := outer
  stack := lEnv l s.heap.objs.size f c' :: outer
  ex := []
  fn := fun _ => false
  calm := true
  pn := []
  xe := fun e s' => wpAny (model P w) (A.deeper (lEnv l s.heap.objs.size f c')) (leaving (lEnv l s.heap.objs.size f c') e) (fun _ s'' => L2.CX P w outer H s E e s'') (fun e' s'' => L2.CX P w outer H s E e' s'') s'
section
variable {P : Program} {w : World} {K : PySem.W.Frag} {mg : Str → Option Value} {base : Heap} {N : List Str} {l : LamD} {A : Around} {outer : List Env} {E : XK} {σ : L2.St} {H HZ : Hp} {sM s1 : Shared} {f c' : Addr}
theorem lam_start {h₁ : Heap} {tk : Nat} {fsx : List Addr} {m : Str → Option Value} (e0 : Env0 P w K mg base A outer s1 HZ) (hd : A.handled = none) (S : LamS N l.scope) (C : LamC l) (cs : CellsAt N l σ H sM.heap) (hlen : σ.length = N.length)
    (un : Un fsx [] H HZ sM.heap s1.heap) (hns : h₁.Ns s1.heap.objs.size m) (kp : ∀ b o, s1.heap.get? b = some o → h₁.get? b = some o) :
    Inv (lamCx P w K mg base N l A outer s1 HZ E f c') [] σ HZ { s1 with heap := h₁, toks := tk } := by
  have cellK : ∀ {c : Addr} {v : Option Value}, H c = none → sM.heap.IsCell c v → h₁.IsCell c v := fun {c v} n ⟨o, ho, hd⟩ => by
    obtain ⟨sl, q⟩ := un.any ho n (by simp)
    exact ⟨_, kp _ _ q, hd⟩
  have noA : ∀ b : Addr, b ∉ (lamCx P w K mg base N l A outer s1 HZ E f c').ex := fun b z => absurd (show b ∈ ([] : List Addr) from z) (by simp)
  have capt : ∀ {y : Str}, Vis l.scope y → y ∈ N → l.scope.names.lookup y = some .free := fun {y} v hy => by
    rcases v with k | k | k
    · exact absurd hy (S.loc _ (PySem.mem_of_lookup k) rfl)
    · exact absurd rfl (S.own _ (PySem.mem_of_lookup k))
    · exact k
  refine ⟨⟨e0.mod, S.kind, rfl, rfl, Nat.le_refl _, fun y z c e1 e2 => C.inj y z c e1 e2, fun y hy => ?_, fun y c z _ => ?_, fun _ => hd, Around.frames_deeper e0.frames, .inr ⟨rfl, rfl⟩, fun b z => absurd z (noA b), e0.bs, e0.bsz, fun b _ _ => noA b,
      fun b z => absurd z (noA b), e0.funs, e0.frf⟩,
    rfl, e0.bare, Un.kept kp, ⟨_, hns, fun i y v e1 e2 e3 => ?_⟩, fun y c e => ?_, e0.hok.fresh (Nat.le_refl _), fun y c e => ?_, fun q hq => absurd (show q ∈ ([] : List (Addr × Obj)) ++ [] from hq) (by simp), e0.hok.kept kp, hlen⟩
  · have hy : l.scope.names.lookup y = some .cell ∨ l.scope.names.lookup y = some .free := hy
    rcases hy with hy | hy
    · exact absurd rfl (S.own _ (PySem.mem_of_lookup hy))
    · exact C.has y hy
  · have z : false = true := z
    cases z
  · have k := capt (show Vis l.scope y from e3) (List.mem_of_getElem? e1)
    obtain ⟨c, u, h2, r, z⟩ := cs.2 i y v e1 e2 k
    exact ⟨u, r, .inr ⟨.inr k, c, h2, cellK (cs.1 y c h2).1 z⟩⟩
  · obtain ⟨n, w', z⟩ := cs.1 y c e
    exact ⟨w', cellK n z⟩
  · obtain ⟨n, w', o, ho, hd⟩ := cs.1 y c e
    exact un.free c o ho n (by simp)
/-- x(), in the def that got the lambda: Z is that def's context, entered at s -/
theorem pe_act {CXg : CXT} {stack : List Env} {s : Shared} {Eg : XK} {Ng : List Str} {qg : Str} {sg : Scope} {g : Addr} {cdg : Value} {k i : Nat} {a : Str} {pn : List (Addr × Obj)} {xe : Value → Shared → Prop} {W : WX} {tb : TE} {p1 p2 : Pos}
    (S : LamS N l.scope) (C : LamC l) (B : BindL l) (cs : CellsAt N l σ H s.heap) (hlen : σ.length = N.length)
    (tk : Takes ((cxOf CXg P w K mg base Ng qg sg g cdg A stack s H Eg).tr pn xe) W) (hW : ∀ cls d σ' H', E cls d H' → W cls d σ' H') (hr : Room (k + 1) (A.deeper (envOfC qg sg s.heap.objs.size g cdg)))
    (hbody : ∀ (A : Around) (outer : List Env) (s : Shared) (H : Hp) (f c' : Addr), Room k (A.deeper (lEnv l s.heap.objs.size f c')) → PE (lamCx P w K mg base N l A outer s H E f c') l.body tb)
    (hN : Ng[i]? = some a) (hv : Vis sg a) (hd : (a == ("__debug__" : Str)) = false := by decide) (hcd : (a == ("__classdict__" : Str)) = false := by decide) :
    PE ((cxOf CXg P w K mg base Ng qg sg g cdg A stack s H Eg).tr pn xe) (.Call (.Name a p1) [] [] p2)
      (fun σZ HZ Q => ∃ f, σZ[i]? = some (some (.ref f)) ∧ LamAt HZ f l ∧ tb σ HZ Q) := by
  refine ⟨fun pinsZ sZ σZ HZ Q IZ h => ?_⟩
  obtain ⟨f, hs, hl, ht⟩ := h
  refine wpAny_Call_Name_kw (thn ((pe_var (pos := p1) (i := i) hN hv hd hcd).run pinsZ sZ σZ HZ (fun v H1 => v = .ref f ∧ H1 = HZ) IZ ⟨.ref f, hs, rfl, rfl⟩) fun u s1 ⟨v, H1, I1, r1, q1⟩ => ?_)
  obtain ⟨ev, eH⟩ := q1
  subst ev
  rw [eH] at I1
  obtain rfl : u = Value.ref f := r1
  obtain ⟨dV, doc, pm, c', ctv, hF, hC, hD⟩ := hl
  have of1 : s1.heap.get? f = some (lamO l dV doc pm c' ctv) := (I1.hok f _ hF).1
  refine PySem.W.callWith_F0 ⟨_, _, _, _, of1⟩ ?_
  have un : Un (frs stack) [] H HZ s.heap s1.heap := I1.base
  obtain ⟨⟨oc, vs, t, hoc, hdc, hvc⟩, _, _⟩ := I1.hok c' _ hC
  obtain ⟨binds, hb, hbl⟩ := B s1 HZ P w dV doc pm (.ref c') ctv I1.hok hD
  have rc : codeAny (model P w) (A.deeper (envOfC qg sg s.heap.objs.size g cdg)) (.call (.ref f) ⟨[], []⟩) (CR (L2.CX P w) (envOfC qg sg s.heap.objs.size g cdg :: stack) P w HZ s1 Q E) s1 := by
    refine PySem.W.kla_callFunE hr.depth of1 rfl S.co S.gen rfl ⟨c', oc, vs, t, rfl, hoc, hdc, hvc⟩ ?_
    refine hb _ _ _ _ ?_
    refine wpAny_newFunctionEnv S.own hbl (fun h₁ hns hsb => ⟨I1.nolimit.fresh _ hsb, ?_⟩) S.kind
    show codeAny _ _ (.expr l.body (lEnv l s1.heap.objs.size f c')) _ _
    have kp : ∀ b o, s1.heap.get? b = some o → h₁.get? b = some o := fun b o e => hsb.extBut b o (Nat.ne_of_lt (Heap.lt_size e)) (Heap.get?_push_of_some _ e)
    have J : Inv (lamCx P w K mg base N l (A.deeper (envOfC qg sg s.heap.objs.size g cdg)) (envOfC qg sg s.heap.objs.size g cdg :: stack) s1 HZ E f c') [] σ HZ { s1 with heap := h₁, toks := s1.toks + binds.length } :=
      lam_start I1.env0 hr.hd S C cs hlen un hns kp
    refine PySem.W.kla_codeExpr (wpAny_mono ((hbody _ _ s1 HZ f c' (hr.deeper _)).run [] _ _ HZ Q J ht) (fun v s' hq => ?_) fun e s' hq => hq)
    obtain ⟨w', H', J', rv, q⟩ := hq
    exact ⟨w', H', J'.os, J'.bare, J'.base, J'.hok, rv, q⟩
  have hx : Passes (L2.CX P w) ((cxOf CXg P w K mg base Ng qg sg g cdg A stack s H Eg).tr pn xe) E := passes_call tk hW
  refine wpAny_call (codeAny_mono rc fun r s' hq => ?_)
  cases r with
  | error e => exact hx pinsZ σZ HZ s1 e s' I1 hq
  | ok fl =>
    cases fl with
    | ret u => exact I1.after hq
    | next => exact False.elim hq
    | brk => exact False.elim hq
    | cont => exact False.elim hq
end
/-! ### the two ways to bind -/
theorem bind0 {l : LamD} (hd : l.dfl = none) (h : ∀ (q : Str) (cl : List (Str × Addr)) (doc pm cdv ctv : Value), bindArgs (PySem.W.kdv_fn "<lambda>" q l.params (.expr l.body) l.scope cl .none doc pm cdv ctv) ⟨[], []⟩ = pure []) : BindL l := fun s H P w dV doc pm cdv ctv _ e => by
  rw [hd] at e
  have e : dV = .none := e
  subst e
  exact ⟨[], .of_eq (h _ _ _ _ _ _), fun y hy => absurd hy List.not_mem_nil⟩
theorem bind1 {l : LamD} {i : Int} {x : Str} (hd : l.dfl = some i) (hx : l.scope.names.lookup x = some .local)
    (h : ∀ (q : Str) (cl : List (Str × Addr)) (t : Addr) (doc pm cdv ctv : Value), ∃ k : Option (Array Value) → Sem (List (Str × Value)), bindArgs (PySem.W.kdv_fn "<lambda>" q l.params (.expr l.body) l.scope cl (.ref t) doc pm cdv ctv) ⟨[], []⟩ = seqItems? (.ref t) >>= k ∧ ∀ v, k (some #[v]) = pure [(x, v)]) : BindL l := fun s H P w dV doc pm cdv ctv hk e => by
  rw [hd] at e
  obtain ⟨t, rfl, ht⟩ := e
  obtain ⟨_, its, r, o, ho, hcl, n, hdt⟩ := hk t _ ht
  cases r with
  | cons r rr =>
    cases rr
    obtain ⟨k, h1, h2⟩ := h l.q l.cl t doc pm cdv ctv
    refine ⟨[(x, _)], BindsTo.of_defaults (k := k) rfl ho hdt h1 (h2 _), fun y hy => ?_⟩
    rw [List.mem_singleton] at hy
    subst hy
    exact hx
end LamN
namespace DL
open PySem PySem.Spec PyProof.Rows L2 LamN
/-! ### a lambda as data -/
def dLam (P : Addr) (l : LamD) : DTE := fun _ M Q => M P = some (.tab l.q) ∧ Q (.fn l) M
/-- what a def that makes lambdas knows of its code object -/
structure LamM (X : Cx) (P : Addr) : Prop where
  ex : ∃ c, LamX.TabB X.base X.mg c P ∧ X.env.code = .ref c
def FreeIn (sc scope : Scope) : Bool := scope.names.all fun y => !decide (y.2 = .free) || decide (sc.names.lookup y.1 = some .cell) || decide (sc.names.lookup y.1 = some .free)
theorem freeIn {X : Cx} {scope : Scope} (h : FreeIn X.env.scope scope = true) (ok : X.Ok) : ∀ y ∈ scope.names, y.2 = .free → ∃ c, X.env.cells.lookup y.1 = some c := fun y hy e => by
  have := List.all_eq_true.mp h y hy
  simp only [Bool.or_eq_true, Bool.not_eq_true', decide_eq_true_eq, decide_eq_false_iff_not] at this
  rcases this with (z | z) | z
  · exact absurd e z
  · exact ok.has _ (.inl z)
  · exact ok.has _ (.inr z)
section
variable {X : Cx} {G : GI X.K} {pins : List (Addr × Obj)} {σ : L2.St} {H F : Hp} {M : Mp} {s : Shared} {env : DSt} {Q0 : DQ} {Q : VK} {P : Addr} {params : Arguments} {body : Expr} {scope : Scope} {pos : Pos}
theorem lam_core {q : Str} {dV : Value} {dfl : Option Int} {fl : Nat} (I : Inv X pins σ H s) (hm : LamM X P) (hf : FreeIn X.env.scope scope = true) (hc : Core X.K F H M) (hM : M P = some (.tab q)) (hd : DflAt F dV dfl)
    (hq : Q0 (.fn ⟨q, params, body, scope, cloFrom X.env.cells scope.names [], dfl⟩) M) (hp : Post X.K F H M Q0 Q) :
    wpAny (model X.prog X.w) X.A (makeTail "<lambda>" q params (.expr body) scope X.env dV .none none pos fl) (EP X pins σ Q) X.xe s := by
  obtain ⟨c, TB, hcode⟩ := hm.ex
  obtain ⟨fP, o, hP, ps, rfl, t1, t2⟩ := hc.mem P _ hM
  refine lam_tail I TB hcode hP hc.same ⟨t1, t2⟩ hd (freeIn hf I.ok) fun f F1 H1 s' more I1 s1 s2 hn hk hP1 hT1 hl => ?_
  have f1P : F1 P = none := hn P _ hP fP
  have sF : Same F1 H1 := fun b o e => by
    have := s2 b o e
    dsimp only at this
    split at this
    · rename_i z; rw [z, f1P] at e; cases e
    · exact this
  have cp : CoreP X.K F1 H1 M := ⟨sF, fun a mo e => by
    obtain ⟨n, o, ho, r⟩ := hc.mem a mo e
    refine ⟨hn a o ho n, ?_⟩
    by_cases ha : a = P
    · rw [ha, hM] at e
      cases e
      rw [ha]
      exact ⟨_, hP1, _, rfl, hT1.1, hT1.2⟩
    · exact ⟨o, hk a o ho ha, r.mono s1⟩⟩
  have fr : Fr F H M F1 H1 M := fun a o e n => ⟨hk a o e (fun z => by rw [z, hM] at n; cases n), n, fun z => hn a o e z⟩
  exact ⟨.ref f, H1, I1, rfl, hp _ _ _ _ _ hq s1 fr (hc.to cp s1 fr) (by rw [Rep]; exact ⟨f, rfl, hl⟩)⟩
theorem de_lam {sc : Scope} (hm : LamM X P) (hf : FreeIn sc scope = true) (hsc : X.env.scope = sc := by rfl) (hdef : defaultsOf params X.env = ([], []) := by rfl) : DE X (.Lambda params body scope pos) (dLam P ⟨X.env.qual ++ "<lambda>", params, body, scope, cloFrom X.env.cells scope.names [], none⟩) := by
  refine ⟨fun pins s σ H Q I ⟨F, env, M, Q0, he, hc, ht, hp⟩ => ?_⟩
  subst hsc
  refine PySem.W.kla_eval hdef ?_
  rw [makeFunction_eq]
  simp only [List.zip_nil_right, List.filterMap_nil, List.isEmpty_nil, if_true, pure_bind]
  exact lam_core I hm hf hc ht.1 (show DflAt F .none none from rfl) ht.2 hp
theorem de_lam1 {sc : Scope} {i : Int} {j : Nat} {p : Pos} (hm : LamM X P) (hf : FreeIn sc scope = true) (hsc : X.env.scope = sc := by rfl) (h1 : params.defaults = [.Constant (.int i) j p] := by rfl) (h2 : params.kw_defaults = [] := by rfl) : DE X (.Lambda params body scope pos) (dLam P ⟨X.env.qual ++ "<lambda>", params, body, scope, cloFrom X.env.cells scope.names [], some i⟩) := by
  refine ⟨fun pins s σ H Q I ⟨F, env, M, Q0, he, hc, ht, hp⟩ => ?_⟩
  subst hsc
  refine PySem.W.kdv_lam (by rw [h1]; rfl) h2 ?_
  rw [h1]
  refine PySem.W.kdv_all1 (thn ((pe_int (X := X) (i := i) (pos := p)).run pins s σ H (fun v H1 => v = .int i ∧ H1 = H) I ⟨rfl, rfl⟩) fun u s1 ⟨v, H1, I1, r1, q1⟩ => PySem.W.kdv_all0 ?_)
  obtain ⟨ev, eH⟩ := q1
  subst ev eH
  rw [makeFunction_eq]
  simp only [List.zip_nil_right, List.filterMap_nil, List.isEmpty_nil, List.isEmpty_cons, Bool.false_eq_true, if_false, if_true, pure_bind]
  refine wpAny_bind (wpAny_newTextTuple ?_)
  have n : H1 s1.heap.objs.size = none := I1.hok.fresh (Nat.le_refl _)
  have I2 : Inv X pins σ (upd H1 s1.heap.objs.size (.tup [.int i])) { s1 with heap := s1.heap.push { cls := .type "tuple", data := .seq [u].toArray }, toks := s1.toks } :=
    I1.laid (t' := s1.toks) (a := s1.heap.objs.size) (o := .tup [.int i]) (h' := s1.heap.push { cls := .type "tuple", data := .seq [u].toArray }) (fun b o e => Heap.get?_push_of_some _ e) (Nat.le_refl _) ⟨by show 1 ≤ sizeLine; decide, [u], .cons r1 .nil, _, Heap.get?_push_size _ rfl, rfl, _, rfl⟩
  obtain ⟨c1, s1', f1⟩ := hc.new n (.tup [.int i])
  exact lam_core (dfl := some i) I2 hm hf c1 ht.1 ⟨_, rfl, upd_same⟩ ht.2 (hp.after s1' f1)
end
end DL
namespace LamN
open PySem PySem.Spec PyProof.Rows L2 DL
open L2H (RoomH PinOk cxH inv_startH)
/-! ### a def that is called while an exception is handled; it raises nothing -/
structure FnHP (P : Program) (w : World) (K : PySem.W.Frag) (mg : Str → Option Value) (base : Heap) (p : Addr × Obj) (k : Nat) (f : Addr) (fd : FuncData) (ps : List Str) (sp : Sp) : Prop where
  len : ∀ vs H Q E, sp vs H Q E → vs.length = ps.length
  run : ∀ (A : Around) (outer : List Env) (s : Shared) (H : Hp) (args : Args) (us : List Value) (vs : List V) (Q : VK) (E : XK), RoomH k A → PinOk outer H s p → Env0 P w K mg base A outer s H → BindsTo s fd args (ps.zip us) → Vals vs us → sp vs H Q E →
    codeAny (model P w) A (.call (.ref f) args) (CR CX0 outer P w H s Q E) s
section
variable {P : Program} {w : World} {K : PySem.W.Frag} {mg : Str → Option Value} {base : Heap} {k : Nat} {f : Addr} {N ps : List Str} {sp : Sp} {p : Addr × Obj}
theorem fn_ofHP {name qual : Str} {params : Arguments} {body : List Stmt} {scope : Scope} {dV kV doc pm cdv ct oc : Value} {an od : Option Addr} {osl : Array (Option Value)}
    (lk : K.lookup f = some ⟨oc, od, .func (PySem.W.fnOf name qual params body scope dV kV doc pm an cdv ct), osl⟩) (hcd : PySem.W.codeIn K cdv qual = true) (S : FnScope N ps scope) (len : ∀ vs H Q E, sp vs H Q E → vs.length = ps.length)
    (hbody : ∀ (A : Around) (outer : List Env) (s : Shared) (H : Hp) (vs : List V) (Q : VK) (E : XK), RoomH k (A.deeper (envOfC qual scope s.heap.objs.size f cdv)) → sp vs H Q E →
      ∃ t, PSs (cxH CX0 P w K mg base N qual scope f cdv A outer s H E p) body t ∧ t { nx := fun _ H' => Q .non H', rt := Q } (L2.start N vs) H) :
    FnHP P w K mg base p (k + 1) f (PySem.W.fnOf name qual params body scope dV kV doc pm an cdv ct) ps sp := by
  refine ⟨len, fun A outer s H args us vs Q E hr hpin e0 hb r hsp => ?_⟩
  have hl := len _ _ _ _ hsp
  have KX : K.In s.heap := e0.mod.kin.keeps fun b o e => (e0.bs b o e).1
  have kinds : ∀ y ∈ ps.zip us, scope.names.lookup y.1 = some .local ∨ (scope.names.lookup y.1 = some .cell ∧ ((cellsFrom (s.heap.objs.size + 1) scope.names []).lookup y.1).isSome = true) := fun ⟨n, v⟩ hy =>
    (S.par n (List.of_mem_zip hy).1).elim .inl fun q => .inr ⟨q, PySem.W.cellsFrom_some _ _ _ (.inl q)⟩
  refine codeAny_call_function (RoomH.depth hr) (KX _ _ lk) rfl S.co S.gen rfl (PySem.W.codeRec_of KX hcd) (hb _ _ _ _ (wpAny_newFunctionEnv_cells S.kind kinds fun env he s1 x => ?_))
  subst he
  refine ⟨(e0.mod.nolimit.keeps fun b o e => (e0.bs b o e).1).keeps x.toInCall.keep, codeAny_func ?_⟩
  obtain ⟨t, ht, hq⟩ := hbody A outer s H vs Q E (hr.deeper _) hsp
  have I0 : Inv (cxH CX0 P w K mg base N qual scope f cdv A outer s H E p) [] (L2.start N vs) H s1 := inv_startH S hpin e0 hl r x
  refine wpAny_mono (ht.run [] s1 (L2.start N vs) H _ I0 hq) (fun fl s' hs => ?_) fun e s' hs => hs
  have done : ∀ {σ' : L2.St} {H' : Hp} {v : V} {u : Value}, Inv (cxH CX0 P w K mg base N qual scope f cdv A outer s H E p) [] σ' H' s' → RelV v u → Q v H' → CE outer P w H s Q u s' :=
    fun {σ' H' v u} J rv q => ⟨v, H', J.os, J.bare, J.base, J.hok, rv, q⟩
  cases fl with
  | ret u => obtain ⟨v, σ', H', J, rv, q⟩ := hs; exact done J rv q
  | next => obtain ⟨σ', H', J, q⟩ := hs; exact done (v := V.non) (u := Value.none) J rfl q
  | brk => obtain ⟨_, _, _, q⟩ := hs; exact q.elim
  | cont => obtain ⟨_, _, _, q⟩ := hs; exact q.elim
end
section
variable {X : Cx} {k : Nat} {f C a : Addr} {fd : FuncData} {ps : List Str} {sp : Sp} {x n : Str} {q pos : Pos} {e : Expr} {es : List Expr} {t : TA} {te : TE} {p : Addr × Obj} {oe : Obj} {cls : Value} {d : Option Addr}
theorem pe_callHP (F : FnHP X.prog X.w X.K X.mg X.base p k f fd ps sp) (hr : RoomH k X.A) (hp : p ∈ X.pn) (hg : Gl X x) (hm : X.mg x = some (.ref f)) (hk : PySem.W.keepIn X.K (.ref f) = true) (hb : Binds X.K fd ps [])
    (ha : PA X (e :: es) t) (hdb : (x == ("__debug__" : Str)) = false := by decide) (he : starEach (e :: es) X.env = (false, eval e X.env) :: starEach es X.env := by rfl) (hpl : (backTo pos (starEach es X.env)).any (·.1) = false := by rfl) :
    PE X (.Call (.Name x q) (e :: es) [] pos) (fun σ H Q => t σ H fun vs H1 => sp vs H1 Q L2.E0) := by
  refine ⟨fun pins s σ H Q I h => wpAny_Call_Name_kw (ld_glob I hg hm ?_ hdb)⟩
  refine PySem.W.callWith_K (h₀ := X.base) I.ok.mod.kin hk (thn (ha.run pos pins s σ H _ I h) fun us s1 ⟨vs, H1, I1, r, h1⟩ => ⟨I1.kIn, ?_⟩) he hpl
  have hl : us.length = ps.length := by rw [← r.length]; exact F.len _ _ _ _ h1
  have b := hb s1 us I1.kIn (by rw [List.append_nil]; exact hl)
  rw [List.append_nil] at b
  have P1 := I1.pin p (List.mem_append_left _ hp)
  refine wpAny_call (codeAny_mono (F.run X.A X.stack s1 H1 ⟨us, []⟩ us vs Q L2.E0 hr ⟨P1.1, P1.2.1, fun hm => (List.mem_cons.mp (I1.stkSub p.1 hm)).elim P1.2.2.1 P1.2.2.2.1, P1.2.2.2.2⟩ I1.env0 b r h1) fun r' s' hq => ?_)
  cases r' with
  | error e' => exact (show False from hq).elim
  | ok fl =>
    cases fl with
    | ret u => exact I1.after hq
    | next => exact hq.elim
    | brk => exact hq.elim
    | cont => exact hq.elim
/-- e.n of the exception that is handled -/
theorem pe_xfP (T : XfC X.K C) (hno : PySem.W.findIn X.K (.ref C) n = some none) (hz : Zc cls d oe) (hf : ∃ vs, oe.data = .fields vs) (hp : (a, oe) ∈ X.pn) (he : PE X e te) (hb : attributeBase e n X.env (eval e X.env) = eval e X.env := by rfl) :
    PE X (.Attribute e n pos) (tXf a cls d C n te) := by
  refine ⟨fun pins s σ H Q I h => attr_of hb (thn (he.run pins s σ H _ I h) fun u s1 ⟨x, H1, I1, rx, ex, ec, dd, fs, v, ed, ea, l, q⟩ => ?_)⟩
  subst ex ec ed
  obtain rfl : u = Value.ref a := rx
  obtain ⟨vs, hd⟩ := hf
  obtain ⟨mA, hns, hr⟩ : ObjOk X.prog X.w H1 s1.heap dd (.xd fs) := I1.hok dd _ ea
  obtain ⟨od, ho, hl⟩ := lookIn_ns hns
  obtain ⟨u, hu, ru⟩ := RelO.some_of (v := v) (o := mA n) (by rw [← l]; exact hr n)
  have J : PySem.W.InstAt s1.heap a oe C (some od) := ⟨(I1.pin (a, oe) (List.mem_append_left _ hp)).1, hz.1, by unfold PySem.W.notCls; rw [hd] <;> rfl, by rw [hz.2]; exact ho⟩
  exact HandSPX.exc_get I1.kIn J T.ga T.gg T.exC (PySem.W.findObj_own T.hdC hno rfl (by rw [hl, hu])) (handed_of ru) ⟨v, H1, I1.tok _, ru, q⟩
end
end LamN
namespace DL
open PySem PySem.Spec PyProof.Rows L2 LamN
/-! ### by data -/
/-- a class of exceptions whose fields may be read -/
structure XCls (K : PySem.W.Frag) (C : Addr) (fields : List Str) : Prop where
  xc : XfC K C
  no : ∀ n ∈ fields, PySem.W.findIn K (.ref C) n = some none
theorem de_xfP {X : Cx} {G : GI X.K} {a C dd : Addr} {oe : Obj} {e : Expr} {te : DTE} {pos : Pos} {n : Str} {fs : List (Str × D)} {fields : List Str} (T : Tells X.K G dd fs) (xc : XCls X.K C fields) (hz : Zc (.ref C) (some dd) oe) (hf : ∃ vs, oe.data = .fields vs) (hp : (a, oe) ∈ X.pn) (hn : n ∈ fields)
    (he : DE X e te) (hb : attributeBase e n X.env (eval e X.env) = eval e X.env := by rfl) : DE X (.Attribute e n pos) (dXf a fs n te) :=
  PE.imp (pe_xfP xc.xc (xc.no n hn) hz hf hp he hb) (l_xf T)
def fieldNames : List Str := ["tag", "given", "limit", "name", "label", "number", "first", "at"]
def tagIn (t : Str) (l : List Str) : Bool := (l.map D.str).any fun z => D.eqv z (.str t)
def lawField (fs : List (Str × D)) : Option (Str × D) := match fs.lookup ("tag" : Str) with
  | some (.str t) => (if tagIn t ["InvalidCounts", "Endless", "Unlike", "NotASum", "NoWord", "NothingLeft"] = true then some .non
    else if tagIn t ["InvalidNumber", "InvalidLimit"] = true then fs.lookup ("given" : Str)
    else if tagIn t ["TooLong", "TooWide", "CapacityExceeded"] = true then fs.lookup ("limit" : Str)
    else if tagIn t ["InvalidName", "DuplicateName", "UnknownName"] = true then fs.lookup ("name" : Str)
    else if tagIn t ["InUse", "Broken"] = true then fs.lookup ("label" : Str)
    else if (t == "UnknownRule") = true then fs.lookup ("number" : Str)
    else if (t == "InvalidCommand") = true then fs.lookup ("first" : Str) else fs.lookup ("at" : Str)).map fun d => (t, d)
  | _ => none
abbrev dTg (a : Addr) (fs : List (Str × D)) : DTE := dXf a fs "tag" (dVar 0)
abbrev dIn (a : Addr) (fs : List (Str × D)) (tr : DTA) : DTT := dTB (dOp (rInD false) (dTg a fs) (dTup tr))
abbrev dC1 (x : Str) (r : DTA) : DTA := dCons (dC (.str x)) r
/-- the reading of _law_field -/
def tField (a : Addr) (fs : List (Str × D)) : DTS :=
  dSeq (dIfS (dIn a fs (dC1 "InvalidCounts" (dC1 "Endless" (dC1 "Unlike" (dC1 "NotASum" (dC1 "NoWord" (dC1 "NothingLeft" dNil))))))) (dRet (dC .non)) dNext)
  (dSeq (dIfS (dIn a fs (dC1 "InvalidNumber" (dC1 "InvalidLimit" dNil))) (dRet (dXf a fs "given" (dVar 0))) dNext)
  (dSeq (dIfS (dIn a fs (dC1 "TooLong" (dC1 "TooWide" (dC1 "CapacityExceeded" dNil)))) (dRet (dXf a fs "limit" (dVar 0))) dNext)
  (dSeq (dIfS (dIn a fs (dC1 "InvalidName" (dC1 "DuplicateName" (dC1 "UnknownName" dNil)))) (dRet (dXf a fs "name" (dVar 0))) dNext)
  (dSeq (dIfS (dIn a fs (dC1 "InUse" (dC1 "Broken" dNil))) (dRet (dXf a fs "label" (dVar 0))) dNext)
  (dSeq (dIfS (dTB (dOp (rEqW false) (dTg a fs) (dC (.str "UnknownRule")))) (dRet (dXf a fs "number" (dVar 0))) dNext)
  (dRet (dIf (dTB (dOp (rEqW false) (dTg a fs) (dC (.str "InvalidCommand")))) (dXf a fs "first" (dVar 0)) (dXf a fs "at" (dVar 0)))))))))
theorem in_str {t : Str} {l : List Str} {M : Mp} {Q : DQ} : rInD false (.str t) (.tup (l.map D.str)) M Q = Q (.bl (tagIn t l)) M := by
  have h : (l.map D.str).all flatD = true := List.all_eq_true.mpr fun d hd => by obtain ⟨x, _, rfl⟩ := List.mem_map.mp hd; rfl
  show ((flatD (.str t) = true ∧ (l.map D.str).all flatD = true) ∧ Q (.bl (false ^^ tagIn t l)) M) = _
  rw [h, Bool.false_xor]
  exact propext ⟨fun z => z.2, fun z => ⟨⟨rfl, rfl⟩, z⟩⟩
theorem dIn_ap {a : Addr} {fs : List (Str × D)} {t : Str} {M : Mp} {env : DSt} {l : List Str} {tr : DTA} {Q : Bool → Mp → Prop} (he : env[0]? = some (some (.ptr a))) (ht : fs.lookup ("tag" : Str) = some (.str t)) (hr : ∀ R, tr env M R = R (l.map D.str) M) (hl : l.length ≤ 1000) : dIn a fs tr env M Q = Q (tagIn t l) M := by
  unfold dIn dTg dXf
  simp only [dTB_ap, dOp_ap, dVar_ap, he, ht, dTup_ap, hr, in_str, true_and, Option.some.injEq, exists_eq_left', List.length_map]
  have : l.length ≤ sizeLine := by rw [sizeLine_eq]; omega
  simp [this]
theorem dEq_ap {a : Addr} {fs : List (Str × D)} {t x : Str} {M : Mp} {env : DSt} {Q : Bool → Mp → Prop} (he : env[0]? = some (some (.ptr a))) (ht : fs.lookup ("tag" : Str) = some (.str t)) : dTB (dOp (rEqW false) (dTg a fs) (dC (.str x))) env M Q = Q (t == x) M := by
  unfold dTg dXf
  simp only [dTB_ap, dOp_ap, dVar_ap, he, ht, dC_ap, rEqW_ss, Bool.false_xor, true_and, Option.some.injEq, exists_eq_left']
theorem dXf_of {a : Addr} {fs : List (Str × D)} {n : Str} {x : D} {M : Mp} {env : DSt} {Q : DQ} (he : env[0]? = some (some (.ptr a))) (e : fs.lookup n = some x) (q : Q x M) : dXf a fs n (dVar 0) env M Q := by
  unfold dXf
  simp only [dVar_ap, he]
  exact ⟨trivial, x, e, q⟩
theorem rd_field {a : Addr} {fs : List (Str × D)} {t : Str} {d : D} {E : DEnds} {M : Mp} {env : DSt} (he : env[0]? = some (some (.ptr a))) (h : lawField fs = some (t, d)) (q : E.rt d M) : tField a fs E env M := by
  unfold lawField at h
  cases ht : fs.lookup ("tag" : Str) with
  | none => rw [ht] at h; cases h
  | some z =>
    rw [ht] at h
    cases z with
    | str t' =>
      dsimp only at h
      obtain ⟨x, hx, e⟩ := Option.map_eq_some_iff.mp h
      cases e
      unfold tField
      have r : ∀ (l : List Str), True := fun _ => trivial
      simp only [dSeq_ap, dIfS_ap, dNext_ap, dRet_ap, dC_ap]
      rw [dIn_ap he ht (l := ["InvalidCounts", "Endless", "Unlike", "NotASum", "NoWord", "NothingLeft"]) (fun R => rfl) (by decide)]
      split at hx
      · rename_i g; rw [if_pos g]; cases hx; exact q
      rename_i g; rw [if_neg g]
      rw [dIn_ap he ht (l := ["InvalidNumber", "InvalidLimit"]) (fun R => rfl) (by decide)]
      split at hx
      · rename_i g; rw [if_pos g]; exact dXf_of he hx q
      rename_i g; rw [if_neg g]
      rw [dIn_ap he ht (l := ["TooLong", "TooWide", "CapacityExceeded"]) (fun R => rfl) (by decide)]
      split at hx
      · rename_i g; rw [if_pos g]; exact dXf_of he hx q
      rename_i g; rw [if_neg g]
      rw [dIn_ap he ht (l := ["InvalidName", "DuplicateName", "UnknownName"]) (fun R => rfl) (by decide)]
      split at hx
      · rename_i g; rw [if_pos g]; exact dXf_of he hx q
      rename_i g; rw [if_neg g]
      rw [dIn_ap he ht (l := ["InUse", "Broken"]) (fun R => rfl) (by decide)]
      split at hx
      · rename_i g; rw [if_pos g]; exact dXf_of he hx q
      rename_i g; rw [if_neg g]
      rw [dEq_ap he ht]
      split at hx
      · rename_i g; rw [if_pos g]; exact dXf_of he hx q
      rename_i g; rw [if_neg g]
      rw [dIf_ap, dEq_ap he ht]
      split at hx
      · rename_i g; rw [if_pos g]; exact dXf_of he hx q
      rename_i g; rw [if_neg g]
      exact dXf_of he hx q
    | _ => cases h
end DL
namespace DL
open PySem PySem.Spec PyProof.Rows L2 LamN
open L2H (RoomH cxH wAs3)
theorem roomH_mark {k : Nat} {A : Around} (r : Room k A) (h : Option Value) : RoomH k (A.mark h) := ⟨r.dp, r.un⟩
theorem lawField_tag {fs : List (Str × D)} {t : Str} {d : D} (h : lawField fs = some (t, d)) : fs.lookup ("tag" : Str) = some (.str t) := by
  unfold lawField at h
  split at h
  · rename_i z e
    obtain ⟨x, _, e2⟩ := Option.map_eq_some_iff.mp h
    cases e2
    exact e
  · cases h
/-- what _law_field keeps -/
def lSpF (K : PySem.W.Frag) (a dd : Addr) (fs : List (Str × D)) : Sp := fun vs H Q _ => ∃ F M Q0 xs, vs = [.ref a] ∧ CoreP K F H M ∧ F dd = some (.xd xs) ∧ RepF K F fs xs ∧ (∃ t d, lawField fs = some (t, d) ∧ Q0 d M) ∧ PostP K F H M Q0 Q
theorem tells_entry {K : PySem.W.Frag} {F H : Hp} {M : Mp} {dd : Addr} {xs : List (Str × V)} {fs : List (Str × D)} (h : F dd = some (.xd xs)) (r : RepF K F fs xs) : Tells K (entryG K F H M) dd fs := fun {F' H' M'} g => ⟨xs, g.1 _ _ h, RepF.mono g.1 _ _ r⟩
theorem field_ok {P : Program} {w : World} {K : PySem.W.Frag} {mg : Str → Option Value} {base : Heap} {st : Stmt} {f : Addr} {fd : FuncData} {dvs : List V} {kws : List (Str × V)} (Fd : FnD K "_law_field" "_law_field" st dvs kws f fd) (S : FnScope ["_law_e"] ["_law_e"] (defScope st)) {a dd : Addr} {oe : Obj} {fs : List (Str × D)}
    (hbody : ∀ (cdv : Value) (A : Around) (outer : List Env) (s : Shared) (H : Hp) (E : XK) (G : GI K), Tells K G dd fs → RoomH 0 (A.deeper (envOfC "_law_field" (defScope st) s.heap.objs.size f cdv)) → @DSs (cxH CX0 P w K mg base ["_law_e"] "_law_field" (defScope st) f cdv A outer s H E (a, oe)) G (defBody st) (tField a fs)) :
    FnHP P w K mg base (a, oe) 1 f fd ["_law_e"] (lSpF K a dd fs) := by
  obtain ⟨oc, od, dV, kV, doc, pm, an, cdv, ct, osl, rfl, lk, hcd, _, _⟩ := Fd.ex
  refine fn_ofHP lk hcd S (fun vs H Q E ⟨F, M, Q0, xs, e, _⟩ => by rw [e]; rfl) fun A outer s H vs Q E hr ⟨F, M, Q0, xs, e, c, hd, rf, ⟨t, d, hl, q⟩, p⟩ => ?_
  subst e
  refine ⟨_, hbody cdv A outer s H E (entryG K F H M) (tells_entry hd rf) hr, F, startD ["_law_e"] [.ptr a], M, bodyE K Q0, ?_, ?_, ?_, ?_⟩
  · exact start_env (Reps.one (by rw [Rep]))
  · exact @Core.mk K (entryG K F H M) F H M c ⟨Same.refl F, Fr.refl⟩
  · exact rd_field rfl hl (Fin.same q)
  · exact @fin_ok K (entryG K F H M) F H M Q0 Q (@PostP.post K (entryG K F H M) F H M Q0 Q p)
/-! ### _law_why -/
/-- what is kept of it, of _law_field, of the classes cs that may be caught -/
structure WhyF (P : Program) (w : World) (K : PySem.W.Frag) (mg : Str → Option Value) (base : Heap) (cs : List Addr) : Prop where
  ex : ∃ (st : Stmt) (g gf : Addr) (fd fdf : FuncData) (CT CM CN : Value), FnD K "_law_why" "_law_why" st [] [] g fd ∧ FnScope ["_law_ask", "_law_e"] ["_law_ask"] (defScope st) ∧ mg "_law_why" = some (.ref g) ∧ Binds K fd ["_law_ask"] [] ∧
    (∃ (j1 j2 j3 kk : Nat) (p1 p2 p3 p4 p5 q1 q2 q3 q0 p6 p7 p8 p9 p10 p11 p12 p13 p14 : Pos), defBody st = [.Try [.Return (some (.Tuple [.Constant (.str "") j1 p1, .Call (.Name "_law_ask" p2) [] [] p3] j2 p4)) p5]
      [.ExceptHandler (some (.Tuple [.Name "TownError" q1, .Name "Missing" q2, .Name "NothingLeft" q3] kk q0)) (some "_law_e") [.Return (some (.Tuple [.Attribute (.Name "_law_e" p6) "tag" p7, .Call (.Name "_law_field" p8) [.Name "_law_e" p9] [] p10] j3 p11)) p12] p13] [] [] p14]) ∧
    (defScope st).names.lookup ("_law_e" : Str) = some .local ∧ (defScope st).names.lookup ("_law_ask" : Str) = some .local ∧
    ((defScope st).names.lookup ("TownError" : Str) = some .globalImplicit ∧ (defScope st).names.lookup ("Missing" : Str) = some .globalImplicit ∧ (defScope st).names.lookup ("NothingLeft" : Str) = some .globalImplicit ∧ (defScope st).names.lookup ("_law_field" : Str) = some .globalImplicit) ∧
    (mg "TownError" = some CT ∧ mg "Missing" = some CM ∧ mg "NothingLeft" = some CN) ∧ (mg "_law_field" = some (.ref gf) ∧ PySem.W.keepIn K (.ref gf) = true ∧ Binds K fdf ["_law_e"] []) ∧
    (∀ (a : Addr) (oe : Obj) (C dd : Addr) (fs : List (Str × D)), XCls K C fieldNames → Zc (.ref C) (some dd) oe → (∃ vs, oe.data = .fields vs) → FnHP P w K mg base (a, oe) 1 gf fdf ["_law_e"] (lSpF K a dd fs)) ∧
    ∀ C ∈ cs, XCls K C fieldNames ∧ PySem.W.exmAny K (.ref C) [CT, CM, CN] = some true
/-- what is raised, told as a pair -/
def whyX (cs : List Addr) (Q : DQ) : DX := fun cls fs M2 => ∃ C ∈ cs, cls = .ref C ∧ ∃ t d, lawField fs = some (t, d) ∧ Q (.tup [.str t, d]) M2
def whyB (cs : List Addr) (tbs : List (LamD × (DX → DTE))) (env : DSt) (M1 : Mp) (Q : DQ) (x : D) : Prop := ∃ p ∈ tbs, x = .fn p.1 ∧ p.2 (whyX cs Q) env M1 fun v M2 => Q (.tup [.str "", v]) M2
def dWhy (cs : List Addr) (tbs : List (LamD × (DX → DTE))) (te : DTE) : DTE := fun env M Q => te env M fun x M1 => whyB cs tbs env M1 Q x
def dCallF (a : Addr) (fs : List (Str × D)) (tr : DTA) : DTE := fun env M Q => tr env M fun ds M1 => ds = [.ptr a] ∧ ∃ t d, lawField fs = some (t, d) ∧ Q d M1
/-- a lambda that is known where it is called: its cells, its body's reading -/
structure LamOkR (X : Cx) (R : L2.St → Prop) (k : Nat) (l : LamD) (tb : DX → DTE) : Prop where
  s : LamS X.N l.scope
  b : BindL l
  c : ∀ {pins : List (Addr × Obj)} {σ : L2.St} {H : Hp} {s : Shared}, Inv X pins σ H s → R σ → LamC l ∧ CellsAt X.N l σ H s.heap
  t : ∀ (E : XK) (E0 : DX) (A : Around) (outer : List Env) (s : Shared) (H : Hp) (f c' : Addr), Room k (A.deeper (lEnv l s.heap.objs.size f c')) → ∀ G : GI X.K, @Wish X.K G E0 E → @DE (lamCx X.prog X.w X.K X.mg X.base X.N l A outer s H E f c') G l.body (tb E0)
abbrev LamOk (X : Cx) (k : Nat) (l : LamD) (tb : DX → DTE) : Prop := LamOkR X (fun _ => True) k l tb
/-- the handler's value -/
def tSuf (a : Addr) (fs : List (Str × D)) : DTS := dRet (dTup (dCons (dXf a fs "tag" (dVar 1)) (dCons (dCallF a fs (dCons (dVar 1) dNil)) dNil)))
theorem suite_why {Y : Cx} {G' : GI Y.K} {a C dd gf : Addr} {oe : Obj} {fs : List (Str × D)} {fdf : FuncData} {p6 p7 p8 p9 p10 p11 p12 : Pos} {j3 : Nat} (T : Tells Y.K G' dd fs) (xc : XCls Y.K C fieldNames) (hz : Zc (.ref C) (some dd) oe) (hf : ∃ vs, oe.data = .fields vs)
    (FH : FnHP Y.prog Y.w Y.K Y.mg Y.base (a, oe) 1 gf fdf ["_law_e"] (lSpF Y.K a dd fs)) (hr : RoomH 1 Y.A) (mem : (a, oe) ∈ Y.pn) (hN : Y.N[1]? = some ("_law_e" : Str)) (hv : Vis Y.env.scope ("_law_e" : Str)) (gF : Gl Y "_law_field") (mF : Y.mg "_law_field" = some (.ref gf)) (kF : PySem.W.keepIn Y.K (.ref gf) = true) (bF : Binds Y.K fdf ["_law_e"] []) :
    DSs Y [.Return (some (.Tuple [.Attribute (.Name "_law_e" p6) "tag" p7, .Call (.Name "_law_field" p8) [.Name "_law_e" p9] [] p10] j3 p11)) p12] (tSuf a fs) := by
  have callF : DE Y (.Call (.Name "_law_field" p8) [.Name "_law_e" p9] [] p10) (dCallF a fs (dCons (dVar 1) dNil)) := by
    refine PE.imp (pe_callHP FH hr mem gF mF kF bF (da_cons (dv 1 hN hv) da_nil)) fun σ H Q ⟨F, env, M, Q0, he, hc, ht, hp⟩ => ⟨F, env, M, _, he, hc, ht, fun ds M1 F1 H1 vs ⟨e, t, d, hl, q⟩ s1 f1 c1 r1 => ?_⟩
    subst e
    rw [Reps] at r1
    obtain ⟨v, r, rfl, r2, r3⟩ := r1
    rw [Reps] at r3
    rw [Rep] at r2
    subst r2 r3
    obtain ⟨xs, hd, rf⟩ := T c1.g
    exact ⟨F1, M1, _, xs, rfl, c1.toCoreP, hd, rf, ⟨t, d, hl, q⟩, (hp.after s1 f1).plain c1⟩
  exact dss_one (ds_ret (de_tup (da_cons (de_xfP T xc hz hf mem (by decide) (dv 1 hN hv)) (da_cons callF da_nil))))
theorem pe_why {X : Cx} {G : GI X.K} {R : L2.St → Prop} {cs : List Addr} {tbs : List (LamD × (DX → DTE))} {arg : Expr} {te : DTE} {k : Nat} {p pos : Pos} (W : WhyF X.prog X.w X.K X.mg X.base cs) (hr : Room (k + 2) X.A) (ha : DE X arg te) (hl : ∀ p ∈ tbs, LamOkR X R k p.1 p.2) (hg : Gl X "_law_why" := by rfl)
    (hst : starEach [arg] X.env = (false, eval arg X.env) :: starEach [] X.env := by rfl) (hpl : (backTo pos (starEach [] X.env)).any (·.1) = false := by rfl) : PE X (.Call (.Name "_law_why" p) [arg] [] pos) (fun σ H Q => R σ ∧ lE X.K (dWhy cs tbs te) σ H Q) := by
  obtain ⟨st, g, gf, fd, fdf, CT, CM, CN, Fw, Sw, mw, bw, ⟨j1, j2, j3, kk, p1, p2, p3, p4, p5, q1, q2, q3, q0, p6, p7, p8, p9, p10, p11, p12, p13, p14, hbd⟩, le, la, ⟨gT, gM, gN, gF⟩, ⟨mT, mM, mN⟩, ⟨mF, kF, bF⟩, hF, hcs⟩ := W.ex
  have kg := Fw.kp
  obtain ⟨oc, od, dV, kV, doc, pm, an, cdv, ct, osl, rfl, lk, hcd, _, _⟩ := Fw.ex
  refine ⟨fun pins s σ H Q I ⟨hR, F, env, M, Q0, he, hc, ht, hp⟩ => wpAny_Call_Name_kw (ld_glob I hg mw ?_ (by decide))⟩
  refine PySem.W.callWith_K (h₀ := X.base) I.ok.mod.kin kg (thn ((da_cons ha da_nil hst).run pos pins s σ H (fun vs H1 => ∃ F1 M1 f l tb, vs = [.ref f] ∧ (l, tb) ∈ tbs ∧ Same F F1 ∧ Fr F H M F1 H1 M1 ∧ Core X.K F1 H1 M1 ∧ LamAt F1 f l ∧ tb (whyX cs Q0) env M1 fun v M2 => Q0 (.tup [.str "", v]) M2) I
    ⟨F, env, M, fun ds M1 => (match ds with | [x] => whyB cs tbs env M1 Q0 x | _ => False), he, hc, ht, fun ds M1 F1 H1 vs q s1 f1 c1 r1 => ?_⟩) fun us s1 ⟨vs, H1, I1, r, F1, M1, f, l, tb, ev, hm, s1', f1, c1, hL, q⟩ => ⟨I1.kIn, ?_⟩) hst hpl
  · match ds, q, r1 with
    | [x], q, r1 =>
      obtain ⟨⟨l, tb⟩, hm, rfl, q⟩ := q
      rw [Reps] at r1
      obtain ⟨v, r, rfl, r2, r3⟩ := r1
      rw [Reps] at r3
      subst r3
      rw [Rep] at r2
      obtain ⟨f, rfl, hL⟩ := r2
      exact ⟨F1, M1, f, l, tb, rfl, hm, s1, f1, c1, hL, q⟩
  subst ev
  cases r with
  | cons r rr =>
  cases rr
  obtain rfl := r
  have L := hl _ hm
  obtain ⟨C, cells⟩ := L.c I1 hR
  have hpq := hp.after s1' f1
  have vis : Vis (defScope st) ("_law_ask" : Str) := Or.inl la
  refine wpAny_call (codeAny_mono (LamX.run_ofS (CX := CX0) (k := k + 1) (N := ["_law_ask", "_law_e"]) (ps := ["_law_ask"]) (us := [.ref f]) (vs := [.ref f]) (Q := Q) (E := L2.E0) lk hcd Sw hr I1.env0 (bw s1 [.ref f] I1.kIn rfl) (.cons rfl .nil) rfl fun hr' => ?_) fun r' s' hq => ?_)
  · rw [hbd]
    refine ⟨_, PSs.nox (pss_one (L2H.ps_try_three (X := (cxOf CX0 X.prog X.w X.K X.mg X.base ["_law_ask", "_law_e"] "_law_why" (defScope st) g cdv X.A X.stack s1 H1 L2.E0).nox) (i := 1) (c1 := CT) (c2 := CM) (c3 := CN) (Wout := fun _ _ _ _ => False)
      (tb := fun W => tRet (tTup (tCons (tC (.str "")) (tCons (fun σZ HZ Q => ∃ f, σZ[0]? = some (some (.ref f)) ∧ LamAt HZ f l ∧ ∃ (G' : GI X.K) (E0' : DX), @Wish X.K G' E0' (anyE 2 W) ∧ @lE X.K G' (tb E0') σ HZ Q) tNil))))
      (ts := fun a cls d De σ H => ∃ (C dd : Addr) (fs : List (Str × D)) (G' : GI X.K), cls = .ref C ∧ d = some dd ∧ C ∈ cs ∧ Tells X.K G' dd fs ∧ @lS X.K G' (tSuf a fs) De σ H)
      rfl rfl Sw.nd rfl le ⟨gT, by decide, .inl mT⟩ ⟨gM, by decide, .inl mM⟩ ⟨gN, by decide, .inl mN⟩ LamX.takes0 (fun W pn xe _ tk _ => ?_) fun a oe cls d pn hz hf => ?_)), ?_⟩
    · -- the body
      have tk2 : Takes ((cxOf CX0 X.prog X.w X.K X.mg X.base ["_law_ask", "_law_e"] "_law_why" (defScope st) g cdv X.A X.stack s1 H1 L2.E0).tr pn xe) (WE (anyE 2 W)) := takes_any (X := (cxOf CX0 X.prog X.w X.K X.mg X.base ["_law_ask", "_law_e"] "_law_why" (defScope st) g cdv X.A X.stack s1 H1 L2.E0).tr pn xe) tk
      have act := pe_act (CXg := CX0) (Eg := L2.E0) (W := WE (anyE 2 W)) (E := anyE 2 W) (i := 0) (a := "_law_ask") (p1 := p2) (p2 := p3) (tb := fun σ H Q => ∃ (G' : GI X.K) (E0' : DX), @Wish X.K G' E0' (anyE 2 W) ∧ @lE X.K G' (tb E0') σ H Q) L.s C L.b cells I1.len tk2 (fun _ _ _ _ h => h) hr'
        (fun A outer s H f c' hr2 => ⟨fun pins s σ H Q I ⟨G', E0', ws, q⟩ => (L.t (anyE 2 W) E0' A outer _ _ f c' hr2 G' ws).run pins s σ H Q I q⟩) rfl vis
      exact pss_one (ps_ret (pe_tup (pa_cons pe_str (pa_cons act pa_nil))))
    · -- the suite
      refine ⟨fun pins s σ H D I ⟨C, dd, fs, G', ec, ed, hC, T, q⟩ => ?_⟩
      subst ec ed
      exact (suite_why (Y := (cxOf CX0 X.prog X.w X.K X.mg X.base ["_law_ask", "_law_e"] "_law_why" (defScope st) g cdv X.A X.stack s1 H1 L2.E0).nox.suite a ((a, oe) :: pn)) (G' := G') T (hcs C hC).1 hz hf (hF a oe C dd fs (hcs C hC).1 hz hf) (roomH_mark (hr'.mono (by omega)) _) List.mem_cons_self rfl (Or.inl le) gF mF kF bF).run pins s σ H D I q
    · -- the reading
      refine ⟨f, rfl, hL.mono c1.same, entryG X.K F1 H1 M1, whyX cs Q0, ?_, F1, env, M1, _, he.mono s1', @Core.mk X.K (entryG X.K F1 H1 M1) F1 H1 M1 c1.toCoreP ⟨Same.refl F1, Fr.refl⟩, q, ?_⟩
      · intro c fs M' F' H' dd vs hx hcr hdd hrf σ' hσ
        obtain ⟨C, hC, rfl, t, d, hl, q⟩ := hx
        have gg := @Core.g X.K (entryG X.K F1 H1 M1) F' H' M' hcr
        have cp := @Core.toCoreP X.K (entryG X.K F1 H1 M1) F' H' M' hcr
        refine ⟨true, (hcs C hC).2, fun _ a na => ⟨C, dd, fs, entryG X.K F' H' M', rfl, rfl, hC, tells_entry hdd hrf, F', [none, some (.ptr a)], M', { nx := fun _ _ => False, rt := Q0 }, ?_, @Core.mk X.K (entryG X.K F' H' M') F' H' M' cp ⟨Same.refl F', Fr.refl⟩, ?_, ?_⟩, fun z => by cases z⟩
        · refine ⟨by rw [List.length_set, hσ]; rfl, fun i d e => ?_⟩
          match i, e with
          | 1, e =>
            cases e
            exact ⟨.ref a, List.getElem?_set_self (by rw [hσ]; decide), by rw [Rep]⟩
        · unfold tSuf
          simp only [dRet, dTup, dCons, dNil, dXf, dVar, dCallF, List.getElem?_cons_succ, List.getElem?_cons_zero]
          exact ⟨trivial, _, lawField_tag hl, trivial, t, d, hl, by show 2 ≤ sizeLine; decide, q⟩
        · refine @PostS.mk X.K (entryG X.K F' H' M') _ _ _ _ _ (fun _ _ _ _ _ z => z.elim) (fun d2 M2 F2 H2 v q s2 f2 c2 r2 => ?_) (fun _ _ _ _ _ z => z.elim) (fun _ _ _ _ _ z => z.elim)
          have cp2 := @Core.toCoreP X.K (entryG X.K F' H' M') F2 H2 M2 c2
          exact hpq d2 M2 F2 H2 v q (gg.1.trans s2) (gg.2.trans f2) (c1.to cp2 (gg.1.trans s2) (gg.2.trans f2)) r2
      · intro d M' F' H' v q s f c r
        have cp := @Core.toCoreP X.K (entryG X.K F1 H1 M1) F' H' M' c
        refine ⟨by show 2 ≤ sizeLine; decide, fun x hx => ?_⟩
        exact (hpq.after s f).tup (c1.to cp s f) (Reps.cons (by rw [Rep]) (Reps.one r)) q x hx
  · cases r' with
    | error e => exact (show False from hq).elim
    | ok fl =>
      cases fl with
      | ret u => exact I1.after hq
      | next => exact hq.elim
      | brk => exact hq.elim
      | cont => exact hq.elim
theorem de_why {X : Cx} {G : GI X.K} {cs : List Addr} {tbs : List (LamD × (DX → DTE))} {arg : Expr} {te : DTE} {k : Nat} {p pos : Pos} (W : WhyF X.prog X.w X.K X.mg X.base cs) (hr : Room (k + 2) X.A) (ha : DE X arg te) (hl : ∀ p ∈ tbs, LamOk X k p.1 p.2) (hg : Gl X "_law_why" := by rfl)
    (hst : starEach [arg] X.env = (false, eval arg X.env) :: starEach [] X.env := by rfl) (hpl : (backTo pos (starEach [] X.env)).any (·.1) = false := by rfl) : DE X (.Call (.Name "_law_why" p) [arg] [] pos) (dWhy cs tbs te) :=
  PE.imp (pe_why W hr ha hl hg hst hpl) fun σ H Q h => ⟨trivial, h⟩
end DL
namespace DL
open PySem PySem.Spec PyProof.Rows L2 LamN
/-! ### a def that makes lambdas -/
theorem own_cells {X : Cx} {q : Str} {params : Arguments} {body : Expr} {scope : Scope} {dfl : Option Int} {pins : List (Addr × Obj)} {σ : L2.St} {H : Hp} {s : Shared} (hf : FreeIn X.env.scope scope = true) (I : Inv X pins σ H s) :
    LamC ⟨q, params, body, scope, cloFrom X.env.cells scope.names [], dfl⟩ ∧ CellsAt X.N ⟨q, params, body, scope, cloFrom X.env.cells scope.names [], dfl⟩ σ H s.heap ∧ ∀ y c, (cloFrom X.env.cells scope.names []).lookup y = some c → ∃ y', X.env.cells.lookup y' = some c := by
  have cap := freeIn hf I.ok
  have cm : ∀ {y c}, (cloFrom X.env.cells scope.names []).lookup y = some c → X.env.cells.lookup y = some c := fun {y c} e => by
    rcases cloFrom_mem (PySem.mem_of_lookup e) with hm | ⟨h1, h2⟩
    · cases hm
    · obtain ⟨c1, hc⟩ := cap _ h1 rfl
      have hc : X.env.cells.lookup y = some c1 := hc
      rw [hc] at h2
      rw [hc, show c = c1 from h2]
  have look : ∀ {y}, scope.names.lookup y = some .free → ∃ c, (cloFrom X.env.cells scope.names []).lookup y = some c := fun {y} hl => mem_lookup (cloFrom_has (cells := X.env.cells) (acc := []) (PySem.mem_of_lookup hl))
  refine ⟨⟨fun x y c e1 e2 => I.ok.inj x y c (cm e1) (cm e2), fun y hy => look hy⟩, ⟨fun y c e => ⟨I.freeC y c (cm e), I.cell y c (cm e)⟩, fun i y v e1 e2 e3 => ?_⟩, fun y c e => ⟨y, cm e⟩⟩
  obtain ⟨m, hn, hl⟩ := I.loc
  have hk : X.env.scope.names.lookup y = some .cell ∨ X.env.scope.names.lookup y = some .free := by
    have := List.all_eq_true.mp hf _ (PySem.mem_of_lookup e3)
    simp only [Bool.or_eq_true, Bool.not_eq_true', decide_eq_true_eq, decide_eq_false_iff_not] at this
    rcases this with (z | z) | z
    · exact absurd trivial z
    · exact .inl z
    · exact .inr z
  obtain ⟨u, r, q⟩ := hl i y v e1 e2 (hk.elim (fun z => .inr (.inl z)) fun z => .inr (.inr z))
  obtain ⟨c, hc⟩ := look e3
  rcases q with ⟨z, _⟩ | ⟨_, c2, e4, z⟩
  · have z : X.env.scope.names.lookup y = some .local := z
    rcases hk with h | h <;> rw [h] at z <;> cases z
  · rw [cm hc] at e4
    cases e4
    exact ⟨c, u, hc, r, z⟩
theorem lamOk_own {X : Cx} {N : List Str} {sc : Scope} {k : Nat} {params : Arguments} {body : Expr} {scope : Scope} {dfl : Option Int} {tb : DX → DTE} (hS : lamSB N scope = true) (hf : FreeIn sc scope = true) (hb : BindL ⟨X.env.qual ++ "<lambda>", params, body, scope, cloFrom X.env.cells scope.names [], dfl⟩)
    (ht : ∀ (E : XK) (E0 : DX) (A : Around) (outer : List Env) (s : Shared) (H : Hp) (f c' : Addr), Room k (A.deeper (lEnv ⟨X.env.qual ++ "<lambda>", params, body, scope, cloFrom X.env.cells scope.names [], dfl⟩ s.heap.objs.size f c')) → ∀ G : GI X.K, @Wish X.K G E0 E →
      @DE (lamCx X.prog X.w X.K X.mg X.base X.N ⟨X.env.qual ++ "<lambda>", params, body, scope, cloFrom X.env.cells scope.names [], dfl⟩ A outer s H E f c') G body (tb E0)) (hN : X.N = N := by rfl) (hsc : X.env.scope = sc := by rfl) : LamOk X k ⟨X.env.qual ++ "<lambda>", params, body, scope, cloFrom X.env.cells scope.names [], dfl⟩ tb := by
  subst hN hsc
  exact ⟨lamS_by hS, hb, fun {pins σ H s} I _ => let h := own_cells hf I; ⟨h.1, h.2.1⟩, ht⟩
/-- where nothing may be raised -/
theorem ws0 {K : PySem.W.Frag} {G : GI K} : @Wish K G noX (fun _ _ _ => False) := fun h _ _ _ => h
theorem uH {k : Nat} {A : Around} (r : L2H.RoomH k A) : A.units + 65 < cLine := by have := r.un; omega
theorem uH4 {k : Nat} {A : Around} (r : L2H.RoomH k A) : A.units + 64 < cLine := by have := r.un; omega
section
variable {P : Program} {w : World} {K : PySem.W.Frag} {mg : Str → Option Value} {base : Heap} {dvs : List V} {kws : List (Str × V)}
/-- THE RULE for a def that makes lambdas and raises nothing -/
theorem dfunL {x qual : Str} {st : Stmt} {f T : Addr} {fd : FuncData} {N ps : List Str} {k : Nat} {sp : DSp} (F : FnD K x qual st dvs kws f fd) (S : FnScope N ps (defScope st)) (hT : ∃ c, fd.code = .ref c ∧ LamX.TabB base mg c T) (len : ∀ ds M Q E, sp ds M Q E → ds.length = ps.length)
    (hbody : ∀ (cdv : Value) (A : Around) (outer : List Env) (s : Shared) (H : Hp) (E : XK), Room k (A.deeper (envOfC qual (defScope st) s.heap.objs.size f cdv)) → LamM (cxOf CX0 P w K mg base N qual (defScope st) f cdv A outer s H E).nox T →
      ∃ t, (∀ G : GI K, @DSs (cxOf CX0 P w K mg base N qual (defScope st) f cdv A outer s H E).nox G (defBody st) t) ∧ ∀ ds M Q E0, sp ds M Q E0 → t (bodyE K Q) (startD N ds) M) : FnOk P w K mg base CX0 (k + 1) f fd ps (lSp K sp) := by
  obtain ⟨oc, od, dV, kV, doc, pm, an, cdv, ct, osl, rfl, lk, hcd, _, _⟩ := F.ex
  obtain ⟨c, hc, TB⟩ := hT
  refine fn_of lk hcd S (fun vs H Q E ⟨F, M, ds, Q0, E0, c, r, h, _⟩ => by rw [r.len]; exact len ds M Q0 E0 h) fun A outer s H vs Q E hr ⟨F, M, ds, Q0, E0, c0, r, h, p, _⟩ => ?_
  obtain ⟨t, h1, h2⟩ := hbody cdv A outer s H E hr ⟨c, TB, hc⟩
  exact ⟨_, PSs.nox (h1 (entryG K F H M)), F, startD N ds, M, bodyE K Q0, start_env r, @Core.mk K (entryG K F H M) F H M c0 ⟨Same.refl F, Fr.refl⟩, h2 ds M Q0 E0 h, @fin_ok K (entryG K F H M) F H M Q0 Q (@PostP.post K (entryG K F H M) F H M Q0 Q p)⟩
end
/-! ### the law's promise, with tables -/
theorem mem_lookA {β : Type} {b : Addr} {q : β} : ∀ {ts : List (Addr × β)}, ts.lookup b = some q → (b, q) ∈ ts
  | [], e => by cases e
  | (c, r) :: ts, e => by
    rw [List.lookup_cons] at e
    cases h : b == c with
    | true => rw [h] at e; have h := eq_of_beq h; cases e; rw [h]; exact List.mem_cons_self
    | false => rw [h] at e; exact List.mem_cons_of_mem _ (mem_lookA e)
def tabM (ts : List (Addr × Str)) : Mp := fun a => (ts.lookup a).map MO.tab
abbrev spLawT (ts : List (Addr × Str)) : DSp := fun ds M Q _ => ∃ ms : List Int, ds = [.lsx (ms.map D.int)] ∧ ms.length ≤ 63 ∧ M = tabM ts ∧ Q (.bl true) M
theorem law_inT {K : PySem.W.Frag} {H : Hp} {a : Addr} {ns : List Int} {ts : List (Addr × Str)} (hl : ns.length ≤ 63) (hT : ∀ p ∈ ts, H p.1 = some (.tbl #[])) (hS : SqL K H a (ns.map V.int)) : lSp K (spLawT ts) [.ref a] H (fun v _ => v = .bl true) fun _ _ _ => False := by
  have key : ∀ b q, ts.lookup b = some q → H b = some (.tbl #[]) := fun b q e => hT (b, q) (mem_lookA e)
  refine ⟨fun b => match ts.lookup b with | some _ => none | none => H b, tabM ts, [.lsx (ns.map D.int)], fun d _ => d = .bl true, noX, ⟨fun b o e => ?_, fun b mo e => ?_⟩, Reps.one ?_, ⟨ns, rfl, hl, rfl, rfl⟩, fun d M' F' H' v e _ _ _ r => by subst e; rw [Rep] at r; exact r, postX0⟩
  · split at e
    · cases e
    · exact e
  · unfold tabM at e
    cases h : ts.lookup b with
    | none => rw [h] at e; cases e
    | some q =>
      rw [h] at e
      cases e
      refine ⟨by simp only, _, key b q h, #[], rfl, True.intro, fun pos cv hc => ?_⟩
      have z : codeAmong pos [] = some cv := hc
      simp [codeAmong] at z
  · rw [Rep]
    refine ⟨a, _, rfl, ?_, Reps.of_ints⟩
    have na : ∀ o, H a = some o → o ≠ .tbl #[] → (match ts.lookup a with | some _ => none | none => H a) = some o := fun o e n => by
      cases h : ts.lookup a with
      | none => exact e
      | some q => rw [key a q h] at e; cases e; exact absurd rfl n
    rcases hS with (h | ⟨o, h⟩) | h
    · exact .inl (.inl (na _ h (by intro z; cases z)))
    · exact .inl (.inr ⟨o, na _ h (by intro z; cases z)⟩)
    · exact .inr h
/-! ### the head's Hook: exceptions, tables, what is caught -/
def caughtB (K : PySem.W.Frag) (l : List Str) : Bool := l.all fun x => xfB K (He.ga K x) && (fieldNames.all (fun n => decide (PySem.W.findIn K (.ref (He.ga K x)) n = some none)) && decide (PySem.W.exmAny K (.ref (He.ga K x)) [.ref (He.ga K "TownError"), .ref (He.ga K "Missing"), .ref (He.ga K "NothingLeft")] = some true))
theorem caught_ok {K : PySem.W.Frag} {l : List Str} (h : caughtB K l = true) : ∀ x ∈ l, XCls K (He.ga K x) fieldNames ∧ PySem.W.exmAny K (.ref (He.ga K x)) [.ref (He.ga K "TownError"), .ref (He.ga K "Missing"), .ref (He.ga K "NothingLeft")] = some true := fun x hx => by
  obtain ⟨h1, h2⟩ := He.ba (List.all_eq_true.mp h x hx)
  obtain ⟨h2, h3⟩ := He.ba h2
  exact ⟨⟨xfB_ok h1, fun n hn => of_decide_eq_true (List.all_eq_true.mp h2 n hn)⟩, of_decide_eq_true h3⟩
/-- facts of own classes -/
inductive OwF where
  | own (x : Str)
  | plain (x : Str)
  | ne (x : Str)
  | isi (x y : Str) (b : Bool)
  | etup (p : Str × Option Str) (i : Nat)
def plainTy : List String := ["NoneType", "bool", "int", "str", "list", "tuple"]
def OwF.ok (K : PySem.W.Frag) : OwF → Bool
  | .own x => He.eqO (PySem.W.findIn K (.ref (He.ga K x)) "__class__") (some (some (.builtin "object.__class__"))) && (He.eqO (PySem.W.specialIn K (.builtin "object.__class__") "__get__") (some (some (.builtin "getset_descriptor.__get__"))) &&
      (decide (PySem.W.takesIn K (.builtin "object.__class__") = some true) && decide (PySem.W.mroIn K (He.ga K x) (.type "object") = some true)))
  | .plain x => plainTy.all fun n => decide (PySem.W.kitOne K (.type n) (.ref (He.ga K x)) = some false) && (PySem.W.notFirst K (He.ga K x) (.type n) && decide (PySem.W.mroIn K (He.ga K x) (.type n) = some false))
  | .ne x => He.eqO (PySem.W.findIn K (.ref (He.ga K x)) "__ne__") (some (some (.builtin "object.__ne__")))
  | .etup p i => (match K.lookup (He.dflAt p i K) with
    | some ⟨.type t, _, .seq its _, _⟩ => t == "tuple" && its.size == 0
    | _ => false)
  | .isi x y b => decide (PySem.W.kitOne K (.ref (He.ga K x)) (.ref (He.ga K y)) = some b)
/-- the addresses that are looked at -/
def asZ (g : Addr → Option Obj) (n : Nat) : List Addr := cStatics :: He.asD g n
abbrev AlZ : Type := He.AlD × Bool × List FnC
def obsZ (P : Program) (fa : List He.Fa) (fn : List He.DefD) (ex : List ExD) (tf : List He.Defn) (cw : List Str) (ow : List OwF) (g : Addr → Option Obj) (K : PySem.W.Frag) : AlZ := (He.obsD fa fn K, (ex.all fun d => d.ok P K) && (He.tabsB g tf K && (caughtB K cw && ow.all (OwF.ok K))), ex.map fun d => fnC K (d.f K))
def obsZG (P : Program) (n : Nat) (fa : List He.Fa) (fn : List He.DefD) (ex : List ExD) (tf : List He.Defn) (cw : List Str) (ow : List OwF) (g : Addr → Option Obj) : AlZ := obsZ P fa fn ex tf cw ow g (He.frT g (asZ g n))
def valZ (fn : List He.DefD) (ex : List ExD) : AlZ := (He.valD fn, true, ex.map ExD.val)
structure SaysZ (P : Program) (fa : List He.Fa) (fn : List He.DefD) (ex : List ExD) (tf : List He.Defn) (cw : List Str) (ow : List OwF) (h : Heap) (K : PySem.W.Frag) : Prop where
  d : He.SaysD fa fn K
  eo : (ex.all fun d => d.ok P K) = true
  ev : (ex.map fun d => fnC K (d.f K)) = ex.map ExD.val
  ca : caughtB K cw = true
  ow : ow.all (OwF.ok K) = true
  hd : ∀ p ∈ tf, PySem.W.codeHdIn K (He.cT K p).1 (He.cT K p).2 = true
  out : ∀ p ∈ tf, K.lookup (He.cT K p).2 = none
  empty : ∀ p ∈ tf, h.get? (He.cT K p).2 = some { cls := .none, data := .fields #[] }
theorem saysZ_of {P : Program} {n : Nat} {fa : List He.Fa} {fn : List He.DefD} {ex : List ExD} {tf : List He.Defn} {cw : List Str} {ow : List OwF} {h : Heap} (e : obsZG P n fa fn ex tf cw ow h.get? = valZ fn ex) : SaysZ P fa fn ex tf cw ow h (He.frT h.get? (asZ h.get? n)) := by
  have e1 := congrArg (fun z : AlZ => z.1) e
  have e2 : ((ex.all fun d => d.ok P (He.frT h.get? (asZ h.get? n))) && (He.tabsB h.get? tf (He.frT h.get? (asZ h.get? n)) && (caughtB (He.frT h.get? (asZ h.get? n)) cw && ow.all (OwF.ok (He.frT h.get? (asZ h.get? n)))))) = true := congrArg (fun z : AlZ => z.2.1) e
  have e3 := congrArg (fun z : AlZ => z.2.2) e
  obtain ⟨h1, h2⟩ := He.ba e2
  obtain ⟨h2, h3⟩ := He.ba h2
  obtain ⟨h3, h4⟩ := He.ba h3
  have key : ∀ p ∈ tf, PySem.W.codeHdIn (He.frT h.get? (asZ h.get? n)) (He.cT (He.frT h.get? (asZ h.get? n)) p).1 (He.cT (He.frT h.get? (asZ h.get? n)) p).2 = true ∧ ∃ o, h.get? (He.cT (He.frT h.get? (asZ h.get? n)) p).2 = some o ∧ He.emptyTab o = true := fun p hp => by
    obtain ⟨k1, k2⟩ := He.ba (List.all_eq_true.mp h2 p hp)
    refine ⟨k1, ?_⟩
    cases q : h.get? (He.cT (He.frT h.get? (asZ h.get? n)) p).2 with
    | none => rw [q] at k2; cases k2
    | some o => rw [q] at k2; exact ⟨o, rfl, k2⟩
  exact ⟨e1, h1, e3, h3, h4, fun p hp => (key p hp).1, fun p hp => (let ⟨_, o, q, z⟩ := key p hp; He.frT_none q z), fun p hp => (let ⟨_, o, q, z⟩ := key p hp; by rw [q, He.emptyTab_eq z])⟩
def hookZ (P : Program) (n : Nat) (fa : List He.Fa) (fn : List He.DefD) (ex : List ExD) (tf : List He.Defn) (cw : List Str) (ow : List OwF) : PySem.W.Hook where
  α := AlZ
  obs := fun s => obsZG P n fa fn ex tf cw ow s.heap.get?
  val := fun _ => valZ fn ex
  says := fun _ h => ∃ K : PySem.W.Frag, K.In h ∧ SaysZ P fa fn ex tf cw ow h K
  of := fun _ _ e => ⟨_, He.frT_in, saysZ_of e⟩
  keeps := fun _ _ _ ⟨K, hK, c⟩ k => ⟨K, PySem.W.Frag.In.keeps hK k, { c with empty := fun p hp => k _ _ (c.empty p hp) }⟩
theorem obsZG_eq {P : Program} {n : Nat} {fa : List He.Fa} {fn : List He.DefD} {ex : List ExD} {tf : List He.Defn} {cw : List Str} {ow : List OwF} {g : Addr → Option Obj} {s : Shared} (h : ∀ a, g a = s.heap.get? a) : obsZG P n fa fn ex tf cw ow g = (hookZ P n fa fn ex tf cw ow).obs s := by
  have e : g = s.heap.get? := funext h
  rw [e] <;> rfl
section
variable {K : PySem.W.Frag} {x y : Str} {b : Bool}
structure ClsT (K : PySem.W.Frag) (C : Addr) : Prop where
  cl : Cls K C
  ha : PySem.W.findIn K (.ref C) "__class__" = some (some (.builtin "object.__class__"))
  hn : PySem.W.specialIn K (.builtin "object.__class__") "__get__" = some (some (.builtin "getset_descriptor.__get__"))
  htk : PySem.W.takesIn K (.builtin "object.__class__") = some true
  hm : PySem.W.mroIn K C (.type "object") = some true
theorem own_ok (cl : Cls K (He.ga K x)) (h : (OwF.own x).ok K = true) : ClsT K (He.ga K x) := by
  obtain ⟨h1, h2⟩ := He.ba h
  obtain ⟨h2, h3⟩ := He.ba h2
  obtain ⟨h3, h4⟩ := He.ba h3
  exact ⟨cl, He.eqO_ok h1, He.eqO_ok h2, of_decide_eq_true h3, of_decide_eq_true h4⟩
structure ClsP (K : PySem.W.Frag) (C : Addr) : Prop where
  kit : ∀ n ∈ plainTy, PySem.W.kitOne K (.type n) (.ref C) = some false
  nf : ∀ n ∈ plainTy, PySem.W.notFirst K C (.type n) = true
  mro : ∀ n ∈ plainTy, PySem.W.mroIn K C (.type n) = some false
theorem plain_ok (h : (OwF.plain x).ok K = true) : ClsP K (He.ga K x) :=
  ⟨fun n hn => of_decide_eq_true (He.ba (List.all_eq_true.mp h n hn)).1, fun n hn => (He.ba (He.ba (List.all_eq_true.mp h n hn)).2).1, fun n hn => of_decide_eq_true (He.ba (He.ba (List.all_eq_true.mp h n hn)).2).2⟩
theorem ne_ok (h : (OwF.ne x).ok K = true) : PySem.W.findIn K (.ref (He.ga K x)) "__ne__" = some (some (.builtin "object.__ne__")) := He.eqO_ok h
theorem etup_ok {p : Str × Option Str} {i : Nat} (h : (OwF.etup p i).ok K = true) : ∃ (o : Obj) (its : Array Value) (n : Nat), K.lookup (He.dflAt p i K) = some o ∧ o.cls = .type "tuple" ∧ o.data = .seq its n ∧ its.size = 0 := by
  have h : (match K.lookup (He.dflAt p i K) with
    | some ⟨.type t, _, .seq its _, _⟩ => t == "tuple" && its.size == 0
    | _ => false) = true := h
  split at h
  · rename_i t dd its n sl g
    obtain ⟨h1, h2⟩ := He.ba h
    exact ⟨_, its, n, g, by rw [eq_of_beq h1], rfl, eq_of_beq h2⟩
  · cases h
theorem isi_ok (h : (OwF.isi x y b).ok K = true) : PySem.W.kitOne K (.ref (He.ga K x)) (.ref (He.ga K y)) = some b := of_decide_eq_true h
end
section
variable {P : Program} {fa : List He.Fa} {fn : List He.DefD} {ex : List ExD} {tf : List He.Defn} {cw : List Str} {ow : List OwF} {h : Heap} {K : PySem.W.Frag}
theorem SaysZ.owf (c : SaysZ P fa fn ex tf cw ow h K) (i : Nat) {f : OwF} (e : ow[i]? = some f := by rfl) : f.ok K = true := List.all_eq_true.mp c.ow f (List.mem_of_getElem? e)
theorem SaysZ.exk (c : SaysZ P fa fn ex tf cw ow h K) {h' : Heap} {mg : Str → Option Value} (X : K.In h') (G : h'.Ns mainGlobals mg) (i : Nat) {d : ExD} (e : ex[i]? = some d := by rfl) : ∃ fd, ExK P K mg d fd := by
  have e2 : (ex.map fun d => fnC K (d.f K))[i]? = (ex.map ExD.val)[i]? := by rw [c.ev]
  rw [List.getElem?_map, List.getElem?_map, e] at e2
  exact exk_of X G (Option.some.inj e2) (List.all_eq_true.mp c.eo d (List.mem_of_getElem? e))
theorem SaysZ.tab (c : SaysZ P fa fn ex tf cw ow h K) {base : Heap} {mg : Str → Option Value} (hB : ∀ p ∈ tf.map (He.cT K), LamX.TabB base mg p.1 p.2) {q : He.Defn} (hq : q ∈ tf) {x qual : Str} {st : Stmt} {dvs : List V} {kws : List (Str × V)} {fd : FuncData} (F : FnD K x qual st dvs kws (He.fAd K q) fd) :
    ∃ cc, fd.code = .ref cc ∧ LamX.TabB base mg cc (He.cT K q).2 := by
  obtain ⟨oc, od, dV, kV, doc, pm, an, cdv, ct, osl, rfl, lk, hcd, _, _⟩ := F.ex
  obtain ⟨cc, rfl⟩ := He.codeIn_ref hcd
  refine ⟨cc, rfl, ?_⟩
  have := hB _ (List.mem_map_of_mem hq)
  have e : (He.cT K q).1 = cc := He.codeOf_eq lk rfl
  rw [← e]
  exact this
end
end DL
namespace DL
open PySem PySem.Spec PyProof.Rows L2 LamN
/-! ### == of plain tuples and lists -/
theorem pl_self {n : Nat} {x : D} (h : Pl n x = true) : D.eqv x x = true := PySem.SeqAt.eqv_refl _ (pl_sh n x h).2.1
theorem pl_lst {n : Nat} {ds : List D} (h : ∀ d ∈ ds, Pl n d = true) (hz : ds.length ≤ 1000000) : Pl (n + 1) (.lst ds) = true := by
  rw [Pl, Bool.and_eq_true]
  exact ⟨List.all_eq_true.mpr h, decide_eq_true hz⟩
theorem pl_tup {n : Nat} {ds : List D} (h : ∀ d ∈ ds, Pl n d = true) (hz : ds.length ≤ 1000000) : Pl (n + 1) (.tup ds) = true := by
  rw [Pl, Bool.and_eq_true]
  exact ⟨List.all_eq_true.mpr h, decide_eq_true hz⟩
theorem pl_int {n : Nat} {i : Int} : Pl n (.int i) = true := by cases n <;> rfl
theorem pl_bl {n : Nat} {i : Bool} : Pl n (.bl i) = true := by cases n <;> rfl
theorem pl_non {n : Nat} : Pl n .non = true := by cases n <;> rfl
theorem pl_s {n : Nat} {x : Str} (h : PyData.strOk x = true) : Pl n (.str x) = true := by cases n <;> exact h
theorem pl_nil {n : Nat} : ∀ d ∈ ([] : List D), Pl n d = true := fun _ h => absurd h List.not_mem_nil
theorem pl_cons {n : Nat} {d : D} {ds : List D} (a : Pl n d = true) (b : ∀ d ∈ ds, Pl n d = true) : ∀ e ∈ d :: ds, Pl n e = true := List.forall_mem_cons.mpr ⟨a, b⟩
theorem pl_ints {n : Nat} {l : List Int} : ∀ d ∈ l.map D.int, Pl n d = true := fun d hd => by obtain ⟨i, _, rfl⟩ := List.mem_map.mp hd; exact pl_int
theorem rEqW_tt {n : Nat} {b : Bool} {xs ys : List D} {M : Mp} {Q : DQ} (hx : Pl n (.tup xs) = true) (hy : Pl n (.tup ys) = true) (hn : n ≤ 60) (q : Q (.bl (b ^^ D.eqv (.tup xs) (.tup ys))) M) : rEqW b (.tup xs) (.tup ys) M Q := by
  unfold rEqW
  rw [if_neg (by show ¬ false = true; decide)]
  exact ⟨⟨pl_ok hx (by omega), pl_ok hy (by omega)⟩, q⟩
theorem rEqW_ll {n : Nat} {b : Bool} {xs ys : List D} {M : Mp} {Q : DQ} (hx : Pl n (.lst xs) = true) (hy : Pl n (.lst ys) = true) (hn : n ≤ 60) (q : Q (.bl (b ^^ D.eqv (.lst xs) (.lst ys))) M) : rEqW b (.lst xs) (.lst ys) M Q := by
  unfold rEqW
  rw [if_neg (by show ¬ false = true; decide)]
  exact ⟨⟨pl_ok hx (by omega), pl_ok hy (by omega)⟩, q⟩
section
variable {env : DSt} {M : Mp} {Q : DQ} {E : DEnds} {te : DTE} {tr : DTA} {sp : DSp} {E0 : DX} {C P : Addr} {gd : List D → List (Str × D)} {n : Nat} {l : LamD} {cs : List Addr} {tbs : List (LamD × (DX → DTE))} {x : D}
theorem dCallX_ap : dCallX E0 sp tr env M Q = tr env M fun ds M1 => sp ds M1 Q E0 := rfl
theorem dRaise_ap : dRaise E0 C gd n tr E env M = tr env M fun ds M1 => ds.length = n ∧ E0 (.ref C) (gd ds) M1 := rfl
theorem dLam_ap : dLam P l env M Q = (M P = some (.tab l.q) ∧ Q (.fn l) M) := rfl
theorem dWhy_ap : dWhy cs tbs te env M Q = te env M fun x M1 => whyB cs tbs env M1 Q x := rfl
/-- the lambda that is handed over: its body's reading -/
theorem whyB_1 {tb : DX → DTE} (h : tb (whyX cs Q) env M fun v M2 => Q (.tup [.str "", v]) M2) : whyB cs [(l, tb)] env M Q (.fn l) := ⟨(l, tb), List.mem_cons_self, rfl, h⟩
theorem whyX_of {fs : List (Str × D)} {t : Str} {d : D} (hC : C ∈ cs) (hl : lawField fs = some (t, d)) (q : Q (.tup [.str t, d]) M) : whyX cs Q (.ref C) fs M := ⟨C, hC, rfl, t, d, hl, q⟩
end
end DL
namespace L2
open PySem PySem.Spec PyProof.Rows
section
variable {X : Cx}
theorem lc_coreZ {Zz : Shared → Hp → List Addr → Prop} {pins : List (Addr × Obj)} {s : Shared} {σ : St} {H : Hp} {Q : VK} {elt tg iter : Expr} {ifs : List Expr} {scope : Scope} {own : List (Str × Nat)} {pos pos' : Pos} {wi : TI} {g : TG} {tt : TT} {te : TE} {use : Option (Value → Sem Unit)} {Qf : Value → Shared → Prop}
    (hc : X.calm = true) (hN : X.N.Nodup) (I : Inv X pins σ H s) (hi : PI X tg iter wi) (ok : BlkOk X.N X.env.scope scope own)
    (hg : ∀ (s : Shared) (H : Hp) (C : Addr) (cl : List (Str × Addr)) (fp : List Addr), PG (X.blk s H scope (compEnvC scope cl C X.env) fp) tg g) (ht : ∀ (s : Shared) (H : Hp) (C : Addr) (cl : List (Str × Addr)) (fp : List Addr), PTs (X.blk s H scope (compEnvC scope cl C X.env) fp) ifs tt)
    (hZ : ∀ (pins : List (Addr × Obj)) (s : Shared) (H : Hp) (fp : List Addr), Inv X pins σ H s → (∀ b ∈ fp, FpOk X pins H b) → Zz s H fp) (he : ∀ (s : Shared) (H : Hp) (C : Addr) (cl : List (Str × Addr)) (fp : List Addr), Zz s H fp → PE (X.blk s H scope (compEnvC scope cl C X.env) fp) elt te) (hs : ∀ x, foldedSetIterable iter X.env x = pure x)
    (h : tLc wi g tt te (own.map (·.2)) σ H Q)
    (hRR : ∀ D C s' m H', Inv X pins σ H' s' → Q (.ref D) H' → s'.heap.Ns C m → FpOk X pins H' C → compPost (model X.prog X.w) X.A X.xe use Qf (.ref D) C (.ok .next) s') :
    wpAny (model X.prog X.w) X.A (comprehension (.ListComp elt [⟨tg, iter, ifs, 0⟩] scope pos) scope X.env pos' (newList []) false (eval iter X.env) use) Qf X.xe s := by
  have hfree : ∀ y ∈ scope.names, y.2 = .free → ∃ c, X.env.cells.lookup y.1 = some c := fun y hy e => by
    rcases ok.free y hy e with k | k
    · exact I.ok.has _ (.inl k)
    · exact I.ok.has _ (.inr k)
  refine wpAny_comprehension_free (use := use) rfl hs (closure_ok hfree) ok.kind (fun y hy e => by rw [ok.uniq y hy, e])
    (thn (hi.run pins s σ H _ I h) fun xv s1 hx => thn hx fun itv s2 h2 => ?_)
  obtain ⟨it, fp, tn, J, H2, e, I2, T, st2, f2, q⟩ := h2
  subst e
  refine wpAny_newObj_type (newEnv_comp ?_) (by show 0 ≤ sizeLine; decide)
  generalize hD : s2.heap.objs.size = D
  have hDn : H2 D = none := I2.hok.fresh (Nat.le_of_eq hD)
  obtain ⟨W, ⟨m0, w0⟩, turn⟩ := q D hDn
  -- the new list
  generalize hs3 : ({ s2 with heap := s2.heap.push { cls := .type "list", data := .seq ([] : List Value).toArray } } : Shared) = sB
  have IB : Inv X pins σ (upd H2 D (.lst [])) sB := by
    rw [← hs3]
    refine I2.laid (t' := s2.toks) (fun b o e => Heap.get?_push_of_some _ e) (Nat.le_of_eq hD) ⟨Nat.zero_le _, [], 0, .nil, ?_⟩
    rw [← hD]
    exact Heap.get?_push_size _ rfl
  have h3 : sB.heap = s2.heap.push { cls := .type "list", data := .seq ([] : List Value).toArray } := by rw [← hs3]
  have sz : ∀ b ∈ fp, b < s2.heap.objs.size := fun b hb => by
    obtain ⟨o, e, _⟩ := T.obj _ _ st2 b hb
    exact Heap.lt_size e
  have fB : ∀ b ∈ fp, FpOk X pins (upd H2 D (.lst [])) b ∧ b < sB.heap.objs.size := fun b hb => by
    have hlt := sz b hb
    refine ⟨⟨?_, (f2 b hb).2⟩, by rw [h3, Heap.size_push]; exact Nat.lt_succ_of_lt hlt⟩
    rw [upd_ne (by rw [← hD]; exact Nat.ne_of_lt hlt)]
    exact (f2 b hb).1
  have tB : tn 0 sB.heap := T.keep _ _ _ st2 fun b _ o e => by rw [h3]; exact Heap.get?_push_of_some _ e
  have IC := block_start IB ok hN fB
  have pg := hg sB (upd H2 D (.lst [])) sB.heap.objs.size (cellsFrom (sB.heap.objs.size + 1) scope.names (cloFrom X.env.cells scope.names [])) fp
  have pt := ht sB (upd H2 D (.lst [])) sB.heap.objs.size (cellsFrom (sB.heap.objs.size + 1) scope.names (cloFrom X.env.cells scope.names [])) fp
  have pe := he sB (upd H2 D (.lst [])) sB.heap.objs.size (cellsFrom (sB.heap.objs.size + 1) scope.names (cloFrom X.env.cells scope.names [])) fp (hZ pins sB _ fp IB fun b hb => (fB b hb).1)
  show codeAny _ _ (.compStart (.ListComp elt [⟨tg, iter, ifs, 0⟩] scope pos) 0 (.ref it) (.ref D) (compEnvC scope (cellsFrom (sB.heap.objs.size + 1) scope.names (cloFrom X.env.cells scope.names [])) sB.heap.objs.size X.env)) (compPost (model X.prog X.w) X.A X.xe use Qf (.ref D) sB.heap.objs.size) { sB with heap := pushCells (sB.heap.push { cls := .type "dict", data := .dict #[] }) scope.names }
  have nFP : ∀ b ∈ fp, (upd H2 D (.lst [])) b = none := fun b hb => (fB b hb).1.1
  generalize hce : compEnvC scope (cellsFrom (sB.heap.objs.size + 1) scope.names (cloFrom X.env.cells scope.names [])) sB.heap.objs.size X.env = ce at IC pg pt pe ⊢
  have cL : ce.locals = sB.heap.objs.size := by subst hce; rfl
  generalize hH3 : upd H2 D (.lst []) = HB at IB IC pg pt pe w0 nFP fB
  generalize hs4 : ({ sB with heap := pushCells (sB.heap.push { cls := .type "dict", data := .dict #[] }) scope.names } : Shared) = sC at IC ⊢
  have tC : tn 0 sC.heap := T.keep _ _ _ tB fun b _ o e => by rw [← hs4]; exact pushCells_keeps _ _ _ _ (Heap.get?_push_of_some _ e)
  have stat : ∀ {σ' : St} {H' : Hp} {s' : Shared}, Inv (X.blk sB HB scope ce fp) [] σ' H' s' → (∀ b ∈ fp, H' b = none) → ∀ b ∈ fp, FpOk (X.blk sB HB scope ce fp) [] H' b := fun {σ' H' s'} I' hn b hb =>
    ⟨hn b hb, (I'.ok.exf b hb).1, I'.ok.exfs b hb, .inl hb, fun x c e => (I'.ok.exf b hb).2 x c e, fun p hp => absurd (show p ∈ ([] : List (Addr × Obj)) ++ [] from hp) (by simp)⟩
  have loop : codeAny (model X.prog X.w) X.A (.compLoop (.ListComp elt [⟨tg, iter, ifs, 0⟩] scope pos) 0 (.ref it) (.ref D) ce) (compPost (model X.prog X.w) X.A X.xe use Qf (.ref D) sB.heap.objs.size) sC := by
    refine compLoop_any (fun n s' => ∃ i H', Inv (X.blk sB HB scope ce fp) [] (wipe σ (own.map (·.2))) H' s' ∧ tn i s'.heap ∧ (∀ b ∈ fp, H' b = none) ∧ W i n H') ?_ m0 ⟨0, HB, IC, tC, nFP, w0⟩
    rintro n sD ⟨i, HD, ID, st5, n5, w5⟩
    rcases turn i n HD w5 with ⟨stop, qq⟩ | ⟨go, Nx, hNx, step⟩
    · have td := T.done (X.blk sB HB scope ce fp) rfl rfl rfl hc i [] sD _ HD (fun _ _ => False) ID (stat ID n5) st5 stop
      refine thnF td fun r s6 ⟨hr, I6⟩ => ?_
      subst hr
      -- back in the def's context
      have I7 : Inv X pins σ HD s6 := IB.call' (ch := fp) I6.os I6.base I6.hok I6.bare fun b hb => ⟨(fB b hb).1.2.2.2.1, (fB b hb).1.2.1, (fB b hb).1.2.2.2.2.1, (fB b hb).1.2.2.2.2.2⟩
      have nC : HD sB.heap.objs.size = none := by
        have z : HD ce.locals = none := I6.free
        rw [cL] at z
        exact z
      obtain ⟨m, hn, _⟩ := I6.loc
      have hn : s6.heap.Ns ce.locals m := hn
      rw [cL] at hn
      exact hRR D sB.heap.objs.size s6 m HD I7 qq hn (IB.fpOk (Nat.le_refl _) nC)
    · have ti := T.item (X.blk sB HB scope ce fp) rfl rfl rfl hc i [] sD _ HD (fun _ _ => False) ID (stat ID n5) st5 go
      refine thnF ti fun r s6 ⟨u, hr, h6⟩ => ?_
      subst hr
      refine thnF h6 fun _ s7 ⟨x, H7, I7, r7, y7, st7, n7⟩ => ?_
      have I7' := I7.pinned (stat I7 n7) (T.obj _ _ st7)
      refine thnF (pg.run _ s7 _ H7 x u _ I7' r7 (step x H7 y7)) fun _ s8 ⟨σ8, H8, I8, hw8, q8⟩ => ?_
      refine thnF (pt.run _ s8 σ8 H8 _ I8 q8) fun b s9 ⟨H9, I9, q9⟩ => ?_
      -- the turn's end
      have fin : ∀ {s' : Shared} {H' : Hp}, Inv (X.blk sB HB scope ce fp) ([] ++ pinsAt fp s7.heap) σ8 H' s' → Nx H' → ∃ m, m < n ∧ ∃ i H', Inv (X.blk sB HB scope ce fp) [] (wipe σ (own.map (·.2))) H' s' ∧ tn i s'.heap ∧ (∀ b ∈ fp, H' b = none) ∧ W i m H' := fun {s' H'} I' nx => by
        obtain ⟨m', hm, w'⟩ := hNx H' nx
        have pin' : ∀ b ∈ fp, ∀ o, s7.heap.get? b = some o → s'.heap.get? b = some o ∧ H' b = none := fun b hb o e =>
          let z := I'.pin (b, o) (List.mem_append_right _ (List.mem_append_right _ (mem_pinsAt hb e)))
          ⟨z.1, z.2.1⟩
        have hl : (wipe σ (own.map (·.2))).length = σ8.length := by rw [← hw8, wipe_length]
        refine ⟨m', hm, i + 1, H', (I'.unpinned (pins := [])).weak hl (fun j v e => ?_), T.keep _ _ _ st7 fun b hb o e => (pin' b hb o e).1, fun b hb => ?_, w'⟩
        · rw [← hw8] at e
          exact (wipe_some e).1
        · obtain ⟨o, e, _⟩ := T.obj _ _ st7 b hb
          exact (pin' b hb o e).2
      cases b with
      | false =>
        simp only [Bool.false_eq_true, if_false] at q9 ⊢
        exact fin I9 q9
      | true =>
        simp only [if_true] at q9 ⊢
        refine thnF (pe.run _ s9 σ8 H9 _ I9 q9) fun z s10 ⟨yv, H10, I10, r10, acc, hD10, hz10, nx⟩ => ?_
        exact app_ok (X := X.blk sB HB scope ce fp) I10 hD10 hz10 r10 fun s11 I11 => fin I11 nx
  exact codeAny_compStart_list loop (T.self X.A 0 _ _ _ tC loop)
theorem pe_lcZ {Zz : L2.St → Shared → Hp → List Addr → Prop} {elt tg iter : Expr} {ifs : List Expr} {scope : Scope} {own : List (Str × Nat)} {pos : Pos} {wi : TI} {g : TG} {tt : TT} {te : L2.St → TE} (hc : X.calm = true) (hN : X.N.Nodup) (hi : PI X tg iter wi) (ok : BlkOk X.N X.env.scope scope own)
    (hg : ∀ (s : Shared) (H : Hp) (C : Addr) (cl : List (Str × Addr)) (fp : List Addr), PG (X.blk s H scope (compEnvC scope cl C X.env) fp) tg g) (ht : ∀ (s : Shared) (H : Hp) (C : Addr) (cl : List (Str × Addr)) (fp : List Addr), PTs (X.blk s H scope (compEnvC scope cl C X.env) fp) ifs tt)
    (hZ : ∀ (σ : L2.St) (pins : List (Addr × Obj)) (s : Shared) (H : Hp) (fp : List Addr), Inv X pins σ H s → (∀ b ∈ fp, FpOk X pins H b) → Zz σ s H fp)
    (he : ∀ (σ : L2.St) (s : Shared) (H : Hp) (C : Addr) (cl : List (Str × Addr)) (fp : List Addr), Zz σ s H fp → PE (X.blk s H scope (compEnvC scope cl C X.env) fp) elt (te σ)) (hs : ∀ x, foldedSetIterable iter X.env x = pure x := by intro _; rfl) :
    PE X (.ListComp elt [⟨tg, iter, ifs, 0⟩] scope pos) (fun σ H Q => tLc wi g tt (te σ) (own.map (·.2)) σ H Q) := by
  refine ⟨fun pins s σ H Q I h => ?_⟩
  rw [eval_ListComp]
  refine lc_coreZ hc hN I hi ok hg ht (hZ σ) (he σ) hs h fun D C s' m H' I' q hn f => ⟨m, hn, fun h'' sb => ?_⟩
  obtain ⟨f0, f1, f2, f3, f4, f5⟩ := f
  exact ⟨.ref D, H', I'.turned (t' := s'.toks) (fun b o hb e => (sb.2 b hb).trans e) f0 f1 f3 f4 f5, rfl, q⟩
end
end L2
namespace DL
open PySem PySem.Spec PyProof.Rows L2 LamN
theorem l_lcW {K : PySem.W.Frag} {G : GI K} {tt : DTT} {ti : DTI} {g : TG} {dg : DTG} {te : DTE} {vs : List Nat} (tl : TgL K g dg vs) : ∀ σ H Q, lE K (dLc ti dg tt te vs) σ H Q → tLc (lI K ti) g (lT K tt) (fun σ2 H Q => L2.wipe σ2 vs = L2.wipe σ vs ∧ lE K te σ2 H Q) vs σ H Q := fun σ H Q ⟨F, env, M, Q0, he, hc, ht, hp⟩ => by
  refine ⟨F, env, M, _, he, hc, ht, fun ds kp M1 F1 H1 J q s1 f1 c1 Y L hL => ?_⟩
  obtain ⟨Pv, p0, hk, turn, fin⟩ := q
  have n1 := c1.nones hL
  have c1' : Core K F1 (upd H1 L (.lst [])) M1 := c1.out hL _
  have fL : Fr F1 H1 M1 F1 (upd H1 L (.lst [])) M1 := fun a o e n => ⟨by rw [upd_ne (ne_of_none e hL)]; exact e, n, fun z => z⟩
  refine ⟨fun i m H' => m = ds.length - i ∧ i ≤ ds.length ∧ ∃ F' M' acc va, Same F1 F' ∧ Fr F1 H1 M1 F' H' M' ∧ Core K F' H' M' ∧ H' L = some (.lst va) ∧ F' L = none ∧ M' L = none ∧ Reps K F' acc va ∧ Pv i acc M',
    ⟨_, rfl, Nat.zero_le _, F1, M1, [], [], Same.refl _, fL, c1', upd_same, n1.1, n1.2, Reps.nil, p0⟩, ?_⟩
  rintro i m H2 ⟨rfl, hle, F2, M2, acc, va, s2, f2, c2, hv, hF, hM, ra, p2⟩
  have kk := hk _ _ _ p2
  by_cases hlt : i < ds.length
  · refine .inr ⟨Y.go s2 c2 kk hlt, fun H' => ∃ F' M' acc va, Same F1 F' ∧ Fr F1 H1 M1 F' H' M' ∧ Core K F' H' M' ∧ H' L = some (.lst va) ∧ F' L = none ∧ M' L = none ∧ Reps K F' acc va ∧ Pv (i + 1) acc M', fun H' z => ⟨_, by omega, rfl, hlt, z⟩, fun x H3 y => ?_⟩
    obtain ⟨d, F3, hd, s3, c3, f3, r3⟩ := Y.yld s2 c2 kk hlt y
    obtain ⟨hv3, _, hF3⟩ := f3 L _ hv hM
    refine tl (((he.mono s1).mono (s2.trans s3)).wipe vs) c3 r3 (turn i d acc M2 hd p2) fun σ' env' hw he' q' => ⟨hw.trans (wipe_idem vs), F3, env', M2, _, he', c3, q', fun b M4 F4 H4 q4 s4 f4 c4 => ?_⟩
    obtain ⟨hv4, hM4, hF4⟩ := f4 L _ hv3 hM
    cases b with
    | false => exact ⟨F4, M4, acc, va, s2.trans (s3.trans s4), f2.trans (f3.trans f4), c4, hv4, hF4 (hF3 hF), hM4, ra.mono (s3.trans s4), q4⟩
    | true =>
      rw [if_pos rfl] at q4 ⊢
      refine ⟨hw.trans (wipe_idem vs), F4, env', M4, _, he'.mono s4, c4, q4, fun z M5 F5 H5 v5 q5 s5 f5 c5 r5 => ?_⟩
      obtain ⟨hv5, hM5, hF5⟩ := f5 L _ hv4 hM4
      have hF' := hF5 (hF4 (hF3 hF))
      have ra5 := ra.mono ((s3.trans s4).trans s5)
      have fr5 : Fr F1 H1 M1 F5 (upd H5 L (.lst (va ++ [v5]))) M5 := fun a o e n => by
        obtain ⟨x1, x2, x3⟩ := (f2.trans (f3.trans (f4.trans f5))) a o e n
        exact ⟨by rw [upd_ne (ne_of_none e hL)]; exact x1, x2, x3⟩
      refine ⟨va, hv5, by rw [ra5.len]; exact q5.1, F5, M5, acc ++ [z], va ++ [v5], s2.trans (s3.trans (s4.trans s5)), fr5, c1.to ⟨fun b u e => ?_, fun a mo e => ?_⟩ (s2.trans (s3.trans (s4.trans s5))) fr5, upd_same, hF', hM5, ra5.app (Reps.one r5), q5.2⟩
      · have hb : b ≠ L := fun z => by rw [z, hF'] at e; cases e
        rw [upd_ne hb]; exact c5.same b u e
      · obtain ⟨x1, o, x2, x3⟩ := c5.mem a mo e
        have ha : a ≠ L := fun z => by rw [z, hM5] at e; cases e
        exact ⟨x1, o, by rw [upd_ne ha]; exact x2, x3⟩
  · have e : i = ds.length := by omega
    subst e
    obtain ⟨o, r, c', s', f'⟩ : ∃ F', Core K F' H2 M2 ∧ Same F2 F' ∧ Fr F1 H1 M1 F' H2 M2 ∧ F' L = some (.lst va) := by
      have s' : Same F2 (upd F2 L (.lst va)) := fun b u e => by rw [upd_ne (ne_of_none e hF)]; exact e
      have fr2 : Fr F1 H1 M1 (upd F2 L (.lst va)) H2 M2 := fun a o e n => by
        obtain ⟨x1, x2, x3⟩ := f2 a o e n
        exact ⟨x1, x2, fun z => by rw [upd_ne (ne_of_none e hL)]; exact x3 z⟩
      refine ⟨upd F2 L (.lst va), c1.to ⟨fun b u e => ?_, fun a mo e => ?_⟩ (s2.trans s') fr2, s', fr2, upd_same⟩
      · by_cases hb : b = L
        · subst hb; rw [upd_same] at e; cases e; exact hv
        · rw [upd_ne hb] at e; exact c2.same b u e
      · obtain ⟨x1, o, x2, x3⟩ := c2.mem a mo e
        have ha : a ≠ L := fun z => by rw [z, hM] at e; cases e
        exact ⟨by rw [upd_ne ha]; exact x1, o, x2, x3.mono s'⟩
    exact .inl ⟨Y.stop s2 c2 kk (Nat.le_refl _), hp _ M2 o H2 _ (fin _ _ p2) (s1.trans (s2.trans c')) (f1.trans s') r (by rw [Rep]; exact ⟨L, va, rfl, f', ra.mono c'⟩)⟩
/-- what a block knows of a lambda of its def -/
def ZL (N : List Str) (l : LamD) (σ : L2.St) (s : Shared) (H : Hp) (fp : List Addr) : Prop := LamC l ∧ CellsAt N l σ H s.heap ∧ ∀ y c, l.cl.lookup y = some c → c ∉ fp
theorem zl_own {X : Cx} {sc : Scope} {q : Str} {params : Arguments} {body : Expr} {scope : Scope} {dfl : Option Int} (hf : FreeIn sc scope = true) (hsc : X.env.scope = sc) {pins : List (Addr × Obj)} {σ : L2.St} {H : Hp} {s : Shared} {fp : List Addr} (I : Inv X pins σ H s) (hfp : ∀ b ∈ fp, FpOk X pins H b) : ZL X.N ⟨q, params, body, scope, cloFrom X.env.cells scope.names [], dfl⟩ σ s H fp := by
  subst hsc
  obtain ⟨h1, h2, h3⟩ := own_cells (q := q) (params := params) (body := body) (dfl := dfl) hf I
  refine ⟨h1, h2, fun y c e hm => ?_⟩
  obtain ⟨y', e'⟩ := h3 y c e
  exact (hfp c hm).2.2.2.2.1 y' c e' rfl
theorem lamOk_blk {X : Cx} {sB : Shared} {HB : Hp} {scB : Scope} {ce : Env} {fp : List Addr} {vs : List Nat} {σ0 : L2.St} {k : Nat} {l : LamD} {tb : DX → DTE} (hS : LamS X.N l.scope) (hb : BindL l) (hz : ZL X.N l σ0 sB HB fp) (hv : ∀ v ∈ vs, ∀ y, X.N[v]? = some y → l.scope.names.lookup y ≠ some .free)
    (ht : ∀ (E : XK) (E0 : DX) (A : Around) (outer : List Env) (s : Shared) (H : Hp) (f c' : Addr), Room k (A.deeper (lEnv l s.heap.objs.size f c')) → ∀ G : GI X.K, @Wish X.K G E0 E → @DE (lamCx X.prog X.w X.K X.mg X.base X.N l A outer s H E f c') G l.body (tb E0)) :
    LamOkR (X.blk sB HB scB ce fp) (fun σ2 => L2.wipe σ2 vs = L2.wipe σ0 vs) k l tb := by
  refine ⟨hS, hb, fun {pins σ H s} I hw => ⟨hz.1, fun y c e => ?_, fun i y v e1 e2 e3 => ?_⟩, ht⟩
  · have un : Un (X.blk sB HB scB ce fp).fs fp HB H sB.heap s.heap := I.base
    obtain ⟨n, w, o, ho, hd⟩ := hz.2.1.1 y c e
    obtain ⟨sl, q⟩ := un.any ho n (hz.2.2 y c e)
    exact ⟨un.free c o ho n (hz.2.2 y c e), w, _, q, hd⟩
  · have un : Un (X.blk sB HB scB ce fp).fs fp HB H sB.heap s.heap := I.base
    have hi : i ∉ vs := fun z => hv i z y e1 e3
    have e4 : σ0[i]? = some (some v) := by
      have key : ∀ (ws : List Nat) (τ : L2.St), i ∉ ws → (L2.wipe τ ws)[i]? = τ[i]? := by
        intro ws
        induction ws with
        | nil => intro τ _; rfl
        | cons w ws ih =>
          intro τ hn
          unfold L2.wipe
          rw [List.getElem?_set_ne (fun z => hn (by rw [z]; exact List.mem_cons_self)), ih τ fun z => hn (List.mem_cons_of_mem _ z)]
      rw [← key vs σ0 hi, ← hw, key vs σ hi, e2]
    obtain ⟨c, u, hc, r, o, ho, hd⟩ := hz.2.1.2 i y v e1 e4 e3
    obtain ⟨n, _⟩ := hz.2.1.1 y c hc
    obtain ⟨sl, q⟩ := un.any ho n (hz.2.2 y c hc)
    exact ⟨c, u, hc, r, _, q, hd⟩
theorem hv_by {N : List Str} {vs : List Nat} {scope : Scope} (h : (vs.all fun v => match N[v]? with | some y => !decide (scope.names.lookup y = some .free) | none => true) = true) : ∀ v ∈ vs, ∀ y, N[v]? = some y → scope.names.lookup y ≠ some .free := fun v hv y hy => by
  have := List.all_eq_true.mp h v hv
  rw [hy] at this
  simpa using this
theorem lamOk_blkN {X : Cx} {N : List Str} {sB : Shared} {HB : Hp} {scB : Scope} {ce : Env} {fp : List Addr} {vs : List Nat} {σ0 : L2.St} {k : Nat} {q : Str} {params : Arguments} {body : Expr} {scope : Scope} {cl : List (Str × Addr)} {dfl : Option Int} {tb : DX → DTE} (hS : lamSB N scope = true) (hb : BindL ⟨q, params, body, scope, cl, dfl⟩) (hz : ZL N ⟨q, params, body, scope, cl, dfl⟩ σ0 sB HB fp)
    (hv : (vs.all fun v => match N[v]? with | some y => !decide (scope.names.lookup y = some .free) | none => true) = true)
    (ht : ∀ (E : XK) (E0 : DX) (A : Around) (outer : List Env) (s : Shared) (H : Hp) (f c' : Addr), Room k (A.deeper (lEnv ⟨q, params, body, scope, cl, dfl⟩ s.heap.objs.size f c')) → ∀ G : GI X.K, @Wish X.K G E0 E → @DE (lamCx X.prog X.w X.K X.mg X.base X.N ⟨q, params, body, scope, cl, dfl⟩ A outer s H E f c') G body (tb E0)) (hN : X.N = N := by rfl) :
    LamOkR (X.blk sB HB scB ce fp) (fun σ2 => L2.wipe σ2 vs = L2.wipe σ0 vs) k ⟨q, params, body, scope, cl, dfl⟩ tb := by
  subst hN
  exact lamOk_blk (lamS_by hS) hb hz (hv_by hv) ht
abbrev ForBlkZ (X : Cx) (scope : Scope) (Zz : L2.St → Shared → Hp → List Addr → Prop) (Pz : L2.St → Cx → Prop) : Prop := ∀ (σ : L2.St) (s : Shared) (H : Hp) (C : Addr) (cl : List (Str × Addr)) (fp : List Addr), Zz σ s H fp → Pz σ (X.blk s H scope (compEnvC scope cl C X.env) fp)
/-- [_law_why(x) ..]: a comprehension whose element knows the cells of its def's lambdas -/
theorem de_lcZ {X : Cx} {G : GI X.K} {pos : Pos} {tt : DTT} {Zz : L2.St → Shared → Hp → List Addr → Prop} {elt tg iter : Expr} {ifs : List Expr} {scope : Scope} {own : List (Str × Nat)} {vs : List Nat} {ti : DTI} {g : TG} {dg : DTG} {te : DTE} (hN : X.N.Nodup) (hi : DI X tg iter ti) (ok : BlkOk X.N X.env.scope scope own) (tl : TgL X.K g dg vs)
    (hg : ForBlk X scope fun Y => PG Y tg g) (ht : ForBlk X scope fun Y => PTs Y ifs (lT X.K tt))
    (hZ : ∀ (σ : L2.St) (pins : List (Addr × Obj)) (s : Shared) (H : Hp) (fp : List Addr), Inv X pins σ H s → (∀ b ∈ fp, FpOk X pins H b) → Zz σ s H fp)
    (he : ForBlkZ X scope Zz fun σ Y => PE Y elt (fun σ2 H Q => L2.wipe σ2 vs = L2.wipe σ vs ∧ lE X.K te σ2 H Q)) (ho : own.map (·.2) = vs := by rfl) (hc : X.calm = true := by rfl) (hs : ∀ x, foldedSetIterable iter X.env x = pure x := by intro _; rfl) :
    DE X (.ListComp elt [⟨tg, iter, ifs, 0⟩] scope pos) (dLc ti dg tt te vs) := by
  subst ho
  exact PE.imp (pe_lcZ (te := fun σ σ2 H Q => L2.wipe σ2 (own.map (·.2)) = L2.wipe σ (own.map (·.2)) ∧ lE X.K te σ2 H Q) hc hN hi ok hg ht hZ he hs) (l_lcW tl)
end DL
namespace DL
open PySem PySem.Spec PyProof.Rows L2
section
variable {X : Cx} {GX : GI X.K} {K : PySem.W.Frag} {G : GI K} {a b c e : Expr} {ta tb tc : DTE} {tr : DTA} {pos : Pos}
/-! ### < of plain data -/
def rLtP (K : PySem.W.Frag) : R2 := fun x y H Q => ∃ d e, Dp K H x d ∧ Dp K H y e ∧ PySem.W.alike d e = true ∧ d ≠ .none ∧ min d.depth e.depth ≤ 60 ∧ Q (.bl (PySem.W.dataLt d e)) H
theorem op_ltP (hu : X.A.units + 65 < cLine) : OpR X (compareOp .Lt) (rLtP X.K) := by
  intro pins s σ H x y v u Q I rx ry h
  obtain ⟨d, e, hd, he, al, nn, dp, q⟩ := h
  obtain ⟨as, r1⟩ := Dp.reads I d x v hd rx
  obtain ⟨bs, r2⟩ := Dp.reads I e y u he ry
  exact PySem.W.rcLt_alike d e X.A s v u as bs r1 r2 al nn (by omega) X.prog X.w X.xe _ ⟨.bl (PySem.W.dataLt d e), H, I, rfl, q⟩
def rLtZ : D2 := fun x y M Q => match x, y with
  | .int i, .int j => Q (.bl (decide (i < j))) M
  | .str i, .str j => Q (.bl (decide (i.cps.toList < j.cps.toList))) M
  | x, y => ((rs M x).pl = true ∧ (rs M y).pl = true) ∧ PySem.W.alike (rs M x).py (rs M y).py = true ∧ (rs M x).py ≠ .none ∧ min (rs M x).py.depth (rs M y).py.depth ≤ 60 ∧ Q (.bl (PySem.W.dataLt (rs M x).py (rs M y).py)) M
theorem rLtZ_ii {i j : Int} {M : Mp} {Q : DQ} : rLtZ (.int i) (.int j) M Q = Q (.bl (decide (i < j))) M := rfl
theorem rLtZ_ss {i j : Str} {M : Mp} {Q : DQ} : rLtZ (.str i) (.str j) M Q = Q (.bl (decide (i.cps.toList < j.cps.toList))) M := rfl
abbrev rLtA (K : PySem.W.Frag) : R2 := fun x y H Q => ((rI0 fun i j => .bl (decide (i < j))) x y H Q ∨ (∃ i j, x = .str i ∧ y = .str j ∧ Q (.bl (decide (i.cps.toList < j.cps.toList))) H)) ∨ rLtP K x y H Q
theorem o_ltZ (hu : X.A.units + 65 < cLine) : OpR X (compareOp .Lt) (rLtA X.K) := (op_lt.or op_lt_str).or (op_ltP hu)
theorem l_ltZ : LR2 K (rLtA K) rLtZ := by
  intro F H M d e v w Q0 Q c r1 r2 h p
  unfold rLtZ at h
  split at h
  · simp only [Rep] at r1 r2
    exact .inl (.inl ⟨_, _, r1, r2, p.bl c h⟩)
  · simp only [Rep] at r1 r2
    exact .inl (.inr ⟨_, _, r1, r2, p.bl c h⟩)
  · obtain ⟨⟨h1, h2⟩, h3, h4, h5, h6⟩ := h
    exact .inr ⟨_, _, Rep.dp _ _ (rs_ok c r1) h1, Rep.dp _ _ (rs_ok c r2) h2, h3, h4, h5, p.bl c h6⟩
/-! ### index -/
def rIndexL : DM := fun x ds M Q => match ds with
  | [y] => (match lstOf M x with
    | some xs => (flatD y = true ∧ xs.all flatD = true) ∧ ∃ (j : Nat) (z : D), xs[j]? = some z ∧ D.eqv z y = true ∧ (∀ (m : Nat) (z' : D), m < j → xs[m]? = some z' → D.eqv z' y = false) ∧ Q (.int (j : Nat)) M
    | none => False)
  | _ => False
theorem l_indexL : LM K (rIndex K) rIndexL := by
  intro F H M d v ds vs Q0 Q c r rs h p
  unfold rIndexL at h
  split at h
  · rename_i y
    split at h
    · rename_i xs g
      obtain ⟨⟨h1, h2⟩, j, z, h3, h4, h5, h6⟩ := h
      obtain ⟨w, e1, e2⟩ := reps1 rs
      obtain ⟨a, us, e3, e4, e5⟩ := lstOf_ok c r g
      obtain ⟨u, e6, e7⟩ := e5.get h3
      have hz : flatD z = true := List.all_eq_true.mp h2 z (List.mem_of_getElem? h3)
      refine ⟨a, us, w, j, u, e3, e1, e4, flat_v e2 h1, flat_all e5 h2, e6, by rw [flat_eqv e7 e2 hz h1]; exact h4, fun m z' hm hz' => ?_, p.int c h6⟩
      obtain ⟨d', e8, e9⟩ := e5.get' hz'
      rw [flat_eqv e9 e2 (List.all_eq_true.mp h2 d' (List.mem_of_getElem? e8)) h1]
      exact h5 m d' hm e8
    · exact h.elim
  · exact h.elim
theorem de_indexL {apos cpos : Pos} (ho : DE X a ta) (ha : DA X [b] tr) (hbase : attributeBase a "index" X.env (eval a X.env) = eval a X.env := by rfl) (hline : (apos.endLine == cpos.line) = true := by rfl) (hs : starEach [b] X.env = (false, eval b X.env) :: starEach [] X.env := by rfl) :
    DE X (.Call (.Attribute a "index" apos) [b] [] cpos) (dBM "list" rIndexL ta tr) :=
  de_bm PySem.F.plainAttrs_list PySem.F.slot_list_index PySem.F.type_list_index mt_index l_indexL ho ha hbase (by rw [hs]; rfl) hline hs rfl
def rIndexS : DM := fun x ds M Q => match x, ds with
  | .str a, [.str b] => ∃ i rest, Builtin.Str.occurrences a b 0 a.length 1 = i :: rest ∧ Q (.int (i : Nat)) M
  | _, _ => False
theorem l_indexS : LM K (fun x xs H Q => ∃ a b i rest, x = .str a ∧ xs = [.str b] ∧ Builtin.Str.occurrences a b 0 a.length 1 = i :: rest ∧ Q (.int (i : Nat)) H) rIndexS := by
  intro F H M d v ds vs Q0 Q c r rs h p
  unfold rIndexS at h
  split at h
  · obtain ⟨i, rest, h1, h2⟩ := h
    obtain ⟨w, e1, e2⟩ := reps1 rs
    rw [Rep] at r e2
    exact ⟨_, _, i, rest, r, by rw [e1, e2], h1, p.int c h2⟩
  · exact h.elim
theorem de_indexS {apos cpos : Pos} (ho : DE X a ta) (ha : DA X [b] tr) (hbase : attributeBase a "index" X.env (eval a X.env) = eval a X.env := by rfl) (hline : (apos.endLine == cpos.line) = true := by rfl) (hs : starEach [b] X.env = (false, eval b X.env) :: starEach [] X.env := by rfl) :
    DE X (.Call (.Attribute a "index" apos) [b] [] cpos) (dBM "str" rIndexS ta tr) :=
  de_bm PySem.F.plainAttrs_str PySem.F.slot_str_index PySem.F.type_str_index mt_sindex l_indexS ho ha hbase (by rw [hs]; rfl) hline hs rfl
end
/-- the first place of a sign -/
theorem occ_sign {l : List Nat} {x : Nat} (h : x ∈ l) : ∃ rest, Builtin.Str.occurrences ⟨l.toArray⟩ ⟨#[x]⟩ 0 (⟨l.toArray⟩ : Str).length 1 = l.idxOf x :: rest := by
  have hat : ∀ i, PySem.StrLaws.At ⟨l.toArray⟩ ⟨#[x]⟩ (⟨l.toArray⟩ : Str).length i ↔ l[i]? = some x := fun i => by
    have := PySem.StrLaws.subAt_one ⟨l.toArray⟩ x i
    exact ⟨fun h => this.mp (by simpa [PySem.StrLaws.At] using h), fun h => by simpa [PySem.StrLaws.At] using this.mpr h⟩
  have hi : l.idxOf x < l.length := List.idxOf_lt_length_of_mem h
  have hx : l[l.idxOf x]? = some x := by rw [List.getElem?_eq_getElem hi, List.getElem_idxOf hi]
  rcases PySem.StrLaws.occ_head ⟨l.toArray⟩ ⟨#[x]⟩ 1 (Nat.le_refl 1) with ⟨_, hn⟩ | ⟨i, r, e, ha, hn⟩
  · exact absurd ((hat _).mpr hx) (hn _)
  · have hix := (hat i).mp ha
    have e1 : i = l.idxOf x := by
      rcases Nat.lt_trichotomy i (l.idxOf x) with z | z | z
      · have hlt := (List.getElem?_eq_some_iff.mp hix)
        obtain ⟨hl, e2⟩ := hlt
        have := List.not_of_lt_findIdx (p := (· == x)) (xs := l) (i := i) z
        rw [e2] at this
        simp at this
      · exact z
      · exact absurd ((hat _).mpr hx) (hn _ z)
    rw [e1] at e
    exact ⟨r, e⟩
section
variable {env : DSt} {M : Mp} {Q : DQ}
theorem rIndexL_l {xs : List D} {y : D} : rIndexL (.lst xs) [y] M Q = ((flatD y = true ∧ xs.all flatD = true) ∧ ∃ (j : Nat) (z : D), xs[j]? = some z ∧ D.eqv z y = true ∧ (∀ (m : Nat) (z' : D), m < j → xs[m]? = some z' → D.eqv z' y = false) ∧ Q (.int (j : Nat)) M) := rfl
theorem rIndexS_s {x y : Str} : rIndexS (.str x) [.str y] M Q = ∃ i rest, Builtin.Str.occurrences x y 0 x.length 1 = i :: rest ∧ Q (.int (i : Nat)) M := rfl
end
end DL
namespace DL
open PySem PySem.Spec PyProof.Rows L2
/-! ### f(a, k=b) of a def that may raise -/
def dCallKX (E0 : DX) (sp : DSp) (gD : List D → List D → List D) (tr tk : DTA) : DTE := fun env M Q => tr env M fun ds M1 => tk env M1 fun es M2 => sp (gD ds es) M2 Q E0
section
variable {X : Cx} {GX : GI X.K} {E : XK} {E0 : DX} {x : Str} {k m n : Nat} {π : List Nat} {p pos : Pos} {e : Expr} {es : List Expr} {kws : List Keyword} {tr tkw : DTA} {f : Addr} {fd : FuncData} {ps ks : List Str} {sp : DSp}
theorem de_callKX (G : CalX X.prog X.w X.K X.mg X.base k x ps sp f fd) (ws : Wish X.K E0 E) (hr : Room k X.A) (hb : KBinds X.K fd ps ks (gKV m n π) (gKV m n π)) (ha : DA X (e :: es) tr) (hkw : DK X kws tkw) (tk : L2.Takes X (WE E) := by exact L2.takes_of rfl rfl rfl rfl) (hg : Gl X x := by rfl)
    (hall : (backToKw pos (keywordEach kws X.env)).all (·.1.isSome) = true := by rfl) (hks : (backToKw pos (keywordEach kws X.env)).filterMap (·.1) = ks := by rfl)
    (hdb : (x == ("__debug__" : Str)) = false := by decide) (he : starEach (e :: es) X.env = (false, eval e X.env) :: starEach es X.env := by rfl)
    (hpl : ((backTo pos (starEach (e :: es) X.env)).any (·.1) || (backToKw pos (keywordEach kws X.env)).any (·.1.isNone)) = false := by rfl) : DE X (.Call (.Name x p) (e :: es) kws pos) (dCallKX E0 sp (gKV m n π) tr tkw) :=
  PE.imp (pe_callK G.fn hr hg G.g G.kp hb (L2.passes_call tk fun _ _ _ _ h => h) ha hkw hall hks hdb he hpl) fun σ H Q ⟨F, env, M, Q0, he, hc, ht, hp⟩ =>
    ⟨F, env, M, _, he, hc, ht, fun ds M1 F1 H1 vs q s1 f1 c1 r1 => ⟨F1, env, M1, _, he.mono s1, c1, q, fun es M2 F2 H2 us q2 s2 f2 c2 r2 =>
      ⟨F2, M2, _, Q0, E0, c2.toCoreP, (gkv_rep m n π).rep (r1.mono s2) r2, q2, ((hp.after s1 f1).after s2 f2).plain c2, ws.post c2⟩⟩⟩
theorem de_callKX0 (G : CalX X.prog X.w X.K X.mg X.base k x ps sp f fd) (ws : Wish X.K E0 E) (hr : Room k X.A) (hb : KBinds X.K fd ps ks (gKV m n π) (gKV m n π)) (hkw : DK X kws tkw) (tk : L2.Takes X (WE E) := by exact L2.takes_of rfl rfl rfl rfl) (hg : Gl X x := by rfl)
    (hall : (backToKw pos (keywordEach kws X.env)).all (·.1.isSome) = true := by rfl) (hks : (backToKw pos (keywordEach kws X.env)).filterMap (·.1) = ks := by rfl)
    (hdb : (x == ("__debug__" : Str)) = false := by decide)
    (hpl : ((backTo pos (starEach [] X.env)).any (·.1) || (backToKw pos (keywordEach kws X.env)).any (·.1.isNone)) = false := by rfl) : DE X (.Call (.Name x p) [] kws pos) (dCallKX E0 sp (gKV m n π) dNil tkw) := by
  have h : PE X (.Call (.Name x p) [] kws pos) (tCallK (lSp X.K sp) (gKV m n π) E tNil (lA X.K tkw)) := by
    refine ⟨fun pins s σ H Q I h => wpAny_Call_Name_kw (ld_glob I hg G.g ?_ hdb)⟩
    refine PySem.W.callWith_KW0 (h₀ := X.base) I.ok.mod.kin G.kp hall (thn (hkw.run pos pins s σ H _ I h) fun us s2 ⟨zs, H2, I2, rz, q2⟩ => ⟨I2.kIn, ?_⟩) hpl
    rw [hks]
    exact run_fnk (us := []) (vs := []) G.fn hr hb (L2.passes_call tk fun _ _ _ _ h => h) I2 .nil rz q2
  exact PE.imp h fun σ H Q ⟨F, env, M, Q0, he, hc, ht, hp⟩ => ⟨F, env, M, _, he, hc, ht, fun es M2 F2 H2 us q2 s2 f2 c2 r2 =>
      ⟨F2, M2, _, Q0, E0, c2.toCoreP, (gkv_rep m n π).rep Reps.nil r2, q2, (hp.after s2 f2).plain c2, ws.post c2⟩⟩
theorem dCallKX_ap {env : DSt} {M : Mp} {Q : DQ} {gD : List D → List D → List D} : dCallKX E0 sp gD tr tkw env M Q = tr env M fun ds M1 => tkw env M1 fun es M2 => sp (gD ds es) M2 Q E0 := rfl
end
end DL
namespace DL
open PySem PySem.Spec PyProof.Rows L2
/-! ### methods and classes whose calls may raise; defaults -/
/-- the arguments that are filled in, by data -/
structure DflD (K : PySem.W.Frag) (fd : FuncData) (ps : List Str) (dds : List D) : Prop where
  ex : ∃ (ds : List Value) (dvs : List V), Binds K fd ps ds ∧ Vals dvs ds ∧ ∀ F : Hp, Reps K F dds dvs
theorem dfl0 {K : PySem.W.Frag} {fd : FuncData} {ps : List Str} (b : Binds K fd ps []) : DflD K fd ps [] := ⟨[], [], b, .nil, fun _ => Reps.nil⟩
structure CalMX (P : Program) (w : World) (K : PySem.W.Frag) (mg : Str → Option Value) (base : Heap) (k : Nat) (C : Addr) (m : Str) (ps : List Str) (sp : DSp) (dds : List D) (f : Addr) (fd : FuncData) : Prop where
  fn : FnOk P w K mg base (L2.CX P w) k f fd ps (lSp K sp)
  cls : Cls K C
  me : Meth K C m f
  b : DflD K fd ps dds
structure CalIX (P : Program) (w : World) (K : PySem.W.Frag) (mg : Str → Option Value) (base : Heap) (k : Nat) (x : Str) (C : Addr) (ps : List Str) (sp : DSp) (dds : List D) (f : Addr) (fd : FuncData) : Prop where
  fn : FnOk P w K mg base (L2.CX P w) k f fd ps (lSp K sp)
  mk1 : Mk K C f
  g : mg x = some (.ref C)
  b : DflD K fd ps dds
def dMethX (E0 : DX) (C : Addr) (m : Str) (sp : DSp) (dds : List D) (ta : DTE) (tr : DTA) : DTE := fun env M Q => ta env M fun x M1 => match insOf M1 x with
  | some (C', fs) => C' = C ∧ fs.lookup m = none ∧ tr env M1 fun ds M2 => sp (x :: (ds ++ dds)) M2 Q E0
  | none => False
def dMakeX (E0 : DX) (C : Addr) (sp : DSp) (dds : List D) (tr : DTA) : DTE := fun env M Q => tr env M fun ds M1 => ∀ x, M1 x = none → sp (.ptr x :: (ds ++ dds)) (up M1 x (.ins C [])) (fun v M2 => v = .non ∧ Q (.ptr x) M2) E0
section
variable {X : Cx} {GX : GI X.K} {E : XK} {E0 : DX} {a b c e o : Expr} {es : List Expr} {ta tb tv : DTE} {pos p pos' apos : Pos} {tr : DTA} {k : Nat} {f C : Addr} {fd : FuncData} {ps : List Str} {sp : DSp} {x m n : Str} {dds : List D} {dvs : List V}
theorem l_methX (ws : Wish X.K E0 E) (hd : ∀ F : Hp, Reps X.K F dds dvs) : ∀ σ H Q, lE X.K (dMethX E0 C m sp dds ta tr) σ H Q → tMeth C m (lSp X.K sp) dvs E (lE X.K ta) (lA X.K tr) σ H Q := fun σ H Q ⟨F, env, M, Q0, he, hc, ht, hp⟩ =>
  ⟨F, env, M, _, he, hc, ht, fun d M1 F1 H1 v q s1 f1 c1 r1 => by
    revert q
    dsimp only
    split <;> intro q
    · rename_i C' fs g
      obtain ⟨q0, q1, q2⟩ := q
      subst q0
      obtain ⟨a, dx, vs, e1, e2, e3⟩ := insOf_ok c1 r1 g
      refine ⟨a, dx, vs, e1, e2, e3.look0 q1, F1, env, M1, _, he.mono s1, c1, q2, fun ds M2 F2 H2 us q3 s2 f2 c2 r2 => ?_⟩
      exact ⟨F2, M2, d :: (ds ++ dds), Q0, E0, c2.toCoreP, Reps.cons (r1.mono s2) (r2.app (hd F2)), q3, ((hp.after s1 f1).after s2 f2).plain c2, ws.post c2⟩
    · exact q.elim⟩
theorem de_methX {pl : Sem Bool} (G : CalMX X.prog X.w X.K X.mg X.base k C m ps sp dds f fd) (ws : Wish X.K E0 E) (hr : Room k X.A) (ho : DE X o ta) (ha : DA X (e :: es) tr) (tk : L2.Takes X (WE E) := by exact L2.takes_of rfl rfl rfl rfl)
    (hst : starEach (e :: es) X.env = (false, eval e X.env) :: starEach es X.env := by rfl) (hpl : (backTo pos (starEach es X.env)).any (·.1) = false := by rfl)
    (ht : eval (.Call (.Attribute o m apos) (e :: es) [] pos) X.env = (do
      let ov ← eval o X.env
      standAt apos.atName
      let (f, first) ← holding [ov] (getMethod ov m pl)
      callWith pos f first (backTo pos (starEach (e :: es) X.env)) (backToKw pos (keywordEach [] X.env))) := by rfl) : DE X (.Call (.Attribute o m apos) (e :: es) [] pos) (dMethX E0 C m sp dds ta tr) := by
  obtain ⟨ds, dvs, hb, hv, hd⟩ := G.b.ex
  exact PE.imp (pe_meth ho G.cls G.me G.fn hr hb hv (L2.passes_call tk fun _ _ _ _ h => h) ha hst hpl ht) (l_methX ws hd)
theorem de_methX0 {pl : Sem Bool} (G : CalMX X.prog X.w X.K X.mg X.base k C m ps sp dds f fd) (ws : Wish X.K E0 E) (hr : Room k X.A) (ho : DE X o ta) (tk : L2.Takes X (WE E) := by exact L2.takes_of rfl rfl rfl rfl)
    (ht : eval (.Call (.Attribute o m apos) [] [] pos) X.env = (do
      let ov ← eval o X.env
      standAt apos.atName
      let (f, first) ← holding [ov] (getMethod ov m pl)
      callWith pos f first (backTo pos (starEach [] X.env)) (backToKw pos (keywordEach [] X.env))) := by rfl) : DE X (.Call (.Attribute o m apos) [] [] pos) (dMethX E0 C m sp dds ta dNil) := by
  obtain ⟨ds, dvs, hb, hv, hd⟩ := G.b.ex
  refine PE.imp (pe_meth0 ho G.cls G.me G.fn hr hb hv (L2.passes_call tk fun _ _ _ _ h => h) ht) fun σ H Q h => ?_
  obtain ⟨F, env, M, Q1, he, hc, ht, hp⟩ := l_methX (E0 := E0) (C := C) (m := m) (sp := sp) (ta := ta) (tr := dNil) ws hd σ H Q h
  refine ⟨F, env, M, Q1, he, hc, ht, fun d M' F' H' v q s f c r => ?_⟩
  obtain ⟨a, dx, fs, e1, e2, e3, F2, env2, M2, Q2, g1, g2, g3, g4⟩ := hp d M' F' H' v q s f c r
  exact ⟨a, dx, fs, e1, e2, e3, g4 [] M2 F2 H' [] g3 (Same.refl _) Fr.refl g2 Reps.nil⟩
theorem l_makeX (ws : Wish X.K E0 E) (hd : ∀ F : Hp, Reps X.K F dds dvs) : ∀ σ H Q, lE X.K (dMakeX E0 C sp dds tr) σ H Q → tMake C (lSp X.K sp) dvs E (lA X.K tr) σ H Q := fun σ H Q ⟨F, env, M, Q0, he, hc, ht, hp⟩ =>
  ⟨F, env, M, _, he, hc, ht, fun ds M1 F1 H1 vs q s1 f1 c1 r1 x dx hx hdx ne => by
    obtain ⟨n1, n2⟩ := c1.nones hx
    have c2 : Core X.K F1 (upd H1 dx (.own x)) M1 := c1.out hdx _
    have f2 : Fr F1 H1 M1 F1 (upd H1 dx (.own x)) M1 := fun a o e n => ⟨by rw [upd_ne (ne_of_none e hdx)]; exact e, n, fun z => z⟩
    have hx2 : upd H1 dx (.own x) x = none := by rw [upd_ne (Ne.symm ne)]; exact hx
    obtain ⟨c3, f3⟩ := c2.newM (mo := .ins C []) hx2 (o := .ins C dx []) ⟨dx, [], rfl, by rw [RepF]⟩
    have hp3 := (hp.after s1 f1).after (Same.refl _) (f2.trans f3)
    refine ⟨F1, _, .ptr x :: (ds ++ dds), _, E0, c3.toCoreP, Reps.cons (by rw [Rep]) (r1.app (hd F1)), q x n2, fun d M4 F4 H4 v q4 s4 f4 c4 r4 => ?_, ws.post c3⟩
    obtain ⟨e0, q4⟩ := q4
    subst e0
    rw [Rep] at r4
    exact ⟨r4, hp3 _ M4 F4 H4 _ q4 s4 f4 (c3.to c4 s4 f4) (by rw [Rep])⟩⟩
theorem de_makeX (G : CalIX X.prog X.w X.K X.mg X.base k x C ps sp dds f fd) (ws : Wish X.K E0 E) (hr : Room (k + 1) X.A) (ha : DA X (e :: es) tr) (tk : L2.Takes X (WE E) := by exact L2.takes_of rfl rfl rfl rfl) (hg : Gl X x := by rfl) (hdb : (x == ("__debug__" : Str)) = false := by decide)
    (he : starEach (e :: es) X.env = (false, eval e X.env) :: starEach es X.env := by rfl) (hpl : (backTo pos (starEach es X.env)).any (·.1) = false := by rfl) : DE X (.Call (.Name x p) (e :: es) [] pos) (dMakeX E0 C sp dds tr) := by
  obtain ⟨ds, dvs, hb, hv, hd⟩ := G.b.ex
  exact PE.imp (pe_make G.mk1 G.fn hr hg G.g hb hv (L2.passes_call tk fun _ _ _ _ h => h) ha hdb he hpl) (l_makeX ws hd)
variable {env : DSt} {M : Mp} {Q : DQ}
theorem dMethX_ap : dMethX E0 C m sp dds ta tr env M Q = ta env M fun x M1 => (match insOf M1 x with
  | some (C', fs) => C' = C ∧ fs.lookup m = none ∧ tr env M1 fun ds M2 => sp (x :: (ds ++ dds)) M2 Q E0
  | none => False) := rfl
theorem dMakeX_ap : dMakeX E0 C sp dds tr env M Q = tr env M fun ds M1 => ∀ x, M1 x = none → sp (.ptr x :: (ds ++ dds)) (up M1 x (.ins C [])) (fun v M2 => v = .non ∧ Q (.ptr x) M2) E0 := rfl
end
end DL
namespace DL
open PySem PySem.Spec PyProof.Rows L2
/-! ### a tuple once -/
theorem tup_once (l : Addr) (its : Array Value) (n : Nat) (dd : Option Addr) (sl : Array (Option Value)) (u : Tok) :
    Meets (Builtin.«tuple.__mul__» ⟨[.ref l, .int 1 u], []⟩) (fun _ R s => s.heap.get? l = some { cls := .type "tuple", dict := dd, data := .seq its n, slots := sl } ∧ R (.ok (.ret (Value.ref l))) s) :=
  .of_wp fun prog w A R s h => by
    obtain ⟨hp, g, d, tk, os⟩ := s
    obtain ⟨hl, h⟩ := h
    have f1 := AutoSeq1.idx_int
    have c0 : (decide ((1 : Int) < -(2 ^ 63)) || decide ((1 : Int) ≥ 2 ^ 63)) = false := by decide
    have c1 : (its.isEmpty || (1 : Int) == 1) = true := by rw [Bool.or_eq_true]; exact .inr rfl
    wp_walk using wpAny_loadPart' hl
    repeat (first
      | (refine wpAny_ite_false (decide_eq_false (by rw [c0]; exact Bool.false_ne_true)) ?_; wp_walk using wpAny_loadPart' hl)
      | (refine wpAny_ite_true (decide_eq_true c1) ?_; wp_walk using wpAny_loadPart' hl))
    exact ⟨_, rfl, h⟩
section
variable {X : Cx} {GX : GI X.K} {K : PySem.W.Frag} {G : GI K} {a b c e : Expr} {es : List Expr} {ta tb tc : DTE} {pos p : Pos} {tt : DTT} {tr tk : DTA}
def rOnceT (K : PySem.W.Frag) : R2 := fun x y H Q => ∃ l xs, x = .ref l ∧ y = .int 1 ∧ SqT K H l xs ∧ Q (.ref l) H
theorem op_onceT : OpR X (binaryOp .Mult) (rOnceT X.K) := by
  intro pins s σ H x y v u Q I rx ry h
  obtain ⟨l, xs, rfl, rfl, hT, q⟩ := h
  cases rx
  obtain ⟨t, rfl⟩ := ry
  obtain ⟨its, r, ⟨⟨cls, dd, data, sl⟩, ho, hc, n, hd⟩, hs⟩ := I.tuple hT
  simp only at hc hd
  subst hc hd
  exact wpAny_binaryOp_repeat_ref (T := "tuple") (U := "int") (by decide) ⟨_, ho, rfl⟩ (fun s' => typeIs_int s' 1 t) noFill_tuple_mul F.fills_int_mul F.slot_int_rmul repeat_tuple F.slot_int_index.lookup
    (call_meets F.slot_int_rmul (typeIs_int s 1 t) F.entry_int_rmul (F.args_int_rmul_2 _ _) (int_rmul_tuple 1 t l its.toArray n dd sl)
      ⟨ho, rfl, ⟨_, ho, rfl⟩, call_meets F.slot_tuple_mul ⟨_, ho, rfl⟩ F.entry_tuple_mul (F.args_tuple_mul_2 _ _) (tup_once l its.toArray n dd sl t) ⟨ho, ⟨.ref l, _, I, rfl, q⟩⟩⟩)
/-- x * n: ints, a text, a tuple that is not empty -/
def rMulT : D2 := fun x y M Q => match x, y with
  | .int i, .int j => CMulA i j ∧ Q (.int (i * j)) M
  | .str s, .int j => MulOk s j ∧ Q (.str (Txt.mul s j)) M
  | .tup ds, .int k => ds ≠ [] ∧ 1 ≤ k ∧ k ≤ 1000 ∧ ds.length ≤ 1000 ∧ Q (.tup (List.replicate k.toNat ds).flatten) M
  | _, _ => False
theorem Reps.rep {F : Hp} {ds : List D} {vs : List V} (r : Reps K F ds vs) : ∀ n, Reps K F (List.replicate n ds).flatten (List.replicate n vs).flatten
  | 0 => Reps.nil
  | n + 1 => by
    rw [List.replicate_succ, List.replicate_succ, List.flatten_cons, List.flatten_cons]
    exact r.app (Reps.rep r n)
theorem l_mulT : LR2 K (fun x y H Q => ((rI CMulA fun i j => .int (i * j)) x y H Q ∨ (∃ s i, x = .str s ∧ y = .int i ∧ MulOk s i ∧ Q (.str (Txt.mul s i)) H)) ∨ (rRepT K x y H Q ∨ rOnceT K x y H Q)) rMulT := by
  intro F H M d e v w Q0 Q c r1 r2 h p
  unfold rMulT at h
  split at h
  · simp only [Rep] at r1 r2
    exact .inl (.inl ⟨_, _, r1, r2, h.1, p.int c h.2⟩)
  · simp only [Rep] at r1 r2
    exact .inl (.inr ⟨_, _, r1, r2, h.1, p.str c h.2⟩)
  · rename_i ds k
    obtain ⟨h1, h2, h3, h4, h5⟩ := h
    have r1' := r1
    rw [Rep] at r1
    rw [Rep] at r2
    obtain ⟨l, xs, e1, e2, e3⟩ := r1
    refine .inr ?_
    by_cases hk : k = 1
    · subst hk
      refine .inr ⟨l, xs, e1, r2, sameT c.same e2, ?_⟩
      subst e1
      refine p _ M F H _ h5 (Same.refl F) Fr.refl c ?_
      rw [show (1 : Int).toNat = 1 from rfl, List.replicate_one, List.flatten_cons, List.flatten_nil, List.append_nil]
      exact r1'
    · refine .inl ⟨l, k, xs, e1, r2, sameT c.same e2, fun z => h1 ?_, by omega, h3, by rw [e3.len]; exact h4, p.tup c (e3.rep k.toNat) h5⟩
      rw [z] at e3
      exact List.eq_nil_of_length_eq_zero (by rw [← e3.len]; rfl)
  · exact h.elim
theorem de_mulT (ha : DE X a ta) (hb : DE X b tb) : DE X (.BinOp a .Mult b pos) (dOp rMulT ta tb) := de_op ((o_mulA.or o_mulStr).or (op_repT.or op_onceT)) l_mulT ha hb
theorem rMulT_ii {i j : Int} {M : Mp} {Q : DQ} : rMulT (.int i) (.int j) M Q = (CMulA i j ∧ Q (.int (i * j)) M) := rfl
theorem rMulT_si {i : Str} {j : Int} {M : Mp} {Q : DQ} : rMulT (.str i) (.int j) M Q = (MulOk i j ∧ Q (.str (Txt.mul i j)) M) := rfl
theorem rMulT_ti {ds : List D} {k : Int} {M : Mp} {Q : DQ} : rMulT (.tup ds) (.int k) M Q = (ds ≠ [] ∧ 1 ≤ k ∧ k ≤ 1000 ∧ ds.length ≤ 1000 ∧ Q (.tup (List.replicate k.toNat ds).flatten) M) := rfl
/-! ### // by any divisor but 0, *= of great ints -/
def CDivZ (_ j : Int) : Prop := j ≠ 0 ∧ j.natAbs.log2 < 9000
theorem op_fdivZ : OpR X (binaryOp .FloorDiv) (rI CDivZ fun i j => .int (i.fdiv j)) := opI fun _ _ _ _ _ _ _ hc q => floordiv_int hc.1 q (.inl (PyProof.noPylong_of_log2 hc.2))
abbrev rFdivZ : D2 := rInt2 CDivZ Int.fdiv
theorem de_fdivZ (ha : DE X a ta) (hb : DE X b tb) : DE X (.BinOp a .FloorDiv b pos) (dOp rFdivZ ta tb) := de_op op_fdivZ l_int ha hb
theorem rFdivZ_ii {i j : Int} {M : Mp} {Q : DQ} : rFdivZ (.int i) (.int j) M Q = (CDivZ i j ∧ Q (.int (i.fdiv j)) M) := rfl
theorem iop_mulW : OpR X (inplaceOp .Mult) (rI CMulW fun i j => .int (i * j)) := opI fun _ _ _ _ _ _ _ hc q => imul_int q hc.ok
abbrev rMulW : D2 := rInt2 CMulW fun i j => i * j
theorem rMulW_ii {i j : Int} {M : Mp} {Q : DQ} : rMulW (.int i) (.int j) M Q = (CMulW i j ∧ Q (.int (i * j)) M) := rfl
/-! ### zip -/
def zipD : List D → List D → List D
  | x :: xs, y :: ys => .tup [x, y] :: zipD xs ys
  | _, _ => []
theorem zipD_len : ∀ (xs ys : List D), (zipD xs ys).length = min xs.length ys.length
  | [], ys => by rw [zipD.eq_def]; simp
  | _ :: _, [] => by rw [zipD.eq_def]; simp
  | x :: xs, y :: ys => by rw [zipD, List.length_cons, List.length_cons, List.length_cons, zipD_len]; omega
theorem zipD_get : ∀ (xs ys : List D) (i : Nat) (x y : D), xs[i]? = some x → ys[i]? = some y → (zipD xs ys)[i]? = some (.tup [x, y])
  | x :: xs, y :: ys, 0, _, _, h1, h2 => by
    rw [List.getElem?_cons_zero] at h1 h2
    cases h1; cases h2
    rw [zipD, List.getElem?_cons_zero]
  | x :: xs, y :: ys, i + 1, a, b, h1, h2 => by
    rw [List.getElem?_cons_succ] at h1 h2
    rw [zipD, List.getElem?_cons_succ]
    exact zipD_get xs ys i a b h1 h2
  | [], _, _, _, _, h1, _ => by simp at h1
  | _ :: _, [], _, _, _, _, h2 => by simp at h2
theorem yl_zipT {F : Hp} {a b : Addr} {ds es : List D} {vs ws : List V} (r : Reps K F ds vs) (r' : Reps K F es ws) (hT : SqT K F a vs) (hT' : SqT K F b ws) : Yl K (RZ.ItzT K a b) F (zipD ds es) (fun _ => True) where
  go := fun {F' H M i} s c k hi => by
    rw [zipD_len, ← r.len, ← r'.len] at hi
    exact ⟨vs, ws, vs[i], ws[i], sameT (s.trans c.same) hT, sameT (s.trans c.same) hT', List.getElem?_eq_getElem (by omega), List.getElem?_eq_getElem (by omega)⟩
  stop := fun {F' H M i} s c k hi => by
    rw [zipD_len, ← r.len, ← r'.len] at hi
    exact ⟨vs, ws, sameT (s.trans c.same) hT, sameT (s.trans c.same) hT', by omega⟩
  yld := fun {F' H H' M i x} s c k hi hy => by
    rw [zipD_len] at hi
    obtain ⟨T, x0, y0, rfl, hn, rfl, hx, hy⟩ := hy
    have hx0 := hx vs (sameT (s.trans c.same) hT)
    have hy0 := hy ws (sameT (s.trans c.same) hT')
    obtain ⟨v, e1, e2⟩ := r.get (List.getElem?_eq_getElem (by omega : i < ds.length))
    obtain ⟨w, g1, g2⟩ := r'.get (List.getElem?_eq_getElem (by omega : i < es.length))
    rw [e1] at hx0
    rw [g1] at hy0
    cases hx0
    cases hy0
    obtain ⟨c1, s1, f1⟩ := c.new hn (.tup [x0, y0])
    refine ⟨.tup [ds[i]'(by omega), es[i]'(by omega)], _, zipD_get _ _ _ _ _ (List.getElem?_eq_getElem (by omega)) (List.getElem?_eq_getElem (by omega)), s1, c1, f1, ?_⟩
    rw [Rep]
    exact ⟨T, [x0, y0], rfl, .inl (.inl upd_same), Reps.cons (e2.mono (s.trans s1)) (Reps.one (g2.mono (s.trans s1)))⟩
theorem yl_zipL {F : Hp} {a b : Addr} {ds es : List D} {kp : Mp → Prop} (hL : ∀ {F' H : Hp} {M : Mp}, Same F F' → Core K F' H M → kp M → (∃ vs, SqL K H a vs ∧ Reps K F' ds vs) ∧ ∃ ws, SqL K H b ws ∧ Reps K F' es ws) : Yl K (Itz K a b) F (zipD ds es) kp where
  go := fun {F' H M i} s c k hi => by
    obtain ⟨⟨vs, q, r⟩, ws, q', r'⟩ := hL s c k
    rw [zipD_len, ← r.len, ← r'.len] at hi
    exact ⟨vs, ws, vs[i], ws[i], q, q', List.getElem?_eq_getElem (by omega), List.getElem?_eq_getElem (by omega)⟩
  stop := fun {F' H M i} s c k hi => by
    obtain ⟨⟨vs, q, r⟩, ws, q', r'⟩ := hL s c k
    rw [zipD_len, ← r.len, ← r'.len] at hi
    exact ⟨vs, ws, q, q', by omega⟩
  yld := fun {F' H H' M i x} s c k hi hy => by
    obtain ⟨⟨vs, q, r⟩, ws, q', r'⟩ := hL s c k
    rw [zipD_len] at hi
    obtain ⟨T, x0, y0, rfl, hn, rfl, hx, hy⟩ := hy
    have hx0 := hx vs q
    have hy0 := hy ws q'
    obtain ⟨v, e1, e2⟩ := r.get (List.getElem?_eq_getElem (by omega : i < ds.length))
    obtain ⟨w, g1, g2⟩ := r'.get (List.getElem?_eq_getElem (by omega : i < es.length))
    rw [e1] at hx0
    rw [g1] at hy0
    cases hx0
    cases hy0
    obtain ⟨c1, s1, f1⟩ := c.new hn (.tup [x0, y0])
    refine ⟨.tup [ds[i]'(by omega), es[i]'(by omega)], _, zipD_get _ _ _ _ _ (List.getElem?_eq_getElem (by omega)) (List.getElem?_eq_getElem (by omega)), s1, c1, f1, ?_⟩
    rw [Rep]
    exact ⟨T, [x0, y0], rfl, .inl (.inl upd_same), Reps.cons (e2.mono s1) (Reps.one (g2.mono s1))⟩
def dZip (tr : DTA) : DTI := fun env M R => tr env M fun ds M1 => match ds with
  | [.tup xs, .tup ys] => R (zipD xs ys) (fun _ => True) M1
  | [x, y] => ∃ xs ys, lstOf M1 x = some xs ∧ lstOf M1 y = some ys ∧ R (zipD xs ys) (fun M2 => lstOf M2 x = some xs ∧ lstOf M2 y = some ys) M1
  | _ => False
theorem Rep.refOf {F : Hp} {x : D} {v : V} {M : Mp} {xs : List D} (r : Rep K F x v) (h : lstOf M x = some xs) : ∃ a, v = .ref a := by
  cases x with
  | lst es =>
    rw [Rep] at r
    exact ⟨_, r.choose_spec.choose_spec.1⟩
  | lsx es =>
    rw [Rep] at r
    exact ⟨_, r.choose_spec.choose_spec.1⟩
  | ptr a =>
    rw [Rep] at r
    exact ⟨a, r⟩
  | _ => simp [lstOf] at h
theorem di_zip {e e2 : Expr} {tpos : Pos} {elts : List Expr} {kk : Nat} (hm : X.mg "zip" = none) (ha : DA X [e, e2] tr) (hg : Gl X "zip" := by rfl) (hs : starEach [e, e2] X.env = (false, eval e X.env) :: starEach [e2] X.env := by rfl) (hpl : (backTo pos (starEach [e2] X.env)).any (·.1) = false := by rfl) :
    DI X (.Tuple elts kk tpos) (.Call (.Name "zip" p) [e, e2] [] pos) (dZip tr) :=
  PI.imp (RZ.pi_zipA hg hm ha hs hpl) fun σ H R ⟨F, env, M, R0, he, hc, ht, hp⟩ => ⟨F, env, M, _, he, hc, ht, fun ds M1 F1 H1 vs q s1 f1 c1 r1 => by
    revert q
    dsimp only
    split <;> intro q
    · obtain ⟨v, v', e0, e1, e2⟩ := reps2 r1
      rw [Rep] at e1 e2
      obtain ⟨a, us, e3, e4, e5⟩ := e1
      obtain ⟨b, ws, g3, g4, g5⟩ := e2
      subst e0 e3 g3
      exact ⟨a, b, us, ws, rfl, .inr ⟨sameT c1.same e4, sameT c1.same g4, hp _ _ _ _ _ _ q s1 f1 c1 (yl_zipT e5 g5 e4 g4)⟩⟩
    · obtain ⟨xs, ys, h1, h2, q⟩ := q
      obtain ⟨v, v', e0, e1, e2⟩ := reps2 r1
      obtain ⟨a, us, e3, e4, e5⟩ := lstOf_ok c1 e1 h1
      obtain ⟨b, ws, g3, g4, g5⟩ := lstOf_ok c1 e2 h2
      subst e0 e3 g3
      refine ⟨a, b, us, ws, rfl, .inl ⟨e4, g4, hp _ _ _ _ _ _ q s1 f1 c1 (yl_zipL fun s c k => ?_)⟩⟩
      obtain ⟨a', us', e3', e4', e5'⟩ := lstOf_ok c (e1.mono s) k.1
      obtain ⟨b', ws', g3', g4', g5'⟩ := lstOf_ok c (e2.mono s) k.2
      cases e3'
      cases g3'
      exact ⟨⟨us', e4', e5'⟩, ws', g4', g5'⟩
    · exact q.elim⟩
theorem dZip_ap {env : DSt} {M : Mp} {R : List D → (Mp → Prop) → Mp → Prop} : dZip tr env M R = tr env M fun ds M1 => (match ds with
  | [.tup xs, .tup ys] => R (zipD xs ys) (fun _ => True) M1
  | [x, y] => ∃ xs ys, lstOf M1 x = some xs ∧ lstOf M1 y = some ys ∧ R (zipD xs ys) (fun M2 => lstOf M2 x = some xs ∧ lstOf M2 y = some ys) M1
  | _ => False) := rfl
/-! ### a comprehension whose list may be changed later -/
def dLcM (ti : DTI) (g : DTG) (tt : DTT) (te : DTE) (vs : List Nat) : DTE := fun env M Q => ti env M fun ds kp M1 => ∃ Pv : Nat → List D → Mp → Prop, Pv 0 [] M1 ∧ (∀ i acc M, Pv i acc M → kp M) ∧
  (∀ i d acc M, ds[i]? = some d → Pv i acc M → g d (wipeD env vs) M fun env2 M2 => tt env2 M2 fun b M3 => if b = true then te env2 M3 fun y M4 => acc.length < sizeLine ∧ Pv (i + 1) (acc ++ [y]) M4 else Pv (i + 1) acc M3) ∧
  ∀ acc M, Pv ds.length acc M → ∀ p, M p = none → Q (.ptr p) (up M p (.lst acc))
theorem l_lcM {ti : DTI} {g : TG} {dg : DTG} {te : DTE} {vs : List Nat} (tl : TgL K g dg vs) : ∀ σ H Q, lE K (dLcM ti dg tt te vs) σ H Q → tLc (lI K ti) g (lT K tt) (lE K te) vs σ H Q := fun σ H Q ⟨F, env, M, Q0, he, hc, ht, hp⟩ => by
  refine ⟨F, env, M, _, he, hc, ht, fun ds kp M1 F1 H1 J q s1 f1 c1 Y L hL => ?_⟩
  obtain ⟨Pv, p0, hk, turn, fin⟩ := q
  have n1 := c1.nones hL
  have c1' : Core K F1 (upd H1 L (.lst [])) M1 := c1.out hL _
  have fL : Fr F1 H1 M1 F1 (upd H1 L (.lst [])) M1 := fun a o e n => ⟨by rw [upd_ne (ne_of_none e hL)]; exact e, n, fun z => z⟩
  refine ⟨fun i m H' => m = ds.length - i ∧ i ≤ ds.length ∧ ∃ F' M' acc va, Same F1 F' ∧ Fr F1 H1 M1 F' H' M' ∧ Core K F' H' M' ∧ H' L = some (.lst va) ∧ F' L = none ∧ M' L = none ∧ Reps K F' acc va ∧ Pv i acc M',
    ⟨_, rfl, Nat.zero_le _, F1, M1, [], [], Same.refl _, fL, c1', upd_same, n1.1, n1.2, Reps.nil, p0⟩, ?_⟩
  rintro i m H2 ⟨rfl, hle, F2, M2, acc, va, s2, f2, c2, hv, hF, hM, ra, p2⟩
  have kk := hk _ _ _ p2
  by_cases hlt : i < ds.length
  · refine .inr ⟨Y.go s2 c2 kk hlt, fun H' => ∃ F' M' acc va, Same F1 F' ∧ Fr F1 H1 M1 F' H' M' ∧ Core K F' H' M' ∧ H' L = some (.lst va) ∧ F' L = none ∧ M' L = none ∧ Reps K F' acc va ∧ Pv (i + 1) acc M', fun H' z => ⟨_, by omega, rfl, hlt, z⟩, fun x H3 y => ?_⟩
    obtain ⟨d, F3, hd, s3, c3, f3, r3⟩ := Y.yld s2 c2 kk hlt y
    obtain ⟨hv3, _, hF3⟩ := f3 L _ hv hM
    refine tl (((he.mono s1).mono (s2.trans s3)).wipe vs) c3 r3 (turn i d acc M2 hd p2) fun σ' env' hw he' q' => ⟨hw.trans (wipe_idem vs), F3, env', M2, _, he', c3, q', fun b M4 F4 H4 q4 s4 f4 c4 => ?_⟩
    obtain ⟨hv4, hM4, hF4⟩ := f4 L _ hv3 hM
    cases b with
    | false => exact ⟨F4, M4, acc, va, s2.trans (s3.trans s4), f2.trans (f3.trans f4), c4, hv4, hF4 (hF3 hF), hM4, ra.mono (s3.trans s4), q4⟩
    | true =>
      rw [if_pos rfl] at q4 ⊢
      refine ⟨F4, env', M4, _, he'.mono s4, c4, q4, fun z M5 F5 H5 v5 q5 s5 f5 c5 r5 => ?_⟩
      obtain ⟨hv5, hM5, hF5⟩ := f5 L _ hv4 hM4
      have hF' := hF5 (hF4 (hF3 hF))
      have ra5 := ra.mono ((s3.trans s4).trans s5)
      have fr5 : Fr F1 H1 M1 F5 (upd H5 L (.lst (va ++ [v5]))) M5 := fun a o e n => by
        obtain ⟨x1, x2, x3⟩ := (f2.trans (f3.trans (f4.trans f5))) a o e n
        exact ⟨by rw [upd_ne (ne_of_none e hL)]; exact x1, x2, x3⟩
      refine ⟨va, hv5, by rw [ra5.len]; exact q5.1, F5, M5, acc ++ [z], va ++ [v5], s2.trans (s3.trans (s4.trans s5)), fr5, c1.to ⟨fun b u e => ?_, fun a mo e => ?_⟩ (s2.trans (s3.trans (s4.trans s5))) fr5, upd_same, hF', hM5, ra5.app (Reps.one r5), q5.2⟩
      · have hb : b ≠ L := fun z => by rw [z, hF'] at e; cases e
        rw [upd_ne hb]; exact c5.same b u e
      · obtain ⟨x1, o, x2, x3⟩ := c5.mem a mo e
        have ha : a ≠ L := fun z => by rw [z, hM5] at e; cases e
        exact ⟨x1, o, by rw [upd_ne ha]; exact x2, x3⟩
  · have e : i = ds.length := by omega
    subst e
    have fr2 : Fr F1 H1 M1 F2 H2 (up M2 L (.lst acc)) := fun a o e n => by
      obtain ⟨x1, x2, x3⟩ := f2 a o e n
      exact ⟨x1, by rw [up_ne (ne_of_none e hL)]; exact x2, x3⟩
    have cc : Core K F2 H2 (up M2 L (.lst acc)) := c1.to ⟨fun b u e => c2.same b u e, fun a mo e => by
      by_cases ha : a = L
      · subst ha
        rw [up_same] at e
        cases e
        exact ⟨hF, _, hv, va, rfl, ra⟩
      · rw [up_ne ha] at e
        exact c2.mem a mo e⟩ s2 fr2
    exact .inl ⟨Y.stop s2 c2 kk (Nat.le_refl _), hp _ (up M2 L (.lst acc)) F2 H2 _ (fin _ _ p2 L hM) (s1.trans s2) (f1.trans fr2) cc (by rw [Rep])⟩
theorem de_lcM {elt tg iter : Expr} {ifs : List Expr} {scope : Scope} {own : List (Str × Nat)} {vs : List Nat} {ti : DTI} {g : TG} {dg : DTG} {te : DTE} (hN : X.N.Nodup) (hi : DI X tg iter ti) (ok : BlkOk X.N X.env.scope scope own) (tl : TgL X.K g dg vs)
    (hg : ForBlk X scope fun Y => PG Y tg g) (ht : ForBlk X scope fun Y => PTs Y ifs (lT X.K tt)) (he : ForBlk X scope fun Y => PE Y elt (lE X.K te)) (ho : own.map (·.2) = vs := by rfl) (hc : X.calm = true := by rfl) (hs : ∀ x, foldedSetIterable iter X.env x = pure x := by intro _; rfl) :
    DE X (.ListComp elt [⟨tg, iter, ifs, 0⟩] scope pos) (dLcM ti dg tt te vs) := by
  subst ho
  exact PE.imp (pe_lc hc hN hi ok hg ht he hs) (l_lcM tl)
theorem ds_setLcM {i : Nat} {y : Str} {py spos : Pos} {elt tg iter : Expr} {ifs : List Expr} {scope : Scope} {own : List (Str × Nat)} {vs : List Nat} {ti : DTI} {g : TG} {dg : DTG} {te : DTE} (hN : X.N.Nodup) (hi : DI X tg iter ti) (ok : BlkOk X.N X.env.scope scope own) (tl : TgL X.K g dg vs)
    (hg : ForBlk X scope fun Y => PG Y tg g) (ht : ForBlk X scope fun Y => PTs Y ifs (lT X.K tt)) (he : ForBlk X scope fun Y => PE Y elt (lE X.K te)) (hy : X.N[i]? = some y := by rfl) (hyl : X.env.scope.names.lookup y = some .local := by rfl)
    (hsw : swapsWith (.ListComp elt [⟨tg, iter, ifs, 0⟩] scope pos) (some (.Name y py)) spos.line X.env = pure true := by exact sw_true rfl rfl rfl (by decide +kernel)) (ho : own.map (·.2) = vs := by rfl) (hc : X.calm = true := by rfl) (hs : ∀ x, foldedSetIterable iter X.env x = pure x := by intro _; rfl) :
    DS X (.Assign [.Name y py] (.ListComp elt [⟨tg, iter, ifs, 0⟩] scope pos) spos) (dAsg (dLcM ti dg tt te vs) (dgName i)) := by
  subst ho
  exact PS.imp (ps_setLc hc hN hy hyl hsw hi ok hg ht he hs) fun E σ H ⟨F, env, M, D0, he, hc, ht, hp⟩ => l_lcM tl σ H _ ⟨F, env, M, _, he, hc, ht, fun d M1 F1 H1 v q s1 f1 c1 r1 => hp.nx _ M1 F1 H1 _ q s1 f1 c1 ((he.mono s1).set i r1)⟩
end
end DL
/-! ### an own `__eq__`, `__len__`, `__repr__`, `__contains__` -/
namespace L2
open PySem PySem.Spec PyProof.Rows PySem.W
section
variable {X : Cx} {n : Nat} {C f : Addr} {fd : FuncData} {ps : List Str} {sp : Sp} {E : XK} {CX : CXT}
/-- a call of a def of the text, from within the library -/
theorem call_own (F : FnOk X.prog X.w X.K X.mg X.base CX n f fd ps sp) (hb : Binds X.K fd ps []) (hx : Passes CX X E) {A : Around} (sb : Sub X n A) {pins : List (Addr × Obj)} {σ : St} {H : Hp} {s : Shared} {vs : List V} {us : List Value} {Q : VK}
    (I : Inv X pins σ H s) (r : Vals vs us) (h : sp vs H Q E) : wpAny (model X.prog X.w) A (call (.ref f) us) (EP X pins σ Q) X.xe s := by
  have e0 : Env0 X.prog X.w X.K X.mg X.base A X.stack s H := by
    have e := I.env0
    exact ⟨by rw [sb.fr]; exact e.frames, e.mod, e.bs, e.bsz, e.funs, e.frf, e.hok, e.bare⟩
  have hl := F.len _ _ _ _ h
  refine wpAny_call (codeAny_mono (F.run A X.stack s H ⟨us, []⟩ us vs _ E sb.room e0 (by
    have := hb s us I.kIn (by rw [List.append_nil, ← r.length]; exact hl)
    simpa using this) r h) fun r s' hq => ?_)
  cases r with
  | error e => exact hx pins σ H s e s' I hq
  | ok fl =>
    cases fl with
    | ret w =>
      obtain ⟨z, H', I', rz, q⟩ := I.after hq
      exact ⟨z, H', I', rz, q⟩
    | next => exact False.elim hq
    | brk => exact False.elim hq
    | cont => exact False.elim hq
/-- what a special method gives: a bool -/
def QB (Q : Bool → Hp → Prop) : VK := fun v H => ∃ k, v = .bl k ∧ Q k H
theorem looks_ty {pins : List (Addr × Obj)} {σ : St} {H : Hp} {s : Shared} {x : V} {u t : Value} (I : Inv X pins σ H s) (r : RelV x u) (ty : TyX X.K H x t) : Looks (model X.prog X.w) s.heap (typeOf u) t := by
  obtain ⟨P, Z, p, _⟩ := kit_of I r ty
  exact Z.ty _ _ I.kIn p
def rEqO (K : PySem.W.Frag) (C : Addr) (sp : Sp) (E : XK) : R2 := fun x y H Q => ∃ a dx fs t, x = .ref a ∧ H a = some (.ins C dx fs) ∧ TyX K H y t ∧ notFirst K C t = true ∧ sp [x, y] H (QB fun k => Q (.bl k)) E
theorem op_eqO (F : FnOk X.prog X.w X.K X.mg X.base CX n f fd ps sp) (hs : findIn X.K (.ref C) "__eq__" = some (some (.ref f))) (hf : isFn X.K (.ref f) = true) (hb : Binds X.K fd ps []) (hx : Passes CX X E) (hr : Room n X.A) :
    OpR X (compareOp .Eq) (rEqO X.K C sp E) := by
  intro pins s σ H x y u v Q I rx ry h
  obtain ⟨a, dx, fs, t, rfl, ha, ht, hn, h⟩ := h
  cases rx
  obtain ⟨mA, J, _⟩ := ins_get I.hok ha
  obtain ⟨od, J, _⟩ := J.look
  obtain ⟨m, hF⟩ := I.fr
  show wpAny (model X.prog X.w) X.A (richCompare .Eq (.ref a) v) (EP X pins σ Q) X.xe s
  refine cmp_K (op := .Eq) (tb := t) hr.units0 hF I.ok.mod.kin J (looks_ty I ry ht) hn hs hf ?_
  refine wpAny_mono (call_own F hb hx ⟨hr, rfl⟩ I (.cons (show RelV (.ref a) (.ref a) from rfl) (.cons ry .nil)) h) (fun r s' q => ?_) fun _ _ e => e
  obtain ⟨z, H', I', rz, k, ez, q⟩ := q
  subst ez
  cases rz
  exact ⟨.bl k, H', I', rfl, q⟩
/-! != by the own == (object's own `__ne__`) -/
theorem ne_bind (self : Value) : bindSpecial (.builtin "object.__ne__") self = pure (.builtin "object.__ne__", [self]) :=
  (PySem.Slot.of (T := "object") (name := "__ne__") (owner := "object") (n := "__ne__") (by rw [typeLookup_type, builtinLookup_eq_fast]; kernel_rfl) (by decide +kernel) (by decide +kernel) (by decide +kernel)
    (.inl (by decide +kernel)) (by rw [isSubtype_type]; kernel_rfl)).bind self
theorem ne_call {A : Around} {E' : Value → Shared → Prop} {s : Shared} {K : Frag} {x : Addr} {v : Value} {ox : Obj} {od : Option Obj} {Q : Value → Shared → Prop} (hu : A.units + 1 < cLine) (Xk : K.In s.heap) (I : InstAt s.heap x ox C od)
    (hob : mroIn K C (.type "object") = some true) (he : findIn K (.ref C) "__eq__" = some (some (.ref f))) (hf : isFn K (.ref f) = true)
    (h : wpAny (model X.prog X.w) A.in1 (call (.ref f) [.ref x, v]) (fun r s' => ∃ b, r = .bool b ∧ Q (.bool (!b)) s') E' s) : wpAny (model X.prog X.w) A (call (.builtin "object.__ne__") [.ref x, v]) Q E' s := by
  refine wpAny_call (codeAny_call_builtin (by decide +kernel) F.cmpEntry_ne ?_)
  refine check_slot F.cmpKind_ne F.cmpSplit_ne (I.type.andThen (looks_mroIn Xk hob)) (F.cmpArgs_ne _ _) ?_
  unfold Builtin.«object.__ne__»
  refine wpAny_bind (m := slotArgs "__ne__" 1 _) (wpAny_pure ?_)
  refine wpAny_bind (wpAny_cRoomFor (by simpa [Around.in1] using hu) ?_)
  refine wpAny_bind (m := callSpecialIfBound? (.ref x) (Str.ofString "__eq__") [v]) (ifBound_K Xk I he hf (wpAny_mono h (fun r s' hr => ?_) fun _ _ e => e))
  obtain ⟨b, rfl, hq⟩ := hr
  refine wpAny_bind (wpAny_truthy_bool (wpAny_pure ?_))
  exact hq
/-- what a search for a name finds: a slot of the object class -/
theorem ifBound_slot {A : Around} {E' : Value → Shared → Prop} {s : Shared} {K : Frag} {x : Addr} {ox : Obj} {od : Option Obj} {name : Str} {id : String} {args : List Value} {Q : Option Value → Shared → Prop} (Xk : K.In s.heap) (I : InstAt s.heap x ox C od)
    (hs : findIn K (.ref C) name = some (some (.builtin id))) (hb : ∀ self, bindSpecial (.builtin id) self = pure (.builtin id, [self]))
    (h : wpAny (model X.prog X.w) A (call (.builtin id) (.ref x :: args)) (fun v => Q (some v)) E' s) : wpAny (model X.prog X.w) A (callSpecialIfBound? (.ref x) name args) Q E' s := by
  simp only [callSpecialIfBound?, bindSpecialIfBound?]
  refine wpAny_holding (wpAny_bind (wpAny_bind (wpAny_bind (I.type.here ((looks_findIn Xk hs).here ?_)))))
  refine wpAny_bind (wpAny_askSetting (wpAny_ite ?_))
  have fin : wpAny (model X.prog X.w) A (call (.builtin id) ([.ref x] ++ args) >>= fun v => pure (some v)) Q E' s := wpAny_bind (wpAny_mono h (fun v s' h' => wpAny_pure h') fun _ _ h' => h')
  split
  · refine wpAny_bind ?_
    rw [hb]
    exact wpAny_pure (wpAny_pure fin)
  · refine wpAny_tryCatch (wpAny_bind ?_)
    rw [hb]
    exact wpAny_pure (wpAny_pure fin)
theorem ne_K {A : Around} {E' : Value → Shared → Prop} {s : Shared} {K : Frag} {x L : Addr} {b tb : Value} {ox : Obj} {od : Option Obj} {h₀ : Heap} {m : Str → Option Value} {Q : Value → Shared → Prop} (hu : A.units + 2 < cLine) (F : Fr h₀ L s.heap m) (X₀ : K.In h₀) (I : InstAt s.heap x ox C od)
    (hb : Looks (model X.prog X.w) s.heap (typeOf b) tb) (hn : notFirst K C tb = true) (hne : findIn K (.ref C) "__ne__" = some (some (.builtin "object.__ne__"))) (hob : mroIn K C (.type "object") = some true)
    (he : findIn K (.ref C) "__eq__" = some (some (.ref f))) (hf : isFn K (.ref f) = true)
    (h : wpAny (model X.prog X.w) A.in1 (call (.ref f) [.ref x, b]) (fun r s' => ∃ k, r = .bool k ∧ Q (.bool (!k)) s') E' s) : wpAny (model X.prog X.w) A (richCompare .NotEq (.ref x) b) Q E' s := by
  have Xk := X₀.keeps F.keep
  have one : wpAny (model X.prog X.w) A (tryCompare (.ref x) (cmpInfo .NotEq).2.1 b) (fun r s' => ∃ v, r = some v ∧ Q v s') E' s := by
    unfold tryCompare
    refine wpAny_bind (ifBound_slot Xk I hne ne_bind (ne_call (by omega) Xk I hob he hf (wpAny_mono h (fun v s' hv => ?_) fun _ _ e => e)))
    obtain ⟨k, rfl, q⟩ := hv
    exact ⟨k, rfl, wpAny_pure ⟨_, rfl, q⟩⟩
  unfold richCompare
  simp only [oneThing_ref]
  refine wpAny_holding (wpAny_bind (wpAny_cRoomFor (by omega) ?_))
  refine wpAny_bind (I.type.here (wpAny_bind (hb.here ?_)))
  split
  · rename_i q
    have e : subIn K tb (.ref C) = some false := by
      rcases Bool.or_eq_true_iff.mp hn with e | e
      · rw [beq_iff_eq.mp e] at q; simp at q
      · exact beq_iff_eq.mp e
    refine wpAny_bind ((looks_subIn Xk e).here ?_)
    simp only [Bool.false_eq_true, if_false]
    refine wpAny_bind (wpAny_mono one (fun r s' z => ?_) fun _ _ e => e)
    obtain ⟨v, rfl, hq⟩ := z
    exact wpAny_pure hq
  · refine wpAny_bind (wpAny_pure ?_)
    simp only [Bool.false_eq_true, if_false]
    refine wpAny_bind (wpAny_mono one (fun r s' z => ?_) fun _ _ e => e)
    obtain ⟨v, rfl, hq⟩ := z
    exact wpAny_pure hq
def rNeO (K : PySem.W.Frag) (C : Addr) (sp : Sp) (E : XK) : R2 := fun x y H Q => ∃ a dx fs t, x = .ref a ∧ H a = some (.ins C dx fs) ∧ TyX K H y t ∧ notFirst K C t = true ∧ sp [x, y] H (QB fun k => Q (.bl (!k))) E
theorem op_neO (F : FnOk X.prog X.w X.K X.mg X.base CX n f fd ps sp) (hne : findIn X.K (.ref C) "__ne__" = some (some (.builtin "object.__ne__"))) (hob : mroIn X.K C (.type "object") = some true) (hs : findIn X.K (.ref C) "__eq__" = some (some (.ref f))) (hf : isFn X.K (.ref f) = true)
    (hb : Binds X.K fd ps []) (hx : Passes CX X E) (hr : Room (n + 1) X.A) : OpR X (compareOp .NotEq) (rNeO X.K C sp E) := by
  intro pins s σ H x y u v Q I rx ry h
  obtain ⟨a, dx, fs, t, rfl, ha, ht, hn, h⟩ := h
  cases rx
  obtain ⟨mA, J, _⟩ := ins_get I.hok ha
  obtain ⟨od, J, _⟩ := J.look
  obtain ⟨m, hF⟩ := I.fr
  show wpAny (model X.prog X.w) X.A (richCompare .NotEq (.ref a) v) (EP X pins σ Q) X.xe s
  refine ne_K (X := X) (tb := t) (by have := hr.un; omega) hF I.ok.mod.kin J (looks_ty I ry ht) hn hne hob hs hf ?_
  refine wpAny_mono (call_own F hb hx (A := X.A.in1) (⟨hr, rfl⟩ : Sub X (n + 1) X.A).in1 I (.cons (show RelV (.ref a) (.ref a) from rfl) (.cons ry .nil)) h) (fun r s' q => ?_) fun _ _ e => e
  obtain ⟨z, H', I', rz, k, ez, q⟩ := q
  subst ez
  cases rz
  exact ⟨k, rfl, .bl (!k), H', I', rfl, q⟩
/-! len(x), repr(x), v in x -/
def rLenO (C : Addr) (sp : Sp) (E : XK) : List V → Hp → VK → Prop := fun xs H Q => ∃ a dx fs, xs = [.ref a] ∧ H a = some (.ins C dx fs) ∧ sp xs H (fun v H' => ∃ k : Int, v = .int k ∧ (0 ≤ k ∧ k < 2 ^ 63) ∧ Q (.int k) H') E
theorem call_lenO (F : FnOk X.prog X.w X.K X.mg X.base CX n f fd ps sp) (hs : findIn X.K (.ref C) "__len__" = some (some (.ref f))) (hf : isFn X.K (.ref f) = true) (hb : Binds X.K fd ps []) (hx : Passes CX X E) (hr : Room (n + 1) X.A) :
    CallR X (.builtin "len") (rLenO C sp E) := by
  intro pins s σ H xs us Q I r h
  obtain ⟨a, dx, fs, rfl, ha, h⟩ := h
  cases r with
  | cons r rr =>
    cases rr
    cases r
    obtain ⟨mA, J, _⟩ := ins_get I.hok ha
    obtain ⟨od, J, _⟩ := J.look
    obtain ⟨m, hF⟩ := I.fr
    refine len_K hF I.ok.mod.kin J hs hf ?_
    refine wpAny_mono (call_own F hb hx (A := X.A.in1) (⟨hr, rfl⟩ : Sub X (n + 1) X.A).in1 I (.cons (show RelV (.ref a) (.ref a) from rfl) .nil) h) (fun r s' q => ?_) fun _ _ e => e
    obtain ⟨z, H', I', rz, k, ez, hk, q⟩ := q
    subst ez
    obtain ⟨t, rfl⟩ := rz
    exact ⟨hk, .int k, H', I'.tok _, ⟨_, rfl⟩, q⟩
def rReprO (C : Addr) (sp : Sp) (E : XK) : List V → Hp → VK → Prop := fun xs H Q => ∃ a dx fs, xs = [.ref a] ∧ H a = some (.ins C dx fs) ∧ sp xs H (fun v H' => ∃ k : Str, v = .str k ∧ Q (.str k) H') E
theorem call_reprO (F : FnOk X.prog X.w X.K X.mg X.base CX n f fd ps sp) (hs : findIn X.K (.ref C) "__repr__" = some (some (.ref f))) (hf : isFn X.K (.ref f) = true) (hb : Binds X.K fd ps []) (hx : Passes CX X E) (hr : Room (n + 1) X.A) :
    CallR X (.builtin "repr") (rReprO C sp E) := by
  intro pins s σ H xs us Q I r h
  obtain ⟨a, dx, fs, rfl, ha, h⟩ := h
  cases r with
  | cons r rr =>
    cases rr
    cases r
    obtain ⟨mA, J, _⟩ := ins_get I.hok ha
    obtain ⟨od, J, _⟩ := J.look
    obtain ⟨m, hF⟩ := I.fr
    refine repr_K (by have := hr.un; simp only [Around.in1]; omega) hF I.ok.mod.kin J hs hf ?_
    refine wpAny_mono (call_own F hb hx (A := X.A.in1) (⟨hr, rfl⟩ : Sub X (n + 1) X.A).in1 I (.cons (show RelV (.ref a) (.ref a) from rfl) .nil) h) (fun r s' q => ?_) fun _ _ e => e
    obtain ⟨z, H', I', rz, k, ez, q⟩ := q
    subst ez
    obtain ⟨t, rfl⟩ := rz
    exact ⟨.str k, H', I', ⟨_, rfl⟩, q⟩
def rInO (C : Addr) (neg : Bool) (sp : Sp) (E : XK) : R2 := fun x y H Q => ∃ a dx fs, y = .ref a ∧ H a = some (.ins C dx fs) ∧ sp [y, x] H (QB fun k => Q (.bl (neg ^^ k))) E
theorem op_inO (F : FnOk X.prog X.w X.K X.mg X.base CX n f fd ps sp) (hs : findIn X.K (.ref C) "__contains__" = some (some (.ref f))) (hf : isFn X.K (.ref f) = true) (hb : Binds X.K fd ps []) (hx : Passes CX X E) (hr : Room n X.A) :
    OpR X (compareOp .In) (rInO C false sp E) := by
  intro pins s σ H x y u v Q I rx ry h
  obtain ⟨a, dx, fs, rfl, ha, h⟩ := h
  cases ry
  obtain ⟨mA, J, _⟩ := ins_get I.hok ha
  obtain ⟨od, J, _⟩ := J.look
  obtain ⟨m, hF⟩ := I.fr
  refine in_K hF I.ok.mod.kin J hs hf ?_
  refine wpAny_mono (call_own F hb hx ⟨hr, rfl⟩ I (.cons (show RelV (.ref a) (.ref a) from rfl) (.cons rx .nil)) h) (fun r s' q => ?_) fun _ _ e => e
  obtain ⟨z, H', I', rz, k, ez, q⟩ := q
  subst ez
  cases rz
  exact wpAny_truthy_bool ⟨.bl k, H', I', rfl, by simpa using q⟩
theorem op_notInO (F : FnOk X.prog X.w X.K X.mg X.base CX n f fd ps sp) (hs : findIn X.K (.ref C) "__contains__" = some (some (.ref f))) (hf : isFn X.K (.ref f) = true) (hb : Binds X.K fd ps []) (hx : Passes CX X E) (hr : Room n X.A) :
    OpR X (compareOp .NotIn) (rInO C true sp E) := by
  intro pins s σ H x y u v Q I rx ry h
  obtain ⟨a, dx, fs, rfl, ha, h⟩ := h
  cases ry
  obtain ⟨mA, J, _⟩ := ins_get I.hok ha
  obtain ⟨od, J, _⟩ := J.look
  obtain ⟨m, hF⟩ := I.fr
  refine notIn_K hF I.ok.mod.kin J hs hf ?_
  refine wpAny_mono (call_own F hb hx ⟨hr, rfl⟩ I (.cons (show RelV (.ref a) (.ref a) from rfl) (.cons rx .nil)) h) (fun r s' q => ?_) fun _ _ e => e
  obtain ⟨z, H', I', rz, k, ez, q⟩ := q
  subst ez
  cases rz
  exact wpAny_truthy_bool ⟨.bl (!k), H', I', rfl, by simpa using q⟩
end
end L2
namespace DL
open PySem PySem.Spec PyProof.Rows L2
/-! ### own `__eq__`, `__len__`, `__repr__`, `__contains__`, isinstance of an own class, by data -/
/-- what the head says of an own class C -/
structure OwnK (K : PySem.W.Frag) (C : Addr) : Prop where
  t : ClsT K C
  p : ClsP K C
  ne : PySem.W.findIn K (.ref C) "__ne__" = some (some (.builtin "object.__ne__"))
  self : PySem.W.kitOne K (.ref C) (.ref C) = some true
/-- what stands on the other side of == -/
def okR (C : Addr) (M : Mp) (y : D) : Prop := (∃ n, tyN M y = some n) ∨ ∃ fs, insOf M y = some (C, fs)
theorem tyN_in {M : Mp} {d : D} {n : String} (h : tyN M d = some n) : n ∈ plainTy := by
  cases d <;> simp only [tyN] at h <;> first | (cases h; decide) | (split at h <;> first | (cases h; decide) | (cases h; done)) | (cases h; done)
section
variable {K : PySem.W.Frag} {G : GI K} {C : Addr}
theorem insTy {F H : Hp} {M : Mp} {d : D} {v : V} {fs : List (Str × D)} (T : ClsT K C) (c : Core K F H M) (r : Rep K F d v) (h : insOf M d = some (C, fs)) : TyX K H v (.ref C) := by
  obtain ⟨a, dx, vs, e1, e2, _⟩ := insOf_ok c r h
  subst e1
  exact .base (.ins e2 T.cl T.ha T.hn T.htk T.hm)
theorem okR_ok {F H : Hp} {M : Mp} {d : D} {v : V} (O : OwnK K C) (c : Core K F H M) (r : Rep K F d v) (h : okR C M d) : ∃ t, TyX K H v t ∧ PySem.W.notFirst K C t = true := by
  rcases h with ⟨n, h⟩ | ⟨fs, h⟩
  · exact ⟨_, tyN_ok c r h, O.p.nf n (tyN_in h)⟩
  · exact ⟨_, insTy O.t c r h, by simp [PySem.W.notFirst]⟩
/-- what a special method gives -/
def qB (Q : Bool → Mp → Prop) : DQ := fun v M => match v with | .bl k => Q k M | _ => False
def qI (Q : Int → Mp → Prop) : DQ := fun v M => match v with | .int k => (0 ≤ k ∧ k < 2 ^ 63) ∧ Q k M | _ => False
def qS (Q : Str → Mp → Prop) : DQ := fun v M => match v with | .str k => Q k M | _ => False
theorem qB_ok {F H : Hp} {M : Mp} {Q0 : Bool → Mp → Prop} {Q : Bool → Hp → Prop} (h : ∀ k M' F' H', Q0 k M' → Same F F' → Fr F H M F' H' M' → CoreP K F' H' M' → Q k H') : PostP K F H M (qB Q0) (QB Q) := fun d M' F' H' v q s f c r => by
  cases d <;> first | exact q.elim | skip
  rw [Rep] at r
  exact ⟨_, r, h _ _ _ _ q s f c⟩
def rEqD (neg : Bool) (C : Addr) (sp : DSp) (E0 : DX) : D2 := fun x y M Q => match insOf M x with
  | some (C', fs) => C' = C ∧ okR C M y ∧ sp [x, y] M (qB fun k => Q (.bl (neg ^^ k))) E0
  | none => False
theorem l_eqD {sp : DSp} {E : XK} (O : OwnK K C) : LR2 K (rEqO K C (lSp K sp) E) (rEqD false C sp noX) := by
  intro F H M d e v w Q0 Q c r1 r2 h p
  unfold rEqD at h
  split at h
  · rename_i C' fs g
    obtain ⟨h0, h1, h2⟩ := h
    subst h0
    obtain ⟨a, dx, vs, e1, e2, e3⟩ := insOf_ok c r1 g
    obtain ⟨t, h3, h4⟩ := okR_ok O c r2 h1
    refine ⟨a, dx, vs, t, e1, e2, h3, h4, F, M, [d, e], _, noX, c.toCoreP, Reps.cons r1 (Reps.one r2), h2, qB_ok fun k M' F' H' q s f c' => ?_, postX0⟩
    rw [Bool.false_xor] at q
    exact p _ _ _ _ _ q s f (c.to c' s f) (by rw [Rep])
  · exact h.elim
theorem l_neD {sp : DSp} {E : XK} (O : OwnK K C) : LR2 K (rNeO K C (lSp K sp) E) (rEqD true C sp noX) := by
  intro F H M d e v w Q0 Q c r1 r2 h p
  unfold rEqD at h
  split at h
  · rename_i C' fs g
    obtain ⟨h0, h1, h2⟩ := h
    subst h0
    obtain ⟨a, dx, vs, e1, e2, e3⟩ := insOf_ok c r1 g
    obtain ⟨t, h3, h4⟩ := okR_ok O c r2 h1
    refine ⟨a, dx, vs, t, e1, e2, h3, h4, F, M, [d, e], _, noX, c.toCoreP, Reps.cons r1 (Reps.one r2), h2, qB_ok fun k M' F' H' q s f c' => ?_, postX0⟩
    rw [Bool.true_xor] at q
    exact p _ _ _ _ _ q s f (c.to c' s f) (by rw [Rep])
  · exact h.elim
/-- v in x, x with an own `__contains__` that may raise -/
def rInD2 (neg : Bool) (C : Addr) (sp : DSp) (E0 : DX) : D2 := fun x y M Q => match insOf M y with
  | some (C', fs) => C' = C ∧ sp [y, x] M (qB fun k => Q (.bl (neg ^^ k))) E0
  | none => False
theorem l_inD {sp : DSp} {E : XK} {E0 : DX} {neg : Bool} (ws : Wish K E0 E) : LR2 K (rInO C neg (lSp K sp) E) (rInD2 neg C sp E0) := by
  intro F H M d e v w Q0 Q c r1 r2 h p
  unfold rInD2 at h
  split at h
  · rename_i C' fs g
    obtain ⟨h0, h2⟩ := h
    subst h0
    obtain ⟨a, dx, vs, e1, e2, e3⟩ := insOf_ok c r2 g
    exact ⟨a, dx, vs, e1, e2, F, M, [e, d], _, E0, c.toCoreP, Reps.cons r2 (Reps.one r1), h2, qB_ok fun k M' F' H' q s f c' => p _ _ _ _ _ q s f (c.to c' s f) (by rw [Rep]), ws.post c⟩
  · exact h.elim
def rLenD (C : Addr) (sp : DSp) : DC := fun ds M Q => match ds with
  | [x] => match insOf M x with
    | some (C', fs) => C' = C ∧ sp [x] M (qI fun k => Q (.int k)) noX
    | none => False
  | _ => False
theorem l_lenD {sp : DSp} {E : XK} : LC K (rLenO C (lSp K sp) E) (rLenD C sp) := by
  intro F H M ds vs Q0 Q c r h p
  unfold rLenD at h
  split at h
  · split at h
    · rename_i x _ C' fs g
      obtain ⟨h0, h2⟩ := h
      subst h0
      obtain ⟨v, e0, r1⟩ := reps1 r
      obtain ⟨a, dx, us, e1, e2, e3⟩ := insOf_ok c r1 g
      subst e0 e1
      refine ⟨a, dx, us, rfl, e2, F, M, [x], _, noX, c.toCoreP, Reps.one r1, h2, fun d M' F' H' v q s f c' r' => ?_, postX0⟩
      cases d <;> first | exact q.elim | skip
      rw [Rep] at r'
      exact ⟨_, r', q.1, p _ _ _ _ _ q.2 s f (c.to c' s f) (by rw [Rep])⟩
    · exact h.elim
  · exact h.elim
def rReprD (C : Addr) (sp : DSp) : DC := fun ds M Q => match ds with
  | [x] => match insOf M x with
    | some (C', fs) => C' = C ∧ sp [x] M (qS fun k => Q (.str k)) noX
    | none => False
  | _ => False
theorem l_reprD {sp : DSp} {E : XK} : LC K (rReprO C (lSp K sp) E) (rReprD C sp) := by
  intro F H M ds vs Q0 Q c r h p
  unfold rReprD at h
  split at h
  · split at h
    · rename_i x _ C' fs g
      obtain ⟨h0, h2⟩ := h
      subst h0
      obtain ⟨v, e0, r1⟩ := reps1 r
      obtain ⟨a, dx, us, e1, e2, e3⟩ := insOf_ok c r1 g
      subst e0 e1
      refine ⟨a, dx, us, rfl, e2, F, M, [x], _, noX, c.toCoreP, Reps.one r1, h2, fun d M' F' H' v q s f c' r' => ?_, postX0⟩
      cases d <;> first | exact q.elim | skip
      rw [Rep] at r'
      exact ⟨_, r', p _ _ _ _ _ q s f (c.to c' s f) (by rw [Rep])⟩
    · exact h.elim
  · exact h.elim
/-- isinstance(x, C), C an own class -/
def rIsiD (C : Addr) : D → Mp → DQ → Prop := fun x M Q => match insOf M x with
  | some (C', _) => C' = C ∧ Q (.bl true) M
  | none => match tyN M x with
    | some _ => Q (.bl false) M
    | none => False
end
section
variable {X : Cx} {GX : GI X.K} {a b : Expr} {ta tb : DTE} {tr : DTA} {pos p p2 : Pos} {n : Nat} {C f : Addr} {fd : FuncData} {sp : DSp} {x : Str} {ps : List Str}
theorem o_eqO (G : CalM X.prog X.w X.K X.mg X.base n C "__eq__" ps sp f fd) (hr : Room n X.A) : OpR X (compareOp .Eq) (rEqO X.K C (lSp X.K sp) fun _ _ _ => False) := op_eqO G.fn G.me.at_ G.me.fn G.b pass0 hr
theorem o_neO (O : OwnK X.K C) (G : CalM X.prog X.w X.K X.mg X.base n C "__eq__" ps sp f fd) (hr : Room (n + 1) X.A) : OpR X (compareOp .NotEq) (rNeO X.K C (lSp X.K sp) fun _ _ _ => False) := op_neO G.fn O.ne O.t.hm G.me.at_ G.me.fn G.b pass0 hr
theorem de_lenO (hm : X.mg "len" = none) (G : CalM X.prog X.w X.K X.mg X.base n C "__len__" ps sp f fd) (hr : Room (n + 1) X.A) (ha : DA X [a] tr) (hg : Gl X "len" := by rfl) (na : starEach [a] X.env = (false, eval a X.env) :: starEach [] X.env := by rfl) : DE X (.Call (.Name "len" p) [a] [] pos) (dCB (rLenD C sp) tr) :=
  de_callB (call_lenO (E := fun _ _ _ => False) G.fn G.me.at_ G.me.fn G.b pass0 hr) l_lenD hm (by decide +kernel) ha hg (by decide) (by decide) na rfl
theorem de_reprO (hm : X.mg "repr" = none) (G : CalM X.prog X.w X.K X.mg X.base n C "__repr__" ps sp f fd) (hr : Room (n + 1) X.A) (ha : DA X [a] tr) (hg : Gl X "repr" := by rfl) (na : starEach [a] X.env = (false, eval a X.env) :: starEach [] X.env := by rfl) : DE X (.Call (.Name "repr" p) [a] [] pos) (dCB (rReprD C sp) tr) :=
  de_callB (call_reprO (E := fun _ _ _ => False) G.fn G.me.at_ G.me.fn G.b pass0 hr) l_reprD hm (by decide +kernel) ha hg (by decide) (by decide) na rfl
theorem de_isiO (O : OwnK X.K C) (hC : X.mg x = some (.ref C)) (hm : X.mg "isinstance" = none) (ha : DE X a ta) (hg : Gl X "isinstance" := by rfl) (hgT : Gl X x := by rfl) (hd : (x == ("__debug__" : Str)) = false := by decide)
    (na : starEach [a, .Name x p2] X.env = (false, eval a X.env) :: starEach [.Name x p2] X.env := by rfl) (nb : starEach [.Name x p2] X.env = (false, eval (.Name x p2) X.env) :: starEach [] X.env := by rfl) (hpl : (backTo pos (starEach [.Name x p2] X.env)).any (·.1) = false := by rfl) :
    DE X (.Call (.Name "isinstance" p) [a, .Name x p2] [] pos) (dUn (rIsiD C) ta) :=
  PE.imp (pe_callB call_isi hg hm (by decide +kernel) (pa_cons ha (pa_cons (pe_glob (v := .ref C) hgT hC rfl hd) pa_nil nb) na) (by decide) (by decide) na hpl) fun σ H Q ⟨F, env, M, Q0, he, hc, ht, hp⟩ =>
    ⟨F, env, M, _, he, hc, ht, fun d M1 F1 H1 v q s1 f1 c1 r1 => by
      unfold rIsiD at q
      split at q
      · rename_i C' fs g
        obtain ⟨h0, q⟩ := q
        subst h0
        exact ⟨v, .ref C', _, _, _, rfl, .own C', insTy O.t c1 r1 g, O.self, (hp.after s1 f1).bl c1 q⟩
      · split at q
        · rename_i n g
          exact ⟨v, .ref C, _, _, _, rfl, .own C, tyN_ok c1 r1 g, O.p.kit n (tyN_in g), (hp.after s1 f1).bl c1 q⟩
        · exact q.elim⟩
end
end DL
/-! ### plain == x, x with an own `__eq__`: the other side is asked -/
namespace L2
open PySem PySem.Spec PyProof.Rows PySem.W
theorem rfl_int (b : Int) (u : Tok) (l C dx : Addr) : Meets (Builtin.«int.__eq__» ⟨[.int b u, .ref l], []⟩) (fun _ R s => s.heap.get? l = some (instObj C dx) ∧ R (.ok (.ret .notImplemented)) s) :=
  .of_wp fun prog w A R s h => by obtain ⟨hp, g, d, tk, os⟩ := s; obtain ⟨hl, h⟩ := h; unfold instObj at hl; wp_walk using wpAny_loadPart' hl, wpAny_load hl; exact ⟨_, rfl, h⟩
theorem rfl_str (b : Str) (u : Tok) (l C dx : Addr) : Meets (Builtin.«str.__eq__» ⟨[.str b u, .ref l], []⟩) (fun _ R s => s.heap.get? l = some (instObj C dx) ∧ R (.ok (.ret .notImplemented)) s) :=
  .of_wp fun prog w A R s h => by obtain ⟨hp, g, d, tk, os⟩ := s; obtain ⟨hl, h⟩ := h; unfold instObj at hl; wp_walk using wpAny_loadPart' hl, wpAny_load hl; exact ⟨_, rfl, h⟩
theorem rfl_list {K : Frag} (a l C dx : Addr) (hm : mroIn K C (.type "list") = some false) : Meets (Builtin.«list.__eq__» ⟨[.ref a, .ref l], []⟩) (fun _ R s => K.In s.heap ∧ s.heap.get? l = some (instObj C dx) ∧ R (.ok (.ret .notImplemented)) s) :=
  .of_wp fun prog w A R s h => by
    obtain ⟨X, hl, h⟩ := h
    have li : Looks (model prog w) s.heap (isInstance (.ref l) (.type "list")) false := by
      have t : Looks (model prog w) s.heap (typeOf (.ref l)) (.ref C) := (Looks.ld hl).andThen .now
      exact t.andThen (looks_mroIn X hm)
    unfold Builtin.«list.__eq__»
    refine wpAny_bind (wpAny_pure ?_)
    refine wpAny_bind (li.here ?_)
    exact wpAny_pure ⟨_, rfl, h⟩
section
variable {prog : Program} {w : World} {A : Around} {R : Result → Shared → Prop}
theorem in_loopG (l : Addr) (x : Value) (N : Nat) (I : Nat → Shared → Prop)
    (turn : ∀ i s, I i s → ∃ (items : Array Value) (n : Nat) (dd : Option Addr) (sl : Array (Option Value)), s.heap.get? l = some { cls := .type "list", dict := dd, data := .seq items n, slots := sl } ∧ items.size = N ∧
      ∀ h : i < items.size, wpAny (model prog w) A.in1 (eqBool items[i] x) (fun r s' => if r = true then R (.ok (.ret (.bool true))) s' else I (i + 1) s') (fun e s' => R (.error e) s') s)
    (fin : ∀ s, I N s → R (.ok (.ret (.bool false))) s) (k : Nat) :
    ∀ i : Nat, N - i = k → i ≤ N → ∀ s, I i s →
      wpAny (model prog w) A.in1 (Builtin.«list.__contains__.loop» ⟨[.ref l, x, rawInt i], []⟩) (GQ.FinOf prog w A R) (fun e s' => R (.error e) s') s := by
  induction k with
  | zero =>
    intro i hk hi s h
    obtain ⟨items, n, dd, sl, hl, hs, _⟩ := turn _ _ h
    have hi' : i = N := by omega
    have hR : R (.ok (.ret (.bool false))) s := fin s (hi' ▸ h)
    obtain ⟨hp, g, d, tk, os⟩ := s
    wp_walk using wpAny_loadPart' hl
    have hi1 : items[((i : Nat) : Int).toNat]? = none := by simp; omega
    rw [hi1]
    wp_walk
    exact hR
  | succ k ih =>
    intro i hk hi s h
    obtain ⟨items, n, dd, sl, hl, hs, ht⟩ := turn _ _ h
    have hlt : i < items.size := by omega
    have ht := ht hlt
    obtain ⟨hp, g, d, tk, os⟩ := s
    wp_walk using wpAny_loadPart' hl
    have hi1 : items[((i : Nat) : Int).toNat]? = some items[i] := by simp [hlt]
    have hc : ((i : Int) + 1) = ((i + 1 : Nat) : Int) := by omega
    rw [hi1]
    refine wpAny_bind (wpAny_mono ht (fun r s2 h2 => ?_) fun _ _ x => x)
    cases r with
    | true =>
      rw [if_pos rfl] at h2
      obtain ⟨hp2, g2, d2, tk2, os2⟩ := s2
      wp_walk
      exact h2
    | false =>
      rw [if_neg (by simp)] at h2
      have hrec := ih (i + 1) (by omega) (by omega) s2 h2
      obtain ⟨hp2, g2, d2, tk2, os2⟩ := s2
      wp_walk
      rw [hc]
      exact ⟨plainId_quiet MeetsSeq.plain_contains_loop _, codeAny_builtin MeetsSeq.entry_contains_loop (by
        rw [Around.under_plainId MeetsSeq.plain_contains_loop _]
        exact hrec)⟩
theorem list_inG (l : Addr) (x : Value) (N : Nat) (I : Nat → Shared → Prop)
    (turn : ∀ i s, I i s → ∃ (items : Array Value) (n : Nat) (dd : Option Addr) (sl : Array (Option Value)), s.heap.get? l = some { cls := .type "list", dict := dd, data := .seq items n, slots := sl } ∧ items.size = N ∧
      ∀ h : i < items.size, wpAny (model prog w) A.in1 (eqBool items[i] x) (fun r s' => if r = true then R (.ok (.ret (.bool true))) s' else I (i + 1) s') (fun e s' => R (.error e) s') s)
    (fin : ∀ s, I N s → R (.ok (.ret (.bool false))) s) {s : Shared} (h : I 0 s) :
    wpAny (model prog w) A.in1 (Builtin.«list.__contains__» ⟨[.ref l, x], []⟩) (GQ.FinOf prog w A R) (fun e s' => R (.error e) s') s := by
  have hrec := in_loopG l x N I turn fin N 0 (by omega) (Nat.zero_le _) s h
  obtain ⟨items, n, dd, sl, hl, hs, _⟩ := turn _ _ h
  obtain ⟨hp, g, d, tk, os⟩ := s
  wp_walk using wpAny_loadPart' hl
  exact ⟨plainId_quiet MeetsSeq.plain_contains_loop _, codeAny_builtin MeetsSeq.entry_contains_loop (by
    rw [Around.under_plainId MeetsSeq.plain_contains_loop _]
    exact hrec)⟩
theorem op_inG {E' : Value → Shared → Prop} {l : Addr} {x : Value} {N : Nat} {Q : Value → Shared → Prop} {s : Shared} (I : Nat → Shared → Prop)
    (turn : ∀ i s, I i s → ∃ (items : Array Value) (n : Nat) (dd : Option Addr) (sl : Array (Option Value)), s.heap.get? l = some { cls := .type "list", dict := dd, data := .seq items n, slots := sl } ∧ items.size = N ∧
      ∀ h : i < items.size, wpAny (model prog w) A.in1 (eqBool items[i] x) (fun r s' => if r = true then Q (.bool true) s' else I (i + 1) s') E' s)
    (fin : ∀ s, I N s → Q (.bool false) s) (h : I 0 s) : wpAny (model prog w) A (compareOp .In x (.ref l)) Q E' s := by
  obtain ⟨items, n, dd, sl, hl, hs, _⟩ := turn _ _ h
  show wpAny _ A (do return .bool (← contains (.ref l) x)) Q E' s
  refine wpAny_bind (wpAny_contains_slot (c := .ref l) ⟨_, hl, rfl⟩ F.slot_list_contains (wpAny_mono (GQ.call_here (Q := fun v s' => ∃ b, v = .bool b ∧ Q (.bool b) s') F.slot_list_contains ⟨_, hl, rfl⟩ F.entry_list_contains (F.args_list_contains_2 _ _)
    (list_inG l x N I (fun i s hi => ?_) (fun s hi => ⟨false, rfl, fin s hi⟩) h)) (fun v s' hv => ?_) fun _ _ e => e))
  · obtain ⟨items, n, dd, sl, hl, hs, ht⟩ := turn _ _ hi
    refine ⟨items, n, dd, sl, hl, hs, fun h => wpAny_mono (ht h) (fun r s' q => ?_) fun _ _ e => e⟩
    cases r with
    | true =>
      rw [if_pos rfl] at q ⊢
      exact ⟨true, rfl, q⟩
    | false =>
      rw [if_neg (by simp)] at q ⊢
      exact q
  · obtain ⟨b, rfl, hq⟩ := hv
    exact wpAny_truthy_bool (wpAny_pure hq)
theorem rc_refl {E' : Value → Shared → Prop} {K : Frag} {s : Shared} {x C f : Addr} {ox : Obj} {od : Option Obj} {u : Value} {T : String} {Q : Value → Shared → Prop} (hu : A.units < cLine) (Xk : K.In s.heap) (I : InstAt s.heap x ox C od)
    (h1 : oneThing? .Eq u (.ref x) = none) (ht : Looks (model prog w) s.heap (typeOf u) (.type T)) (hm : mroIn K C (.type T) = some false)
    (hd : ∀ Q' : Option Value → Shared → Prop, Q' none s → wpAny (model prog w) A (tryCompare u "__eq__" (.ref x)) Q' E' s) (hs : findIn K (.ref C) "__eq__" = some (some (.ref f))) (hf : isFn K (.ref f) = true)
    (h : wpAny (model prog w) A (call (.ref f) [.ref x, u]) (W.CmpBack Q) E' s) : wpAny (model prog w) A (richCompare .Eq u (.ref x)) Q E' s := by
  unfold richCompare
  simp only [h1]
  refine wpAny_holding (wpAny_bind (wpAny_cRoomFor hu ?_))
  refine wpAny_bind (ht.here (wpAny_bind (I.type.here ?_)))
  rw [if_pos (by simp)]
  refine wpAny_bind ((looks_mroIn Xk hm).here ?_)
  simp only [Bool.false_eq_true, if_false]
  refine wpAny_bind (hd _ ?_)
  simp only [Bool.not_false, if_true]
  unfold tryCompare
  refine wpAny_bind (wpAny_bind (ifBound_K Xk I hs hf (wpAny_mono h (fun v s' hv => ?_) fun _ _ e => e)))
  cases v <;> first | exact hv.elim | exact wpAny_pure (wpAny_pure hv)
theorem eqB_refl {E' : Value → Shared → Prop} {s : Shared} {x : Addr} {u : Value} {Q : Bool → Shared → Prop} (hne : (u == .ref x) = false) (h : wpAny (model prog w) A (richCompare .Eq u (.ref x)) (fun v s' => ∃ r, v = .bool r ∧ Q r s') E' s) : wpAny (model prog w) A (eqBool u (.ref x)) Q E' s := by
  unfold eqBool
  refine wpAny_holding ?_
  rw [if_neg (by rw [hne]; simp)]
  have fin : wpAny (model prog w) A (richCompare .Eq u (.ref x) >>= truthOfDropped) Q E' s := by
    refine wpAny_bind (wpAny_mono h (fun v s' hv => ?_) fun _ _ x => x)
    obtain ⟨r, rfl, q⟩ := hv
    exact wpAny_truthy_bool q
  cases u <;> exact fin
end
end L2
namespace L2
open PySem PySem.Spec PyProof.Rows PySem.W
section
variable {X : Cx} {n : Nat} {C f : Addr} {fd : FuncData} {ps : List Str} {sp : Sp} {E : XK} {CX : CXT}
/-- what is compared with x, as it stands in the list -/
inductive PlV (K : PySem.W.Frag) (H : Hp) : V → Prop
  | non : PlV K H .non
  | int (i : Int) : PlV K H (.int i)
  | str (z : Str) : PlV K H (.str z)
  | lst {b : Addr} {zs : List V} (h : SqL K H b zs) : PlV K H (.ref b)
def inCh (K : PySem.W.Frag) (C : Addr) (sp : Sp) (E : XK) (x : V) (l : Addr) (ys : List V) : List V → Hp → VK → Prop
  | [], H, Q => Q (.bl false) H
  | y :: r, H, Q => PlV K H y ∧ sp [x, y] H (QB fun k H' => if k = true then Q (.bl true) H' else (∃ a dx fs, x = .ref a ∧ H' a = some (.ins C dx fs)) ∧ SqL K H' l ys ∧ inCh K C sp E x l ys r H' Q) E
def rInLO (K : PySem.W.Frag) (C : Addr) (sp : Sp) (E : XK) : R2 := fun x y H Q => ∃ a dx fs l ys, x = .ref a ∧ H a = some (.ins C dx fs) ∧ y = .ref l ∧ SqL K H l ys ∧ inCh K C sp E x l ys ys H Q
theorem eq_pl {A : Around} {pins : List (Addr × Obj)} {σ : St} {H : Hp} {s : Shared} {a dx : Addr} {fs : List (Str × V)} {y : V} {u : Value} {Q : Bool → Shared → Prop} (I : Inv X pins σ H s) (ha : H a = some (.ins C dx fs)) (hy : PlV X.K H y) (ry : RelV y u) (hu : A.units < cLine)
    (hm : ∀ T ∈ ["NoneType", "int", "str", "list"], mroIn X.K C (.type T) = some false) (hs : findIn X.K (.ref C) "__eq__" = some (some (.ref f))) (hf : isFn X.K (.ref f) = true)
    (h : wpAny (model X.prog X.w) A (call (.ref f) [.ref a, u]) (fun v s' => ∃ r, v = .bool r ∧ Q r s') X.xe s) : wpAny (model X.prog X.w) A (eqBool u (.ref a)) Q X.xe s := by
  obtain ⟨mA, J0, _⟩ := ins_get I.hok ha
  obtain ⟨od, J, _⟩ := J0.look
  have h' : wpAny (model X.prog X.w) A (call (.ref f) [.ref a, u]) (W.CmpBack fun v s' => ∃ r, v = .bool r ∧ Q r s') X.xe s := wpAny_mono h (fun v s' q => by obtain ⟨r, rfl, q⟩ := q; exact ⟨r, rfl, q⟩) fun _ _ e => e
  cases hy with
  | non =>
    cases (show u = Value.none from ry)
    refine eqB_refl rfl (rc_refl (T := "NoneType") hu I.kIn J rfl (looks_ty I ry (.base .non)) (hm _ (by decide)) (fun Q' q => ?_) hs hf h')
    exact wpAny_tryCompare_declines (T := "NoneType") rfl F.slot_NoneType_eq (call_gives F.slot_NoneType_eq rfl F.entry_NoneType_eq (F.args_NoneType_eq_2 _ _) (SeqAt.NoneType___eq___none_ref_0 a) ⟨rfl, q⟩)
  | int i =>
    obtain ⟨t, rfl⟩ := ry
    refine eqB_refl rfl (rc_refl (T := "int") hu I.kIn J rfl (looks_ty I (show RelV (.int i) (.int i t) from ⟨t, rfl⟩) (.base (.int i))) (hm _ (by decide)) (fun Q' q => ?_) hs hf h')
    exact wpAny_tryCompare_declines (typeIs_int s i t) F.slot_int_eq (call_meets F.slot_int_eq (typeIs_int s i t) F.entry_int_eq (F.args_int_eq_2 _ _) (rfl_int i t a C dx) ⟨J0.obj, rfl, q⟩)
  | str z =>
    obtain ⟨t, rfl⟩ := ry
    refine eqB_refl rfl (rc_refl (T := "str") hu I.kIn J rfl (looks_ty I (show RelV (.str z) (.str z t) from ⟨t, rfl⟩) (.base (.str z))) (hm _ (by decide)) (fun Q' q => ?_) hs hf h')
    exact wpAny_tryCompare_declines (typeIs_str s z t) F.slot_str_eq (call_meets F.slot_str_eq (typeIs_str s z t) F.entry_str_eq (F.args_str_eq_2 _ _) (rfl_str z t a C dx) ⟨J0.obj, rfl, q⟩)
  | @lst b zs hq =>
    cases (show u = Value.ref b from ry)
    obtain ⟨its, rv, p, hz⟩ := I.list hq
    obtain ⟨ob, hob, hcb, m, hdb⟩ := p.isList
    have hne : b ≠ a := fun e => by
      subst e
      rw [J0.obj] at hob
      cases hob
      cases hcb
    refine eqB_refl (beq_eq_false_iff_ne.mpr fun e => hne (by injection e)) (rc_refl (T := "list") hu I.kIn J rfl ((Looks.ld hob).andThen (hcb ▸ .now)) (hm _ (by decide)) (fun Q' q => ?_) hs hf h')
    exact wpAny_tryCompare_declines ⟨ob, hob, hcb⟩ F.slot_list_eq (call_meets F.slot_list_eq ⟨ob, hob, hcb⟩ F.entry_list_eq (F.args_list_eq_2 _ _) (rfl_list (K := X.K) b a C dx (hm _ (by decide))) ⟨I.kIn, J0.obj, rfl, q⟩)
theorem op_inLO (F : FnOk X.prog X.w X.K X.mg X.base CX n f fd ps sp) (hm : ∀ T ∈ ["NoneType", "int", "str", "list"], mroIn X.K C (.type T) = some false) (hs : findIn X.K (.ref C) "__eq__" = some (some (.ref f))) (hf : isFn X.K (.ref f) = true) (hb : Binds X.K fd ps []) (hx : Passes CX X E) (hr : Room (n + 1) X.A) :
    OpR X (compareOp .In) (rInLO X.K C sp E) := by
  intro pins s σ H x y u v Q I rx ry h
  obtain ⟨a, dx, fs, l, ys, rfl, ha, rfl, hq, h⟩ := h
  cases rx
  cases ry
  refine op_inG (N := ys.length) (fun i s' => ∃ H', Inv X pins σ H' s' ∧ (∃ dx fs, H' a = some (.ins C dx fs)) ∧ SqL X.K H' l ys ∧ inCh X.K C sp E (.ref a) l ys (ys.drop i) H' Q) (fun i s' => ?_) (fun s' => ?_) ⟨H, I, ⟨dx, fs, ha⟩, hq, h⟩
  · rintro ⟨H', I', ⟨dx', fs', ha'⟩, hq', h'⟩
    obtain ⟨its, rv, p, hz⟩ := I'.list hq'
    obtain ⟨⟨cls, dd, data, sl⟩, ho, hc, m, hd⟩ := p.isList
    simp only at hc hd
    subst hc hd
    refine ⟨its.toArray, m, dd, sl, ho, by rw [List.size_toArray, ← rv.length], fun hlt => ?_⟩
    have hlt' : i < ys.length := by rw [rv.length]; simpa using hlt
    rw [List.drop_eq_getElem_cons hlt'] at h'
    obtain ⟨hp, hsp⟩ := h'
    obtain ⟨w, hw, rw'⟩ := rv.get (List.getElem?_eq_getElem hlt')
    have he : its.toArray[i] = w := by
      have h3 : i < its.length := by simpa using hlt
      rw [List.getElem?_eq_getElem h3] at hw
      simpa using hw
    rw [he]
    refine eq_pl I' ha' hp rw' (by have := hr.in1.un; exact hr.in1.units0) hm hs hf ?_
    refine wpAny_mono (call_own F hb hx (A := X.A.in1) (⟨hr, rfl⟩ : Sub X (n + 1) X.A).in1 I' (.cons (show RelV (.ref a) (.ref a) from rfl) (.cons rw' .nil)) hsp) (fun r s2 q => ?_) fun _ _ e => e
    obtain ⟨z, H2, I2, rz, k, ez, q⟩ := q
    subst ez
    cases rz
    refine ⟨k, rfl, ?_⟩
    cases k with
    | true =>
      rw [if_pos rfl] at q ⊢
      exact ⟨.bl true, H2, I2, rfl, q⟩
    | false =>
      rw [if_neg (by simp)] at q ⊢
      obtain ⟨⟨a', dx2, fs2, e2, h2⟩, q1, q2⟩ := q
      cases e2
      exact ⟨H2, I2, ⟨dx2, fs2, h2⟩, q1, q2⟩
  · rintro ⟨H', I', ⟨dx', fs', ha'⟩, hq', h'⟩
    rw [List.drop_length] at h'
    exact ⟨.bl false, H', I', rfl, h'⟩
end
end L2
namespace DL
open PySem PySem.Spec PyProof.Rows L2
section
variable {K : PySem.W.Frag} {G : GI K} {C : Addr}
/-- what may stand in the list, by data -/
def plOk (M : Mp) (y : D) : Prop := match y with
  | .non => True
  | .int _ => True
  | .str _ => True
  | x => ∃ ds, lstOf M x = some ds
def inChD (C : Addr) (sp : DSp) (x : D) : List D → Mp → DQ → Prop
  | [], M, Q => Q (.bl false) M
  | y :: r, M, Q => plOk M y ∧ sp [x, y] M (qB fun k M' => if k = true then Q (.bl true) M' else (∃ fs, insOf M' x = some (C, fs)) ∧ inChD C sp x r M' Q) noX
/-- x in a display of values of other kinds, x with an own == -/
def rInLD (C : Addr) (sp : DSp) : D2 := fun x y M Q => match y with
  | .lst ds => (∃ fs, insOf M x = some (C, fs)) ∧ inChD C sp x ds M Q
  | _ => False
theorem plOk_ok {F H : Hp} {M : Mp} {y : D} {v : V} (c : Core K F H M) (r : Rep K F y v) (h : plOk M y) : PlV K H v := by
  unfold plOk at h
  split at h
  · rw [Rep] at r; subst r; exact .non
  · rw [Rep] at r; subst r; exact .int _
  · rw [Rep] at r; subst r; exact .str _
  · obtain ⟨ds, h⟩ := h
    obtain ⟨a, vs, e1, e2, _⟩ := lstOf_ok c r h
    subst e1
    exact .lst e2
theorem inCh_ok {sp : DSp} {E : XK} {x : D} {v : V} {b : Addr} {ys : List V} {Q0 : DQ} {Q : VK} : ∀ (r : List D) (vr : List V) {F H : Hp} {M : Mp}, Core K F H M → Rep K F x v → F b = some (.lst ys) → Reps K F r vr → inChD C sp x r M Q0 → Post K F H M Q0 Q → inCh K C (lSp K sp) E v b ys vr H Q
  | [], vr, F, H, M, c, rx, hb, rr, h, p => by
    rw [Reps] at rr
    subst rr
    exact p _ _ _ _ _ h (Same.refl F) Fr.refl c (by rw [Rep])
  | y :: r, vr, F, H, M, c, rx, hb, rr, h, p => by
    rw [Reps] at rr
    obtain ⟨w, ws, e, r1, r2⟩ := rr
    subst e
    obtain ⟨h1, h2⟩ := h
    refine ⟨plOk_ok c r1 h1, F, M, [x, y], _, noX, c.toCoreP, Reps.cons rx (Reps.one r1), h2, qB_ok fun k M' F' H' q s f c' => ?_, postX0⟩
    have c2 := c.to c' s f
    cases k with
    | true =>
      rw [if_pos rfl] at q ⊢
      exact p _ _ _ _ _ q s f c2 (by rw [Rep])
    | false =>
      rw [if_neg (by simp)] at q ⊢
      obtain ⟨⟨fs, g⟩, q⟩ := q
      obtain ⟨a, dx, vs, e1, e2, e3⟩ := insOf_ok c2 (rx.mono s) g
      exact ⟨⟨a, dx, vs, e1, e2⟩, SqL.of (c2.same _ _ (s _ _ hb)), inCh_ok r ws c2 (rx.mono s) (s _ _ hb) (r2.mono s) q (p.after s f)⟩
theorem l_inLD {sp : DSp} {E : XK} : LR2 K (rInLO K C (lSp K sp) E) (rInLD C sp) := by
  intro F H M d e v w Q0 Q c r1 r2 h p
  unfold rInLD at h
  split at h
  · rename_i ds
    obtain ⟨⟨fs, g⟩, h⟩ := h
    obtain ⟨a, dx, vs, e1, e2, e3⟩ := insOf_ok c r1 g
    rw [Rep] at r2
    obtain ⟨b, ys, e4, e5, e6⟩ := r2
    exact ⟨a, dx, vs, b, ys, e1, e2, e4, SqL.of (c.same _ _ e5), inCh_ok ds ys c r1 e5 e6 h p⟩
  · exact h.elim
end
section
variable {X : Cx} {GX : GI X.K} {n : Nat} {C f : Addr} {fd : FuncData} {sp : DSp} {ps : List Str}
theorem o_inLO (O : OwnK X.K C) (G : CalM X.prog X.w X.K X.mg X.base n C "__eq__" ps sp f fd) (hr : Room (n + 1) X.A) : OpR X (compareOp .In) (rInLO X.K C (lSp X.K sp) fun _ _ _ => False) :=
  op_inLO G.fn (fun T hT => O.p.mro T (by revert T; decide)) G.me.at_ G.me.fn G.b pass0 hr
end
end DL
namespace DL
open PySem PySem.Spec PyProof.Rows L2
/-! ### C(e, .., k = v, ..) of a class whose making may raise -/
structure KDfl (K : PySem.W.Frag) (fd : FuncData) (ps : List Str) (n : Nat) (ks : List Str) (gD : List D → List D → List D) : Prop where
  ex : ∃ (g : List Value → List Value → List Value) (gV : List V → List V → List V), KBn K fd ps n ks g gV ∧ ∀ {F : Hp} {ds es : List D} {vs zs : List V}, Reps K F ds vs → Reps K F es zs → Reps K F (gD ds es) (gV vs zs)
def dMakeKX (E0 : DX) (C : Addr) (n m : Nat) (sp : DSp) (gD : List D → List D → List D) (tr tk : DTA) : DTE := fun env M Q => tr env M fun ds M1 => tk env M1 fun es M2 => ds.length = n ∧ es.length = m ∧
  ∀ x, M2 x = none → sp (gD (.ptr x :: ds) es) (up M2 x (.ins C [])) (fun v M3 => v = .non ∧ Q (.ptr x) M3) E0
section
variable {X : Cx} {GX : GI X.K} {E : XK} {E0 : DX} {x : Str} {k m n : Nat} {p pos : Pos} {e : Expr} {es : List Expr} {kws : List Keyword} {tr tkw : DTA} {f C : Addr} {fd : FuncData} {ps ps0 ks : List Str} {sp : DSp} {gD : List D → List D → List D} {gV : List V → List V → List V} {dds : List D}
theorem l_makeKX (ws : Wish X.K E0 E) (hg : ∀ {F : Hp} {ds es : List D} {vs zs : List V}, Reps X.K F ds vs → Reps X.K F es zs → Reps X.K F (gD ds es) (gV vs zs)) : ∀ σ H Q, lE X.K (dMakeKX E0 C n m sp gD tr tkw) σ H Q → tMakeK C n m (lSp X.K sp) gV E (lA X.K tr) (lA X.K tkw) σ H Q := fun σ H Q ⟨F, env, M, Q0, he, hc, ht, hp⟩ =>
  ⟨F, env, M, _, he, hc, ht, fun ds M0 F0 H0 us q0 s0 f0 c0 r0 => ⟨F0, env, M0, _, he.mono s0, c0, q0, fun es M1 F1 H1 vs q s1 f1 c1 r1 => by
    obtain ⟨l1, l2, q⟩ := q
    refine ⟨by rw [r0.len]; exact l1, by rw [r1.len]; exact l2, fun x dx hx hdx ne => ?_⟩
    obtain ⟨n1, n2⟩ := c1.nones hx
    have c2 : Core X.K F1 (upd H1 dx (.own x)) M1 := c1.out hdx _
    have f2 : Fr F1 H1 M1 F1 (upd H1 dx (.own x)) M1 := fun a o e n => ⟨by rw [upd_ne (ne_of_none e hdx)]; exact e, n, fun z => z⟩
    have hx2 : upd H1 dx (.own x) x = none := by rw [upd_ne (Ne.symm ne)]; exact hx
    obtain ⟨c3, f3⟩ := c2.newM (mo := .ins C []) hx2 (o := .ins C dx []) ⟨dx, [], rfl, by rw [RepF]⟩
    have hp3 := ((hp.after s0 f0).after s1 f1).after (Same.refl _) (f2.trans f3)
    refine ⟨F1, _, gD (.ptr x :: ds) es, _, E0, c3.toCoreP, hg (Reps.cons (by rw [Rep]) (r0.mono s1)) r1, q x n2, fun d M4 F4 H4 v q4 s4 f4 c4 r4 => ?_, ws.post c3⟩
    obtain ⟨e0, q4⟩ := q4
    subst e0
    rw [Rep] at r4
    exact ⟨r4, hp3 _ M4 F4 H4 _ q4 s4 f4 (c3.to c4 s4 f4) (by rw [Rep])⟩⟩⟩
theorem de_makeKX (G : CalIX X.prog X.w X.K X.mg X.base k x C ps sp dds f fd) (ws : Wish X.K E0 E) (hr : Room (k + 1) X.A) (hb : KDfl X.K fd ps (n + 1) ks gD) (ha : DA X (e :: es) tr) (hkw : DK X kws tkw) (tk : L2.Takes X (WE E) := by exact L2.takes_of rfl rfl rfl rfl) (hg : Gl X x := by rfl)
    (hall : (backToKw pos (keywordEach kws X.env)).all (·.1.isSome) = true := by rfl) (hks : (backToKw pos (keywordEach kws X.env)).filterMap (·.1) = ks := by rfl)
    (hdb : (x == ("__debug__" : Str)) = false := by decide) (he : starEach (e :: es) X.env = (false, eval e X.env) :: starEach es X.env := by rfl)
    (hpl : ((backTo pos (starEach (e :: es) X.env)).any (·.1) || (backToKw pos (keywordEach kws X.env)).any (·.1.isNone)) = false := by rfl) (hl : ks.length = m := by rfl) : DE X (.Call (.Name x p) (e :: es) kws pos) (dMakeKX E0 C n m sp gD tr tkw) := by
  subst hl
  obtain ⟨g, gV, hk, hr'⟩ := hb.ex
  exact PE.imp (pe_makeK G.mk1 G.fn hr hg G.g hk (L2.passes_call tk fun _ _ _ _ h => h) ha hkw hall hks hdb he hpl) (l_makeKX ws hr')
theorem de_makeKX0 (G : CalIX X.prog X.w X.K X.mg X.base k x C ps sp dds f fd) (ws : Wish X.K E0 E) (hr : Room (k + 1) X.A) (hb : KDfl X.K fd ps 1 ks gD) (hkw : DK X kws tkw) (tk : L2.Takes X (WE E) := by exact L2.takes_of rfl rfl rfl rfl) (hg : Gl X x := by rfl)
    (hall : (backToKw pos (keywordEach kws X.env)).all (·.1.isSome) = true := by rfl) (hks : (backToKw pos (keywordEach kws X.env)).filterMap (·.1) = ks := by rfl)
    (hdb : (x == ("__debug__" : Str)) = false := by decide)
    (hpl : ((backTo pos (starEach [] X.env)).any (·.1) || (backToKw pos (keywordEach kws X.env)).any (·.1.isNone)) = false := by rfl) (hl : ks.length = m := by rfl) : DE X (.Call (.Name x p) [] kws pos) (dMakeKX E0 C 0 m sp gD dNil tkw) := by
  subst hl
  obtain ⟨g, gV, hk, hr'⟩ := hb.ex
  refine PE.imp (pe_makeK0 G.mk1 G.fn hr hg G.g hk (L2.passes_call tk fun _ _ _ _ h => h) hkw hall hks hdb hpl) fun σ H Q h => ?_
  obtain ⟨F, env, M, Q1, he, hc, ht, hp⟩ := l_makeKX (E0 := E0) (C := C) (n := 0) (m := ks.length) (sp := sp) (tr := dNil) (tkw := tkw) ws hr' σ H Q h
  exact hp [] M F H [] ht (Same.refl _) Fr.refl hc Reps.nil
variable {env : DSt} {M : Mp} {Q : DQ}
theorem dMakeKX_ap : dMakeKX E0 C n m sp gD tr tkw env M Q = tr env M fun ds M1 => tkw env M1 fun es M2 => ds.length = n ∧ es.length = m ∧
  ∀ x, M2 x = none → sp (gD (.ptr x :: ds) es) (up M2 x (.ins C [])) (fun v M3 => v = .non ∧ Q (.ptr x) M3) E0 := rfl
end
/-- no defaults are given by data yet: the binding of a call that gives all or leaves the last ones out -/
theorem dfl_of {K : PySem.W.Frag} {fd : FuncData} {ps : List Str} {ds : List Value} {dvs : List V} {dds : List D} (b : Binds K fd ps ds) (h : Vals dvs ds) (r : ∀ F : Hp, Reps K F dds dvs) : DflD K fd ps dds := ⟨ds, dvs, b, h, r⟩
end DL
namespace DL
open PySem PySem.Spec PyProof.Rows L2
/-! ### [..] * n, a list that may be changed later -/
def rRepM : D2 := fun x y M Q => match x, y with
  | .lst ds, .int k => -(2 ^ 63) ≤ k ∧ k < 2 ^ 63 ∧ ds.length * k.toNat ≤ sizeLine ∧ ∀ p, M p = none → Q (.ptr p) (up M p (.lst (List.replicate k.toNat ds).flatten))
  | _, _ => False
section
variable {X : Cx} {GX : GI X.K} {K : PySem.W.Frag} {G : GI K} {a b : Expr} {ta tb : DTE} {pos : Pos}
theorem l_repM : LR2 K L2.rRep rRepM := by
  intro F H M d e v w Q0 Q c r1 r2 h p
  unfold rRepM at h
  split at h
  · rename_i ds k
    obtain ⟨h1, h2, h3, h4⟩ := h
    rw [Rep] at r1
    rw [Rep] at r2
    obtain ⟨l, xs, e1, e2, e3⟩ := r1
    exact ⟨l, k, xs, e1, r2, c.same _ _ e2, h1, h2, by rw [e3.len]; exact h3, p.ptr c (mo := .lst (List.replicate k.toNat ds).flatten) ⟨_, rfl, e3.rep k.toNat⟩ h4⟩
  · exact h.elim
theorem de_repM (ha : DE X a ta) (hb : DE X b tb) : DE X (.BinOp a .Mult b pos) (dOp rRepM ta tb) := de_op op_rep l_repM ha hb
end
end DL
namespace DL
open PySem PySem.Spec PyProof.Rows L2
/-! ### the head: defaults -/
section
variable {K : PySem.W.Frag} {x qual : Str} {st : Stmt} {dvs : List V} {kws : List (Str × V)} {f : Addr} {fd : FuncData} {ps ks : List Str} {dds : List D}
/-- all parameters are given -/
theorem bd_all (h : ∃ ds, Vals (dvs.drop dvs.length) ds ∧ Binds K fd ps ds) : DflD K fd ps [] := by
  obtain ⟨ds, hv, b⟩ := h
  rw [List.drop_length] at hv
  cases hv
  exact dfl0 b
theorem bd_tail {j : Nat} (h : ∃ ds, Vals (dvs.drop j) ds ∧ Binds K fd ps ds) (r : ∀ F : Hp, Reps K F dds (dvs.drop j)) : DflD K fd ps dds := by
  obtain ⟨ds, hv, b⟩ := h
  exact ⟨ds, _, b, hv, r⟩
theorem kd_of {n : Nat} {m k : Nat} {π : List Nat} (h : ∃ its : List Value, KBn K fd ps n ks (fun us ws => gKV m k π us ws) (fun vs zs => gKV m k π vs zs)) : KDfl K fd ps n ks (gKV m k π) := by
  obtain ⟨its, h⟩ := h
  exact ⟨_, _, h, fun r1 r2 => (gkv_rep m k π).rep r1 r2⟩
theorem rep_etup {F : Hp} {a : Addr} (h : ∃ (o : Obj) (its : Array Value) (n : Nat), K.lookup a = some o ∧ o.cls = .type "tuple" ∧ o.data = .seq its n ∧ its.size = 0) : Rep K F (.tup []) (.ref a) := by
  obtain ⟨o, its, n, h1, h2, h3, h4⟩ := h
  rw [Rep]
  refine ⟨a, [], rfl, .inr ⟨o, its, n, h1, h2, h3, by rw [h4]; exact Nat.zero_le _, ?_⟩, Reps.nil⟩
  rw [Array.toList_eq_nil_iff.mpr (Array.eq_empty_of_size_eq_zero h4)]
  exact .nil
theorem gkv_rel {m n : Nat} {π : List Nat} : ∀ {vs ds zs : List V} {us its ws : List Value}, Vals vs us → Vals ds its → Vals zs ws → Vals (gKV m n π vs zs) (gKV m n π us ws) := fun r1 _ r3 => gkv_vals π r1 r3
end
end DL
namespace DL
open PySem PySem.Spec PyProof.Rows L2
/-! ### enumerate of a list or a tuple -/
def iEnumA (K : PySem.W.Frag) (ta : TA) : TI := fun σ H R => ta σ H fun vs H1 => ∃ a xs, vs = [.ref a] ∧ ((SqL K H1 a xs ∧ R (Ite K a) H1) ∨ (SqT K H1 a xs ∧ R (IteT K a) H1))
theorem pi_enumA {X : Cx} {e : Expr} {ta : TA} {p pos tpos : Pos} {elts : List Expr} {kk : Nat} (hg : Gl X "enumerate") (hm : X.mg "enumerate" = none) (ha : PA X [e] ta) (hs : starEach [e] X.env = [(false, eval e X.env)] := by rfl) :
    PI X (.Tuple elts kk tpos) (.Call (.Name "enumerate" p) [e] [] pos) (iEnumA X.K ta) := by
  refine ⟨fun pins s σ H R I h => ?_⟩
  refine Call_ (ld_blt I hg hm boot_enumerate (PyProof.Rows.callWith_type1 (thn (ha.run pos pins s σ H _ I h) fun us s1 ⟨vs, H1, I1, r1, q1⟩ => ?_) hs rfl))
  obtain ⟨a, xs, ex, q1⟩ := q1
  subst ex
  cases r1 with
  | cons r rr =>
    cases rr
    cases r
    have fp : ∀ b, b ∈ [s1.heap.objs.size + 1, s1.heap.objs.size] → FpOk X pins H1 b := fun b hb => by
      have e' : b = s1.heap.objs.size + 1 ∨ b = s1.heap.objs.size := by simpa using hb
      have hle : s1.heap.objs.size ≤ b := by
        rcases e' with z | z
        · rw [z]; exact Nat.le_add_right _ _
        · rw [z]; exact Nat.le_refl _
      exact I1.fpOk hle (I1.hok.fresh hle)
    rcases q1 with ⟨hq, q⟩ | ⟨hq, q⟩
    · obtain ⟨its, rv, p', hz⟩ := I1.list hq
      refine call_enumerate_list p'.isList fun h' he hit hsz hk => wpAny_pyIter_enum he ?_
      have I2 : Inv X pins σ H1 { s1 with heap := h' } := I1.kept (t' := s1.toks) hk
      exact ⟨s1.heap.objs.size + 1, [s1.heap.objs.size + 1, s1.heap.objs.size], _, _, H1, rfl, I2, turn_enum a (s1.heap.objs.size + 1) s1.heap.objs.size, ⟨⟨.none, he⟩, hit, Nat.succ_ne_self _⟩, fp, q⟩
    · obtain ⟨its, rv, p', hz⟩ := I1.tuple hq
      refine dl_call_enumT p' fun h' he hit hk => wpAny_pyIter_enum he ?_
      have I2 : Inv X pins σ H1 { s1 with heap := h' } := I1.kept (t' := s1.toks) hk
      exact ⟨s1.heap.objs.size + 1, [s1.heap.objs.size + 1, s1.heap.objs.size], _, _, H1, rfl, I2, turn_enumT a (s1.heap.objs.size + 1) s1.heap.objs.size, ⟨⟨.none, he⟩, hit, Nat.succ_ne_self _⟩, fp, q⟩
theorem yl_enumL {K : PySem.W.Frag} {G : GI K} {F : Hp} {a : Addr} {ds : List D} {kp : Mp → Prop} (hL : ∀ {F' H : Hp} {M : Mp}, Same F F' → Core K F' H M → kp M → ∃ vs, SqL K H a vs ∧ Reps K F' ds vs) : Yl K (Ite K a) F (enumD 0 ds) kp where
  go := fun {F' H M i} s c k hi => by
    obtain ⟨vs, q, r⟩ := hL s c k
    rw [enumD_len, ← r.len] at hi
    exact ⟨vs, vs[i], q, List.getElem?_eq_getElem hi⟩
  stop := fun {F' H M i} s c k hi => by
    obtain ⟨vs, q, r⟩ := hL s c k
    rw [enumD_len, ← r.len] at hi
    exact ⟨vs, q, hi⟩
  yld := fun {F' H H' M i x} s c k hi hy => by
    obtain ⟨vs, q, r⟩ := hL s c k
    rw [enumD_len] at hi
    obtain ⟨T, x0, rfl, hn, rfl, hx⟩ := hy
    have hx0 := hx vs q
    obtain ⟨v, e1, e2⟩ := r.get (List.getElem?_eq_getElem hi)
    rw [e1] at hx0
    cases hx0
    obtain ⟨c1, s1, f1⟩ := c.new hn (.tup [.int (i : Nat), x0])
    refine ⟨.tup [.int ((0 + i : Nat) : Int), ds[i]], _, by rw [enumD_get, List.getElem?_eq_getElem hi]; rfl, s1, c1, f1, ?_⟩
    rw [Rep]
    exact ⟨T, [.int (i : Nat), x0], rfl, .inl (.inl upd_same), Reps.cons (by rw [Rep, Nat.zero_add]) (Reps.one (e2.mono s1))⟩
def dEnumL (tr : DTA) : DTI := fun env M R => tr env M fun ds M1 => match ds with
  | [.tup xs] => R (enumD 0 xs) (fun _ => True) M1
  | [x] => ∃ xs, lstOf M1 x = some xs ∧ R (enumD 0 xs) (fun M2 => lstOf M2 x = some xs) M1
  | _ => False
section
variable {X : Cx} {GX : GI X.K} {e : Expr} {tr : DTA} {p pos tpos : Pos} {elts : List Expr} {kk : Nat}
theorem di_enumL (hm : X.mg "enumerate" = none) (ha : DA X [e] tr) (hg : Gl X "enumerate" := by rfl) (hs : starEach [e] X.env = [(false, eval e X.env)] := by rfl) : DI X (.Tuple elts kk tpos) (.Call (.Name "enumerate" p) [e] [] pos) (dEnumL tr) :=
  PI.imp (pi_enumA hg hm ha hs) fun σ H R ⟨F, env, M, R0, he, hc, ht, hp⟩ => ⟨F, env, M, _, he, hc, ht, fun ds M1 F1 H1 vs q s1 f1 c1 r1 => by
    revert q
    dsimp only
    split <;> intro q
    · obtain ⟨v, e1, e2⟩ := reps1 r1
      rw [Rep] at e2
      obtain ⟨a, us, e3, e4, e5⟩ := e2
      subst e1 e3
      exact ⟨a, us, rfl, .inr ⟨sameT c1.same e4, hp _ _ _ _ _ _ q s1 f1 c1 (yl_enumT e5 e4)⟩⟩
    · obtain ⟨xs, h1, q⟩ := q
      obtain ⟨v, e1, e2⟩ := reps1 r1
      obtain ⟨a, us, e3, e4, e5⟩ := lstOf_ok c1 e2 h1
      subst e1 e3
      refine ⟨a, us, rfl, .inl ⟨e4, hp _ _ _ _ _ _ q s1 f1 c1 (yl_enumL fun s c k => ?_)⟩⟩
      obtain ⟨a', us', e3', e4', e5'⟩ := lstOf_ok c (e2.mono s) k
      cases e3'
      exact ⟨us', e4', e5'⟩
    · exact q.elim⟩
theorem dEnumL_ap {env : DSt} {M : Mp} {R : List D → (Mp → Prop) → Mp → Prop} : dEnumL tr env M R = tr env M fun ds M1 => (match ds with
  | [.tup xs] => R (enumD 0 xs) (fun _ => True) M1
  | [x] => ∃ xs, lstOf M1 x = some xs ∧ R (enumD 0 xs) (fun M2 => lstOf M2 x = some xs) M1
  | _ => False) := rfl
end
end DL
namespace DL
open PySem PySem.Spec PyProof.Rows L2
/-! ### the head's facts of properties -/
/-- a property of an own class: its getter's def -/
structure GtD where
  cls : Str
  name : Str
  qual : Str
  params : Arguments
  body : List Stmt
  scope : Scope
def GtD.p (K : PySem.W.Frag) (d : GtD) : Addr := He.ma K (He.ga K d.cls) d.name
def GtD.g (K : PySem.W.Frag) (d : GtD) : Addr := match PySem.W.recIn K (d.p K) "property" with
  | some (.ref a :: _) => a
  | _ => 0
def fnG (K : PySem.W.Frag) (f : Addr) : He.FnW := match K.lookup f with
  | some ⟨_, _, .func fd, _⟩ => some (fd.name, fd.qualname, fd.params, fd.body, fd.scope, fd.globals, fd.closure, fd.builtins)
  | _ => none
def GtD.val (d : GtD) : He.FnW := some (d.name, d.qual, d.params, .stmts d.body, d.scope, mainGlobals, [], builtinsNs)
def GtD.ok (K : PySem.W.Frag) (d : GtD) : Bool := He.eqO (PySem.W.findIn K (.ref (He.ga K d.cls)) d.name) (some (some (.ref (d.p K)))) && He.eqO (PySem.W.specialIn K (.ref (d.p K)) "__get__") (some (some (.builtin "property.__get__"))) && decide (PySem.W.takesIn K (.ref (d.p K)) = some true) &&
  (match PySem.W.recIn K (d.p K) "property" with
    | some (.ref _ :: _) => true
    | _ => false) && PySem.W.keepIn K (.ref (d.g K)) && (match K.lookup (d.g K) with
    | some ⟨_, _, .func fd, _⟩ => PySem.W.codeIn K fd.code d.qual && (He.dflB K fd.defaults [] && He.kwdB K fd.kwdefaults [])
    | _ => false)
theorem gtd_of {K : PySem.W.Frag} {d : GtD} (e : fnG K (d.g K) = d.val) (c : d.ok K = true) : PropOf K (He.ga K d.cls) d.name (d.p K) (d.g K) ∧ ∃ fd, FunD K d.name d.qual d.params d.body d.scope [] [] (d.g K) fd := by
  unfold GtD.ok at c
  obtain ⟨c, c6⟩ := He.ba c
  obtain ⟨c, c5⟩ := He.ba c
  obtain ⟨c, c4⟩ := He.ba c
  obtain ⟨c, c3⟩ := He.ba c
  obtain ⟨c1, c2⟩ := He.ba c
  refine ⟨⟨He.eqO_ok c1, He.eqO_ok c2, of_decide_eq_true c3, ?_⟩, ?_⟩
  · unfold GtD.g
    split at c4
    · rename_i a rest h
      rw [h]
      exact ⟨rest, rfl⟩
    · cases c4
  · unfold fnG at e
    cases q : K.lookup (d.g K) with
    | none =>
      rw [q] at c6
      cases c6
    | some o =>
      obtain ⟨oc, od, dt, osl⟩ := o
      rw [q] at c6 e
      cases dt with
      | func fd =>
        obtain ⟨n1, n2, n3, n4, n5, n6, n7, n8, n9, n10, n11, n12, n13, n14, n15⟩ := fd
        have e2 : (some (n1, n2, n3, n4, n5, n6, n7, n15) : He.FnW) = some (d.name, d.qual, d.params, .stmts d.body, d.scope, mainGlobals, [], builtinsNs) := e
        simp only [Option.some.injEq, Prod.mk.injEq] at e2
        obtain ⟨h1, h2, h3, h4, h5, h6, h7, h8⟩ := e2
        subst h1 h3 h4 h5 h6 h7 h8
        have c7 : (PySem.W.codeIn K n13 d.qual && (He.dflB K n8 [] && He.kwdB K n9 [])) = true := c6
        obtain ⟨k1, k2⟩ := He.ba c7
        obtain ⟨k3, k4⟩ := He.ba k2
        subst h2
        exact ⟨_, ⟨oc, od, n8, n9, n10, n11, n12, n13, n14, osl, rfl, q, k1, He.dflB_ok k3, He.kwdB_ok k4⟩, c5⟩
      | _ => cases c6
/-- more facts: a class's constant -/
inductive XtF where
  | cnum (x f : Str) (i : Int)
def XtF.ok (K : PySem.W.Frag) : XtF → Bool
  | .cnum x f i => PySem.W.readsIn K (He.ga K x) (.type "type") && He.eqO (PySem.W.specialIn K (.ref (He.ga K x)) "__getattribute__") (some (some (.builtin "type.__getattribute__"))) && (match PySem.W.findCls K (.ref (He.ga K x)) (.type "type") f with
    | some (.val (.int j _)) => decide (j = i)
    | _ => false)
/-! ### the head's Hook with properties -/
/-- the addresses of a list that are not in the mask, with the mask -/
def addY : List Addr → List Addr → Nat → List Addr × Nat
  | [], acc, m => (acc, m)
  | a :: r, acc, m => match Nat.beq (Nat.land (Nat.shiftRight m a) 1) 0 with
    | true => addY r (a :: acc) (Nat.lor m (Nat.shiftLeft 1 a))
    | false => addY r acc m
def refsY (g : Addr → Option Obj) (a : Addr) : List Addr := match g a with
  | some o => He.refsD o
  | none => []
def levY (g : Addr → Option Obj) : List Addr → List Addr → Nat → List Addr × Nat
  | [], acc, m => (acc, m)
  | a :: r, acc, m => match addY (refsY g a) acc m with
    | (acc2, m2) => levY g r acc2 m2
def bfsY (g : Addr → Option Obj) : Nat → List Addr → Nat → List Addr
  | 0, fr, _ => fr
  | n + 1, fr, m => match levY g fr [] m with
    | (nw, m2) => fr ++ bfsY g n nw m2
/-- the addresses that are looked at -/
def asY (g : Addr → Option Obj) (n : Nat) : List Addr := cStatics :: bfsY g n [mainGlobals] (Nat.shiftLeft 1 mainGlobals)
abbrev AlY : Type := AlZ × Bool × List He.FnW
def obsY (P : Program) (fa : List He.Fa) (fn : List He.DefD) (ex : List ExD) (tf : List He.Defn) (cw : List Str) (ow : List OwF) (gt : List GtD) (xt : List XtF) (g : Addr → Option Obj) (K : PySem.W.Frag) : AlY := (obsZ P fa fn ex tf cw ow g K, gt.all (GtD.ok K) && xt.all (XtF.ok K), gt.map fun d => fnG K (d.g K))
def obsYG (P : Program) (n : Nat) (fa : List He.Fa) (fn : List He.DefD) (ex : List ExD) (tf : List He.Defn) (cw : List Str) (ow : List OwF) (gt : List GtD) (xt : List XtF) (g : Addr → Option Obj) : AlY := obsY P fa fn ex tf cw ow gt xt g (He.frT g (asY g n))
def valY (fn : List He.DefD) (ex : List ExD) (gt : List GtD) : AlY := (valZ fn ex, true, gt.map GtD.val)
structure SaysY (P : Program) (fa : List He.Fa) (fn : List He.DefD) (ex : List ExD) (tf : List He.Defn) (cw : List Str) (ow : List OwF) (gt : List GtD) (xt : List XtF) (h : Heap) (K : PySem.W.Frag) : Prop where
  z : SaysZ P fa fn ex tf cw ow h K
  go : gt.all (GtD.ok K) = true
  gv : (gt.map fun d => fnG K (d.g K)) = gt.map GtD.val
  xo : xt.all (XtF.ok K) = true
theorem saysZ_ofA {P : Program} {as : List Addr} {fa : List He.Fa} {fn : List He.DefD} {ex : List ExD} {tf : List He.Defn} {cw : List Str} {ow : List OwF} {h : Heap} (e : obsZ P fa fn ex tf cw ow h.get? (He.frT h.get? as) = valZ fn ex) : SaysZ P fa fn ex tf cw ow h (He.frT h.get? as) := by
  have e1 := congrArg (fun z : AlZ => z.1) e
  have e2 : ((ex.all fun d => d.ok P (He.frT h.get? as)) && (He.tabsB h.get? tf (He.frT h.get? as) && (caughtB (He.frT h.get? as) cw && ow.all (OwF.ok (He.frT h.get? as))))) = true := congrArg (fun z : AlZ => z.2.1) e
  have e3 := congrArg (fun z : AlZ => z.2.2) e
  obtain ⟨h1, h2⟩ := He.ba e2
  obtain ⟨h2, h3⟩ := He.ba h2
  obtain ⟨h3, h4⟩ := He.ba h3
  have key : ∀ p ∈ tf, PySem.W.codeHdIn (He.frT h.get? as) (He.cT (He.frT h.get? as) p).1 (He.cT (He.frT h.get? as) p).2 = true ∧ ∃ o, h.get? (He.cT (He.frT h.get? as) p).2 = some o ∧ He.emptyTab o = true := fun p hp => by
    obtain ⟨k1, k2⟩ := He.ba (List.all_eq_true.mp h2 p hp)
    refine ⟨k1, ?_⟩
    cases q : h.get? (He.cT (He.frT h.get? as) p).2 with
    | none => rw [q] at k2; cases k2
    | some o => rw [q] at k2; exact ⟨o, rfl, k2⟩
  exact ⟨e1, h1, e3, h3, h4, fun p hp => (key p hp).1, fun p hp => (let ⟨_, o, q, z⟩ := key p hp; He.frT_none q z), fun p hp => (let ⟨_, o, q, z⟩ := key p hp; by rw [q, He.emptyTab_eq z])⟩
theorem saysY_of {P : Program} {n : Nat} {fa : List He.Fa} {fn : List He.DefD} {ex : List ExD} {tf : List He.Defn} {cw : List Str} {ow : List OwF} {gt : List GtD} {xt : List XtF} {h : Heap} (e : obsYG P n fa fn ex tf cw ow gt xt h.get? = valY fn ex gt) : SaysY P fa fn ex tf cw ow gt xt h (He.frT h.get? (asY h.get? n)) :=
  ⟨saysZ_ofA (congrArg (fun z : AlY => z.1) e), (He.ba (congrArg (fun z : AlY => z.2.1) e)).1, congrArg (fun z : AlY => z.2.2) e, (He.ba (congrArg (fun z : AlY => z.2.1) e)).2⟩
def hookY (P : Program) (n : Nat) (fa : List He.Fa) (fn : List He.DefD) (ex : List ExD) (tf : List He.Defn) (cw : List Str) (ow : List OwF) (gt : List GtD) (xt : List XtF) : PySem.W.Hook where
  α := AlY
  obs := fun s => obsYG P n fa fn ex tf cw ow gt xt s.heap.get?
  val := fun _ => valY fn ex gt
  says := fun _ h => ∃ K : PySem.W.Frag, K.In h ∧ SaysY P fa fn ex tf cw ow gt xt h K
  of := fun _ _ e => ⟨_, He.frT_in, saysY_of e⟩
  keeps := fun _ _ _ ⟨K, hK, c⟩ k => ⟨K, PySem.W.Frag.In.keeps hK k, { c with z := { c.z with empty := fun p hp => k _ _ (c.z.empty p hp) } }⟩
theorem obsYG_eq {P : Program} {n : Nat} {fa : List He.Fa} {fn : List He.DefD} {ex : List ExD} {tf : List He.Defn} {cw : List Str} {ow : List OwF} {gt : List GtD} {xt : List XtF} {g : Addr → Option Obj} {s : Shared} (h : ∀ a, g a = s.heap.get? a) : obsYG P n fa fn ex tf cw ow gt xt g = (hookY P n fa fn ex tf cw ow gt xt).obs s := by
  have e : g = s.heap.get? := funext h
  rw [e] <;> rfl
theorem SaysY.gtd {P : Program} {fa : List He.Fa} {fn : List He.DefD} {ex : List ExD} {tf : List He.Defn} {cw : List Str} {ow : List OwF} {gt : List GtD} {xt : List XtF} {h : Heap} {K : PySem.W.Frag} (c : SaysY P fa fn ex tf cw ow gt xt h K) (i : Nat) {d : GtD} (e : gt[i]? = some d := by rfl) :
    PropOf K (He.ga K d.cls) d.name (d.p K) (d.g K) ∧ ∃ fd, FunD K d.name d.qual d.params d.body d.scope [] [] (d.g K) fd := by
  have e2 : (gt.map fun d => fnG K (d.g K))[i]? = (gt.map GtD.val)[i]? := by rw [c.gv]
  rw [List.getElem?_map, List.getElem?_map, e] at e2
  exact gtd_of (Option.some.inj e2) (List.all_eq_true.mp c.go d (List.mem_of_getElem? e))
theorem SaysY.xtf {P : Program} {fa : List He.Fa} {fn : List He.DefD} {ex : List ExD} {tf : List He.Defn} {cw : List Str} {ow : List OwF} {gt : List GtD} {xt : List XtF} {h : Heap} {K : PySem.W.Frag} (c : SaysY P fa fn ex tf cw ow gt xt h K) (i : Nat) {f : XtF} (e : xt[i]? = some f := by rfl) : f.ok K = true := List.all_eq_true.mp c.xo f (List.mem_of_getElem? e)
end DL
namespace DL
open PySem PySem.Spec PyProof.Rows L2
/-! ### defs f(a, .., *r) of any number of parameters; star arguments; methods and classes of such defs -/
def spW (n nmax : Nat) (sp : DSp) : DSp := fun ds M Q E0 => ∃ ws rest, ds = ws ++ rest ∧ ws.length = n ∧ rest.length ≤ nmax ∧ sp (ws ++ [.tup rest]) M Q E0
section
variable {P : Program} {w : World} {K : PySem.W.Frag} {mg : Str → Option Value} {base : Heap} {kws : List (Str × V)}
theorem reps_split {F : Hp} : ∀ {ds es : List D} {vs : List V}, Reps K F (ds ++ es) vs → ∃ v1 v2, vs = v1 ++ v2 ∧ Reps K F ds v1 ∧ Reps K F es v2
  | [], es, vs, r => ⟨[], vs, rfl, Reps.nil, r⟩
  | d :: ds, es, vs, r => by
    rw [List.cons_append, Reps] at r
    obtain ⟨v, vr, e, r1, r2⟩ := r
    obtain ⟨v1, v2, e2, r3, r4⟩ := reps_split r2
    exact ⟨v :: v1, v2, by rw [e, e2]; rfl, Reps.cons r1 r3, r4⟩
theorem dfunXW {x qual pv : Str} {ps : List Str} {st : Stmt} {f : Addr} {fd : FuncData} {N : List Str} {k nmax : Nat} {sp : DSp} (F : FnD K x qual st [] kws f fd) (S : FnScope N (ps ++ [pv]) (defScope st)) (hz : nmax ≤ sizeLine)
    (hb : ∀ (kV doc pm : Value) (an : Option Addr) (cdv ct : Value) (us rest : List Value), us.length = ps.length → bindArgs (PySem.W.fnOf x qual (defArgs st) (defBody st) (defScope st) .none kV doc pm an cdv ct) ⟨us ++ rest, []⟩ = (newTuple rest >>= fun t => pure (ps.zip us ++ [(pv, t)])))
    (hbody : ∀ (cdv : Value) (A : Around) (outer : List Env) (s : Shared) (H : Hp) (E : XK) (E0 : DX), Room k (A.deeper (envOfC qual (defScope st) s.heap.objs.size f cdv)) →
      ∃ t, (∀ G : GI K, @Wish K G E0 E → @DSs (cxOf (L2.CX P w) P w K mg base N qual (defScope st) f cdv A outer s H E) G (defBody st) t) ∧ ∀ ds M Q, sp ds M Q E0 → t (bodyE K Q) (startD N ds) M) : FnR P w K mg base (L2.CX P w) (k + 1) f (lSp K (spW ps.length nmax sp)) := by
  obtain ⟨oc, od, dV, kV, doc, pm, an, cdv, ct, osl, rfl, lk, hcd, hD, _⟩ := F.ex
  have e : dV = .none := by
    rcases hD with ⟨_, e⟩ | ⟨e, _⟩
    · exact e
    · exact absurd rfl e
  subst e
  refine FnR.imp (StX.fn_star (sp := lSp K sp) lk hcd S StX.cxUp (hb kV doc pm an cdv ct) fun A outer s H vs Q E hr ⟨F, M, ds, Q0, E0, c, r, h, p, px⟩ => ?_) fun vs H Q E ⟨F, M, ds, Q0, E0, c, r, ⟨ws, rest, e1, e2, e3, h⟩, p, px⟩ => ?_
  · obtain ⟨t, h1, h2⟩ := hbody cdv A outer s H E E0 hr
    have ws : @Wish K (entryG K F H M) E0 E := by
      intro c' fs M' F' H' dd vs' q c1 h r
      have g := @Core.g K (entryG K F H M) F' H' M' c1
      exact px c' fs M' F' H' dd vs' q g.1 g.2 (@Core.toCoreP K (entryG K F H M) F' H' M' c1) h r
    exact ⟨_, h1 (entryG K F H M) ws, F, startD N ds, M, bodyE K Q0, start_env r, @Core.mk K (entryG K F H M) F H M c ⟨Same.refl F, Fr.refl⟩, h2 ds M Q0 h, @fin_ok K (entryG K F H M) F H M Q0 Q (@PostP.post K (entryG K F H M) F H M Q0 Q p)⟩
  · subst e1
    obtain ⟨v1, vr, e4, r1, r2⟩ := reps_split r
    refine ⟨v1, vr, e4, by rw [r1.len]; exact e2, by rw [r2.len]; omega, fun p hp => ?_⟩
    obtain ⟨c1, s1, f1⟩ := c.new hp (.tup vr)
    exact ⟨_, M, ws ++ [.tup rest], Q0, E0, c1, (r1.mono s1).app (Reps.one (by rw [Rep]; exact ⟨p, vr, rfl, .inl (.inl upd_same), r2.mono s1⟩)), h,
      fun d' M' F' H' v' q s f c' r' => ‹PostP K F H M Q0 Q› d' M' F' H' v' q (s1.trans s) (f1.trans f) c' r', px.after s1 f1⟩
structure CalMXV (P : Program) (w : World) (K : PySem.W.Frag) (mg : Str → Option Value) (base : Heap) (k : Nat) (C : Addr) (m : Str) (sp : DSp) (f : Addr) : Prop where
  fn : FnR P w K mg base (L2.CX P w) k f (lSp K sp)
  cls : Cls K C
  me : Meth K C m f
structure CalIXV (P : Program) (w : World) (K : PySem.W.Frag) (mg : Str → Option Value) (base : Heap) (k : Nat) (x : Str) (C : Addr) (sp : DSp) (f : Addr) : Prop where
  fn : FnR P w K mg base (L2.CX P w) k f (lSp K sp)
  mk1 : Mk K C f
  g : mg x = some (.ref C)
end
/-- *e in an argument list -/
def dStar (ta : DTE) (tr : DTA) : DTA := fun env M Q => ta env M fun x M1 => ∃ xs, (lstOf M1 x = some xs ∨ x = .tup xs) ∧ tr env M1 fun ys M2 => Q (xs ++ ys) M2
section
variable {X : Cx} {GX : GI X.K} {E : XK} {E0 : DX} {e o : Expr} {es : List Expr} {ta : DTE} {pos p sp_ apos : Pos} {tr : DTA} {k : Nat} {f C : Addr} {sp : DSp} {x m : Str}
theorem l_star : ∀ σ H Q, lA X.K (dStar ta tr) σ H Q → StX.tStar X.K (lE X.K ta) (lA X.K tr) σ H Q := fun σ H Q ⟨F, env, M, Q0, he, hc, ht, hp⟩ =>
  ⟨F, env, M, _, he, hc, ht, fun d M1 F1 H1 v q s1 f1 c1 r1 => by
    obtain ⟨xs, hx, q⟩ := q
    rcases hx with hx | hx
    · obtain ⟨a, vs, e1, e2, e3⟩ := lstOf_ok c1 r1 hx
      exact ⟨a, vs, e1, .inr e2, F1, env, M1, _, he.mono s1, c1, q, fun ys M2 F2 H2 us q2 s2 f2 c2 r2 => hp _ M2 F2 H2 _ q2 (s1.trans s2) (f1.trans f2) c2 ((e3.mono s2).app r2)⟩
    · subst hx
      rw [Rep] at r1
      obtain ⟨a, vs, e1, e2, e3⟩ := r1
      exact ⟨a, vs, e1, .inl (sameT c1.same e2), F1, env, M1, _, he.mono s1, c1, q, fun ys M2 F2 H2 us q2 s2 f2 c2 r2 => hp _ M2 F2 H2 _ q2 (s1.trans s2) (f1.trans f2) c2 ((e3.mono s2).app r2)⟩⟩
theorem da_star (he : DE X e ta) (hr : DA X es tr) (hs : starEach (.Starred e p :: es) X.env = (true, eval e X.env) :: starEach es X.env := by rfl) : DA X (.Starred e p :: es) (dStar ta tr) :=
  PA.imp (StX.pa_star he hr hs) l_star
theorem makeR_eq {C : Addr} {sp : Sp} {E : XK} {t : TA} : tMake C sp [] E t = StX.tMakeR C sp E t := by
  funext σ H Q
  unfold tMake StX.tMakeR
  simp only [List.append_nil]
theorem methR_eq {C : Addr} {m : Str} {sp : Sp} {E : XK} {ta : TE} {t : TA} : tMeth C m sp [] E ta t = tMethR C m sp E ta t := by
  funext σ H Q
  unfold tMeth tMethR
  simp only [List.append_nil]
theorem de_makeXV (G : CalIXV X.prog X.w X.K X.mg X.base k x C sp f) (ws : Wish X.K E0 E) (hr : Room (k + 1) X.A) (ha : DA X (e :: es) tr) (tk : L2.Takes X (WE E) := by exact L2.takes_of rfl rfl rfl rfl) (hg : Gl X x := by rfl) (hdb : (x == ("__debug__" : Str)) = false := by decide)
    (he : starEach (e :: es) X.env = (false, eval e X.env) :: starEach es X.env := by rfl) (hpl : (backTo pos (starEach es X.env)).any (·.1) = false := by rfl) : DE X (.Call (.Name x p) (e :: es) [] pos) (dMakeX E0 C sp [] tr) :=
  PE.imp (StX.pe_makeR G.mk1 G.fn hr hg G.g (L2.passes_call tk fun _ _ _ _ h => h) ha hdb he hpl) fun σ H Q h => by
    rw [← makeR_eq]
    exact l_makeX (E0 := E0) (C := C) (sp := sp) (tr := tr) ws (fun _ => Reps.nil) σ H Q h
/-- C(e, .., *y) -/
theorem pe_makeS {CX : CXT} {sp : Sp} {t : TA} (M : Mk X.K C f) (F : FnR X.prog X.w X.K X.mg X.base CX k f sp) (hr : Room (k + 1) X.A) (hg : Gl X x) (hm : X.mg x = some (.ref C)) (hx : Passes CX X E) (ha : PA X (e :: es) t) (hdb : (x == ("__debug__" : Str)) = false := by decide)
    (he : starEach (e :: es) X.env = (false, eval e X.env) :: starEach es X.env := by rfl) (hst : (backTo pos (starEach es X.env)).any (·.1) = true := by rfl) : PE X (.Call (.Name x p) (e :: es) [] pos) (StX.tMakeR C sp E t) := by
  refine ⟨fun pins s σ H Q I h => ?_⟩
  refine wpAny_Call_Name_kw (ld_glob I hg hm ?_ hdb)
  refine PySem.W.callWith_S2 (h₀ := X.base) I.ok.mod.kin M.kp (thn (ha.run pos pins s σ H _ I h) fun us s1 ⟨vs, H1, I1, r, q⟩ => ⟨I1.kIn, ?_⟩) he hst
  exact StX.run_makeR M F hr hx I1 r q
theorem de_makeXS (G : CalIXV X.prog X.w X.K X.mg X.base k x C sp f) (ws : Wish X.K E0 E) (hr : Room (k + 1) X.A) (ha : DA X (e :: es) tr) (tk : L2.Takes X (WE E) := by exact L2.takes_of rfl rfl rfl rfl) (hg : Gl X x := by rfl) (hdb : (x == ("__debug__" : Str)) = false := by decide)
    (he : starEach (e :: es) X.env = (false, eval e X.env) :: starEach es X.env := by rfl) (hst : (backTo pos (starEach es X.env)).any (·.1) = true := by rfl) : DE X (.Call (.Name x p) (e :: es) [] pos) (dMakeX E0 C sp [] tr) :=
  PE.imp (pe_makeS G.mk1 G.fn hr hg G.g (L2.passes_call tk fun _ _ _ _ h => h) ha hdb he hst) fun σ H Q h => by
    rw [← makeR_eq]
    exact l_makeX (E0 := E0) (C := C) (sp := sp) (tr := tr) ws (fun _ => Reps.nil) σ H Q h
theorem de_methXV {pl : Sem Bool} (G : CalMXV X.prog X.w X.K X.mg X.base k C m sp f) (ws : Wish X.K E0 E) (hr : Room k X.A) (ho : DE X o ta) (ha : DA X (e :: es) tr) (tk : L2.Takes X (WE E) := by exact L2.takes_of rfl rfl rfl rfl)
    (hst : starEach (e :: es) X.env = (false, eval e X.env) :: starEach es X.env := by rfl) (hpl : (backTo pos (starEach es X.env)).any (·.1) = false := by rfl)
    (ht : eval (.Call (.Attribute o m apos) (e :: es) [] pos) X.env = (do
      let ov ← eval o X.env
      standAt apos.atName
      let (f, first) ← holding [ov] (getMethod ov m pl)
      callWith pos f first (backTo pos (starEach (e :: es) X.env)) (backToKw pos (keywordEach [] X.env))) := by rfl) : DE X (.Call (.Attribute o m apos) (e :: es) [] pos) (dMethX E0 C m sp [] ta tr) :=
  PE.imp (pe_methR ho G.cls G.me G.fn hr (L2.passes_call tk fun _ _ _ _ h => h) ha hst hpl ht) fun σ H Q h => by
    rw [← methR_eq]
    exact l_methX (E0 := E0) (C := C) (m := m) (sp := sp) (ta := ta) (tr := tr) ws (fun _ => Reps.nil) σ H Q h
end
end DL
namespace DL
open PySem PySem.Spec PyProof.Rows L2
/-! ### enumerate(text) -/
def IteS (x : Str) : It :=
  ⟨fun i _ => i < x.cps.size, fun i H v H' => ∃ T c, v = .ref T ∧ H T = none ∧ H' = upd H T (.tup [.int (i : Nat), .str ⟨#[c]⟩]) ∧ x.cps[i]? = some c, fun i _ => x.cps.size ≤ i⟩
theorem dl_enum_endS {prog : Program} {w : World} {A : Around} {E : Value → Shared → Prop} {s : Shared} {e it : Addr} {i : Nat} {x : Str} {t : Tok} {old : Value} {Q : Option Value → Shared → Prop} (hh : A.handled = none)
    (he : IsEnum s.heap e it i old) (hit : s.heap.IsStrIter it (strIterType x) x t i) (hx : x.cps.size ≤ i)
    (hQ : ∀ h', Heap.ExtBut it s.heap h' → Q none { s with heap := h' }) : wpAny (model prog w) A (pyNext (.ref e)) Q E s := by
  have hT : s.TypeIs (.ref e) "enumerate" := ⟨_, he, rfl⟩
  unfold pyNext
  refine wpAny_bind (wpAny_attempt (wpAny_callSpecial?_slot (name := Str.ofString "__next__") hT F.slot_enumerate_next (wpAny_call_entry F.slot_enumerate_next hT F.entry_enumerate_next ?_ (F.args_enumerate_next_1 _))))
  show wpAny _ _ (field (.ref e) 2 >>= _) _ _ _
  refine wpAny_bind (wpAny_field he rfl (x := .ref it) rfl ?_)
  have hn : x.cps[i]? = none := Array.getElem?_eq_none hx
  cases ha : x.cps.all (· < 128)
  · simp only [strIterType, ha, Bool.false_eq_true, if_false] at hit
    refine wpAny_bind (wpAny_nextOf_wide_end (A := A.in1) hh hit hn fun h' x he' hx' => ?_)
    obtain ⟨o, ho, hc⟩ := hx'
    refine wpAny_bind (wpAny_isInstance (T := "StopIteration") (b := true) ⟨o, ho, hc⟩ isSubtype_stop ?_)
    exact wpAny_pure (hQ _ he')
  · simp only [strIterType, ha, if_true] at hit
    refine wpAny_bind (wpAny_nextOf_ascii_end (A := A.in1) hh hit hn fun h' x he' hx' => ?_)
    obtain ⟨o, ho, hc⟩ := hx'
    refine wpAny_bind (wpAny_isInstance (T := "StopIteration") (b := true) ⟨o, ho, hc⟩ isSubtype_stop ?_)
    exact wpAny_pure (hQ _ he')
theorem turn_enumS {P : Program} {w : World} {K : PySem.W.Frag} {elts : List Expr} {kk : Nat} {tpos : Pos} (x : Str) (t : Tok) (e it : Addr) :
    Turn P w K (.Tuple elts kk tpos) (IteS x) [e, it] e (fun i h => (∃ old, IsEnum h e it ((i : Nat) : Int) old) ∧ h.IsStrIter it (strIterType x) x t i ∧ e ≠ it) where
  mem := by simp
  obj := fun i h st b hb => by
    obtain ⟨⟨old, he⟩, ⟨o, ho, hc, hd⟩, _⟩ := st
    have e' : b = e ∨ b = it := by simpa using hb
    rcases e' with z | z
    · rw [z]; exact ⟨_, he, fun v q => nomatch q⟩
    · rw [z]; exact ⟨o, ho, fun v q => by rw [hd] at q; cases q⟩
  keep := fun i h h' st k => by
    obtain ⟨⟨old, he⟩, ⟨o, ho, hc, hd⟩, hne⟩ := st
    exact ⟨⟨old, k e (by simp) _ he⟩, ⟨o, k it (by simp) _ ho, hc, hd⟩, hne⟩
  item := by
    intro X hP hw hK hc i pins s σ H E I hf st hg
    subst hP hw hK
    obtain ⟨⟨old, he⟩, hit, hne⟩ := st
    have hel : e < s.heap.objs.size := Heap.lt_size he
    have hil : it < s.heap.objs.size := by obtain ⟨_, q, _⟩ := hit; exact Heap.lt_size q
    refine wpAny_pyNext_enum_itemD (Draws.text (A := X.A.in1) (show X.A.in1.handled = none from I.ok.hd hc) it x t) he hit hg hne (by simp [hne]) fun x' h' tk hx' ho st' hT hsz hk => ?_
    obtain ⟨c, u, hcx, ex⟩ := hx'
    subst ex
    refine ⟨_, rfl, wpAny_letOwnedTupleGo_enum (s := { s with heap := h', toks := tk + 1 }) ho fun h'' he' sb => ?_⟩
    have hT2 : h''.get? s.heap.objs.size = some { cls := .type "tuple", data := .seq #[.int i tk, .str ⟨#[c]⟩ u] } := (sb.2 _ (Nat.ne_of_gt hel)).trans hT
    have new : ObjOk X.prog X.w (upd H s.heap.objs.size (.tup [.int (i : Nat), .str ⟨#[c]⟩])) h'' s.heap.objs.size (.tup [.int (i : Nat), .str ⟨#[c]⟩]) :=
      ⟨by show 2 ≤ sizeLine; decide, [.int i tk, .str ⟨#[c]⟩ u], .cons ⟨_, rfl⟩ (.cons ⟨_, rfl⟩ .nil), ⟨_, hT2, rfl, _, rfl⟩⟩
    have I1 : Inv X pins σ (upd H s.heap.objs.size (.tup [.int (i : Nat), .str ⟨#[c]⟩])) { s with heap := h'', toks := tk + 1 } :=
      I.turnedNew (ch := [e, it]) (fun b ob hb q => (sb.2 b (fun z => hb (by simp [z]))).trans (hk b ob (fun z => hb (by simp [z])) (fun z => hb (by simp [z])) q)) hf (Nat.le_refl _) new
    refine ⟨.ref s.heap.objs.size, _, I1, rfl, ⟨_, c, rfl, I.hok.fresh (Nat.le_refl _), rfl, hcx⟩, ⟨⟨.str ⟨#[c]⟩ u, ?_⟩, ?_, hne⟩, fun b hb => ?_⟩
    · have e1 : ((i + 1 : Nat) : Int) = (i : Int) + 1 := by omega
      rw [e1]; exact he'
    · obtain ⟨o, ho2, hc2, hd2⟩ := st'
      exact ⟨o, (sb.2 it (Ne.symm hne)).trans ho2, hc2, hd2⟩
    · have hb' : b < s.heap.objs.size := by
        have e' : b = e ∨ b = it := by simpa using hb
        rcases e' with z | z
        · rw [z]; exact hel
        · rw [z]; exact hil
      rw [upd_ne (Nat.ne_of_lt hb')]
      exact (hf b hb).1
  done := by
    intro X hP hw hK hc i pins s σ H E I hf st hg
    subst hP hw hK
    obtain ⟨⟨old, he⟩, hit, hne⟩ := st
    obtain ⟨f0, f1, f2, f3, f4, f5⟩ := hf it (by simp)
    refine dl_enum_endS (I.ok.hd hc) he hit hg fun h' eb => ⟨rfl, I.turned (t' := s.toks) (fun b o hb q => eb b o hb q) f0 f1 f3 f4 f5⟩
  self := fun A i s Q E st h => let ⟨⟨_, he⟩, _⟩ := st; wpAny_pyIter_enum he h
def iEnumS (K : PySem.W.Frag) (ta : TA) : TI := fun σ H R => ta σ H fun vs H1 => ∃ x, vs = [.str x] ∧ R (IteS x) H1
theorem pi_enumS {X : Cx} {e : Expr} {ta : TA} {p pos tpos : Pos} {elts : List Expr} {kk : Nat} (hg : Gl X "enumerate") (hm : X.mg "enumerate" = none) (ha : PA X [e] ta) (hs : starEach [e] X.env = [(false, eval e X.env)] := by rfl) :
    PI X (.Tuple elts kk tpos) (.Call (.Name "enumerate" p) [e] [] pos) (iEnumS X.K ta) := by
  refine ⟨fun pins s σ H R I h => ?_⟩
  refine Call_ (ld_blt I hg hm boot_enumerate (PyProof.Rows.callWith_type1 (thn (ha.run pos pins s σ H _ I h) fun us s1 ⟨vs, H1, I1, r1, q1⟩ => ?_) hs rfl))
  obtain ⟨x, ex, q⟩ := q1
  subst ex
  cases r1 with
  | cons r rr =>
    cases rr
    obtain ⟨t, rfl⟩ := r
    refine call_enumerate_str fun h' he hit hz hk => wpAny_pyIter_enum he ?_
    have I2 : Inv X pins σ H1 { s1 with heap := h' } := I1.kept (t' := s1.toks) hk
    refine ⟨s1.heap.objs.size + 1, [s1.heap.objs.size + 1, s1.heap.objs.size], _, _, H1, rfl, I2, turn_enumS x t (s1.heap.objs.size + 1) s1.heap.objs.size, ⟨⟨.none, he⟩, hit, Nat.succ_ne_self _⟩, fun b hb => ?_, q⟩
    have e' : b = s1.heap.objs.size + 1 ∨ b = s1.heap.objs.size := by simpa using hb
    have hle : s1.heap.objs.size ≤ b := by
      rcases e' with z | z
      · rw [z]; exact Nat.le_add_right _ _
      · rw [z]; exact Nat.le_refl _
    exact I1.fpOk hle (I1.hok.fresh hle)
theorem yl_enumS {K : PySem.W.Frag} {G : GI K} {F : Hp} {x : Str} : Yl K (IteS x) F (enumD 0 (sgs x)) (fun _ => True) where
  go := fun {F' H M i} s c k hi => by
    rw [enumD_len] at hi
    show i < x.cps.size
    simpa [sgs] using hi
  stop := fun {F' H M i} s c k hi => by
    rw [enumD_len] at hi
    show x.cps.size ≤ i
    simpa [sgs] using hi
  yld := fun {F' H H' M i v} s c k hi hy => by
    obtain ⟨T, c0, rfl, hn, rfl, hx⟩ := hy
    obtain ⟨c1, s1, f1⟩ := c.new hn (.tup [.int (i : Nat), .str ⟨#[c0]⟩])
    refine ⟨.tup [.int ((0 + i : Nat) : Int), .str ⟨#[c0]⟩], _, ?_, s1, c1, f1, ?_⟩
    · rw [enumD_get]
      unfold sgs
      rw [List.getElem?_map, Array.getElem?_toList, hx]
      rfl
    · rw [Rep]
      exact ⟨T, [.int (i : Nat), .str ⟨#[c0]⟩], rfl, .inl (.inl upd_same), Reps.cons (by rw [Rep, Nat.zero_add]) (Reps.one (by rw [Rep]))⟩
def dEnumS (tr : DTA) : DTI := fun env M R => tr env M fun ds M1 => match ds with
  | [.str x] => R (enumD 0 (sgs x)) (fun _ => True) M1
  | _ => False
section
variable {X : Cx} {GX : GI X.K} {e : Expr} {tr : DTA} {p pos tpos : Pos} {elts : List Expr} {kk : Nat}
theorem di_enumS (hm : X.mg "enumerate" = none) (ha : DA X [e] tr) (hg : Gl X "enumerate" := by rfl) (hs : starEach [e] X.env = [(false, eval e X.env)] := by rfl) : DI X (.Tuple elts kk tpos) (.Call (.Name "enumerate" p) [e] [] pos) (dEnumS tr) :=
  PI.imp (pi_enumS hg hm ha hs) fun σ H R ⟨F, env, M, R0, he, hc, ht, hp⟩ => ⟨F, env, M, _, he, hc, ht, fun ds M1 F1 H1 vs q s1 f1 c1 r1 => by
    revert q
    dsimp only
    split <;> intro q
    · obtain ⟨v, e1, e2⟩ := reps1 r1
      rw [Rep] at e2
      subst e1 e2
      exact ⟨_, rfl, hp _ _ _ _ _ _ q s1 f1 c1 yl_enumS⟩
    · exact q.elim⟩
theorem dEnumS_ap {env : DSt} {M : Mp} {R : List D → (Mp → Prop) → Mp → Prop} : dEnumS tr env M R = tr env M fun ds M1 => (match ds with
  | [.str x] => R (enumD 0 (sgs x)) (fun _ => True) M1
  | _ => False) := rfl
end
/-! ### a class's constant -/
/-- C.f is the number i -/
structure CNum (K : PySem.W.Frag) (C : Addr) (f : Str) (i : Int) : Prop where
  rd : PySem.W.readsIn K C (.type "type") = true
  ga : PySem.W.specialIn K (.ref C) "__getattribute__" = some (some (.builtin "type.__getattribute__"))
  at_ : ∃ t, PySem.W.findCls K (.ref C) (.type "type") f = some (.val (.int i t))
theorem cnum_ok {K : PySem.W.Frag} {x f : Str} {i : Int} (h : (XtF.cnum x f i).ok K = true) : CNum K (He.ga K x) f i := by
  obtain ⟨h, h3⟩ := He.ba h
  obtain ⟨h1, h2⟩ := He.ba h
  refine ⟨h1, He.eqO_ok h2, ?_⟩
  have h3 : (match PySem.W.findCls K (.ref (He.ga K x)) (.type "type") f with
    | some (.val (.int j _)) => decide (j = i)
    | _ => false) = true := h3
  split at h3
  · rename_i j t e
    rw [e, of_decide_eq_true h3]
    exact ⟨t, rfl⟩
  · cases h3
section
variable {X : Cx} {GX : GI X.K} {x f : Str} {p pos : Pos} {C : Addr} {i : Int}
theorem de_cnum (c : CNum X.K C f i) (hm : X.mg x = some (.ref C)) (hg : Gl X x := by rfl) (hd : (x == ("__debug__" : Str)) = false := by decide) (hb : attributeBase (.Name x p) f X.env (eval (.Name x p) X.env) = eval (.Name x p) X.env := by rfl) : DE X (.Attribute (.Name x p) f pos) (dC (.int i)) := by
  obtain ⟨t, ht⟩ := c.at_
  refine PE.imp (ClX.pe_cval (pe_glob (v := .ref C) hg hm rfl hd) hb) fun σ H Q ⟨F, env, M, Q0, he, hc, h, hp⟩ => ?_
  exact ⟨C, .type "type", .int i, _, rfl, ⟨c.rd, c.ga⟩, ⟨ht, ⟨_, rfl⟩⟩, hp _ M F H _ h (Same.refl F) Fr.refl hc (by rw [Rep])⟩
end
end DL
namespace DL
open PySem PySem.Spec PyProof.Rows L2
/-! ### a, b, .. = a list -/
section
variable {prog : Program} {w : World} {A : Around} {E : Value → Shared → Prop}
theorem dl_draw_list {it l : Addr} {items : Array Value} (hne : l ≠ it) : ∀ (n i : Nat) (s : Shared) (Q : List Value → Shared → Prop), s.heap.IsListIter it l i → s.heap.IsList l items → i + n ≤ items.size →
    (∀ h', h'.IsListIter it l (i + n) → Heap.SameBut it s.heap h' → Q ((items.toList.drop i).take n) { s with heap := h' }) → wpAny (model prog w) A (draw (.ref it) n) Q E s
  | 0, i, s, Q, hit, _, _, hQ => wpAny_pure (by simpa using hQ s.heap hit (Heap.SameBut.refl ..))
  | n + 1, i, s, Q, hit, hl, hle, hQ => by
    have hlt : i < items.size := by omega
    unfold draw
    refine wpAny_bind (wpAny_pyNext_list_item hit hl (x := items[i]) (by simp [hlt]) fun h1 hit1 hs1 => ?_)
    refine wpAny_bind (wpAny_holding (dl_draw_list hne n (i + 1) _ _ hit1 (hl.extBut hs1.extBut hne) (by omega) fun h2 hit2 hs2 => wpAny_pure ?_))
    have hd : items.toList.drop i = items[i] :: items.toList.drop (i + 1) := by simp [List.drop_eq_getElem_cons, hlt]
    have z := hQ h2 (by rw [show i + (n + 1) = i + 1 + n by omega]; exact hit2) (hs1.trans hs2)
    rw [hd, List.take_succ_cons] at z
    exact z
theorem dl_unpack_list {l : Addr} {items : Array Value} {s : Shared} {targets : List (Bool × (Value → Sem Unit))} {Q : Unit → Shared → Prop} (hh : A.handled = none) (hl : s.heap.IsList l items) (hn : targets.length = items.size) (hst : targets.findIdx? (·.1) = none)
    (h : ∀ h', Heap.ExtBut s.heap.objs.size s.heap h' → wpAny (model prog w) A (assignInOrder (targets.map (·.2)) items.toList) Q E { s with heap := h' }) : wpAny (model prog w) A (unpack (.ref l) targets) Q E s := by
  have hlt : l ≠ s.heap.objs.size := by obtain ⟨o, ho, _⟩ := hl; exact Nat.ne_of_lt (Heap.lt_size ho)
  have hT : s.TypeIs (.ref l) "list" := by obtain ⟨o, ho, hc, _⟩ := hl; exact ⟨o, ho, hc⟩
  unfold unpack
  rw [hn, hst]
  refine wpAny_bind (wpAny_holding ?_)
  unfold unpackItems notIterableAtAll
  refine wpAny_bind (wpAny_bind (wpAny_specialOf hT PySem.F.slot_list_iter.lookup (wpAny_pure ?_)))
  simp only [Bool.false_eq_true, if_false]
  refine wpAny_bind (wpAny_holding (wpAny_pyIter_list hl ?_))
  refine wpAny_bind (wpAny_holding (dl_draw_list hlt items.size 0 _ _ ⟨_, Heap.get?_push_size _ rfl, rfl, rfl⟩ (hl.push _) (by omega) fun h1 hit1 hs1 => ?_))
  rw [List.drop_zero, List.take_of_length_le (by simp), if_neg (by simp)]
  have hl1 : h1.IsList l items := (hl.push _).extBut hs1.extBut hlt
  refine wpAny_bind (wpAny_holding (wpAny_pyNext_list_end hh hit1 hl1 (by simp) fun h2 he2 => ?_))
  simp only [Option.isSome_none, Bool.false_eq_true, if_false]
  exact wpAny_pure (h h2 fun b o hb e => he2 b o hb (hs1.extBut b o hb (Heap.get?_push_of_some _ e)))
end
def gTupL (K : PySem.W.Frag) (n : Nat) (t : TGs) : TG := fun v σ H Q => ∃ a xs, v = .ref a ∧ SqL K H a xs ∧ xs.length = n ∧ t xs σ H Q
section
variable {X : Cx} {es : List Expr} {pos : Pos}
theorem pg_tupL {k : Nat} {t : TGs} {n : Nat} (hc : X.calm = true) (h : PGs X es t) (hn : (assignEach es X.env).length = n := by rfl) (hst : (assignEach es X.env).findIdx? (·.1) = none := by rfl) : PG X (.Tuple es k pos) (gTupL X.K n t) := by
  refine ⟨fun pins s σ H v u Q I r hw => ?_⟩
  obtain ⟨a, xs, e1, hq, hl, hw⟩ := hw
  subst e1
  cases r
  obtain ⟨its, rv, pl, hz⟩ := I.list hq
  rw [assign_Tuple]
  refine wpAny_bind (wpAny_standAt (dl_unpack_list (I.ok.hd hc) pl.isList (by simp [hn, ← hl, rv.length]) hst fun h' hx => ?_))
  have I1 : Inv X pins σ H { s with heap := h' } := I.kept (t' := s.toks) fun b o e => hx b o (Nat.ne_of_lt (Heap.lt_size e)) e
  exact h.run pins _ σ H xs _ Q I1 (by simpa using rv) hw
variable {GX : GI X.K}
def dgTupL (n : Nat) (t : DTGs) : DTG := fun d env M Q => ∃ ds, lstOf M d = some ds ∧ ds.length = n ∧ t ds env M Q
theorem dg_tupL {k : Nat} {t : DTGs} {n : Nat} (hc : X.calm = true) (h : DGs X es t) (hn : (assignEach es X.env).length = n := by rfl) (hst : (assignEach es X.env).findIdx? (·.1) = none := by rfl) : DG X (.Tuple es k pos) (dgTupL n t) :=
  PG.imp (pg_tupL hc h hn hst) fun v σ H Q ⟨F, env, M, d, Q0, he, hc, r, ht, hp⟩ => by
    obtain ⟨ds, hd, hl, q⟩ := ht
    obtain ⟨a, vs, e1, e2, e3⟩ := lstOf_ok hc r hd
    exact ⟨a, vs, e1, e2, by rw [e3.len]; exact hl, F, env, M, ds, Q0, he, hc, e3, q, hp⟩
end
/-! ### a list of the frame is frozen between two statements -/
/-- the list in slot i is taken as a value from here on -/
def dFz (i : Nat) (t : DTS) : DTS := fun E env M => ∃ a ds, env[i]? = some (some (.ptr a)) ∧ M a = some (.lst ds) ∧ t E (env.set i (some (.lst ds))) (rm M a)
theorem dss_fz {X : Cx} {GX : GI X.K} {body : List Stmt} {t : DTS} (i : Nat) (h : DSs X body t) : DSs X body (dFz i t) :=
  PSs.imp h fun E σ H ⟨F, env, M, D0, he, hc, ⟨a, ds, e1, e2, ht⟩, hp⟩ => by
    obtain ⟨o, r1, c1, s1, f1⟩ := hc.freeze e2
    obtain ⟨vs, e3, e4⟩ := r1
    subst e3
    refine ⟨_, env.set i (some (.lst ds)), rm M a, D0, ?_, c1, ht, hp.after s1 f1⟩
    obtain ⟨v, g1, g2⟩ := he.2 i _ e1
    rw [Rep] at g2
    subst g2
    have := (he.mono s1).set (d := .lst ds) (v := .ref a) i (by rw [Rep]; exact ⟨a, vs, rfl, upd_same, e4.mono s1⟩)
    rw [show σ.set i (some (V.ref a)) = σ from by
      apply List.ext_getElem?
      intro j
      rw [List.getElem?_set]
      by_cases hj : i = j
      · subst hj
        rw [if_pos rfl, g1]
        split
        · rfl
        · rename_i hlt
          rw [List.getElem?_eq_none (by omega)] at g1
          cases g1
      · rw [if_neg hj]] at this
    exact this
theorem dFz_ap {i : Nat} {t : DTS} {E : DEnds} {env : DSt} {M : Mp} : dFz i t E env M = ∃ a ds, env[i]? = some (some (.ptr a)) ∧ M a = some (.lst ds) ∧ t E (env.set i (some (.lst ds))) (rm M a) := rfl
theorem dgTupL_ap {n : Nat} {t : DTGs} {d : D} {env : DSt} {M : Mp} {R : DSt → Mp → Prop} : dgTupL n t d env M R = ∃ ds, lstOf M d = some ds ∧ ds.length = n ∧ t ds env M R := rfl
theorem rm_ne {M : Mp} {a b : Addr} (h : b ≠ a) : rm M a b = M b := by simp [rm, h]
end DL
namespace PRE
open PySem PySem.Spec PyProof.Rows L2 DL
/-! ### the mathematics of words -/
def loC (c : Nat) : Nat := if 65 ≤ c ∧ c ≤ 90 then c + 32 else c
def upC (c : Nat) : Nat := if 97 ≤ c ∧ c ≤ 122 then c - 32 else c
def isLo (c : Nat) : Bool := decide (97 ≤ c ∧ c ≤ 122)
def swC (c : Nat) : Nat := if isLo c = true then upC c else loC c
theorem lo1 {c : Nat} (h : c < 128) : Txt.lower ⟨#[c]⟩ = ⟨#[loC c]⟩ := by
  have : ∀ c < 128, Txt.lower ⟨#[c]⟩ = ⟨#[loC c]⟩ := by decide +kernel
  exact this c h
theorem up1 {c : Nat} (h : c < 128) : Txt.upper ⟨#[c]⟩ = ⟨#[upC c]⟩ := by
  have : ∀ c < 128, Txt.upper ⟨#[c]⟩ = ⟨#[upC c]⟩ := by decide +kernel
  exact this c h
theorem lower_in {c : Nat} : strIn ⟨#[c]⟩ "abcdefghijklmnopqrstuvwxyz" = isLo c := by
  rw [strIn_sign]
  unfold isLo
  have e : (Str.ofString "abcdefghijklmnopqrstuvwxyz").cps.toList = [97,98,99,100,101,102,103,104,105,106,107,108,109,110,111,112,113,114,115,116,117,118,119,120,121,122] := by decide +kernel
  rw [e, decide_eq_decide]
  simp only [List.mem_cons, List.not_mem_nil, or_false]
  omega
theorem line {n : Nat} (h : n ≤ 1000000) : n ≤ sizeLine := by rw [sizeLine_eq]; omega
theorem lineT {n : Nat} (h : n ≤ 1000000) : n < sizeLine := by rw [sizeLine_eq]; omega
theorem len1 (c : Nat) : (⟨#[c]⟩ : Str).length ≤ 5592405 := by show 1 ≤ 5592405; decide
/-- a text by its codes -/
def T (l : List Nat) : Str := ⟨l.toArray⟩
theorem T_cps (l : List Nat) : (T l).cps.toList = l := by simp [T]
theorem T_of (z : Str) : T z.cps.toList = z := by cases z; simp [T]
theorem T_len (l : List Nat) : (T l).length = l.length := by simp [T, Str.length]
theorem T_one (c : Nat) : (⟨#[c]⟩ : Str) = T [c] := rfl
theorem T_app (l m : List Nat) : T l ++ T m = T (l ++ m) := by
  show Str.append (T l) (T m) = T (l ++ m)
  simp [Str.append, T]
theorem T_inj {l m : List Nat} : T l = T m ↔ l = m := ⟨fun e => by rw [← T_cps l, e, T_cps], fun e => by rw [e]⟩
theorem T_beq (l m : List Nat) : (T l == T m) = decide (l = m) := by
  by_cases h : l = m
  · subst h; simp
  · rw [decide_eq_false h]
    exact beq_eq_false_iff_ne.mpr fun e => h (T_inj.mp e)
theorem sgs_T (l : List Nat) : sgs (T l) = l.map fun c => D.str ⟨#[c]⟩ := by unfold sgs; rw [T_cps]
theorem srev_T (l : List Nat) : srev (T l) = T l.reverse := by unfold srev; rw [T_cps]; rfl
theorem join_cps (x : Str) (ys : List Str) : Txt.join x ys = Str.join x ys := by
  exact PySem.StrLaws.glued_eq_join x ys
theorem join_T : ∀ ls : List (List Nat), Txt.join "" (ls.map T) = T ls.flatten
  | [] => by rw [join_cps]; rfl
  | [l] => by rw [join_cps]; show T l = _; simp
  | l :: m :: r => by
    have ih := join_T (m :: r)
    rw [join_cps] at ih ⊢
    show T l ++ "" ++ Str.join "" ((m :: r).map T) = T (l :: m :: r).flatten
    rw [ih]
    have e : (Str.ofString "") = T [] := by decide +kernel
    rw [e, T_app, T_app]
    simp
theorem join_signs (l : List Nat) : Txt.join "" (l.map fun c => (⟨#[c]⟩ : Str)) = T l := by
  have := join_T (l.map fun c => [c])
  rw [List.map_map] at this
  have key : ∀ m : List Nat, (m.map fun c => [c]).flatten = m := by
    intro m
    induction m with
    | nil => rfl
    | cons c r ih => rw [List.map_cons, List.flatten_cons, ih]; rfl
  have e := key l
  rw [e] at this
  exact this
theorem one_sum (l : List Nat) : ((l.map fun c => (⟨#[c]⟩ : Str)).map (·.length)).sum = l.length := by
  rw [List.map_map]
  induction l with
  | nil => rfl
  | cons c r ih => rw [List.map_cons, List.sum_cons, ih]; show 1 + r.length = r.length + 1; omega
theorem strOk_T {l : List Nat} (h : ∀ c ∈ l, c < 1114112) : PyData.strOk (T l) = true := by
  unfold PyData.strOk T
  simpa using h
local macro_rules | `(tactic| walk_at "dl") => `(tactic| simp only [exists_eq', exists_eq, List.take_nil, List.take_succ_cons, List.take_zero, decide_false, decide_true, dFld_ap, dSetF_ap, dAugF_ap, dMeth_ap, dMake_ap, dProp_ap, insOf_p, insOf_o, dNever_ap, bodyE_rt, bodyE_nx, dVar_ap, dC_ap, dOp_ap, dTB_ap, dTru_ap, dAnd_ap, dOr_ap, dNot_ap, dNotV_ap, dAndV_ap, dOrV_ap, dIf_ap, dIsN_ap, dNext_ap, dSeq_ap, dBreak_ap, dCont_ap, dDrop_ap, dRet_ap, dRetN_ap, dIfS_ap, dgName_ap, dgNil_ap, dgCons_ap, dgTup_ap, dgSub_ap, dAsg_ap, dPar_ap, dAug_ap, dNil_ap, dCons_ap, dTup_ap, dLst_ap, dLstM_ap, dCB_ap, dBM_ap, dBM0_ap, dCall_ap, dCallK_ap, dRev_s, dSl_ap, dPart_ap, dUn_ap, dChain_ap, dIsi_ap, dIsi2_ap, dIter_ap, dIterT_ap, dIterS_ap, dRng1_ap, dRng2_ap, rMulX_ii, rMulX_si, dFmt_ap, fmtD_s, fmtD_i, dJoined_ap, dJs_nil, dJs_cons, jStep_s, dCallK_ap, dNil_ap, rAdd_ii, rAdd_ss, rAdd_tt, rAdd_ll, rSub_ii, rInt2_ii, rNeg_i, rOrd_ii, rOrd_ss, rIadd_ii, rIadd_ss, rEqW_ii, rEqW_ss, rEqW_bb, rIn_ss, rIxD_l, rIxD_x, rIxD_t, rIxD_s, rIxD_p, lstOf_p, lstOf_l, lstOf_x, rSlD_s, rSlD_t, rSlD_l, rSlD_x, rLen_s, rLen_t, rLen_l, rLen_x, rLen_p, rAbs_i, rInt_i, rInt_b, rToListA_t, rToListA_l, rToListA_s, rToListM_t, rToListM_l, rToTup_t, rToTup_l, rToTup_p, rSum_ap, rAll_ap, rAny_ap, rStrN_i, rMax2_ii, rMin2_ii, rS0_ap, rS1_ap, tyD_s, tyD_p, tyD_l, rJoin_l, rJoin_p, rAppend_p, rPop_p, startD, wipeD, List.map_cons, List.map_nil, List.cons_append, List.nil_append, List.append_nil, List.length_cons, List.length_nil, List.getElem?_cons_zero, List.getElem?_cons_succ, List.set_cons_zero, List.set_cons_succ, List.replicate, Nat.reduceAdd, Nat.reduceSub, Nat.sub_zero, up_same, up_up, Bool.false_xor, Bool.true_xor, Bool.not_true, Bool.not_false, if_true, if_false, Bool.false_eq_true, and_true, true_and, ite_true, ite_false, reduceIte, reduceCtorEq, Option.some.injEq, exists_eq_left', exists_eq_left])
local macro_rules | `(tactic| walk_at "dlh") => `(tactic| simp only [exists_eq', exists_eq, List.take_nil, List.take_succ_cons, List.take_zero, decide_false, decide_true, dFld_ap, dSetF_ap, dAugF_ap, dMeth_ap, dMake_ap, dProp_ap, insOf_p, insOf_o, dNever_ap, bodyE_rt, bodyE_nx, dVar_ap, dC_ap, dOp_ap, dTB_ap, dTru_ap, dAnd_ap, dOr_ap, dNot_ap, dNotV_ap, dAndV_ap, dOrV_ap, dIf_ap, dIsN_ap, dNext_ap, dSeq_ap, dBreak_ap, dCont_ap, dDrop_ap, dRet_ap, dRetN_ap, dIfS_ap, dgName_ap, dgNil_ap, dgCons_ap, dgTup_ap, dgSub_ap, dAsg_ap, dPar_ap, dAug_ap, dNil_ap, dCons_ap, dTup_ap, dLst_ap, dLstM_ap, dCB_ap, dBM_ap, dBM0_ap, dCall_ap, dCallK_ap, dRev_s, dSl_ap, dPart_ap, dUn_ap, dChain_ap, dIsi_ap, dIsi2_ap, dIter_ap, dIterT_ap, dIterS_ap, dRng1_ap, dRng2_ap, rMulX_ii, rMulX_si, dFmt_ap, fmtD_s, fmtD_i, dJoined_ap, dJs_nil, dJs_cons, jStep_s, dCallK_ap, dNil_ap, rAdd_ii, rAdd_ss, rAdd_tt, rAdd_ll, rSub_ii, rInt2_ii, rNeg_i, rOrd_ii, rOrd_ss, rIadd_ii, rIadd_ss, rEqW_ii, rEqW_ss, rEqW_bb, rIn_ss, rIxD_l, rIxD_x, rIxD_t, rIxD_s, rIxD_p, lstOf_p, lstOf_l, lstOf_x, rSlD_s, rSlD_t, rSlD_l, rSlD_x, rLen_s, rLen_t, rLen_l, rLen_x, rLen_p, rAbs_i, rInt_i, rInt_b, rToListA_t, rToListA_l, rToListA_s, rToListM_t, rToListM_l, rToTup_t, rToTup_l, rToTup_p, rSum_ap, rAll_ap, rAny_ap, rStrN_i, rMax2_ii, rMin2_ii, rS0_ap, rS1_ap, tyD_s, tyD_p, tyD_l, rJoin_l, rJoin_p, rAppend_p, rPop_p, startD, wipeD, List.map_cons, List.map_nil, List.cons_append, List.nil_append, List.append_nil, List.length_cons, List.length_nil, List.getElem?_cons_zero, List.getElem?_cons_succ, List.set_cons_zero, List.set_cons_succ, List.replicate, Nat.reduceAdd, Nat.reduceSub, Nat.sub_zero, up_same, up_up, Bool.false_xor, Bool.true_xor, Bool.not_true, Bool.not_false, if_true, if_false, Bool.false_eq_true, and_true, true_and, ite_true, ite_false, reduceIte, reduceCtorEq, Option.some.injEq, exists_eq_left', exists_eq_left, *])
local macro_rules | `(tactic| walk_at "len") => `(tactic| (intro ds M Q E h; first | (obtain ⟨_, h1, _⟩ := h; subst h1; rfl) | (obtain ⟨_, _, h1, _⟩ := h; subst h1; rfl) | (obtain ⟨_, _, _, h1, _⟩ := h; subst h1; rfl) | (obtain ⟨_, _, _, _, h1, _⟩ := h; subst h1; rfl) | (obtain ⟨_, _, _, _, _, h1, _⟩ := h; subst h1; rfl) | (obtain ⟨_, _, _, _, _, _, h1, _⟩ := h; subst h1; rfl) | (obtain ⟨_, _, _, _, _, _, _, h1, _⟩ := h; subst h1; rfl) | (obtain ⟨_, _, _, _, _, _, _, _, h1, _⟩ := h; subst h1; rfl) | (obtain ⟨_, _, _, _, _, _, _, _, _, h1, _⟩ := h; subst h1; rfl)))
local macro_rules | `(tactic| walk_at "ln") => `(tactic| (simp only [List.length_cons, List.length_nil, List.length_map, List.length_append, List.length_take, List.length_drop, List.length_reverse, T_len]; omega))
/-! ### the promises -/
abbrev sp_swapped : DSp := fun ds M Q _ => ∃ c : Nat, ds = [.str ⟨#[c]⟩] ∧ c < 128 ∧ Q (.str ⟨#[swC c]⟩) M
/-- the law's box: marks, place, a great number, a seed -/
def BoxOk (mo : MO) : Prop := ∃ (ms : List Int) (i g s : Int), mo = .lst [.lst (ms.map D.int), .int i, .int g, .int s] ∧ ms.length ≤ 63 ∧ 0 ≤ i ∧ 0 ≤ g ∧ 0 ≤ s ∧ s < 2147483647
abbrev sp__law_begin : DSp := fun ds M Q _ => ∃ ms : List Int, ds = [.lsx (ms.map D.int)] ∧ ms.length ≤ 63 ∧ ∀ a mo, M a = none → BoxOk mo → Q (.ptr a) (up M a mo)
abbrev sp__law_draw : DSp := fun ds M Q _ => ∃ (a : Addr) (n : Int) (mo : MO), ds = [.ptr a, .int n] ∧ 1 ≤ n ∧ n < 2 ^ 200 ∧ M a = some mo ∧ BoxOk mo ∧ ∀ r mo', 0 ≤ r → r < n → BoxOk mo' → Q (.int r) (up M a mo')
abbrev sp__law_any : DSp := fun ds M Q _ => ∃ (a : Addr) (xs : List D) (mo : MO), ds = [.ptr a, .lst xs] ∧ 1 ≤ xs.length ∧ xs.length ≤ 1000000 ∧ M a = some mo ∧ BoxOk mo ∧ ∀ d mo', d ∈ xs → BoxOk mo' → Q d (up M a mo')
abbrev sp_opposite : DSp := fun ds M Q _ => ∃ l : List Nat, ds = [.str (T l)] ∧ (∀ x ∈ l, x < 128) ∧ l.length ≤ 10000 ∧ Q (.str (T (l.reverse.map swC))) M
def abm : List Nat := [97, 98, 109, 116, 120, 121, 122]
def Lets (l : List Nat) : Prop := l.Nodup ∧ ∀ c ∈ l, c ∈ abm
theorem Lets.isLo {l : List Nat} (h : Lets l) : ∀ c ∈ l, isLo c = true := fun c hc => by
  have : ∀ c ∈ abm, PRE.isLo c = true := by decide
  exact this c (h.2 c hc)
/-- a letter and its opposite, one behind the other -/
def sgn (l : List Nat) : List Nat := l.flatMap fun c => [c, c - 32]
abbrev sp__law_letters : DSp := fun ds M Q _ => ∃ (a : Addr) (n : Nat) (mo : MO), ds = [.ptr a, .int n] ∧ n ≤ 7 ∧ M a = some mo ∧ BoxOk mo ∧ ∀ l mo', Lets l → l.length = n → BoxOk mo' → Q (.str (T l)) (up M a mo')
abbrev sp__law_signs : DSp := fun ds M Q _ => ∃ l : List Nat, ds = [.str (T l)] ∧ (∀ c ∈ l, isLo c = true) ∧ l.length ≤ 100 ∧ Q (.str (T (sgn l))) M
abbrev sp__law_some_word : DSp := fun ds M Q _ => ∃ (a : Addr) (l : List Nat) (m : Nat) (mo : MO), ds = [.ptr a, .str (T l), .int m] ∧ (∀ c ∈ l, isLo c = true) ∧ 1 ≤ l.length ∧ l.length ≤ 100 ∧ m ≤ 10000 ∧ M a = some mo ∧ BoxOk mo ∧ ∀ w mo', w.length ≤ m → (∀ c ∈ w, c ∈ sgn l) → BoxOk mo' → Q (.str (T w)) (up M a mo')
def t_swapped : DTS :=
  (dRet (dIf (dTB (dOp (rInD false) (dVar 0) (dC (.str "abcdefghijklmnopqrstuvwxyz")))) (dBM0 "str" rUpper (dVar 0)) (dBM0 "str" rLower (dVar 0))))
def t_opposite : DTS :=
  (dRet (dBM "str" rJoin (dC (.str "")) (dCons (dLc (dIterS (dRev (dVar 0))) (dgName 1) dYes (dCall sp_swapped (dCons (dVar 1) dNil)) [1]) dNil)))
def t__law_begin : DTS :=
  (dSeq (dAsg (dLc (dIter (dSl (dVar 0) (fun _ M Q => Q none M) (dPart (dC (.int 63))))) (dgName 3) dYes (dCB rInt (dCons (dVar 3) dNil)) [3]) (dgName 1))
  (dSeq (dAsg (dOp rAdd (dC (.int 3830)) (dOp rMulX (dC (.int 71)) (dCB rLen (dCons (dVar 1) dNil)))) (dgName 2))
  (dSeq (dFor (dIter (dVar 1)) (dgName 3) (dAsg (dOp rMod (dOp rAdd (dOp rAdd (dOp rMulX (dVar 2) (dC (.int 45061))) (dOp rMod (dCB rInt (dCons (dVar 3) dNil)) (dC (.int 2147483579)))) (dC (.int 31))) (dC (.int 2147483647))) (dgName 2)))
  (dRet (dLstM (dCons (dVar 1) (dCons (dC (.int 0)) (dCons (dC (.int 0)) (dCons (dVar 2) dNil)))))))))
def t__law_draw : DTS :=
  (dSeq (dIfS (dAnd (dTB (dOp (rEqW false) (dOp rIxD (dVar 0) (dC (.int 2))) (dC (.int 0)))) (dTB (dOp rLt (dOp rIxD (dVar 0) (dC (.int 1))) (dCB rLen (dCons (dOp rIxD (dVar 0) (dC (.int 0))) dNil))))) (dSeq (dAsg (dOp rIxD (dOp rIxD (dVar 0) (dC (.int 0))) (dOp rIxD (dVar 0) (dC (.int 1)))) (dgName 2))
  (dSeq (dAsg (dOp rAdd (dOp rIxD (dVar 0) (dC (.int 1))) (dC (.int 1))) (dgSub (dVar 0) (dC (.int 1))))
  (dIfS (dTB (dOp rGe (dVar 2) (dOp rPow (dC (.int 10)) (dC (.int 18))))) (dAsg (dVar 2) (dgSub (dVar 0) (dC (.int 2)))) (dAsg (dOp rMod (dOp rAdd (dOp rAdd (dOp rMulX (dOp rIxD (dVar 0) (dC (.int 3))) (dC (.int 40009))) (dOp rMulX (dOp rMod (dCB rInt (dCons (dVar 2) dNil)) (dC (.int 2147483587))) (dC (.int 7919)))) (dC (.int 13))) (dC (.int 2147483647))) (dgSub (dVar 0) (dC (.int 3))))))) dNext)
  (dSeq (dIfS (dTB (dOp rGt (dOp rIxD (dVar 0) (dC (.int 2))) (dC (.int 0)))) (dSeq (dAsg (dOp rMod (dCB rInt (dCons (dOp rIxD (dVar 0) (dC (.int 2))) dNil)) (dVar 1)) (dgName 3))
  (dSeq (dAsg (dOp rFdiv (dOp rIxD (dVar 0) (dC (.int 2))) (dVar 1)) (dgSub (dVar 0) (dC (.int 2))))
  (dRet (dVar 3)))) dNext)
  (dSeq (dAsg (dOp rIxD (dVar 0) (dC (.int 3))) (dgName 4))
  (dSeq (dAsg (dOp rMod (dOp rAdd (dOp rAdd (dOp rMulX (dVar 4) (dVar 4)) (dOp rMulX (dVar 4) (dC (.int 61001)))) (dC (.int 911))) (dC (.int 2147483647))) (dgSub (dVar 0) (dC (.int 3))))
  (dRet (dOp rMod (dOp rAdd (dOp rFdiv (dOp rIxD (dVar 0) (dC (.int 3))) (dC (.int 89))) (dOp rMulX (dOp rMod (dCB rInt (dCons (dOp rIxD (dVar 0) (dC (.int 3))) dNil)) (dC (.int 7907))) (dC (.int 59)))) (dVar 1)))))))
def t__law_any : DTS :=
  (dRet (dOp rIxD (dVar 1) (dCall sp__law_draw (dCons (dVar 0) (dCons (dCB rLen (dCons (dVar 1) dNil)) dNil)))))
def t__law_letters : DTS :=
  (dSeq (dAsg (dC (.str "")) (dgName 2))
  (dSeq (dFor (dRng1 (dCons (dVar 1) dNil)) (dgName 3) (dSeq (dAsg (dLc (dIterS (dC (.str "abmtxyz"))) (dgName 5) (dTB (dOp (rInD true) (dVar 5) (dVar 2))) (dVar 5) [5]) (dgName 4))
  (dAsg (dOp rAdd (dVar 2) (dCall sp__law_any (dCons (dVar 0) (dCons (dVar 4) dNil)))) (dgName 2))))
  (dRet (dVar 2))))
def t__law_signs : DTS :=
  (dRet (dBM "str" rJoin (dC (.str "")) (dCons (dLc (dIterS (dVar 0)) (dgName 1) dYes (dOp rAdd (dVar 1) (dBM0 "str" rUpper (dVar 1))) [1]) dNil)))
def t__law_some_word : DTS :=
  (dSeq (dAsg (dCall sp__law_signs (dCons (dVar 1) dNil)) (dgName 3))
  (dRet (dBM "str" rJoin (dC (.str "")) (dCons (dLc (dRng1 (dCons (dCall sp__law_draw (dCons (dVar 0) (dCons (dOp rAdd (dVar 2) (dC (.int 1))) dNil))) dNil)) (dgName 4) dYes (dCall sp__law_any (dCons (dVar 0) (dCons (dCB rToListA (dCons (dVar 3) dNil)) dNil))) [4]) dNil))))
def t__law_same (r__law_same : DSp) : DTS :=
  (dSeq (dIfS (dTru (dIsi2 "list" "tuple" (dVar 1))) (dSeq (dIfS (dOr (dTB (dOp (rEqW true) (dIsi "list" (dVar 0)) (dIsi "list" (dVar 1)))) (dTB (dOp (rEqW true) (dIsi "tuple" (dVar 0)) (dIsi "tuple" (dVar 1))))) (dRet (dC (.bl false))) dNext)
  (dRet (dAndV (dOp (rEqW false) (dCB rLen (dCons (dVar 0) dNil)) (dCB rLen (dCons (dVar 1) dNil))) (dCB rAll (dCons (dLc (dRng1 (dCons (dCB rLen (dCons (dVar 1) dNil)) dNil)) (dgName 2) dYes (dCall r__law_same (dCons (dOp rIxD (dVar 0) (dVar 2)) (dCons (dOp rIxD (dVar 1) (dVar 2)) dNil))) [2]) dNil))))) dNext)
  (dSeq (dIfS (dOr (dTB (dIsN false (dVar 1))) (dTB (dIsN false (dVar 0)))) (dRet (dAndV (dIsN false (dVar 0)) (dIsN false (dVar 1)))) dNext)
  (dSeq (dIfS (dOr (dTB (dOp (rEqW true) (dIsi "bool" (dVar 1)) (dIsi "bool" (dVar 0)))) (dTB (dOp (rEqW true) (dIsi "int" (dVar 1)) (dIsi "int" (dVar 0))))) (dRet (dC (.bl false))) dNext)
  (dRet (dAndV (dOp (rEqW false) (dIsi "str" (dVar 1)) (dIsi "str" (dVar 0))) (dOp (rEqW false) (dVar 0) (dVar 1)))))))
theorem rd_swapped {K : PySem.W.Frag} : ∀ ds M Q E0, sp_swapped ds M Q E0 → t_swapped (bodyE K Q) (startD ["character"] ds) M := by
  rintro ds M Q E0 ⟨c, rfl, hc, q⟩
  unfold t_swapped
  walk_at "dl"
  rw [lower_in, lo1 hc, up1 hc]
  refine ite2 (fun e => ⟨len1 c, Fin.same ?_⟩) (fun e => ⟨len1 c, Fin.same ?_⟩)
  · rw [show upC c = swC c by simp [swC, e]]; exact q
  · rw [show loC c = swC c by simp [swC, e]]; exact q
theorem fmod_pos {a b : Int} (h : 0 < b) : 0 ≤ a.fmod b ∧ a.fmod b < b := by
  rw [Int.fmod_eq_emod_of_nonneg a (by omega)]
  exact ⟨Int.emod_nonneg a (by omega), Int.emod_lt_of_pos a h⟩
theorem cmulS {i j : Int} (h : -(2 ^ 64) < i ∧ i < 2 ^ 64) : CMulA i j := .inl (.inl h)
theorem cmulR {i j : Int} (h : -(2 ^ 64) < j ∧ j < 2 ^ 64) : CMulA i j := .inl (.inr h)
theorem cdiv {i j : Int} (h : 0 < j) (h2 : j < 2 ^ 200) : CDivA i j := .inr (wide_div (b := 200) h (by omega) (by decide) (by decide))
theorem rd__law_begin {K : PySem.W.Frag} : ∀ ds M Q E0, sp__law_begin ds M Q E0 → t__law_begin (bodyE K Q) (startD ["_law_script", "_law_marks", "_law_seed", "_law_cell"] ds) M := by
  rintro ds M Q E0 ⟨ms, rfl, hz, q⟩
  unfold t__law_begin
  walk_at "dl"
  have cut : DL.cutD (ms.map D.int) none (some 63) = ms.map D.int := by
    unfold DL.cutD
    rw [HT.sIx_none, show HT.sIx (ms.map D.int).length (ms.map D.int).length (some 63) = min 63 (ms.map D.int).length from HT.sIx_nat _ _ 63]
    rw [List.drop_zero, List.take_of_length_le (by rw [List.length_map]; omega)]
  refine lc_m (M1 := M) (kp := fun _ => True) ms D.int D.int (fun R h => ?_) True.intro (line (by omega)) (fun c hc R h => ?_) ?_
  · walk_at "dl"
    rw [cut]
    exact h
  · walk_at "dl"
    exact h
  · walk_at "dl"
    refine ⟨cmulS (by decide), ?_⟩
    refine for_pre (M1 := M) (kp := fun _ => True) ms D.int (fun _ env M' => M' = M ∧ ∃ (s : Int) (d : Option D), 0 ≤ s ∧ s < 2147483647 ∧ env = [some (.lsx (ms.map D.int)), some (.lst (ms.map D.int)), some (.int s), d]) (fun R h => ?_) ?_ (fun _ _ _ _ => True.intro) ?_ ?_
    · walk_at "dl"
      exact h
    · refine ⟨rfl, _, _, ?_, ?_, rfl⟩ <;> simp only [List.length_map] <;> omega
    · rintro pre x post env M' e ⟨rfl, s, d, h0, h1, rfl⟩
      walk_at "dl"
      refine ⟨cmulS (by omega), by decide, by decide, _, _, ?_, ?_, rfl⟩
      · exact (fmod_pos (by decide)).1
      · exact (fmod_pos (a := s * 45061 + x.fmod 2147483579 + 31) (b := 2147483647) (by decide)).2
    · rintro env M' ⟨rfl, s, d, h0, h1, rfl⟩
      walk_at "dl"
      exact ⟨line (by decide), fun p hp => Fin.same (q p _ hp ⟨ms, 0, 0, s, rfl, hz, by decide, by decide, h0, h1⟩)⟩
theorem atI4_0 {a b c d : D} : atI [a, b, c, d] 0 = some a := rfl
theorem atI4_1 {a b c d : D} : atI [a, b, c, d] 1 = some b := rfl
theorem atI4_2 {a b c d : D} : atI [a, b, c, d] 2 = some c := rfl
theorem atI4_3 {a b c d : D} : atI [a, b, c, d] 3 = some d := rfl
theorem set4_1 {a b c d e : D} : ([a, b, c, d] : List D).set 1 e = [a, e, c, d] := rfl
theorem set4_2 {a b c d e : D} : ([a, b, c, d] : List D).set 2 e = [a, b, e, d] := rfl
theorem set4_3 {a b c d e : D} : ([a, b, c, d] : List D).set 3 e = [a, b, c, e] := rfl
theorem draw_tail {K : PySem.W.Frag} {Q : DQ} {M : Mp} {a : Addr} {n : Int} {ms : List Int} (hn : 1 ≤ n) (hn2 : n < 2 ^ 200) (hz : ms.length ≤ 63)
    (q : ∀ (r : Int) (mo' : MO), 0 ≤ r → r < n → BoxOk mo' → Q (D.int r) (up M a mo')) {i g s c1 c2 c3 c4 c5 : Int} (hi : 0 ≤ i) (hg : 0 ≤ g) (h3 : 0 ≤ s) (h4 : s < 2147483647)
    (k3 : 0 < c3) (k3' : c3 < 2 ^ 200) (k4 : 0 < c4) (k4' : c4 < 2 ^ 60) :
    (if decide (0 < g) = true then
      n ≠ 0 ∧ CDivA g n ∧ DL.Fin K Q (D.int (g.fmod n)) (up M a (MO.lst [D.lst (List.map D.int ms), D.int i, D.int (g.fdiv n), D.int s]))
    else
      CMulA s s ∧ CMulA s c1 ∧ (2147483647 : Int) ≠ 0 ∧ CDivA ((s * s + s * c1 + c2).fmod 2147483647) c3 ∧ c4 ≠ 0 ∧
        CMulA (((s * s + s * c1 + c2).fmod 2147483647).fmod c4) c5 ∧ n ≠ 0 ∧
          DL.Fin K Q (D.int ((((s * s + s * c1 + c2).fmod 2147483647).fdiv c3 + ((s * s + s * c1 + c2).fmod 2147483647).fmod c4 * c5).fmod n))
            (up M a (MO.lst [D.lst (List.map D.int ms), D.int i, D.int g, D.int ((s * s + s * c1 + c2).fmod 2147483647)]))) := by
  refine ite2 (fun e => ?_) (fun _ => ?_)
  · have e' : 0 < g := of_decide_eq_true e
    refine ⟨by omega, cdiv (by omega) hn2, Fin.same (q _ _ (fmod_pos (by omega)).1 (fmod_pos (by omega)).2 ⟨ms, i, g.fdiv n, s, rfl, hz, hi, ?_, h3, h4⟩)⟩
    exact Int.fdiv_nonneg (by omega) (by omega)
  · have f := fmod_pos (a := s * s + s * c1 + c2) (b := 2147483647) (by decide)
    have f2 := fmod_pos (a := (s * s + s * c1 + c2).fmod 2147483647) (b := c4) k4
    exact ⟨cmulS (by omega), cmulS (by omega), by decide, cdiv k3 k3', by omega, cmulS (by omega), by omega,
      Fin.same (q _ _ (fmod_pos (by omega)).1 (fmod_pos (by omega)).2 ⟨ms, i, g, _, rfl, hz, hi, hg, f.1, f.2⟩)⟩
theorem cpow18 : CPow 10 18 := ⟨by decide, by decide, by decide⟩
theorem rd__law_draw {K : PySem.W.Frag} : ∀ ds M Q E0, sp__law_draw ds M Q E0 → t__law_draw (bodyE K Q) (startD ["_law_box", "_law_many", "_law_cell", "_law_digit", "_law_seed"] ds) M := by
  rintro ds M Q E0 ⟨a, n, mo, rfl, hn, hn2, hM, ⟨ms, i, g, s, rfl, hz, h1, h2, h3, h4⟩, q⟩
  unfold t__law_draw
  have k2 : ixN 4 2 = some 2 := rfl
  have k1 : ixN 4 1 = some 1 := rfl
  have k3 : ixN 4 3 = some 3 := rfl
  have b0 := @atI4_0
  have b1 := @atI4_1
  have b2 := @atI4_2
  have b3 := @atI4_3
  have c1 := @set4_1
  have c2 := @set4_2
  have c3 := @set4_3
  walk_at "dlh"
  refine ite2 (fun e => ?_) (fun e => ?_)
  · refine ite2 (fun e2 => ?_) (fun e2 => ?_)
    · obtain ⟨k, rfl⟩ : ∃ k : Nat, i = k := ⟨i.toNat, by omega⟩
      have e3 : k < ms.length := by have := of_decide_eq_true e2; rw [List.length_map] at this; omega
      refine ⟨.int ms[k], ?_, ?_⟩
      · exact atI_nat (by rw [List.getElem?_map, List.getElem?_eq_getElem e3]; rfl)
      · walk_at "dlh"
        refine ⟨cpow18, ite2 (fun e4 => ?_) (fun e4 => ?_)⟩
        · have e5 : (10 : Int) ^ 18 ≤ ms[k] := of_decide_eq_true e4
          exact draw_tail hn hn2 hz q (by omega) (by omega) h3 h4 (by decide) (by decide) (by decide) (by decide)
        · have f := fmod_pos (a := ms[k]) (b := 2147483587) (by decide)
          exact ⟨cmulS (by omega), by decide, cmulS (by omega), by decide, draw_tail hn hn2 hz q (by omega) h2 (fmod_pos (by decide)).1 (fmod_pos (by decide)).2 (by decide) (by decide) (by decide) (by decide)⟩
    · exact draw_tail hn hn2 hz q h1 h2 h3 h4 (by decide) (by decide) (by decide) (by decide)
  · exact draw_tail hn hn2 hz q h1 h2 h3 h4 (by decide) (by decide) (by decide) (by decide)
theorem rd__law_any {K : PySem.W.Frag} : ∀ ds M Q E0, sp__law_any ds M Q E0 → t__law_any (bodyE K Q) (startD ["_law_box", "_law_some"] ds) M := by
  rintro ds M Q E0 ⟨a, xs, mo, rfl, hn, hn2, hM, hb, q⟩
  unfold t__law_any
  walk_at "dlh"
  refine ⟨a, xs.length, mo, rfl, by omega, by omega, hM, hb, fun r mo' h0 h1 hb' => ?_⟩
  obtain ⟨k, rfl⟩ : ∃ k : Nat, r = k := ⟨r.toNat, by omega⟩
  have hk : k < xs.length := by omega
  walk_at "dlh"
  exact ⟨xs[k], atI_nat (List.getElem?_eq_getElem hk), Fin.same (q _ _ (List.getElem_mem hk) hb')⟩
end PRE
namespace PRE
open PySem PySem.Spec PyProof.Rows L2 DL
local macro_rules | `(tactic| walk_at "dl") => `(tactic| simp only [exists_eq', exists_eq, List.take_nil, List.take_succ_cons, List.take_zero, decide_false, decide_true, dFld_ap, dSetF_ap, dAugF_ap, dMeth_ap, dMake_ap, dProp_ap, insOf_p, insOf_o, dNever_ap, bodyE_rt, bodyE_nx, dVar_ap, dC_ap, dOp_ap, dTB_ap, dTru_ap, dAnd_ap, dOr_ap, dNot_ap, dNotV_ap, dAndV_ap, dOrV_ap, dIf_ap, dIsN_ap, dNext_ap, dSeq_ap, dBreak_ap, dCont_ap, dDrop_ap, dRet_ap, dRetN_ap, dIfS_ap, dgName_ap, dgNil_ap, dgCons_ap, dgTup_ap, dgSub_ap, dAsg_ap, dPar_ap, dAug_ap, dNil_ap, dCons_ap, dTup_ap, dLst_ap, dLstM_ap, dCB_ap, dBM_ap, dBM0_ap, dCall_ap, dCallK_ap, dRev_s, dSl_ap, dPart_ap, dUn_ap, dChain_ap, dIsi_ap, dIsi2_ap, dIter_ap, dIterT_ap, dIterS_ap, dRng1_ap, dRng2_ap, rMulX_ii, rMulX_si, dFmt_ap, fmtD_s, fmtD_i, dJoined_ap, dJs_nil, dJs_cons, jStep_s, dCallK_ap, dNil_ap, rAdd_ii, rAdd_ss, rAdd_tt, rAdd_ll, rSub_ii, rInt2_ii, rNeg_i, rOrd_ii, rOrd_ss, rIadd_ii, rIadd_ss, rEqW_ii, rEqW_ss, rEqW_bb, rIn_ss, rIxD_l, rIxD_x, rIxD_t, rIxD_s, rIxD_p, lstOf_p, lstOf_l, lstOf_x, rSlD_s, rSlD_t, rSlD_l, rSlD_x, rLen_s, rLen_t, rLen_l, rLen_x, rLen_p, rAbs_i, rInt_i, rInt_b, rToListA_t, rToListA_l, rToListA_s, rToListM_t, rToListM_l, rToTup_t, rToTup_l, rToTup_p, rSum_ap, rAll_ap, rAny_ap, rStrN_i, rMax2_ii, rMin2_ii, rS0_ap, rS1_ap, tyD_s, tyD_p, tyD_l, rJoin_l, rJoin_p, rAppend_p, rPop_p, startD, wipeD, List.map_cons, List.map_nil, List.cons_append, List.nil_append, List.append_nil, List.length_cons, List.length_nil, List.getElem?_cons_zero, List.getElem?_cons_succ, List.set_cons_zero, List.set_cons_succ, List.replicate, Nat.reduceAdd, Nat.reduceSub, Nat.sub_zero, up_same, up_up, Bool.false_xor, Bool.true_xor, Bool.not_true, Bool.not_false, if_true, if_false, Bool.false_eq_true, and_true, true_and, ite_true, ite_false, reduceIte, reduceCtorEq, Option.some.injEq, exists_eq_left', exists_eq_left])
local macro_rules | `(tactic| walk_at "dlh") => `(tactic| simp only [exists_eq', exists_eq, List.take_nil, List.take_succ_cons, List.take_zero, decide_false, decide_true, dFld_ap, dSetF_ap, dAugF_ap, dMeth_ap, dMake_ap, dProp_ap, insOf_p, insOf_o, dNever_ap, bodyE_rt, bodyE_nx, dVar_ap, dC_ap, dOp_ap, dTB_ap, dTru_ap, dAnd_ap, dOr_ap, dNot_ap, dNotV_ap, dAndV_ap, dOrV_ap, dIf_ap, dIsN_ap, dNext_ap, dSeq_ap, dBreak_ap, dCont_ap, dDrop_ap, dRet_ap, dRetN_ap, dIfS_ap, dgName_ap, dgNil_ap, dgCons_ap, dgTup_ap, dgSub_ap, dAsg_ap, dPar_ap, dAug_ap, dNil_ap, dCons_ap, dTup_ap, dLst_ap, dLstM_ap, dCB_ap, dBM_ap, dBM0_ap, dCall_ap, dCallK_ap, dRev_s, dSl_ap, dPart_ap, dUn_ap, dChain_ap, dIsi_ap, dIsi2_ap, dIter_ap, dIterT_ap, dIterS_ap, dRng1_ap, dRng2_ap, rMulX_ii, rMulX_si, dFmt_ap, fmtD_s, fmtD_i, dJoined_ap, dJs_nil, dJs_cons, jStep_s, dCallK_ap, dNil_ap, rAdd_ii, rAdd_ss, rAdd_tt, rAdd_ll, rSub_ii, rInt2_ii, rNeg_i, rOrd_ii, rOrd_ss, rIadd_ii, rIadd_ss, rEqW_ii, rEqW_ss, rEqW_bb, rIn_ss, rIxD_l, rIxD_x, rIxD_t, rIxD_s, rIxD_p, lstOf_p, lstOf_l, lstOf_x, rSlD_s, rSlD_t, rSlD_l, rSlD_x, rLen_s, rLen_t, rLen_l, rLen_x, rLen_p, rAbs_i, rInt_i, rInt_b, rToListA_t, rToListA_l, rToListA_s, rToListM_t, rToListM_l, rToTup_t, rToTup_l, rToTup_p, rSum_ap, rAll_ap, rAny_ap, rStrN_i, rMax2_ii, rMin2_ii, rS0_ap, rS1_ap, tyD_s, tyD_p, tyD_l, rJoin_l, rJoin_p, rAppend_p, rPop_p, startD, wipeD, List.map_cons, List.map_nil, List.cons_append, List.nil_append, List.append_nil, List.length_cons, List.length_nil, List.getElem?_cons_zero, List.getElem?_cons_succ, List.set_cons_zero, List.set_cons_succ, List.replicate, Nat.reduceAdd, Nat.reduceSub, Nat.sub_zero, up_same, up_up, Bool.false_xor, Bool.true_xor, Bool.not_true, Bool.not_false, if_true, if_false, Bool.false_eq_true, and_true, true_and, ite_true, ite_false, reduceIte, reduceCtorEq, Option.some.injEq, exists_eq_left', exists_eq_left, *])
local macro_rules | `(tactic| walk_at "len") => `(tactic| (intro ds M Q E h; first | (obtain ⟨_, h1, _⟩ := h; subst h1; rfl) | (obtain ⟨_, _, h1, _⟩ := h; subst h1; rfl) | (obtain ⟨_, _, _, h1, _⟩ := h; subst h1; rfl) | (obtain ⟨_, _, _, _, h1, _⟩ := h; subst h1; rfl) | (obtain ⟨_, _, _, _, _, h1, _⟩ := h; subst h1; rfl) | (obtain ⟨_, _, _, _, _, _, h1, _⟩ := h; subst h1; rfl) | (obtain ⟨_, _, _, _, _, _, _, h1, _⟩ := h; subst h1; rfl) | (obtain ⟨_, _, _, _, _, _, _, _, h1, _⟩ := h; subst h1; rfl) | (obtain ⟨_, _, _, _, _, _, _, _, _, h1, _⟩ := h; subst h1; rfl)))
local macro_rules | `(tactic| walk_at "ln") => `(tactic| (simp only [List.length_cons, List.length_nil, List.length_map, List.length_append, List.length_take, List.length_drop, List.length_reverse, T_len]; omega))
theorem strE : Str.ofString "" = T [] := by decide +kernel
theorem abmE : Str.ofString "abmtxyz" = T abm := by decide +kernel
theorem nodup_sub : ∀ (a b : List Nat), a.Nodup → a ⊆ b → a.length ≤ b.length
  | [], _, _, _ => Nat.zero_le _
  | x :: a, b, h, hs => by
    have hx := List.nodup_cons.mp h
    have := nodup_sub a (b.erase x) hx.2 fun y hy => (List.mem_erase_of_ne fun e => by subst e; exact hx.1 hy).mpr (hs (List.mem_cons_of_mem _ hy))
    have hb : x ∈ b := hs List.mem_cons_self
    rw [List.length_erase_of_mem hb] at this
    have := List.length_pos_of_mem hb
    simp only [List.length_cons]
    omega
theorem abm_left {l : List Nat} (h : Lets l) (hz : l.length < 7) : (abm.filter fun c => decide (c ∉ l)) ≠ [] := fun e => by
  have h2 : abm ⊆ l := fun c hc => by
    have := List.filter_eq_nil_iff.mp e c hc
    simpa using this
  have h3 : abm.Nodup := by decide
  have h4 := nodup_sub _ _ h3 h2
  simp only [abm, List.length_cons, List.length_nil] at h4
  omega
theorem rd__law_letters {K : PySem.W.Frag} : ∀ ds M Q E0, sp__law_letters ds M Q E0 → t__law_letters (bodyE K Q) (startD ["_law_box", "_law_many", "_law_found", "_law_k", "_law_left", "_law_letter"] ds) M := by
  rintro ds M Q E0 ⟨a, n, mo, rfl, hn, hM, hb, q⟩
  unfold t__law_letters
  walk_at "dlh"
  refine for_pre (M1 := M) (kp := fun _ => True) (List.range n) (fun i => D.int (0 + (i : Nat))) (fun pre env M' => ∃ l mo' d1 d2 d3, Lets l ∧ l.length = pre.length ∧ BoxOk mo' ∧ M' = up M a mo' ∧ env = [some (.ptr a), some (.int n), some (.str (T l)), d1, d2, d3]) (fun R h => ?_) ?_ (fun _ _ _ _ => True.intro) ?_ ?_
  · walk_at "dl"
    exact ⟨by omega, h⟩
  · exact ⟨[], mo, none, none, none, ⟨List.nodup_nil, fun _ h => absurd h List.not_mem_nil⟩, rfl, hb, (up_id hM).symm, by rw [strE]⟩
  · rintro pre x post env M' e ⟨l, mo', d1, d2, d3, hl, hz, hb', rfl, rfl⟩
    have hz7 : l.length < 7 := by
      have := congrArg List.length e
      simp only [List.length_range, List.length_append, List.length_cons] at this
      omega
    walk_at "dl"
    refine lc_fm (M1 := up M a mo') (kp := fun _ => True) abm (fun c => D.str ⟨#[c]⟩) (fun c => D.str ⟨#[c]⟩) (fun c => decide (c ∉ l)) (fun R h => ?_) True.intro (line (by decide)) (fun c hc R S h1 h2 => ?_) ?_
    · walk_at "dl"
      rw [abmE, sgs_T]
      exact h
    · walk_at "dl"
      rw [strIn_sign, T_cps, ← decide_not]
      by_cases hcl : c ∉ l
      · rw [decide_eq_true hcl] at h1 ⊢; exact h1 rfl
      · rw [decide_eq_false hcl] at h2 ⊢; exact h2 rfl
    · refine ⟨a, _, mo', rfl, ?_, ?_, up_same, hb', fun d mo2 hd hb2 => ?_⟩
      · rw [List.length_map]; exact List.length_pos_iff.mpr (abm_left hl hz7)
      · rw [List.length_map]; exact Nat.le_trans (List.length_filter_le _ _) (by decide)
      · obtain ⟨c, hc, rfl⟩ := List.mem_map.mp hd
        obtain ⟨hc1, hc2⟩ := List.mem_filter.mp hc
        have hc3 : c ∉ l := of_decide_eq_true hc2
        walk_at "dl"
        rw [T_one, T_app]
        refine ⟨by rw [T_len, T_len]; exact line (by simp only [List.length_cons, List.length_nil]; omega), l ++ [c], mo2, _, _, _, ⟨?_, ?_⟩, ?_, hb2, rfl, rfl⟩
        · exact List.nodup_append.mpr ⟨hl.1, by simp, fun x hx y hy => by rw [List.mem_singleton] at hy; subst hy; rintro rfl; exact hc3 hx⟩
        · intro x hx
          rcases List.mem_append.mp hx with hx | hx
          · exact hl.2 x hx
          · rw [List.mem_singleton] at hx; subst hx; exact hc1
        · simp [hz]
  · rintro env M' ⟨l, mo', d1, d2, d3, hl, hz, hb', rfl, rfl⟩
    walk_at "dl"
    exact Fin.same (q l mo' hl (by rw [hz, List.length_range]) hb')
theorem isLo_lt {c : Nat} (h : isLo c = true) : 97 ≤ c ∧ c ≤ 122 := of_decide_eq_true h
theorem up_lo {c : Nat} (h : isLo c = true) : Txt.upper ⟨#[c]⟩ = ⟨#[c - 32]⟩ := by
  have := isLo_lt h
  rw [up1 (by omega)]
  simp [upC, this]
theorem sgn_len (l : List Nat) : (sgn l).length = 2 * l.length := by
  induction l with
  | nil => rfl
  | cons c r ih =>
    unfold sgn at ih ⊢
    rw [List.flatMap_cons, List.length_append, ih]
    simp only [List.length_cons, List.length_nil]; omega
theorem rd__law_signs {K : PySem.W.Frag} : ∀ ds M Q E0, sp__law_signs ds M Q E0 → t__law_signs (bodyE K Q) (startD ["_law_letters_here", "_law_letter"] ds) M := by
  rintro ds M Q E0 ⟨l, rfl, hl, hz, q⟩
  unfold t__law_signs
  walk_at "dlh"
  refine lc_m (M1 := M) (kp := fun _ => True) l (fun c => D.str ⟨#[c]⟩) (fun c => D.str (T [c, c - 32])) (fun R h => ?_) True.intro (line (by omega)) (fun c hc R h => ?_) ?_
  · walk_at "dl"
    rw [sgs_T]
    exact h
  · walk_at "dl"
    refine ⟨len1 c, ?_⟩
    rw [up_lo (hl c hc), T_one, T_one, T_app]
    exact ⟨by rw [T_len, T_len]; exact line (by simp only [List.length_cons, List.length_nil]; omega), h⟩
  · walk_at "dl"
    refine ⟨(l.map fun c => [c, c - 32]).map T, ?_, ?_, ?_⟩
    · rw [List.map_map, List.map_map]; rfl
    · rw [strE, T_len]
      have : (((l.map fun c => [c, c - 32]).map T).map fun x : Str => x.length).sum = 2 * l.length := by
        clear hl hz q
        induction l with
        | nil => rfl
        | cons c r ih => rw [List.map_cons, List.map_cons, List.map_cons, List.sum_cons, ih, List.length_cons, T_len]; simp only [List.length_cons, List.length_nil]; omega
      rw [this]; simp only [List.length_nil]; omega
    · rw [join_T]
      exact Fin.same q
theorem rd__law_some_word {K : PySem.W.Frag} : ∀ ds M Q E0, sp__law_some_word ds M Q E0 → t__law_some_word (bodyE K Q) (startD ["_law_box", "_law_letters_here", "_law_most", "_law_signs_here", "_law_k"] ds) M := by
  rintro ds M Q E0 ⟨a, l, m, mo, rfl, hl, h1, hz, hm, hM, hb, q⟩
  unfold t__law_some_word
  walk_at "dlh"
  refine ⟨l, rfl, hl, hz, ?_⟩
  dsimp only
  rw [dLc_un]
  walk_at "dl"
  refine ⟨a, _, mo, rfl, by omega, by omega, hM, hb, fun r mo' h0 hr hb' => ?_⟩
  obtain ⟨n, rfl⟩ : ∃ n : Nat, r = n := ⟨r.toNat, by omega⟩
  walk_at "dl"
  refine ⟨by omega, ?_⟩
  refine lcB_st (xs := List.range (n : Int).toNat) (fun i => D.int (0 + (i : Nat))) (fun pre acc M' => ∃ (ws : List Nat) (mo' : MO), acc = ws.map (fun c => D.str ⟨#[c]⟩) ∧ ws.length = pre.length ∧ ws.length ≤ m ∧ (∀ c ∈ ws, c ∈ sgn l) ∧ M' = up M a mo' ∧ BoxOk mo') ?_ (fun _ _ _ _ => True.intro) ?_ ?_ ?_
  · exact ⟨[], mo', rfl, rfl, Nat.zero_le _, fun _ h => absurd h List.not_mem_nil, rfl, hb'⟩
  · rintro pre acc M' ⟨ws, mo2, rfl, _, h, _⟩
    rw [List.length_map]; exact lineT (by omega)
  · rintro pre x post acc M' e ⟨ws, mo2, rfl, hw, hwm, hw2, rfl, hb2⟩ R hR
    have hpre : pre.length < n := by
      have := congrArg List.length e
      simp only [List.length_range, List.length_append, List.length_cons] at this
      omega
    walk_at "dl"
    refine ⟨by rw [T_len, sgn_len]; exact line (by omega), a, _, mo2, rfl, ?_, ?_, up_same, hb2, fun d mo3 hd hb3 => ?_⟩
    · rw [sgs_T, List.length_map, sgn_len]; omega
    · rw [sgs_T, List.length_map, sgn_len]; omega
    · rw [sgs_T] at hd
      obtain ⟨c, hc, rfl⟩ := List.mem_map.mp hd
      refine hR _ _ ⟨ws ++ [c], mo3, by simp, by simp [hw], by simp only [List.length_append, List.length_cons, List.length_nil]; omega, ?_, up_up, hb3⟩
      intro x hx
      rcases List.mem_append.mp hx with hx | hx
      · exact hw2 x hx
      · rw [List.mem_singleton] at hx; subst hx; exact hc
  · rintro acc M' ⟨ws, mo2, rfl, hw, hwm, hw2, rfl, hb2⟩
    walk_at "dl"
    refine ⟨ws.map fun c => ⟨#[c]⟩, by rw [List.map_map]; rfl, ?_, ?_⟩
    · rw [one_sum, strE, T_len, List.length_nil]; omega
    · rw [join_signs]
      exact Fin.same (q ws mo2 hwm hw2 hb2)
abbrev sp__law_same (n : Nat) : DSp := fun ds M Q _ => ∃ x, ds = [x, x] ∧ Pl n x = true ∧ Q (.bl true) M
abbrev spNo : DSp := fun _ _ _ _ => False
abbrev sp_sameB : Nat → DSp
  | 0 => spNo
  | n + 1 => sp__law_same n
theorem rd__law_same {K : PySem.W.Frag} (n : Nat) : ∀ ds M Q E0, sp__law_same n ds M Q E0 → t__law_same (sp_sameB n) (bodyE K Q) (startD ["_law_found", "_law_due", "_law_k"] ds) M := by
  rintro ds M Q E0 ⟨x, rfl, hp, q⟩
  unfold t__law_same
  have seq : ∀ (n : Nat) (xs : List D) (T : String) (x : D), xs.all (Pl n) = true → xs.length ≤ 1000000 → (∀ (M : Mp) (Q : DQ), rLen [x] M Q = Q (.int xs.length) M) → (∀ (i : Int) (M : Mp) (Q : DQ), rIxD x (.int i) M Q = ∃ d, atI xs i = some d ∧ Q d M) → Q (.bl true) M →
      (if ((xs.length : Int) == (xs.length : Int)) = true then dLc (dRng1 (dCons (dCB rLen (dCons (dVar 1) dNil)) dNil)) (dgName 2) dYes (dCall (sp__law_same n) (dCons (dOp rIxD (dVar 0) (dVar 2)) (dCons (dOp rIxD (dVar 1) (dVar 2)) dNil))) [2] [some x, some x, none] M fun x M1 =>
        ∃ ns, lstOf M1 x = some (List.map D.bl ns) ∧ DL.Fin K Q (D.bl (ns.all id)) M1 else DL.Fin K Q (D.bl false) M) := by
    intro n xs T x hx hz hl hi q
    rw [show (((xs.length : Int)) == (xs.length : Int)) = true from by simp]
    rw [if_pos rfl]
    rw [dLc_un]
    walk_at "dlh"
    refine ⟨by omega, ?_⟩
    refine lcB_m (xs := List.range (xs.length : Int).toNat) (fun i => D.int (0 + (i : Nat))) (fun _ => D.bl true) True.intro (line (by rw [List.length_range]; omega)) (fun i hi2 R h => ?_) ?_
    · have hi3 : i < xs.length := by have := List.mem_range.mp hi2; omega
      walk_at "dlh"
      refine ⟨xs[i], ?_, xs[i], ?_, xs[i], rfl, ?_, h⟩
      · rw [show (0 + (i : Int)) = (i : Int) by omega]; exact atI_nat (List.getElem?_eq_getElem hi3)
      · rw [show (0 + (i : Int)) = (i : Int) by omega]; exact atI_nat (List.getElem?_eq_getElem hi3)
      · exact List.all_eq_true.mp hx _ (List.getElem_mem hi3)
    · refine ⟨(List.range (xs.length : Int).toNat).map fun _ => true, by rw [lstOf_l, List.map_map]; rfl, ?_⟩
      rw [show ((List.range (xs.length : Int).toNat).map fun _ => true).all id = true by simp]
      exact Fin.same q
  cases x with
  | lst xs =>
    cases n with
    | zero => cases hp
    | succ n =>
      rw [Pl, Bool.and_eq_true, decide_eq_true_eq] at hp
      have := seq n xs "list" (.lst xs) hp.1 hp.2 (fun _ _ => rfl) (fun _ _ _ => rfl) q
      walk_at "dl"
      simp only [tyN]
      rw [if_pos (by decide), if_neg (by decide), if_neg (by decide)]
      exact this
  | tup xs =>
    cases n with
    | zero => cases hp
    | succ n =>
      rw [Pl, Bool.and_eq_true, decide_eq_true_eq] at hp
      have := seq n xs "tuple" (.tup xs) hp.1 hp.2 (fun _ _ => rfl) (fun _ _ _ => rfl) q
      walk_at "dl"
      simp only [tyN]
      rw [if_pos (by decide), if_neg (by decide), if_neg (by decide)]
      exact this
  | non => walk_at "dl"; simp only [tyN]; exact Fin.same q
  | bl k =>
    walk_at "dl"; simp only [tyN]
    rw [if_neg (by decide), if_neg (by exact Bool.false_ne_true), if_neg (by exact Bool.false_ne_true), if_neg (by decide), if_neg (by decide), if_pos (by decide), show (k == k) = true from by simp]
    exact Fin.same q
  | int k =>
    walk_at "dl"; simp only [tyN]
    rw [if_neg (by decide), if_neg (by exact Bool.false_ne_true), if_neg (by exact Bool.false_ne_true), if_neg (by decide), if_neg (by decide), if_pos (by decide), show (k == k) = true from by simp]
    exact Fin.same q
  | str k =>
    walk_at "dl"; simp only [tyN]
    rw [if_neg (by decide), if_neg (by exact Bool.false_ne_true), if_neg (by exact Bool.false_ne_true), if_neg (by decide), if_neg (by decide), if_pos (by decide), show (k == k) = true from by simp]
    exact Fin.same q
  | _ => cases n <;> cases hp
theorem swC_lt {c : Nat} (h : c < 128) : swC c < 128 := by
  have : ∀ c < 128, swC c < 128 := by decide +kernel
  exact this c h
theorem rd_opposite {K : PySem.W.Frag} : ∀ ds M Q E0, sp_opposite ds M Q E0 → t_opposite (bodyE K Q) (startD ["word", "character"] ds) M := by
  rintro ds M Q E0 ⟨l, rfl, hl, hz, q⟩
  unfold t_opposite
  walk_at "dl"
  rw [dLc_un]
  walk_at "dl"
  rw [T_len, srev_T, sgs_T]
  refine ⟨line (by omega), ?_⟩
  refine lcB_m (xs := l.reverse) (fun c => D.str ⟨#[c]⟩) (fun c => D.str ⟨#[swC c]⟩) True.intro (line (by rw [List.length_reverse]; omega)) (fun c hc R h => ?_) ?_
  · walk_at "dl"
    exact ⟨c, rfl, hl c (List.mem_reverse.mp hc), h⟩
  · walk_at "dl"
    refine ⟨(l.reverse.map swC).map fun c => ⟨#[c]⟩, by rw [List.map_map, List.map_map]; rfl, ?_, ?_⟩
    · rw [one_sum, strE, T_len, List.length_nil, List.length_map, List.length_reverse]; omega
    · rw [join_signs]
      exact Fin.same q
end PRE
/-! ### lattices and their Hermite rows (plain) -/
namespace TM
abbrev Vc := Nat → Int
/-- the sums of rows -/
inductive Sp (R : List Vc) : Vc → Prop
  | zero : Sp R fun _ => 0
  | step {r v : Vc} (t : Int) (h : r ∈ R) (hv : Sp R v) : Sp R fun j => v j + t * r j
theorem Sp.cast {R : List Vc} {u v : Vc} (h : Sp R u) (e : ∀ j, u j = v j) : Sp R v := (funext e : u = v) ▸ h
theorem Sp.row {R : List Vc} {r : Vc} (h : r ∈ R) : Sp R r := (Sp.step 1 h .zero).cast fun j => by omega
theorem Sp.add {R : List Vc} {u v : Vc} (hu : Sp R u) (hv : Sp R v) : Sp R fun j => u j + v j := by
  induction hv with
  | zero => exact hu.cast fun j => by dsimp only; omega
  | step t h _ ih => exact (Sp.step t h ih).cast fun j => by dsimp only; omega
theorem Sp.mul {R : List Vc} {v : Vc} (k : Int) (hv : Sp R v) : Sp R fun j => k * v j := by
  induction hv with
  | zero => exact Sp.zero.cast fun j => by dsimp only; omega
  | step t h _ ih => exact (Sp.step (k * t) h ih).cast fun j => by dsimp only; rw [Int.mul_add, Int.mul_assoc]
theorem Sp.sub {R : List Vc} {u v : Vc} (hu : Sp R u) (hv : Sp R v) (t : Int) : Sp R fun j => u j - t * v j := (hu.add (hv.mul (-t))).cast fun j => by rw [Int.neg_mul]; omega
/-- a lattice lies in another if its rows do -/
theorem Sp.le {R S : List Vc} (h : ∀ r ∈ R, Sp S r) {v : Vc} (hv : Sp R v) : Sp S v := by
  induction hv with
  | zero => exact .zero
  | step t hr _ ih => exact ih.add ((h _ hr).mul t)
theorem Sp.mono {R S : List Vc} (h : ∀ r ∈ R, r ∈ S) {v : Vc} (hv : Sp R v) : Sp S v := hv.le fun r hr => .row (h r hr)
theorem Sp.nil {v : Vc} (h : Sp [] v) : ∀ j, v j = 0 := by
  induction h with
  | zero => intro j; rfl
  | step t h _ _ => cases h
/-- one row taken out -/
theorem Sp.split {r : Vc} {R : List Vc} {v : Vc} (h : Sp (r :: R) v) : ∃ (t : Int) (g : Vc), Sp R g ∧ ∀ j, v j = g j + t * r j := by
  induction h with
  | zero => exact ⟨0, _, .zero, fun j => by simp⟩
  | @step r' v t hr _ ih =>
    obtain ⟨k, g, hg, e⟩ := ih
    rcases List.mem_cons.mp hr with z | z
    · subst z
      exact ⟨k + t, g, hg, fun j => by dsimp only; rw [e, Int.add_mul]; omega⟩
    · exact ⟨k, _, .step t z hg, fun j => by dsimp only; rw [e]; omega⟩
/-- rows in Hermite form, each with its lead, the leads from k on -/
def HF : Nat → List (Nat × Vc) → Prop
  | _, [] => True
  | k, (p, r) :: F => k ≤ p ∧ (∀ j, j < p → r j = 0) ∧ 0 < r p ∧ HF (p + 1) F ∧ ∀ x ∈ F, 0 ≤ r x.1 ∧ r x.1 < x.2 x.1
abbrev rowsOf (F : List (Nat × Vc)) : List Vc := F.map (·.2)
theorem HF.mono {k l : Nat} (h : k ≤ l) : ∀ {F : List (Nat × Vc)}, HF l F → HF k F
  | [], _ => trivial
  | (p, r) :: F, ⟨h1, h2⟩ => ⟨by omega, h2⟩
theorem HF.before {k : Nat} : ∀ {F : List (Nat × Vc)}, HF k F → ∀ {v : Vc}, Sp (rowsOf F) v → ∀ j, j < k → v j = 0
  | [], _, v, hv, j, _ => hv.nil j
  | (p, r) :: F, ⟨h1, h2, h3, h4, h5⟩, v, hv, j, hj => by
    obtain ⟨t, g, hg, e⟩ := hv.split
    rw [e, HF.before h4 hg j (by omega)]; dsimp only; rw [h2 j (by omega), Int.mul_zero, Int.add_zero]
theorem small_mul {t a : Int} (h : 0 < a) (h1 : -a < t * a) (h2 : t * a < a) : t = 0 := by
  rcases Int.lt_trichotomy t 0 with z | z | z
  · have : t * a ≤ (-1) * a := Int.mul_le_mul_of_nonneg_right (by omega) (by omega)
    omega
  · exact z
  · have : 1 * a ≤ t * a := Int.mul_le_mul_of_nonneg_right (by omega) (by omega)
    omega
theorem HF.small {k : Nat} : ∀ {F : List (Nat × Vc)}, HF k F → ∀ {v : Vc}, Sp (rowsOf F) v → (∀ x ∈ F, -(x.2 x.1) < v x.1 ∧ v x.1 < x.2 x.1) → ∀ j, v j = 0
  | [], _, v, hv, _, j => hv.nil j
  | (p, r) :: F, ⟨h1, h2, h3, h4, h5⟩, v, hv, hs, j => by
    obtain ⟨t, g, hg, e⟩ := hv.split
    have hp := hs (p, r) List.mem_cons_self
    have ep : v p = t * r p := by have := e p; rw [HF.before h4 hg p (by omega), Int.zero_add] at this; exact this
    rw [ep] at hp
    have ht : t = 0 := small_mul h3 hp.1 hp.2
    subst ht
    have e2 : ∀ j, g j = v j := fun j => by rw [e]; simp
    exact HF.small h4 (hg.cast e2) (fun x hx => hs x (List.mem_cons_of_mem _ hx)) j
theorem HF.uniq : ∀ {k : Nat} {F G : List (Nat × Vc)}, HF k F → HF k G → (∀ v, Sp (rowsOf F) v → Sp (rowsOf G) v) → (∀ v, Sp (rowsOf G) v → Sp (rowsOf F) v) → F = G
  | _, [], [], _, _, _, _ => rfl
  | _, [], (q, s) :: G, _, ⟨_, _, h, _⟩, _, b => by
    have := (b s (.row List.mem_cons_self)).nil q
    omega
  | _, (p, r) :: F, [], ⟨_, _, h, _⟩, _, a, _ => by
    have := (a r (.row List.mem_cons_self)).nil p
    omega
  | k, (p, r) :: F, (q, s) :: G, ⟨f1, f2, f3, f4, f5⟩, ⟨g1, g2, g3, g4, g5⟩, a, b => by
    have hF : HF p ((p, r) :: F) := ⟨Nat.le_refl _, f2, f3, f4, f5⟩
    have hG : HF q ((q, s) :: G) := ⟨Nat.le_refl _, g2, g3, g4, g5⟩
    have hr : Sp (rowsOf ((q, s) :: G)) r := a r (.row List.mem_cons_self)
    have hs : Sp (rowsOf ((p, r) :: F)) s := b s (.row List.mem_cons_self)
    have e1 : ¬ p < q := fun h => by have := HF.before hG hr p h; omega
    have e2 : ¬ q < p := fun h => by have := HF.before hF hs q h; omega
    have e : p = q := by omega
    subst e
    obtain ⟨t, g, hg, eg⟩ := hr.split
    obtain ⟨t', g', hg', eg'⟩ := hs.split
    have c1 : r p = t * s p := by have := eg p; rw [HF.before g4 hg p (by omega), Int.zero_add] at this; exact this
    have c2 : s p = t' * r p := by have := eg' p; rw [HF.before f4 hg' p (by omega), Int.zero_add] at this; exact this
    have d1 : r p ∣ s p := ⟨t', by rw [Int.mul_comm]; exact c2⟩
    have d2 : s p ∣ r p := ⟨t, by rw [Int.mul_comm]; exact c1⟩
    have ep : r p = s p := Int.dvd_antisymm (by omega) (by omega) d1 d2
    have ht : t = 1 := by
      have : (t - 1) * s p = 0 := by rw [Int.sub_mul, Int.one_mul, ← c1]; omega
      rcases Int.mul_eq_zero.mp this with z | z
      · omega
      · rw [z] at g3; exact absurd g3 (by decide)
    have tail : ∀ {F G : List (Nat × Vc)} {r s : Vc}, HF (p + 1) F → HF (p + 1) G → 0 < s p → (∀ v, Sp (rowsOf ((p, r) :: F)) v → Sp (rowsOf ((p, s) :: G)) v) → ∀ v, Sp (rowsOf F) v → Sp (rowsOf G) v := fun {F G r s} hf hg0 h0 hh v hv => by
      obtain ⟨t, g, hg, eg⟩ := (hh v (hv.mono fun x hx => List.mem_cons_of_mem _ hx)).split
      have z := HF.before hf hv p (by omega)
      rw [eg, HF.before hg0 hg p (by omega), Int.zero_add] at z
      have ht : t = 0 := (Int.mul_eq_zero.mp z).elim id fun z => by
        have z : s p = 0 := z
        rw [z] at h0
        exact absurd h0 (by decide)
      subst ht
      exact hg.cast fun j => by rw [eg]; simp
    have eF : F = G := HF.uniq f4 g4 (tail f4 g4 g3 a) (tail g4 f4 f3 b)
    subst eF
    have er : r = s := by
      funext j
      have := HF.small f4 (v := fun j => r j - s j) (hg.cast fun j => by have := eg j; rw [ht] at this; dsimp only at this; omega) (fun x hx => by have h1 := f5 x hx; have h2 := g5 x hx; constructor <;> omega) j
      omega
    rw [er]
end TM
/-! ### rows as lists; one turn of the column's loop (plain) -/
namespace TM
abbrev Row := List Int
def fv (r : Row) : Vc := fun j => r.getD j 0
def mi (a b : Row) : Row := List.zipWith (fun x y => x - y) a b
def sc (t : Int) (a : Row) : Row := a.map fun x => t * x
theorem mi_len {a b : Row} (h : a.length = b.length) : (mi a b).length = a.length := by unfold mi; rw [List.length_zipWith]; omega
theorem sc_len {t : Int} {a : Row} : (sc t a).length = a.length := List.length_map _
theorem fv_mi : ∀ {a b : Row}, a.length = b.length → ∀ j, fv (mi a b) j = fv a j - fv b j
  | [], [], _, j => by simp [fv, mi]
  | x :: a, y :: b, h, 0 => by simp [fv, mi]
  | x :: a, y :: b, h, j + 1 => by
    have := fv_mi (a := a) (b := b) (by simpa using h) j
    simpa [fv, mi] using this
  | [], _ :: _, h, _ => by simp at h
  | _ :: _, [], h, _ => by simp at h
theorem fv_sc {t : Int} : ∀ {a : Row} (j : Nat), fv (sc t a) j = t * fv a j
  | [], j => by simp [fv, sc]
  | x :: a, 0 => by simp [fv, sc]
  | x :: a, j + 1 => by
    have := fv_sc (t := t) (a := a) j
    simpa [fv, sc] using this
theorem fv_zero {w : Nat} (j : Nat) : fv (List.replicate w 0) j = 0 := by
  by_cases h : j < w
  · simp [fv, List.getD, h]
  · simp [fv, List.getD, h]
theorem fv_inj {a b : Row} (h : a.length = b.length) (e : ∀ j, fv a j = fv b j) : a = b := by
  apply List.ext_getElem h
  intro i h1 h2
  have := e i
  simpa [fv, List.getD, h1, h2] using this
/-- row less the multiple of the least one -/
def red (at_ : Nat) (least row : Row) : Row := mi row (sc ((fv row at_).fdiv (fv least at_)) least)
theorem fv_red {at_ : Nat} {least row : Row} (h : row.length = least.length) (j : Nat) : fv (red at_ least row) j = fv row j - (fv row at_).fdiv (fv least at_) * fv least j := by
  unfold red
  rw [fv_mi (by rw [sc_len]; exact h), fv_sc]
theorem red_len {at_ : Nat} {least row : Row} (h : row.length = least.length) : (red at_ least row).length = row.length := by
  unfold red
  exact mi_len (by rw [sc_len]; exact h)
theorem red_at {at_ : Nat} {least row : Row} (h : row.length = least.length) : fv (red at_ least row) at_ = (fv row at_).fmod (fv least at_) := by
  rw [fv_red h, Int.fmod_def, Int.mul_comm]
abbrev fvs (rs : List Row) : List Vc := rs.map fv
def SpE (R S : List Row) : Prop := (∀ r ∈ R, Sp (fvs S) (fv r)) ∧ ∀ s ∈ S, Sp (fvs R) (fv s)
theorem SpE.refl (R : List Row) : SpE R R := ⟨fun r h => .row (List.mem_map_of_mem h), fun r h => .row (List.mem_map_of_mem h)⟩
theorem SpE.symm {R S : List Row} (h : SpE R S) : SpE S R := ⟨h.2, h.1⟩
theorem SpE.le {R S : List Row} (h : SpE R S) {v : Vc} (hv : Sp (fvs R) v) : Sp (fvs S) v := hv.le fun r hr => by
  obtain ⟨x, hx, rfl⟩ := List.mem_map.mp hr
  exact h.1 x hx
theorem SpE.trans {R S T : List Row} (h : SpE R S) (k : SpE S T) : SpE R T := ⟨fun r hr => k.le (h.1 r hr), fun t ht => h.symm.le (k.2 t ht)⟩
/-- one turn of the loop of a column: X is what is not touched -/
theorem turn_span {at_ w : Nat} {here left X : List Row} {least : Row} (hl : least ∈ here) (len : ∀ r ∈ here, r.length = w) (zero : Row) (hz : zero = List.replicate w 0) (n0 : ∀ r ∈ here, fv r at_ ≠ 0) :
    let rests := (here.filter fun r => r != least).map (red at_ least)
    SpE (X ++ (left ++ rests.filter (fun r => fv r at_ == 0 && r != zero)) ++ (least :: rests.filter fun r => fv r at_ != 0)) (X ++ left ++ here) := by
  intro rests
  have hlen : ∀ r ∈ here, r.length = least.length := fun r h => by rw [len r h, len least hl]
  have inR : ∀ r ∈ rests, Sp (fvs (X ++ left ++ here)) (fv r) := fun r hr => by
    obtain ⟨x, hx, rfl⟩ := List.mem_map.mp hr
    have hx := (List.mem_filter.mp hx).1
    have h1 : Sp (fvs (X ++ left ++ here)) (fv x) := .row (List.mem_map_of_mem (List.mem_append_right _ hx))
    have h2 : Sp (fvs (X ++ left ++ here)) (fv least) := .row (List.mem_map_of_mem (List.mem_append_right _ hl))
    exact (h1.sub h2 _).cast fun j => (fv_red (hlen x hx) j).symm
  refine ⟨fun r hr => ?_, fun s hs => ?_⟩
  · simp only [List.mem_append, List.mem_cons, List.mem_filter] at hr
    rcases hr with (h | h | h) | h | h
    · exact .row (List.mem_map_of_mem (by simp [h]))
    · exact .row (List.mem_map_of_mem (by simp [h]))
    · exact inR r h.1
    · subst h
      exact .row (List.mem_map_of_mem (by simp [hl]))
    · exact inR r h.1
  · simp only [List.mem_append] at hs
    rcases hs with (h | h) | h
    · exact .row (List.mem_map_of_mem (by simp [h]))
    · exact .row (List.mem_map_of_mem (by simp [h]))
    · by_cases e : s = least
      · subst e
        exact .row (List.mem_map_of_mem (by simp))
      · have hr : red at_ least s ∈ rests := List.mem_map_of_mem (List.mem_filter.mpr ⟨h, by simp [e]⟩)
        have hL : Sp (fvs (X ++ (left ++ rests.filter (fun r => fv r at_ == 0 && r != zero)) ++ (least :: rests.filter fun r => fv r at_ != 0))) (fv least) := .row (List.mem_map_of_mem (by simp))
        have hR : Sp (fvs (X ++ (left ++ rests.filter (fun r => fv r at_ == 0 && r != zero)) ++ (least :: rests.filter fun r => fv r at_ != 0))) (fv (red at_ least s)) := by
          by_cases c : fv (red at_ least s) at_ = 0
          · by_cases d : red at_ least s = zero
            · rw [d, hz]
              exact Sp.zero.cast fun j => (fv_zero j).symm
            · exact .row (List.mem_map_of_mem (List.mem_append_left _ (List.mem_append_right _ (List.mem_append_right _ (List.mem_filter.mpr ⟨hr, by simp [c, d]⟩)))))
          · exact .row (List.mem_map_of_mem (List.mem_append_right _ (List.mem_cons_of_mem _ (List.mem_filter.mpr ⟨hr, by simp [c]⟩))))
        exact (hR.add (hL.mul ((fv s at_).fdiv (fv least at_)))).cast fun j => by rw [fv_red (hlen s h)]; omega
end TM
/-! ### a new pivot: Hermite rows again; the loop's measure (plain) -/
namespace TM
def redV (at_ : Nat) (piv r : Vc) : Vc := fun j => r j - (r at_).fdiv (piv at_) * piv j
theorem fmod_rng {a b : Int} (h : 0 < b) : 0 ≤ a.fmod b ∧ a.fmod b < b := ⟨Int.fmod_nonneg_of_pos a h, Int.fmod_lt_of_pos a h⟩
theorem redV_at {at_ : Nat} {piv r : Vc} (h : 0 < piv at_) : 0 ≤ redV at_ piv r at_ ∧ redV at_ piv r at_ < piv at_ := by
  have e : redV at_ piv r at_ = (r at_).fmod (piv at_) := by
    unfold redV
    rw [Int.fmod_def, Int.mul_comm]
  rw [e]
  exact fmod_rng h
theorem redV_off {at_ j : Nat} {piv r : Vc} (h : piv j = 0) : redV at_ piv r j = r j := by
  unfold redV
  rw [h, Int.mul_zero, Int.sub_zero]
theorem HF.snoc {at_ : Nat} {piv : Vc} (hz : ∀ j, j < at_ → piv j = 0) (hp : 0 < piv at_) : ∀ {k : Nat} {F : List (Nat × Vc)}, k ≤ at_ → HF k F → (∀ x ∈ F, x.1 < at_) → HF k ((F.map fun x => (x.1, redV at_ piv x.2)) ++ [(at_, piv)])
  | k, [], hk, _, _ => ⟨hk, hz, hp, trivial, fun x hx => absurd hx List.not_mem_nil⟩
  | k, (p, r) :: F, hk, ⟨h1, h2, h3, h4, h5⟩, hl => by
    have hpa : p < at_ := hl (p, r) List.mem_cons_self
    refine ⟨h1, fun j hj => ?_, ?_, HF.snoc hz hp (by omega) h4 fun x hx => hl x (List.mem_cons_of_mem _ hx), fun x hx => ?_⟩
    · show redV at_ piv r j = 0
      rw [redV_off (hz j (by omega))]
      exact h2 j hj
    · show 0 < redV at_ piv r p
      rw [redV_off (hz p hpa)]
      exact h3
    · rcases List.mem_append.mp hx with hx | hx
      · obtain ⟨y, hy, rfl⟩ := List.mem_map.mp hx
        have hy1 := hl y (List.mem_cons_of_mem _ hy)
        have h0 := hz y.1 hy1
        show 0 ≤ redV at_ piv r y.1 ∧ redV at_ piv r y.1 < redV at_ piv y.2 y.1
        rw [redV_off h0, redV_off h0]
        exact h5 y hy
      · rw [List.mem_singleton.mp hx]
        exact redV_at hp
/-- sum of |row[at]| -/
def meas (at_ : Nat) : List Row → Nat
  | [] => 0
  | r :: rs => (fv r at_).natAbs + meas at_ rs
theorem meas_le {at_ : Nat} {f : Row → Row} {p : Row → Bool} : ∀ {l : List Row}, (∀ r ∈ l, (fv (f r) at_).natAbs ≤ (fv r at_).natAbs) → meas at_ ((l.map f).filter p) ≤ meas at_ l
  | [], _ => Nat.le_refl _
  | r :: l, h => by
    have ih := meas_le (f := f) (p := p) (l := l) fun x hx => h x (List.mem_cons_of_mem _ hx)
    have h0 := h r List.mem_cons_self
    rw [List.map_cons, List.filter_cons]
    split
    · simp only [meas]; omega
    · simp only [meas]; omega
theorem meas_filter {at_ : Nat} {p : Row → Bool} : ∀ {l : List Row}, meas at_ (l.filter p) ≤ meas at_ l
  | [] => Nat.le_refl _
  | r :: l => by
    have ih := meas_filter (at_ := at_) (p := p) (l := l)
    rw [List.filter_cons]
    split
    · simp only [meas]; omega
    · simp only [meas]; omega
/-- |a fmod b| < |b| -/
theorem fmod_abs {a b : Int} (h : b ≠ 0) : (a.fmod b).natAbs < b.natAbs := by
  rcases Int.lt_or_gt_of_ne h with h | h
  · have h1 := Int.fmod_nonneg_of_pos (-a) (b := -b) (by omega)
    have h2 := Int.fmod_lt_of_pos (-a) (b := -b) (by omega)
    rw [Int.neg_fmod_neg] at h1 h2
    omega
  · have := fmod_rng (a := a) h
    omega
section
variable {at_ : Nat} {least : Row} {p : Row → Bool}
theorem red_lt {r : Row} (h : r.length = least.length) (h0 : fv least at_ ≠ 0) : (fv (red at_ least r) at_).natAbs < (fv least at_).natAbs := by
  rw [red_at h]
  exact fmod_abs h0
theorem meas_dropA (h0 : fv least at_ ≠ 0) : ∀ {l : List Row}, (∀ r ∈ l, r.length = least.length ∧ (fv least at_).natAbs ≤ (fv r at_).natAbs) → meas at_ (((l.filter fun r => r != least).map (red at_ least)).filter p) + l.length ≤ meas at_ l
  | [], _ => Nat.le_refl _
  | r :: l, h => by
    have ih := meas_dropA h0 (l := l) fun x hx => h x (List.mem_cons_of_mem _ hx)
    have h1 := h r List.mem_cons_self
    have h2 := red_lt h1.1 h0
    have h3 : 0 < (fv least at_).natAbs := Int.natAbs_pos.mpr h0
    rw [List.filter_cons]
    split
    · rw [List.map_cons, List.filter_cons]
      split
      · simp only [meas, List.length_cons]; omega
      · simp only [meas, List.length_cons]; omega
    · simp only [meas, List.length_cons]; omega
/-- the measure goes down by a turn -/
theorem meas_drop (h0 : fv least at_ ≠ 0) : ∀ {l : List Row}, least ∈ l → (∀ r ∈ l, r.length = least.length ∧ (fv least at_).natAbs ≤ (fv r at_).natAbs) → meas at_ (((l.filter fun r => r != least).map (red at_ least)).filter p) + (fv least at_).natAbs + (l.length - 1) ≤ meas at_ l
  | [], hm, _ => absurd hm List.not_mem_nil
  | r :: l, hm, h => by
    by_cases e : r = least
    · subst e
      have ih := meas_dropA (p := p) h0 (l := l) fun x hx => h x (List.mem_cons_of_mem _ hx)
      rw [List.filter_cons, if_neg (by simp)]
      simp only [meas, List.length_cons]
      omega
    · have hm' : least ∈ l := (List.mem_cons.mp hm).resolve_left fun z => e z.symm
      have ih := meas_drop h0 (l := l) hm' fun x hx => h x (List.mem_cons_of_mem _ hx)
      have h1 := h r List.mem_cons_self
      have h2 := red_lt h1.1 h0
      have hl : 0 < l.length := List.length_pos_of_mem hm'
      rw [List.filter_cons, if_pos (by simp [e]), List.map_cons, List.filter_cons]
      split
      · simp only [meas, List.length_cons]; omega
      · simp only [meas, List.length_cons]; omega
end
end TM
/-! ### how great the numbers get (plain) -/
namespace TM
def Mx (at_ c : Nat) (l : List Row) : Prop := ∀ r ∈ l, (fv r at_).natAbs ≤ c
def Ent (A : Nat) (l : List Row) : Prop := ∀ r ∈ l, ∀ j, (fv r j).natAbs ≤ A
theorem fdiv_abs {a b : Int} (h : b ≠ 0) : (a.fdiv b).natAbs ≤ a.natAbs / b.natAbs + 1 := by
  have e : a.fmod b + b * a.fdiv b = a := Int.fmod_add_mul_fdiv a b
  have hm := fmod_abs (a := a) h
  have h3 : 0 < b.natAbs := Int.natAbs_pos.mpr h
  have e2 : (b * a.fdiv b).natAbs ≤ a.natAbs + b.natAbs := by omega
  rw [Int.natAbs_mul] at e2
  have e3 : (a.fdiv b).natAbs ≤ (a.natAbs + b.natAbs) / b.natAbs := by
    rw [Nat.le_div_iff_mul_le h3, Nat.mul_comm]
    exact e2
  rw [Nat.add_div_right _ h3] at e3
  exact e3
section
variable {at_ c A : Nat} {least : Row} {l : List Row}
theorem red_ent (hc : Mx at_ c l) (hA : Ent A l) (hl : least ∈ l) (h0 : fv least at_ ≠ 0) {r : Row} (hr : r ∈ l) (hlen : r.length = least.length) (j : Nat) : (fv (red at_ least r) j).natAbs ≤ A + (c / (fv least at_).natAbs + 1) * A := by
  rw [fv_red hlen]
  have q := fdiv_abs (a := fv r at_) h0
  have q2 : (fv r at_).natAbs / (fv least at_).natAbs ≤ c / (fv least at_).natAbs := Nat.div_le_div_right (hc r hr)
  have h1 := hA r hr j
  have h2 := hA least hl j
  have h3 : ((fv r at_).fdiv (fv least at_) * fv least j).natAbs ≤ (c / (fv least at_).natAbs + 1) * A := by
    rw [Int.natAbs_mul]
    exact Nat.mul_le_mul (by omega) h2
  omega
theorem pot {m : Nat} (hm : m ≤ c) : m * (A + (c / m + 1) * A) ≤ 3 * (c * A) := by
  have h1 : m * (c / m) ≤ c := Nat.mul_div_le c m
  have h2 : m * A ≤ c * A := Nat.mul_le_mul_right A hm
  have h3 : m * (c / m) * A ≤ c * A := Nat.mul_le_mul_right A h1
  have e : m * (A + (c / m + 1) * A) = 2 * (m * A) + m * (c / m) * A := by
    rw [Nat.mul_add, Nat.add_mul, Nat.mul_add, Nat.one_mul, Nat.mul_assoc]
    omega
  omega
end
/-- all of one sign at the column -/
def Sgn (at_ : Nat) (l : List Row) : Prop := (∀ r ∈ l, 0 < fv r at_) ∨ ∀ r ∈ l, fv r at_ < 0
/-- the column's state behind its first turn -/
def St (at_ K P : Nat) (l : List Row) : Prop := Sgn at_ l ∧ ∃ c A e, Mx at_ c l ∧ Ent A l ∧ e ≤ K ∧ c ≤ 2 ^ e ∧ (c * A ≤ P * 16 ^ (K - e) ∨ (c * A ≤ 4 * (P * 16 ^ (K - e)) ∧ ∃ r ∈ l, 2 * (fv r at_).natAbs ≤ 2 ^ e))
theorem fmod_same {a b : Int} (h : 0 < b) : 0 ≤ a.fmod b ∧ a.fmod b < b := fmod_rng h
theorem fmod_neg' {a b : Int} (h : b < 0) : b < a.fmod b ∧ a.fmod b ≤ 0 := by
  have h1 := Int.fmod_nonneg_of_pos (-a) (b := -b) (by omega)
  have h2 := Int.fmod_lt_of_pos (-a) (b := -b) (by omega)
  rw [Int.neg_fmod_neg] at h1 h2
  omega
/-- the rows of the column behind a turn -/
def nxt (at_ : Nat) (least : Row) (l : List Row) : List Row := least :: ((l.filter fun r => r != least).map (red at_ least)).filter fun r => fv r at_ != 0
theorem mem_nxt {at_ : Nat} {least x : Row} {l : List Row} (h : x ∈ nxt at_ least l) : x = least ∨ ∃ r ∈ l, r ≠ least ∧ x = red at_ least r ∧ fv x at_ ≠ 0 := by
  unfold nxt at h
  rcases List.mem_cons.mp h with h | h
  · exact .inl h
  · obtain ⟨h1, h2⟩ := List.mem_filter.mp h
    obtain ⟨r, h3, rfl⟩ := List.mem_map.mp h1
    obtain ⟨h3, h4⟩ := List.mem_filter.mp h3
    exact .inr ⟨r, h3, by simpa using h4, rfl, by simpa using h2⟩
section
variable {at_ K P : Nat} {least : Row} {l : List Row}
theorem nxt_sgn (hlen : ∀ r ∈ l, r.length = least.length) (h0 : fv least at_ ≠ 0) : Sgn at_ (nxt at_ least l) := by
  rcases Int.lt_or_gt_of_ne h0 with h | h
  · refine .inr fun x hx => ?_
    rcases mem_nxt hx with e | ⟨r, hr, _, e, n0⟩
    · rw [e]; exact h
    · subst e
      rw [red_at (hlen r hr)] at n0 ⊢
      have := fmod_neg' (a := fv r at_) h
      omega
  · refine .inl fun x hx => ?_
    rcases mem_nxt hx with e | ⟨r, hr, _, e, n0⟩
    · rw [e]; exact h
    · subst e
      rw [red_at (hlen r hr)] at n0 ⊢
      have := fmod_rng (a := fv r at_) h
      omega
theorem nxt_mx (hlen : ∀ r ∈ l, r.length = least.length) (h0 : fv least at_ ≠ 0) : Mx at_ (fv least at_).natAbs (nxt at_ least l) := fun x hx => by
  rcases mem_nxt hx with e | ⟨r, hr, _, e, _⟩
  · rw [e]; exact Nat.le_refl _
  · rw [e]
    exact Nat.le_of_lt (red_lt (hlen r hr) h0)
theorem nxt_ent {c A : Nat} (hlen : ∀ r ∈ l, r.length = least.length) (h0 : fv least at_ ≠ 0) (hl : least ∈ l) (hc : Mx at_ c l) (hA : Ent A l) : Ent (A + (c / (fv least at_).natAbs + 1) * A) (nxt at_ least l) := fun x hx j => by
  rcases mem_nxt hx with e | ⟨r, hr, _, e, _⟩
  · rw [e]
    have := hA least hl j
    omega
  · rw [e]
    exact red_ent hc hA hl h0 hr (hlen r hr) j
/-- the state behind the first turn -/
theorem st_first {c A : Nat} (hlen : ∀ r ∈ l, r.length = least.length) (h0 : fv least at_ ≠ 0) (hl : least ∈ l) (hc : Mx at_ c l) (hA : Ent A l) (hK : c ≤ 2 ^ K) : St at_ K (3 * (c * A)) (nxt at_ least l) :=
  ⟨nxt_sgn hlen h0, _, _, K, nxt_mx hlen h0, nxt_ent hlen h0 hl hc hA, Nat.le_refl _, Nat.le_trans (hc least hl) hK, .inl (by rw [Nat.sub_self, Nat.pow_zero, Nat.mul_one]; exact pot (hc least hl))⟩
end
end TM
namespace TM
section
variable {at_ K P : Nat} {least : Row} {l : List Row}
/-- a remainder of one sign: |a| < 2 |b| -/
theorem fmod_once {a b : Int} (hs : (0 < a ∧ 0 < b) ∨ (a < 0 ∧ b < 0)) (h1 : b.natAbs ≤ a.natAbs) (h2 : a.natAbs < 2 * b.natAbs) : (a.fmod b).natAbs + b.natAbs = a.natAbs := by
  have key : ∀ a b : Int, 0 < b → b ≤ a → a < 2 * b → a.fmod b = a - b := fun a b hb h3 h4 => by
    rw [Int.fmod_eq_emod_of_nonneg a (by omega), ← Int.sub_emod_right a b, Int.emod_eq_of_lt (by omega) (by omega)]
  rcases hs with ⟨ha, hb⟩ | ⟨ha, hb⟩
  · rw [key a b hb (by omega) (by omega)]
    omega
  · have := key (-a) (-b) (by omega) (by omega) (by omega)
    rw [Int.neg_fmod_neg] at this
    omega
theorem st_next (h : St at_ K P l) (hlen : ∀ r ∈ l, r.length = least.length) (n0 : ∀ r ∈ l, fv r at_ ≠ 0) (hl : least ∈ l) (hm : ∀ r ∈ l, (fv least at_).natAbs ≤ (fv r at_).natAbs) : nxt at_ least l = [least] ∨ St at_ K P (nxt at_ least l) := by
  obtain ⟨sg, c, A, e, hc, hA, he, hce, hp⟩ := h
  have h0 := n0 least hl
  have hpos : 0 < (fv least at_).natAbs := Int.natAbs_pos.mpr h0
  have hmc := hc least hl
  have hpt := pot (A := A) hmc
  by_cases hone : nxt at_ least l = [least]
  · exact .inl hone
  · refine .inr ?_
    -- another row
    obtain ⟨x, hx⟩ : ∃ x, x ∈ ((l.filter fun r => r != least).map (red at_ least)).filter fun r => fv r at_ != 0 := by
      refine List.exists_mem_of_ne_nil _ fun z => hone ?_
      unfold nxt
      rw [z]
    have hxn : x ∈ nxt at_ least l := List.mem_cons_of_mem _ hx
    obtain ⟨r, hr, hne, ex, x0⟩ : ∃ r ∈ l, r ≠ least ∧ x = red at_ least r ∧ fv x at_ ≠ 0 := by
      obtain ⟨h1, h2⟩ := List.mem_filter.mp hx
      obtain ⟨r, h3, h4⟩ := List.mem_map.mp h1
      obtain ⟨h3, h5⟩ := List.mem_filter.mp h3
      exact ⟨r, h3, by simpa using h5, h4.symm, by simpa using h2⟩
    have hxm : (fv x at_).natAbs < (fv least at_).natAbs := by rw [ex]; exact red_lt (hlen r hr) h0
    have hx1 : 0 < (fv x at_).natAbs := Int.natAbs_pos.mpr x0
    have he0 : e ≠ 0 := fun z => by
      subst z
      simp at hce
      omega
    obtain ⟨e', rfl⟩ : ∃ e', e = e' + 1 := ⟨e - 1, by omega⟩
    have e2 : 2 ^ (e' + 1) = 2 * 2 ^ e' := by rw [Nat.pow_succ, Nat.mul_comm]
    have e16 : 16 ^ (K - e') = 16 * 16 ^ (K - (e' + 1)) := by
      rw [show K - e' = (K - (e' + 1)) + 1 by omega, Nat.pow_succ, Nat.mul_comm]
    have eP : P * 16 ^ (K - e') = 16 * (P * 16 ^ (K - (e' + 1))) := by rw [e16, Nat.mul_left_comm]
    refine ⟨nxt_sgn hlen h0, (fv least at_).natAbs, A + (c / (fv least at_).natAbs + 1) * A, ?_⟩
    by_cases hsm : (fv least at_).natAbs ≤ 2 ^ e'
    · refine ⟨e', nxt_mx hlen h0, nxt_ent hlen h0 hl hc hA, by omega, hsm, .inl ?_⟩
      rw [eP]
      rcases hp with hp | ⟨hp, _⟩ <;> omega
    · refine ⟨e' + 1, nxt_mx hlen h0, nxt_ent hlen h0 hl hc hA, he, Nat.le_trans hmc hce, .inr ?_⟩
      rcases hp with hp | ⟨_, y, hy, hy2⟩
      · refine ⟨by omega, x, hxn, ?_⟩
        have hs : (0 < fv r at_ ∧ 0 < fv least at_) ∨ (fv r at_ < 0 ∧ fv least at_ < 0) := sg.elim (fun s => .inl ⟨s r hr, s least hl⟩) fun s => .inr ⟨s r hr, s least hl⟩
        have hrc := hc r hr
        have := fmod_once hs (hm r hr) (by omega)
        rw [ex, red_at (hlen r hr)]
        omega
      · have := hm y hy
        omega
/-- what the state says of the numbers -/
theorem St.ent (h : St at_ K P l) (n0 : ∀ r ∈ l, fv r at_ ≠ 0) : Ent (4 * (P * 16 ^ K)) l := by
  obtain ⟨_, c, A, e, hc, hA, he, hce, hp⟩ := h
  intro r hr j
  have h1 := hA r hr j
  have h2 : 0 < c := Nat.lt_of_lt_of_le (Int.natAbs_pos.mpr (n0 r hr)) (hc r hr)
  have h3 : A ≤ c * A := Nat.le_mul_of_pos_left A h2
  have h4 : P * 16 ^ (K - e) ≤ P * 16 ^ K := Nat.mul_le_mul_left P (Nat.pow_le_pow_right (by decide) (Nat.sub_le _ _))
  rcases hp with hp | ⟨hp, _⟩ <;> omega
end
end TM
/-! ### one column of `normal`: what holds at each turn (plain) -/
namespace TM
/-- behind a column the numbers are at most 2 ^ grow a -/
def grow (a : Nat) : Nat := 6 * a + 6
/-- the exponent of the column's numbers -/
def gk (w k B : Nat) : Nat := if k + 1 < w then grow B else B
theorem Ent.mono {A B : Nat} {l : List Row} (h : Ent A l) (hB : A ≤ B) : Ent B l := fun r hr j => Nat.le_trans (h r hr j) hB
theorem Ent.sub {A : Nat} {l m : List Row} (h : Ent A l) (hs : ∀ r ∈ m, r ∈ l) : Ent A m := fun r hr j => h r (hs r hr) j
theorem Ent.app {A : Nat} {l m : List Row} (h : Ent A l) (k : Ent A m) : Ent A (l ++ m) := fun r hr j => (List.mem_append.mp hr).elim (fun x => h r x j) fun x => k r x j
theorem le_gk (w k B : Nat) : B ≤ gk w k B := by unfold gk grow; split <;> omega
theorem p2 {a b : Nat} (h : a ≤ b) : 2 ^ a ≤ 2 ^ b := Nat.pow_le_pow_right (by decide) h
structure TI (w k B : Nat) (found left here rows : List Row) : Prop where
  lH : ∀ r ∈ here, r.length = w
  lL : ∀ r ∈ left, r.length = w
  zH : ∀ r ∈ here, ∀ j, j < k → fv r j = 0
  nH : ∀ r ∈ here, fv r k ≠ 0
  zL : ∀ r ∈ left, ∀ j, j ≤ k → fv r j = 0
  sp : SpE (found ++ left ++ here) rows
  mx : Mx k (2 ^ B) here
  st : k + 1 < w → Ent (2 ^ B) here ∨ here.length ≤ 1 ∨ St k B (3 * (2 ^ B * 2 ^ B)) here
  eH : Ent (2 ^ gk w k B) here
  eL : Ent (2 ^ gk w k B) left
  cnt : left.length + here.length ≤ 1000
theorem fv_out {r : Row} {j : Nat} (h : r.length ≤ j) : fv r j = 0 := by
  simp [fv, List.getD, h]
section
variable {w k B : Nat} {found left here rows : List Row} {least : Row}
/-- the numbers of the rows behind a turn -/
theorem TI.ent (h : TI w k B found left here rows) (hl : least ∈ here) (h2 : 2 ≤ here.length) (hk : k < w) : ∀ r ∈ here, ∀ j, (fv (red k least r) j).natAbs ≤ 2 ^ gk w k B := by
  intro r hr j
  have hlen : r.length = least.length := by rw [h.lH r hr, h.lH least hl]
  have h0 := h.nH least hl
  by_cases hw : k + 1 < w
  · have key : ∃ c A, Mx k c here ∧ Ent A here ∧ 3 * (c * A) ≤ 2 ^ grow B := by
      have e1 : 2 ^ grow B = 64 * (2 ^ B * 2 ^ B * 16 ^ B) := by
        rw [show (16 : Nat) = 2 ^ 4 from rfl, ← Nat.pow_mul, ← Nat.pow_add, ← Nat.pow_add, show (64 : Nat) = 2 ^ 6 from rfl, ← Nat.pow_add]
        congr 1
        unfold grow
        omega
      have h16 : 1 ≤ 16 ^ B := Nat.one_le_pow _ _ (by decide)
      rcases h.st hw with s | s | ⟨_, c, A, e, hc, hA, he, hce, hp⟩
      · refine ⟨_, _, h.mx, s, ?_⟩
        rw [e1]
        have := Nat.mul_le_mul_left (2 ^ B * 2 ^ B) h16
        omega
      · omega
      · refine ⟨c, A, hc, hA, ?_⟩
        rw [e1]
        have h4 : 3 * (2 ^ B * 2 ^ B) * 16 ^ (B - e) ≤ 3 * (2 ^ B * 2 ^ B) * 16 ^ B := Nat.mul_le_mul_left _ (Nat.pow_le_pow_right (by decide) (Nat.sub_le _ _))
        have h5 : 3 * (2 ^ B * 2 ^ B) * 16 ^ B = 3 * (2 ^ B * 2 ^ B * 16 ^ B) := Nat.mul_assoc _ _ _
        rcases hp with hp | ⟨hp, _⟩ <;> omega
    obtain ⟨c, A, hc, hA, hb⟩ := key
    have q := red_ent hc hA hl h0 hr hlen j
    have q2 := pot (A := A) (hc least hl)
    have hpos : 0 < (fv least k).natAbs := Int.natAbs_pos.mpr h0
    have q3 : A + (c / (fv least k).natAbs + 1) * A ≤ (fv least k).natAbs * (A + (c / (fv least k).natAbs + 1) * A) := Nat.le_mul_of_pos_left _ hpos
    unfold gk
    rw [if_pos hw]
    omega
  · have hwk : w = k + 1 := by omega
    have hg : gk w k B = B := by unfold gk; rw [if_neg hw]
    rw [hg]
    rcases Nat.lt_trichotomy j k with z | z | z
    · rw [fv_red hlen, h.zH r hr j z, h.zH least hl j z]
      simp
    · subst z
      have := red_lt (r := r) hlen h0
      have := h.mx least hl
      omega
    · rw [fv_out (by rw [red_len hlen, h.lH r hr]; omega)]
      exact Nat.zero_le _
theorem TI.turn (h : TI w k B found left here rows) (hl : least ∈ here) (hm : ∀ r ∈ here, (fv least k).natAbs ≤ (fv r k).natAbs) (h2 : 2 ≤ here.length) (hk : k < w) :
    TI w k B found (left ++ ((here.filter fun r => r != least).map (red k least)).filter (fun r => fv r k == 0 && r != List.replicate w 0)) (nxt k least here) rows ∧ meas k (nxt k least here) < meas k here := by
  have hlen : ∀ r ∈ here, r.length = least.length := fun r hr => by rw [h.lH r hr, h.lH least hl]
  have h0 := h.nH least hl
  have he := h.ent hl h2 hk
  have inN : ∀ x ∈ nxt k least here, x = least ∨ ∃ r ∈ here, x = red k least r ∧ fv x k ≠ 0 := fun x hx => (mem_nxt hx).elim .inl fun ⟨r, a, b, c, d⟩ => .inr ⟨r, a, c, d⟩
  have inL : ∀ x ∈ left ++ ((here.filter fun r => r != least).map (red k least)).filter (fun r => fv r k == 0 && r != List.replicate w 0), x ∈ left ∨ ∃ r ∈ here, x = red k least r ∧ fv x k = 0 := fun x hx => by
    rcases List.mem_append.mp hx with z | z
    · exact .inl z
    · obtain ⟨z1, z2⟩ := List.mem_filter.mp z
      obtain ⟨r, z3, rfl⟩ := List.mem_map.mp z1
      have z4 := (Bool.and_eq_true_iff.mp z2).1
      exact .inr ⟨r, (List.mem_filter.mp z3).1, rfl, by simpa using z4⟩
  refine ⟨⟨fun x hx => ?_, fun x hx => ?_, fun x hx j hj => ?_, fun x hx => ?_, fun x hx j hj => ?_, ?_, ?_, fun hw => ?_, fun x hx j => ?_, fun x hx j => ?_, ?_⟩, ?_⟩
  · rcases inN x hx with z | ⟨r, hr, z, _⟩
    · rw [z]; exact h.lH _ hl
    · rw [z, red_len (hlen r hr)]; exact h.lH r hr
  · rcases inL x hx with z | ⟨r, hr, z, _⟩
    · exact h.lL x z
    · rw [z, red_len (hlen r hr)]; exact h.lH r hr
  · rcases inN x hx with z | ⟨r, hr, z, _⟩
    · rw [z]; exact h.zH _ hl j hj
    · rw [z, fv_red (hlen r hr), h.zH r hr j hj, h.zH least hl j hj]; simp
  · rcases inN x hx with z | ⟨r, hr, z, n⟩
    · rw [z]; exact h0
    · exact n
  · rcases inL x hx with z | ⟨r, hr, z, n⟩
    · exact h.zL x z j hj
    · rcases Nat.lt_or_eq_of_le hj with y | y
      · rw [z, fv_red (hlen r hr), h.zH r hr j y, h.zH least hl j y]; simp
      · rw [y]; exact n
  · have := turn_span (X := found) (left := left) hl h.lH (List.replicate w 0) rfl h.nH
    exact SpE.trans this h.sp
  · intro x hx
    exact Nat.le_trans (nxt_mx hlen h0 x hx) (h.mx least hl)
  · rcases h.st hw with s | s | s
    · exact .inr (.inr (st_first hlen h0 hl h.mx s (Nat.le_refl _)))
    · omega
    · rcases st_next s hlen h.nH hl hm with z | z
      · exact .inr (.inl (by rw [z]; simp))
      · exact .inr (.inr z)
  · rcases inN x hx with z | ⟨r, hr, z, _⟩
    · rw [z]; exact h.eH _ hl j
    · rw [z]; exact he r hr j
  · rcases inL x hx with z | ⟨r, hr, z, _⟩
    · exact h.eL x z j
    · rw [z]; exact he r hr j
  · have c := h.cnt
    have key : ∀ l : List Row, ((l.filter fun r => fv r k == 0 && r != List.replicate w 0).length + (l.filter fun r => fv r k != 0).length ≤ l.length) := fun l => by
      induction l with
      | nil => simp
      | cons a l ih =>
        rw [List.filter_cons, List.filter_cons]
        by_cases z : fv a k = 0
        · simp only [z, bne_self_eq_false, List.length_cons]
          simp only [Bool.false_eq_true, if_false]
          split
          · rw [List.length_cons]; omega
          · omega
        · have z1 : (fv a k == 0) = false := by simpa using z
          have z2 : (fv a k != 0) = true := by simpa using z
          simp only [z1, z2, Bool.false_and, if_true, List.length_cons]
          simp only [Bool.false_eq_true, if_false]
          omega
    have k1 := key ((here.filter fun r => r != least).map (red k least))
    rw [List.length_map] at k1
    have k2 : (here.filter fun r => r != least).length < here.length := by
      rw [List.length_filter_lt_length_iff_exists]
      exact ⟨least, hl, by simp⟩
    unfold nxt
    rw [List.length_append, List.length_cons]
    omega
  · have := meas_drop (p := fun r => fv r k != 0) h0 hl fun r hr => ⟨hlen r hr, hm r hr⟩
    unfold nxt
    simp only [meas]
    omega
end
end TM
/-! ### from column to column (plain) -/
namespace TM
/-- exponents: of the rows that are left ahead of column k, of the rows that are found -/
def Bk : Nat → Nat
  | 0 => 41
  | 1 => 252
  | _ => 1518
def Fb : Nat → Nat
  | 0 => 0
  | 1 => 254
  | 2 => 1774
  | _ => 3294
theorem gk_le {w k : Nat} (hk : k < w) (h3 : w ≤ 3) : gk w k (Bk k) ≤ Bk (k + 1) ∧ Fb k + gk w k (Bk k) + 2 ≤ Fb (k + 1) := by
  have : k = 0 ∨ k = 1 ∨ k = 2 := by omega
  rcases this with rfl | rfl | rfl
  · unfold gk; split <;> decide
  · unfold gk; split <;> decide
  · rw [show gk w 2 (Bk 2) = Bk 2 from by unfold gk; rw [if_neg (by omega)]]; decide
structure Col (w k : Nat) (found left rows : List Row) : Prop where
  lF : ∀ r ∈ found, r.length = w
  lL : ∀ r ∈ left, r.length = w
  hf : ∃ ls : List Nat, ls.length = found.length ∧ HF 0 (ls.zip (found.map fv)) ∧ ∀ l ∈ ls, l < k
  zL : ∀ r ∈ left, ∀ j, j < k → fv r j = 0
  sp : SpE (found ++ left) rows
  eF : Ent (2 ^ Fb k) found
  eL : Ent (2 ^ Bk k) left
  dg : found.length = k → ∀ pre r post, found = pre ++ r :: post → (fv r pre.length).natAbs ≤ 2 ^ Bk pre.length
  fl : found.length ≤ k
  cnt : left.length ≤ 1000
section
variable {w k : Nat} {found left here rows : List Row}
theorem spE_perm {R S : List Row} (h : ∀ r, r ∈ R ↔ r ∈ S) : SpE R S := ⟨fun r hr => .row (List.mem_map_of_mem ((h r).mp hr)), fun s hs => .row (List.mem_map_of_mem ((h s).mpr hs))⟩
/-- the column's first state -/
theorem Col.start (h : Col w k found left rows) (hk : k < w) :
    TI w k (Bk k) found (left.filter fun r => fv r k == 0) (left.filter fun r => fv r k != 0) rows := by
  have m1 : ∀ r ∈ left.filter (fun r => fv r k == 0), r ∈ left ∧ fv r k = 0 := fun r hr => by
    obtain ⟨a, b⟩ := List.mem_filter.mp hr
    exact ⟨a, by simpa using b⟩
  have m2 : ∀ r ∈ left.filter (fun r => fv r k != 0), r ∈ left ∧ fv r k ≠ 0 := fun r hr => by
    obtain ⟨a, b⟩ := List.mem_filter.mp hr
    exact ⟨a, by simpa using b⟩
  refine ⟨fun r hr => h.lL r (m2 r hr).1, fun r hr => h.lL r (m1 r hr).1, fun r hr => h.zL r (m2 r hr).1, fun r hr => (m2 r hr).2, fun r hr j hj => ?_, ?_, fun r hr => h.eL r (m2 r hr).1 k, fun _ => .inl (h.eL.sub fun r hr => (m2 r hr).1), ?_, ?_, ?_⟩
  · rcases Nat.lt_or_eq_of_le hj with y | y
    · exact h.zL r (m1 r hr).1 j y
    · rw [y]; exact (m1 r hr).2
  · refine SpE.trans (spE_perm fun r => ?_) h.sp
    simp only [List.mem_append, List.mem_filter]
    constructor
    · rintro ((a | ⟨a, _⟩) | ⟨a, _⟩)
      · exact .inl a
      · exact .inr a
      · exact .inr a
    · rintro (a | a)
      · exact .inl (.inl a)
      · by_cases z : fv r k = 0
        · exact .inl (.inr ⟨a, by simpa using z⟩)
        · exact .inr ⟨a, by simpa using z⟩
  · exact (h.eL.sub fun r hr => (m2 r hr).1).mono (p2 (le_gk w k (Bk k)))
  · exact (h.eL.sub fun r hr => (m1 r hr).1).mono (p2 (le_gk w k (Bk k)))
  · have c := h.cnt
    have key : ∀ l : List Row, (l.filter fun r => fv r k == 0).length + (l.filter fun r => fv r k != 0).length ≤ l.length := fun l => by
      induction l with
      | nil => simp
      | cons a l ih =>
        rw [List.filter_cons, List.filter_cons]
        by_cases z : fv a k = 0
        · have z1 : (fv a k == 0) = true := by simpa using z
          have z2 : (fv a k != 0) = false := by simpa using z
          simp only [z1, z2, if_true, List.length_cons]
          simp only [Bool.false_eq_true, if_false]
          omega
        · have z1 : (fv a k == 0) = false := by simpa using z
          have z2 : (fv a k != 0) = true := by simpa using z
          simp only [z1, z2, if_true, List.length_cons]
          simp only [Bool.false_eq_true, if_false]
          omega
    have := key left
    omega
/-- a column without a row -/
theorem Col.none (h : Col w k found L rows) (t : TI w k (Bk k) found left [] rows) (hk : k < w) (h3 : w ≤ 3) : Col w (k + 1) found left rows := by
  obtain ⟨g1, g2⟩ := gk_le hk h3
  refine ⟨h.lF, t.lL, ?_, fun r hr j hj => t.zL r hr j (by omega), ?_, h.eF.mono (p2 (by omega)), t.eL.mono (p2 g1), fun e => ?_, ?_, ?_⟩
  · obtain ⟨ls, a, b, c⟩ := h.hf
    exact ⟨ls, a, b, fun l hl => by have := c l hl; omega⟩
  · have := t.sp
    rw [List.append_nil] at this
    exact this
  · have := h.fl
    omega
  · have := h.fl
    omega
  · have := t.cnt
    simp at this
    exact this
def pivot (k : Nat) (r : Row) : Row := if 0 < fv r k then r else sc (-1) r
theorem fv_pivot_abs {r : Row} (j : Nat) : (fv (pivot k r) j).natAbs = (fv r j).natAbs := by
  unfold pivot
  split
  · rfl
  · rw [fv_sc]; omega
theorem pivot_len {r : Row} : (pivot k r).length = r.length := by
  unfold pivot
  split
  · rfl
  · exact sc_len
theorem pivot_pos {r : Row} (h : fv r k ≠ 0) : 0 < fv (pivot k r) k := by
  unfold pivot
  split
  · assumption
  · rw [fv_sc]; omega
theorem fv_red_V {r p : Row} (h : r.length = p.length) : fv (red k p r) = redV k (fv p) (fv r) := funext fun j => fv_red h j
theorem zip_red {p : Row} : ∀ {ls : List Nat} {f : List Row}, (∀ r ∈ f, r.length = p.length) → ls.zip ((f.map (red k p)).map fv) = (ls.zip (f.map fv)).map fun x => (x.1, redV k (fv p) x.2)
  | [], f, _ => by simp
  | l :: ls, [], _ => by simp
  | l :: ls, r :: f, h => by
    simp only [List.map_cons, List.zip_cons_cons]
    rw [zip_red fun x hx => h x (List.mem_cons_of_mem _ hx), fv_red_V (h r List.mem_cons_self)]
/-- the numbers of a row that a pivot has reduced -/
theorem red_num {r p : Row} {a e j : Nat} (hlen : r.length = p.length) (hr : ∀ j, (fv r j).natAbs ≤ 2 ^ a) (hp : ∀ j, (fv p j).natAbs ≤ 2 ^ e) (h0 : fv p k ≠ 0) : (fv (red k p r) j).natAbs ≤ 2 ^ (a + e + 2) := by
  rw [fv_red hlen]
  have q := fdiv_abs (a := fv r k) h0
  have q2 : (fv r k).natAbs / (fv p k).natAbs ≤ (fv r k).natAbs := Nat.div_le_self _ _
  have q3 := hr k
  have q4 : ((fv r k).fdiv (fv p k) * fv p j).natAbs ≤ (2 ^ a + 1) * 2 ^ e := by
    rw [Int.natAbs_mul]
    exact Nat.mul_le_mul (by omega) (hp j)
  have q5 := hr j
  have e1 : 2 ^ (a + e + 2) = 4 * (2 ^ a * 2 ^ e) := by rw [Nat.pow_add, Nat.pow_add]; omega
  have e2 : (2 ^ a + 1) * 2 ^ e = 2 ^ a * 2 ^ e + 2 ^ e := by rw [Nat.add_mul, Nat.one_mul]
  have p1 : 1 ≤ 2 ^ a := Nat.one_le_pow _ _ (by decide)
  have p2' : 1 ≤ 2 ^ e := Nat.one_le_pow _ _ (by decide)
  have s1 : 2 ^ a ≤ 2 ^ a * 2 ^ e := Nat.le_mul_of_pos_right _ p2'
  have s2 : 2 ^ e ≤ 2 ^ a * 2 ^ e := Nat.le_mul_of_pos_left _ p1
  omega
theorem spE_pivot {p r : Row} (hp : p = pivot k r) (hlen : ∀ x ∈ found, x.length = p.length) : SpE (found.map (red k p) ++ [p] ++ left) (found ++ left ++ [r]) := by
  have hpr : ∀ {S : List Row}, r ∈ S → Sp (fvs S) (fv p) := fun {S} hm => by
    subst hp
    unfold pivot
    split
    · exact .row (List.mem_map_of_mem hm)
    · exact (Sp.mul (-1) (.row (List.mem_map_of_mem hm))).cast fun j => by rw [fv_sc]
  have hrp : ∀ {S : List Row}, p ∈ S → Sp (fvs S) (fv r) := fun {S} hm => by
    subst hp
    unfold pivot at hm
    split at hm
    · exact .row (List.mem_map_of_mem hm)
    · exact (Sp.mul (-1) (.row (List.mem_map_of_mem hm))).cast fun j => by rw [fv_sc]; omega
  refine ⟨fun x hx => ?_, fun x hx => ?_⟩
  · simp only [List.mem_append, List.mem_singleton, List.mem_map] at hx
    rcases hx with (⟨y, hy, rfl⟩ | rfl) | hx
    · exact (Sp.sub (.row (List.mem_map_of_mem (show y ∈ found ++ left ++ [r] by simp [hy]))) (hpr (by simp)) _).cast fun j => (fv_red (hlen y hy) j).symm
    · exact hpr (by simp)
    · exact .row (List.mem_map_of_mem (by simp [hx]))
  · simp only [List.mem_append, List.mem_singleton] at hx
    rcases hx with (hx | hx) | rfl
    · have h1 : Sp (fvs (found.map (red k p) ++ [p] ++ left)) (fv (red k p x)) := .row (List.mem_map_of_mem (by simp; exact .inl ⟨x, hx, rfl⟩))
      have h2 : Sp (fvs (found.map (red k p) ++ [p] ++ left)) (fv p) := .row (List.mem_map_of_mem (by simp))
      exact (h1.add (h2.mul ((fv x k).fdiv (fv p k)))).cast fun j => by rw [fv_red (hlen x hx)]; omega
    · exact .row (List.mem_map_of_mem (by simp [hx]))
    · exact hrp (by simp)
theorem zip_fst_mem {α β : Type} {x : α × β} : ∀ {ls : List α} {xs : List β}, x ∈ ls.zip xs → x.1 ∈ ls
  | [], _, h => by simp at h
  | _ :: _, [], h => by simp at h
  | l :: ls, y :: xs, h => by
    rw [List.zip_cons_cons] at h
    rcases List.mem_cons.mp h with z | z
    · rw [z]; exact List.mem_cons_self
    · exact List.mem_cons_of_mem _ (zip_fst_mem z)
/-- a column with one row -/
theorem Col.one {r : Row} (h : Col w k found L rows) (t : TI w k (Bk k) found left [r] rows) (hk : k < w) (h3 : w ≤ 3) : Col w (k + 1) (found.map (red k (pivot k r)) ++ [pivot k r]) left rows := by
  obtain ⟨g1, g2⟩ := gk_le hk h3
  have hr : r ∈ [r] := List.mem_singleton.mpr rfl
  have hpl : (pivot k r).length = w := by rw [pivot_len]; exact t.lH r hr
  have hlen : ∀ x ∈ found, x.length = (pivot k r).length := fun x hx => by rw [h.lF x hx, hpl]
  have hpz : ∀ j, j < k → fv (pivot k r) j = 0 := fun j hj => by
    have := fv_pivot_abs (k := k) (r := r) j
    rw [t.zH r hr j hj] at this
    simpa using this
  have hp0 : fv (pivot k r) k ≠ 0 := by have := pivot_pos (t.nH r hr); omega
  have hpe : ∀ j, (fv (pivot k r) j).natAbs ≤ 2 ^ gk w k (Bk k) := fun j => by rw [fv_pivot_abs]; exact t.eH r hr j
  have hmem : ∀ x ∈ found.map (red k (pivot k r)) ++ [pivot k r], (∃ y ∈ found, x = red k (pivot k r) y) ∨ x = pivot k r := fun x hx => by
    rcases List.mem_append.mp hx with z | z
    · obtain ⟨y, hy, e⟩ := List.mem_map.mp z
      exact .inl ⟨y, hy, e.symm⟩
    · exact .inr (List.mem_singleton.mp z)
  refine ⟨fun x hx => ?_, t.lL, ?_, fun x hx j hj => t.zL x hx j (by omega), ?_, fun x hx j => ?_, t.eL.mono (p2 g1), fun e pre x post hs => ?_, ?_, ?_⟩
  · rcases hmem x hx with ⟨y, hy, e⟩ | e
    · rw [e, red_len (hlen y hy)]; exact h.lF y hy
    · rw [e]; exact hpl
  · obtain ⟨ls, a, b, c⟩ := h.hf
    refine ⟨ls ++ [k], by simp [a], ?_, fun l hl => ?_⟩
    · rw [List.map_append, List.zip_append (by simp [a]), zip_red hlen]
      exact HF.snoc hpz (pivot_pos (t.nH r hr)) (Nat.zero_le _) b fun x hx => c _ (zip_fst_mem hx)
    · rcases List.mem_append.mp hl with z | z
      · have := c l z; omega
      · rw [List.mem_singleton.mp z]; omega
  · exact SpE.trans (spE_pivot rfl hlen) t.sp
  · rcases hmem x hx with ⟨y, hy, e⟩ | e
    · rw [e]
      exact Nat.le_trans (red_num (hlen y hy) (h.eF y hy) hpe hp0) (p2 g2)
    · rw [e]
      exact Nat.le_trans (hpe j) (p2 (by omega))
  · have hfk : found.length = k := by simpa using e
    have hpre : pre.length ≤ found.length := by
      have := congrArg List.length hs
      simp at this
      omega
    have hx : (found.map (red k (pivot k r)) ++ [pivot k r])[pre.length]? = some x := by rw [hs]; simp
    by_cases hlt : pre.length < found.length
    · rw [List.getElem?_append_left (by simpa using hlt), List.getElem?_map, List.getElem?_eq_getElem hlt] at hx
      have hx' : red k (pivot k r) found[pre.length] = x := by simpa using hx
      rw [← hx', fv_red (hlen _ (List.getElem_mem hlt)), hpz pre.length (by omega), Int.mul_zero, Int.sub_zero]
      have hsp : found = found.take pre.length ++ found[pre.length] :: found.drop (pre.length + 1) := by
        rw [← List.drop_eq_getElem_cons hlt, List.take_append_drop]
      have := h.dg hfk _ _ _ hsp
      rw [List.length_take, Nat.min_eq_left (by omega)] at this
      exact this
    · have hek : pre.length = k := by omega
      rw [hek, List.getElem?_append_right (by simp [hfk])] at hx
      have hx' : pivot k r = x := by simpa [hfk] using hx
      rw [← hx', hek, fv_pivot_abs]
      exact t.mx r hr
  · have := h.fl
    simp
    exact this
  · have := t.cnt
    simp at this
    omega
theorem Col.init {w : Nat} {rows : List Row} (hl : ∀ r ∈ rows, r.length = w) (hA : Ent (2 ^ 41) rows) (hz : rows.length ≤ 1000) : Col w 0 [] (rows.filter fun r => r != List.replicate w 0) rows := by
  refine ⟨fun r hr => absurd hr List.not_mem_nil, fun r hr => hl r (List.mem_filter.mp hr).1, ⟨[], rfl, trivial, fun l hl => absurd hl List.not_mem_nil⟩, fun r _ j hj => absurd hj (Nat.not_lt_zero j), ?_, fun r hr => absurd hr List.not_mem_nil, hA.sub fun r hr => (List.mem_filter.mp hr).1, fun _ pre r post e => ?_, Nat.le_refl _, Nat.le_trans (List.length_filter_le _ _) hz⟩
  · rw [List.nil_append]
    refine ⟨fun r hr => .row (List.mem_map_of_mem (List.mem_filter.mp hr).1), fun s hs => ?_⟩
    by_cases z : s = List.replicate w 0
    · rw [z]
      exact Sp.zero.cast fun j => (fv_zero j).symm
    · exact .row (List.mem_map_of_mem (List.mem_filter.mpr ⟨hs, by simpa using z⟩))
  · simp at e
theorem Col.fin (h : Col w w found left rows) : SpE found rows := by
  refine SpE.trans ⟨fun r hr => .row (List.mem_map_of_mem (List.mem_append_left _ hr)), fun s hs => ?_⟩ h.sp
  rcases List.mem_append.mp hs with z | z
  · exact .row (List.mem_map_of_mem z)
  · refine Sp.zero.cast fun j => ?_
    by_cases hj : j < w
    · exact (h.zL s z j hj).symm
    · exact (fv_out (by rw [h.lL s z]; omega)).symm
end
end TM
/-! ### the law's own normal rows: a row that goes down the columns (plain) -/
namespace TM
def lb : Nat → Nat
  | 0 => 41
  | 1 => 225
  | 2 => 1145
  | _ => 5745
/-- the exponent of a slot's numbers behind p rows -/
def le (c p : Nat) : Nat := lb c + (p - 1) * (lb c + 5)
theorem lb_mono {a b : Nat} (h : a ≤ b) : lb a ≤ lb b := by
  have : ∀ c, c = 0 ∨ c = 1 ∨ c = 2 ∨ ∃ d, c = d + 3 := fun c => by
    rcases c with _ | _ | _ | c
    · simp
    · simp
    · simp
    · exact .inr (.inr (.inr ⟨c, rfl⟩))
  rcases this a with rfl | rfl | rfl | ⟨d, rfl⟩ <;> rcases this b with rfl | rfl | rfl | ⟨e, rfl⟩ <;> simp [lb] <;> omega
theorem le_mono {c p q : Nat} (h : p ≤ q) : le c p ≤ le c q := Nat.add_le_add_left (Nat.mul_le_mul_right _ (by omega)) _
theorem lb_le {c p : Nat} : lb c ≤ le c p := Nat.le_add_right _ _
theorem le_succ {c p : Nat} (h : p ≠ 0) : le c (p + 1) = lb c + le c p + 5 := by
  obtain ⟨q, rfl⟩ : ∃ q, p = q + 1 := ⟨p - 1, by omega⟩
  unfold le
  simp only [Nat.add_sub_cancel]
  rw [Nat.add_mul, Nat.one_mul]
  omega
theorem le_top {c p : Nat} (hc : c ≤ 2) (hp : p ≤ 5) : le c p ≤ lb (c + 1) := by
  refine Nat.le_trans (le_mono hp) ?_
  have : c = 0 ∨ c = 1 ∨ c = 2 := by omega
  rcases this with rfl | rfl | rfl <;> decide
abbrev Slot := List (Option Row)
def ofs (f : Slot) : List Row := f.filterMap id
theorem mem_ofs {f : Slot} {r : Row} : r ∈ ofs f ↔ ∃ c : Nat, f[c]? = some (some r) := by
  unfold ofs
  rw [List.mem_filterMap]
  constructor
  · rintro ⟨a, ha, e⟩
    simp only [id] at e
    subst e
    exact List.mem_iff_getElem?.mp ha
  · rintro ⟨c, hc⟩
    exact ⟨some r, List.mem_iff_getElem?.mpr ⟨c, hc⟩, rfl⟩
structure SlotOk (w c e : Nat) (X : Row) : Prop where
  len : X.length = w
  z : ∀ j, j < c → fv X j = 0
  n : fv X c ≠ 0
  l : (fv X c).natAbs ≤ 2 ^ lb c
  e : ∀ j, (fv X j).natAbs ≤ 2 ^ e
def Slots (w : Nat) (f : Slot) (e : Nat → Nat) : Prop := f.length = w ∧ ∀ c X, f[c]? = some (some X) → SlotOk w c (e c) X
theorem Slots.mono {w : Nat} {f : Slot} {e e' : Nat → Nat} (h : Slots w f e) (he : ∀ c, e c ≤ e' c) : Slots w f e' := ⟨h.1, fun c X hX => by
  have k := h.2 c X hX
  exact ⟨k.len, k.z, k.n, k.l, fun j => Nat.le_trans (k.e j) (p2 (he c))⟩⟩
def sg (x : Int) : Nat := if x < 0 then 3 else 1
/-- |x||Y| + |y||X|, with the signs' weight -/
def phi (a : Nat) (X Y : Row) (j : Nat) : Nat := sg (fv X a) * sg (fv Y a) * ((fv X a).natAbs * (fv Y j).natAbs + (fv Y a).natAbs * (fv X j).natAbs)
theorem phi_comm {a j : Nat} {X Y : Row} : phi a X Y j = phi a Y X j := by
  unfold phi
  rw [Nat.mul_comm (sg (fv X a)), Nat.add_comm ((fv X a).natAbs * (fv Y j).natAbs)]
/-- the row behind a turn -/
def lred (a : Nat) (X Y : Row) : Row := mi Y (sc (if 0 < fv X a then (fv Y a).fdiv ((fv X a).natAbs : Nat) else -((fv Y a).fdiv ((fv X a).natAbs : Nat))) X)
section
variable {a j : Nat} {X Y : Row}
theorem fv_lred (h : Y.length = X.length) (j : Nat) : fv (lred a X Y) j = fv Y j - (if 0 < fv X a then (fv Y a).fdiv ((fv X a).natAbs : Nat) else -((fv Y a).fdiv ((fv X a).natAbs : Nat))) * fv X j := by
  unfold lred
  rw [fv_mi (by rw [sc_len]; exact h), fv_sc]
theorem lred_len (h : Y.length = X.length) : (lred a X Y).length = Y.length := mi_len (by rw [sc_len]; exact h)
theorem lred_at (h : Y.length = X.length) (h0 : fv X a ≠ 0) : fv (lred a X Y) a = (fv Y a).fmod ((fv X a).natAbs : Nat) := by
  rw [fv_lred h, Int.fmod_def, Int.mul_comm (((fv X a).natAbs : Nat) : Int)]
  congr 1
  split
  · rw [Int.natAbs_of_nonneg (by omega)]
  · rw [Int.ofNat_natAbs_of_nonpos (by omega), Int.neg_mul, Int.mul_neg]
theorem lred_rng (h : Y.length = X.length) (h0 : fv X a ≠ 0) : 0 ≤ fv (lred a X Y) a ∧ (fv (lred a X Y) a).natAbs < (fv X a).natAbs := by
  rw [lred_at h h0]
  have := fmod_rng (a := fv Y a) (b := ((fv X a).natAbs : Nat)) (by omega)
  omega
/-- the weight does not grow -/
theorem phi_red (h : Y.length = X.length) (h0 : fv X a ≠ 0) (hxy : (fv X a).natAbs ≤ (fv Y a).natAbs) : phi a X (lred a X Y) j ≤ phi a X Y j := by
  have hr := lred_rng h h0
  have e := lred_at h h0
  generalize hq : (fv Y a).fdiv ((fv X a).natAbs : Nat) = q
  have hdm : fv (lred a X Y) a + ((fv X a).natAbs : Nat) * q = fv Y a := by
    rw [e, ← hq]; exact Int.fmod_add_mul_fdiv _ _
  have hj : (fv (lred a X Y) j).natAbs ≤ (fv Y j).natAbs + q.natAbs * (fv X j).natAbs := by
    rw [fv_lred h, hq]
    have : ((if 0 < fv X a then q else -q) * fv X j).natAbs = q.natAbs * (fv X j).natAbs := by
      rw [Int.natAbs_mul]
      split
      · rfl
      · rw [Int.natAbs_neg]
    omega
  have hqx : (fv X a).natAbs * q.natAbs ≤ if fv Y a < 0 then (fv Y a).natAbs + (fv (lred a X Y) a).natAbs else (fv Y a).natAbs - (fv (lred a X Y) a).natAbs := by
    have e1 : (((fv X a).natAbs : Nat) * q).natAbs = (fv X a).natAbs * q.natAbs := by rw [Int.natAbs_mul, Int.natAbs_natCast]
    rw [← e1]
    split
    · omega
    · by_cases hq0 : q < 0
      · have : ((fv X a).natAbs : Int) * q ≤ ((fv X a).natAbs : Int) * (-1) := Int.mul_le_mul_of_nonneg_left (by omega) (by omega)
        omega
      · have : 0 ≤ ((fv X a).natAbs : Int) * q := Int.mul_nonneg (by omega) (by omega)
        omega
  generalize hx : (fv X a).natAbs = x at *
  generalize hXj : (fv X j).natAbs = Xj at *
  generalize hYj : (fv Y j).natAbs = Yj at *
  generalize hLj : (fv (lred a X Y) j).natAbs = Lj at *
  generalize hL : (fv (lred a X Y) a).natAbs = L at *
  generalize hy : (fv Y a).natAbs = y at *
  have s1 : sg (fv (lred a X Y) a) = 1 := by unfold sg; rw [if_neg (by omega)]
  unfold phi
  rw [s1, hx, hXj, hYj, hLj, hL, hy, Nat.mul_one, Nat.mul_assoc]
  refine Nat.mul_le_mul_left _ ?_
  have m1 : x * Lj ≤ x * Yj + x * q.natAbs * Xj := by
    have := Nat.mul_le_mul_left x hj
    rw [Nat.mul_add, ← Nat.mul_assoc] at this
    exact this
  have m2 : x * q.natAbs * Xj + L * Xj = (x * q.natAbs + L) * Xj := by rw [Nat.add_mul]
  by_cases hn : fv Y a < 0
  · rw [if_pos hn] at hqx
    have s2 : sg (fv Y a) = 3 := by unfold sg; rw [if_pos hn]
    rw [s2]
    have m3 : (x * q.natAbs + L) * Xj ≤ (3 * y) * Xj := Nat.mul_le_mul_right _ (by omega)
    rw [Nat.mul_assoc] at m3
    omega
  · rw [if_neg hn] at hqx
    have s2 : sg (fv Y a) = 1 := by unfold sg; rw [if_neg hn]
    rw [s2, Nat.one_mul]
    have m3 : (x * q.natAbs + L) * Xj ≤ y * Xj := Nat.mul_le_mul_right _ (by omega)
    omega
theorem phi_X (h : fv Y a ≠ 0) : (fv X j).natAbs ≤ phi a X Y j := by
  unfold phi
  have h1 : 1 ≤ (fv Y a).natAbs := Int.natAbs_pos.mpr h
  have h2 : (fv X j).natAbs ≤ (fv Y a).natAbs * (fv X j).natAbs := Nat.le_mul_of_pos_left _ h1
  have h3 : 1 ≤ sg (fv X a) * sg (fv Y a) := by unfold sg; split <;> split <;> decide
  have h4 : (fv X a).natAbs * (fv Y j).natAbs + (fv Y a).natAbs * (fv X j).natAbs ≤ sg (fv X a) * sg (fv Y a) * ((fv X a).natAbs * (fv Y j).natAbs + (fv Y a).natAbs * (fv X j).natAbs) := Nat.le_mul_of_pos_left _ h3
  omega
theorem phi_Y (h : fv X a ≠ 0) : (fv Y j).natAbs ≤ phi a X Y j := by
  rw [phi_comm]
  exact phi_X h
theorem phi_fresh {b e : Nat} (hx : (fv X a).natAbs ≤ 2 ^ b) (hy : (fv Y a).natAbs ≤ 2 ^ b) (hX : (fv X j).natAbs ≤ 2 ^ e) (hY : (fv Y j).natAbs ≤ 2 ^ b) (hbe : b ≤ e) : phi a X Y j ≤ 2 ^ (b + e + 5) := by
  have h3 : sg (fv X a) * sg (fv Y a) ≤ 9 := by unfold sg; split <;> split <;> decide
  have h1 := Nat.mul_le_mul hx hY
  have h2 := Nat.mul_le_mul hy hX
  have h4 : 2 ^ b * 2 ^ b ≤ 2 ^ b * 2 ^ e := Nat.mul_le_mul_left _ (p2 hbe)
  have h5 : 2 ^ (b + e + 5) = 32 * (2 ^ b * 2 ^ e) := by rw [Nat.pow_add, Nat.pow_add]; omega
  unfold phi
  refine Nat.le_trans (Nat.mul_le_mul h3 (Nat.add_le_add h1 h2)) ?_
  omega
end
end TM
/-! ### the law's own normal rows: the stack (plain) -/
namespace TM
structure Inv (w p : Nat) (rest : List Row) (y : Row) (f : Slot) (rows : List Row) : Prop where
  cnt : p + rest.length + 1 ≤ 5
  lr : ∀ r ∈ rest, r.length = w
  er : Ent (2 ^ 41) rest
  ly : y.length = w
  first : p = 0 → ∀ (c : Nat) X, f[c]? ≠ some (some X)
  sp : SpE (ofs f ++ rest ++ [y]) rows
  st : ((∀ j, fv y j = 0) ∧ Slots w f fun j => le j (p + 1)) ∨ ∃ a, a < w ∧ (∀ j, j < a → fv y j = 0) ∧ fv y a ≠ 0 ∧ (Slots w f fun j => if j ≤ a then le j (p + 1) else le j p) ∧
    (fv y a).natAbs ≤ 2 ^ lb a ∧ ((f[a]? = some none ∧ ∀ j, (fv y j).natAbs ≤ 2 ^ lb a) ∨ ∃ X, f[a]? = some (some X) ∧ ∀ j, phi a X y j ≤ 2 ^ (lb a + le a p + 5))
structure Bnd (w p : Nat) (rest : List Row) (f : Slot) (rows : List Row) : Prop where
  cnt : p + rest.length ≤ 5
  lr : ∀ r ∈ rest, r.length = w
  er : Ent (2 ^ 41) rest
  first : p = 0 → ∀ (c : Nat) X, f[c]? ≠ some (some X)
  sp : SpE (ofs f ++ rest) rows
  sl : Slots w f fun j => le j p
theorem lead_ex : ∀ (y : Row), (∀ j, fv y j = 0) ∨ ∃ a, a < y.length ∧ (∀ j, j < a → fv y j = 0) ∧ fv y a ≠ 0
  | [] => .inl fun j => by simp [fv]
  | x :: y => by
    by_cases h : x = 0
    · rcases lead_ex y with z | ⟨a, h1, h2, h3⟩
      · refine .inl fun j => ?_
        rcases j with _ | j
        · simp [fv, h]
        · simpa [fv] using z j
      · refine .inr ⟨a + 1, by simpa using h1, fun j hj => ?_, by simpa [fv] using h3⟩
        rcases j with _ | j
        · simp [fv, h]
        · simpa [fv] using h2 j (by omega)
    · exact .inr ⟨0, by simp, fun j hj => absurd hj (Nat.not_lt_zero j), by simpa [fv] using h⟩
section
variable {w p : Nat} {rest rows : List Row} {y : Row} {f : Slot}
theorem slot_cases {a : Nat} (h : f.length = w) (ha : a < w) : f[a]? = some none ∨ ∃ X, f[a]? = some (some X) := by
  rw [List.getElem?_eq_getElem (by omega)]
  cases f[a] with
  | none => exact .inl rfl
  | some X => exact .inr ⟨X, rfl⟩
theorem Bnd.top (h : Bnd w p (rest ++ [y]) f rows) : Inv w p rest y f rows := by
  have hc := h.cnt
  rw [List.length_append, List.length_singleton] at hc
  have hy : y.length = w := h.lr y (by simp)
  have ey : ∀ j, (fv y j).natAbs ≤ 2 ^ 41 := fun j => h.er y (by simp) j
  refine ⟨by omega, fun r hr => h.lr r (by simp [hr]), h.er.sub fun r hr => by simp [hr], hy, h.first, by rw [List.append_assoc]; exact h.sp, ?_⟩
  rcases lead_ex y with z | ⟨a, h1, h2, h3⟩
  · exact .inl ⟨z, h.sl.mono fun c => le_mono (by omega)⟩
  · have hlb : 41 ≤ lb a := lb_mono (Nat.zero_le a)
    have eb : ∀ j, (fv y j).natAbs ≤ 2 ^ lb a := fun j => Nat.le_trans (ey j) (p2 hlb)
    refine .inr ⟨a, by omega, h2, h3, h.sl.mono fun c => ?_, eb a, ?_⟩
    · split
      · exact le_mono (by omega)
      · exact Nat.le_refl _
    · rcases slot_cases h.sl.1 (show a < w by omega) with z | ⟨X, hX⟩
      · exact .inl ⟨z, eb⟩
      · have k := h.sl.2 a X hX
        exact .inr ⟨X, hX, fun j => phi_fresh k.l (eb a) (k.e j) (eb j) lb_le⟩
theorem Inv.zero (h : Inv w p rest y f rows) (z : ∀ j, fv y j = 0) : Bnd w (p + 1) rest f rows := by
  have hs : Slots w f fun j => le j (p + 1) := by
    rcases h.st with ⟨_, s⟩ | ⟨a, _, _, n, _⟩
    · exact s
    · exact absurd (z a) n
  refine ⟨by have := h.cnt; omega, h.lr, h.er, fun e => by omega, SpE.trans ⟨fun r hr => .row (List.mem_map_of_mem (List.mem_append_left _ hr)), fun s hs => ?_⟩ h.sp, hs⟩
  rcases List.mem_append.mp hs with e | e
  · exact .row (List.mem_map_of_mem e)
  · rw [List.mem_singleton.mp e]
    exact Sp.zero.cast fun j => (z j).symm
theorem getq_set {a c : Nat} {o : Option Row} (ha : a < f.length) : (f.set a o)[c]? = if c = a then some o else f[c]? := by
  rw [List.getElem?_set]
  by_cases h : a = c
  · subst h; simp [ha]
  · rw [if_neg h, if_neg fun e => h e.symm]
theorem Inv.put {a : Nat} (h : Inv w p rest y f rows) (hl : ∀ j, j < a → fv y j = 0) (h0 : fv y a ≠ 0) (hn : f[a]? = some none) : Bnd w (p + 1) rest (f.set a (some y)) rows := by
  have ha : a < f.length := (List.getElem?_eq_some_iff.mp hn).1
  rcases h.st with ⟨z, _⟩ | ⟨b, b1, b2, b3, b4, b5, b6⟩
  · exact absurd (z a) h0
  · have hab : a = b := by
      rcases Nat.lt_trichotomy a b with q | q | q
      · exact absurd (b2 a q) h0
      · exact q
      · exact absurd (hl b q) b3
    subst hab
    have eb : ∀ j, (fv y j).natAbs ≤ 2 ^ lb a := by
      rcases b6 with ⟨_, e⟩ | ⟨X, hX, _⟩
      · exact e
      · rw [hn] at hX; cases hX
    refine ⟨by have := h.cnt; omega, h.lr, h.er, fun e => by omega, SpE.trans (spE_perm fun r => ?_) h.sp, by rw [List.length_set]; exact b4.1, fun c X hX => ?_⟩
    · simp only [List.mem_append, mem_ofs, List.mem_singleton, getq_set ha]
      constructor
      · rintro (⟨c, hc⟩ | hc)
        · by_cases e : c = a
          · rw [if_pos e] at hc
            exact .inr (Option.some.inj (Option.some.inj hc)).symm
          · rw [if_neg e] at hc
            exact .inl (.inl ⟨c, hc⟩)
        · exact .inl (.inr hc)
      · rintro ((⟨c, hc⟩ | hc) | rfl)
        · refine .inl ⟨c, ?_⟩
          rw [if_neg fun e => by subst e; rw [hn] at hc; cases hc]
          exact hc
        · exact .inr hc
        · exact .inl ⟨a, by rw [if_pos rfl]⟩
    · rw [getq_set ha] at hX
      by_cases e : c = a
      · rw [if_pos e] at hX
        have e2 := Option.some.inj (Option.some.inj hX)
        subst e2 e
        exact ⟨h.ly, hl, h0, b5, fun j => Nat.le_trans (eb j) (p2 lb_le)⟩
      · rw [if_neg e] at hX
        have k := b4.2 c X hX
        refine ⟨k.len, k.z, k.n, k.l, fun j => Nat.le_trans (k.e j) (p2 ?_)⟩
        dsimp only
        split
        · exact Nat.le_refl _
        · exact le_mono (by omega)
/-- a turn's measure -/
def KK : Nat := 2 ^ 1200
def sv (f : Slot) (a : Nat) : Nat := match f[a]? with
  | some (some X) => (fv X a).natAbs
  | _ => 0
def Ms (w : Nat) (y : Row) (f : Slot) (t : Nat) : Prop := ((∀ j, fv y j = 0) ∧ t = 1) ∨ ∃ a, a < w ∧ (∀ j, j < a → fv y j = 0) ∧ fv y a ≠ 0 ∧ t = (w - a) * KK + (fv y a).natAbs + sv f a
theorem lb_KK {a : Nat} (h : a ≤ 2) : 2 ^ lb a + 2 ^ lb a < KK := by
  have h1 : 2 ^ lb a ≤ 2 ^ 1145 := p2 (lb_mono h)
  have h2 : KK = 2 ^ 1146 * 2 ^ 54 := by unfold KK; rw [← Nat.pow_add]
  have h3 : 2 ^ 1146 = 2 * 2 ^ 1145 := by rw [Nat.pow_succ, Nat.mul_comm]
  have h4 : 1 ≤ 2 ^ 1145 := Nat.one_le_pow _ _ (by decide)
  rw [h2, h3]
  generalize 2 ^ 1145 = A at *
  omega
theorem KK_pos : 1 ≤ KK := Nat.one_le_pow _ _ (by decide)
theorem sv_le {e : Nat → Nat} {a : Nat} (h : Slots w f e) : sv f a ≤ 2 ^ lb a := by
  unfold sv
  split
  · rename_i X hX
    exact (h.2 a X hX).l
  · exact Nat.zero_le _
theorem Inv.ms (h : Inv w p rest y f rows) (h3 : w ≤ 3) : ∃ t, Ms w y f t ∧ 1 ≤ t ∧ t < 4 * KK := by
  have hK := KK_pos
  rcases h.st with ⟨z, _⟩ | ⟨a, b1, b2, b3, b4, b5, b6⟩
  · exact ⟨1, .inl ⟨z, rfl⟩, Nat.le_refl _, by omega⟩
  · refine ⟨_, .inr ⟨a, b1, b2, b3, rfl⟩, ?_, ?_⟩
    · have : 0 < (fv y a).natAbs := Int.natAbs_pos.mpr b3
      omega
    · have k1 := lb_KK (show a ≤ 2 by omega)
      have k2 := sv_le (a := a) b4
      have k3 : (w - a) * KK ≤ 3 * KK := Nat.mul_le_mul_right _ (by omega)
      omega
theorem Inv.red {a : Nat} {X X2 Y2 : Row} {t : Nat} (h : Inv w p rest y f rows) (h3 : w ≤ 3) (hl : ∀ j, j < a → fv y j = 0) (h0 : fv y a ≠ 0) (hX : f[a]? = some (some X)) (hsw : (X2 = X ∧ Y2 = y) ∨ (X2 = y ∧ Y2 = X)) (hle : (fv X2 a).natAbs ≤ (fv Y2 a).natAbs) (ht : Ms w y f t) :
    Inv w p rest (lred a X2 Y2) (f.set a (some X2)) rows ∧ ∃ t', Ms w (lred a X2 Y2) (f.set a (some X2)) t' ∧ t' < t := by
  have ha : a < f.length := (List.getElem?_eq_some_iff.mp hX).1
  have lead_eq : ∀ {b : Nat}, (∀ j, j < b → fv y j = 0) → fv y b ≠ 0 → a = b := fun {b} b2 b3 => by
    rcases Nat.lt_trichotomy a b with q | q | q
    · exact absurd (b2 a q) h0
    · exact q
    · exact absurd (hl b q) b3
  have ht2 : t = (w - a) * KK + (fv y a).natAbs + sv f a := by
    rcases ht with ⟨z, _⟩ | ⟨b, b1, b2, b3, e⟩
    · exact absurd (z a) h0
    · rw [← lead_eq b2 b3] at e; exact e
  have hsv : sv f a = (fv X a).natAbs := by unfold sv; rw [hX]
  rcases h.st with ⟨z, _⟩ | ⟨b, b1, b2, b3, b4, b5, b6⟩
  · exact absurd (z a) h0
  · have hab := lead_eq b2 b3
    subst hab
    have kX := b4.2 a X hX
    have hp0 : p ≠ 0 := fun e => h.first e a X hX
    obtain ⟨X', hX', hphi⟩ : ∃ X', f[a]? = some (some X') ∧ ∀ j, phi a X' y j ≤ 2 ^ (lb a + le a p + 5) := by
      rcases b6 with ⟨e, _⟩ | e
      · rw [hX] at e; cases e
      · exact e
    rw [hX] at hX'
    have e := Option.some.inj (Option.some.inj hX')
    subst e
    have hc := h.cnt
    have hle1 := le_succ (c := a) hp0
    have hT : le a (p + 1) ≤ lb (a + 1) := le_top (by omega) (by omega)
    -- the two rows
    have x2l : X2.length = w := by rcases hsw with ⟨e, _⟩ | ⟨e, _⟩ <;> rw [e] <;> first | exact kX.len | exact h.ly
    have y2l : Y2.length = w := by rcases hsw with ⟨_, e⟩ | ⟨_, e⟩ <;> rw [e] <;> first | exact h.ly | exact kX.len
    have hlen : Y2.length = X2.length := by rw [x2l, y2l]
    have x2z : ∀ j, j < a → fv X2 j = 0 := by rcases hsw with ⟨e, _⟩ | ⟨e, _⟩ <;> rw [e] <;> first | exact kX.z | exact hl
    have y2z : ∀ j, j < a → fv Y2 j = 0 := by rcases hsw with ⟨_, e⟩ | ⟨_, e⟩ <;> rw [e] <;> first | exact hl | exact kX.z
    have x20 : fv X2 a ≠ 0 := by rcases hsw with ⟨e, _⟩ | ⟨e, _⟩ <;> rw [e] <;> first | exact kX.n | exact h0
    have y20 : fv Y2 a ≠ 0 := by rcases hsw with ⟨_, e⟩ | ⟨_, e⟩ <;> rw [e] <;> first | exact h0 | exact kX.n
    have x2b : (fv X2 a).natAbs ≤ 2 ^ lb a := by rcases hsw with ⟨e, _⟩ | ⟨e, _⟩ <;> rw [e] <;> first | exact kX.l | exact b5
    have hsum : (fv X2 a).natAbs + (fv Y2 a).natAbs = (fv y a).natAbs + (fv X a).natAbs := by
      rcases hsw with ⟨e, e'⟩ | ⟨e, e'⟩ <;> rw [e, e']
      exact Nat.add_comm _ _
    have ph : ∀ j, phi a X2 Y2 j ≤ 2 ^ (lb a + le a p + 5) := fun j => by
      rcases hsw with ⟨e, e'⟩ | ⟨e, e'⟩ <;> rw [e, e']
      · exact hphi j
      · rw [phi_comm]; exact hphi j
    have ph2 : ∀ j, phi a X2 (lred a X2 Y2) j ≤ 2 ^ (lb a + le a p + 5) := fun j => Nat.le_trans (phi_red hlen x20 hle) (ph j)
    have hr := lred_rng (a := a) hlen x20
    have x2e : ∀ j, (fv X2 j).natAbs ≤ 2 ^ le a (p + 1) := fun j => by rw [hle1]; exact Nat.le_trans (phi_X y20) (ph j)
    have lre : ∀ j, (fv (lred a X2 Y2) j).natAbs ≤ 2 ^ le a (p + 1) := fun j => by rw [hle1]; exact Nat.le_trans (phi_Y x20) (ph2 j)
    have lrz : ∀ j, j < a → fv (lred a X2 Y2) j = 0 := fun j hj => by rw [fv_lred hlen, x2z j hj, y2z j hj]; simp
    have sl : Slots w (f.set a (some X2)) fun j => if j ≤ a then le j (p + 1) else le j p := by
      refine ⟨by rw [List.length_set]; exact b4.1, fun c Z hZ => ?_⟩
      rw [getq_set ha] at hZ
      by_cases e : c = a
      · rw [if_pos e] at hZ
        have e2 := Option.some.inj (Option.some.inj hZ)
        subst e2 e
        refine ⟨x2l, x2z, x20, x2b, fun j => ?_⟩
        dsimp only
        rw [if_pos (Nat.le_refl _)]
        exact x2e j
      · rw [if_neg e] at hZ
        exact b4.2 c Z hZ
    have spx : SpE (ofs (f.set a (some X2)) ++ rest ++ [lred a X2 Y2]) (ofs f ++ rest ++ [y]) := by
      have hX2m : X2 ∈ ofs (f.set a (some X2)) := mem_ofs.mpr ⟨a, by rw [getq_set ha, if_pos rfl]⟩
      have m1 : ∀ r ∈ ofs (f.set a (some X2)) ++ rest ++ [Y2], r ∈ ofs f ++ rest ++ [y] := fun r hr => by
        simp only [List.mem_append, mem_ofs, List.mem_singleton, getq_set ha] at hr ⊢
        rcases hr with (⟨c, hc⟩ | hc) | rfl
        · by_cases e : c = a
          · rw [if_pos e] at hc
            have e2 := Option.some.inj (Option.some.inj hc)
            subst e2
            rcases hsw with ⟨e, _⟩ | ⟨e, _⟩
            · rw [e]; exact .inl (.inl ⟨a, hX⟩)
            · exact .inr e
          · rw [if_neg e] at hc
            exact .inl (.inl ⟨c, hc⟩)
        · exact .inl (.inr hc)
        · rcases hsw with ⟨_, e⟩ | ⟨_, e⟩
          · exact .inr e
          · rw [e]; exact .inl (.inl ⟨a, hX⟩)
      have m2 : ∀ r ∈ ofs f ++ rest ++ [y], r ∈ ofs (f.set a (some X2)) ++ rest ++ [Y2] := fun r hr => by
        simp only [List.mem_append, mem_ofs, List.mem_singleton, getq_set ha] at hr ⊢
        rcases hr with (⟨c, hc⟩ | hc) | rfl
        · by_cases e : c = a
          · subst e
            rw [hX] at hc
            have e2 := Option.some.inj (Option.some.inj hc)
            subst e2
            rcases hsw with ⟨e, _⟩ | ⟨_, e⟩
            · exact .inl (.inl ⟨c, by rw [if_pos rfl, e]⟩)
            · exact .inr e.symm
          · exact .inl (.inl ⟨c, by rw [if_neg e]; exact hc⟩)
        · exact .inl (.inr hc)
        · rcases hsw with ⟨_, e⟩ | ⟨e, _⟩
          · exact .inr e.symm
          · exact .inl (.inl ⟨a, by rw [if_pos rfl, e]⟩)
      refine SpE.trans ?_ (spE_perm fun r => ⟨m1 r, m2 r⟩)
      refine ⟨fun r hr => ?_, fun r hr => ?_⟩
      · rcases List.mem_append.mp hr with z | z
        · exact .row (List.mem_map_of_mem (List.mem_append_left _ z))
        · rw [List.mem_singleton.mp z]
          exact (Sp.sub (.row (List.mem_map_of_mem (show Y2 ∈ ofs (f.set a (some X2)) ++ rest ++ [Y2] by simp))) (.row (List.mem_map_of_mem (show X2 ∈ ofs (f.set a (some X2)) ++ rest ++ [Y2] from List.mem_append_left _ (List.mem_append_left _ hX2m)))) _).cast fun j => (fv_lred hlen j).symm
      · rcases List.mem_append.mp hr with z | z
        · exact .row (List.mem_map_of_mem (List.mem_append_left _ z))
        · rw [List.mem_singleton.mp z]
          have h1 : Sp (fvs (ofs (f.set a (some X2)) ++ rest ++ [lred a X2 Y2])) (fv (lred a X2 Y2)) := .row (List.mem_map_of_mem (by simp))
          have h2 : Sp (fvs (ofs (f.set a (some X2)) ++ rest ++ [lred a X2 Y2])) (fv X2) := .row (List.mem_map_of_mem (List.mem_append_left _ (List.mem_append_left _ hX2m)))
          exact (h1.add (h2.mul (if 0 < fv X2 a then (fv Y2 a).fdiv ((fv X2 a).natAbs : Nat) else -((fv Y2 a).fdiv ((fv X2 a).natAbs : Nat))))).cast fun j => by rw [fv_lred hlen]; omega
    have hsv2 : sv (f.set a (some X2)) a = (fv X2 a).natAbs := by unfold sv; rw [getq_set ha, if_pos rfl]
    have mk : ∀ st, Inv w p rest (lred a X2 Y2) (f.set a (some X2)) rows := fun st => ⟨h.cnt, h.lr, h.er, by rw [lred_len hlen]; exact y2l, fun e => absurd e hp0, spx.trans h.sp, st⟩
    have hK := lb_KK (show a ≤ 2 by omega)
    have hKa : KK ≤ (w - a) * KK := Nat.le_mul_of_pos_left _ (by omega)
    by_cases z : fv (lred a X2 Y2) a = 0
    · rcases lead_ex (lred a X2 Y2) with z2 | ⟨a', c1, c2, c3⟩
      · refine ⟨mk (.inl ⟨z2, sl.mono fun c => ?_⟩), 1, .inl ⟨z2, rfl⟩, ?_⟩
        · split
          · exact Nat.le_refl _
          · exact le_mono (by omega)
        · have : 0 < (fv y a).natAbs := Int.natAbs_pos.mpr h0
          omega
      · rw [lred_len hlen, y2l] at c1
        have haa : a < a' := by
          rcases Nat.lt_trichotomy a a' with q | q | q
          · exact q
          · rw [← q] at c3; exact absurd z c3
          · exact absurd (lrz a' q) c3
        have hlb : le a (p + 1) ≤ lb a' := Nat.le_trans hT (lb_mono haa)
        have eb : ∀ j, (fv (lred a X2 Y2) j).natAbs ≤ 2 ^ lb a' := fun j => Nat.le_trans (lre j) (p2 hlb)
        have sl2 : Slots w (f.set a (some X2)) fun j => if j ≤ a' then le j (p + 1) else le j p := sl.mono fun c => by
          split
          · rw [if_pos (by omega)]; exact Nat.le_refl _
          · split
            · exact le_mono (by omega)
            · exact Nat.le_refl _
        refine ⟨mk (.inr ⟨a', c1, c2, c3, sl2, eb a', ?_⟩), _, .inr ⟨a', c1, c2, c3, rfl⟩, ?_⟩
        · rcases slot_cases sl.1 c1 with q | ⟨Z, hZ⟩
          · exact .inl ⟨q, eb⟩
          · have k := sl.2 a' Z hZ
            have ke := k.e
            dsimp only at ke
            rw [if_neg (by omega)] at ke
            exact .inr ⟨Z, hZ, fun j => phi_fresh k.l (eb a') (ke j) (eb j) lb_le⟩
        · have k1 := lb_KK (show a' ≤ 2 by omega)
          have k2 := sv_le (a := a') sl2
          have k3 := eb a'
          have k4 : (w - a') * KK + KK ≤ (w - a) * KK := by
            have : (w - a' + 1) * KK ≤ (w - a) * KK := Nat.mul_le_mul_right _ (by omega)
            rw [Nat.add_mul, Nat.one_mul] at this
            exact this
          omega
    · refine ⟨mk (.inr ⟨a, b1, lrz, z, sl, by omega, .inr ⟨X2, by rw [getq_set ha, if_pos rfl], ph2⟩⟩), _, .inr ⟨a, b1, lrz, z, rfl⟩, ?_⟩
      rw [hsv2]
      omega
end
end TM
/-! ### the law's own normal rows: the pivots (plain) -/
namespace TM
structure Stp (w k : Nat) (steps : List Row) (f : Slot) (rows : List Row) : Prop where
  lF : ∀ r ∈ steps, r.length = w
  hf : ∃ ls : List Nat, ls.length = steps.length ∧ HF 0 (ls.zip (steps.map fv)) ∧ ∀ l ∈ ls, l < k
  sp : SpE (steps ++ ofs (f.drop k)) rows
  eF : Ent (2 ^ (k * 5750)) steps
  ln : steps.length ≤ k
section
variable {w k p : Nat} {steps rows : List Row} {f : Slot}
theorem Bnd.stp (h : Bnd w p [] f rows) : Stp w 0 [] f rows := ⟨fun r hr => absurd hr List.not_mem_nil, ⟨[], rfl, trivial, fun l hl => absurd hl List.not_mem_nil⟩, by
  have := h.sp
  rw [List.append_nil] at this
  exact this, fun r hr => absurd hr List.not_mem_nil, Nat.le_refl _⟩
theorem ofs_drop {o : Option Row} (h : f[k]? = some o) : ofs (f.drop k) = (match o with | some X => [X] | none => []) ++ ofs (f.drop (k + 1)) := by
  obtain ⟨hk, e⟩ := List.getElem?_eq_some_iff.mp h
  rw [List.drop_eq_getElem_cons hk, e]
  cases o <;> simp [ofs]
theorem Stp.none (h : Stp w k steps f rows) (hn : f[k]? = some none) : Stp w (k + 1) steps f rows := by
  obtain ⟨ls, a, b, c⟩ := h.hf
  refine ⟨h.lF, ⟨ls, a, b, fun l hl => by have := c l hl; omega⟩, ?_, h.eF.mono (p2 (by omega)), by have := h.ln; omega⟩
  have := h.sp
  rw [ofs_drop hn] at this
  exact this
theorem Stp.one {X : Row} (h : Stp w k steps f rows) (hs : Slots w f fun j => le j p) (hp : p ≤ 5) (hk : k < w) (h3 : w ≤ 3) (hX : f[k]? = some (some X)) : Stp w (k + 1) (steps.map (red k (pivot k X)) ++ [pivot k X]) f rows := by
  have kX := hs.2 k X hX
  have hpl : (pivot k X).length = w := by rw [pivot_len]; exact kX.len
  have hlen : ∀ x ∈ steps, x.length = (pivot k X).length := fun x hx => by rw [h.lF x hx, hpl]
  have hpz : ∀ j, j < k → fv (pivot k X) j = 0 := fun j hj => by
    have := fv_pivot_abs (k := k) (r := X) j
    rw [kX.z j hj] at this
    simpa using this
  have hpp := pivot_pos kX.n
  have hle : le k p ≤ 5745 := Nat.le_trans (le_top (by omega) hp) (lb_mono (show k + 1 ≤ 3 by omega))
  have hpe : ∀ j, (fv (pivot k X) j).natAbs ≤ 2 ^ 5745 := fun j => by rw [fv_pivot_abs]; exact Nat.le_trans (kX.e j) (p2 hle)
  have hmem : ∀ x ∈ steps.map (red k (pivot k X)) ++ [pivot k X], (∃ y ∈ steps, x = red k (pivot k X) y) ∨ x = pivot k X := fun x hx => by
    rcases List.mem_append.mp hx with z | z
    · obtain ⟨y, hy, e⟩ := List.mem_map.mp z
      exact .inl ⟨y, hy, e.symm⟩
    · exact .inr (List.mem_singleton.mp z)
  refine ⟨fun x hx => ?_, ?_, ?_, fun x hx j => ?_, by have := h.ln; simp; exact this⟩
  · rcases hmem x hx with ⟨y, hy, e⟩ | e
    · rw [e, red_len (hlen y hy)]; exact h.lF y hy
    · rw [e]; exact hpl
  · obtain ⟨ls, a, b, c⟩ := h.hf
    refine ⟨ls ++ [k], by simp [a], ?_, fun l hl => ?_⟩
    · rw [List.map_append, List.zip_append (by simp [a]), zip_red hlen]
      exact HF.snoc hpz hpp (Nat.zero_le _) b fun x hx => c _ (zip_fst_mem hx)
    · rcases List.mem_append.mp hl with z | z
      · have := c l z; omega
      · rw [List.mem_singleton.mp z]; omega
  · refine SpE.trans (spE_pivot rfl hlen) (SpE.trans (spE_perm fun r => ?_) h.sp)
    rw [ofs_drop hX]
    simp only [List.mem_append, List.mem_singleton]
    constructor
    · rintro ((a | a) | a)
      · exact .inl a
      · exact .inr (.inr a)
      · exact .inr (.inl a)
    · rintro (a | a | a)
      · exact .inl (.inl a)
      · exact .inr a
      · exact .inl (.inr a)
  · rcases hmem x hx with ⟨y, hy, e⟩ | e
    · rw [e]
      exact Nat.le_trans (red_num (hlen y hy) (h.eF y hy) hpe (by omega)) (p2 (by omega))
    · rw [e]
      exact Nat.le_trans (hpe j) (p2 (by omega))
theorem Stp.fin (h : Stp w w steps f rows) (hl : f.length = w) : SpE steps rows := by
  have := h.sp
  rw [show f.drop w = [] from List.drop_eq_nil_of_le (by omega)] at this
  simpa [ofs] using this
end
end TM
namespace K12
open PySem PySem.Spec PyProof.Rows L2 DL PRE LamN
structure Ks where
  Table : Addr
  Town : Addr
  InvalidLetters : Addr
  InvalidNumber : Addr
  InvalidRule : Addr
  InvalidTable : Addr
  T_law : Addr
abbrev Row := TM.Row
/-- a row as a tuple -/
abbrev rT (r : Row) : D := .tup (r.map D.int)
def isNum : D → Bool
  | .int _ => true
  | _ => false
def isCnt (d : D) (w : Int) : Bool := match d with
  | .tup xs => decide ((xs.length : Int) = w) && xs.all isNum
  | _ => false
/-! ### the promises -/
abbrev sp_is_number (_ : Ks) : DSp := fun ds M Q _ => ∃ d : D, ds = [d] ∧ (tyN M d).isSome = true ∧ Q (.bl (isNum d)) M
abbrev sp_is_counts (_ : Ks) : DSp := fun ds M Q _ => ∃ (d : D) (w : Int), ds = [d, .int w] ∧ (tyN M d).isSome = true ∧ (∀ xs, d = .tup xs → xs.length ≤ 1000 ∧ ∀ x ∈ xs, (tyN M x).isSome = true) ∧ Q (.bl (isCnt d w)) M
abbrev sp_minus (_ : Ks) : DSp := fun ds M Q _ => ∃ a b : Row, ds = [rT a, rT b] ∧ a.length = b.length ∧ a.length ≤ 1000 ∧ Q (rT (TM.mi a b)) M
abbrev sp_scaled (_ : Ks) : DSp := fun ds M Q _ => ∃ (a : Row) (t : Int), ds = [rT a, .int t] ∧ a.length ≤ 1000 ∧ (∀ x ∈ a, CMulA t x) ∧ Q (rT (TM.sc t a)) M
abbrev sp_lead_of (_ : Ks) : DSp := fun ds M Q _ => ∃ (r : Row) (k : Nat), ds = [rT r] ∧ r.length ≤ 1000 ∧ k < r.length ∧ (∀ j, j < k → TM.fv r j = 0) ∧ TM.fv r k ≠ 0 ∧ Q (.int (k : Nat)) M
abbrev sp_least_row (_ : Ks) : DSp := fun ds M Q _ => ∃ (d : D) (rows : List Row) (k : Nat), ds = [d, .int (k : Nat)] ∧ lstOf M d = some (rows.map rT) ∧ rows ≠ [] ∧ (∀ r ∈ rows, k < r.length) ∧
  ∀ l ∈ rows, (∀ r ∈ rows, (TM.fv l k).natAbs ≤ (TM.fv r k).natAbs) → Q (rT l) M
/-- the product of the entries on the diagonal -/
def dpr (rows : List Row) : Int := rows.zipIdx.foldl (fun a p => a * TM.fv p.1 p.2) 1
theorem dpr_snoc (pre : List Row) (r : Row) : dpr (pre ++ [r]) = dpr pre * TM.fv r pre.length := by
  unfold dpr
  rw [List.zipIdx_append, List.foldl_append]
  simp
abbrev sp_size_of (_ : Ks) : DSp := fun ds M Q _ => ∃ (d : D) (w : Nat) (rows : List Row), ds = [.int (w : Nat), d] ∧ lstOf M d = some (rows.map rT) ∧ rows.length ≤ 1000 ∧ (rows.length < w → Q .non M) ∧
  (¬ rows.length < w → (∀ pre r post, rows = pre ++ r :: post → pre.length < r.length ∧ CMulW (dpr pre) (TM.fv r pre.length)) ∧ Q (.int (dpr rows)) M)
/-- the normal rows of a list of rows -/
structure IsNorm (w : Nat) (rows found : List Row) : Prop where
  len : ∀ r ∈ found, r.length = w
  hf : ∃ ls : List Nat, ls.length = found.length ∧ TM.HF 0 (ls.zip (found.map TM.fv)) ∧ ∀ l ∈ ls, l < w
  span : TM.SpE found rows
theorem zip_snd {α β : Type} : ∀ {ls : List α} {xs : List β}, ls.length = xs.length → (ls.zip xs).map (·.2) = xs
  | [], [], _ => rfl
  | l :: ls, x :: xs, h => by rw [List.zip_cons_cons, List.map_cons, zip_snd (by simpa using h)]
  | [], _ :: _, h => by simp at h
  | _ :: _, [], h => by simp at h
theorem IsNorm.uniq {w : Nat} {rows rows2 f g : List Row} (hf : IsNorm w rows f) (hg : IsNorm w rows2 g) (h : TM.SpE rows rows2) : f = g := by
  obtain ⟨l1, ⟨ls, e1, h1, _⟩, s1⟩ := hf
  obtain ⟨l2, ⟨ms, e2, h2, _⟩, s2⟩ := hg
  have hs : TM.SpE f g := s1.trans (h.trans s2.symm)
  have r1 : TM.rowsOf (ls.zip (f.map TM.fv)) = f.map TM.fv := zip_snd (by rw [e1, List.length_map])
  have r2 : TM.rowsOf (ms.zip (g.map TM.fv)) = g.map TM.fv := zip_snd (by rw [e2, List.length_map])
  have e := TM.HF.uniq h1 h2 (fun v hv => by rw [r1] at hv; rw [r2]; exact hs.le hv) (fun v hv => by rw [r2] at hv; rw [r1]; exact hs.symm.le hv)
  have e3 : f.map TM.fv = g.map TM.fv := by rw [← r1, ← r2, e]
  have hl : f.length = g.length := by simpa using congrArg List.length e3
  apply List.ext_getElem hl
  intro i i1 i2
  have q : (f.map TM.fv)[i]? = (g.map TM.fv)[i]? := by rw [e3]
  rw [List.getElem?_map, List.getElem?_map, List.getElem?_eq_getElem i1, List.getElem?_eq_getElem i2] at q
  have q2 : TM.fv f[i] = TM.fv g[i] := by simpa using q
  exact TM.fv_inj (by rw [l1 _ (List.getElem_mem i1), l2 _ (List.getElem_mem i2)]) fun j => congrFun q2 j
/-- the bounds that normal's rows keep -/
structure NmB (w : Nat) (f : List Row) : Prop where
  ent : TM.Ent (2 ^ 3294) f
  le : f.length ≤ w
  dg : f.length = w → ∀ pre r post, f = pre ++ r :: post → (TM.fv r pre.length).natAbs ≤ 2 ^ TM.Bk pre.length
abbrev sp_normal (_ : Ks) : DSp := fun ds M Q _ => ∃ (d : D) (w : Nat) (rows : List Row), ds = [.int (w : Nat), d] ∧ lstOf M d = some (rows.map rT) ∧ 1 ≤ w ∧ w ≤ 3 ∧ rows.length ≤ 1000 ∧ (∀ r ∈ rows, r.length = w) ∧ TM.Ent (2 ^ 41) rows ∧
  ∀ found, IsNorm w rows found → NmB w found → Q (.lst (found.map rT)) M
/-! ### tables -/
def leadN (r : Row) : Nat := r.findIdx fun x => x != 0
def szD (w : Nat) (f : List Row) : D := if f.length < w then .non else .int (dpr f)
def tabD (w : Nat) (f : List Row) : List (Str × D) := putD "own_size" (szD w f) (putD "identity" (.tup [.int (w : Nat), .tup (f.map rT)]) (putD "leads" (.lst (f.map fun r => D.int (leadN r : Nat))) (putD "normal_rows" (.lst (f.map rT)) (putD "own_width" (.int (w : Nat)) []))))
def okW (d : D) : Bool := match d with
  | .int i => decide (1 ≤ i ∧ i ≤ 3)
  | _ => false
/-- what can be looked at by isinstance -/
def seen (M : Mp) (d : D) : Prop := (tyN M d).isSome = true ∧ ∀ xs, d = .tup xs → xs.length ≤ 1000 ∧ ∀ x ∈ xs, (tyN M x).isSome = true
def xsOf (M : Mp) (d : D) (xs : List D) : Prop := lstOf M d = some xs ∨ d = .tup xs
abbrev sp_Table___init__ (c : Ks) : DSp := fun ds M Q E0 => ∃ (x : Addr) (wd rd : D) (xs : List D), ds = [.ptr x, wd, rd] ∧ M x = some (.ins c.Table []) ∧ (tyN M wd).isSome = true ∧ xsOf M rd xs ∧ xs.length ≤ 1000 ∧ (∀ y ∈ xs, seen M y) ∧
  ((okW wd = false ∧ E0 (.ref c.InvalidNumber) [("given", wd), ("tag", .str "InvalidNumber")] M) ∨
   (∃ (w : Int) (i : Nat) (y : D), wd = .int w ∧ 1 ≤ w ∧ w ≤ 3 ∧ xs[i]? = some y ∧ isCnt y w = false ∧ (∀ j z, j < i → xs[j]? = some z → isCnt z w = true) ∧ E0 (.ref c.InvalidTable) [("at", .int (i : Nat)), ("tag", .str "InvalidTable")] M) ∨
   (∃ (w : Nat) (rows : List Row), wd = .int (w : Nat) ∧ 1 ≤ w ∧ w ≤ 3 ∧ xs = rows.map rT ∧ (∀ r ∈ rows, r.length = w) ∧ TM.Ent (2 ^ 41) rows ∧ ∀ f, IsNorm w rows f → NmB w f → Q .non (up M x (.ins c.Table (tabD w f)))))
abbrev isTab (c : Ks) (M : Mp) (d : D) (w : Nat) (f : List Row) : Prop := insOf M d = some (c.Table, tabD w f)
/-! ### words -/
abbrev Asc (w : List Nat) : Prop := ∀ x ∈ w, x < 128
def isW (w l : List Nat) : Bool := w.all fun c => decide (loC c ∈ l) && isLo (loC c)
def cntW (w l : List Nat) : List Int := l.map fun c => (w.count c : Int) - (w.count (swC c) : Int)
abbrev sp_is_word (_ : Ks) : DSp := fun ds M Q _ => ∃ w l : List Nat, ds = [.str (T w), .str (T l)] ∧ Asc w ∧ w.length ≤ 10000 ∧ Q (.bl (isW w l)) M
abbrev sp_counts_of (_ : Ks) : DSp := fun ds M Q _ => ∃ w l : List Nat, ds = [.str (T w), .str (T l)] ∧ Asc l ∧ w.length ≤ 10000 ∧ l.length ≤ 1000 ∧ Q (.tup ((cntW w l).map D.int)) M
/-! ### rules and towns -/
abbrev Rl := List (List Nat)
abbrev rD (r : Rl) : D := .tup (r.map fun w => D.str (T w))
def okR (r : Rl) (l : List Nat) : Bool := decide (r.length = 2) && r.all fun w => decide (w.length ≤ 16) && isW w l
/-- the first rule that does not fit -/
def fbF (l : List Nat) : Nat → List Rl → Option Nat
  | _, [] => none
  | k, r :: rs => if 6 ≤ k ∨ okR r l = false then some k else fbF l (k + 1) rs
abbrev fb (rs : List Rl) (l : List Nat) : Option Nat := fbF l 0 rs
/-- the first character that is no letter -/
def ldF (l : List Nat) : Nat → List Nat → Option Nat
  | _, [] => none
  | k, x :: r => if isLo x = false ∨ x ∈ l.take k ∨ 3 ≤ k then some k else ldF l (k + 1) r
def ld (l : List Nat) : Option Nat := match ldF l 0 l with
  | some k => some k
  | none => if l = [] then some 0 else none
abbrev RlOk (r : Rl) : Prop := r.length ≤ 1000 ∧ ∀ w ∈ r, Asc w ∧ w.length ≤ 10000
abbrev sp_check_letters (c : Ks) : DSp := fun ds M Q E0 => ∃ l : List Nat, ds = [.str (T l)] ∧ l.length ≤ 1000 ∧ (ld l = none → Q .non M) ∧ ∀ k, ld l = some k → E0 (.ref c.InvalidLetters) [("at", .int (k : Nat)), ("tag", .str "InvalidLetters")] M
abbrev sp_is_rule (_ : Ks) : DSp := fun ds M Q _ => ∃ (r : Rl) (l : List Nat), ds = [rD r, .str (T l)] ∧ RlOk r ∧ Q (.bl (okR r l)) M
def twD (l : List Nat) (rs : List Rl) (d : D) : List (Str × D) := putD "identity" (.tup [.str (T l), .tup (rs.map rD)]) (putD "own_table" d (putD "rule_row" (.tup (rs.map rD)) (putD "own_letters" (.str (T l)) [])))
abbrev sp_Town___init__ (c : Ks) : DSp := fun ds M Q E0 => ∃ (x : Addr) (l : List Nat) (rs : List Rl), ds = [.ptr x, .str (T l), .tup (rs.map rD)] ∧ M x = some (.ins c.Town []) ∧ l.length ≤ 1000 ∧ rs.length ≤ 100 ∧ (∀ r ∈ rs, RlOk r) ∧
  (∀ k, ld l = some k → E0 (.ref c.InvalidLetters) [("at", .int (k : Nat)), ("tag", .str "InvalidLetters")] M) ∧
  (ld l = none → (∀ k, fb rs l = some k → E0 (.ref c.InvalidRule) [("at", .int (k : Nat)), ("tag", .str "InvalidRule")] M) ∧ (fb rs l = none → ∀ d, Q .non (up M x (.ins c.Town (twD l rs d)))))
abbrev isTown (c : Ks) (M : Mp) (e : D) (l : List Nat) (rs : List Rl) : Prop := ∃ d, insOf M e = some (c.Town, twD l rs d)
abbrev sp_Town_letters (c : Ks) : DSp := fun ds M Q _ => ∃ (e : D) (l : List Nat) (rs : List Rl), ds = [e] ∧ isTown c M e l rs ∧ Q (.str (T l)) M
abbrev sp_Town_width (c : Ks) : DSp := fun ds M Q _ => ∃ (e : D) (l : List Nat) (rs : List Rl), ds = [e] ∧ isTown c M e l rs ∧ l.length ≤ 1000 ∧ Q (.int (l.length : Nat)) M
abbrev sp_Town_rules (c : Ks) : DSp := fun ds M Q _ => ∃ (e : D) (l : List Nat) (rs : List Rl), ds = [e] ∧ isTown c M e l rs ∧ ((∀ p, M p = none → Q (.ptr p) (up M p (.lst (rs.map rD)))) ∨ Q (.lst (rs.map rD)) M)
abbrev sp_Town_with_rules (c : Ks) : DSp := fun ds M Q E0 => ∃ (e : D) (l : List Nat) (rs more : List Rl), ds = [e, .tup (more.map rD)] ∧ isTown c M e l rs ∧ l.length ≤ 1000 ∧ rs.length + more.length ≤ 100 ∧ (∀ r ∈ rs ++ more, RlOk r) ∧ ld l = none ∧
  (∀ k, fb (rs ++ more) l = some k → ∀ M', Sub M M' → E0 (.ref c.InvalidRule) [("at", .int (k : Nat)), ("tag", .str "InvalidRule")] M') ∧ (fb (rs ++ more) l = none → ∀ x d, M x = none → Q (.ptr x) (up M x (.ins c.Town (twD l (rs ++ more) d))))
abbrev sp_Town___len__ (c : Ks) : DSp := fun ds M Q _ => ∃ (e : D) (l : List Nat) (rs : List Rl), ds = [e] ∧ isTown c M e l rs ∧ Q (.int (rs.length : Nat)) M
abbrev sp_Town___eq__ (c : Ks) : DSp := fun ds M Q _ => ∃ (e f : D) (l : List Nat) (rs : List Rl), ds = [e, f] ∧ isTown c M e l rs ∧ Asc l ∧ rs.length ≤ 1000 ∧ (∀ r ∈ rs, RlOk r) ∧
  (((tyN M f).isSome = true ∧ Q (.bl false) M) ∨ ∃ (m : List Nat) (ss : List Rl), isTown c M f m ss ∧ Asc m ∧ ss.length ≤ 1000 ∧ (∀ r ∈ ss, RlOk r) ∧ Q (.bl (decide (l = m ∧ rs = ss))) M)
def twS (n m : Nat) : Str := Str.ofString "Town(" ++ Str.ofString (toString (n : Int)) ++ Str.ofString " letters, " ++ Str.ofString (toString (m : Int)) ++ Str.ofString " rules)"
abbrev sp_Town___repr__ (c : Ks) : DSp := fun ds M Q _ => ∃ (e : D) (l : List Nat) (rs : List Rl), ds = [e] ∧ isTown c M e l rs ∧ l.length ≤ 1000 ∧ rs.length ≤ 1000 ∧ Q (.str (twS l.length rs.length)) M
/-! ### the law's own functions -/
abbrev sp__law_side (_ : Ks) : DSp := sp__law_some_word
abbrev sp__law_town (c : Ks) : DSp := fun ds M Q _ => ∃ (e : D) (l : List Nat) (rs : List Rl), ds = [.str (T l), e] ∧ lstOf M e = some (rs.map rD) ∧ l.length ≤ 1000 ∧ rs.length ≤ 100 ∧ (∀ r ∈ rs, RlOk r) ∧ ld l = none ∧ fb rs l = none ∧ ∀ x d, M x = none → Q (.ptr x) (up M x (.ins c.Town (twD l rs d)))
def isS (w l : List Nat) : Bool := decide (w.length ≤ 16) && w.all fun x => decide (x ∈ sgn l)
abbrev sp__law_is_side (_ : Ks) : DSp := fun ds M Q _ => ∃ w l : List Nat, ds = [.str (T w), .str (T l)] ∧ w.length ≤ 10000 ∧ (∀ c ∈ l, isLo c = true) ∧ l.length ≤ 100 ∧ Q (.bl (isS w l)) M
abbrev sp__law_bad_rule (_ : Ks) : DSp := fun ds M Q _ => ∃ (l : List Nat) (rs : List Rl), ds = [.lst (rs.map rD), .str (T l)] ∧ (∀ c ∈ l, isLo c = true) ∧ l.length ≤ 100 ∧ rs.length ≤ 100 ∧ (∀ r ∈ rs, RlOk r) ∧ (fb rs l = none → Q .non M) ∧ ∀ k, fb rs l = some k → Q (.int (k : Nat)) M
abbrev sp__law_letters_due (_ : Ks) : DSp := fun ds M Q _ => ∃ l : List Nat, ds = [.str (T l)] ∧ l.length ≤ 1000 ∧ (ld l = none → Q (.tup [.str "", .str (T l)]) M) ∧ ∀ k, ld l = some k → Q (.tup [.str "InvalidLetters", .int (k : Nat)]) M
abbrev sp__law_made (c : Ks) : DSp := fun ds M Q E0 => ∃ (l : List Nat) (rs : List Rl), ds = [.str (T l), .lst (rs.map rD)] ∧ l.length ≤ 1000 ∧ rs.length ≤ 7 ∧ (∀ r ∈ rs, RlOk r) ∧ ld l = none ∧
  (∀ k, fb rs l = some k → ∀ M', Sub M M' → E0 (.ref c.InvalidRule) [("at", .int (k : Nat)), ("tag", .str "InvalidRule")] M') ∧ (fb rs l = none → ∀ x d, M x = none → Q (.ptr x) (up M x (.ins c.Town (twD l rs d))))
def qL : Str := Str.ofString "law" ++ ".<locals>." ++ "<lambda>"
abbrev sp_law (c : Ks) : DSp := spLawT [(c.T_law, qL)]
def topS (i : Nat) : Stmt := PySem.Challenge.pw_roundswap_k12_towns_that_are_made.main.body.getD i (.Pass ⟨0, 0, 0, 0⟩)
structure Cn (mg : Str → Option Value) : Prop where
  LOWER : ∃ u, mg "LOWER" = some u ∧ RelV (.str "abcdefghijklmnopqrstuvwxyz") u
  MOST_WIDTH : ∃ u, mg "MOST_WIDTH" = some u ∧ RelV (.int 3) u
  MOST_LETTERS : ∃ u, mg "MOST_LETTERS" = some u ∧ RelV (.int 3) u
  MOST_SIDE : ∃ u, mg "MOST_SIDE" = some u ∧ RelV (.int 16) u
/-! ### InvalidLetters -/
abbrev s_InvalidLetters___init__ : Stmt := inClass (topS 5) 0
theorem sc_InvalidLetters___init__ : SupScope ["self", "at"] ["self", "at"] (defScope s_InvalidLetters___init__) := supSc rfl rfl rfl (by decide +kernel)
def X_InvalidLetters : ExD := ⟨"InvalidLetters", defArgs s_InvalidLetters___init__, defBody s_InvalidLetters___init__, defScope s_InvalidLetters___init__, ["tag", "at"]⟩
def g_InvalidLetters (us : List V) : List (Str × V) := match us with
  | [v1] => FV.fs [("tag", tC (.str "InvalidLetters"), .str "InvalidLetters"), ("at", tVar 1, v1)]
  | _ => []
theorem ok_InvalidLetters {P : Program} {w : World} {K : PySem.W.Frag} {mg : Str → Option Value} {base : Heap} {fd : FuncData} (E : ExK P K mg X_InvalidLetters fd) : FnOk P w K mg base CX0 1 (X_InvalidLetters.f K) fd ["self", "at"] (spE (X_InvalidLetters.C K) g_InvalidLetters 1) := by
  obtain ⟨oc, od, osl, kV, doc, pm, ct, an, cda, cc, rfl, lk, hcd, T⟩ := E.ex
  refine fn_sup (k := 0) T lk hcd sc_InvalidLetters___init__ rfl rfl (by decide +kernel) (by decide +kernel) ?_ ?_ (fun L => rfl) ?_
  · rintro vs H Q E' ⟨a, us, rfl, hl, _⟩
    rw [List.length_cons, hl]; rfl
  · rintro vs H Q E' ⟨a, us, rfl, hl, ha, _⟩
    exact ⟨a, us, rfl, ha⟩
  · rintro A outer s H vs Q E' hr ⟨a, us, rfl, hl, ha, q⟩
    obtain ⟨v1, rfl⟩ : ∃ v1, us = [v1] := by
      match us, hl with
      | [v1], _ => exact ⟨v1, rfl⟩
    refine ⟨tFields K (FV.st [("tag", tC (.str "InvalidLetters"), .str "InvalidLetters"), ("at", tVar 1, v1)]), pss_cons (ps_ost (pv 0) pe_str) (pss_cons (ps_ost (pv 0) (pv 1)) (pss_nil)), ?_⟩
    refine ost_all E.ox rfl _ _ _ _ ?_ (by simp) ha fun d H2 h1 h2 h3 h4 h5 => q d H2 h1 h2 h3 h4 h5
    intro y hy
    rcases List.mem_cons.mp hy with rfl | hy
    · exact ⟨E.no _ (by simp [X_InvalidLetters]), fun H Q q => q⟩
    rcases List.mem_cons.mp hy with rfl | hy
    · exact ⟨E.no _ (by simp [X_InvalidLetters]), fun H Q q => ⟨_, rfl, q⟩⟩
    exact absurd hy List.not_mem_nil
def gd_InvalidLetters (ds : List D) : List (Str × D) := match ds with
  | [d1] => [("at", d1), ("tag", .str "InvalidLetters")]
  | _ => []
theorem fs_InvalidLetters : FsD g_InvalidLetters gd_InvalidLetters 1 := ⟨fun {K F ds vs} hl r => by
  match ds, hl, r with
  | [d1], _, r =>
    obtain ⟨v1, rfl, r1⟩ := reps1 r
    exact (repF_cons r1 (repF_cons (by rw [Rep]) repF_nil))⟩
theorem ce_InvalidLetters {P : Program} {w : World} {K : PySem.W.Frag} {mg : Str → Option Value} {base : Heap} {fd : FuncData} (E : ExK P K mg X_InvalidLetters fd) : CalE P w K mg base 2 "InvalidLetters" (X_InvalidLetters.C K) g_InvalidLetters gd_InvalidLetters 1 := by
  refine mk_spE E.ox E.ini E.ty (ok_InvalidLetters E) ?_ E.g (by decide) (by decide) fs_InvalidLetters
  obtain ⟨oc, od, osl, kV, doc, pm, ct, an, cda, cc, rfl, lk, hcd, T⟩ := E.ex
  exact .all fun us hl => match us, hl with | [_, _], _ => rfl
/-! ### InvalidNumber -/
abbrev s_InvalidNumber___init__ : Stmt := inClass (topS 9) 0
theorem sc_InvalidNumber___init__ : SupScope ["self", "given"] ["self", "given"] (defScope s_InvalidNumber___init__) := supSc rfl rfl rfl (by decide +kernel)
def X_InvalidNumber : ExD := ⟨"InvalidNumber", defArgs s_InvalidNumber___init__, defBody s_InvalidNumber___init__, defScope s_InvalidNumber___init__, ["tag", "given"]⟩
def g_InvalidNumber (us : List V) : List (Str × V) := match us with
  | [v1] => FV.fs [("tag", tC (.str "InvalidNumber"), .str "InvalidNumber"), ("given", tVar 1, v1)]
  | _ => []
theorem ok_InvalidNumber {P : Program} {w : World} {K : PySem.W.Frag} {mg : Str → Option Value} {base : Heap} {fd : FuncData} (E : ExK P K mg X_InvalidNumber fd) : FnOk P w K mg base CX0 1 (X_InvalidNumber.f K) fd ["self", "given"] (spE (X_InvalidNumber.C K) g_InvalidNumber 1) := by
  obtain ⟨oc, od, osl, kV, doc, pm, ct, an, cda, cc, rfl, lk, hcd, T⟩ := E.ex
  refine fn_sup (k := 0) T lk hcd sc_InvalidNumber___init__ rfl rfl (by decide +kernel) (by decide +kernel) ?_ ?_ (fun L => rfl) ?_
  · rintro vs H Q E' ⟨a, us, rfl, hl, _⟩
    rw [List.length_cons, hl]; rfl
  · rintro vs H Q E' ⟨a, us, rfl, hl, ha, _⟩
    exact ⟨a, us, rfl, ha⟩
  · rintro A outer s H vs Q E' hr ⟨a, us, rfl, hl, ha, q⟩
    obtain ⟨v1, rfl⟩ : ∃ v1, us = [v1] := by
      match us, hl with
      | [v1], _ => exact ⟨v1, rfl⟩
    refine ⟨tFields K (FV.st [("tag", tC (.str "InvalidNumber"), .str "InvalidNumber"), ("given", tVar 1, v1)]), pss_cons (ps_ost (pv 0) pe_str) (pss_cons (ps_ost (pv 0) (pv 1)) (pss_nil)), ?_⟩
    refine ost_all E.ox rfl _ _ _ _ ?_ (by simp) ha fun d H2 h1 h2 h3 h4 h5 => q d H2 h1 h2 h3 h4 h5
    intro y hy
    rcases List.mem_cons.mp hy with rfl | hy
    · exact ⟨E.no _ (by simp [X_InvalidNumber]), fun H Q q => q⟩
    rcases List.mem_cons.mp hy with rfl | hy
    · exact ⟨E.no _ (by simp [X_InvalidNumber]), fun H Q q => ⟨_, rfl, q⟩⟩
    exact absurd hy List.not_mem_nil
def gd_InvalidNumber (ds : List D) : List (Str × D) := match ds with
  | [d1] => [("given", d1), ("tag", .str "InvalidNumber")]
  | _ => []
theorem fs_InvalidNumber : FsD g_InvalidNumber gd_InvalidNumber 1 := ⟨fun {K F ds vs} hl r => by
  match ds, hl, r with
  | [d1], _, r =>
    obtain ⟨v1, rfl, r1⟩ := reps1 r
    exact (repF_cons r1 (repF_cons (by rw [Rep]) repF_nil))⟩
theorem ce_InvalidNumber {P : Program} {w : World} {K : PySem.W.Frag} {mg : Str → Option Value} {base : Heap} {fd : FuncData} (E : ExK P K mg X_InvalidNumber fd) : CalE P w K mg base 2 "InvalidNumber" (X_InvalidNumber.C K) g_InvalidNumber gd_InvalidNumber 1 := by
  refine mk_spE E.ox E.ini E.ty (ok_InvalidNumber E) ?_ E.g (by decide) (by decide) fs_InvalidNumber
  obtain ⟨oc, od, osl, kV, doc, pm, ct, an, cda, cc, rfl, lk, hcd, T⟩ := E.ex
  exact .all fun us hl => match us, hl with | [_, _], _ => rfl
/-! ### InvalidRule -/
abbrev s_InvalidRule___init__ : Stmt := inClass (topS 8) 0
theorem sc_InvalidRule___init__ : SupScope ["self", "at"] ["self", "at"] (defScope s_InvalidRule___init__) := supSc rfl rfl rfl (by decide +kernel)
def X_InvalidRule : ExD := ⟨"InvalidRule", defArgs s_InvalidRule___init__, defBody s_InvalidRule___init__, defScope s_InvalidRule___init__, ["tag", "at"]⟩
def g_InvalidRule (us : List V) : List (Str × V) := match us with
  | [v1] => FV.fs [("tag", tC (.str "InvalidRule"), .str "InvalidRule"), ("at", tVar 1, v1)]
  | _ => []
theorem ok_InvalidRule {P : Program} {w : World} {K : PySem.W.Frag} {mg : Str → Option Value} {base : Heap} {fd : FuncData} (E : ExK P K mg X_InvalidRule fd) : FnOk P w K mg base CX0 1 (X_InvalidRule.f K) fd ["self", "at"] (spE (X_InvalidRule.C K) g_InvalidRule 1) := by
  obtain ⟨oc, od, osl, kV, doc, pm, ct, an, cda, cc, rfl, lk, hcd, T⟩ := E.ex
  refine fn_sup (k := 0) T lk hcd sc_InvalidRule___init__ rfl rfl (by decide +kernel) (by decide +kernel) ?_ ?_ (fun L => rfl) ?_
  · rintro vs H Q E' ⟨a, us, rfl, hl, _⟩
    rw [List.length_cons, hl]; rfl
  · rintro vs H Q E' ⟨a, us, rfl, hl, ha, _⟩
    exact ⟨a, us, rfl, ha⟩
  · rintro A outer s H vs Q E' hr ⟨a, us, rfl, hl, ha, q⟩
    obtain ⟨v1, rfl⟩ : ∃ v1, us = [v1] := by
      match us, hl with
      | [v1], _ => exact ⟨v1, rfl⟩
    refine ⟨tFields K (FV.st [("tag", tC (.str "InvalidRule"), .str "InvalidRule"), ("at", tVar 1, v1)]), pss_cons (ps_ost (pv 0) pe_str) (pss_cons (ps_ost (pv 0) (pv 1)) (pss_nil)), ?_⟩
    refine ost_all E.ox rfl _ _ _ _ ?_ (by simp) ha fun d H2 h1 h2 h3 h4 h5 => q d H2 h1 h2 h3 h4 h5
    intro y hy
    rcases List.mem_cons.mp hy with rfl | hy
    · exact ⟨E.no _ (by simp [X_InvalidRule]), fun H Q q => q⟩
    rcases List.mem_cons.mp hy with rfl | hy
    · exact ⟨E.no _ (by simp [X_InvalidRule]), fun H Q q => ⟨_, rfl, q⟩⟩
    exact absurd hy List.not_mem_nil
def gd_InvalidRule (ds : List D) : List (Str × D) := match ds with
  | [d1] => [("at", d1), ("tag", .str "InvalidRule")]
  | _ => []
theorem fs_InvalidRule : FsD g_InvalidRule gd_InvalidRule 1 := ⟨fun {K F ds vs} hl r => by
  match ds, hl, r with
  | [d1], _, r =>
    obtain ⟨v1, rfl, r1⟩ := reps1 r
    exact (repF_cons r1 (repF_cons (by rw [Rep]) repF_nil))⟩
theorem ce_InvalidRule {P : Program} {w : World} {K : PySem.W.Frag} {mg : Str → Option Value} {base : Heap} {fd : FuncData} (E : ExK P K mg X_InvalidRule fd) : CalE P w K mg base 2 "InvalidRule" (X_InvalidRule.C K) g_InvalidRule gd_InvalidRule 1 := by
  refine mk_spE E.ox E.ini E.ty (ok_InvalidRule E) ?_ E.g (by decide) (by decide) fs_InvalidRule
  obtain ⟨oc, od, osl, kV, doc, pm, ct, an, cda, cc, rfl, lk, hcd, T⟩ := E.ex
  exact .all fun us hl => match us, hl with | [_, _], _ => rfl
/-! ### InvalidTable -/
abbrev s_InvalidTable___init__ : Stmt := inClass (topS 7) 0
theorem sc_InvalidTable___init__ : SupScope ["self", "at"] ["self", "at"] (defScope s_InvalidTable___init__) := supSc rfl rfl rfl (by decide +kernel)
def X_InvalidTable : ExD := ⟨"InvalidTable", defArgs s_InvalidTable___init__, defBody s_InvalidTable___init__, defScope s_InvalidTable___init__, ["tag", "at"]⟩
def g_InvalidTable (us : List V) : List (Str × V) := match us with
  | [v1] => FV.fs [("tag", tC (.str "InvalidTable"), .str "InvalidTable"), ("at", tVar 1, v1)]
  | _ => []
theorem ok_InvalidTable {P : Program} {w : World} {K : PySem.W.Frag} {mg : Str → Option Value} {base : Heap} {fd : FuncData} (E : ExK P K mg X_InvalidTable fd) : FnOk P w K mg base CX0 1 (X_InvalidTable.f K) fd ["self", "at"] (spE (X_InvalidTable.C K) g_InvalidTable 1) := by
  obtain ⟨oc, od, osl, kV, doc, pm, ct, an, cda, cc, rfl, lk, hcd, T⟩ := E.ex
  refine fn_sup (k := 0) T lk hcd sc_InvalidTable___init__ rfl rfl (by decide +kernel) (by decide +kernel) ?_ ?_ (fun L => rfl) ?_
  · rintro vs H Q E' ⟨a, us, rfl, hl, _⟩
    rw [List.length_cons, hl]; rfl
  · rintro vs H Q E' ⟨a, us, rfl, hl, ha, _⟩
    exact ⟨a, us, rfl, ha⟩
  · rintro A outer s H vs Q E' hr ⟨a, us, rfl, hl, ha, q⟩
    obtain ⟨v1, rfl⟩ : ∃ v1, us = [v1] := by
      match us, hl with
      | [v1], _ => exact ⟨v1, rfl⟩
    refine ⟨tFields K (FV.st [("tag", tC (.str "InvalidTable"), .str "InvalidTable"), ("at", tVar 1, v1)]), pss_cons (ps_ost (pv 0) pe_str) (pss_cons (ps_ost (pv 0) (pv 1)) (pss_nil)), ?_⟩
    refine ost_all E.ox rfl _ _ _ _ ?_ (by simp) ha fun d H2 h1 h2 h3 h4 h5 => q d H2 h1 h2 h3 h4 h5
    intro y hy
    rcases List.mem_cons.mp hy with rfl | hy
    · exact ⟨E.no _ (by simp [X_InvalidTable]), fun H Q q => q⟩
    rcases List.mem_cons.mp hy with rfl | hy
    · exact ⟨E.no _ (by simp [X_InvalidTable]), fun H Q q => ⟨_, rfl, q⟩⟩
    exact absurd hy List.not_mem_nil
def gd_InvalidTable (ds : List D) : List (Str × D) := match ds with
  | [d1] => [("at", d1), ("tag", .str "InvalidTable")]
  | _ => []
theorem fs_InvalidTable : FsD g_InvalidTable gd_InvalidTable 1 := ⟨fun {K F ds vs} hl r => by
  match ds, hl, r with
  | [d1], _, r =>
    obtain ⟨v1, rfl, r1⟩ := reps1 r
    exact (repF_cons r1 (repF_cons (by rw [Rep]) repF_nil))⟩
theorem ce_InvalidTable {P : Program} {w : World} {K : PySem.W.Frag} {mg : Str → Option Value} {base : Heap} {fd : FuncData} (E : ExK P K mg X_InvalidTable fd) : CalE P w K mg base 2 "InvalidTable" (X_InvalidTable.C K) g_InvalidTable gd_InvalidTable 1 := by
  refine mk_spE E.ox E.ini E.ty (ok_InvalidTable E) ?_ E.g (by decide) (by decide) fs_InvalidTable
  obtain ⟨oc, od, osl, kV, doc, pm, ct, an, cda, cc, rfl, lk, hcd, T⟩ := E.ex
  exact .all fun us hl => match us, hl with | [_, _], _ => rfl
abbrev cws (c : Ks) : List Addr := [c.InvalidLetters, c.InvalidRule]
abbrev s__law_field : Stmt := topS 57
theorem sc__law_field : FnScope ["_law_e"] ["_law_e"] (defScope s__law_field) := ⟨rfl, rfl, rfl, by decide +kernel, rfl, by decide +kernel, by decide +kernel⟩
abbrev s__law_why : Stmt := topS 58
theorem sc__law_why : FnScope ["_law_ask", "_law_e"] ["_law_ask"] (defScope s__law_why) := ⟨rfl, rfl, rfl, by decide +kernel, rfl, by decide +kernel, by decide +kernel⟩
theorem dv__law_field {P : Program} {w : World} {K : PySem.W.Frag} {mg : Str → Option Value} {base : Heap} {f a C dd : Addr} {oe : Obj} {fs : List (Str × D)} (xc : XCls K C fieldNames) (hz : Zc (.ref C) (some dd) oe) (hf : ∃ vs, oe.data = .fields vs) {cdv : Value} {A : Around} {outer : List Env} {s : Shared} {H : Hp} {E : XK} {G : GI K} (T : Tells K G dd fs) (hr : L2H.RoomH 0 (A.deeper (envOfC "_law_field" (defScope s__law_field) s.heap.objs.size f cdv))) :
    @DSs (L2H.cxH CX0 P w K mg base ["_law_e"] "_law_field" (defScope s__law_field) f cdv A outer s H E (a, oe)) G (defBody s__law_field) (tField a fs) :=
  (dss_cons (ds_if (dt_cmp (o_in (uH hr)) l_in (de_xfP T xc hz hf List.mem_cons_self (by decide) (dv 0)) (de_tup (da_cons de_str (da_cons de_str (da_cons de_str (da_cons de_str (da_cons de_str (da_cons de_str da_nil))))))) (by rfl)) (dss_one (ds_ret de_non)) dss_nil)
    (dss_cons (ds_if (dt_cmp (o_in (uH hr)) l_in (de_xfP T xc hz hf List.mem_cons_self (by decide) (dv 0)) (de_tup (da_cons de_str (da_cons de_str da_nil))) (by rfl)) (dss_one (ds_ret (de_xfP T xc hz hf List.mem_cons_self (by decide) (dv 0)))) dss_nil)
    (dss_cons (ds_if (dt_cmp (o_in (uH hr)) l_in (de_xfP T xc hz hf List.mem_cons_self (by decide) (dv 0)) (de_tup (da_cons de_str (da_cons de_str (da_cons de_str da_nil)))) (by rfl)) (dss_one (ds_ret (de_xfP T xc hz hf List.mem_cons_self (by decide) (dv 0)))) dss_nil)
    (dss_cons (ds_if (dt_cmp (o_in (uH hr)) l_in (de_xfP T xc hz hf List.mem_cons_self (by decide) (dv 0)) (de_tup (da_cons de_str (da_cons de_str (da_cons de_str da_nil)))) (by rfl)) (dss_one (ds_ret (de_xfP T xc hz hf List.mem_cons_self (by decide) (dv 0)))) dss_nil)
    (dss_cons (ds_if (dt_cmp (o_in (uH hr)) l_in (de_xfP T xc hz hf List.mem_cons_self (by decide) (dv 0)) (de_tup (da_cons de_str (da_cons de_str da_nil))) (by rfl)) (dss_one (ds_ret (de_xfP T xc hz hf List.mem_cons_self (by decide) (dv 0)))) dss_nil)
    (dss_cons (ds_if (dt_cmp (o_eq (uH4 hr)) l_eq (de_xfP T xc hz hf List.mem_cons_self (by decide) (dv 0)) de_str (nomark _)) (dss_one (ds_ret (de_xfP T xc hz hf List.mem_cons_self (by decide) (dv 0)))) dss_nil)
    (dss_one (ds_ret (de_if (dt_cmp (o_eq (uH4 hr)) l_eq (de_xfP T xc hz hf List.mem_cons_self (by decide) (dv 0)) de_str (nomark _)) (de_xfP T xc hz hf List.mem_cons_self (by decide) (dv 0)) (de_xfP T xc hz hf List.mem_cons_self (by decide) (dv 0)))))))))))
/-! ### swapped -/
abbrev s_swapped : Stmt := topS 15
theorem sc_swapped : FnScope ["character"] ["character"] (defScope s_swapped) := ⟨rfl, rfl, rfl, by decide +kernel, rfl, by decide +kernel, by decide +kernel⟩
theorem dv_swapped {P : Program} {w : World} {K : PySem.W.Frag} {mg : Str → Option Value} {base : Heap} {f : Addr} {cdv : Value} {A : Around} {outer : List Env} {s : Shared} {H : Hp} {E : XK} {G : GI K} (c : Ks) (B : NB mg) (T : Cn mg)
    (hr : Room 0 (A.deeper (envOfC "swapped" (defScope s_swapped) s.heap.objs.size f cdv))) : @DSs (cxOf CX0 P w K mg base ["character"] "swapped" (defScope s_swapped) f cdv A outer s H E).nox G (defBody s_swapped) (t_swapped) :=
  (dss_one (ds_ret (de_if (dt_cmp (o_in (uI hr)) l_in (dv 0) (de_globE T.LOWER (fun _ => by rw [Rep])) (by rfl)) (de_upper (dv 0)) (de_lower (dv 0)))))
theorem ok_swapped {P : Program} {w : World} {K : PySem.W.Frag} {mg : Str → Option Value} {base : Heap} {f : Addr} {fd : FuncData} (c : Ks) (B : NB mg) (T : Cn mg) {dvs : List V} {kws : List (Str × V)} (F : DL.FnD K "swapped" "swapped" s_swapped dvs kws f fd)
    {sp : DSp} (len : ∀ ds M Q E, sp ds M Q E → ds.length = 1) (h : ∀ ds M Q E0, sp ds M Q E0 → t_swapped (bodyE K Q) (startD ["character"] ds) M) : FnOk P w K mg base CX0 1 f fd ["character"] (lSp K sp) :=
  dfunD F sc_swapped len fun cdv A outer s H E hr => ⟨t_swapped, fun G => dv_swapped c B T hr, h⟩
/-! ### is_word -/
abbrev s_is_word : Stmt := topS 16
theorem sc_is_word : FnScope ["word", "letters", "character"] ["word", "letters"] (defScope s_is_word) := ⟨rfl, rfl, rfl, by decide +kernel, rfl, by decide +kernel, by decide +kernel⟩
def t_is_word (c : Ks) : DTS :=
  (dRet (dCB rAll (dCons (dLc (dIterS (dVar 0)) (dgName 2) dYes (dAndV (dOp (rInD false) (dBM0 "str" rLower (dVar 2)) (dVar 1)) (dOp (rInD false) (dBM0 "str" rLower (dVar 2)) (dC (.str "abcdefghijklmnopqrstuvwxyz")))) [2]) dNil)))
theorem dv_is_word {P : Program} {w : World} {K : PySem.W.Frag} {mg : Str → Option Value} {base : Heap} {f : Addr} {cdv : Value} {A : Around} {outer : List Env} {s : Shared} {H : Hp} {E : XK} {G : GI K} (c : Ks) (B : NB mg) (T : Cn mg)
    (hr : Room 0 (A.deeper (envOfC "is_word" (defScope s_is_word) s.heap.objs.size f cdv))) : @DSs (cxOf CX0 P w K mg base ["word", "letters", "character"] "is_word" (defScope s_is_word) f cdv A outer s H E).nox G (defBody s_is_word) (t_is_word c) :=
  (dss_one (ds_ret (de_all B.all (da_cons (de_lc (g := (gName 2)) sc_is_word.nd (di_str (dv 0)) (blkOk_by (own := [("character", 2)]) (N := ["word", "letters", "character"]) (sc := defScope s_is_word) (by decide +kernel)) (tg_name (i := 2) (by decide)) (fun _ _ _ _ _ => (pg_name (i := 2) sc_is_word.nd rfl (Or.inl rfl))) (fun _ _ _ _ _ => dts_nil) (fun _ _ _ _ _ => (de_and (de_cmp (o_in (uI hr)) l_in (de_lower (dv 2)) (dv 1) (by rfl)) (de_one (de_cmp (o_in (uI hr)) l_in (de_lower (dv 2)) (de_globE T.LOWER (fun _ => by rw [Rep])) (by rfl)))))) da_nil))))
theorem ok_is_word {P : Program} {w : World} {K : PySem.W.Frag} {mg : Str → Option Value} {base : Heap} {f : Addr} {fd : FuncData} (c : Ks) (B : NB mg) (T : Cn mg) {dvs : List V} {kws : List (Str × V)} (F : DL.FnD K "is_word" "is_word" s_is_word dvs kws f fd)
    {sp : DSp} (len : ∀ ds M Q E, sp ds M Q E → ds.length = 2) (h : ∀ ds M Q E0, sp ds M Q E0 → t_is_word c (bodyE K Q) (startD ["word", "letters", "character"] ds) M) : FnOk P w K mg base CX0 1 f fd ["word", "letters"] (lSp K sp) :=
  dfunD F sc_is_word len fun cdv A outer s H E hr => ⟨t_is_word c, fun G => dv_is_word c B T hr, h⟩
/-! ### counts_of -/
abbrev s_counts_of : Stmt := topS 18
theorem sc_counts_of : FnScope ["word", "letters", "letter"] ["word", "letters"] (defScope s_counts_of) := ⟨rfl, rfl, rfl, by decide +kernel, rfl, by decide +kernel, by decide +kernel⟩
def t_counts_of (c : Ks) : DTS :=
  (dRet (dCB rToTup (dCons (dLc (dIterS (dVar 1)) (dgName 2) dYes (dOp rSubI (dBM "str" rScount (dVar 0) (dCons (dVar 2) dNil)) (dBM "str" rScount (dVar 0) (dCons (dCall sp_swapped (dCons (dVar 2) dNil)) dNil))) [2]) dNil)))
theorem dv_counts_of {P : Program} {w : World} {K : PySem.W.Frag} {mg : Str → Option Value} {base : Heap} {f : Addr} {cdv : Value} {A : Around} {outer : List Env} {s : Shared} {H : Hp} {E : XK} {G : GI K} (c : Ks) (B : NB mg) (T : Cn mg) {f_swapped : Addr} {d_swapped : FuncData} (C_swapped : Cal P w K mg base 1 "swapped" ["character"] sp_swapped f_swapped d_swapped)
    (hr : Room 1 (A.deeper (envOfC "counts_of" (defScope s_counts_of) s.heap.objs.size f cdv))) : @DSs (cxOf CX0 P w K mg base ["word", "letters", "letter"] "counts_of" (defScope s_counts_of) f cdv A outer s H E).nox G (defBody s_counts_of) (t_counts_of c) :=
  (dss_one (ds_ret (de_toTup B.tuple (da_cons (de_lc (g := (gName 2)) sc_counts_of.nd (di_str (dv 1)) (blkOk_by (own := [("letter", 2)]) (N := ["word", "letters", "letter"]) (sc := defScope s_counts_of) (by decide +kernel)) (tg_name (i := 2) (by decide)) (fun _ _ _ _ _ => (pg_name (i := 2) sc_counts_of.nd rfl (Or.inl rfl))) (fun _ _ _ _ _ => dts_nil) (fun _ _ _ _ _ => (de_sub (de_scount (dv 0) (da_cons (dv 2) da_nil)) (de_scount (dv 0) (da_cons (de_callC C_swapped (hr.mono (by omega)) (da_cons (dv 2) da_nil)) da_nil))))) da_nil))))
theorem ok_counts_of {P : Program} {w : World} {K : PySem.W.Frag} {mg : Str → Option Value} {base : Heap} {f : Addr} {fd : FuncData} (c : Ks) (B : NB mg) (T : Cn mg) {f_swapped : Addr} {d_swapped : FuncData} (C_swapped : Cal P w K mg base 1 "swapped" ["character"] sp_swapped f_swapped d_swapped) {dvs : List V} {kws : List (Str × V)} (F : DL.FnD K "counts_of" "counts_of" s_counts_of dvs kws f fd)
    {sp : DSp} (len : ∀ ds M Q E, sp ds M Q E → ds.length = 2) (h : ∀ ds M Q E0, sp ds M Q E0 → t_counts_of c (bodyE K Q) (startD ["word", "letters", "letter"] ds) M) : FnOk P w K mg base CX0 2 f fd ["word", "letters"] (lSp K sp) :=
  dfunD F sc_counts_of len fun cdv A outer s H E hr => ⟨t_counts_of c, fun G => dv_counts_of c B T C_swapped hr, h⟩
/-! ### is_number -/
abbrev s_is_number : Stmt := topS 35
theorem sc_is_number : FnScope ["value"] ["value"] (defScope s_is_number) := ⟨rfl, rfl, rfl, by decide +kernel, rfl, by decide +kernel, by decide +kernel⟩
def t_is_number (c : Ks) : DTS :=
  (dRet (dAndV (dIsi "int" (dVar 0)) (dNotV (dIsi "bool" (dVar 0)))))
theorem dv_is_number {P : Program} {w : World} {K : PySem.W.Frag} {mg : Str → Option Value} {base : Heap} {f : Addr} {cdv : Value} {A : Around} {outer : List Env} {s : Shared} {H : Hp} {E : XK} {G : GI K} (c : Ks) (B : NB mg) (T : Cn mg)
    (hr : Room 0 (A.deeper (envOfC "is_number" (defScope s_is_number) s.heap.objs.size f cdv))) : @DSs (cxOf CX0 P w K mg base ["value"] "is_number" (defScope s_is_number) f cdv A outer s H E).nox G (defBody s_is_number) (t_is_number c) :=
  (dss_one (ds_ret (de_and (de_isi (Ts := "int") B (dv 0)) (de_one (de_not (de_isi (Ts := "bool") B (dv 0)))))))
theorem ok_is_number {P : Program} {w : World} {K : PySem.W.Frag} {mg : Str → Option Value} {base : Heap} {f : Addr} {fd : FuncData} (c : Ks) (B : NB mg) (T : Cn mg) {dvs : List V} {kws : List (Str × V)} (F : DL.FnD K "is_number" "is_number" s_is_number dvs kws f fd)
    {sp : DSp} (len : ∀ ds M Q E, sp ds M Q E → ds.length = 1) (h : ∀ ds M Q E0, sp ds M Q E0 → t_is_number c (bodyE K Q) (startD ["value"] ds) M) : FnOk P w K mg base CX0 1 f fd ["value"] (lSp K sp) :=
  dfunD F sc_is_number len fun cdv A outer s H E hr => ⟨t_is_number c, fun G => dv_is_number c B T hr, h⟩
/-! ### is_counts -/
abbrev s_is_counts : Stmt := topS 36
theorem sc_is_counts : FnScope ["value", "width", "one"] ["value", "width"] (defScope s_is_counts) := ⟨rfl, rfl, rfl, by decide +kernel, rfl, by decide +kernel, by decide +kernel⟩
def t_is_counts (c : Ks) : DTS :=
  (dRet (dAndV (dIsi "tuple" (dVar 0)) (dAndV (dOp (rEqW false) (dCB rLen (dCons (dVar 0) dNil)) (dVar 1)) (dCB rAll (dCons (dLc (dIterT (dVar 0)) (dgName 2) dYes (dCall (sp_is_number c) (dCons (dVar 2) dNil)) [2]) dNil)))))
theorem dv_is_counts {P : Program} {w : World} {K : PySem.W.Frag} {mg : Str → Option Value} {base : Heap} {f : Addr} {cdv : Value} {A : Around} {outer : List Env} {s : Shared} {H : Hp} {E : XK} {G : GI K} (c : Ks) (B : NB mg) (T : Cn mg) {f_is_number : Addr} {d_is_number : FuncData} (C_is_number : Cal P w K mg base 1 "is_number" ["value"] (sp_is_number c) f_is_number d_is_number)
    (hr : Room 1 (A.deeper (envOfC "is_counts" (defScope s_is_counts) s.heap.objs.size f cdv))) : @DSs (cxOf CX0 P w K mg base ["value", "width", "one"] "is_counts" (defScope s_is_counts) f cdv A outer s H E).nox G (defBody s_is_counts) (t_is_counts c) :=
  (dss_one (ds_ret (de_and (de_isi (Ts := "tuple") B (dv 0)) (de_and (de_cmp (o_eq hr.units) l_eq (de_len B.len (da_cons (dv 0) da_nil)) (dv 1) (nomark _)) (de_one (de_all B.all (da_cons (de_lc (g := (gName 2)) sc_is_counts.nd (di_tup (dv 0)) (blkOk_by (own := [("one", 2)]) (N := ["value", "width", "one"]) (sc := defScope s_is_counts) (by decide +kernel)) (tg_name (i := 2) (by decide)) (fun _ _ _ _ _ => (pg_name (i := 2) sc_is_counts.nd rfl (Or.inl rfl))) (fun _ _ _ _ _ => dts_nil) (fun _ _ _ _ _ => (de_callC C_is_number (hr.mono (by omega)) (da_cons (dv 2) da_nil)))) da_nil)))))))
theorem ok_is_counts {P : Program} {w : World} {K : PySem.W.Frag} {mg : Str → Option Value} {base : Heap} {f : Addr} {fd : FuncData} (c : Ks) (B : NB mg) (T : Cn mg) {f_is_number : Addr} {d_is_number : FuncData} (C_is_number : Cal P w K mg base 1 "is_number" ["value"] (sp_is_number c) f_is_number d_is_number) {dvs : List V} {kws : List (Str × V)} (F : DL.FnD K "is_counts" "is_counts" s_is_counts dvs kws f fd)
    {sp : DSp} (len : ∀ ds M Q E, sp ds M Q E → ds.length = 2) (h : ∀ ds M Q E0, sp ds M Q E0 → t_is_counts c (bodyE K Q) (startD ["value", "width", "one"] ds) M) : FnOk P w K mg base CX0 2 f fd ["value", "width"] (lSp K sp) :=
  dfunD F sc_is_counts len fun cdv A outer s H E hr => ⟨t_is_counts c, fun G => dv_is_counts c B T C_is_number hr, h⟩
/-! ### minus -/
abbrev s_minus : Stmt := topS 38
theorem sc_minus : FnScope ["one", "other", "a", "b"] ["one", "other"] (defScope s_minus) := ⟨rfl, rfl, rfl, by decide +kernel, rfl, by decide +kernel, by decide +kernel⟩
def t_minus (c : Ks) : DTS :=
  (dRet (dCB rToTup (dCons (dLc (dZip (dCons (dVar 0) (dCons (dVar 1) dNil))) (dgTup 2 (dgCons (dgName 2) (dgCons (dgName 3) dgNil))) dYes (dOp rSubI (dVar 2) (dVar 3)) [2, 3]) dNil)))
theorem dv_minus {P : Program} {w : World} {K : PySem.W.Frag} {mg : Str → Option Value} {base : Heap} {f : Addr} {cdv : Value} {A : Around} {outer : List Env} {s : Shared} {H : Hp} {E : XK} {G : GI K} (c : Ks) (B : NB mg) (T : Cn mg)
    (hr : Room 0 (A.deeper (envOfC "minus" (defScope s_minus) s.heap.objs.size f cdv))) : @DSs (cxOf CX0 P w K mg base ["one", "other", "a", "b"] "minus" (defScope s_minus) f cdv A outer s H E).nox G (defBody s_minus) (t_minus c) :=
  (dss_one (ds_ret (de_toTup B.tuple (da_cons (de_lc (g := (gTup _ 2 (gCons (gName 2) (gCons (gName 3) gNil)))) sc_minus.nd (di_zip B.zip (da_cons (dv 0) (da_cons (dv 1) da_nil))) (blkOk_by (own := [("a", 2), ("b", 3)]) (N := ["one", "other", "a", "b"]) (sc := defScope s_minus) (by decide +kernel)) (tg_tup (tgs_cons (tg_name (i := 2) (by decide)) (tgs_cons (tg_name (i := 3) (by decide)) tgs_nil))) (fun _ _ _ _ _ => (pg_tup rfl (pgs_cons (pg_name (i := 2) sc_minus.nd rfl (Or.inl rfl)) (pgs_cons (pg_name (i := 3) sc_minus.nd rfl (Or.inl rfl)) pgs_nil)))) (fun _ _ _ _ _ => dts_nil) (fun _ _ _ _ _ => (de_sub (dv 2) (dv 3)))) da_nil))))
theorem ok_minus {P : Program} {w : World} {K : PySem.W.Frag} {mg : Str → Option Value} {base : Heap} {f : Addr} {fd : FuncData} (c : Ks) (B : NB mg) (T : Cn mg) {dvs : List V} {kws : List (Str × V)} (F : DL.FnD K "minus" "minus" s_minus dvs kws f fd)
    {sp : DSp} (len : ∀ ds M Q E, sp ds M Q E → ds.length = 2) (h : ∀ ds M Q E0, sp ds M Q E0 → t_minus c (bodyE K Q) (startD ["one", "other", "a", "b"] ds) M) : FnOk P w K mg base CX0 1 f fd ["one", "other"] (lSp K sp) :=
  dfunD F sc_minus len fun cdv A outer s H E hr => ⟨t_minus c, fun G => dv_minus c B T hr, h⟩
/-! ### scaled -/
abbrev s_scaled : Stmt := topS 39
theorem sc_scaled : FnScope ["one", "times", "a"] ["one", "times"] (defScope s_scaled) := ⟨rfl, rfl, rfl, by decide +kernel, rfl, by decide +kernel, by decide +kernel⟩
def t_scaled (c : Ks) : DTS :=
  (dRet (dCB rToTup (dCons (dLc (dIterT (dVar 0)) (dgName 2) dYes (dOp rMulX (dVar 1) (dVar 2)) [2]) dNil)))
theorem dv_scaled {P : Program} {w : World} {K : PySem.W.Frag} {mg : Str → Option Value} {base : Heap} {f : Addr} {cdv : Value} {A : Around} {outer : List Env} {s : Shared} {H : Hp} {E : XK} {G : GI K} (c : Ks) (B : NB mg) (T : Cn mg)
    (hr : Room 0 (A.deeper (envOfC "scaled" (defScope s_scaled) s.heap.objs.size f cdv))) : @DSs (cxOf CX0 P w K mg base ["one", "times", "a"] "scaled" (defScope s_scaled) f cdv A outer s H E).nox G (defBody s_scaled) (t_scaled c) :=
  (dss_one (ds_ret (de_toTup B.tuple (da_cons (de_lc (g := (gName 2)) sc_scaled.nd (di_tup (dv 0)) (blkOk_by (own := [("a", 2)]) (N := ["one", "times", "a"]) (sc := defScope s_scaled) (by decide +kernel)) (tg_name (i := 2) (by decide)) (fun _ _ _ _ _ => (pg_name (i := 2) sc_scaled.nd rfl (Or.inl rfl))) (fun _ _ _ _ _ => dts_nil) (fun _ _ _ _ _ => (de_mulX (dv 1) (dv 2)))) da_nil))))
theorem ok_scaled {P : Program} {w : World} {K : PySem.W.Frag} {mg : Str → Option Value} {base : Heap} {f : Addr} {fd : FuncData} (c : Ks) (B : NB mg) (T : Cn mg) {dvs : List V} {kws : List (Str × V)} (F : DL.FnD K "scaled" "scaled" s_scaled dvs kws f fd)
    {sp : DSp} (len : ∀ ds M Q E, sp ds M Q E → ds.length = 2) (h : ∀ ds M Q E0, sp ds M Q E0 → t_scaled c (bodyE K Q) (startD ["one", "times", "a"] ds) M) : FnOk P w K mg base CX0 1 f fd ["one", "times"] (lSp K sp) :=
  dfunD F sc_scaled len fun cdv A outer s H E hr => ⟨t_scaled c, fun G => dv_scaled c B T hr, h⟩
/-! ### lead_of -/
abbrev s_lead_of : Stmt := topS 40
theorem sc_lead_of : FnScope ["row", "at", "value"] ["row"] (defScope s_lead_of) := ⟨rfl, rfl, rfl, by decide +kernel, rfl, by decide +kernel, by decide +kernel⟩
def t_lead_of (c : Ks) : DTS :=
  (dRet (dOp rIxD (dLc (dEnumT (dCons (dVar 0) dNil)) (dgTup 2 (dgCons (dgName 1) (dgCons (dgName 2) dgNil))) (dTB (dOp (rEqW true) (dVar 2) (dC (.int 0)))) (dVar 1) [1, 2]) (dC (.int 0))))
theorem dv_lead_of {P : Program} {w : World} {K : PySem.W.Frag} {mg : Str → Option Value} {base : Heap} {f : Addr} {cdv : Value} {A : Around} {outer : List Env} {s : Shared} {H : Hp} {E : XK} {G : GI K} (c : Ks) (B : NB mg) (T : Cn mg)
    (hr : Room 0 (A.deeper (envOfC "lead_of" (defScope s_lead_of) s.heap.objs.size f cdv))) : @DSs (cxOf CX0 P w K mg base ["row", "at", "value"] "lead_of" (defScope s_lead_of) f cdv A outer s H E).nox G (defBody s_lead_of) (t_lead_of c) :=
  (dss_one (ds_ret (de_ix (de_lc (g := (gTup _ 2 (gCons (gName 1) (gCons (gName 2) gNil)))) sc_lead_of.nd (di_enumT B.enumerate (da_cons (dv 0) da_nil)) (blkOk_by (own := [("at", 1), ("value", 2)]) (N := ["row", "at", "value"]) (sc := defScope s_lead_of) (by decide +kernel)) (tg_tup (tgs_cons (tg_name (i := 1) (by decide)) (tgs_cons (tg_name (i := 2) (by decide)) tgs_nil))) (fun _ _ _ _ _ => (pg_tup rfl (pgs_cons (pg_name (i := 1) sc_lead_of.nd rfl (Or.inl rfl)) (pgs_cons (pg_name (i := 2) sc_lead_of.nd rfl (Or.inl rfl)) pgs_nil)))) (fun _ _ _ _ _ => (dts_one (dt_cmp (o_ne hr.units) l_ne (dv 2) de_int (nomark _)))) (fun _ _ _ _ _ => (dv 1))) de_int)))
theorem ok_lead_of {P : Program} {w : World} {K : PySem.W.Frag} {mg : Str → Option Value} {base : Heap} {f : Addr} {fd : FuncData} (c : Ks) (B : NB mg) (T : Cn mg) {dvs : List V} {kws : List (Str × V)} (F : DL.FnD K "lead_of" "lead_of" s_lead_of dvs kws f fd)
    {sp : DSp} (len : ∀ ds M Q E, sp ds M Q E → ds.length = 1) (h : ∀ ds M Q E0, sp ds M Q E0 → t_lead_of c (bodyE K Q) (startD ["row", "at", "value"] ds) M) : FnOk P w K mg base CX0 1 f fd ["row"] (lSp K sp) :=
  dfunD F sc_lead_of len fun cdv A outer s H E hr => ⟨t_lead_of c, fun G => dv_lead_of c B T hr, h⟩
/-! ### least_row -/
abbrev s_least_row : Stmt := topS 41
theorem sc_least_row : FnScope ["rows", "at", "found", "row"] ["rows", "at"] (defScope s_least_row) := ⟨rfl, rfl, rfl, by decide +kernel, rfl, by decide +kernel, by decide +kernel⟩
def t_least_row (c : Ks) : DTS :=
  (dSeq (dAsg (dOp rIxD (dVar 0) (dC (.int 0))) (dgName 2))
  (dSeq (dFor (dIter (dVar 0)) (dgName 3) (dIfS (dTB (dOp rLt (dCB rAbs (dCons (dOp rIxD (dVar 3) (dVar 1)) dNil)) (dCB rAbs (dCons (dOp rIxD (dVar 2) (dVar 1)) dNil)))) (dAsg (dVar 3) (dgName 2)) dNext))
  (dRet (dVar 2))))
theorem dv_least_row {P : Program} {w : World} {K : PySem.W.Frag} {mg : Str → Option Value} {base : Heap} {f : Addr} {cdv : Value} {A : Around} {outer : List Env} {s : Shared} {H : Hp} {E : XK} {G : GI K} (c : Ks) (B : NB mg) (T : Cn mg)
    (hr : Room 0 (A.deeper (envOfC "least_row" (defScope s_least_row) s.heap.objs.size f cdv))) : @DSs (cxOf CX0 P w K mg base ["rows", "at", "found", "row"] "least_row" (defScope s_least_row) f cdv A outer s H E).nox G (defBody s_least_row) (t_least_row c) :=
  (dss_cons (ds_set (i := 2) sc_least_row.nd (de_ix (dv 0) de_int))
    (dss_cons (ds_for PassesOwn.never rfl (di_list (dv 0)) (dg_name (i := 3) sc_least_row.nd) (dss_one (ds_if (dt_cmp o_lt l_lt (de_abs B.abs (da_cons (de_ix (dv 3) (dv 1)) da_nil)) (de_abs B.abs (da_cons (de_ix (dv 2) (dv 1)) da_nil)) (nomark _)) (dss_one (ds_set (i := 2) sc_least_row.nd (dv 3))) dss_nil)))
    (dss_one (ds_ret (dv 2)))))
theorem ok_least_row {P : Program} {w : World} {K : PySem.W.Frag} {mg : Str → Option Value} {base : Heap} {f : Addr} {fd : FuncData} (c : Ks) (B : NB mg) (T : Cn mg) {dvs : List V} {kws : List (Str × V)} (F : DL.FnD K "least_row" "least_row" s_least_row dvs kws f fd)
    {sp : DSp} (len : ∀ ds M Q E, sp ds M Q E → ds.length = 2) (h : ∀ ds M Q E0, sp ds M Q E0 → t_least_row c (bodyE K Q) (startD ["rows", "at", "found", "row"] ds) M) : FnOk P w K mg base CX0 1 f fd ["rows", "at"] (lSp K sp) :=
  dfunD F sc_least_row len fun cdv A outer s H E hr => ⟨t_least_row c, fun G => dv_least_row c B T hr, h⟩
/-! ### normal -/
abbrev s_normal : Stmt := topS 42
theorem sc_normal : FnScope ["width", "rows", "zero", "found", "left", "at", "here", "least", "rests", "row", "pivot", "one"] ["width", "rows"] (defScope s_normal) := ⟨rfl, rfl, rfl, by decide +kernel, rfl, by decide +kernel, by decide +kernel⟩
def t_normal (c : Ks) : DTS :=
  (dSeq (dAsg (dTup (dCons (dOp rMulT (dTup (dCons (dC (.int 0)) dNil)) (dVar 0)) (dCons (dLstM dNil) dNil))) (dgTup 2 (dgCons (dgName 2) (dgCons (dgName 3) dgNil))))
  (dSeq (dAsg (dLc (dIter (dVar 1)) (dgName 9) (dTB (dOp (rEqW true) (dVar 9) (dVar 2))) (dVar 9) [9]) (dgName 4))
  (dSeq (dFor (dRng1 (dCons (dVar 0) dNil)) (dgName 5) (dSeq (dAsg (dLc (dIter (dVar 4)) (dgName 9) (dTB (dOp (rEqW true) (dOp rIxD (dVar 9) (dVar 5)) (dC (.int 0)))) (dVar 9) [9]) (dgName 6))
  (dSeq (dAsg (dLc (dIter (dVar 4)) (dgName 9) (dTB (dOp (rEqW false) (dOp rIxD (dVar 9) (dVar 5)) (dC (.int 0)))) (dVar 9) [9]) (dgName 4))
  (dSeq (dWhile (dTB (dOp rGt (dCB rLen (dCons (dVar 6) dNil)) (dC (.int 1)))) (dSeq (dAsg (dCall (sp_least_row c) (dCons (dVar 6) (dCons (dVar 5) dNil))) (dgName 7))
  (dSeq (dAsg (dLc (dIter (dVar 6)) (dgName 9) (dTB (dOp (rEqW true) (dVar 9) (dVar 7))) (dCall (sp_minus c) (dCons (dVar 9) (dCons (dCall (sp_scaled c) (dCons (dVar 7) (dCons (dOp rFdivZ (dOp rIxD (dVar 9) (dVar 5)) (dOp rIxD (dVar 7) (dVar 5))) dNil))) dNil))) [9]) (dgName 8))
  (dSeq (dAsg (dOp rAdd (dLst (dCons (dVar 7) dNil)) (dLc (dIter (dVar 8)) (dgName 9) (dTB (dOp (rEqW true) (dOp rIxD (dVar 9) (dVar 5)) (dC (.int 0)))) (dVar 9) [9])) (dgName 6))
  (dAsg (dOp rAdd (dVar 4) (dLc (dIter (dVar 8)) (dgName 9) (dAnd (dTB (dOp (rEqW false) (dOp rIxD (dVar 9) (dVar 5)) (dC (.int 0)))) (dTB (dOp (rEqW true) (dVar 9) (dVar 2)))) (dVar 9) [9])) (dgName 4))))))
  (dFor (dIter (dVar 6)) (dgName 9) (dSeq (dAsg (dIf (dTB (dOp rGt (dOp rIxD (dVar 9) (dVar 5)) (dC (.int 0)))) (dVar 9) (dCall (sp_scaled c) (dCons (dVar 9) (dCons (dUn rNeg (dC (.int 1))) dNil)))) (dgName 10))
  (dSeq (dAsg (dLcM (dIter (dVar 3)) (dgName 11) dYes (dCall (sp_minus c) (dCons (dVar 11) (dCons (dCall (sp_scaled c) (dCons (dVar 10) (dCons (dOp rFdivZ (dOp rIxD (dVar 11) (dVar 5)) (dOp rIxD (dVar 10) (dVar 5))) dNil))) dNil))) [11]) (dgName 3))
  (dDrop (dBM "list" rAppend (dVar 3) (dCons (dVar 10) dNil))))))))))
  (dRet (dVar 3)))))
theorem dv_normal {P : Program} {w : World} {K : PySem.W.Frag} {mg : Str → Option Value} {base : Heap} {f : Addr} {cdv : Value} {A : Around} {outer : List Env} {s : Shared} {H : Hp} {E : XK} {G : GI K} (c : Ks) (B : NB mg) (T : Cn mg) {f_least_row : Addr} {d_least_row : FuncData} (C_least_row : Cal P w K mg base 1 "least_row" ["rows", "at"] (sp_least_row c) f_least_row d_least_row) {f_minus : Addr} {d_minus : FuncData} (C_minus : Cal P w K mg base 1 "minus" ["one", "other"] (sp_minus c) f_minus d_minus) {f_scaled : Addr} {d_scaled : FuncData} (C_scaled : Cal P w K mg base 1 "scaled" ["one", "times"] (sp_scaled c) f_scaled d_scaled)
    (hr : Room 1 (A.deeper (envOfC "normal" (defScope s_normal) s.heap.objs.size f cdv))) : @DSs (cxOf CX0 P w K mg base ["width", "rows", "zero", "found", "left", "at", "here", "least", "rests", "row", "pivot", "one"] "normal" (defScope s_normal) f cdv A outer s H E).nox G (defBody s_normal) (t_normal c) :=
  (dss_cons (ds_asg (de_tup (da_cons (de_mulT (de_tup (da_cons de_int da_nil)) (dv 0)) (da_cons (de_lstM da_nil) da_nil))) (dg_tup rfl (dgs_cons (dg_name (i := 2) sc_normal.nd) (dgs_cons (dg_name (i := 3) sc_normal.nd) dgs_nil))))
    (dss_cons (ds_setLc (i := 4) (g := (gName 9)) sc_normal.nd (di_list (dv 1)) (blkOk_by (own := [("row", 9)]) (N := ["width", "rows", "zero", "found", "left", "at", "here", "least", "rests", "row", "pivot", "one"]) (sc := defScope s_normal) (by decide +kernel)) (tg_name (i := 9) (by decide)) (fun _ _ _ _ _ => (pg_name (i := 9) sc_normal.nd rfl (Or.inl rfl))) (fun _ _ _ _ _ => (dts_one (dt_cmp (o_ne hr.units) l_ne (dv 9) (dv 2) (nomark _)))) (fun _ _ _ _ _ => (dv 9)))
    (dss_cons (ds_for PassesOwn.never rfl (di_rng1 B.range (da_cons (dv 0) da_nil)) (dg_name (i := 5) sc_normal.nd) (dss_cons (ds_setLc (i := 6) (g := (gName 9)) sc_normal.nd (di_list (dv 4)) (blkOk_by (own := [("row", 9)]) (N := ["width", "rows", "zero", "found", "left", "at", "here", "least", "rests", "row", "pivot", "one"]) (sc := defScope s_normal) (by decide +kernel)) (tg_name (i := 9) (by decide)) (fun _ _ _ _ _ => (pg_name (i := 9) sc_normal.nd rfl (Or.inl rfl))) (fun _ _ _ _ _ => (dts_one (dt_cmp (o_ne hr.units) l_ne (de_ix (dv 9) (dv 5)) de_int (nomark _)))) (fun _ _ _ _ _ => (dv 9)))
    (dss_cons (ds_setLc (i := 4) (g := (gName 9)) sc_normal.nd (di_list (dv 4)) (blkOk_by (own := [("row", 9)]) (N := ["width", "rows", "zero", "found", "left", "at", "here", "least", "rests", "row", "pivot", "one"]) (sc := defScope s_normal) (by decide +kernel)) (tg_name (i := 9) (by decide)) (fun _ _ _ _ _ => (pg_name (i := 9) sc_normal.nd rfl (Or.inl rfl))) (fun _ _ _ _ _ => (dts_one (dt_cmp (o_eq hr.units) l_eq (de_ix (dv 9) (dv 5)) de_int (nomark _)))) (fun _ _ _ _ _ => (dv 9)))
    (dss_cons (ds_while PassesOwn.never (dt_cmp o_gt l_gt (de_len B.len (da_cons (dv 6) da_nil)) de_int (nomark _)) (dss_cons (ds_set (i := 7) sc_normal.nd (de_callC C_least_row (hr.mono (by omega)) (da_cons (dv 6) (da_cons (dv 5) da_nil))))
    (dss_cons (ds_setLc (i := 8) (g := (gName 9)) sc_normal.nd (di_list (dv 6)) (blkOk_by (own := [("row", 9)]) (N := ["width", "rows", "zero", "found", "left", "at", "here", "least", "rests", "row", "pivot", "one"]) (sc := defScope s_normal) (by decide +kernel)) (tg_name (i := 9) (by decide)) (fun _ _ _ _ _ => (pg_name (i := 9) sc_normal.nd rfl (Or.inl rfl))) (fun _ _ _ _ _ => (dts_one (dt_cmp (o_ne hr.units) l_ne (dv 9) (dv 7) (nomark _)))) (fun _ _ _ _ _ => (de_callC C_minus (hr.mono (by omega)) (da_cons (dv 9) (da_cons (de_callC C_scaled (hr.mono (by omega)) (da_cons (dv 7) (da_cons (de_fdivZ (de_ix (dv 9) (dv 5)) (de_ix (dv 7) (dv 5))) da_nil))) da_nil)))))
    (dss_cons (ds_set (i := 6) sc_normal.nd (de_add (de_lst (da_cons (dv 7) da_nil)) (de_lc (g := (gName 9)) sc_normal.nd (di_list (dv 8)) (blkOk_by (own := [("row", 9)]) (N := ["width", "rows", "zero", "found", "left", "at", "here", "least", "rests", "row", "pivot", "one"]) (sc := defScope s_normal) (by decide +kernel)) (tg_name (i := 9) (by decide)) (fun _ _ _ _ _ => (pg_name (i := 9) sc_normal.nd rfl (Or.inl rfl))) (fun _ _ _ _ _ => (dts_one (dt_cmp (o_ne hr.units) l_ne (de_ix (dv 9) (dv 5)) de_int (nomark _)))) (fun _ _ _ _ _ => (dv 9)))))
    (dss_one (ds_set (i := 4) sc_normal.nd (de_add (dv 4) (de_lc (g := (gName 9)) sc_normal.nd (di_list (dv 8)) (blkOk_by (own := [("row", 9)]) (N := ["width", "rows", "zero", "found", "left", "at", "here", "least", "rests", "row", "pivot", "one"]) (sc := defScope s_normal) (by decide +kernel)) (tg_name (i := 9) (by decide)) (fun _ _ _ _ _ => (pg_name (i := 9) sc_normal.nd rfl (Or.inl rfl))) (fun _ _ _ _ _ => (dts_one (PW.pt (dw_and (dt_cmp (o_eq hr.units) l_eq (de_ix (dv 9) (dv 5)) de_int (nomark _)) (dw_and1 (dt_cmp (o_ne hr.units) l_ne (dv 9) (dv 2) (nomark _))))))) (fun _ _ _ _ _ => (dv 9))))))))))
    (dss_one (ds_for PassesOwn.never rfl (di_list (dv 6)) (dg_name (i := 9) sc_normal.nd) (dss_cons (ds_set (i := 10) sc_normal.nd (de_if (dt_cmp o_gt l_gt (de_ix (dv 9) (dv 5)) de_int (nomark _)) (dv 9) (de_callC C_scaled (hr.mono (by omega)) (da_cons (dv 9) (da_cons (de_neg de_int) da_nil)))))
    (dss_cons (ds_setLcM (i := 3) (g := (gName 11)) sc_normal.nd (di_list (dv 3)) (blkOk_by (own := [("one", 11)]) (N := ["width", "rows", "zero", "found", "left", "at", "here", "least", "rests", "row", "pivot", "one"]) (sc := defScope s_normal) (by decide +kernel)) (tg_name (i := 11) (by decide)) (fun _ _ _ _ _ => (pg_name (i := 11) sc_normal.nd rfl (Or.inl rfl))) (fun _ _ _ _ _ => dts_nil) (fun _ _ _ _ _ => (de_callC C_minus (hr.mono (by omega)) (da_cons (dv 11) (da_cons (de_callC C_scaled (hr.mono (by omega)) (da_cons (dv 10) (da_cons (de_fdivZ (de_ix (dv 11) (dv 5)) (de_ix (dv 10) (dv 5))) da_nil))) da_nil)))))
    (dss_one (ds_expr (de_append (dv 3) (da_cons (dv 10) da_nil))))))))))))
    (dss_one (ds_ret (dv 3))))))
theorem ok_normal {P : Program} {w : World} {K : PySem.W.Frag} {mg : Str → Option Value} {base : Heap} {f : Addr} {fd : FuncData} (c : Ks) (B : NB mg) (T : Cn mg) {f_least_row : Addr} {d_least_row : FuncData} (C_least_row : Cal P w K mg base 1 "least_row" ["rows", "at"] (sp_least_row c) f_least_row d_least_row) {f_minus : Addr} {d_minus : FuncData} (C_minus : Cal P w K mg base 1 "minus" ["one", "other"] (sp_minus c) f_minus d_minus) {f_scaled : Addr} {d_scaled : FuncData} (C_scaled : Cal P w K mg base 1 "scaled" ["one", "times"] (sp_scaled c) f_scaled d_scaled) {dvs : List V} {kws : List (Str × V)} (F : DL.FnD K "normal" "normal" s_normal dvs kws f fd)
    {sp : DSp} (len : ∀ ds M Q E, sp ds M Q E → ds.length = 2) (h : ∀ ds M Q E0, sp ds M Q E0 → t_normal c (bodyE K Q) (startD ["width", "rows", "zero", "found", "left", "at", "here", "least", "rests", "row", "pivot", "one"] ds) M) : FnOk P w K mg base CX0 2 f fd ["width", "rows"] (lSp K sp) :=
  dfunD F sc_normal len fun cdv A outer s H E hr => ⟨t_normal c, fun G => dv_normal c B T C_least_row C_minus C_scaled hr, h⟩
/-! ### size_of -/
abbrev s_size_of : Stmt := topS 43
theorem sc_size_of : FnScope ["width", "rows", "found", "at", "row"] ["width", "rows"] (defScope s_size_of) := ⟨rfl, rfl, rfl, by decide +kernel, rfl, by decide +kernel, by decide +kernel⟩
def t_size_of (c : Ks) : DTS :=
  (dSeq (dIfS (dTB (dOp rLt (dCB rLen (dCons (dVar 1) dNil)) (dVar 0))) (dRet (dC .non)) dNext)
  (dSeq (dAsg (dC (.int 1)) (dgName 2))
  (dSeq (dFor (dEnumL (dCons (dVar 1) dNil)) (dgTup 2 (dgCons (dgName 3) (dgCons (dgName 4) dgNil))) (dAug 2 (dOp rIxD (dVar 4) (dVar 3)) rMulW))
  (dRet (dVar 2)))))
theorem dv_size_of {P : Program} {w : World} {K : PySem.W.Frag} {mg : Str → Option Value} {base : Heap} {f : Addr} {cdv : Value} {A : Around} {outer : List Env} {s : Shared} {H : Hp} {E : XK} {G : GI K} (c : Ks) (B : NB mg) (T : Cn mg)
    (hr : Room 0 (A.deeper (envOfC "size_of" (defScope s_size_of) s.heap.objs.size f cdv))) : @DSs (cxOf CX0 P w K mg base ["width", "rows", "found", "at", "row"] "size_of" (defScope s_size_of) f cdv A outer s H E).nox G (defBody s_size_of) (t_size_of c) :=
  (dss_cons (ds_if (dt_cmp o_lt l_lt (de_len B.len (da_cons (dv 1) da_nil)) (dv 0) (nomark _)) (dss_one (ds_ret de_non)) dss_nil)
    (dss_cons (ds_set (i := 2) sc_size_of.nd de_int)
    (dss_cons (ds_for PassesOwn.never rfl (di_enumL B.enumerate (da_cons (dv 1) da_nil)) (dg_tup rfl (dgs_cons (dg_name (i := 3) sc_size_of.nd) (dgs_cons (dg_name (i := 4) sc_size_of.nd) dgs_nil))) (dss_one (ds_aug (i := 2) sc_size_of.nd (de_ix (dv 4) (dv 3)) iop_mulW l_int)))
    (dss_one (ds_ret (dv 2))))))
theorem ok_size_of {P : Program} {w : World} {K : PySem.W.Frag} {mg : Str → Option Value} {base : Heap} {f : Addr} {fd : FuncData} (c : Ks) (B : NB mg) (T : Cn mg) {dvs : List V} {kws : List (Str × V)} (F : DL.FnD K "size_of" "size_of" s_size_of dvs kws f fd)
    {sp : DSp} (len : ∀ ds M Q E, sp ds M Q E → ds.length = 2) (h : ∀ ds M Q E0, sp ds M Q E0 → t_size_of c (bodyE K Q) (startD ["width", "rows", "found", "at", "row"] ds) M) : FnOk P w K mg base CX0 1 f fd ["width", "rows"] (lSp K sp) :=
  dfunD F sc_size_of len fun cdv A outer s H E hr => ⟨t_size_of c, fun G => dv_size_of c B T hr, h⟩
/-! ### Table.__init__ -/
abbrev s_Table___init__ : Stmt := inClass (topS 44) 0
theorem sc_Table___init__ : FnScope ["self", "width", "rows", "at", "row"] ["self", "width", "rows"] (defScope s_Table___init__) := ⟨rfl, rfl, rfl, by decide +kernel, rfl, by decide +kernel, by decide +kernel⟩
def t_Table___init__ (c : Ks) (E0 : DX) : DTS :=
  (dSeq (dIfS (dOr (dNot (dTru (dCall (sp_is_number c) (dCons (dVar 1) dNil)))) (dNot (dTB (dChain rLe rLe (dC (.int 1)) (dVar 1) (dC (.int 3)))))) (dRaise E0 c.InvalidNumber gd_InvalidNumber 1 (dCons (dVar 1) dNil)) dNext)
  (dSeq (dFor (dEnumL (dCons (dVar 2) dNil)) (dgTup 2 (dgCons (dgName 3) (dgCons (dgName 4) dgNil))) (dIfS (dNot (dTru (dCall (sp_is_counts c) (dCons (dVar 4) (dCons (dVar 1) dNil))))) (dRaise E0 c.InvalidTable gd_InvalidTable 1 (dCons (dVar 3) dNil)) dNext))
  (dSeq (dSetF c.Table "own_width" (dVar 0) (dVar 1))
  (dSeq (dSetF c.Table "normal_rows" (dVar 0) (dCall (sp_normal c) (dCons (dVar 1) (dCons (dCB rToListA (dCons (dVar 2) dNil)) dNil))))
  (dSeq (dSetF c.Table "leads" (dVar 0) (dLc (dIter (dFld c.Table "normal_rows" (dVar 0))) (dgName 4) dYes (dCall (sp_lead_of c) (dCons (dVar 4) dNil)) [4]))
  (dSeq (dSetF c.Table "identity" (dVar 0) (dTup (dCons (dVar 1) (dCons (dCB rToTup (dCons (dFld c.Table "normal_rows" (dVar 0)) dNil)) dNil))))
  (dSetF c.Table "own_size" (dVar 0) (dCall (sp_size_of c) (dCons (dVar 1) (dCons (dFld c.Table "normal_rows" (dVar 0)) dNil))))))))))
theorem dv_Table___init__ {P : Program} {w : World} {K : PySem.W.Frag} {mg : Str → Option Value} {base : Heap} {f : Addr} {cdv : Value} {A : Around} {outer : List Env} {s : Shared} {H : Hp} {E : XK} {G : GI K} (c : Ks) {E0 : DX} (B : NB mg) (T : Cn mg) (K_Table : Kls K c.Table ["own_width", "normal_rows", "leads", "identity", "own_size"]) {f_is_number : Addr} {d_is_number : FuncData} (C_is_number : Cal P w K mg base 1 "is_number" ["value"] (sp_is_number c) f_is_number d_is_number) {f_is_counts : Addr} {d_is_counts : FuncData} (C_is_counts : Cal P w K mg base 2 "is_counts" ["value", "width"] (sp_is_counts c) f_is_counts d_is_counts) {f_normal : Addr} {d_normal : FuncData} (C_normal : Cal P w K mg base 2 "normal" ["width", "rows"] (sp_normal c) f_normal d_normal) {f_lead_of : Addr} {d_lead_of : FuncData} (C_lead_of : Cal P w K mg base 1 "lead_of" ["row"] (sp_lead_of c) f_lead_of d_lead_of) {f_size_of : Addr} {d_size_of : FuncData} (C_size_of : Cal P w K mg base 1 "size_of" ["width", "rows"] (sp_size_of c) f_size_of d_size_of) (C_InvalidNumber : CalE P w K mg base 2 "InvalidNumber" c.InvalidNumber g_InvalidNumber gd_InvalidNumber 1) (C_InvalidTable : CalE P w K mg base 2 "InvalidTable" c.InvalidTable g_InvalidTable gd_InvalidTable 1) (ws : @Wish K G E0 E)
    (hr : Room 2 (A.deeper (envOfC "Table.__init__" (defScope s_Table___init__) s.heap.objs.size f cdv))) : @DSs (cxOf (L2.CX P w) P w K mg base ["self", "width", "rows", "at", "row"] "Table.__init__" (defScope s_Table___init__) f cdv A outer s H E) G (defBody s_Table___init__) (t_Table___init__ c E0) :=
  (dss_cons (ds_if (PW.pt (dw_or (dt_not (dt_tru (de_callC C_is_number (hr.mono (by omega)) (da_cons (dv 1) da_nil)))) (dw_or1 (dt_not (dt_chain o_le l_le o_le l_le de_int (dv 1) (de_globE T.MOST_WIDTH (fun _ => by rw [Rep]))))))) (dss_one (ds_raise C_InvalidNumber ws (hr.mono (by omega)) (da_cons (dv 1) da_nil))) dss_nil)
    (dss_cons (ds_for (L2.passes_of rfl) rfl (di_enumL B.enumerate (da_cons (dv 2) da_nil)) (dg_tup rfl (dgs_cons (dg_name (i := 3) sc_Table___init__.nd) (dgs_cons (dg_name (i := 4) sc_Table___init__.nd) dgs_nil))) (dss_one (ds_if (dt_not (dt_tru (de_callC C_is_counts (hr.mono (by omega)) (da_cons (dv 4) (da_cons (dv 1) da_nil))))) (dss_one (ds_raise C_InvalidTable ws (hr.mono (by omega)) (da_cons (dv 3) da_nil))) dss_nil)))
    (dss_cons (ds_setF (n := "own_width") K_Table (dv 0) (dv 1))
    (dss_cons (ds_setF (n := "normal_rows") K_Table (dv 0) (de_callC C_normal (hr.mono (by omega)) (da_cons (dv 1) (da_cons (de_toList B.list (da_cons (dv 2) da_nil)) da_nil))))
    (dss_cons (ds_setF (n := "leads") K_Table (dv 0) (de_lc (g := (gName 4)) sc_Table___init__.nd (di_list (de_fld (n := "normal_rows") K_Table (dv 0))) (blkOk_by (own := [("row", 4)]) (N := ["self", "width", "rows", "at", "row"]) (sc := defScope s_Table___init__) (by decide +kernel)) (tg_name (i := 4) (by decide)) (fun _ _ _ _ _ => (pg_name (i := 4) sc_Table___init__.nd rfl (Or.inl rfl))) (fun _ _ _ _ _ => dts_nil) (fun _ _ _ _ _ => (de_callC C_lead_of (hr.mono (by omega)) (da_cons (dv 4) da_nil)))))
    (dss_cons (ds_setF (n := "identity") K_Table (dv 0) (de_tup (da_cons (dv 1) (da_cons (de_toTup B.tuple (da_cons (de_fld (n := "normal_rows") K_Table (dv 0)) da_nil)) da_nil))))
    (dss_one (ds_setF (n := "own_size") K_Table (dv 0) (de_callC C_size_of (hr.mono (by omega)) (da_cons (dv 1) (da_cons (de_fld (n := "normal_rows") K_Table (dv 0)) da_nil)))))))))))
theorem ok_Table___init__ {P : Program} {w : World} {K : PySem.W.Frag} {mg : Str → Option Value} {base : Heap} {f : Addr} {fd : FuncData} (c : Ks) (B : NB mg) (T : Cn mg) (K_Table : Kls K c.Table ["own_width", "normal_rows", "leads", "identity", "own_size"]) {f_is_number : Addr} {d_is_number : FuncData} (C_is_number : Cal P w K mg base 1 "is_number" ["value"] (sp_is_number c) f_is_number d_is_number) {f_is_counts : Addr} {d_is_counts : FuncData} (C_is_counts : Cal P w K mg base 2 "is_counts" ["value", "width"] (sp_is_counts c) f_is_counts d_is_counts) {f_normal : Addr} {d_normal : FuncData} (C_normal : Cal P w K mg base 2 "normal" ["width", "rows"] (sp_normal c) f_normal d_normal) {f_lead_of : Addr} {d_lead_of : FuncData} (C_lead_of : Cal P w K mg base 1 "lead_of" ["row"] (sp_lead_of c) f_lead_of d_lead_of) {f_size_of : Addr} {d_size_of : FuncData} (C_size_of : Cal P w K mg base 1 "size_of" ["width", "rows"] (sp_size_of c) f_size_of d_size_of) (C_InvalidNumber : CalE P w K mg base 2 "InvalidNumber" c.InvalidNumber g_InvalidNumber gd_InvalidNumber 1) (C_InvalidTable : CalE P w K mg base 2 "InvalidTable" c.InvalidTable g_InvalidTable gd_InvalidTable 1) {dvs : List V} {kws : List (Str × V)} (F : DL.FnD K "__init__" "Table.__init__" s_Table___init__ dvs kws f fd)
    {sp : DSp} (len : ∀ ds M Q E, sp ds M Q E → ds.length = 3) (h : ∀ E0 ds M Q, sp ds M Q E0 → t_Table___init__ c E0 (bodyE K Q) (startD ["self", "width", "rows", "at", "row"] ds) M) : FnOk P w K mg base (L2.CX P w) 3 f fd ["self", "width", "rows"] (lSp K sp) :=
  dfunX F sc_Table___init__ len fun cdv A outer s H E E0 hr => ⟨t_Table___init__ c E0, fun G ws => dv_Table___init__ c B T K_Table C_is_number C_is_counts C_normal C_lead_of C_size_of C_InvalidNumber C_InvalidTable ws hr, h E0⟩
/-! ### check_letters -/
abbrev s_check_letters : Stmt := topS 48
theorem sc_check_letters : FnScope ["letters", "at", "letter"] ["letters"] (defScope s_check_letters) := ⟨rfl, rfl, rfl, by decide +kernel, rfl, by decide +kernel, by decide +kernel⟩
def t_check_letters (c : Ks) (E0 : DX) : DTS :=
  (dSeq (dFor (dEnumS (dCons (dVar 0) dNil)) (dgTup 2 (dgCons (dgName 1) (dgCons (dgName 2) dgNil))) (dIfS (dOr (dTB (dOp (rInD true) (dVar 2) (dC (.str "abcdefghijklmnopqrstuvwxyz")))) (dOr (dTB (dOp (rInD false) (dVar 2) (dSl (dVar 0) (fun _ M Q => Q none M) (dPart (dVar 1))))) (dTB (dOp rGe (dVar 1) (dC (.int 3)))))) (dRaise E0 c.InvalidLetters gd_InvalidLetters 1 (dCons (dVar 1) dNil)) dNext))
  (dIfS (dTB (dOp (rEqW false) (dVar 0) (dC (.str "")))) (dRaise E0 c.InvalidLetters gd_InvalidLetters 1 (dCons (dC (.int 0)) dNil)) dNext))
theorem dv_check_letters {P : Program} {w : World} {K : PySem.W.Frag} {mg : Str → Option Value} {base : Heap} {f : Addr} {cdv : Value} {A : Around} {outer : List Env} {s : Shared} {H : Hp} {E : XK} {G : GI K} (c : Ks) {E0 : DX} (B : NB mg) (T : Cn mg) (C_InvalidLetters : CalE P w K mg base 2 "InvalidLetters" c.InvalidLetters g_InvalidLetters gd_InvalidLetters 1) (ws : @Wish K G E0 E)
    (hr : Room 2 (A.deeper (envOfC "check_letters" (defScope s_check_letters) s.heap.objs.size f cdv))) : @DSs (cxOf (L2.CX P w) P w K mg base ["letters", "at", "letter"] "check_letters" (defScope s_check_letters) f cdv A outer s H E) G (defBody s_check_letters) (t_check_letters c E0) :=
  (dss_cons (ds_for (L2.passes_of rfl) rfl (di_enumS B.enumerate (da_cons (dv 0) da_nil)) (dg_tup rfl (dgs_cons (dg_name (i := 1) sc_check_letters.nd) (dgs_cons (dg_name (i := 2) sc_check_letters.nd) dgs_nil))) (dss_one (ds_if (PW.pt (dw_or (dt_cmp (o_nin (uI hr)) l_nin (dv 2) (de_globE T.LOWER (fun _ => by rw [Rep])) (by rfl)) (dw_or (dt_cmp (o_in (uI hr)) l_in (dv 2) (de_sl (dv 0) do_none (do_some (dv 1))) (by rfl)) (dw_or1 (dt_cmp o_ge l_ge (dv 1) (de_globE T.MOST_LETTERS (fun _ => by rw [Rep])) (nomark _)))))) (dss_one (ds_raise C_InvalidLetters ws (hr.mono (by omega)) (da_cons (dv 1) da_nil))) dss_nil)))
    (dss_one (ds_if (dt_cmp (o_eq hr.units) l_eq (dv 0) de_str (nomark _)) (dss_one (ds_raise C_InvalidLetters ws (hr.mono (by omega)) (da_cons de_int da_nil))) dss_nil)))
theorem ok_check_letters {P : Program} {w : World} {K : PySem.W.Frag} {mg : Str → Option Value} {base : Heap} {f : Addr} {fd : FuncData} (c : Ks) (B : NB mg) (T : Cn mg) (C_InvalidLetters : CalE P w K mg base 2 "InvalidLetters" c.InvalidLetters g_InvalidLetters gd_InvalidLetters 1) {dvs : List V} {kws : List (Str × V)} (F : DL.FnD K "check_letters" "check_letters" s_check_letters dvs kws f fd)
    {sp : DSp} (len : ∀ ds M Q E, sp ds M Q E → ds.length = 1) (h : ∀ E0 ds M Q, sp ds M Q E0 → t_check_letters c E0 (bodyE K Q) (startD ["letters", "at", "letter"] ds) M) : FnOk P w K mg base (L2.CX P w) 3 f fd ["letters"] (lSp K sp) :=
  dfunX F sc_check_letters len fun cdv A outer s H E E0 hr => ⟨t_check_letters c E0, fun G ws => dv_check_letters c B T C_InvalidLetters ws hr, h E0⟩
/-! ### is_rule -/
abbrev s_is_rule : Stmt := topS 49
theorem sc_is_rule : FnScope ["rule", "letters", "side"] ["rule", "letters"] (defScope s_is_rule) := ⟨rfl, rfl, rfl, by decide +kernel, rfl, by decide +kernel, by decide +kernel⟩
def t_is_rule (c : Ks) : DTS :=
  (dRet (dAndV (dOp (rEqW false) (dCB rLen (dCons (dVar 0) dNil)) (dC (.int 2))) (dCB rAll (dCons (dLc (dIterT (dVar 0)) (dgName 2) dYes (dAndV (dOp rLe (dCB rLen (dCons (dVar 2) dNil)) (dC (.int 16))) (dCall (sp_is_word c) (dCons (dVar 2) (dCons (dVar 1) dNil)))) [2]) dNil))))
theorem dv_is_rule {P : Program} {w : World} {K : PySem.W.Frag} {mg : Str → Option Value} {base : Heap} {f : Addr} {cdv : Value} {A : Around} {outer : List Env} {s : Shared} {H : Hp} {E : XK} {G : GI K} (c : Ks) (B : NB mg) (T : Cn mg) {f_is_word : Addr} {d_is_word : FuncData} (C_is_word : Cal P w K mg base 1 "is_word" ["word", "letters"] (sp_is_word c) f_is_word d_is_word)
    (hr : Room 1 (A.deeper (envOfC "is_rule" (defScope s_is_rule) s.heap.objs.size f cdv))) : @DSs (cxOf CX0 P w K mg base ["rule", "letters", "side"] "is_rule" (defScope s_is_rule) f cdv A outer s H E).nox G (defBody s_is_rule) (t_is_rule c) :=
  (dss_one (ds_ret (de_and (de_cmp (o_eq hr.units) l_eq (de_len B.len (da_cons (dv 0) da_nil)) de_int (nomark _)) (de_one (de_all B.all (da_cons (de_lc (g := (gName 2)) sc_is_rule.nd (di_tup (dv 0)) (blkOk_by (own := [("side", 2)]) (N := ["rule", "letters", "side"]) (sc := defScope s_is_rule) (by decide +kernel)) (tg_name (i := 2) (by decide)) (fun _ _ _ _ _ => (pg_name (i := 2) sc_is_rule.nd rfl (Or.inl rfl))) (fun _ _ _ _ _ => dts_nil) (fun _ _ _ _ _ => (de_and (de_cmp o_le l_le (de_len B.len (da_cons (dv 2) da_nil)) (de_globE T.MOST_SIDE (fun _ => by rw [Rep])) (nomark _)) (de_one (de_callC C_is_word (hr.mono (by omega)) (da_cons (dv 2) (da_cons (dv 1) da_nil))))))) da_nil))))))
theorem ok_is_rule {P : Program} {w : World} {K : PySem.W.Frag} {mg : Str → Option Value} {base : Heap} {f : Addr} {fd : FuncData} (c : Ks) (B : NB mg) (T : Cn mg) {f_is_word : Addr} {d_is_word : FuncData} (C_is_word : Cal P w K mg base 1 "is_word" ["word", "letters"] (sp_is_word c) f_is_word d_is_word) {dvs : List V} {kws : List (Str × V)} (F : DL.FnD K "is_rule" "is_rule" s_is_rule dvs kws f fd)
    {sp : DSp} (len : ∀ ds M Q E, sp ds M Q E → ds.length = 2) (h : ∀ ds M Q E0, sp ds M Q E0 → t_is_rule c (bodyE K Q) (startD ["rule", "letters", "side"] ds) M) : FnOk P w K mg base CX0 2 f fd ["rule", "letters"] (lSp K sp) :=
  dfunD F sc_is_rule len fun cdv A outer s H E hr => ⟨t_is_rule c, fun G => dv_is_rule c B T C_is_word hr, h⟩
/-! ### Town.__init__ -/
abbrev s_Town___init__ : Stmt := inClass (topS 50) 1
theorem sc_Town___init__ : FnScope ["self", "letters", "rules", "at", "rule", "gaps", "one", "other"] ["self", "letters", "rules"] (defScope s_Town___init__) := ⟨rfl, rfl, rfl, by decide +kernel, rfl, by decide +kernel, by decide +kernel⟩
def t_Town___init__ (c : Ks) (E0 : DX) : DTS :=
  (dSeq (dDrop (dCallX E0 (sp_check_letters c) (dCons (dVar 1) dNil)))
  (dSeq (dFor (dEnumT (dCons (dVar 2) dNil)) (dgTup 2 (dgCons (dgName 3) (dgCons (dgName 4) dgNil))) (dIfS (dOr (dTB (dOp rGe (dVar 3) (dC (.int 6)))) (dNot (dTru (dCall (sp_is_rule c) (dCons (dVar 4) (dCons (dVar 1) dNil)))))) (dRaise E0 c.InvalidRule gd_InvalidRule 1 (dCons (dVar 3) dNil)) dNext))
  (dSeq (dSetF c.Town "own_letters" (dVar 0) (dVar 1))
  (dSeq (dSetF c.Town "rule_row" (dVar 0) (dVar 2))
  (dSeq (dAsg (dLc (dIterT (dVar 2)) (dgTup 2 (dgCons (dgName 6) (dgCons (dgName 7) dgNil))) dYes (dCall (sp_minus c) (dCons (dCall (sp_counts_of c) (dCons (dVar 6) (dCons (dVar 1) dNil))) (dCons (dCall (sp_counts_of c) (dCons (dVar 7) (dCons (dVar 1) dNil))) dNil))) [6, 7]) (dgName 5))
  (dSeq (dSetF c.Town "own_table" (dVar 0) (dMakeX E0 c.Table (sp_Table___init__ c) [] (dCons (dCB rLen (dCons (dVar 1) dNil)) (dCons (dVar 5) dNil))))
  (dSetF c.Town "identity" (dVar 0) (dTup (dCons (dVar 1) (dCons (dVar 2) dNil))))))))))
theorem dv_Town___init__ {P : Program} {w : World} {K : PySem.W.Frag} {mg : Str → Option Value} {base : Heap} {f : Addr} {cdv : Value} {A : Around} {outer : List Env} {s : Shared} {H : Hp} {E : XK} {G : GI K} (c : Ks) {E0 : DX} (B : NB mg) (T : Cn mg) (K_Town : Kls K c.Town ["own_letters", "rule_row", "own_table", "identity"]) {f_check_letters : Addr} {d_check_letters : FuncData} (C_check_letters : CalX P w K mg base 3 "check_letters" ["letters"] (sp_check_letters c) f_check_letters d_check_letters) {f_is_rule : Addr} {d_is_rule : FuncData} (C_is_rule : Cal P w K mg base 2 "is_rule" ["rule", "letters"] (sp_is_rule c) f_is_rule d_is_rule) {f_minus : Addr} {d_minus : FuncData} (C_minus : Cal P w K mg base 1 "minus" ["one", "other"] (sp_minus c) f_minus d_minus) {f_counts_of : Addr} {d_counts_of : FuncData} (C_counts_of : Cal P w K mg base 2 "counts_of" ["word", "letters"] (sp_counts_of c) f_counts_of d_counts_of) {f_Table___init__ : Addr} {d_Table___init__ : FuncData} (C_Table___init__ : CalIX P w K mg base 3 "Table" c.Table ["self", "width", "rows"] (sp_Table___init__ c) [] f_Table___init__ d_Table___init__) (C_InvalidRule : CalE P w K mg base 2 "InvalidRule" c.InvalidRule g_InvalidRule gd_InvalidRule 1) (gg_Town : mg "Town" = some (.ref c.Town)) (CN_Town_MOST : CNum K c.Town "MOST" 6) (ws : @Wish K G E0 E)
    (hr : Room 4 (A.deeper (envOfC "Town.__init__" (defScope s_Town___init__) s.heap.objs.size f cdv))) : @DSs (cxOf (L2.CX P w) P w K mg base ["self", "letters", "rules", "at", "rule", "gaps", "one", "other"] "Town.__init__" (defScope s_Town___init__) f cdv A outer s H E) G (defBody s_Town___init__) (t_Town___init__ c E0) :=
  (dss_cons (ds_expr (de_callX C_check_letters ws (hr.mono (by omega)) (da_cons (dv 1) da_nil)))
    (dss_cons (ds_for (L2.passes_of rfl) rfl (di_enumT B.enumerate (da_cons (dv 2) da_nil)) (dg_tup rfl (dgs_cons (dg_name (i := 3) sc_Town___init__.nd) (dgs_cons (dg_name (i := 4) sc_Town___init__.nd) dgs_nil))) (dss_one (ds_if (PW.pt (dw_or (dt_cmp o_ge l_ge (dv 3) (de_cnum CN_Town_MOST gg_Town) (nomark _)) (dw_or1 (dt_not (dt_tru (de_callC C_is_rule (hr.mono (by omega)) (da_cons (dv 4) (da_cons (dv 1) da_nil)))))))) (dss_one (ds_raise C_InvalidRule ws (hr.mono (by omega)) (da_cons (dv 3) da_nil))) dss_nil)))
    (dss_cons (ds_setF (n := "own_letters") K_Town (dv 0) (dv 1))
    (dss_cons (ds_setF (n := "rule_row") K_Town (dv 0) (dv 2))
    (dss_cons (ds_setLc (i := 5) (g := (gTup _ 2 (gCons (gName 6) (gCons (gName 7) gNil)))) sc_Town___init__.nd (di_tup (dv 2)) (blkOk_by (own := [("one", 6), ("other", 7)]) (N := ["self", "letters", "rules", "at", "rule", "gaps", "one", "other"]) (sc := defScope s_Town___init__) (by decide +kernel)) (tg_tup (tgs_cons (tg_name (i := 6) (by decide)) (tgs_cons (tg_name (i := 7) (by decide)) tgs_nil))) (fun _ _ _ _ _ => (pg_tup rfl (pgs_cons (pg_name (i := 6) sc_Town___init__.nd rfl (Or.inl rfl)) (pgs_cons (pg_name (i := 7) sc_Town___init__.nd rfl (Or.inl rfl)) pgs_nil)))) (fun _ _ _ _ _ => dts_nil) (fun _ _ _ _ _ => (de_callC C_minus (hr.mono (by omega)) (da_cons (de_callC C_counts_of (hr.mono (by omega)) (da_cons (dv 6) (da_cons (dv 1) da_nil))) (da_cons (de_callC C_counts_of (hr.mono (by omega)) (da_cons (dv 7) (da_cons (dv 1) da_nil))) da_nil)))))
    (dss_cons (ds_setF (n := "own_table") K_Town (dv 0) (de_makeX C_Table___init__ ws (hr.mono (by omega)) (da_cons (de_len B.len (da_cons (dv 1) da_nil)) (da_cons (dv 5) da_nil))))
    (dss_one (ds_setF (n := "identity") K_Town (dv 0) (de_tup (da_cons (dv 1) (da_cons (dv 2) da_nil)))))))))))
theorem ok_Town___init__ {P : Program} {w : World} {K : PySem.W.Frag} {mg : Str → Option Value} {base : Heap} {f : Addr} {fd : FuncData} (c : Ks) (B : NB mg) (T : Cn mg) (K_Town : Kls K c.Town ["own_letters", "rule_row", "own_table", "identity"]) {f_check_letters : Addr} {d_check_letters : FuncData} (C_check_letters : CalX P w K mg base 3 "check_letters" ["letters"] (sp_check_letters c) f_check_letters d_check_letters) {f_is_rule : Addr} {d_is_rule : FuncData} (C_is_rule : Cal P w K mg base 2 "is_rule" ["rule", "letters"] (sp_is_rule c) f_is_rule d_is_rule) {f_minus : Addr} {d_minus : FuncData} (C_minus : Cal P w K mg base 1 "minus" ["one", "other"] (sp_minus c) f_minus d_minus) {f_counts_of : Addr} {d_counts_of : FuncData} (C_counts_of : Cal P w K mg base 2 "counts_of" ["word", "letters"] (sp_counts_of c) f_counts_of d_counts_of) {f_Table___init__ : Addr} {d_Table___init__ : FuncData} (C_Table___init__ : CalIX P w K mg base 3 "Table" c.Table ["self", "width", "rows"] (sp_Table___init__ c) [] f_Table___init__ d_Table___init__) (C_InvalidRule : CalE P w K mg base 2 "InvalidRule" c.InvalidRule g_InvalidRule gd_InvalidRule 1) (gg_Town : mg "Town" = some (.ref c.Town)) (CN_Town_MOST : CNum K c.Town "MOST" 6) {kws : List (Str × V)} (F : DL.FnD K "__init__" "Town.__init__" s_Town___init__ [] kws f fd)
    {sp : DSp} (h : ∀ E0 ds M Q, sp ds M Q E0 → t_Town___init__ c E0 (bodyE K Q) (startD ["self", "letters", "rules", "at", "rule", "gaps", "one", "other"] ds) M) : FnR P w K mg base (L2.CX P w) 5 f (lSp K (spW 2 100 sp)) :=
  dfunXW (ps := ["self", "letters"]) F sc_Town___init__ (line (by decide)) (fun kV doc pm an cdv ct us rest h => StX.bind_star2 (B := fun us => bindArgs (PySem.W.fnOf _ _ _ _ _ .none kV doc pm an cdv ct) ⟨us, []⟩) (fun _ _ => rfl) (fun _ _ _ _ => rfl) us rest h) fun cdv A outer s H E E0 hr => ⟨t_Town___init__ c E0, fun G ws => dv_Town___init__ c B T K_Town C_check_letters C_is_rule C_minus C_counts_of C_Table___init__ C_InvalidRule gg_Town CN_Town_MOST ws hr, h E0⟩
/-! ### Town.letters -/
abbrev s_Town_letters : Stmt := inClass (topS 50) 2
theorem sc_Town_letters : FnScope ["self"] ["self"] (defScope s_Town_letters) := ⟨rfl, rfl, rfl, by decide +kernel, rfl, by decide +kernel, by decide +kernel⟩
def t_Town_letters (c : Ks) : DTS :=
  (dRet (dFld c.Town "own_letters" (dVar 0)))
theorem dv_Town_letters {P : Program} {w : World} {K : PySem.W.Frag} {mg : Str → Option Value} {base : Heap} {f : Addr} {cdv : Value} {A : Around} {outer : List Env} {s : Shared} {H : Hp} {E : XK} {G : GI K} (c : Ks) (B : NB mg) (T : Cn mg) (K_Town : Kls K c.Town ["own_letters", "rule_row", "own_table", "identity"])
    (hr : Room 0 (A.deeper (envOfC "Town.letters" (defScope s_Town_letters) s.heap.objs.size f cdv))) : @DSs (cxOf CX0 P w K mg base ["self"] "Town.letters" (defScope s_Town_letters) f cdv A outer s H E).nox G (defBody s_Town_letters) (t_Town_letters c) :=
  (dss_one (ds_ret (de_fld (n := "own_letters") K_Town (dv 0))))
theorem ok_Town_letters {P : Program} {w : World} {K : PySem.W.Frag} {mg : Str → Option Value} {base : Heap} {f : Addr} {fd : FuncData} (c : Ks) (B : NB mg) (T : Cn mg) (K_Town : Kls K c.Town ["own_letters", "rule_row", "own_table", "identity"]) {dvs : List V} {kws : List (Str × V)} (F : DL.FnD K "letters" "Town.letters" s_Town_letters dvs kws f fd)
    {sp : DSp} (len : ∀ ds M Q E, sp ds M Q E → ds.length = 1) (h : ∀ ds M Q E0, sp ds M Q E0 → t_Town_letters c (bodyE K Q) (startD ["self"] ds) M) : FnOk P w K mg base CX0 1 f fd ["self"] (lSp K sp) :=
  dfunD F sc_Town_letters len fun cdv A outer s H E hr => ⟨t_Town_letters c, fun G => dv_Town_letters c B T K_Town hr, h⟩
/-! ### Town.width -/
abbrev s_Town_width : Stmt := inClass (topS 50) 3
theorem sc_Town_width : FnScope ["self"] ["self"] (defScope s_Town_width) := ⟨rfl, rfl, rfl, by decide +kernel, rfl, by decide +kernel, by decide +kernel⟩
def t_Town_width (c : Ks) : DTS :=
  (dRet (dCB rLen (dCons (dFld c.Town "own_letters" (dVar 0)) dNil)))
theorem dv_Town_width {P : Program} {w : World} {K : PySem.W.Frag} {mg : Str → Option Value} {base : Heap} {f : Addr} {cdv : Value} {A : Around} {outer : List Env} {s : Shared} {H : Hp} {E : XK} {G : GI K} (c : Ks) (B : NB mg) (T : Cn mg) (K_Town : Kls K c.Town ["own_letters", "rule_row", "own_table", "identity"])
    (hr : Room 0 (A.deeper (envOfC "Town.width" (defScope s_Town_width) s.heap.objs.size f cdv))) : @DSs (cxOf CX0 P w K mg base ["self"] "Town.width" (defScope s_Town_width) f cdv A outer s H E).nox G (defBody s_Town_width) (t_Town_width c) :=
  (dss_one (ds_ret (de_len B.len (da_cons (de_fld (n := "own_letters") K_Town (dv 0)) da_nil))))
theorem ok_Town_width {P : Program} {w : World} {K : PySem.W.Frag} {mg : Str → Option Value} {base : Heap} {f : Addr} {fd : FuncData} (c : Ks) (B : NB mg) (T : Cn mg) (K_Town : Kls K c.Town ["own_letters", "rule_row", "own_table", "identity"]) {dvs : List V} {kws : List (Str × V)} (F : DL.FnD K "width" "Town.width" s_Town_width dvs kws f fd)
    {sp : DSp} (len : ∀ ds M Q E, sp ds M Q E → ds.length = 1) (h : ∀ ds M Q E0, sp ds M Q E0 → t_Town_width c (bodyE K Q) (startD ["self"] ds) M) : FnOk P w K mg base CX0 1 f fd ["self"] (lSp K sp) :=
  dfunD F sc_Town_width len fun cdv A outer s H E hr => ⟨t_Town_width c, fun G => dv_Town_width c B T K_Town hr, h⟩
/-! ### Town.rules -/
abbrev s_Town_rules : Stmt := inClass (topS 50) 5
theorem sc_Town_rules : FnScope ["self"] ["self"] (defScope s_Town_rules) := ⟨rfl, rfl, rfl, by decide +kernel, rfl, by decide +kernel, by decide +kernel⟩
def t_Town_rules (c : Ks) : DTS :=
  (dRet (dCB rToListM (dCons (dFld c.Town "rule_row" (dVar 0)) dNil)))
theorem dv_Town_rules {P : Program} {w : World} {K : PySem.W.Frag} {mg : Str → Option Value} {base : Heap} {f : Addr} {cdv : Value} {A : Around} {outer : List Env} {s : Shared} {H : Hp} {E : XK} {G : GI K} (c : Ks) (B : NB mg) (T : Cn mg) (K_Town : Kls K c.Town ["own_letters", "rule_row", "own_table", "identity"])
    (hr : Room 0 (A.deeper (envOfC "Town.rules" (defScope s_Town_rules) s.heap.objs.size f cdv))) : @DSs (cxOf CX0 P w K mg base ["self"] "Town.rules" (defScope s_Town_rules) f cdv A outer s H E).nox G (defBody s_Town_rules) (t_Town_rules c) :=
  (dss_one (ds_ret (de_toListM B.list (da_cons (de_fld (n := "rule_row") K_Town (dv 0)) da_nil))))
theorem ok_Town_rules {P : Program} {w : World} {K : PySem.W.Frag} {mg : Str → Option Value} {base : Heap} {f : Addr} {fd : FuncData} (c : Ks) (B : NB mg) (T : Cn mg) (K_Town : Kls K c.Town ["own_letters", "rule_row", "own_table", "identity"]) {dvs : List V} {kws : List (Str × V)} (F : DL.FnD K "rules" "Town.rules" s_Town_rules dvs kws f fd)
    {sp : DSp} (len : ∀ ds M Q E, sp ds M Q E → ds.length = 1) (h : ∀ ds M Q E0, sp ds M Q E0 → t_Town_rules c (bodyE K Q) (startD ["self"] ds) M) : FnOk P w K mg base CX0 1 f fd ["self"] (lSp K sp) :=
  dfunD F sc_Town_rules len fun cdv A outer s H E hr => ⟨t_Town_rules c, fun G => dv_Town_rules c B T K_Town hr, h⟩
/-! ### Town.with_rules -/
abbrev s_Town_with_rules : Stmt := inClass (topS 50) 11
theorem sc_Town_with_rules : FnScope ["self", "more"] ["self", "more"] (defScope s_Town_with_rules) := ⟨rfl, rfl, rfl, by decide +kernel, rfl, by decide +kernel, by decide +kernel⟩
def t_Town_with_rules (c : Ks) (E0 : DX) : DTS :=
  (dRet (dMakeX E0 c.Town (spW 2 100 (sp_Town___init__ c)) [] (dCons (dFld c.Town "own_letters" (dVar 0)) (dStar (dFld c.Town "rule_row" (dVar 0)) (dStar (dVar 1) dNil)))))
theorem dv_Town_with_rules {P : Program} {w : World} {K : PySem.W.Frag} {mg : Str → Option Value} {base : Heap} {f : Addr} {cdv : Value} {A : Around} {outer : List Env} {s : Shared} {H : Hp} {E : XK} {G : GI K} (c : Ks) {E0 : DX} (B : NB mg) (T : Cn mg) (K_Town : Kls K c.Town ["own_letters", "rule_row", "own_table", "identity"]) {f_Town___init__ : Addr} (C_Town___init__ : CalIXV P w K mg base 5 "Town" c.Town (spW 2 100 (sp_Town___init__ c)) f_Town___init__) (ws : @Wish K G E0 E)
    (hr : Room 6 (A.deeper (envOfC "Town.with_rules" (defScope s_Town_with_rules) s.heap.objs.size f cdv))) : @DSs (cxOf (L2.CX P w) P w K mg base ["self", "more"] "Town.with_rules" (defScope s_Town_with_rules) f cdv A outer s H E) G (defBody s_Town_with_rules) (t_Town_with_rules c E0) :=
  (dss_one (ds_ret (de_makeXS C_Town___init__ ws (hr.mono (by omega)) (da_cons (de_fld (n := "own_letters") K_Town (dv 0)) (da_star (de_fld (n := "rule_row") K_Town (dv 0)) (da_star (dv 1) da_nil))))))
theorem ok_Town_with_rules {P : Program} {w : World} {K : PySem.W.Frag} {mg : Str → Option Value} {base : Heap} {f : Addr} {fd : FuncData} (c : Ks) (B : NB mg) (T : Cn mg) (K_Town : Kls K c.Town ["own_letters", "rule_row", "own_table", "identity"]) {f_Town___init__ : Addr} (C_Town___init__ : CalIXV P w K mg base 5 "Town" c.Town (spW 2 100 (sp_Town___init__ c)) f_Town___init__) {kws : List (Str × V)} (F : DL.FnD K "with_rules" "Town.with_rules" s_Town_with_rules [] kws f fd)
    {sp : DSp} (h : ∀ E0 ds M Q, sp ds M Q E0 → t_Town_with_rules c E0 (bodyE K Q) (startD ["self", "more"] ds) M) : FnR P w K mg base (L2.CX P w) 7 f (lSp K (spW 1 100 sp)) :=
  dfunXW (ps := ["self"]) F sc_Town_with_rules (line (by decide)) (fun kV doc pm an cdv ct us rest h => StX.bind_star1 (B := fun us => bindArgs (PySem.W.fnOf _ _ _ _ _ .none kV doc pm an cdv ct) ⟨us, []⟩) (fun _ => rfl) (fun _ _ _ => rfl) us rest h) fun cdv A outer s H E E0 hr => ⟨t_Town_with_rules c E0, fun G ws => dv_Town_with_rules c B T K_Town C_Town___init__ ws hr, h E0⟩
/-! ### Town.__len__ -/
abbrev s_Town___len__ : Stmt := inClass (topS 50) 14
theorem sc_Town___len__ : FnScope ["self"] ["self"] (defScope s_Town___len__) := ⟨rfl, rfl, rfl, by decide +kernel, rfl, by decide +kernel, by decide +kernel⟩
def t_Town___len__ (c : Ks) : DTS :=
  (dRet (dCB rLen (dCons (dFld c.Town "rule_row" (dVar 0)) dNil)))
theorem dv_Town___len__ {P : Program} {w : World} {K : PySem.W.Frag} {mg : Str → Option Value} {base : Heap} {f : Addr} {cdv : Value} {A : Around} {outer : List Env} {s : Shared} {H : Hp} {E : XK} {G : GI K} (c : Ks) (B : NB mg) (T : Cn mg) (K_Town : Kls K c.Town ["own_letters", "rule_row", "own_table", "identity"])
    (hr : Room 0 (A.deeper (envOfC "Town.__len__" (defScope s_Town___len__) s.heap.objs.size f cdv))) : @DSs (cxOf CX0 P w K mg base ["self"] "Town.__len__" (defScope s_Town___len__) f cdv A outer s H E).nox G (defBody s_Town___len__) (t_Town___len__ c) :=
  (dss_one (ds_ret (de_len B.len (da_cons (de_fld (n := "rule_row") K_Town (dv 0)) da_nil))))
theorem ok_Town___len__ {P : Program} {w : World} {K : PySem.W.Frag} {mg : Str → Option Value} {base : Heap} {f : Addr} {fd : FuncData} (c : Ks) (B : NB mg) (T : Cn mg) (K_Town : Kls K c.Town ["own_letters", "rule_row", "own_table", "identity"]) {dvs : List V} {kws : List (Str × V)} (F : DL.FnD K "__len__" "Town.__len__" s_Town___len__ dvs kws f fd)
    {sp : DSp} (len : ∀ ds M Q E, sp ds M Q E → ds.length = 1) (h : ∀ ds M Q E0, sp ds M Q E0 → t_Town___len__ c (bodyE K Q) (startD ["self"] ds) M) : FnOk P w K mg base CX0 1 f fd ["self"] (lSp K sp) :=
  dfunD F sc_Town___len__ len fun cdv A outer s H E hr => ⟨t_Town___len__ c, fun G => dv_Town___len__ c B T K_Town hr, h⟩
/-! ### Town.__eq__ -/
abbrev s_Town___eq__ : Stmt := inClass (topS 50) 15
theorem sc_Town___eq__ : FnScope ["self", "other"] ["self", "other"] (defScope s_Town___eq__) := ⟨rfl, rfl, rfl, by decide +kernel, rfl, by decide +kernel, by decide +kernel⟩
def t_Town___eq__ (c : Ks) : DTS :=
  (dRet (dAndV (dUn (rIsiD c.Town) (dVar 1)) (dOp (rEqW false) (dFld c.Town "identity" (dVar 0)) (dFld c.Town "identity" (dVar 1)))))
theorem dv_Town___eq__ {P : Program} {w : World} {K : PySem.W.Frag} {mg : Str → Option Value} {base : Heap} {f : Addr} {cdv : Value} {A : Around} {outer : List Env} {s : Shared} {H : Hp} {E : XK} {G : GI K} (c : Ks) (B : NB mg) (T : Cn mg) (K_Town : Kls K c.Town ["own_letters", "rule_row", "own_table", "identity"]) (O_Town : OwnK K c.Town) (gg_Town : mg "Town" = some (.ref c.Town))
    (hr : Room 0 (A.deeper (envOfC "Town.__eq__" (defScope s_Town___eq__) s.heap.objs.size f cdv))) : @DSs (cxOf CX0 P w K mg base ["self", "other"] "Town.__eq__" (defScope s_Town___eq__) f cdv A outer s H E).nox G (defBody s_Town___eq__) (t_Town___eq__ c) :=
  (dss_one (ds_ret (de_and (de_isiO O_Town gg_Town B.isinstance (dv 1)) (de_one (de_cmp (o_eq hr.units) l_eq (de_fld (n := "identity") K_Town (dv 0)) (de_fld (n := "identity") K_Town (dv 1)) (nomark _))))))
theorem ok_Town___eq__ {P : Program} {w : World} {K : PySem.W.Frag} {mg : Str → Option Value} {base : Heap} {f : Addr} {fd : FuncData} (c : Ks) (B : NB mg) (T : Cn mg) (K_Town : Kls K c.Town ["own_letters", "rule_row", "own_table", "identity"]) (O_Town : OwnK K c.Town) (gg_Town : mg "Town" = some (.ref c.Town)) {dvs : List V} {kws : List (Str × V)} (F : DL.FnD K "__eq__" "Town.__eq__" s_Town___eq__ dvs kws f fd)
    {sp : DSp} (len : ∀ ds M Q E, sp ds M Q E → ds.length = 2) (h : ∀ ds M Q E0, sp ds M Q E0 → t_Town___eq__ c (bodyE K Q) (startD ["self", "other"] ds) M) : FnOk P w K mg base CX0 1 f fd ["self", "other"] (lSp K sp) :=
  dfunD F sc_Town___eq__ len fun cdv A outer s H E hr => ⟨t_Town___eq__ c, fun G => dv_Town___eq__ c B T K_Town O_Town gg_Town hr, h⟩
/-! ### Town.__repr__ -/
abbrev s_Town___repr__ : Stmt := inClass (topS 50) 16
theorem sc_Town___repr__ : FnScope ["self"] ["self"] (defScope s_Town___repr__) := ⟨rfl, rfl, rfl, by decide +kernel, rfl, by decide +kernel, by decide +kernel⟩
def t_Town___repr__ (c : Ks) : DTS :=
  (dRet (dJoined [(dC (.str "Town(")), (dFmt (dProp c.Town (sp_Town_width c) (dVar 0))), (dC (.str " letters, ")), (dFmt (dCB rLen (dCons (dFld c.Town "rule_row" (dVar 0)) dNil))), (dC (.str " rules)"))]))
theorem dv_Town___repr__ {P : Program} {w : World} {K : PySem.W.Frag} {mg : Str → Option Value} {base : Heap} {f : Addr} {cdv : Value} {A : Around} {outer : List Env} {s : Shared} {H : Hp} {E : XK} {G : GI K} (c : Ks) (B : NB mg) (T : Cn mg) (K_Town : Kls K c.Town ["own_letters", "rule_row", "own_table", "identity"]) {f_Town_width p_Town_width : Addr} {d_Town_width : FuncData} (C_Town_width : CalP P w K mg base 1 c.Town "width" (sp_Town_width c) p_Town_width f_Town_width d_Town_width)
    (hr : Room 2 (A.deeper (envOfC "Town.__repr__" (defScope s_Town___repr__) s.heap.objs.size f cdv))) : @DSs (cxOf CX0 P w K mg base ["self"] "Town.__repr__" (defScope s_Town___repr__) f cdv A outer s H E).nox G (defBody s_Town___repr__) (t_Town___repr__ c) :=
  (dss_one (ds_ret (de_joined (dj_cons de_str (dj_cons (de_fmt (de_prop C_Town_width (hr.mono (by omega)) (dv 0))) (dj_cons de_str (dj_cons (de_fmt (de_len B.len (da_cons (de_fld (n := "rule_row") K_Town (dv 0)) da_nil))) (dj_cons de_str dj_nil))))))))
theorem ok_Town___repr__ {P : Program} {w : World} {K : PySem.W.Frag} {mg : Str → Option Value} {base : Heap} {f : Addr} {fd : FuncData} (c : Ks) (B : NB mg) (T : Cn mg) (K_Town : Kls K c.Town ["own_letters", "rule_row", "own_table", "identity"]) {f_Town_width p_Town_width : Addr} {d_Town_width : FuncData} (C_Town_width : CalP P w K mg base 1 c.Town "width" (sp_Town_width c) p_Town_width f_Town_width d_Town_width) {dvs : List V} {kws : List (Str × V)} (F : DL.FnD K "__repr__" "Town.__repr__" s_Town___repr__ dvs kws f fd)
    {sp : DSp} (len : ∀ ds M Q E, sp ds M Q E → ds.length = 1) (h : ∀ ds M Q E0, sp ds M Q E0 → t_Town___repr__ c (bodyE K Q) (startD ["self"] ds) M) : FnOk P w K mg base CX0 3 f fd ["self"] (lSp K sp) :=
  dfunD F sc_Town___repr__ len fun cdv A outer s H E hr => ⟨t_Town___repr__ c, fun G => dv_Town___repr__ c B T K_Town C_Town_width hr, h⟩
/-! ### _law_begin -/
abbrev s__law_begin : Stmt := topS 53
theorem sc__law_begin : FnScope ["_law_script", "_law_marks", "_law_seed", "_law_cell"] ["_law_script"] (defScope s__law_begin) := ⟨rfl, rfl, rfl, by decide +kernel, rfl, by decide +kernel, by decide +kernel⟩
theorem dv__law_begin {P : Program} {w : World} {K : PySem.W.Frag} {mg : Str → Option Value} {base : Heap} {f : Addr} {cdv : Value} {A : Around} {outer : List Env} {s : Shared} {H : Hp} {E : XK} {G : GI K} (c : Ks) (B : NB mg) (T : Cn mg)
    (hr : Room 0 (A.deeper (envOfC "_law_begin" (defScope s__law_begin) s.heap.objs.size f cdv))) : @DSs (cxOf CX0 P w K mg base ["_law_script", "_law_marks", "_law_seed", "_law_cell"] "_law_begin" (defScope s__law_begin) f cdv A outer s H E).nox G (defBody s__law_begin) (t__law_begin) :=
  (dss_cons (ds_setLc (i := 1) (g := (gName 3)) sc__law_begin.nd (di_list (de_sl (dv 0) do_none (do_some de_int))) (blkOk_by (own := [("_law_cell", 3)]) (N := ["_law_script", "_law_marks", "_law_seed", "_law_cell"]) (sc := defScope s__law_begin) (by decide +kernel)) (tg_name (i := 3) (by decide)) (fun _ _ _ _ _ => (pg_name (i := 3) sc__law_begin.nd rfl (Or.inl rfl))) (fun _ _ _ _ _ => dts_nil) (fun _ _ _ _ _ => (de_toInt B.int (da_cons (dv 3) da_nil))))
    (dss_cons (ds_set (i := 2) sc__law_begin.nd (de_add de_int (de_mulX de_int (de_len B.len (da_cons (dv 1) da_nil)))))
    (dss_cons (ds_for PassesOwn.never rfl (di_list (dv 1)) (dg_name (i := 3) sc__law_begin.nd) (dss_one (ds_set (i := 2) sc__law_begin.nd (de_mod (de_add (de_add (de_mulX (dv 2) de_int) (de_mod (de_toInt B.int (da_cons (dv 3) da_nil)) de_int)) de_int) de_int))))
    (dss_one (ds_ret (de_lstM (da_cons (dv 1) (da_cons de_int (da_cons de_int (da_cons (dv 2) da_nil))))))))))
theorem ok__law_begin {P : Program} {w : World} {K : PySem.W.Frag} {mg : Str → Option Value} {base : Heap} {f : Addr} {fd : FuncData} (c : Ks) (B : NB mg) (T : Cn mg) {dvs : List V} {kws : List (Str × V)} (F : DL.FnD K "_law_begin" "_law_begin" s__law_begin dvs kws f fd)
    {sp : DSp} (len : ∀ ds M Q E, sp ds M Q E → ds.length = 1) (h : ∀ ds M Q E0, sp ds M Q E0 → t__law_begin (bodyE K Q) (startD ["_law_script", "_law_marks", "_law_seed", "_law_cell"] ds) M) : FnOk P w K mg base CX0 1 f fd ["_law_script"] (lSp K sp) :=
  dfunD F sc__law_begin len fun cdv A outer s H E hr => ⟨t__law_begin, fun G => dv__law_begin c B T hr, h⟩
/-! ### _law_draw -/
abbrev s__law_draw : Stmt := topS 54
theorem sc__law_draw : FnScope ["_law_box", "_law_many", "_law_cell", "_law_digit", "_law_seed"] ["_law_box", "_law_many"] (defScope s__law_draw) := ⟨rfl, rfl, rfl, by decide +kernel, rfl, by decide +kernel, by decide +kernel⟩
theorem dv__law_draw {P : Program} {w : World} {K : PySem.W.Frag} {mg : Str → Option Value} {base : Heap} {f : Addr} {cdv : Value} {A : Around} {outer : List Env} {s : Shared} {H : Hp} {E : XK} {G : GI K} (c : Ks) (B : NB mg) (T : Cn mg)
    (hr : Room 0 (A.deeper (envOfC "_law_draw" (defScope s__law_draw) s.heap.objs.size f cdv))) : @DSs (cxOf CX0 P w K mg base ["_law_box", "_law_many", "_law_cell", "_law_digit", "_law_seed"] "_law_draw" (defScope s__law_draw) f cdv A outer s H E).nox G (defBody s__law_draw) (t__law_draw) :=
  (dss_cons (ds_if (PW.pt (dw_and (dt_cmp (o_eq hr.units) l_eq (de_ix (dv 0) de_int) de_int (nomark _)) (dw_and1 (dt_cmp o_lt l_lt (de_ix (dv 0) de_int) (de_len B.len (da_cons (de_ix (dv 0) de_int) da_nil)) (nomark _))))) (dss_cons (ds_set (i := 2) sc__law_draw.nd (de_ix (de_ix (dv 0) de_int) (de_ix (dv 0) de_int)))
    (dss_cons (ds_asg (de_add (de_ix (dv 0) de_int) de_int) (dg_sub (dv 0) de_int))
    (dss_one (ds_if (dt_cmp o_ge l_ge (dv 2) (de_pow de_int de_int) (nomark _)) (dss_one (ds_asg (dv 2) (dg_sub (dv 0) de_int))) (dss_one (ds_asg (de_mod (de_add (de_add (de_mulX (de_ix (dv 0) de_int) de_int) (de_mulX (de_mod (de_toInt B.int (da_cons (dv 2) da_nil)) de_int) de_int)) de_int) de_int) (dg_sub (dv 0) de_int))))))) dss_nil)
    (dss_cons (ds_if (dt_cmp o_gt l_gt (de_ix (dv 0) de_int) de_int (nomark _)) (dss_cons (ds_set (i := 3) sc__law_draw.nd (de_mod (de_toInt B.int (da_cons (de_ix (dv 0) de_int) da_nil)) (dv 1)))
    (dss_cons (ds_asg (de_fdivA (de_ix (dv 0) de_int) (dv 1)) (dg_sub (dv 0) de_int))
    (dss_one (ds_ret (dv 3))))) dss_nil)
    (dss_cons (ds_set (i := 4) sc__law_draw.nd (de_ix (dv 0) de_int))
    (dss_cons (ds_asg (de_mod (de_add (de_add (de_mulX (dv 4) (dv 4)) (de_mulX (dv 4) de_int)) de_int) de_int) (dg_sub (dv 0) de_int))
    (dss_one (ds_ret (de_mod (de_add (de_fdivA (de_ix (dv 0) de_int) de_int) (de_mulX (de_mod (de_toInt B.int (da_cons (de_ix (dv 0) de_int) da_nil)) de_int) de_int)) (dv 1))))))))
theorem ok__law_draw {P : Program} {w : World} {K : PySem.W.Frag} {mg : Str → Option Value} {base : Heap} {f : Addr} {fd : FuncData} (c : Ks) (B : NB mg) (T : Cn mg) {dvs : List V} {kws : List (Str × V)} (F : DL.FnD K "_law_draw" "_law_draw" s__law_draw dvs kws f fd)
    {sp : DSp} (len : ∀ ds M Q E, sp ds M Q E → ds.length = 2) (h : ∀ ds M Q E0, sp ds M Q E0 → t__law_draw (bodyE K Q) (startD ["_law_box", "_law_many", "_law_cell", "_law_digit", "_law_seed"] ds) M) : FnOk P w K mg base CX0 1 f fd ["_law_box", "_law_many"] (lSp K sp) :=
  dfunD F sc__law_draw len fun cdv A outer s H E hr => ⟨t__law_draw, fun G => dv__law_draw c B T hr, h⟩
/-! ### _law_any -/
abbrev s__law_any : Stmt := topS 55
theorem sc__law_any : FnScope ["_law_box", "_law_some"] ["_law_box", "_law_some"] (defScope s__law_any) := ⟨rfl, rfl, rfl, by decide +kernel, rfl, by decide +kernel, by decide +kernel⟩
theorem dv__law_any {P : Program} {w : World} {K : PySem.W.Frag} {mg : Str → Option Value} {base : Heap} {f : Addr} {cdv : Value} {A : Around} {outer : List Env} {s : Shared} {H : Hp} {E : XK} {G : GI K} (c : Ks) (B : NB mg) (T : Cn mg) {f__law_draw : Addr} {d__law_draw : FuncData} (C__law_draw : Cal P w K mg base 1 "_law_draw" ["_law_box", "_law_many"] sp__law_draw f__law_draw d__law_draw)
    (hr : Room 1 (A.deeper (envOfC "_law_any" (defScope s__law_any) s.heap.objs.size f cdv))) : @DSs (cxOf CX0 P w K mg base ["_law_box", "_law_some"] "_law_any" (defScope s__law_any) f cdv A outer s H E).nox G (defBody s__law_any) (t__law_any) :=
  (dss_one (ds_ret (de_ix (dv 1) (de_callC C__law_draw (hr.mono (by omega)) (da_cons (dv 0) (da_cons (de_len B.len (da_cons (dv 1) da_nil)) da_nil))))))
theorem ok__law_any {P : Program} {w : World} {K : PySem.W.Frag} {mg : Str → Option Value} {base : Heap} {f : Addr} {fd : FuncData} (c : Ks) (B : NB mg) (T : Cn mg) {f__law_draw : Addr} {d__law_draw : FuncData} (C__law_draw : Cal P w K mg base 1 "_law_draw" ["_law_box", "_law_many"] sp__law_draw f__law_draw d__law_draw) {dvs : List V} {kws : List (Str × V)} (F : DL.FnD K "_law_any" "_law_any" s__law_any dvs kws f fd)
    {sp : DSp} (len : ∀ ds M Q E, sp ds M Q E → ds.length = 2) (h : ∀ ds M Q E0, sp ds M Q E0 → t__law_any (bodyE K Q) (startD ["_law_box", "_law_some"] ds) M) : FnOk P w K mg base CX0 2 f fd ["_law_box", "_law_some"] (lSp K sp) :=
  dfunD F sc__law_any len fun cdv A outer s H E hr => ⟨t__law_any, fun G => dv__law_any c B T C__law_draw hr, h⟩
/-! ### _law_same -/
abbrev s__law_same : Stmt := topS 56
theorem sc__law_same : FnScope ["_law_found", "_law_due", "_law_k"] ["_law_found", "_law_due"] (defScope s__law_same) := ⟨rfl, rfl, rfl, by decide +kernel, rfl, by decide +kernel, by decide +kernel⟩
theorem dv__law_same {P : Program} {w : World} {K : PySem.W.Frag} {mg : Str → Option Value} {base : Heap} {f : Addr} {cdv : Value} {A : Around} {outer : List Env} {s : Shared} {H : Hp} {E : XK} {G : GI K} (c : Ks) {r__law_same : DSp} {n : Nat} (hn : 0 ≤ n) (B : NB mg) (T : Cn mg) {f__law_same : Addr} {d__law_same : FuncData} (C__law_same : Cal P w K mg base n "_law_same" ["_law_found", "_law_due"] r__law_same f__law_same d__law_same)
    (hr : Room n (A.deeper (envOfC "_law_same" (defScope s__law_same) s.heap.objs.size f cdv))) : @DSs (cxOf CX0 P w K mg base ["_law_found", "_law_due", "_law_k"] "_law_same" (defScope s__law_same) f cdv A outer s H E).nox G (defBody s__law_same) (t__law_same r__law_same) :=
  (dss_cons (ds_if (dt_tru (de_isi2 (Ts := "list") (Us := "tuple") B (dv 1))) (dss_cons (ds_if (PW.pt (dw_or (dt_cmp (o_ne hr.units) l_ne (de_isi (Ts := "list") B (dv 0)) (de_isi (Ts := "list") B (dv 1)) (nomark _)) (dw_or1 (dt_cmp (o_ne hr.units) l_ne (de_isi (Ts := "tuple") B (dv 0)) (de_isi (Ts := "tuple") B (dv 1)) (nomark _))))) (dss_one (ds_ret de_bl)) dss_nil)
    (dss_one (ds_ret (de_and (de_cmp (o_eq hr.units) l_eq (de_len B.len (da_cons (dv 0) da_nil)) (de_len B.len (da_cons (dv 1) da_nil)) (nomark _)) (de_one (de_all B.all (da_cons (de_lc (g := (gName 2)) sc__law_same.nd (di_rng1 B.range (da_cons (de_len B.len (da_cons (dv 1) da_nil)) da_nil)) (blkOk_by (own := [("_law_k", 2)]) (N := ["_law_found", "_law_due", "_law_k"]) (sc := defScope s__law_same) (by decide +kernel)) (tg_name (i := 2) (by decide)) (fun _ _ _ _ _ => (pg_name (i := 2) sc__law_same.nd rfl (Or.inl rfl))) (fun _ _ _ _ _ => dts_nil) (fun _ _ _ _ _ => (de_callC C__law_same (hr.mono (by omega)) (da_cons (de_ix (dv 0) (dv 2)) (da_cons (de_ix (dv 1) (dv 2)) da_nil))))) da_nil))))))) dss_nil)
    (dss_cons (ds_if (PW.pt (dw_or (dt_isN (dv 1)) (dw_or1 (dt_isN (dv 0))))) (dss_one (ds_ret (de_and (de_isN (dv 0)) (de_one (de_isN (dv 1)))))) dss_nil)
    (dss_cons (ds_if (PW.pt (dw_or (dt_cmp (o_ne hr.units) l_ne (de_isi (Ts := "bool") B (dv 1)) (de_isi (Ts := "bool") B (dv 0)) (nomark _)) (dw_or1 (dt_cmp (o_ne hr.units) l_ne (de_isi (Ts := "int") B (dv 1)) (de_isi (Ts := "int") B (dv 0)) (nomark _))))) (dss_one (ds_ret de_bl)) dss_nil)
    (dss_one (ds_ret (de_and (de_cmp (o_eq hr.units) l_eq (de_isi (Ts := "str") B (dv 1)) (de_isi (Ts := "str") B (dv 0)) (nomark _)) (de_one (de_cmp (o_eq hr.units) l_eq (dv 0) (dv 1) (nomark _)))))))))
theorem ok__law_same {P : Program} {w : World} {K : PySem.W.Frag} {mg : Str → Option Value} {base : Heap} {f : Addr} {fd : FuncData} (c : Ks) {r__law_same : DSp} {n : Nat} (hn : 0 ≤ n) (B : NB mg) (T : Cn mg) {f__law_same : Addr} {d__law_same : FuncData} (C__law_same : Cal P w K mg base n "_law_same" ["_law_found", "_law_due"] r__law_same f__law_same d__law_same) {dvs : List V} {kws : List (Str × V)} (F : DL.FnD K "_law_same" "_law_same" s__law_same dvs kws f fd)
    {sp : DSp} (len : ∀ ds M Q E, sp ds M Q E → ds.length = 2) (h : ∀ ds M Q E0, sp ds M Q E0 → t__law_same r__law_same (bodyE K Q) (startD ["_law_found", "_law_due", "_law_k"] ds) M) : FnOk P w K mg base CX0 (n + 1) f fd ["_law_found", "_law_due"] (lSp K sp) :=
  dfunD F sc__law_same len fun cdv A outer s H E hr => ⟨t__law_same r__law_same, fun G => dv__law_same c hn B T C__law_same hr, h⟩
/-! ### _law_letters -/
abbrev s__law_letters : Stmt := topS 59
theorem sc__law_letters : FnScope ["_law_box", "_law_many", "_law_found", "_law_k", "_law_left", "_law_letter"] ["_law_box", "_law_many"] (defScope s__law_letters) := ⟨rfl, rfl, rfl, by decide +kernel, rfl, by decide +kernel, by decide +kernel⟩
theorem dv__law_letters {P : Program} {w : World} {K : PySem.W.Frag} {mg : Str → Option Value} {base : Heap} {f : Addr} {cdv : Value} {A : Around} {outer : List Env} {s : Shared} {H : Hp} {E : XK} {G : GI K} (c : Ks) (B : NB mg) (T : Cn mg) {f__law_any : Addr} {d__law_any : FuncData} (C__law_any : Cal P w K mg base 2 "_law_any" ["_law_box", "_law_some"] sp__law_any f__law_any d__law_any)
    (hr : Room 2 (A.deeper (envOfC "_law_letters" (defScope s__law_letters) s.heap.objs.size f cdv))) : @DSs (cxOf CX0 P w K mg base ["_law_box", "_law_many", "_law_found", "_law_k", "_law_left", "_law_letter"] "_law_letters" (defScope s__law_letters) f cdv A outer s H E).nox G (defBody s__law_letters) (t__law_letters) :=
  (dss_cons (ds_set (i := 2) sc__law_letters.nd de_str)
    (dss_cons (ds_for PassesOwn.never rfl (di_rng1 B.range (da_cons (dv 1) da_nil)) (dg_name (i := 3) sc__law_letters.nd) (dss_cons (ds_setLc (i := 4) (g := (gName 5)) sc__law_letters.nd (di_str de_str) (blkOk_by (own := [("_law_letter", 5)]) (N := ["_law_box", "_law_many", "_law_found", "_law_k", "_law_left", "_law_letter"]) (sc := defScope s__law_letters) (by decide +kernel)) (tg_name (i := 5) (by decide)) (fun _ _ _ _ _ => (pg_name (i := 5) sc__law_letters.nd rfl (Or.inl rfl))) (fun _ _ _ _ _ => (dts_one (dt_cmp (o_nin (uI hr)) l_nin (dv 5) (dv 2) (by rfl)))) (fun _ _ _ _ _ => (dv 5)))
    (dss_one (ds_set (i := 2) sc__law_letters.nd (de_add (dv 2) (de_callC C__law_any (hr.mono (by omega)) (da_cons (dv 0) (da_cons (dv 4) da_nil))))))))
    (dss_one (ds_ret (dv 2)))))
theorem ok__law_letters {P : Program} {w : World} {K : PySem.W.Frag} {mg : Str → Option Value} {base : Heap} {f : Addr} {fd : FuncData} (c : Ks) (B : NB mg) (T : Cn mg) {f__law_any : Addr} {d__law_any : FuncData} (C__law_any : Cal P w K mg base 2 "_law_any" ["_law_box", "_law_some"] sp__law_any f__law_any d__law_any) {dvs : List V} {kws : List (Str × V)} (F : DL.FnD K "_law_letters" "_law_letters" s__law_letters dvs kws f fd)
    {sp : DSp} (len : ∀ ds M Q E, sp ds M Q E → ds.length = 2) (h : ∀ ds M Q E0, sp ds M Q E0 → t__law_letters (bodyE K Q) (startD ["_law_box", "_law_many", "_law_found", "_law_k", "_law_left", "_law_letter"] ds) M) : FnOk P w K mg base CX0 3 f fd ["_law_box", "_law_many"] (lSp K sp) :=
  dfunD F sc__law_letters len fun cdv A outer s H E hr => ⟨t__law_letters, fun G => dv__law_letters c B T C__law_any hr, h⟩
/-! ### _law_signs -/
abbrev s__law_signs : Stmt := topS 60
theorem sc__law_signs : FnScope ["_law_letters_here", "_law_letter"] ["_law_letters_here"] (defScope s__law_signs) := ⟨rfl, rfl, rfl, by decide +kernel, rfl, by decide +kernel, by decide +kernel⟩
theorem dv__law_signs {P : Program} {w : World} {K : PySem.W.Frag} {mg : Str → Option Value} {base : Heap} {f : Addr} {cdv : Value} {A : Around} {outer : List Env} {s : Shared} {H : Hp} {E : XK} {G : GI K} (c : Ks) (B : NB mg) (T : Cn mg)
    (hr : Room 0 (A.deeper (envOfC "_law_signs" (defScope s__law_signs) s.heap.objs.size f cdv))) : @DSs (cxOf CX0 P w K mg base ["_law_letters_here", "_law_letter"] "_law_signs" (defScope s__law_signs) f cdv A outer s H E).nox G (defBody s__law_signs) (t__law_signs) :=
  (dss_one (ds_ret (de_join de_str (da_cons (de_lc (g := (gName 1)) sc__law_signs.nd (di_str (dv 0)) (blkOk_by (own := [("_law_letter", 1)]) (N := ["_law_letters_here", "_law_letter"]) (sc := defScope s__law_signs) (by decide +kernel)) (tg_name (i := 1) (by decide)) (fun _ _ _ _ _ => (pg_name (i := 1) sc__law_signs.nd rfl (Or.inl rfl))) (fun _ _ _ _ _ => dts_nil) (fun _ _ _ _ _ => (de_add (dv 1) (de_upper (dv 1))))) da_nil))))
theorem ok__law_signs {P : Program} {w : World} {K : PySem.W.Frag} {mg : Str → Option Value} {base : Heap} {f : Addr} {fd : FuncData} (c : Ks) (B : NB mg) (T : Cn mg) {dvs : List V} {kws : List (Str × V)} (F : DL.FnD K "_law_signs" "_law_signs" s__law_signs dvs kws f fd)
    {sp : DSp} (len : ∀ ds M Q E, sp ds M Q E → ds.length = 1) (h : ∀ ds M Q E0, sp ds M Q E0 → t__law_signs (bodyE K Q) (startD ["_law_letters_here", "_law_letter"] ds) M) : FnOk P w K mg base CX0 1 f fd ["_law_letters_here"] (lSp K sp) :=
  dfunD F sc__law_signs len fun cdv A outer s H E hr => ⟨t__law_signs, fun G => dv__law_signs c B T hr, h⟩
/-! ### _law_some_word -/
abbrev s__law_some_word : Stmt := topS 61
theorem sc__law_some_word : FnScope ["_law_box", "_law_letters_here", "_law_most", "_law_signs_here", "_law_k"] ["_law_box", "_law_letters_here", "_law_most"] (defScope s__law_some_word) := ⟨rfl, rfl, rfl, by decide +kernel, rfl, by decide +kernel, by decide +kernel⟩
theorem dv__law_some_word {P : Program} {w : World} {K : PySem.W.Frag} {mg : Str → Option Value} {base : Heap} {f : Addr} {cdv : Value} {A : Around} {outer : List Env} {s : Shared} {H : Hp} {E : XK} {G : GI K} (c : Ks) (B : NB mg) (T : Cn mg) {f__law_signs : Addr} {d__law_signs : FuncData} (C__law_signs : Cal P w K mg base 1 "_law_signs" ["_law_letters_here"] sp__law_signs f__law_signs d__law_signs) {f__law_draw : Addr} {d__law_draw : FuncData} (C__law_draw : Cal P w K mg base 1 "_law_draw" ["_law_box", "_law_many"] sp__law_draw f__law_draw d__law_draw) {f__law_any : Addr} {d__law_any : FuncData} (C__law_any : Cal P w K mg base 2 "_law_any" ["_law_box", "_law_some"] sp__law_any f__law_any d__law_any)
    (hr : Room 2 (A.deeper (envOfC "_law_some_word" (defScope s__law_some_word) s.heap.objs.size f cdv))) : @DSs (cxOf CX0 P w K mg base ["_law_box", "_law_letters_here", "_law_most", "_law_signs_here", "_law_k"] "_law_some_word" (defScope s__law_some_word) f cdv A outer s H E).nox G (defBody s__law_some_word) (t__law_some_word) :=
  (dss_cons (ds_set (i := 3) sc__law_some_word.nd (de_callC C__law_signs (hr.mono (by omega)) (da_cons (dv 1) da_nil)))
    (dss_one (ds_ret (de_join de_str (da_cons (de_lc (g := (gName 4)) sc__law_some_word.nd (di_rng1 B.range (da_cons (de_callC C__law_draw (hr.mono (by omega)) (da_cons (dv 0) (da_cons (de_add (dv 2) de_int) da_nil))) da_nil)) (blkOk_by (own := [("_law_k", 4)]) (N := ["_law_box", "_law_letters_here", "_law_most", "_law_signs_here", "_law_k"]) (sc := defScope s__law_some_word) (by decide +kernel)) (tg_name (i := 4) (by decide)) (fun _ _ _ _ _ => (pg_name (i := 4) sc__law_some_word.nd rfl (Or.inl rfl))) (fun _ _ _ _ _ => dts_nil) (fun _ _ _ _ _ => (de_callC C__law_any (hr.mono (by omega)) (da_cons (dv 0) (da_cons (de_toList B.list (da_cons (dv 3) da_nil)) da_nil))))) da_nil)))))
theorem ok__law_some_word {P : Program} {w : World} {K : PySem.W.Frag} {mg : Str → Option Value} {base : Heap} {f : Addr} {fd : FuncData} (c : Ks) (B : NB mg) (T : Cn mg) {f__law_signs : Addr} {d__law_signs : FuncData} (C__law_signs : Cal P w K mg base 1 "_law_signs" ["_law_letters_here"] sp__law_signs f__law_signs d__law_signs) {f__law_draw : Addr} {d__law_draw : FuncData} (C__law_draw : Cal P w K mg base 1 "_law_draw" ["_law_box", "_law_many"] sp__law_draw f__law_draw d__law_draw) {f__law_any : Addr} {d__law_any : FuncData} (C__law_any : Cal P w K mg base 2 "_law_any" ["_law_box", "_law_some"] sp__law_any f__law_any d__law_any) {dvs : List V} {kws : List (Str × V)} (F : DL.FnD K "_law_some_word" "_law_some_word" s__law_some_word dvs kws f fd)
    {sp : DSp} (len : ∀ ds M Q E, sp ds M Q E → ds.length = 3) (h : ∀ ds M Q E0, sp ds M Q E0 → t__law_some_word (bodyE K Q) (startD ["_law_box", "_law_letters_here", "_law_most", "_law_signs_here", "_law_k"] ds) M) : FnOk P w K mg base CX0 3 f fd ["_law_box", "_law_letters_here", "_law_most"] (lSp K sp) :=
  dfunD F sc__law_some_word len fun cdv A outer s H E hr => ⟨t__law_some_word, fun G => dv__law_some_word c B T C__law_signs C__law_draw C__law_any hr, h⟩
/-! ### _law_side -/
abbrev s__law_side : Stmt := topS 62
theorem sc__law_side : FnScope ["_law_box", "_law_letters_here", "_law_most"] ["_law_box", "_law_letters_here", "_law_most"] (defScope s__law_side) := ⟨rfl, rfl, rfl, by decide +kernel, rfl, by decide +kernel, by decide +kernel⟩
def t__law_side (c : Ks) : DTS :=
  (dRet (dCall sp__law_some_word (dCons (dVar 0) (dCons (dVar 1) (dCons (dVar 2) dNil)))))
theorem dv__law_side {P : Program} {w : World} {K : PySem.W.Frag} {mg : Str → Option Value} {base : Heap} {f : Addr} {cdv : Value} {A : Around} {outer : List Env} {s : Shared} {H : Hp} {E : XK} {G : GI K} (c : Ks) (B : NB mg) (T : Cn mg) {f__law_some_word : Addr} {d__law_some_word : FuncData} (C__law_some_word : Cal P w K mg base 3 "_law_some_word" ["_law_box", "_law_letters_here", "_law_most"] sp__law_some_word f__law_some_word d__law_some_word)
    (hr : Room 3 (A.deeper (envOfC "_law_side" (defScope s__law_side) s.heap.objs.size f cdv))) : @DSs (cxOf CX0 P w K mg base ["_law_box", "_law_letters_here", "_law_most"] "_law_side" (defScope s__law_side) f cdv A outer s H E).nox G (defBody s__law_side) (t__law_side c) :=
  (dss_one (ds_ret (de_callC C__law_some_word (hr.mono (by omega)) (da_cons (dv 0) (da_cons (dv 1) (da_cons (dv 2) da_nil))))))
theorem ok__law_side {P : Program} {w : World} {K : PySem.W.Frag} {mg : Str → Option Value} {base : Heap} {f : Addr} {fd : FuncData} (c : Ks) (B : NB mg) (T : Cn mg) {f__law_some_word : Addr} {d__law_some_word : FuncData} (C__law_some_word : Cal P w K mg base 3 "_law_some_word" ["_law_box", "_law_letters_here", "_law_most"] sp__law_some_word f__law_some_word d__law_some_word) {dvs : List V} {kws : List (Str × V)} (F : DL.FnD K "_law_side" "_law_side" s__law_side dvs kws f fd)
    {sp : DSp} (len : ∀ ds M Q E, sp ds M Q E → ds.length = 3) (h : ∀ ds M Q E0, sp ds M Q E0 → t__law_side c (bodyE K Q) (startD ["_law_box", "_law_letters_here", "_law_most"] ds) M) : FnOk P w K mg base CX0 4 f fd ["_law_box", "_law_letters_here", "_law_most"] (lSp K sp) :=
  dfunD F sc__law_side len fun cdv A outer s H E hr => ⟨t__law_side c, fun G => dv__law_side c B T C__law_some_word hr, h⟩
/-! ### _law_town -/
abbrev s__law_town : Stmt := topS 63
theorem sc__law_town : FnScope ["_law_letters_here", "_law_rules_now", "_law_made_here", "_law_rule"] ["_law_letters_here", "_law_rules_now"] (defScope s__law_town) := ⟨rfl, rfl, rfl, by decide +kernel, rfl, by decide +kernel, by decide +kernel⟩
def t__law_town (c : Ks) : DTS :=
  (dSeq (dAsg (dMakeX noX c.Town (spW 2 100 (sp_Town___init__ c)) [] (dCons (dVar 0) dNil)) (dgName 2))
  (dSeq (dFor (dIter (dVar 1)) (dgName 3) (dAsg (dMethX noX c.Town "with_rules" (spW 1 100 (sp_Town_with_rules c)) [] (dVar 2) (dCons (dVar 3) dNil)) (dgName 2)))
  (dRet (dVar 2))))
theorem dv__law_town {P : Program} {w : World} {K : PySem.W.Frag} {mg : Str → Option Value} {base : Heap} {f : Addr} {cdv : Value} {A : Around} {outer : List Env} {s : Shared} {H : Hp} {E : XK} {G : GI K} (c : Ks) (B : NB mg) (T : Cn mg) {f_Town___init__ : Addr} (C_Town___init__ : CalIXV P w K mg base 5 "Town" c.Town (spW 2 100 (sp_Town___init__ c)) f_Town___init__) {f_Town_with_rules : Addr} (C_Town_with_rules : CalMXV P w K mg base 7 c.Town "with_rules" (spW 1 100 (sp_Town_with_rules c)) f_Town_with_rules)
    (hr : Room 7 (A.deeper (envOfC "_law_town" (defScope s__law_town) s.heap.objs.size f cdv))) : @DSs (cxOf CX0 P w K mg base ["_law_letters_here", "_law_rules_now", "_law_made_here", "_law_rule"] "_law_town" (defScope s__law_town) f cdv A outer s H E).nox G (defBody s__law_town) (t__law_town c) :=
  (dss_cons (ds_set (i := 2) sc__law_town.nd (de_makeXV C_Town___init__ ws0 (hr.mono (by omega)) (da_cons (dv 0) da_nil) LamX.takes0))
    (dss_cons (ds_for PassesOwn.never rfl (di_list (dv 1)) (dg_name (i := 3) sc__law_town.nd) (dss_one (ds_set (i := 2) sc__law_town.nd (de_methXV C_Town_with_rules ws0 (hr.mono (by omega)) (dv 2) (da_cons (dv 3) da_nil) LamX.takes0))))
    (dss_one (ds_ret (dv 2)))))
theorem ok__law_town {P : Program} {w : World} {K : PySem.W.Frag} {mg : Str → Option Value} {base : Heap} {f : Addr} {fd : FuncData} (c : Ks) (B : NB mg) (T : Cn mg) {f_Town___init__ : Addr} (C_Town___init__ : CalIXV P w K mg base 5 "Town" c.Town (spW 2 100 (sp_Town___init__ c)) f_Town___init__) {f_Town_with_rules : Addr} (C_Town_with_rules : CalMXV P w K mg base 7 c.Town "with_rules" (spW 1 100 (sp_Town_with_rules c)) f_Town_with_rules) {dvs : List V} {kws : List (Str × V)} (F : DL.FnD K "_law_town" "_law_town" s__law_town dvs kws f fd)
    {sp : DSp} (len : ∀ ds M Q E, sp ds M Q E → ds.length = 2) (h : ∀ ds M Q E0, sp ds M Q E0 → t__law_town c (bodyE K Q) (startD ["_law_letters_here", "_law_rules_now", "_law_made_here", "_law_rule"] ds) M) : FnOk P w K mg base CX0 8 f fd ["_law_letters_here", "_law_rules_now"] (lSp K sp) :=
  dfunD F sc__law_town len fun cdv A outer s H E hr => ⟨t__law_town c, fun G => dv__law_town c B T C_Town___init__ C_Town_with_rules hr, h⟩
/-! ### _law_is_side -/
abbrev s__law_is_side : Stmt := topS 64
theorem sc__law_is_side : FnScope ["_law_one", "_law_letters_here", "_law_sign"] ["_law_one", "_law_letters_here"] (defScope s__law_is_side) := ⟨rfl, rfl, rfl, by decide +kernel, rfl, by decide +kernel, by decide +kernel⟩
def t__law_is_side (c : Ks) : DTS :=
  (dRet (dAndV (dOp rLe (dCB rLen (dCons (dVar 0) dNil)) (dC (.int 16))) (dCB rAll (dCons (dLc (dIterS (dVar 0)) (dgName 2) dYes (dOp (rInD false) (dVar 2) (dCall sp__law_signs (dCons (dVar 1) dNil))) [2]) dNil))))
theorem dv__law_is_side {P : Program} {w : World} {K : PySem.W.Frag} {mg : Str → Option Value} {base : Heap} {f : Addr} {cdv : Value} {A : Around} {outer : List Env} {s : Shared} {H : Hp} {E : XK} {G : GI K} (c : Ks) (B : NB mg) (T : Cn mg) {f__law_signs : Addr} {d__law_signs : FuncData} (C__law_signs : Cal P w K mg base 1 "_law_signs" ["_law_letters_here"] sp__law_signs f__law_signs d__law_signs)
    (hr : Room 1 (A.deeper (envOfC "_law_is_side" (defScope s__law_is_side) s.heap.objs.size f cdv))) : @DSs (cxOf CX0 P w K mg base ["_law_one", "_law_letters_here", "_law_sign"] "_law_is_side" (defScope s__law_is_side) f cdv A outer s H E).nox G (defBody s__law_is_side) (t__law_is_side c) :=
  (dss_one (ds_ret (de_and (de_cmp o_le l_le (de_len B.len (da_cons (dv 0) da_nil)) de_int (nomark _)) (de_one (de_all B.all (da_cons (de_lc (g := (gName 2)) sc__law_is_side.nd (di_str (dv 0)) (blkOk_by (own := [("_law_sign", 2)]) (N := ["_law_one", "_law_letters_here", "_law_sign"]) (sc := defScope s__law_is_side) (by decide +kernel)) (tg_name (i := 2) (by decide)) (fun _ _ _ _ _ => (pg_name (i := 2) sc__law_is_side.nd rfl (Or.inl rfl))) (fun _ _ _ _ _ => dts_nil) (fun _ _ _ _ _ => (de_cmp (o_in (uI hr)) l_in (dv 2) (de_callC C__law_signs (hr.mono (by omega)) (da_cons (dv 1) da_nil)) (by rfl)))) da_nil))))))
theorem ok__law_is_side {P : Program} {w : World} {K : PySem.W.Frag} {mg : Str → Option Value} {base : Heap} {f : Addr} {fd : FuncData} (c : Ks) (B : NB mg) (T : Cn mg) {f__law_signs : Addr} {d__law_signs : FuncData} (C__law_signs : Cal P w K mg base 1 "_law_signs" ["_law_letters_here"] sp__law_signs f__law_signs d__law_signs) {dvs : List V} {kws : List (Str × V)} (F : DL.FnD K "_law_is_side" "_law_is_side" s__law_is_side dvs kws f fd)
    {sp : DSp} (len : ∀ ds M Q E, sp ds M Q E → ds.length = 2) (h : ∀ ds M Q E0, sp ds M Q E0 → t__law_is_side c (bodyE K Q) (startD ["_law_one", "_law_letters_here", "_law_sign"] ds) M) : FnOk P w K mg base CX0 2 f fd ["_law_one", "_law_letters_here"] (lSp K sp) :=
  dfunD F sc__law_is_side len fun cdv A outer s H E hr => ⟨t__law_is_side c, fun G => dv__law_is_side c B T C__law_signs hr, h⟩
/-! ### _law_bad_rule -/
abbrev s__law_bad_rule : Stmt := topS 65
theorem sc__law_bad_rule : FnScope ["_law_rules_now", "_law_letters_here", "_law_at", "_law_rule"] ["_law_rules_now", "_law_letters_here"] (defScope s__law_bad_rule) := ⟨rfl, rfl, rfl, by decide +kernel, rfl, by decide +kernel, by decide +kernel⟩
def t__law_bad_rule (c : Ks) : DTS :=
  (dSeq (dFor (dRng1 (dCons (dCB rLen (dCons (dVar 0) dNil)) dNil)) (dgName 2) (dSeq (dAsg (dOp rIxD (dVar 0) (dVar 2)) (dgName 3))
  (dSeq (dIfS (dOr (dTB (dOp rGt (dVar 2) (dC (.int 5)))) (dTB (dOp (rEqW true) (dCB rLen (dCons (dVar 3) dNil)) (dC (.int 2))))) (dRet (dVar 2)) dNext)
  (dIfS (dOr (dNot (dTru (dCall (sp__law_is_side c) (dCons (dOp rIxD (dVar 3) (dC (.int 0))) (dCons (dVar 1) dNil))))) (dNot (dTru (dCall (sp__law_is_side c) (dCons (dOp rIxD (dVar 3) (dC (.int 1))) (dCons (dVar 1) dNil)))))) (dRet (dVar 2)) dNext))))
  (dRet (dC .non)))
theorem dv__law_bad_rule {P : Program} {w : World} {K : PySem.W.Frag} {mg : Str → Option Value} {base : Heap} {f : Addr} {cdv : Value} {A : Around} {outer : List Env} {s : Shared} {H : Hp} {E : XK} {G : GI K} (c : Ks) (B : NB mg) (T : Cn mg) {f__law_is_side : Addr} {d__law_is_side : FuncData} (C__law_is_side : Cal P w K mg base 2 "_law_is_side" ["_law_one", "_law_letters_here"] (sp__law_is_side c) f__law_is_side d__law_is_side)
    (hr : Room 2 (A.deeper (envOfC "_law_bad_rule" (defScope s__law_bad_rule) s.heap.objs.size f cdv))) : @DSs (cxOf CX0 P w K mg base ["_law_rules_now", "_law_letters_here", "_law_at", "_law_rule"] "_law_bad_rule" (defScope s__law_bad_rule) f cdv A outer s H E).nox G (defBody s__law_bad_rule) (t__law_bad_rule c) :=
  (dss_cons (ds_for PassesOwn.never rfl (di_rng1 B.range (da_cons (de_len B.len (da_cons (dv 0) da_nil)) da_nil)) (dg_name (i := 2) sc__law_bad_rule.nd) (dss_cons (ds_set (i := 3) sc__law_bad_rule.nd (de_ix (dv 0) (dv 2)))
    (dss_cons (ds_if (PW.pt (dw_or (dt_cmp o_gt l_gt (dv 2) de_int (nomark _)) (dw_or1 (dt_cmp (o_ne hr.units) l_ne (de_len B.len (da_cons (dv 3) da_nil)) de_int (nomark _))))) (dss_one (ds_ret (dv 2))) dss_nil)
    (dss_one (ds_if (PW.pt (dw_or (dt_not (dt_tru (de_callC C__law_is_side (hr.mono (by omega)) (da_cons (de_ix (dv 3) de_int) (da_cons (dv 1) da_nil))))) (dw_or1 (dt_not (dt_tru (de_callC C__law_is_side (hr.mono (by omega)) (da_cons (de_ix (dv 3) de_int) (da_cons (dv 1) da_nil)))))))) (dss_one (ds_ret (dv 2))) dss_nil)))))
    (dss_one (ds_ret de_non)))
theorem ok__law_bad_rule {P : Program} {w : World} {K : PySem.W.Frag} {mg : Str → Option Value} {base : Heap} {f : Addr} {fd : FuncData} (c : Ks) (B : NB mg) (T : Cn mg) {f__law_is_side : Addr} {d__law_is_side : FuncData} (C__law_is_side : Cal P w K mg base 2 "_law_is_side" ["_law_one", "_law_letters_here"] (sp__law_is_side c) f__law_is_side d__law_is_side) {dvs : List V} {kws : List (Str × V)} (F : DL.FnD K "_law_bad_rule" "_law_bad_rule" s__law_bad_rule dvs kws f fd)
    {sp : DSp} (len : ∀ ds M Q E, sp ds M Q E → ds.length = 2) (h : ∀ ds M Q E0, sp ds M Q E0 → t__law_bad_rule c (bodyE K Q) (startD ["_law_rules_now", "_law_letters_here", "_law_at", "_law_rule"] ds) M) : FnOk P w K mg base CX0 3 f fd ["_law_rules_now", "_law_letters_here"] (lSp K sp) :=
  dfunD F sc__law_bad_rule len fun cdv A outer s H E hr => ⟨t__law_bad_rule c, fun G => dv__law_bad_rule c B T C__law_is_side hr, h⟩
/-! ### _law_letters_due -/
abbrev s__law_letters_due : Stmt := topS 66
theorem sc__law_letters_due : FnScope ["_law_letters_here", "_law_at", "_law_sign"] ["_law_letters_here"] (defScope s__law_letters_due) := ⟨rfl, rfl, rfl, by decide +kernel, rfl, by decide +kernel, by decide +kernel⟩
def t__law_letters_due (c : Ks) : DTS :=
  (dSeq (dFor (dRng1 (dCons (dCB rLen (dCons (dVar 0) dNil)) dNil)) (dgName 1) (dSeq (dAsg (dOp rIxD (dVar 0) (dVar 1)) (dgName 2))
  (dIfS (dOr (dTB (dOp (rInD true) (dVar 2) (dC (.str "abcdefghijklmnopqrstuvwxyz")))) (dOr (dTB (dOp (rInD false) (dVar 2) (dSl (dVar 0) (fun _ M Q => Q none M) (dPart (dVar 1))))) (dTB (dOp rGt (dVar 1) (dC (.int 2)))))) (dRet (dTup (dCons (dC (.str "InvalidLetters")) (dCons (dVar 1) dNil)))) dNext)))
  (dRet (dIf (dTB (dOp (rEqW true) (dVar 0) (dC (.str "")))) (dTup (dCons (dC (.str "")) (dCons (dVar 0) dNil))) (dTup (dCons (dC (.str "InvalidLetters")) (dCons (dC (.int 0)) dNil))))))
theorem dv__law_letters_due {P : Program} {w : World} {K : PySem.W.Frag} {mg : Str → Option Value} {base : Heap} {f : Addr} {cdv : Value} {A : Around} {outer : List Env} {s : Shared} {H : Hp} {E : XK} {G : GI K} (c : Ks) (B : NB mg) (T : Cn mg)
    (hr : Room 0 (A.deeper (envOfC "_law_letters_due" (defScope s__law_letters_due) s.heap.objs.size f cdv))) : @DSs (cxOf CX0 P w K mg base ["_law_letters_here", "_law_at", "_law_sign"] "_law_letters_due" (defScope s__law_letters_due) f cdv A outer s H E).nox G (defBody s__law_letters_due) (t__law_letters_due c) :=
  (dss_cons (ds_for PassesOwn.never rfl (di_rng1 B.range (da_cons (de_len B.len (da_cons (dv 0) da_nil)) da_nil)) (dg_name (i := 1) sc__law_letters_due.nd) (dss_cons (ds_set (i := 2) sc__law_letters_due.nd (de_ix (dv 0) (dv 1)))
    (dss_one (ds_if (PW.pt (dw_or (dt_cmp (o_nin (uI hr)) l_nin (dv 2) de_str (by rfl)) (dw_or (dt_cmp (o_in (uI hr)) l_in (dv 2) (de_sl (dv 0) do_none (do_some (dv 1))) (by rfl)) (dw_or1 (dt_cmp o_gt l_gt (dv 1) de_int (nomark _)))))) (dss_one (ds_ret (de_tup (da_cons de_str (da_cons (dv 1) da_nil))))) dss_nil))))
    (dss_one (ds_ret (de_if (dt_cmp (o_ne hr.units) l_ne (dv 0) de_str (nomark _)) (de_tup (da_cons de_str (da_cons (dv 0) da_nil))) (de_tup (da_cons de_str (da_cons de_int da_nil)))))))
theorem ok__law_letters_due {P : Program} {w : World} {K : PySem.W.Frag} {mg : Str → Option Value} {base : Heap} {f : Addr} {fd : FuncData} (c : Ks) (B : NB mg) (T : Cn mg) {dvs : List V} {kws : List (Str × V)} (F : DL.FnD K "_law_letters_due" "_law_letters_due" s__law_letters_due dvs kws f fd)
    {sp : DSp} (len : ∀ ds M Q E, sp ds M Q E → ds.length = 1) (h : ∀ ds M Q E0, sp ds M Q E0 → t__law_letters_due c (bodyE K Q) (startD ["_law_letters_here", "_law_at", "_law_sign"] ds) M) : FnOk P w K mg base CX0 1 f fd ["_law_letters_here"] (lSp K sp) :=
  dfunD F sc__law_letters_due len fun cdv A outer s H E hr => ⟨t__law_letters_due c, fun G => dv__law_letters_due c B T hr, h⟩
/-! ### _law_made -/
abbrev s__law_made : Stmt := topS 67
theorem sc__law_made : FnScope ["_law_letters_here", "_law_some", "_law_a", "_law_b", "_law_c", "_law_d"] ["_law_letters_here", "_law_some"] (defScope s__law_made) := ⟨rfl, rfl, rfl, by decide +kernel, rfl, by decide +kernel, by decide +kernel⟩
def t__law_made (c : Ks) (E0 : DX) : DTS :=
  (dSeq (dIfS (dTB (dOp (rEqW false) (dVar 1) (dLst dNil))) (dRet (dMakeX E0 c.Town (spW 2 100 (sp_Town___init__ c)) [] (dCons (dVar 0) dNil))) dNext)
  (dSeq (dIfS (dTB (dOp (rEqW false) (dCB rLen (dCons (dVar 1) dNil)) (dC (.int 1)))) (dRet (dMakeX E0 c.Town (spW 2 100 (sp_Town___init__ c)) [] (dCons (dVar 0) (dCons (dOp rIxD (dVar 1) (dC (.int 0))) dNil)))) dNext)
  (dSeq (dIfS (dTB (dOp (rEqW false) (dCB rLen (dCons (dVar 1) dNil)) (dC (.int 2)))) (dRet (dMakeX E0 c.Town (spW 2 100 (sp_Town___init__ c)) [] (dCons (dVar 0) (dCons (dOp rIxD (dVar 1) (dC (.int 0))) (dCons (dOp rIxD (dVar 1) (dC (.int 1))) dNil))))) dNext)
  (dSeq (dIfS (dTB (dOp (rEqW false) (dCB rLen (dCons (dVar 1) dNil)) (dC (.int 3)))) (dRet (dMakeX E0 c.Town (spW 2 100 (sp_Town___init__ c)) [] (dCons (dVar 0) (dCons (dOp rIxD (dVar 1) (dC (.int 0))) (dCons (dOp rIxD (dVar 1) (dC (.int 1))) (dCons (dOp rIxD (dVar 1) (dC (.int 2))) dNil)))))) dNext)
  (dSeq (dAsg (dSl (dVar 1) (fun _ M Q => Q none M) (dPart (dC (.int 4)))) (dgTupL 4 (dgCons (dgName 2) (dgCons (dgName 3) (dgCons (dgName 4) (dgCons (dgName 5) dgNil))))))
  (dSeq (dIfS (dTB (dOp (rEqW false) (dCB rLen (dCons (dVar 1) dNil)) (dC (.int 4)))) (dRet (dMakeX E0 c.Town (spW 2 100 (sp_Town___init__ c)) [] (dCons (dVar 0) (dCons (dVar 2) (dCons (dVar 3) (dCons (dVar 4) (dCons (dVar 5) dNil))))))) dNext)
  (dSeq (dIfS (dTB (dOp (rEqW false) (dCB rLen (dCons (dVar 1) dNil)) (dC (.int 5)))) (dRet (dMakeX E0 c.Town (spW 2 100 (sp_Town___init__ c)) [] (dCons (dVar 0) (dCons (dVar 2) (dCons (dVar 3) (dCons (dVar 4) (dCons (dVar 5) (dCons (dOp rIxD (dVar 1) (dC (.int 4))) dNil)))))))) dNext)
  (dSeq (dIfS (dTB (dOp (rEqW false) (dCB rLen (dCons (dVar 1) dNil)) (dC (.int 6)))) (dRet (dMakeX E0 c.Town (spW 2 100 (sp_Town___init__ c)) [] (dCons (dVar 0) (dCons (dVar 2) (dCons (dVar 3) (dCons (dVar 4) (dCons (dVar 5) (dCons (dOp rIxD (dVar 1) (dC (.int 4))) (dCons (dOp rIxD (dVar 1) (dC (.int 5))) dNil))))))))) dNext)
  (dRet (dMakeX E0 c.Town (spW 2 100 (sp_Town___init__ c)) [] (dCons (dVar 0) (dCons (dVar 2) (dCons (dVar 3) (dCons (dVar 4) (dCons (dVar 5) (dCons (dOp rIxD (dVar 1) (dC (.int 4))) (dCons (dOp rIxD (dVar 1) (dC (.int 5))) (dCons (dOp rIxD (dVar 1) (dC (.int 6))) dNil))))))))))))))))))
theorem dv__law_made {P : Program} {w : World} {K : PySem.W.Frag} {mg : Str → Option Value} {base : Heap} {f : Addr} {cdv : Value} {A : Around} {outer : List Env} {s : Shared} {H : Hp} {E : XK} {G : GI K} (c : Ks) {E0 : DX} (B : NB mg) (T : Cn mg) {f_Town___init__ : Addr} (C_Town___init__ : CalIXV P w K mg base 5 "Town" c.Town (spW 2 100 (sp_Town___init__ c)) f_Town___init__) (ws : @Wish K G E0 E)
    (hr : Room 6 (A.deeper (envOfC "_law_made" (defScope s__law_made) s.heap.objs.size f cdv))) : @DSs (cxOf (L2.CX P w) P w K mg base ["_law_letters_here", "_law_some", "_law_a", "_law_b", "_law_c", "_law_d"] "_law_made" (defScope s__law_made) f cdv A outer s H E) G (defBody s__law_made) (t__law_made c E0) :=
  (dss_cons (ds_if (dt_cmp (o_eq hr.units) l_eq (dv 1) (de_lst da_nil) (nomark _)) (dss_one (ds_ret (de_makeXV C_Town___init__ ws (hr.mono (by omega)) (da_cons (dv 0) da_nil)))) dss_nil)
    (dss_cons (ds_if (dt_cmp (o_eq hr.units) l_eq (de_len B.len (da_cons (dv 1) da_nil)) de_int (nomark _)) (dss_one (ds_ret (de_makeXV C_Town___init__ ws (hr.mono (by omega)) (da_cons (dv 0) (da_cons (de_ix (dv 1) de_int) da_nil))))) dss_nil)
    (dss_cons (ds_if (dt_cmp (o_eq hr.units) l_eq (de_len B.len (da_cons (dv 1) da_nil)) de_int (nomark _)) (dss_one (ds_ret (de_makeXV C_Town___init__ ws (hr.mono (by omega)) (da_cons (dv 0) (da_cons (de_ix (dv 1) de_int) (da_cons (de_ix (dv 1) de_int) da_nil)))))) dss_nil)
    (dss_cons (ds_if (dt_cmp (o_eq hr.units) l_eq (de_len B.len (da_cons (dv 1) da_nil)) de_int (nomark _)) (dss_one (ds_ret (de_makeXV C_Town___init__ ws (hr.mono (by omega)) (da_cons (dv 0) (da_cons (de_ix (dv 1) de_int) (da_cons (de_ix (dv 1) de_int) (da_cons (de_ix (dv 1) de_int) da_nil))))))) dss_nil)
    (dss_cons (ds_asg (de_sl (dv 1) do_none (do_some de_int)) (dg_tupL rfl (dgs_cons (dg_name (i := 2) sc__law_made.nd) (dgs_cons (dg_name (i := 3) sc__law_made.nd) (dgs_cons (dg_name (i := 4) sc__law_made.nd) (dgs_cons (dg_name (i := 5) sc__law_made.nd) dgs_nil))))))
    (dss_cons (ds_if (dt_cmp (o_eq hr.units) l_eq (de_len B.len (da_cons (dv 1) da_nil)) de_int (nomark _)) (dss_one (ds_ret (de_makeXV C_Town___init__ ws (hr.mono (by omega)) (da_cons (dv 0) (da_cons (dv 2) (da_cons (dv 3) (da_cons (dv 4) (da_cons (dv 5) da_nil)))))))) dss_nil)
    (dss_cons (ds_if (dt_cmp (o_eq hr.units) l_eq (de_len B.len (da_cons (dv 1) da_nil)) de_int (nomark _)) (dss_one (ds_ret (de_makeXV C_Town___init__ ws (hr.mono (by omega)) (da_cons (dv 0) (da_cons (dv 2) (da_cons (dv 3) (da_cons (dv 4) (da_cons (dv 5) (da_cons (de_ix (dv 1) de_int) da_nil))))))))) dss_nil)
    (dss_cons (ds_if (dt_cmp (o_eq hr.units) l_eq (de_len B.len (da_cons (dv 1) da_nil)) de_int (nomark _)) (dss_one (ds_ret (de_makeXV C_Town___init__ ws (hr.mono (by omega)) (da_cons (dv 0) (da_cons (dv 2) (da_cons (dv 3) (da_cons (dv 4) (da_cons (dv 5) (da_cons (de_ix (dv 1) de_int) (da_cons (de_ix (dv 1) de_int) da_nil)))))))))) dss_nil)
    (dss_one (ds_ret (de_makeXV C_Town___init__ ws (hr.mono (by omega)) (da_cons (dv 0) (da_cons (dv 2) (da_cons (dv 3) (da_cons (dv 4) (da_cons (dv 5) (da_cons (de_ix (dv 1) de_int) (da_cons (de_ix (dv 1) de_int) (da_cons (de_ix (dv 1) de_int) da_nil)))))))))))))))))))
theorem ok__law_made {P : Program} {w : World} {K : PySem.W.Frag} {mg : Str → Option Value} {base : Heap} {f : Addr} {fd : FuncData} (c : Ks) (B : NB mg) (T : Cn mg) {f_Town___init__ : Addr} (C_Town___init__ : CalIXV P w K mg base 5 "Town" c.Town (spW 2 100 (sp_Town___init__ c)) f_Town___init__) {dvs : List V} {kws : List (Str × V)} (F : DL.FnD K "_law_made" "_law_made" s__law_made dvs kws f fd)
    {sp : DSp} (len : ∀ ds M Q E, sp ds M Q E → ds.length = 2) (h : ∀ E0 ds M Q, sp ds M Q E0 → t__law_made c E0 (bodyE K Q) (startD ["_law_letters_here", "_law_some", "_law_a", "_law_b", "_law_c", "_law_d"] ds) M) : FnOk P w K mg base (L2.CX P w) 7 f fd ["_law_letters_here", "_law_some"] (lSp K sp) :=
  dfunX F sc__law_made len fun cdv A outer s H E E0 hr => ⟨t__law_made c E0, fun G ws => dv__law_made c B T C_Town___init__ ws hr, h E0⟩
def t_law_s2 (c : Ks) (l0 l1 : LamD) : DTS :=
  (dSeq (dAsg (dCall sp__law_any (dCons (dVar 1) (dCons (dLst (dCons (dC (.str "")) (dCons (dC (.str "aa")) (dCons (dC (.str "aB")) (dCons (dC (.str "abcd")) (dCons (dC (.str "a b")) (dCons (dC (.str "1")) (dCons (dC (.str "abca")) (dCons (dOp rAdd (dVar 3) (dOp rIxD (dVar 3) (dC (.int 0)))) (dCons (dVar 3) dNil)))))))))) dNil))) (dgName 9))
  (dSeq (dAsg (dCall (sp__law_letters_due c) (dCons (dVar 9) dNil)) (dgName 14))
  (dSeq (dAsg (dWhy (cws c) [(l0, fun E0 => (dMakeX E0 c.Town (spW 2 100 (sp_Town___init__ c)) [] (dCons (dVar 9) (dCons (dTup (dCons (dC (.str "")) (dCons (dC (.str "?")) dNil))) dNil))))] (dLam c.T_law l0)) (dgName 11))
  (dIfS (dTB (dOp (rEqW true) (dVar 11) (dIf (dTB (dOp (rEqW true) (dOp rIxD (dVar 14) (dC (.int 0))) (dC (.str "")))) (dVar 14) (dTup (dCons (dC (.str "InvalidRule")) (dCons (dC (.int 0)) dNil)))))) (dRet (dC (.bl false))) dNext))))
def t_law_s1 (c : Ks) (l0 l1 : LamD) : DTS :=
  (dFz 4 (dSeq (dAsg (dCall (sp__law_bad_rule c) (dCons (dVar 4) (dCons (dVar 3) dNil))) (dgName 10))
  (dSeq (dAsg (dWhy (cws c) [(l1, fun E0 => (dCallX E0 (sp__law_made c) (dCons (dVar 3) (dCons (dVar 4) dNil))))] (dLam c.T_law l1)) (dgName 11))
  (dSeq (dIfS (dTB (dIsN true (dVar 10))) (dIfS (dTB (dOp (rEqW true) (dVar 11) (dTup (dCons (dC (.str "InvalidRule")) (dCons (dVar 10) dNil))))) (dRet (dC (.bl false))) dNext) (dSeq (dAsg (dOp rIxD (dVar 11) (dC (.int 1))) (dgName 12))
  (dSeq (dAsg (dLst (dCons (dProp c.Town (sp_Town_letters c) (dVar 12)) (dCons (dProp c.Town (sp_Town_width c) (dVar 12)) (dCons (dMeth c.Town "rules" (sp_Town_rules c) (dVar 12) dNil) (dCons (dCB (rLenD c.Town (sp_Town___len__ c)) (dCons (dVar 12) dNil)) dNil))))) (dgName 13))
  (dSeq (dAsg (dLst (dCons (dVar 3) (dCons (dCB rLen (dCons (dVar 3) dNil)) (dCons (dVar 4) (dCons (dCB rLen (dCons (dVar 4) dNil)) dNil))))) (dgName 14))
  (dSeq (dIfS (dOr (dTB (dOp (rEqW true) (dOp rIxD (dVar 11) (dC (.int 0))) (dC (.str "")))) (dNot (dTru (dCall (sp__law_same 3) (dCons (dVar 13) (dCons (dVar 14) dNil)))))) (dRet (dC (.bl false))) dNext)
  (dSeq (dAsg (dOp rAdd (dOp rAdd (dOp rAdd (dOp rAdd (dC (.str "Town(")) (dCB rStrN (dCons (dCB rLen (dCons (dVar 3) dNil)) dNil))) (dC (.str " letters, "))) (dCB rStrN (dCons (dCB rLen (dCons (dVar 4) dNil)) dNil))) (dC (.str " rules)"))) (dgName 15))
  (dSeq (dIfS (dTB (dOp (rEqW true) (dCB (rReprD c.Town (sp_Town___repr__ c)) (dCons (dVar 12) dNil)) (dVar 15))) (dRet (dC (.bl false))) dNext)
  (dSeq (dDrop (dBM "list" rAppend (dMeth c.Town "rules" (sp_Town_rules c) (dVar 12) dNil) (dCons (dTup (dCons (dC (.str "")) (dCons (dC (.str "")) dNil))) dNil)))
  (dSeq (dIfS (dOr (dTB (dOp (rEqW true) (dMeth c.Town "rules" (sp_Town_rules c) (dVar 12) dNil) (dVar 4))) (dTB (dOp (rInLD c.Town (sp_Town___eq__ c)) (dVar 12) (dLst (dCons (dC .non) (dCons (dVar 4) (dCons (dVar 3) dNil))))))) (dRet (dC (.bl false))) dNext)
  (dSeq (dIfS (dTB (dOp (rEqD true c.Town (sp_Town___eq__ c) noX) (dVar 12) (dCall (sp__law_town c) (dCons (dVar 3) (dCons (dVar 4) dNil))))) (dRet (dC (.bl false))) dNext)
  (dIfS (dAnd (dTB (dOp (rEqW true) (dVar 4) (dRev (dVar 4)))) (dTB (dOp (rEqD false c.Town (sp_Town___eq__ c) noX) (dVar 12) (dCall (sp__law_town c) (dCons (dVar 3) (dCons (dRev (dVar 4)) dNil)))))) (dRet (dC (.bl false))) dNext)))))))))))
  (t_law_s2 c l0 l1)))))
/-! ### law -/
abbrev s_law : Stmt := topS 68
theorem sc_law : FnScope ["_law_script", "_law_box", "_law_turn", "_law_letters_here", "_law_some", "_law_at", "_law_long", "_law_one", "_law_other", "_law_odd", "_law_first", "_law_told", "_law_made_here", "_law_found", "_law_due", "_law_text", "_law_k"] ["_law_script"] (defScope s_law) := ⟨rfl, rfl, rfl, by decide +kernel, rfl, by decide +kernel, by decide +kernel⟩
def t_law (c : Ks) (l0 l1 : LamD) : DTS :=
  (dSeq (dAsg (dCall sp__law_begin (dCons (dVar 0) dNil)) (dgName 1))
  (dSeq (dFor (dRng1 (dCons (dC (.int 4)) dNil)) (dgName 2) (dSeq (dAsg (dCall sp__law_letters (dCons (dVar 1) (dCons (dOp rAdd (dC (.int 1)) (dCall sp__law_draw (dCons (dVar 1) (dCons (dC (.int 3)) dNil)))) dNil))) (dgName 3))
  (dSeq (dAsg (dLcM (dRng1 (dCons (dCall sp__law_draw (dCons (dVar 1) (dCons (dC (.int 8)) dNil))) dNil)) (dgName 16) dYes (dTup (dCons (dCall (sp__law_side c) (dCons (dVar 1) (dCons (dVar 3) (dCons (dC (.int 16)) dNil)))) (dCons (dCall (sp__law_side c) (dCons (dVar 1) (dCons (dVar 3) (dCons (dC (.int 5)) dNil)))) dNil))) [16]) (dgName 4))
  (dSeq (dIfS (dAnd (dTB (dOp (rEqW true) (dVar 4) (dLst dNil))) (dTB (dOp (rEqW false) (dCall sp__law_draw (dCons (dVar 1) (dCons (dC (.int 2)) dNil))) (dC (.int 0))))) (dSeq (dPar 5 6 (dCall sp__law_draw (dCons (dVar 1) (dCons (dCB rLen (dCons (dVar 4) dNil)) dNil))) (dOp rMulX (dOp rIxD (dVar 3) (dC (.int 0))) (dC (.int 17))))
  (dSeq (dAsg (dOp rIxD (dVar 4) (dVar 5)) (dgTup 2 (dgCons (dgName 7) (dgCons (dgName 8) dgNil))))
  (dSeq (dAsg (dLst (dCons (dTup (dCons (dVar 7) dNil)) (dCons (dTup (dCons (dVar 7) (dCons (dVar 8) (dCons (dVar 7) dNil)))) (dCons (dTup dNil) (dCons (dTup (dCons (dVar 7) (dCons (dOp rAdd (dVar 8) (dC (.str "?"))) dNil))) (dCons (dTup (dCons (dVar 6) (dCons (dVar 8) dNil))) (dCons (dTup (dCons (dOp rAdd (dVar 7) (dC (.str "1"))) (dCons (dVar 8) dNil))) (dCons (dTup (dCons (dVar 7) (dCons (dVar 6) dNil))) dNil)))))))) (dgName 9))
  (dAsg (dCall sp__law_any (dCons (dVar 1) (dCons (dVar 9) dNil))) (dgSub (dVar 4) (dVar 5)))))) dNext)
  (t_law_s1 c l0 l1)))))
  (dRet (dAndV (dOp (rEqW false) (dC (.int 6)) (dC (.int 6))) (dAndV (dOp (rEqD true c.Town (sp_Town___eq__ c) noX) (dMakeX noX c.Town (spW 2 100 (sp_Town___init__ c)) [] (dCons (dC (.str "ab")) dNil)) (dMakeX noX c.Town (spW 2 100 (sp_Town___init__ c)) [] (dCons (dC (.str "ba")) dNil))) (dOp (rEqD true c.Town (sp_Town___eq__ c) noX) (dMakeX noX c.Town (spW 2 100 (sp_Town___init__ c)) [] (dCons (dC (.str "a")) dNil)) (dMakeX noX c.Town (spW 2 100 (sp_Town___init__ c)) [] (dCons (dC (.str "ab")) dNil))))))))
def q_law : Str := (envOfC "law" (defScope s_law) 0 0 Value.none).qual ++ "<lambda>"
theorem dv_law {P : Program} {w : World} {K : PySem.W.Frag} {mg : Str → Option Value} {base : Heap} {f : Addr} {cdv : Value} {A : Around} {outer : List Env} {s : Shared} {H : Hp} {E : XK} (c : Ks) (B : NB mg) (T : Cn mg) {f__law_begin : Addr} {d__law_begin : FuncData} (C__law_begin : Cal P w K mg base 1 "_law_begin" ["_law_script"] sp__law_begin f__law_begin d__law_begin) {f__law_any : Addr} {d__law_any : FuncData} (C__law_any : Cal P w K mg base 2 "_law_any" ["_law_box", "_law_some"] sp__law_any f__law_any d__law_any) {f__law_letters_due : Addr} {d__law_letters_due : FuncData} (C__law_letters_due : Cal P w K mg base 1 "_law_letters_due" ["_law_letters_here"] (sp__law_letters_due c) f__law_letters_due d__law_letters_due) {f_Town___init__ : Addr} (C_Town___init__ : CalIXV P w K mg base 5 "Town" c.Town (spW 2 100 (sp_Town___init__ c)) f_Town___init__) {f__law_bad_rule : Addr} {d__law_bad_rule : FuncData} (C__law_bad_rule : Cal P w K mg base 3 "_law_bad_rule" ["_law_rules_now", "_law_letters_here"] (sp__law_bad_rule c) f__law_bad_rule d__law_bad_rule) {f__law_made : Addr} {d__law_made : FuncData} (C__law_made : CalX P w K mg base 7 "_law_made" ["_law_letters_here", "_law_some"] (sp__law_made c) f__law_made d__law_made) {f_Town_letters p_Town_letters : Addr} {d_Town_letters : FuncData} (C_Town_letters : CalP P w K mg base 1 c.Town "letters" (sp_Town_letters c) p_Town_letters f_Town_letters d_Town_letters) {f_Town_width p_Town_width : Addr} {d_Town_width : FuncData} (C_Town_width : CalP P w K mg base 1 c.Town "width" (sp_Town_width c) p_Town_width f_Town_width d_Town_width) {f_Town_rules : Addr} {d_Town_rules : FuncData} (C_Town_rules : CalM P w K mg base 1 c.Town "rules" ["self"] (sp_Town_rules c) f_Town_rules d_Town_rules) {f_Town___len__ : Addr} {d_Town___len__ : FuncData} (C_Town___len__ : CalM P w K mg base 1 c.Town "__len__" ["self"] (sp_Town___len__ c) f_Town___len__ d_Town___len__) {f__law_same : Addr} {d__law_same : FuncData} (C__law_same : Cal P w K mg base 5 "_law_same" ["_law_found", "_law_due"] (sp__law_same 3) f__law_same d__law_same) {f_Town___repr__ : Addr} {d_Town___repr__ : FuncData} (C_Town___repr__ : CalM P w K mg base 3 c.Town "__repr__" ["self"] (sp_Town___repr__ c) f_Town___repr__ d_Town___repr__) {f_Town___eq__ : Addr} {d_Town___eq__ : FuncData} (C_Town___eq__ : CalM P w K mg base 1 c.Town "__eq__" ["self", "other"] (sp_Town___eq__ c) f_Town___eq__ d_Town___eq__) {f__law_town : Addr} {d__law_town : FuncData} (C__law_town : Cal P w K mg base 8 "_law_town" ["_law_letters_here", "_law_rules_now"] (sp__law_town c) f__law_town d__law_town) {f__law_letters : Addr} {d__law_letters : FuncData} (C__law_letters : Cal P w K mg base 3 "_law_letters" ["_law_box", "_law_many"] sp__law_letters f__law_letters d__law_letters) {f__law_draw : Addr} {d__law_draw : FuncData} (C__law_draw : Cal P w K mg base 1 "_law_draw" ["_law_box", "_law_many"] sp__law_draw f__law_draw d__law_draw) {f__law_side : Addr} {d__law_side : FuncData} (C__law_side : Cal P w K mg base 4 "_law_side" ["_law_box", "_law_letters_here", "_law_most"] (sp__law_side c) f__law_side d__law_side) (W : WhyF P w K mg base (cws c)) (O_Town : OwnK K c.Town) (gg_Town : mg "Town" = some (.ref c.Town)) (CN_Town_MOST : CNum K c.Town "MOST" 6)
    (LM : LamM (cxOf CX0 P w K mg base ["_law_script", "_law_box", "_law_turn", "_law_letters_here", "_law_some", "_law_at", "_law_long", "_law_one", "_law_other", "_law_odd", "_law_first", "_law_told", "_law_made_here", "_law_found", "_law_due", "_law_text", "_law_k"] "law" (defScope s_law) f cdv A outer s H E).nox c.T_law) (hr : Room 9 (A.deeper (envOfC "law" (defScope s_law) s.heap.objs.size f cdv))) : ∃ l0 l1 : LamD, (∀ G : GI K, @DSs (cxOf CX0 P w K mg base ["_law_script", "_law_box", "_law_turn", "_law_letters_here", "_law_some", "_law_at", "_law_long", "_law_one", "_law_other", "_law_odd", "_law_first", "_law_told", "_law_made_here", "_law_found", "_law_due", "_law_text", "_law_k"] "law" (defScope s_law) f cdv A outer s H E).nox G (defBody s_law) (t_law c l0 l1)) ∧ l0.q = q_law ∧ l1.q = q_law :=
  ⟨_, _, fun G => (dss_cons (ds_set (i := 1) sc_law.nd (de_callC C__law_begin (hr.mono (by omega)) (da_cons (dv 0) da_nil)))
    (dss_cons (ds_for PassesOwn.never rfl (di_rng1 B.range (da_cons de_int da_nil)) (dg_name (i := 2) sc_law.nd) (dss_cons (ds_set (i := 3) sc_law.nd (de_callC C__law_letters (hr.mono (by omega)) (da_cons (dv 1) (da_cons (de_add de_int (de_callC C__law_draw (hr.mono (by omega)) (da_cons (dv 1) (da_cons de_int da_nil)))) da_nil))))
    (dss_cons (ds_set (i := 4) sc_law.nd (de_lcM (g := (gName 16)) sc_law.nd (di_rng1 B.range (da_cons (de_callC C__law_draw (hr.mono (by omega)) (da_cons (dv 1) (da_cons de_int da_nil))) da_nil)) (blkOk_by (own := [("_law_k", 16)]) (N := ["_law_script", "_law_box", "_law_turn", "_law_letters_here", "_law_some", "_law_at", "_law_long", "_law_one", "_law_other", "_law_odd", "_law_first", "_law_told", "_law_made_here", "_law_found", "_law_due", "_law_text", "_law_k"]) (sc := defScope s_law) (by decide +kernel)) (tg_name (i := 16) (by decide)) (fun _ _ _ _ _ => (pg_name (i := 16) sc_law.nd rfl (Or.inl rfl))) (fun _ _ _ _ _ => dts_nil) (fun _ _ _ _ _ => (de_tup (da_cons (de_callC C__law_side (hr.mono (by omega)) (da_cons (dv 1) (da_cons (dv 3) (da_cons de_int da_nil)))) (da_cons (de_callC C__law_side (hr.mono (by omega)) (da_cons (dv 1) (da_cons (dv 3) (da_cons de_int da_nil)))) da_nil))))))
    (dss_cons (ds_if (PW.pt (dw_and (dt_cmp (o_ne hr.units) l_ne (dv 4) (de_lst da_nil) (nomark _)) (dw_and1 (dt_cmp (o_eq hr.units) l_eq (de_callC C__law_draw (hr.mono (by omega)) (da_cons (dv 1) (da_cons de_int da_nil))) de_int (nomark _))))) (dss_cons (ds_par (i := 5) (j := 6) rfl sc_law.nd rfl rfl (by decide) rfl rfl (de_callC C__law_draw (hr.mono (by omega)) (da_cons (dv 1) (da_cons (de_len B.len (da_cons (dv 4) da_nil)) da_nil))) (de_mulX (de_ix (dv 3) de_int) de_int) (by rfl))
    (dss_cons (ds_asg (de_ix (dv 4) (dv 5)) (dg_tup rfl (dgs_cons (dg_name (i := 7) sc_law.nd) (dgs_cons (dg_name (i := 8) sc_law.nd) dgs_nil))))
    (dss_cons (ds_set (i := 9) sc_law.nd (de_lst (da_cons (de_tup (da_cons (dv 7) da_nil)) (da_cons (de_tup (da_cons (dv 7) (da_cons (dv 8) (da_cons (dv 7) da_nil)))) (da_cons (de_tup da_nil) (da_cons (de_tup (da_cons (dv 7) (da_cons (de_add (dv 8) de_str) da_nil))) (da_cons (de_tup (da_cons (dv 6) (da_cons (dv 8) da_nil))) (da_cons (de_tup (da_cons (de_add (dv 7) de_str) (da_cons (dv 8) da_nil))) (da_cons (de_tup (da_cons (dv 7) (da_cons (dv 6) da_nil))) da_nil)))))))))
    (dss_one (ds_asg (de_callC C__law_any (hr.mono (by omega)) (da_cons (dv 1) (da_cons (dv 9) da_nil))) (dg_sub (dv 4) (dv 5))))))) dss_nil)
    (dss_fz 4 (dss_cons (ds_set (i := 10) sc_law.nd (de_callC C__law_bad_rule (hr.mono (by omega)) (da_cons (dv 4) (da_cons (dv 3) da_nil))))
    (dss_cons (ds_set (i := 11) sc_law.nd (de_why (k := 7) W (hr.mono (by omega)) (de_lam (sc := defScope s_law) LM (by decide +kernel)) (List.forall_mem_cons.mpr ⟨(lamOk_own (N := ["_law_script", "_law_box", "_law_turn", "_law_letters_here", "_law_some", "_law_at", "_law_long", "_law_one", "_law_other", "_law_odd", "_law_first", "_law_told", "_law_made_here", "_law_found", "_law_due", "_law_text", "_law_k"]) (sc := defScope s_law) (by decide +kernel) (by decide +kernel) (bind0 rfl fun _ _ _ _ _ _ => rfl) (fun E E0 A outer s H f c' hr G wq => (fun ws : @Wish K G E0 E => (de_callX C__law_made ws (hr.mono (by omega)) (da_cons (dv 3) (da_cons (dv 4) da_nil)))) wq)), (fun _ h => absurd h List.not_mem_nil)⟩)))
    (dss_cons (ds_if (dt_notN (dv 10)) (dss_one (ds_if (dt_cmp (o_ne hr.units) l_ne (dv 11) (de_tup (da_cons de_str (da_cons (dv 10) da_nil))) (nomark _)) (dss_one (ds_ret de_bl)) dss_nil)) (dss_cons (ds_set (i := 12) sc_law.nd (de_ix (dv 11) de_int))
    (dss_cons (ds_set (i := 13) sc_law.nd (de_lst (da_cons (de_prop C_Town_letters (hr.mono (by omega)) (dv 12)) (da_cons (de_prop C_Town_width (hr.mono (by omega)) (dv 12)) (da_cons (de_meth0 C_Town_rules (hr.mono (by omega)) (dv 12)) (da_cons (de_lenO B.len C_Town___len__ (hr.mono (by omega)) (da_cons (dv 12) da_nil)) da_nil))))))
    (dss_cons (ds_set (i := 14) sc_law.nd (de_lst (da_cons (dv 3) (da_cons (de_len B.len (da_cons (dv 3) da_nil)) (da_cons (dv 4) (da_cons (de_len B.len (da_cons (dv 4) da_nil)) da_nil))))))
    (dss_cons (ds_if (PW.pt (dw_or (dt_cmp (o_ne hr.units) l_ne (de_ix (dv 11) de_int) de_str (nomark _)) (dw_or1 (dt_not (dt_tru (de_callC C__law_same (hr.mono (by omega)) (da_cons (dv 13) (da_cons (dv 14) da_nil)))))))) (dss_one (ds_ret de_bl)) dss_nil)
    (dss_cons (ds_set (i := 15) sc_law.nd (de_add (de_add (de_add (de_add de_str (de_strN B.str (da_cons (de_len B.len (da_cons (dv 3) da_nil)) da_nil))) de_str) (de_strN B.str (da_cons (de_len B.len (da_cons (dv 4) da_nil)) da_nil))) de_str))
    (dss_cons (ds_if (dt_cmp (o_ne hr.units) l_ne (de_reprO B.repr C_Town___repr__ (hr.mono (by omega)) (da_cons (dv 12) da_nil)) (dv 15) (nomark _)) (dss_one (ds_ret de_bl)) dss_nil)
    (dss_cons (ds_expr (de_append (de_meth0 C_Town_rules (hr.mono (by omega)) (dv 12)) (da_cons (de_tup (da_cons de_str (da_cons de_str da_nil))) da_nil)))
    (dss_cons (ds_if (PW.pt (dw_or (dt_cmp (o_ne hr.units) l_ne (de_meth0 C_Town_rules (hr.mono (by omega)) (dv 12)) (dv 4) (nomark _)) (dw_or1 (dt_cmp (o_inLO O_Town C_Town___eq__ (hr.mono (by omega))) l_inLD (dv 12) (de_lst (da_cons de_non (da_cons (dv 4) (da_cons (dv 3) da_nil)))) (by rfl))))) (dss_one (ds_ret de_bl)) dss_nil)
    (dss_cons (ds_if (dt_cmp (o_neO O_Town C_Town___eq__ (hr.mono (by omega))) (l_neD O_Town) (dv 12) (de_callC C__law_town (hr.mono (by omega)) (da_cons (dv 3) (da_cons (dv 4) da_nil))) (nomark _)) (dss_one (ds_ret de_bl)) dss_nil)
    (dss_one (ds_if (PW.pt (dw_and (dt_cmp (o_ne hr.units) l_ne (dv 4) (de_rev (dv 4)) (nomark _)) (dw_and1 (dt_cmp (o_eqO C_Town___eq__ (hr.mono (by omega))) (l_eqD O_Town) (dv 12) (de_callC C__law_town (hr.mono (by omega)) (da_cons (dv 3) (da_cons (de_rev (dv 4)) da_nil))) (nomark _))))) (dss_one (ds_ret de_bl)) dss_nil))))))))))))
    (dss_cons (ds_set (i := 9) sc_law.nd (de_callC C__law_any (hr.mono (by omega)) (da_cons (dv 1) (da_cons (de_lst (da_cons de_str (da_cons de_str (da_cons de_str (da_cons de_str (da_cons de_str (da_cons de_str (da_cons de_str (da_cons (de_add (dv 3) (de_ix (dv 3) de_int)) (da_cons (dv 3) da_nil)))))))))) da_nil))))
    (dss_cons (ds_set (i := 14) sc_law.nd (de_callC C__law_letters_due (hr.mono (by omega)) (da_cons (dv 9) da_nil)))
    (dss_cons (ds_set (i := 11) sc_law.nd (de_why (k := 7) W (hr.mono (by omega)) (de_lam (sc := defScope s_law) LM (by decide +kernel)) (List.forall_mem_cons.mpr ⟨(lamOk_own (N := ["_law_script", "_law_box", "_law_turn", "_law_letters_here", "_law_some", "_law_at", "_law_long", "_law_one", "_law_other", "_law_odd", "_law_first", "_law_told", "_law_made_here", "_law_found", "_law_due", "_law_text", "_law_k"]) (sc := defScope s_law) (by decide +kernel) (by decide +kernel) (bind0 rfl fun _ _ _ _ _ _ => rfl) (fun E E0 A outer s H f c' hr G wq => (fun ws : @Wish K G E0 E => (de_makeXV C_Town___init__ ws (hr.mono (by omega)) (da_cons (dv 9) (da_cons (de_tup (da_cons de_str (da_cons de_str da_nil))) da_nil)))) wq)), (fun _ h => absurd h List.not_mem_nil)⟩)))
    (dss_one (ds_if (dt_cmp (o_ne hr.units) l_ne (dv 11) (de_if (dt_cmp (o_ne hr.units) l_ne (de_ix (dv 14) de_int) de_str (nomark _)) (dv 14) (de_tup (da_cons de_str (da_cons de_int da_nil)))) (nomark _)) (dss_one (ds_ret de_bl)) dss_nil)))))))))))))
    (dss_one (ds_ret (de_and (de_cmp (o_eq hr.units) l_eq (de_cnum CN_Town_MOST gg_Town) de_int (nomark _)) (de_and (de_cmp (o_neO O_Town C_Town___eq__ (hr.mono (by omega))) (l_neD O_Town) (de_makeXV C_Town___init__ ws0 (hr.mono (by omega)) (da_cons de_str da_nil) LamX.takes0) (de_makeXV C_Town___init__ ws0 (hr.mono (by omega)) (da_cons de_str da_nil) LamX.takes0) (nomark _)) (de_one (de_cmp (o_neO O_Town C_Town___eq__ (hr.mono (by omega))) (l_neD O_Town) (de_makeXV C_Town___init__ ws0 (hr.mono (by omega)) (da_cons de_str da_nil) LamX.takes0) (de_makeXV C_Town___init__ ws0 (hr.mono (by omega)) (da_cons de_str da_nil) LamX.takes0) (nomark _))))))))), rfl, rfl⟩
theorem ok_law {P : Program} {w : World} {K : PySem.W.Frag} {mg : Str → Option Value} {base : Heap} {f : Addr} {fd : FuncData} (c : Ks) (B : NB mg) (T : Cn mg) {f__law_begin : Addr} {d__law_begin : FuncData} (C__law_begin : Cal P w K mg base 1 "_law_begin" ["_law_script"] sp__law_begin f__law_begin d__law_begin) {f__law_any : Addr} {d__law_any : FuncData} (C__law_any : Cal P w K mg base 2 "_law_any" ["_law_box", "_law_some"] sp__law_any f__law_any d__law_any) {f__law_letters_due : Addr} {d__law_letters_due : FuncData} (C__law_letters_due : Cal P w K mg base 1 "_law_letters_due" ["_law_letters_here"] (sp__law_letters_due c) f__law_letters_due d__law_letters_due) {f_Town___init__ : Addr} (C_Town___init__ : CalIXV P w K mg base 5 "Town" c.Town (spW 2 100 (sp_Town___init__ c)) f_Town___init__) {f__law_bad_rule : Addr} {d__law_bad_rule : FuncData} (C__law_bad_rule : Cal P w K mg base 3 "_law_bad_rule" ["_law_rules_now", "_law_letters_here"] (sp__law_bad_rule c) f__law_bad_rule d__law_bad_rule) {f__law_made : Addr} {d__law_made : FuncData} (C__law_made : CalX P w K mg base 7 "_law_made" ["_law_letters_here", "_law_some"] (sp__law_made c) f__law_made d__law_made) {f_Town_letters p_Town_letters : Addr} {d_Town_letters : FuncData} (C_Town_letters : CalP P w K mg base 1 c.Town "letters" (sp_Town_letters c) p_Town_letters f_Town_letters d_Town_letters) {f_Town_width p_Town_width : Addr} {d_Town_width : FuncData} (C_Town_width : CalP P w K mg base 1 c.Town "width" (sp_Town_width c) p_Town_width f_Town_width d_Town_width) {f_Town_rules : Addr} {d_Town_rules : FuncData} (C_Town_rules : CalM P w K mg base 1 c.Town "rules" ["self"] (sp_Town_rules c) f_Town_rules d_Town_rules) {f_Town___len__ : Addr} {d_Town___len__ : FuncData} (C_Town___len__ : CalM P w K mg base 1 c.Town "__len__" ["self"] (sp_Town___len__ c) f_Town___len__ d_Town___len__) {f__law_same : Addr} {d__law_same : FuncData} (C__law_same : Cal P w K mg base 5 "_law_same" ["_law_found", "_law_due"] (sp__law_same 3) f__law_same d__law_same) {f_Town___repr__ : Addr} {d_Town___repr__ : FuncData} (C_Town___repr__ : CalM P w K mg base 3 c.Town "__repr__" ["self"] (sp_Town___repr__ c) f_Town___repr__ d_Town___repr__) {f_Town___eq__ : Addr} {d_Town___eq__ : FuncData} (C_Town___eq__ : CalM P w K mg base 1 c.Town "__eq__" ["self", "other"] (sp_Town___eq__ c) f_Town___eq__ d_Town___eq__) {f__law_town : Addr} {d__law_town : FuncData} (C__law_town : Cal P w K mg base 8 "_law_town" ["_law_letters_here", "_law_rules_now"] (sp__law_town c) f__law_town d__law_town) {f__law_letters : Addr} {d__law_letters : FuncData} (C__law_letters : Cal P w K mg base 3 "_law_letters" ["_law_box", "_law_many"] sp__law_letters f__law_letters d__law_letters) {f__law_draw : Addr} {d__law_draw : FuncData} (C__law_draw : Cal P w K mg base 1 "_law_draw" ["_law_box", "_law_many"] sp__law_draw f__law_draw d__law_draw) {f__law_side : Addr} {d__law_side : FuncData} (C__law_side : Cal P w K mg base 4 "_law_side" ["_law_box", "_law_letters_here", "_law_most"] (sp__law_side c) f__law_side d__law_side) (W : WhyF P w K mg base (cws c)) (O_Town : OwnK K c.Town) (gg_Town : mg "Town" = some (.ref c.Town)) (CN_Town_MOST : CNum K c.Town "MOST" 6) {dvs : List V} {kws : List (Str × V)} (F : DL.FnD K "law" "law" s_law dvs kws f fd) (hT : ∃ cc, fd.code = .ref cc ∧ LamX.TabB base mg cc c.T_law)
    {sp : DSp} (len : ∀ ds M Q E, sp ds M Q E → ds.length = 1) (h : ∀ l0 l1 : LamD, l0.q = q_law → l1.q = q_law → ∀ ds M Q E0, sp ds M Q E0 → t_law c l0 l1 (bodyE K Q) (startD ["_law_script", "_law_box", "_law_turn", "_law_letters_here", "_law_some", "_law_at", "_law_long", "_law_one", "_law_other", "_law_odd", "_law_first", "_law_told", "_law_made_here", "_law_found", "_law_due", "_law_text", "_law_k"] ds) M) : FnOk P w K mg base CX0 10 f fd ["_law_script"] (lSp K sp) :=
  dfunL F sc_law hT len fun cdv A outer s H E hr LM => (dv_law c B T C__law_begin C__law_any C__law_letters_due C_Town___init__ C__law_bad_rule C__law_made C_Town_letters C_Town_width C_Town_rules C_Town___len__ C__law_same C_Town___repr__ C_Town___eq__ C__law_town C__law_letters C__law_draw C__law_side W O_Town gg_Town CN_Town_MOST LM hr).elim fun l0 h0 => h0.elim fun l1 hl1 => ⟨t_law c l0 l1, hl1.1, h l0 l1 hl1.2.1 hl1.2.2⟩
end K12
namespace K12
open PySem PySem.Spec PyProof.Rows L2 DL PRE LamN
local macro_rules | `(tactic| walk_at "dl") => `(tactic| simp only [exists_eq', exists_eq, List.take_nil, List.take_succ_cons, List.take_zero, decide_false, decide_true, dFld_ap, dSetF_ap, dAugF_ap, dMeth_ap, dMake_ap, dProp_ap, insOf_p, insOf_o, dNever_ap, bodyE_rt, bodyE_nx, dVar_ap, dC_ap, dOp_ap, dTB_ap, dTru_ap, dAnd_ap, dOr_ap, dNot_ap, dNotV_ap, dAndV_ap, dOrV_ap, dIf_ap, dIsN_ap, dNext_ap, dSeq_ap, dBreak_ap, dCont_ap, dDrop_ap, dRet_ap, dRetN_ap, dIfS_ap, dgName_ap, dgNil_ap, dgCons_ap, dgTup_ap, dgSub_ap, dAsg_ap, dPar_ap, dAug_ap, dNil_ap, dCons_ap, dTup_ap, dLst_ap, dLstM_ap, dCB_ap, dBM_ap, dBM0_ap, dCall_ap, dCallK_ap, dRev_s, dSl_ap, dPart_ap, dUn_ap, dChain_ap, dIsi_ap, dIsi2_ap, dIter_ap, dIterT_ap, dIterS_ap, dRng1_ap, dRng2_ap, rMulX_ii, rMulX_si, dFmt_ap, fmtD_s, fmtD_i, dJoined_ap, dJs_nil, dJs_cons, jStep_s, dCallK_ap, dNil_ap, rAdd_ii, rAdd_ss, rAdd_tt, rAdd_ll, rSub_ii, rInt2_ii, rNeg_i, rOrd_ii, rOrd_ss, rIadd_ii, rIadd_ss, rEqW_ii, rEqW_ss, rEqW_bb, rIn_ss, rIxD_l, rIxD_x, rIxD_t, rIxD_s, rIxD_p, lstOf_p, lstOf_l, lstOf_x, rSlD_s, rSlD_t, rSlD_l, rSlD_x, rLen_s, rLen_t, rLen_l, rLen_x, rLen_p, rAbs_i, rInt_i, rInt_b, rToListA_t, rToListA_l, rToListA_s, rToListM_t, rToListM_l, rToTup_t, rToTup_l, rToTup_p, rSum_ap, rAll_ap, rAny_ap, rStrN_i, rMax2_ii, rMin2_ii, rS0_ap, rS1_ap, tyD_s, tyD_p, tyD_l, rJoin_l, rJoin_p, rAppend_p, rPop_p, startD, wipeD, List.map_cons, List.map_nil, List.cons_append, List.nil_append, List.append_nil, List.length_cons, List.length_nil, List.getElem?_cons_zero, List.getElem?_cons_succ, List.set_cons_zero, List.set_cons_succ, List.replicate, Nat.reduceAdd, Nat.reduceSub, Nat.sub_zero, up_same, up_up, Bool.false_xor, Bool.true_xor, Bool.not_true, Bool.not_false, if_true, if_false, Bool.false_eq_true, and_true, true_and, ite_true, ite_false, reduceIte, reduceCtorEq, Option.some.injEq, exists_eq_left', exists_eq_left, dCallX_ap, dWhy_ap, dLam_ap, dRaise_ap, dEnumL_ap, dEnumT_ap, dEnumS_ap, dZip_ap, T_beq, T_app, rMulT_ii, rMulT_ti, rFdivZ_ii, rMulW_ii, dMakeX_ap, dMethX_ap, dCallKX_ap, dgTupL_ap, dFz_ap])
local macro_rules | `(tactic| walk_at "dlh") => `(tactic| simp only [exists_eq', exists_eq, List.take_nil, List.take_succ_cons, List.take_zero, decide_false, decide_true, dFld_ap, dSetF_ap, dAugF_ap, dMeth_ap, dMake_ap, dProp_ap, insOf_p, insOf_o, dNever_ap, bodyE_rt, bodyE_nx, dVar_ap, dC_ap, dOp_ap, dTB_ap, dTru_ap, dAnd_ap, dOr_ap, dNot_ap, dNotV_ap, dAndV_ap, dOrV_ap, dIf_ap, dIsN_ap, dNext_ap, dSeq_ap, dBreak_ap, dCont_ap, dDrop_ap, dRet_ap, dRetN_ap, dIfS_ap, dgName_ap, dgNil_ap, dgCons_ap, dgTup_ap, dgSub_ap, dAsg_ap, dPar_ap, dAug_ap, dNil_ap, dCons_ap, dTup_ap, dLst_ap, dLstM_ap, dCB_ap, dBM_ap, dBM0_ap, dCall_ap, dCallK_ap, dRev_s, dSl_ap, dPart_ap, dUn_ap, dChain_ap, dIsi_ap, dIsi2_ap, dIter_ap, dIterT_ap, dIterS_ap, dRng1_ap, dRng2_ap, rMulX_ii, rMulX_si, dFmt_ap, fmtD_s, fmtD_i, dJoined_ap, dJs_nil, dJs_cons, jStep_s, dCallK_ap, dNil_ap, rAdd_ii, rAdd_ss, rAdd_tt, rAdd_ll, rSub_ii, rInt2_ii, rNeg_i, rOrd_ii, rOrd_ss, rIadd_ii, rIadd_ss, rEqW_ii, rEqW_ss, rEqW_bb, rIn_ss, rIxD_l, rIxD_x, rIxD_t, rIxD_s, rIxD_p, lstOf_p, lstOf_l, lstOf_x, rSlD_s, rSlD_t, rSlD_l, rSlD_x, rLen_s, rLen_t, rLen_l, rLen_x, rLen_p, rAbs_i, rInt_i, rInt_b, rToListA_t, rToListA_l, rToListA_s, rToListM_t, rToListM_l, rToTup_t, rToTup_l, rToTup_p, rSum_ap, rAll_ap, rAny_ap, rStrN_i, rMax2_ii, rMin2_ii, rS0_ap, rS1_ap, tyD_s, tyD_p, tyD_l, rJoin_l, rJoin_p, rAppend_p, rPop_p, startD, wipeD, List.map_cons, List.map_nil, List.cons_append, List.nil_append, List.append_nil, List.length_cons, List.length_nil, List.getElem?_cons_zero, List.getElem?_cons_succ, List.set_cons_zero, List.set_cons_succ, List.replicate, Nat.reduceAdd, Nat.reduceSub, Nat.sub_zero, up_same, up_up, Bool.false_xor, Bool.true_xor, Bool.not_true, Bool.not_false, if_true, if_false, Bool.false_eq_true, and_true, true_and, ite_true, ite_false, reduceIte, reduceCtorEq, Option.some.injEq, exists_eq_left', exists_eq_left, dCallX_ap, dWhy_ap, dLam_ap, dRaise_ap, dEnumL_ap, dEnumT_ap, dEnumS_ap, dZip_ap, T_beq, T_app, rMulT_ii, rMulT_ti, rFdivZ_ii, rMulW_ii, dMakeX_ap, dMethX_ap, dCallKX_ap, dgTupL_ap, dFz_ap, *])
local macro_rules | `(tactic| walk_at "len") => `(tactic| (intro ds M Q E h; first | (obtain ⟨_, h1, _⟩ := h; subst h1; rfl) | (obtain ⟨_, _, h1, _⟩ := h; subst h1; rfl) | (obtain ⟨_, _, _, h1, _⟩ := h; subst h1; rfl) | (obtain ⟨_, _, _, _, h1, _⟩ := h; subst h1; rfl) | (obtain ⟨_, _, _, _, _, h1, _⟩ := h; subst h1; rfl) | (obtain ⟨_, _, _, _, _, _, h1, _⟩ := h; subst h1; rfl) | (obtain ⟨_, _, _, _, _, _, _, h1, _⟩ := h; subst h1; rfl) | (obtain ⟨_, _, _, _, _, _, _, _, h1, _⟩ := h; subst h1; rfl) | (obtain ⟨_, _, _, _, _, _, _, _, _, h1, _⟩ := h; subst h1; rfl)))
local macro_rules | `(tactic| walk_at "ln") => `(tactic| (simp only [List.length_cons, List.length_nil, List.length_map, List.length_append, List.length_take, List.length_drop, List.length_reverse, T_len]; omega))
section
variable {K : PySem.W.Frag} {c : Ks}
theorem zip_rows : ∀ (a b : Row), zipD (a.map D.int) (b.map D.int) = (a.zip b).map fun p => D.tup [.int p.1, .int p.2]
  | [], b => by rw [List.map_nil, zipD.eq_def]; rfl
  | x :: a, [] => by rw [List.map_cons, List.map_nil, zipD.eq_def]; rfl
  | x :: a, y :: b => by rw [List.map_cons, List.map_cons, zipD, zip_rows a b]; rfl
theorem mi_zip : ∀ (a b : Row), TM.mi a b = (a.zip b).map fun p => p.1 - p.2
  | [], b => by unfold TM.mi; simp
  | x :: a, [] => by unfold TM.mi; simp
  | x :: a, y :: b => by
    have := mi_zip a b
    unfold TM.mi at this ⊢
    simp [this]
theorem rd_minus : ∀ ds M Q E0, sp_minus c ds M Q E0 → t_minus c (bodyE K Q) (startD ["one", "other", "a", "b"] ds) M := by
  rintro ds M Q E0 ⟨a, b, rfl, hl, hz, q⟩
  unfold t_minus
  walk_at "dl"
  rw [dLc_un]
  walk_at "dl"
  rw [zip_rows]
  have hzz : (a.zip b).length ≤ 1000 := by rw [List.length_zip]; omega
  refine lcB_m (xs := a.zip b) (fun p => D.tup [.int p.1, .int p.2]) (fun p => D.int (p.1 - p.2)) True.intro (line (by omega)) (fun x hx R h => ?_) ?_
  · walk_at "dl"
    exact h
  · walk_at "dl"
    rw [mi_zip] at q
    simp only [rT, List.map_map] at q
    exact Fin.same q
theorem rd_scaled : ∀ ds M Q E0, sp_scaled c ds M Q E0 → t_scaled c (bodyE K Q) (startD ["one", "times", "a"] ds) M := by
  rintro ds M Q E0 ⟨a, t, rfl, hz, hm, q⟩
  unfold t_scaled
  walk_at "dl"
  rw [dLc_un]
  walk_at "dl"
  refine lcB_m (xs := a) (fun x => D.int x) (fun x => D.int (t * x)) True.intro (line (by omega)) (fun x hx R h => ?_) ?_
  · walk_at "dl"
    exact ⟨hm x hx, h⟩
  · walk_at "dl"
    unfold TM.sc at q
    simp only [rT, List.map_map] at q
    exact Fin.same q
theorem isT_int {M : Mp} {d : D} {n : String} (h : tyN M d = some n) : (isT n "int" && !isT n "bool") = isNum d := by
  cases d <;> simp only [tyN] at h <;> first | (cases h; rfl) | (split at h <;> first | (cases h; rfl) | (cases h; done)) | (cases h; done)
theorem rd_is_number : ∀ ds M Q E0, sp_is_number c ds M Q E0 → t_is_number c (bodyE K Q) (startD ["value"] ds) M := by
  rintro ds M Q E0 ⟨d, rfl, ht, q⟩
  obtain ⟨n, hn⟩ := Option.isSome_iff_exists.mp ht
  unfold t_is_number
  walk_at "dl"
  rw [← isT_int hn] at q
  rw [hn]
  walk_at "dl"
  cases e : isT n "int" with
  | false =>
    rw [e] at q
    simp only [Bool.false_and] at q
    simp
    exact Fin.same q
  | true =>
    rw [e] at q
    simp only [Bool.true_and] at q
    simp
    exact Fin.same q
theorem isT_tup {M : Mp} {d : D} {n : String} (h : tyN M d = some n) : (∃ xs, d = .tup xs ∧ isT n "tuple" = true) ∨ (isT n "tuple" = false ∧ ∀ w, isCnt d w = false) := by
  cases d <;> simp only [tyN] at h <;> first | (cases h; exact .inr ⟨rfl, fun _ => rfl⟩) | (cases h; exact .inl ⟨_, rfl, rfl⟩) | (split at h <;> first | (cases h; exact .inr ⟨rfl, fun _ => rfl⟩) | (cases h; done)) | (cases h; done)
theorem rd_is_counts : ∀ ds M Q E0, sp_is_counts c ds M Q E0 → t_is_counts c (bodyE K Q) (startD ["value", "width", "one"] ds) M := by
  rintro ds M Q E0 ⟨d, w, rfl, ht, hx, q⟩
  obtain ⟨n, hn⟩ := Option.isSome_iff_exists.mp ht
  unfold t_is_counts
  walk_at "dl"
  rw [hn]
  walk_at "dl"
  rcases isT_tup hn with ⟨xs, rfl, e⟩ | ⟨e, e2⟩
  · rw [if_pos e]
    obtain ⟨hz, hxx⟩ := hx xs rfl
    walk_at "dl"
    by_cases hw : (xs.length : Int) = w
    · have q2 : isCnt (.tup xs) w = xs.all isNum := by simp [isCnt, hw]
      rw [q2] at q
      rw [if_pos (by simp [hw]), dLc_un]
      walk_at "dl"
      rw [show xs = xs.map id from (List.map_id xs).symm]
      refine lcB_m (xs := xs) id (fun d => D.bl (isNum d)) True.intro (line (by omega)) (fun x hx R h => ?_) ?_
      · walk_at "dl"
        exact ⟨x, rfl, hxx x hx, h⟩
      · walk_at "dl"
        refine ⟨xs.map isNum, by rw [List.map_map]; rfl, ?_⟩
        rw [List.all_map]
        exact Fin.same q
    · have q2 : isCnt (.tup xs) w = false := by simp [isCnt, hw]
      rw [q2] at q
      rw [if_neg (by simp [hw])]
      exact Fin.same q
  · rw [if_neg (by rw [e]; simp)]
    rw [e2] at q
    exact Fin.same q
theorem ixL {d : D} {ds : List D} {i : Int} {M : Mp} {Q : DQ} (h : lstOf M d = some ds) : DL.rIxD d (.int i) M Q = ∃ x, atI ds i = some x ∧ Q x M := by
  cases d with
  | lst es => simp [lstOf] at h; subst h; rfl
  | lsx es => simp [lstOf] at h; subst h; rfl
  | ptr a => show (match lstOf M (.ptr a) with | some ds => ∃ d, atI ds i = some d ∧ Q d M | none => False) = _; rw [h]
  | _ => simp [lstOf] at h
theorem iterL {d : D} {ds : List D} {M : Mp} {env : DSt} {n : Nat} (h : lstOf M d = some ds) (he : env[n]? = some (some d)) : ∃ kp : Mp → Prop, (∀ R, R ds kp M → dIter (dVar n) env M R) ∧ ∀ M', lstOf M' d = some ds → kp M' := by
  cases d with
  | lst es => simp [lstOf] at h; subst h; exact ⟨fun _ => True, fun R r => by unfold dIter dVar; rw [he]; exact r, fun _ _ => trivial⟩
  | lsx es => simp [lstOf] at h; subst h; exact ⟨fun _ => True, fun R r => by unfold dIter dVar; rw [he]; exact r, fun _ _ => trivial⟩
  | ptr a =>
    simp only [lstOf] at h
    split at h
    · rename_i es g
      cases h
      refine ⟨fun M' => M' a = some (.lst ds), fun R r => ?_, fun M' h' => ?_⟩
      · unfold dIter dVar
        rw [he]
        show (match M a with | some (.lst ds) => R ds (fun M => M a = some (.lst ds)) M | _ => False)
        rw [g]
        exact r
      · simp only [lstOf] at h'
        split at h'
        · rename_i es' g'
          cases h'
          exact g'
        · cases h'
    · cases h
  | _ => simp [lstOf] at h
theorem at_row {r : Row} {k : Nat} (h : k < r.length) : atI (r.map D.int) (k : Nat) = some (.int (TM.fv r k)) := by
  have e : (r.map D.int)[k]? = some (.int (TM.fv r k)) := by
    rw [List.getElem?_map, List.getElem?_eq_getElem h]
    simp [TM.fv, List.getD, h]
  have e2 : ixN (r.map D.int).length ((k : Nat) : Int) = some k := by
    unfold ixN
    rw [List.length_map]
    simp [h]
  unfold atI
  rw [e2]
  exact e
theorem atI_head {α : Type} {x : α} {xs : List α} : atI (x :: xs) 0 = some x := by
  have e : ixN (x :: xs).length 0 = some 0 := by
    unfold ixN
    rw [List.length_cons, if_pos (by omega), if_pos (by omega)]
    rfl
  unfold atI
  rw [e]
  rfl
theorem abs_nat (i : Int) : (if i < 0 then -i else i) = ((i.natAbs : Nat) : Int) := by split <;> omega
theorem rd_least_row : ∀ ds M Q E0, sp_least_row c ds M Q E0 → t_least_row c (bodyE K Q) (startD ["rows", "at", "found", "row"] ds) M := by
  rintro ds M Q E0 ⟨d, rows, k, rfl, hd, hne, hk, q⟩
  unfold t_least_row
  walk_at "dl"
  rw [ixL hd]
  obtain ⟨r0, rs, rfl⟩ : ∃ r0 rs, rows = r0 :: rs := by cases rows with | nil => exact absurd rfl hne | cons a b => exact ⟨a, b, rfl⟩
  refine ⟨rT r0, by rw [List.map_cons]; exact atI_head, ?_⟩
  obtain ⟨kp, h1, h2⟩ := iterL (M := M) (env := [some d, some (D.int k), some (rT r0), none]) (n := 0) hd rfl
  refine for_pre (r0 :: rs) rT (fun pre env M' => M' = M ∧ ∃ f z, env = [some d, some (D.int k), some (rT f), z] ∧ f ∈ r0 :: rs ∧ ∀ r ∈ pre, (TM.fv f k).natAbs ≤ (TM.fv r k).natAbs) h1 ⟨rfl, r0, none, rfl, List.mem_cons_self, fun r hr => absurd hr List.not_mem_nil⟩ (fun s env M' h => h2 _ (h.1 ▸ hd)) ?_ ?_
  · rintro pre x post env M' hp ⟨rfl, f, z, rfl, hf, hpre⟩
    have hx : x ∈ r0 :: rs := by rw [hp]; simp
    walk_at "dl"
    refine ⟨_, at_row (hk x hx), ?_⟩
    walk_at "dl"
    refine ⟨_, at_row (hk f hf), ?_⟩
    walk_at "dl"
    rw [abs_nat, abs_nat]
    by_cases hlt : (TM.fv x k).natAbs < (TM.fv f k).natAbs
    · rw [if_pos (decide_eq_true (by omega))]
      refine ⟨x, _, rfl, hx, fun r hr => ?_⟩
      rcases List.mem_append.mp hr with hr | hr
      · have := hpre r hr
        omega
      · rw [List.mem_singleton.mp hr]
        exact Nat.le_refl _
    · rw [if_neg (by rw [decide_eq_true_iff]; omega)]
      refine ⟨f, _, rfl, hf, fun r hr => ?_⟩
      rcases List.mem_append.mp hr with hr | hr
      · exact hpre r hr
      · rw [List.mem_singleton.mp hr]
        omega
  · rintro env M' ⟨rfl, f, z, rfl, hf, hall⟩
    walk_at "dl"
    exact Fin.same (q f hf hall)
/-- the numbered values -/
def nums : Nat → Row → List (Nat × Int)
  | _, [] => []
  | n, x :: r => (n, x) :: nums (n + 1) r
theorem nums_enum : ∀ (n : Nat) (r : Row), enumD n (r.map D.int) = (nums n r).map fun p => D.tup [.int p.1, .int p.2]
  | _, [] => rfl
  | n, x :: r => by rw [List.map_cons, enumD, nums, List.map_cons, nums_enum]
theorem nums_len : ∀ (n : Nat) (r : Row), (nums n r).length = r.length
  | _, [] => rfl
  | n, x :: r => by rw [nums, List.length_cons, List.length_cons, nums_len]
theorem nums_lead : ∀ (n : Nat) (r : Row) (k : Nat), (∀ j, j < k → TM.fv r j = 0) → TM.fv r k ≠ 0 → ∃ tl, ((nums n r).filter fun p => p.2 != 0).map (fun p => D.int (p.1 : Nat)) = D.int ((n + k : Nat) : Int) :: tl
  | n, [], k, _, h => absurd (by simp [TM.fv]) h
  | n, x :: r, 0, _, h => by
    have hx : x ≠ 0 := by simpa [TM.fv] using h
    rw [nums, List.filter_cons, if_pos (by simp [hx])]
    exact ⟨_, rfl⟩
  | n, x :: r, k + 1, h0, h => by
    have hx : x = 0 := by simpa [TM.fv] using h0 0 (by omega)
    rw [nums, List.filter_cons, if_neg (by simp [hx])]
    obtain ⟨tl, e⟩ := nums_lead (n + 1) r k (fun j hj => by simpa [TM.fv] using h0 (j + 1) (by omega)) (by simpa [TM.fv] using h)
    exact ⟨tl, by rw [e, show n + 1 + k = n + (k + 1) by omega]⟩
theorem rd_lead_of : ∀ ds M Q E0, sp_lead_of c ds M Q E0 → t_lead_of c (bodyE K Q) (startD ["row", "at", "value"] ds) M := by
  rintro ds M Q E0 ⟨r, k, rfl, hz, hk, h0, h1, q⟩
  unfold t_lead_of
  walk_at "dl"
  rw [dLc_un]
  walk_at "dl"
  rw [nums_enum]
  refine lcB_fm (xs := nums 0 r) (fun p => D.tup [.int p.1, .int p.2]) (fun p => D.int (p.1 : Nat)) (fun p => p.2 != 0) True.intro (line (by rw [nums_len]; omega)) (fun x hx R S hR hS => ?_) ?_
  · walk_at "dl"
    cases e : (x.2 != 0) with
    | true =>
      exact (if_pos (show (!x.2 == 0) = true from e)).mpr (hR e)
    | false =>
      exact (if_neg (show ¬ (!x.2 == 0) = true from by rw [show (!x.2 == 0) = false from e]; simp)).mpr (hS e)
  · obtain ⟨tl, e⟩ := nums_lead 0 r k h0 h1
    rw [e, Nat.zero_add]
    walk_at "dl"
    exact ⟨_, atI_head, Fin.same q⟩
theorem lenL {d : D} {ds : List D} {M : Mp} {Q : DQ} (h : lstOf M d = some ds) : DL.rLen [d] M Q = Q (.int (ds.length : Nat)) M := by
  cases d with
  | lst es => simp [lstOf] at h; subst h; rfl
  | lsx es => simp [lstOf] at h; subst h; rfl
  | ptr a => simp only [DL.rLen, h]
  | _ => simp [lstOf] at h
theorem enumLit {d : D} {ds : List D} {M : Mp} {env : DSt} {n : Nat} (h : lstOf M d = some ds) (he : env[n]? = some (some d)) : ∃ kp : Mp → Prop, (∀ R, R (enumD 0 ds) kp M → dEnumL (dCons (dVar n) dNil) env M R) ∧ ∀ M', lstOf M' d = some ds → kp M' := by
  refine ⟨fun M' => lstOf M' d = some ds, fun R r => ?_, fun _ h => h⟩
  unfold dEnumL dCons dVar dNil
  rw [he]
  cases d with
  | lst es => exact ⟨ds, h, r⟩
  | lsx es => exact ⟨ds, h, r⟩
  | ptr a => exact ⟨ds, h, r⟩
  | _ => simp [lstOf] at h
theorem zip_enum : ∀ (rows : List Row) (n : Nat), enumD n (rows.map rT) = (rows.zipIdx n).map fun p => D.tup [.int (p.2 : Nat), rT p.1]
  | [], _ => rfl
  | r :: rows, n => by rw [List.map_cons, enumD, List.zipIdx_cons, List.map_cons, zip_enum rows (n + 1)]
theorem zip_split {rows : List Row} {pre post : List (Row × Nat)} {x : Row × Nat} (h : rows.zipIdx = pre ++ x :: post) : ∃ pre' post', rows = pre' ++ x.1 :: post' ∧ pre'.zipIdx = pre ∧ x.2 = pre'.length := by
  have hl : pre.length < rows.length := by
    have := congrArg List.length h
    rw [List.length_zipIdx, List.length_append, List.length_cons] at this
    omega
  have hx : x = (rows[pre.length], pre.length) := by
    have h1 : (rows.zipIdx)[pre.length]? = some x := by rw [h]; simp
    rw [List.getElem?_zipIdx, List.getElem?_eq_getElem hl] at h1
    simpa using h1.symm
  have hsp : rows = rows.take pre.length ++ rows[pre.length] :: rows.drop (pre.length + 1) := by
    rw [← List.drop_eq_getElem_cons hl, List.take_append_drop]
  refine ⟨rows.take pre.length, rows.drop (pre.length + 1), by rw [hx]; exact hsp, ?_, ?_⟩
  · have h2 : rows.zipIdx.take pre.length = pre := by rw [h]; simp
    refine Eq.trans ?_ h2
    apply List.ext_getElem?
    intro i
    rw [List.getElem?_zipIdx, List.getElem?_take, List.getElem?_take, List.getElem?_zipIdx]
    split <;> simp
  · rw [hx, List.length_take]
    simp
    omega
theorem rd_size_of : ∀ ds M Q E0, sp_size_of c ds M Q E0 → t_size_of c (bodyE K Q) (startD ["width", "rows", "found", "at", "row"] ds) M := by
  rintro ds M Q E0 ⟨d, w, rows, rfl, hd, hz, q1, q2⟩
  unfold t_size_of
  walk_at "dl"
  rw [lenL hd]
  walk_at "dl"
  rw [List.length_map]
  by_cases hw : rows.length < w
  · rw [if_pos (decide_eq_true (by omega))]
    exact Fin.same (q1 hw)
  · rw [if_neg (by rw [decide_eq_true_iff]; omega)]
    obtain ⟨q4, q3⟩ := q2 hw
    obtain ⟨kp, h1, h2⟩ := enumLit (M := M) (env := [some (D.int w), some d, some (D.int 1), none, none]) (n := 1) hd rfl
    rw [zip_enum] at h1
    refine for_pre rows.zipIdx (fun p => D.tup [.int (p.2 : Nat), rT p.1]) (fun pre env M' => M' = M ∧ ∃ a b, env = [some (D.int w), some d, some (D.int (pre.foldl (fun a p => a * TM.fv p.1 p.2) 1)), a, b]) h1 ⟨rfl, none, none, rfl⟩ (fun s env M' h => h2 _ (h.1 ▸ hd)) ?_ ?_
    · rintro pre x post env M' hp ⟨rfl, a, b, rfl⟩
      obtain ⟨pre', post', e1, e2, e3⟩ := zip_split hp
      obtain ⟨hl, hm⟩ := q4 _ _ _ e1
      walk_at "dl"
      rw [e3]
      refine ⟨_, at_row hl, ?_⟩
      walk_at "dl"
      rw [List.foldl_append]
      unfold dpr at hm
      rw [e2] at hm
      exact ⟨hm, some (.int (pre'.length : Nat)), some (rT x.1), by simp [e3]⟩
    · rintro env M' ⟨rfl, a, b, rfl⟩
      walk_at "dl"
      exact Fin.same q3
end
end K12
namespace K12
open PySem PySem.Spec PyProof.Rows L2 DL PRE LamN
local macro_rules | `(tactic| walk_at "dl") => `(tactic| simp only [exists_eq', exists_eq, List.take_nil, List.take_succ_cons, List.take_zero, decide_false, decide_true, dFld_ap, dSetF_ap, dAugF_ap, dMeth_ap, dMake_ap, dProp_ap, insOf_p, insOf_o, dNever_ap, bodyE_rt, bodyE_nx, dVar_ap, dC_ap, dOp_ap, dTB_ap, dTru_ap, dAnd_ap, dOr_ap, dNot_ap, dNotV_ap, dAndV_ap, dOrV_ap, dIf_ap, dIsN_ap, dNext_ap, dSeq_ap, dBreak_ap, dCont_ap, dDrop_ap, dRet_ap, dRetN_ap, dIfS_ap, dgName_ap, dgNil_ap, dgCons_ap, dgTup_ap, dgSub_ap, dAsg_ap, dPar_ap, dAug_ap, dNil_ap, dCons_ap, dTup_ap, dLst_ap, dLstM_ap, dCB_ap, dBM_ap, dBM0_ap, dCall_ap, dCallK_ap, dRev_s, dSl_ap, dPart_ap, dUn_ap, dChain_ap, dIsi_ap, dIsi2_ap, dIter_ap, dIterT_ap, dIterS_ap, dRng1_ap, dRng2_ap, rMulX_ii, rMulX_si, dFmt_ap, fmtD_s, fmtD_i, dJoined_ap, dJs_nil, dJs_cons, jStep_s, dCallK_ap, dNil_ap, rAdd_ii, rAdd_ss, rAdd_tt, rAdd_ll, rSub_ii, rInt2_ii, rNeg_i, rOrd_ii, rOrd_ss, rIadd_ii, rIadd_ss, rEqW_ii, rEqW_ss, rEqW_bb, rIn_ss, rIxD_l, rIxD_x, rIxD_t, rIxD_s, rIxD_p, lstOf_p, lstOf_l, lstOf_x, rSlD_s, rSlD_t, rSlD_l, rSlD_x, rLen_s, rLen_t, rLen_l, rLen_x, rLen_p, rAbs_i, rInt_i, rInt_b, rToListA_t, rToListA_l, rToListA_s, rToListM_t, rToListM_l, rToTup_t, rToTup_l, rToTup_p, rSum_ap, rAll_ap, rAny_ap, rStrN_i, rMax2_ii, rMin2_ii, rS0_ap, rS1_ap, tyD_s, tyD_p, tyD_l, rJoin_l, rJoin_p, rAppend_p, rPop_p, startD, wipeD, List.map_cons, List.map_nil, List.cons_append, List.nil_append, List.append_nil, List.length_cons, List.length_nil, List.getElem?_cons_zero, List.getElem?_cons_succ, List.set_cons_zero, List.set_cons_succ, List.replicate, Nat.reduceAdd, Nat.reduceSub, Nat.sub_zero, up_same, up_up, Bool.false_xor, Bool.true_xor, Bool.not_true, Bool.not_false, if_true, if_false, Bool.false_eq_true, and_true, true_and, ite_true, ite_false, reduceIte, reduceCtorEq, Option.some.injEq, exists_eq_left', exists_eq_left, dCallX_ap, dWhy_ap, dLam_ap, dRaise_ap, dEnumL_ap, dEnumT_ap, dEnumS_ap, dZip_ap, T_beq, T_app, rMulT_ii, rMulT_ti, rFdivZ_ii, rMulW_ii, dMakeX_ap, dMethX_ap, dCallKX_ap, dgTupL_ap, dFz_ap])
local macro_rules | `(tactic| walk_at "dlh") => `(tactic| simp only [exists_eq', exists_eq, List.take_nil, List.take_succ_cons, List.take_zero, decide_false, decide_true, dFld_ap, dSetF_ap, dAugF_ap, dMeth_ap, dMake_ap, dProp_ap, insOf_p, insOf_o, dNever_ap, bodyE_rt, bodyE_nx, dVar_ap, dC_ap, dOp_ap, dTB_ap, dTru_ap, dAnd_ap, dOr_ap, dNot_ap, dNotV_ap, dAndV_ap, dOrV_ap, dIf_ap, dIsN_ap, dNext_ap, dSeq_ap, dBreak_ap, dCont_ap, dDrop_ap, dRet_ap, dRetN_ap, dIfS_ap, dgName_ap, dgNil_ap, dgCons_ap, dgTup_ap, dgSub_ap, dAsg_ap, dPar_ap, dAug_ap, dNil_ap, dCons_ap, dTup_ap, dLst_ap, dLstM_ap, dCB_ap, dBM_ap, dBM0_ap, dCall_ap, dCallK_ap, dRev_s, dSl_ap, dPart_ap, dUn_ap, dChain_ap, dIsi_ap, dIsi2_ap, dIter_ap, dIterT_ap, dIterS_ap, dRng1_ap, dRng2_ap, rMulX_ii, rMulX_si, dFmt_ap, fmtD_s, fmtD_i, dJoined_ap, dJs_nil, dJs_cons, jStep_s, dCallK_ap, dNil_ap, rAdd_ii, rAdd_ss, rAdd_tt, rAdd_ll, rSub_ii, rInt2_ii, rNeg_i, rOrd_ii, rOrd_ss, rIadd_ii, rIadd_ss, rEqW_ii, rEqW_ss, rEqW_bb, rIn_ss, rIxD_l, rIxD_x, rIxD_t, rIxD_s, rIxD_p, lstOf_p, lstOf_l, lstOf_x, rSlD_s, rSlD_t, rSlD_l, rSlD_x, rLen_s, rLen_t, rLen_l, rLen_x, rLen_p, rAbs_i, rInt_i, rInt_b, rToListA_t, rToListA_l, rToListA_s, rToListM_t, rToListM_l, rToTup_t, rToTup_l, rToTup_p, rSum_ap, rAll_ap, rAny_ap, rStrN_i, rMax2_ii, rMin2_ii, rS0_ap, rS1_ap, tyD_s, tyD_p, tyD_l, rJoin_l, rJoin_p, rAppend_p, rPop_p, startD, wipeD, List.map_cons, List.map_nil, List.cons_append, List.nil_append, List.append_nil, List.length_cons, List.length_nil, List.getElem?_cons_zero, List.getElem?_cons_succ, List.set_cons_zero, List.set_cons_succ, List.replicate, Nat.reduceAdd, Nat.reduceSub, Nat.sub_zero, up_same, up_up, Bool.false_xor, Bool.true_xor, Bool.not_true, Bool.not_false, if_true, if_false, Bool.false_eq_true, and_true, true_and, ite_true, ite_false, reduceIte, reduceCtorEq, Option.some.injEq, exists_eq_left', exists_eq_left, dCallX_ap, dWhy_ap, dLam_ap, dRaise_ap, dEnumL_ap, dEnumT_ap, dEnumS_ap, dZip_ap, T_beq, T_app, rMulT_ii, rMulT_ti, rFdivZ_ii, rMulW_ii, dMakeX_ap, dMethX_ap, dCallKX_ap, dgTupL_ap, dFz_ap, *])
local macro_rules | `(tactic| walk_at "len") => `(tactic| (intro ds M Q E h; first | (obtain ⟨_, h1, _⟩ := h; subst h1; rfl) | (obtain ⟨_, _, h1, _⟩ := h; subst h1; rfl) | (obtain ⟨_, _, _, h1, _⟩ := h; subst h1; rfl) | (obtain ⟨_, _, _, _, h1, _⟩ := h; subst h1; rfl) | (obtain ⟨_, _, _, _, _, h1, _⟩ := h; subst h1; rfl) | (obtain ⟨_, _, _, _, _, _, h1, _⟩ := h; subst h1; rfl) | (obtain ⟨_, _, _, _, _, _, _, h1, _⟩ := h; subst h1; rfl) | (obtain ⟨_, _, _, _, _, _, _, _, h1, _⟩ := h; subst h1; rfl) | (obtain ⟨_, _, _, _, _, _, _, _, _, h1, _⟩ := h; subst h1; rfl)))
local macro_rules | `(tactic| walk_at "ln") => `(tactic| (simp only [List.length_cons, List.length_nil, List.length_map, List.length_append, List.length_take, List.length_drop, List.length_reverse, T_len]; omega))
section
variable {K : PySem.W.Frag} {c : Ks}
theorem lstOf_up {M : Mp} {p : Addr} {o : MO} {d : D} {ds : List D} (h : lstOf M d = some ds) (hp : M p = none) : lstOf (up M p o) d = some ds := by
  cases d with
  | ptr a =>
    simp only [lstOf] at h ⊢
    have ha : a ≠ p := fun e => by
      subst e
      rw [hp] at h
      cases h
    rw [up_ne ha]
    exact h
  | _ => exact h
theorem zero_row {w : Nat} : D.tup (List.replicate ((w : Nat) : Int).toNat [D.int 0]).flatten = rT (List.replicate w 0) := by
  have : ∀ n : Nat, (List.replicate n [D.int 0]).flatten = List.replicate n (D.int 0) := fun n => by
    induction n with
    | zero => rfl
    | succ n ih => rw [List.replicate_succ, List.flatten_cons, ih]; rfl
  rw [Int.toNat_natCast, this]
  simp [rT]
theorem pys_eq : ∀ (a b : Row), PyData.eqvAll (D.pys (a.map D.int)) (D.pys (b.map D.int)) = decide (a = b)
  | [], [] => rfl
  | [], _ :: _ => rfl
  | _ :: _, [] => rfl
  | x :: a, y :: b => by
    have ih := pys_eq a b
    rw [List.map_cons, List.map_cons, D.pys, D.pys]
    simp only [PyData.eqvAll, D.py, PyData.eqv, ih]
    by_cases h : x = y <;> by_cases h2 : a = b <;> simp [h, h2]
theorem eq_rows {a b : Row} {neg : Bool} {M : Mp} {Q : DQ} (ha : a.length ≤ 1000) (hb : b.length ≤ 1000) (q : Q (.bl (neg ^^ decide (a = b))) M) : rEqW neg (rT a) (rT b) M Q := by
  refine rEqW_tt (n := 2) (pl_tup pl_ints (by rw [List.length_map]; omega)) (pl_tup pl_ints (by rw [List.length_map]; omega)) (by decide) ?_
  rw [show D.eqv (rT a) (rT b) = decide (a = b) from by unfold D.eqv rT; rw [D.py, D.py, PyData.eqv]; exact pys_eq a b]
  exact q
theorem range_at {n x : Nat} {pre post : List Nat} (h : List.range n = pre ++ x :: post) : x = pre.length ∧ x < n := by
  have hl : pre.length < n := by
    have := congrArg List.length h
    simp at this
    omega
  have e : (List.range n)[pre.length]? = some x := by rw [h]; simp
  rw [List.getElem?_range hl] at e
  have := Option.some.inj e
  omega
theorem fm_if {b : Bool} {A B : Prop} (h1 : b = true → A) (h2 : b = false → B) : if b = true then A else B := by
  cases b with
  | true => exact h1 rfl
  | false => exact h2 rfl
theorem log_le {n a : Nat} (h : n ≤ 2 ^ a) : n.log2 ≤ a := by
  by_cases h0 : n = 0
  · subst h0
    rw [Nat.log2_zero]
    exact Nat.zero_le a
  · exact (Nat.pow_le_pow_iff_right (by decide)).mp (Nat.le_trans (Nat.log2_self_le h0) h)
theorem mulA_of {i j : Int} {a b : Nat} (hi : i.natAbs ≤ 2 ^ a) (hj : j.natAbs ≤ 2 ^ b) (h : a + b < 1000000) : CMulA i j := Or.inr (show i.natAbs.log2 + j.natAbs.log2 < 1000000 by
  have := log_le hi
  have := log_le hj
  omega)
theorem divZ_of {i j : Int} {a : Nat} (h0 : j ≠ 0) (hj : j.natAbs ≤ 2 ^ a) (h : a < 9000) : CDivZ i j := ⟨h0, by have := log_le hj; omega⟩
theorem mem_fv {r : Row} {y : Int} (h : y ∈ r) : ∃ j, TM.fv r j = y := by
  obtain ⟨j, hj, e⟩ := List.mem_iff_getElem.mp h
  exact ⟨j, by simp [TM.fv, List.getD, hj, e]⟩
theorem fdiv_num {i j : Int} {a : Nat} (h0 : j ≠ 0) (h : i.natAbs ≤ 2 ^ a) : (i.fdiv j).natAbs ≤ 2 ^ (a + 1) := by
  have h1 := TM.fdiv_abs (a := i) h0
  have h2 := Nat.div_le_self i.natAbs j.natAbs
  have h3 : 1 ≤ 2 ^ a := Nat.one_le_pow _ _ (by decide)
  have h4 : 2 ^ (a + 1) = 2 * 2 ^ a := by rw [Nat.pow_succ, Nat.mul_comm]
  omega
theorem gk_1518 {w k : Nat} (hk : k < w) (h3 : w ≤ 3) : TM.gk w k (TM.Bk k) ≤ 1518 := by
  have h := (TM.gk_le hk h3).1
  have : k = 0 ∨ k = 1 ∨ k = 2 := by omega
  rcases this with rfl | rfl | rfl <;> exact Nat.le_trans h (by decide)
theorem fb_top (k : Nat) : TM.Fb k ≤ 3294 := by
  unfold TM.Fb
  split <;> decide
structure NmSt (M M' : Mp) (p : Addr) (found : List Row) : Prop where
  n : M p = none
  s : Sub M M'
  e : M' p = some (.lst (found.map rT))
theorem sub_up2 {M M' : Mp} {p : Addr} {o : MO} (h : Sub M M') (e : M' p = some o) : Sub (up M p o) M' := fun a mo ha => by
  by_cases z : a = p
  · subst z
    rw [up_same] at ha
    rw [e]; exact ha
  · rw [up_ne z] at ha
    exact h a mo ha
theorem lcM_m {α : Type} {ti : DTI} {dg : DTG} {te : DTE} {vs : List Nat} {kp : Mp → Prop} {env : DSt} {M M1 : Mp} {Q : DQ} (xs : List α) (enc f : α → D) (hi : ∀ R, R (xs.map enc) kp M1 → ti env M R) (hk : kp M1) (hz : xs.length ≤ sizeLine)
    (h : ∀ x, x ∈ xs → ∀ R : DQ, R (f x) M1 → dg (enc x) (wipeD env vs) M1 fun env2 M2 => te env2 M2 R)
    (q : ∀ p, M1 p = none → Q (.ptr p) (up M1 p (.lst (xs.map f)))) : dLcM ti dg dYes te vs env M Q := by
  refine hi _ ⟨fun i acc M' => M' = M1 ∧ acc = (xs.take i).map f ∧ i ≤ xs.length, ⟨rfl, by simp, Nat.zero_le _⟩, fun _ _ _ z => by rw [z.1]; exact hk, fun i d acc M' hd ⟨e1, e2, e3⟩ => ?_, fun acc M' ⟨e1, e2, e3⟩ p hp => ?_⟩
  · subst e1 e2
    rw [List.getElem?_map] at hd
    cases q : xs[i]? with
    | none => rw [q] at hd; cases hd
    | some x =>
      rw [q] at hd
      cases hd
      have hi : i < xs.length := (List.getElem?_eq_some_iff.mp q).1
      have e : xs.take (i + 1) = xs.take i ++ [x] := by rw [List.take_add_one, q]; rfl
      refine h x (List.mem_of_getElem? q) _ ⟨?_, rfl, ?_, hi⟩
      · rw [List.length_map, List.length_take]
        omega
      · rw [e, List.map_append]; rfl
  · subst e1 e2
    rw [List.length_map, List.take_length]
    exact q p hp
theorem nm_row {w x : Nat} {found : List Row} {pv : Row} {p2 : Addr} {M3 : Mp} {Q : DQ} {a0 a1 a2 a4 a6 a7 a8 a9 a11 : Option D} (hM : M3 p2 = some (.lst (found.map rT))) (hfl : found.length ≤ 1000) (hl : ∀ r ∈ found, r.length = w) (hpl : pv.length = w) (hx : x < w) (hfe : TM.Ent (2 ^ 3294) found) (hpe : ∀ j, (TM.fv pv j).natAbs ≤ 2 ^ 1518) (hp0 : TM.fv pv x ≠ 0) (hw : w ≤ 3)
    (q : ∀ p, M3 p = none → Q (.ptr p) (up M3 p (.lst ((found.map (TM.red x pv)).map rT)))) :
    dLcM (dIter (dVar 3)) (dgName 11) dYes (dCall (sp_minus c) (dCons (dVar 11) (dCons (dCall (sp_scaled c) (dCons (dVar 10) (dCons (dOp rFdivZ (dOp DL.rIxD (dVar 11) (dVar 5)) (dOp DL.rIxD (dVar 10) (dVar 5))) dNil))) dNil))) [11] [a0, a1, a2, some (.ptr p2), a4, some (.int (x : Nat)), a6, a7, a8, a9, some (rT pv), a11] M3 Q := by
  refine lcM_m (M1 := M3) (kp := fun M' => M' p2 = some (.lst (found.map rT))) found rT (fun r => rT (TM.red x pv r)) (fun R h => ?_) hM (line (by omega)) (fun r hr R hR => ?_) fun p hp => ?_
  · unfold dIter dVar
    dsimp only [List.getElem?_cons_succ, List.getElem?_cons_zero]
    rw [hM]
    exact h
  · have hrw := hl r hr
    walk_at "dl"
    refine ⟨_, at_row (by omega), _, at_row (by omega), divZ_of hp0 (hpe x) (by decide), ?_⟩
    walk_at "dl"
    refine ⟨pv, _, rfl, by omega, fun y hy => ?_, r, _, rfl, by rw [TM.sc_len]; omega, by omega, hR⟩
    obtain ⟨j, e⟩ := mem_fv hy
    refine mulA_of (a := 3295) (b := 1518) (fdiv_num hp0 (hfe r hr x)) ?_ (by decide)
    rw [← e]
    exact hpe j
  · have := q p hp
    rw [List.map_map] at this
    exact this
theorem rd_normal : ∀ ds M Q E0, sp_normal c ds M Q E0 → t_normal c (bodyE K Q) (startD ["width", "rows", "zero", "found", "left", "at", "here", "least", "rests", "row", "pivot", "one"] ds) M := by
  rintro ds M Q E0 ⟨d, w, rows, rfl, hd, hw1, hw3, hz, hlen, hA, q⟩
  unfold t_normal
  walk_at "dl"
  refine ⟨line (by decide), by simp, by omega, by omega, by omega, by omega, fun p hp => ⟨line (by decide), ?_⟩⟩
  rw [zero_row]
  obtain ⟨kp, h1, h2⟩ := iterL (M := up M p (.lst [])) (env := [some (.int w), some d, some (rT (List.replicate w 0)), some (D.ptr p), none, none, none, none, none, none, none, none]) (n := 1) (lstOf_up hd hp) rfl
  refine lc_fm (xs := rows) rT rT (fun r => r != List.replicate w 0) h1 (h2 _ (lstOf_up hd hp)) (line (by omega)) (fun x hx R S hR hS => ?_) ?_
  · walk_at "dl"
    refine eq_rows (by rw [hlen x hx]; omega) (by rw [List.length_replicate]; omega) ?_
    by_cases hx0 : x = List.replicate w 0
    · have := hS (by simp [hx0])
      simp [hx0]
      exact this
    · have := hR (by simp [hx0])
      simp [hx0]
      exact this
  · have hinit : TM.Col w 0 [] (rows.filter fun r => r != List.replicate w 0) rows := TM.Col.init hlen hA hz
    refine for_pre (M1 := up M p (.lst [])) (kp := fun _ => True) (List.range w) (fun i => D.int (0 + (i : Nat))) (fun pre env M' => ∃ found left p' e5 e6 e7 e8 e9 e10 e11, TM.Col w pre.length found left rows ∧ NmSt M M' p' found ∧ env = [some (.int w), some d, some (rT (List.replicate w 0)), some (.ptr p'), some (.lst (left.map rT)), e5, e6, e7, e8, e9, e10, e11]) (fun R h => ?_) ?_ (fun _ _ _ _ => True.intro) ?_ ?_
    · walk_at "dl"
      exact ⟨by omega, h⟩
    · exact ⟨[], _, p, _, _, _, _, _, _, _, hinit, ⟨hp, Sub.refl.up hp, up_same⟩, rfl⟩
    · rintro pre x post env M' e ⟨found, left, p', e5, e6, e7, e8, e9, e10, e11, hcol, hst, rfl⟩
      have hk := range_at e
      obtain ⟨hxe, hxw⟩ := hk
      rw [← hxe] at hcol
      rw [List.length_append, List.length_singleton, ← hxe]
      have hll := hcol.lL
      have hcn := hcol.cnt
      rw [Int.zero_add]
      walk_at "dl"
      rw [dLc_un]
      walk_at "dl"
      refine lcB_fm (xs := left) rT rT (fun r => TM.fv r x != 0) True.intro (line (by omega)) (fun r hr R S hR hS => ?_) ?_
      · walk_at "dl"
        refine ⟨_, at_row (by rw [hll r hr]; exact hxw), ?_⟩
        walk_at "dl"
        exact fm_if hR hS
      · rw [dLc_un]
        walk_at "dl"
        refine lcB_fm (xs := left) rT rT (fun r => TM.fv r x == 0) True.intro (line (by omega)) (fun r hr R S hR hS => ?_) ?_
        · walk_at "dl"
          refine ⟨_, at_row (by rw [hll r hr]; exact hxw), ?_⟩
          walk_at "dl"
          exact fm_if hR hS
        have hti := hcol.start hxw
        refine ⟨fun m env M2 => M2 = M' ∧ ∃ left' here e7 e8 e9, m = TM.meas x here ∧ TM.TI w x (TM.Bk x) found left' here rows ∧ env = [some (.int w), some d, some (rT (List.replicate w 0)), some (.ptr p'), some (.lst (left'.map rT)), some (.int (x : Nat)), some (.lst (here.map rT)), e7, e8, e9, e10, e11], ⟨_, rfl, _, _, _, _, _, rfl, hti, rfl⟩, ?_⟩
        rintro m env M2 ⟨rfl, left', here, f7, f8, f9, rfl, ht, rfl⟩
        walk_at "dl"
        refine fm_if (fun hlt => ?_) fun hlt => ?_
        · have h2 : 2 ≤ here.length := by
            rw [decide_eq_true_iff, List.length_map] at hlt
            omega
          have hcn2 := ht.cnt
          refine ⟨_, here, x, rfl, rfl, fun e => by rw [e] at h2; simp at h2, fun r hr => by rw [ht.lH r hr]; exact hxw, fun least hl hm => ?_⟩
          have hgk : TM.gk w x (TM.Bk x) ≤ 1518 := gk_1518 hxw hw3
          have hbk : TM.Bk x ≤ 1518 := Nat.le_trans (TM.le_gk w x _) hgk
          have hlen2 : ∀ r ∈ here, r.length = least.length := fun r hr => by rw [ht.lH r hr, ht.lH least hl]
          dsimp only
          rw [dLc_un]
          walk_at "dl"
          refine lcB_fm (xs := here) rT (fun r => rT (TM.red x least r)) (fun r => r != least) True.intro (line (by omega)) (fun r hr R S hR hS => ?_) ?_
          · have hrw := ht.lH r hr
            have hlw := ht.lH least hl
            walk_at "dl"
            refine eq_rows (by omega) (by omega) (fm_if (fun hne => ?_) fun hne => ?_)
            · refine ⟨_, at_row (by omega), _, at_row (by omega), divZ_of (ht.nH least hl) (ht.mx least hl) (by omega), ?_⟩
              walk_at "dl"
              refine ⟨least, _, rfl, by omega, fun y hy => ?_, r, _, rfl, by rw [TM.sc_len]; omega, by omega, hR (by simpa using hne)⟩
              obtain ⟨j, e⟩ := mem_fv hy
              refine mulA_of (a := 1519) (b := 1518) (fdiv_num (ht.nH least hl) (Nat.le_trans (ht.mx r hr) (TM.p2 hbk))) ?_ (by decide)
              rw [← e]
              exact Nat.le_trans (ht.eH least hl j) (TM.p2 hgk)
            · exact hS (by simpa using hne)
          · generalize hrs : (here.filter fun r => r != least).map (TM.red x least) = rests
            have hrs2 : (here.filter fun r => r != least).map (fun r => rT (TM.red x least r)) = rests.map rT := by rw [← hrs, List.map_map]; rfl
            have hrl : ∀ r ∈ rests, r.length = w := fun r hr => by
              rw [← hrs] at hr
              obtain ⟨y, hy, rfl⟩ := List.mem_map.mp hr
              have hy2 := (List.mem_filter.mp hy).1
              rw [TM.red_len (hlen2 y hy2)]
              exact ht.lH y hy2
            have hrc : rests.length ≤ 1000 := by
              rw [← hrs, List.length_map]
              have := List.length_filter_le (fun r => r != least) here
              omega
            rw [hrs2]
            refine ⟨by decide, ?_⟩
            rw [dLc_un]
            walk_at "dl"
            refine lcB_fm (xs := rests) rT rT (fun r => TM.fv r x != 0) True.intro (line (by omega)) (fun r hr R S hR hS => ?_) ?_
            · walk_at "dl"
              refine ⟨_, at_row (by rw [hrl r hr]; exact hxw), ?_⟩
              walk_at "dl"
              exact fm_if hR hS
            · walk_at "dl"
              have hf1 := List.length_filter_le (fun r => TM.fv r x != 0) rests
              refine ⟨line (by rw [List.length_map]; omega), ?_⟩
              rw [dLc_un]
              walk_at "dl"
              refine lcB_fm (xs := rests) rT rT (fun r => TM.fv r x == 0 && r != List.replicate w 0) True.intro (line (by omega)) (fun r hr R S hR hS => ?_) ?_
              · have hrw := hrl r hr
                walk_at "dl"
                refine ⟨_, at_row (by omega), ?_⟩
                walk_at "dl"
                refine fm_if (fun h0 => ?_) fun h0 => ?_
                · refine eq_rows (by omega) (by rw [List.length_replicate]; omega) (fm_if (fun hne => ?_) fun hne => ?_)
                  · exact hR (by rw [h0]; simpa using hne)
                  · exact hS (by rw [h0]; simpa using hne)
                · exact hS (by rw [h0]; rfl)
              · have hf2 := List.length_filter_le (fun r => TM.fv r x == 0 && r != List.replicate w 0) rests
                walk_at "dl"
                obtain ⟨t1, t2⟩ := ht.turn hl hm h2 hxw
                rw [hrs] at t1
                have en : TM.nxt x least here = least :: rests.filter (fun r => TM.fv r x != 0) := by rw [← hrs]; rfl
                rw [← List.map_append, ← List.map_cons, ← en]
                refine ⟨line (by rw [List.length_map, List.length_map]; omega), _, t2, _, _, _, _, _, rfl, t1, rfl⟩
        · have h1 : here.length ≤ 1 := by
            rw [decide_eq_false_iff_not, List.length_map] at hlt
            omega
          have hgk : TM.gk w x (TM.Bk x) ≤ 1518 := gk_1518 hxw hw3
          have hbk : TM.Bk x ≤ 1518 := Nat.le_trans (TM.le_gk w x _) hgk
          have hfb : TM.Fb x ≤ 3294 := fb_top x
          refine for_pre (M1 := M2) (kp := fun _ => True) here rT (fun pre env M3 => ∃ p2 g9 g10 g11, env = [some (.int w), some d, some (rT (List.replicate w 0)), some (.ptr p2), some (.lst (left'.map rT)), some (.int (x : Nat)), some (.lst (here.map rT)), f7, f8, g9, g10, g11] ∧ NmSt M M3 p2 (pre.foldl (fun f r => f.map (TM.red x (TM.pivot x r)) ++ [TM.pivot x r]) found)) (fun R h => ?_) ⟨p', _, _, _, rfl, hst⟩ (fun _ _ _ _ => True.intro) ?_ ?_
          · walk_at "dl"
            exact h
          · rintro pre r post env M3 e2 ⟨p2, g9, g10, g11, rfl, hst2⟩
            have hpre : pre = [] := by
              have := congrArg List.length e2
              simp only [List.length_append, List.length_cons] at this
              exact List.eq_nil_of_length_eq_zero (by omega)
            subst hpre
            have hrm : r ∈ here := by rw [e2]; simp
            have hrw := ht.lH r hrm
            have hst3 : NmSt M M3 p2 found := hst2
            walk_at "dl"
            refine ⟨_, at_row (by omega), ?_⟩
            walk_at "dl"
            have hpn := ht.nH r hrm
            have hpe : ∀ j, (TM.fv (TM.pivot x r) j).natAbs ≤ 2 ^ 1518 := fun j => by rw [TM.fv_pivot_abs]; exact Nat.le_trans (ht.eH r hrm j) (TM.p2 hgk)
            have hpl : (TM.pivot x r).length = w := by rw [TM.pivot_len]; exact hrw
            have hp0 : TM.fv (TM.pivot x r) x ≠ 0 := by have := TM.pivot_pos hpn; omega
            have hfe := hcol.eF.mono (TM.p2 hfb)
            have hfl : found.length ≤ 1000 := by have := hcol.fl; omega
            refine fm_if (fun hpos => ?_) fun hneg => ?_
            · have hpv : TM.pivot x r = r := if_pos (of_decide_eq_true hpos)
              rw [hpv] at hpe hpl hp0
              refine nm_row hst3.e hfl hcol.lF hpl hxw hfe hpe hp0 hw3 fun p3 h3 => ?_
              refine ⟨⟨rfl, _, by rw [lstOf_p, up_same]⟩, ?_⟩
              rw [rAppend_p, up_same]
              have hn := sub_none hst3.s h3
              refine ⟨line (by rw [List.length_map, List.length_map]; omega), p3, _, _, _, rfl, hn, (hst3.s.up hn).up hn, ?_⟩
              rw [up_same, List.foldl_cons, List.foldl_nil, hpv, List.map_append]
              rfl
            · have hpv : TM.pivot x r = TM.sc (-1) r := if_neg (of_decide_eq_false hneg)
              rw [hpv] at hpe hpl hp0
              refine ⟨r, -1, rfl, by omega, fun y hy => mulA_of (a := 0) (b := 1518) (by decide) ?_ (by decide), ?_⟩
              · obtain ⟨j, e⟩ := mem_fv hy
                rw [← e]
                exact Nat.le_trans (ht.eH r hrm j) (TM.p2 hgk)
              · refine nm_row hst3.e hfl hcol.lF hpl hxw hfe hpe hp0 hw3 fun p3 h3 => ?_
                refine ⟨⟨rfl, _, by rw [lstOf_p, up_same]⟩, ?_⟩
                rw [rAppend_p, up_same]
                have hn := sub_none hst3.s h3
                refine ⟨line (by rw [List.length_map, List.length_map]; omega), p3, _, _, _, rfl, hn, (hst3.s.up hn).up hn, ?_⟩
                rw [up_same, List.foldl_cons, List.foldl_nil, hpv, List.map_append]
                rfl
          · rintro env M3 ⟨p2, g9, g10, g11, rfl, hst2⟩
            refine ⟨_, left', p2, _, _, _, _, _, _, _, ?_, hst2, rfl⟩
            rcases here with _ | ⟨r, _ | ⟨r2, here⟩⟩
            · exact hcol.none ht hxw hw3
            · exact hcol.one ht hxw hw3
            · simp at h1
    · rintro env M' ⟨found, left, p', e5, e6, e7, e8, e9, e10, e11, hcol, ⟨h1, h2, h3⟩, rfl⟩
      rw [List.length_range] at hcol
      walk_at "dl"
      refine Fin.frz h3 h1 h2 (q found ⟨hcol.lF, ?_, hcol.fin⟩ ⟨hcol.eF.mono (TM.p2 (fb_top w)), hcol.fl, fun e => hcol.dg e⟩)
      exact hcol.hf
end
end K12
namespace K12
open PySem PySem.Spec PyProof.Rows L2 DL PRE LamN
local macro_rules | `(tactic| walk_at "dl") => `(tactic| simp only [exists_eq', exists_eq, List.take_nil, List.take_succ_cons, List.take_zero, decide_false, decide_true, dFld_ap, dSetF_ap, dAugF_ap, dMeth_ap, dMake_ap, dProp_ap, insOf_p, insOf_o, dNever_ap, bodyE_rt, bodyE_nx, dVar_ap, dC_ap, dOp_ap, dTB_ap, dTru_ap, dAnd_ap, dOr_ap, dNot_ap, dNotV_ap, dAndV_ap, dOrV_ap, dIf_ap, dIsN_ap, dNext_ap, dSeq_ap, dBreak_ap, dCont_ap, dDrop_ap, dRet_ap, dRetN_ap, dIfS_ap, dgName_ap, dgNil_ap, dgCons_ap, dgTup_ap, dgSub_ap, dAsg_ap, dPar_ap, dAug_ap, dNil_ap, dCons_ap, dTup_ap, dLst_ap, dLstM_ap, dCB_ap, dBM_ap, dBM0_ap, dCall_ap, dCallK_ap, dRev_s, dSl_ap, dPart_ap, dUn_ap, dChain_ap, dIsi_ap, dIsi2_ap, dIter_ap, dIterT_ap, dIterS_ap, dRng1_ap, dRng2_ap, rMulX_ii, rMulX_si, dFmt_ap, fmtD_s, fmtD_i, dJoined_ap, dJs_nil, dJs_cons, jStep_s, dCallK_ap, dNil_ap, rAdd_ii, rAdd_ss, rAdd_tt, rAdd_ll, rSub_ii, rInt2_ii, rNeg_i, rOrd_ii, rOrd_ss, rIadd_ii, rIadd_ss, rEqW_ii, rEqW_ss, rEqW_bb, rIn_ss, rIxD_l, rIxD_x, rIxD_t, rIxD_s, rIxD_p, lstOf_p, lstOf_l, lstOf_x, rSlD_s, rSlD_t, rSlD_l, rSlD_x, rLen_s, rLen_t, rLen_l, rLen_x, rLen_p, rAbs_i, rInt_i, rInt_b, rToListA_t, rToListA_l, rToListA_s, rToListM_t, rToListM_l, rToTup_t, rToTup_l, rToTup_p, rSum_ap, rAll_ap, rAny_ap, rStrN_i, rMax2_ii, rMin2_ii, rS0_ap, rS1_ap, tyD_s, tyD_p, tyD_l, rJoin_l, rJoin_p, rAppend_p, rPop_p, startD, wipeD, List.map_cons, List.map_nil, List.cons_append, List.nil_append, List.append_nil, List.length_cons, List.length_nil, List.getElem?_cons_zero, List.getElem?_cons_succ, List.set_cons_zero, List.set_cons_succ, List.replicate, Nat.reduceAdd, Nat.reduceSub, Nat.sub_zero, up_same, up_up, Bool.false_xor, Bool.true_xor, Bool.not_true, Bool.not_false, if_true, if_false, Bool.false_eq_true, and_true, true_and, ite_true, ite_false, reduceIte, reduceCtorEq, Option.some.injEq, exists_eq_left', exists_eq_left, dCallX_ap, dWhy_ap, dLam_ap, dRaise_ap, dEnumL_ap, dEnumT_ap, dEnumS_ap, dZip_ap, T_beq, T_app, rMulT_ii, rMulT_ti, rFdivZ_ii, rMulW_ii, dMakeX_ap, dMethX_ap, dCallKX_ap, dgTupL_ap, dFz_ap])
local macro_rules | `(tactic| walk_at "dlh") => `(tactic| simp only [exists_eq', exists_eq, List.take_nil, List.take_succ_cons, List.take_zero, decide_false, decide_true, dFld_ap, dSetF_ap, dAugF_ap, dMeth_ap, dMake_ap, dProp_ap, insOf_p, insOf_o, dNever_ap, bodyE_rt, bodyE_nx, dVar_ap, dC_ap, dOp_ap, dTB_ap, dTru_ap, dAnd_ap, dOr_ap, dNot_ap, dNotV_ap, dAndV_ap, dOrV_ap, dIf_ap, dIsN_ap, dNext_ap, dSeq_ap, dBreak_ap, dCont_ap, dDrop_ap, dRet_ap, dRetN_ap, dIfS_ap, dgName_ap, dgNil_ap, dgCons_ap, dgTup_ap, dgSub_ap, dAsg_ap, dPar_ap, dAug_ap, dNil_ap, dCons_ap, dTup_ap, dLst_ap, dLstM_ap, dCB_ap, dBM_ap, dBM0_ap, dCall_ap, dCallK_ap, dRev_s, dSl_ap, dPart_ap, dUn_ap, dChain_ap, dIsi_ap, dIsi2_ap, dIter_ap, dIterT_ap, dIterS_ap, dRng1_ap, dRng2_ap, rMulX_ii, rMulX_si, dFmt_ap, fmtD_s, fmtD_i, dJoined_ap, dJs_nil, dJs_cons, jStep_s, dCallK_ap, dNil_ap, rAdd_ii, rAdd_ss, rAdd_tt, rAdd_ll, rSub_ii, rInt2_ii, rNeg_i, rOrd_ii, rOrd_ss, rIadd_ii, rIadd_ss, rEqW_ii, rEqW_ss, rEqW_bb, rIn_ss, rIxD_l, rIxD_x, rIxD_t, rIxD_s, rIxD_p, lstOf_p, lstOf_l, lstOf_x, rSlD_s, rSlD_t, rSlD_l, rSlD_x, rLen_s, rLen_t, rLen_l, rLen_x, rLen_p, rAbs_i, rInt_i, rInt_b, rToListA_t, rToListA_l, rToListA_s, rToListM_t, rToListM_l, rToTup_t, rToTup_l, rToTup_p, rSum_ap, rAll_ap, rAny_ap, rStrN_i, rMax2_ii, rMin2_ii, rS0_ap, rS1_ap, tyD_s, tyD_p, tyD_l, rJoin_l, rJoin_p, rAppend_p, rPop_p, startD, wipeD, List.map_cons, List.map_nil, List.cons_append, List.nil_append, List.append_nil, List.length_cons, List.length_nil, List.getElem?_cons_zero, List.getElem?_cons_succ, List.set_cons_zero, List.set_cons_succ, List.replicate, Nat.reduceAdd, Nat.reduceSub, Nat.sub_zero, up_same, up_up, Bool.false_xor, Bool.true_xor, Bool.not_true, Bool.not_false, if_true, if_false, Bool.false_eq_true, and_true, true_and, ite_true, ite_false, reduceIte, reduceCtorEq, Option.some.injEq, exists_eq_left', exists_eq_left, dCallX_ap, dWhy_ap, dLam_ap, dRaise_ap, dEnumL_ap, dEnumT_ap, dEnumS_ap, dZip_ap, T_beq, T_app, rMulT_ii, rMulT_ti, rFdivZ_ii, rMulW_ii, dMakeX_ap, dMethX_ap, dCallKX_ap, dgTupL_ap, dFz_ap, *])
local macro_rules | `(tactic| walk_at "len") => `(tactic| (intro ds M Q E h; first | (obtain ⟨_, h1, _⟩ := h; subst h1; rfl) | (obtain ⟨_, _, h1, _⟩ := h; subst h1; rfl) | (obtain ⟨_, _, _, h1, _⟩ := h; subst h1; rfl) | (obtain ⟨_, _, _, _, h1, _⟩ := h; subst h1; rfl) | (obtain ⟨_, _, _, _, _, h1, _⟩ := h; subst h1; rfl) | (obtain ⟨_, _, _, _, _, _, h1, _⟩ := h; subst h1; rfl) | (obtain ⟨_, _, _, _, _, _, _, h1, _⟩ := h; subst h1; rfl) | (obtain ⟨_, _, _, _, _, _, _, _, h1, _⟩ := h; subst h1; rfl) | (obtain ⟨_, _, _, _, _, _, _, _, _, h1, _⟩ := h; subst h1; rfl)))
local macro_rules | `(tactic| walk_at "ln") => `(tactic| (simp only [List.length_cons, List.length_nil, List.length_map, List.length_append, List.length_take, List.length_drop, List.length_reverse, T_len]; omega))
section
variable {K : PySem.W.Frag} {c : Ks}
theorem enumX {M : Mp} {d : D} {xs : List D} {env : DSt} {n : Nat} (h : xsOf M d xs) (he : env[n]? = some (some d)) : ∃ kp : Mp → Prop, (∀ R, R (enumD 0 xs) kp M → dEnumL (dCons (dVar n) dNil) env M R) ∧ kp M := by
  rcases h with h | rfl
  · obtain ⟨kp, a, b⟩ := enumLit h he
    exact ⟨kp, a, b M h⟩
  · refine ⟨fun _ => True, fun R r => ?_, trivial⟩
    unfold dEnumL dCons dVar dNil
    rw [he]
    exact r
theorem enum_zip : ∀ (xs : List D) (n : Nat), enumD n xs = (xs.zipIdx n).map fun p => D.tup [.int (p.2 : Nat), p.1]
  | [], _ => rfl
  | r :: rows, n => by rw [enumD, List.zipIdx_cons, List.map_cons, enum_zip rows (n + 1)]
theorem zipIdx_at {α : Type} {xs : List α} {pre post : List (α × Nat)} {p : α × Nat} (h : xs.zipIdx = pre ++ p :: post) : p.2 = pre.length ∧ xs[pre.length]? = some p.1 := by
  have h1 : (xs.zipIdx)[pre.length]? = some p := by rw [h]; simp
  rw [List.getElem?_zipIdx] at h1
  cases e : xs[pre.length]? with
  | none => rw [e] at h1; cases h1
  | some a =>
    rw [e] at h1
    simp at h1
    subst h1
    exact ⟨rfl, rfl⟩
theorem zipIdx_pre {α : Type} {xs : List α} {pre post : List (α × Nat)} {j : Nat} {y : α} (h : xs.zipIdx = pre ++ post) (hj : j < pre.length) (hy : xs[j]? = some y) : (y, j) ∈ pre := by
  have h1 : (xs.zipIdx)[j]? = some (y, j) := by rw [List.getElem?_zipIdx, hy]; simp
  rw [h, List.getElem?_append_left hj] at h1
  exact List.mem_of_getElem? h1
theorem xsOf_up {M : Mp} {x C : Addr} {fs fs2 : List (Str × D)} {d : D} {xs : List D} (hx : M x = some (.ins C fs)) (h : xsOf M d xs) : xsOf (up M x (.ins C fs2)) d xs := by
  rcases h with h | h
  · refine .inl ?_
    cases d with
    | ptr a =>
      simp only [lstOf] at h ⊢
      have ha : a ≠ x := fun e => by
        subst e
        rw [hx] at h
        cases h
      rw [up_ne ha]
      exact h
    | _ => exact h
  · exact .inr h
theorem toListA_x {M : Mp} {d : D} {xs : List D} {Q : DQ} (h : xsOf M d xs) : rToListA [d] M Q = Q (.lst xs) M := by
  rcases h with h | rfl
  · cases d with
    | lst es => simp [lstOf] at h; subst h; rfl
    | lsx es => simp [lstOf] at h; subst h; rfl
    | ptr a => simp only [rToListA, h]
    | _ => simp [lstOf] at h
  · rfl
theorem leadN_eq {r : Row} {k : Nat} (hk : k < r.length) (h0 : ∀ j, j < k → TM.fv r j = 0) (h1 : TM.fv r k ≠ 0) : leadN r = k := by
  unfold leadN
  rw [List.findIdx_eq hk]
  refine ⟨by simpa [TM.fv, List.getD, hk] using h1, fun j hj => ?_⟩
  have := h0 j hj
  have hj2 : j < r.length := by omega
  simpa [TM.fv, List.getD, hj2] using this
theorem zip_mem {α β : Type} {y : β} : ∀ {ls : List α} {xs : List β}, ls.length = xs.length → y ∈ xs → ∃ l, (l, y) ∈ ls.zip xs
  | [], [], _, h => by cases h
  | l :: ls, x :: xs, hl, h => by
    rcases List.mem_cons.mp h with z | z
    · exact ⟨l, by rw [z]; simp⟩
    · obtain ⟨m, hm⟩ := zip_mem (by simpa using hl) z
      exact ⟨m, by rw [List.zip_cons_cons]; exact List.mem_cons_of_mem _ hm⟩
  | [], _ :: _, h, _ => by simp at h
  | _ :: _, [], h, _ => by simp at h
theorem hf_row {k : Nat} : ∀ {F : List (Nat × TM.Vc)}, TM.HF k F → ∀ x ∈ F, (∀ j, j < x.1 → x.2 j = 0) ∧ 0 < x.2 x.1
  | [], _, x, h => by cases h
  | (p, r) :: F, ⟨h1, h2, h3, h4, h5⟩, x, h => by
    rcases List.mem_cons.mp h with z | z
    · subst z
      exact ⟨h2, h3⟩
    · exact hf_row h4 x z
/-- the rows of a normal form have leads -/
theorem IsNorm.lead {w : Nat} {rows f : List Row} (h : IsNorm w rows f) {r : Row} (hr : r ∈ f) : ∃ k, k < r.length ∧ (∀ j, j < k → TM.fv r j = 0) ∧ TM.fv r k ≠ 0 := by
  obtain ⟨ls, e, hf, hl⟩ := h.hf
  obtain ⟨l, hm⟩ := zip_mem (y := TM.fv r) (ls := ls) (xs := f.map TM.fv) (by simpa using e) (List.mem_map_of_mem hr)
  obtain ⟨a, b⟩ := hf_row hf _ hm
  have hl2 := hl l (TM.zip_fst_mem hm)
  exact ⟨l, by rw [h.len r hr]; exact hl2, a, by dsimp only at b; omega⟩
theorem snocI {α : Type} {P : List α → Prop} (h0 : P []) (h1 : ∀ l x, P l → P (l ++ [x])) : ∀ l, P l := fun l => by
  have : ∀ n (l : List α), l.length = n → P l := fun n => by
    induction n with
    | zero => intro l h; rw [List.eq_nil_of_length_eq_zero h]; exact h0
    | succ n ih =>
      intro l h
      rcases List.eq_nil_or_concat l with e | ⟨m, x, e⟩
      · rw [e] at h; cases h
      · rw [e, List.concat_eq_append]
        refine h1 _ _ (ih m ?_)
        rw [e, List.length_concat] at h
        omega
  exact this _ l rfl
theorem dpr_nil : dpr [] = 1 := rfl
/-- the product of the pivots -/
def sB : Nat → Nat
  | 0 => 0
  | n + 1 => sB n + TM.Bk n
theorem dpr_le {f : List Row} (dg : ∀ pre r post, f = pre ++ r :: post → (TM.fv r pre.length).natAbs ≤ 2 ^ TM.Bk pre.length) : ∀ pre post, f = pre ++ post → (dpr pre).natAbs ≤ 2 ^ sB pre.length := fun pre => by
  induction pre using snocI with
  | h0 => intro post _; decide
  | h1 pre r ih =>
    intro post e
    rw [List.append_assoc] at e
    have h1 := ih _ e
    have h2 := dg _ _ _ (by rw [e]; rfl)
    rw [dpr_snoc, Int.natAbs_mul, List.length_append, List.length_singleton, sB, Nat.pow_add]
    exact Nat.mul_le_mul h1 h2
theorem lk_same {n : Str} {d : D} : ∀ {fs : List (Str × D)}, List.lookup n (putD n d fs) = some d
  | [] => by simp [putD, List.lookup]
  | (g, x) :: r => by
    unfold putD
    by_cases h : g = n
    · rw [if_pos h, List.lookup_cons, show (n == g) = true by simp [h]]
    · rw [if_neg h, List.lookup_cons, show (n == g) = false by simpa using fun e => h e.symm]
      exact lk_same
theorem lk_ne {n m : Str} {d : D} (h : n ≠ m) : ∀ {fs : List (Str × D)}, List.lookup n (putD m d fs) = List.lookup n fs
  | [] => by
    rw [putD, List.lookup_cons, show (n == m) = false by simpa using h]
  | (g, x) :: r => by
    unfold putD
    by_cases h2 : g = m
    · subst h2
      rw [if_pos rfl, List.lookup_cons, List.lookup_cons, show (n == g) = false by simpa using h]
    · rw [if_neg h2, List.lookup_cons, List.lookup_cons, lk_ne h]
theorem putD_le {n : Str} {d : D} : ∀ {fs : List (Str × D)}, (putD n d fs).length ≤ fs.length + 1
  | [] => Nat.le_refl _
  | (g, x) :: r => by
    unfold putD
    split
    · simp
    · have := putD_le (n := n) (d := d) (fs := r)
      simp only [List.length_cons]
      omega
theorem putD_lt {n : Str} {d : D} {fs : List (Str × D)} {k : Nat} (h : fs.length < k) : (putD n d fs).length < k + 1 := Nat.lt_of_le_of_lt putD_le (Nat.succ_lt_succ h)
theorem rd_Table___init__ : ∀ E0 ds M Q, sp_Table___init__ c ds M Q E0 → t_Table___init__ c E0 (bodyE K Q) (startD ["self", "width", "rows", "at", "row"] ds) M := by
  rintro E0 ds M Q ⟨x, wd, rd, xs, rfl, hM, hw, hxs, hz, hseen, h⟩
  unfold t_Table___init__
  walk_at "dl"
  refine ⟨wd, rfl, hw, ?_⟩
  walk_at "dl"
  refine fm_if (fun hn => ?_) fun hn => ?_
  · rcases h with ⟨_, h⟩ | ⟨w, _, _, rfl, _⟩ | ⟨w, _, rfl, _⟩
    · exact h
    · cases hn
    · cases hn
  · obtain ⟨i, rfl⟩ : ∃ i, wd = .int i := by
      cases wd <;> first | (cases hn; done) | exact ⟨_, rfl⟩
    walk_at "dl"
    refine fm_if (fun h1 => ?_) fun h1 => ?_
    · refine fm_if (fun h3 => ?_) fun h3 => ?_
      · rcases h with ⟨_, h⟩ | ⟨w, _, _, e, a, b, _⟩ | ⟨w, _, e, a, b, _⟩
        · exact h
        · cases e
          simp at h3
          omega
        · cases e
          simp at h3
          omega
      · have hi : 1 ≤ i ∧ i ≤ 3 := by
          simp at h3 h1
          omega
        obtain ⟨kp, k1, k2⟩ := enumX (M := M) (env := [some (D.ptr x), some (D.int i), some rd, none, none]) (n := 2) hxs rfl
        rw [enum_zip] at k1
        refine for_pre xs.zipIdx (fun p => D.tup [.int (p.2 : Nat), p.1]) (fun pre env M' => M' = M ∧ (∀ p ∈ pre, isCnt p.1 i = true) ∧ ∃ a b, env = [some (D.ptr x), some (D.int i), some rd, a, b]) k1 ⟨rfl, fun p hp => absurd hp List.not_mem_nil, none, none, rfl⟩ (fun s env M' h => h.1 ▸ k2) ?_ ?_
        · rintro pre p post env M' e ⟨rfl, hpre, a, b, rfl⟩
          obtain ⟨e1, e2⟩ := zipIdx_at e
          have hs := hseen p.1 (List.mem_of_getElem? e2)
          walk_at "dl"
          refine ⟨p.1, i, rfl, hs.1, hs.2, ?_⟩
          walk_at "dl"
          refine fm_if (fun hb => ?_) fun hb => ?_
          · have hb2 : isCnt p.1 i = false := by simpa using hb
            rcases h with ⟨h, _⟩ | ⟨w, k, y, e, _, _, q1, q2, q3, h⟩ | ⟨w, rows, e, _, _, q1, q2, _⟩
            · simp [okW, hi] at h
            · cases e
              have hk : pre.length = k := by
                rcases Nat.lt_trichotomy pre.length k with z | z | z
                · rw [q3 _ _ z e2] at hb2; cases hb2
                · exact z
                · have := hpre _ (zipIdx_pre e z q1)
                  rw [q2] at this; cases this
              rw [e1, hk]
              exact h
            · cases e
              rw [q1, List.getElem?_map] at e2
              obtain ⟨r, hr, er⟩ := Option.map_eq_some_iff.mp e2
              have : isCnt p.1 (w : Nat) = true := by
                rw [← er]
                simp [isCnt, rT, q2 r (List.mem_of_getElem? hr), isNum]
              rw [this] at hb2; cases hb2
          · refine ⟨fun q hq => ?_, _, _, rfl⟩
            rcases List.mem_append.mp hq with z | z
            · exact hpre q z
            · rw [List.mem_singleton.mp z]; simpa using hb
        · rintro env M' ⟨rfl, hall, a, b, rfl⟩
          rcases h with ⟨h, _⟩ | ⟨w, k, y, e, _, _, q1, q2, q3, h⟩ | ⟨w, rows, e, w1, w3, q1, q2, q3, q4⟩
          · simp [okW, hi] at h
          · cases e
            have := hall _ (zipIdx_pre (j := k) (y := y) (post := []) (by rw [List.append_nil]) (by rw [List.length_zipIdx]; exact (List.getElem?_eq_some_iff.mp q1).1) q1)
            rw [q2] at this; cases this
          · cases e
            subst q1
            walk_at "dl"
            rw [hM]
            walk_at "dl"
            refine ⟨by decide, ?_⟩
            rw [toListA_x (xsOf_up hM hxs)]
            refine ⟨_, w, rows, rfl, rfl, by omega, by omega, by rw [List.length_map] at hz; exact hz, q2, q3, fun f hf hb => ?_⟩
            have hfl := hb.le
            have hw3 : w ≤ 3 := by omega
            walk_at "dl"
            refine ⟨putD_lt (by decide), ?_⟩
            rw [dLc_un]
            walk_at "dl"
            refine ⟨_, lk_same, ?_⟩
            walk_at "dl"
            refine lcB_m (xs := f) rT (fun r => D.int (leadN r : Nat)) True.intro (line (by omega)) (fun r hr R h => ?_) ?_
            · obtain ⟨k, l1, l2, l3⟩ := hf.lead hr
              walk_at "dl"
              rw [leadN_eq l1 l2 l3] at h
              exact ⟨r, k, rfl, by rw [hf.len r hr]; omega, l1, l2, l3, h⟩
            · walk_at "dl"
              refine ⟨putD_lt (putD_lt (by decide)), _, by rw [lk_ne (by decide +kernel)]; exact lk_same, ?_⟩
              walk_at "dl"
              refine ⟨line (by decide), putD_lt (putD_lt (putD_lt (by decide))), _, by rw [lk_ne (by decide +kernel), lk_ne (by decide +kernel)]; exact lk_same, ?_⟩
              refine ⟨_, w, f, rfl, rfl, by omega, fun hlt => ?_, fun hge => ⟨fun pre r post e => ?_, ?_⟩⟩
              · walk_at "dl"
                refine ⟨putD_lt (putD_lt (putD_lt (putD_lt (by decide)))), Fin.same ?_⟩
                have := q4 f hf hb
                unfold tabD szD at this
                rw [if_pos hlt] at this
                exact this
              · have hfw : f.length = w := by omega
                have hp := congrArg List.length e
                rw [List.length_append, List.length_cons] at hp
                have hr := hf.len r (by rw [e]; simp)
                have h1 := dpr_le (hb.dg hfw) pre (r :: post) e
                have h2 := hb.dg hfw pre r post e
                refine ⟨by omega, ?_⟩
                have h3 := log_le h1
                have h4 := log_le h2
                have : pre.length = 0 ∨ pre.length = 1 ∨ pre.length = 2 := by omega
                have h5 : sB pre.length ≤ 2000 ∧ TM.Bk pre.length ≤ 2000 := by
                  rcases this with z | z | z <;> rw [z] <;> decide
                show _ + _ < 1000000
                omega
              · walk_at "dl"
                refine ⟨putD_lt (putD_lt (putD_lt (putD_lt (by decide)))), Fin.same ?_⟩
                have := q4 f hf hb
                unfold tabD szD at this
                rw [if_neg hge] at this
                exact this
    · rcases h with ⟨_, h⟩ | ⟨w, _, _, e, a, b, _⟩ | ⟨w, _, e, a, b, _⟩
      · exact h
      · cases e
        simp at h1
        omega
      · cases e
        simp at h1
        omega
end
end K12
namespace K12
open PySem PySem.Spec PyProof.Rows L2 DL PRE LamN
local macro_rules | `(tactic| walk_at "dl") => `(tactic| simp only [exists_eq', exists_eq, List.take_nil, List.take_succ_cons, List.take_zero, decide_false, decide_true, dFld_ap, dSetF_ap, dAugF_ap, dMeth_ap, dMake_ap, dProp_ap, insOf_p, insOf_o, dNever_ap, bodyE_rt, bodyE_nx, dVar_ap, dC_ap, dOp_ap, dTB_ap, dTru_ap, dAnd_ap, dOr_ap, dNot_ap, dNotV_ap, dAndV_ap, dOrV_ap, dIf_ap, dIsN_ap, dNext_ap, dSeq_ap, dBreak_ap, dCont_ap, dDrop_ap, dRet_ap, dRetN_ap, dIfS_ap, dgName_ap, dgNil_ap, dgCons_ap, dgTup_ap, dgSub_ap, dAsg_ap, dPar_ap, dAug_ap, dNil_ap, dCons_ap, dTup_ap, dLst_ap, dLstM_ap, dCB_ap, dBM_ap, dBM0_ap, dCall_ap, dCallK_ap, dRev_s, dSl_ap, dPart_ap, dUn_ap, dChain_ap, dIsi_ap, dIsi2_ap, dIter_ap, dIterT_ap, dIterS_ap, dRng1_ap, dRng2_ap, rMulX_ii, rMulX_si, dFmt_ap, fmtD_s, fmtD_i, dJoined_ap, dJs_nil, dJs_cons, jStep_s, dCallK_ap, dNil_ap, rAdd_ii, rAdd_ss, rAdd_tt, rAdd_ll, rSub_ii, rInt2_ii, rNeg_i, rOrd_ii, rOrd_ss, rIadd_ii, rIadd_ss, rEqW_ii, rEqW_ss, rEqW_bb, rIn_ss, rIxD_l, rIxD_x, rIxD_t, rIxD_s, rIxD_p, lstOf_p, lstOf_l, lstOf_x, rSlD_s, rSlD_t, rSlD_l, rSlD_x, rLen_s, rLen_t, rLen_l, rLen_x, rLen_p, rAbs_i, rInt_i, rInt_b, rToListA_t, rToListA_l, rToListA_s, rToListM_t, rToListM_l, rToTup_t, rToTup_l, rToTup_p, rSum_ap, rAll_ap, rAny_ap, rStrN_i, rMax2_ii, rMin2_ii, rS0_ap, rS1_ap, tyD_s, tyD_p, tyD_l, rJoin_l, rJoin_p, rAppend_p, rPop_p, startD, wipeD, List.map_cons, List.map_nil, List.cons_append, List.nil_append, List.append_nil, List.length_cons, List.length_nil, List.getElem?_cons_zero, List.getElem?_cons_succ, List.set_cons_zero, List.set_cons_succ, List.replicate, Nat.reduceAdd, Nat.reduceSub, Nat.sub_zero, up_same, up_up, Bool.false_xor, Bool.true_xor, Bool.not_true, Bool.not_false, if_true, if_false, Bool.false_eq_true, and_true, true_and, ite_true, ite_false, reduceIte, reduceCtorEq, Option.some.injEq, exists_eq_left', exists_eq_left, dCallX_ap, dWhy_ap, dLam_ap, dRaise_ap, dEnumL_ap, dEnumT_ap, dEnumS_ap, dZip_ap, T_beq, T_app, rMulT_ii, rMulT_ti, rFdivZ_ii, rMulW_ii, dMakeX_ap, dMethX_ap, dCallKX_ap, dgTupL_ap, dFz_ap])
local macro_rules | `(tactic| walk_at "dlh") => `(tactic| simp only [exists_eq', exists_eq, List.take_nil, List.take_succ_cons, List.take_zero, decide_false, decide_true, dFld_ap, dSetF_ap, dAugF_ap, dMeth_ap, dMake_ap, dProp_ap, insOf_p, insOf_o, dNever_ap, bodyE_rt, bodyE_nx, dVar_ap, dC_ap, dOp_ap, dTB_ap, dTru_ap, dAnd_ap, dOr_ap, dNot_ap, dNotV_ap, dAndV_ap, dOrV_ap, dIf_ap, dIsN_ap, dNext_ap, dSeq_ap, dBreak_ap, dCont_ap, dDrop_ap, dRet_ap, dRetN_ap, dIfS_ap, dgName_ap, dgNil_ap, dgCons_ap, dgTup_ap, dgSub_ap, dAsg_ap, dPar_ap, dAug_ap, dNil_ap, dCons_ap, dTup_ap, dLst_ap, dLstM_ap, dCB_ap, dBM_ap, dBM0_ap, dCall_ap, dCallK_ap, dRev_s, dSl_ap, dPart_ap, dUn_ap, dChain_ap, dIsi_ap, dIsi2_ap, dIter_ap, dIterT_ap, dIterS_ap, dRng1_ap, dRng2_ap, rMulX_ii, rMulX_si, dFmt_ap, fmtD_s, fmtD_i, dJoined_ap, dJs_nil, dJs_cons, jStep_s, dCallK_ap, dNil_ap, rAdd_ii, rAdd_ss, rAdd_tt, rAdd_ll, rSub_ii, rInt2_ii, rNeg_i, rOrd_ii, rOrd_ss, rIadd_ii, rIadd_ss, rEqW_ii, rEqW_ss, rEqW_bb, rIn_ss, rIxD_l, rIxD_x, rIxD_t, rIxD_s, rIxD_p, lstOf_p, lstOf_l, lstOf_x, rSlD_s, rSlD_t, rSlD_l, rSlD_x, rLen_s, rLen_t, rLen_l, rLen_x, rLen_p, rAbs_i, rInt_i, rInt_b, rToListA_t, rToListA_l, rToListA_s, rToListM_t, rToListM_l, rToTup_t, rToTup_l, rToTup_p, rSum_ap, rAll_ap, rAny_ap, rStrN_i, rMax2_ii, rMin2_ii, rS0_ap, rS1_ap, tyD_s, tyD_p, tyD_l, rJoin_l, rJoin_p, rAppend_p, rPop_p, startD, wipeD, List.map_cons, List.map_nil, List.cons_append, List.nil_append, List.append_nil, List.length_cons, List.length_nil, List.getElem?_cons_zero, List.getElem?_cons_succ, List.set_cons_zero, List.set_cons_succ, List.replicate, Nat.reduceAdd, Nat.reduceSub, Nat.sub_zero, up_same, up_up, Bool.false_xor, Bool.true_xor, Bool.not_true, Bool.not_false, if_true, if_false, Bool.false_eq_true, and_true, true_and, ite_true, ite_false, reduceIte, reduceCtorEq, Option.some.injEq, exists_eq_left', exists_eq_left, dCallX_ap, dWhy_ap, dLam_ap, dRaise_ap, dEnumL_ap, dEnumT_ap, dEnumS_ap, dZip_ap, T_beq, T_app, rMulT_ii, rMulT_ti, rFdivZ_ii, rMulW_ii, dMakeX_ap, dMethX_ap, dCallKX_ap, dgTupL_ap, dFz_ap, *])
local macro_rules | `(tactic| walk_at "len") => `(tactic| (intro ds M Q E h; first | (obtain ⟨_, h1, _⟩ := h; subst h1; rfl) | (obtain ⟨_, _, h1, _⟩ := h; subst h1; rfl) | (obtain ⟨_, _, _, h1, _⟩ := h; subst h1; rfl) | (obtain ⟨_, _, _, _, h1, _⟩ := h; subst h1; rfl) | (obtain ⟨_, _, _, _, _, h1, _⟩ := h; subst h1; rfl) | (obtain ⟨_, _, _, _, _, _, h1, _⟩ := h; subst h1; rfl) | (obtain ⟨_, _, _, _, _, _, _, h1, _⟩ := h; subst h1; rfl) | (obtain ⟨_, _, _, _, _, _, _, _, h1, _⟩ := h; subst h1; rfl) | (obtain ⟨_, _, _, _, _, _, _, _, _, h1, _⟩ := h; subst h1; rfl)))
local macro_rules | `(tactic| walk_at "ln") => `(tactic| (simp only [List.length_cons, List.length_nil, List.length_map, List.length_append, List.length_take, List.length_drop, List.length_reverse, T_len]; omega))
section
variable {K : PySem.W.Frag} {c : Ks}
theorem loC_lt {x : Nat} (h : x < 128) : loC x < 128 := by
  have : ∀ c < 128, loC c < 128 := by decide +kernel
  exact this x h
theorem rd_is_word : ∀ ds M Q E0, sp_is_word c ds M Q E0 → t_is_word c (bodyE K Q) (startD ["word", "letters", "character"] ds) M := by
  rintro ds M Q E0 ⟨w, l, rfl, hw, hz, q⟩
  unfold t_is_word
  walk_at "dl"
  rw [dLc_un]
  walk_at "dl"
  rw [sgs_T]
  refine lcB_m (xs := w) (fun c => D.str ⟨#[c]⟩) (fun c => D.bl (decide (loC c ∈ l) && isLo (loC c))) True.intro (line (by omega)) (fun x hx R h => ?_) ?_
  · walk_at "dl"
    rw [lo1 (hw x hx)]
    rw [lower_in, strIn_sign, T_cps]
    refine ⟨len1 x, ?_⟩
    cases e : decide (loC x ∈ l) with
    | false => rw [e] at h; simp; exact h
    | true => rw [e] at h; simp; exact ⟨len1 x, by simpa using h⟩
  · walk_at "dl"
    refine ⟨w.map fun c => decide (loC c ∈ l) && isLo (loC c), by rw [List.map_map]; rfl, ?_⟩
    rw [List.all_map]
    exact Fin.same q
theorem cnt_count (x : Nat) (l : List Nat) : (Txt.count (T l) ⟨#[x]⟩ : Int) = (l.count x : Int) := by
  rw [PyProof.Rows.count_cnt, T_cps]
  induction l with
  | nil => rfl
  | cons a l ih =>
    rw [PyProof.Rows.cnt_cons, ih, List.count_cons]
    by_cases h : a = x
    · simp [h]; omega
    · simp [h]
theorem rd_counts_of : ∀ ds M Q E0, sp_counts_of c ds M Q E0 → t_counts_of c (bodyE K Q) (startD ["word", "letters", "letter"] ds) M := by
  rintro ds M Q E0 ⟨w, l, rfl, hl, hz, hz2, q⟩
  unfold t_counts_of
  walk_at "dl"
  rw [dLc_un]
  walk_at "dl"
  rw [sgs_T]
  refine lcB_m (xs := l) (fun c => D.str ⟨#[c]⟩) (fun c => D.int ((w.count c : Int) - (w.count (swC c) : Int))) True.intro (line (by omega)) (fun x hx R h => ?_) ?_
  · walk_at "dl"
    refine ⟨x, rfl, hl x hx, ?_⟩
    walk_at "dl"
    rw [cnt_count, cnt_count]
    exact h
  · walk_at "dl"
    rw [cntW, List.map_map] at q
    exact Fin.same q
theorem fldI {C : Addr} {n : Str} {x : D} {fs : List (Str × D)} {M : Mp} {env : DSt} {i : Nat} {d : D} {Q : DQ} (he : env[i]? = some (some x)) (h : insOf M x = some (C, fs)) (hl : fs.lookup n = some d) (q : Q d M) : dFld C n (dVar i) env M Q := by
  unfold dFld dVar
  rw [he]
  dsimp only
  rw [h]
  exact ⟨rfl, d, hl, q⟩
theorem tyN_ins {M : Mp} {e : D} (h : (tyN M e).isSome = true) : insOf M e = none := by
  cases e with
  | ptr a =>
    unfold insOf
    simp only [tyN] at h
    split at h
    · rename_i e1
      dsimp only
      rw [e1]
    · cases h
  | obj => cases h
  | _ => rfl
theorem ilen {i : Int} (h : i.natAbs.log2 < 1920) : (Str.ofString (toString i)).length ≤ 1921 := by
  rw [PySem.ofString_length]
  exact int_text_length_le (by decide) h
theorem lst_nil : ∀ {xs : List D}, D.eqv (.lst xs) (.lst []) = xs.isEmpty
  | [] => rfl
  | _ :: _ => rfl
theorem ifT {b : Bool} {A B : Prop} (h : b = true) (a : A) : if b = true then A else B := by rw [if_pos h]; exact a
theorem ifF {b : Bool} {A B : Prop} (h : b = false) (a : B) : if b = true then A else B := by rw [if_neg (by rw [h]; decide)]; exact a
theorem cut_to (L : List Nat) {p : Nat} (h : p ≤ L.length) : cutS (T L) none (some (p : Int)) = T (L.take p) := by
  unfold cutS
  rw [HT.sIx_nat, HT.sIx_none, T_cps, T_len, Nat.min_eq_left h, List.drop_zero, Nat.sub_zero]
  rfl
theorem enumD_map {α : Type} (f : α → D) : ∀ (k : Nat) (ws : List α), enumD k (ws.map f) = (ws.zipIdx k).map fun p => D.tup [.int (p.2 : Nat), f p.1]
  | _, [] => rfl
  | k, w :: ws => by rw [List.map_cons, enumD, List.zipIdx_cons, List.map_cons, enumD_map f (k + 1) ws]
theorem drop_at {α : Type} {l : List α} {n : Nat} {x : α} (h : l[n]? = some x) : l.drop n = x :: l.drop (n + 1) := by
  obtain ⟨hn, e⟩ := List.getElem?_eq_some_iff.mp h
  rw [List.drop_eq_getElem_cons hn, e]
theorem rd_check_letters : ∀ E0 ds M Q, sp_check_letters c ds M Q E0 → t_check_letters c E0 (bodyE K Q) (startD ["letters", "at", "letter"] ds) M := by
  rintro E0 ds M Q ⟨l, rfl, hz, q0, q1⟩
  unfold t_check_letters
  walk_at "dl"
  rw [dFor_un]
  walk_at "dl"
  rw [sgs_T, enumD_map]
  refine frB_pre (xs := l.zipIdx) (fun p => D.tup [.int (p.2 : Nat), .str ⟨#[p.1]⟩]) (fun pre env M' => M' = M ∧ ldF l 0 l = ldF l pre.length (l.drop pre.length) ∧ ∃ a b, env = [some (.str (T l)), a, b]) ⟨rfl, rfl, _, _, rfl⟩ (fun _ _ _ _ => True.intro) ?_ ?_
  · rintro pre p post env M' e ⟨rfl, hi, a, b, rfl⟩ R hR
    obtain ⟨e1, e2⟩ := zipIdx_at e
    have hpl : pre.length < l.length := (List.getElem?_eq_some_iff.mp e2).1
    rw [drop_at e2, ldF] at hi
    walk_at "dl"
    rw [lower_in]
    have hbad : (isLo p.1 = false ∨ p.1 ∈ l.take pre.length ∨ 3 ≤ pre.length) → E0 (Value.ref c.InvalidLetters) (gd_InvalidLetters [D.int (p.2 : Nat)]) M' := fun h => by
      rw [if_pos h] at hi
      have hld : ld l = some pre.length := by unfold ld; rw [hi]
      rw [e1]
      exact q1 _ hld
    refine fm_if (fun h => hbad (.inl (by simpa using h))) fun h1 => ⟨line (by rw [T_len]; omega), ?_⟩
    rw [strIn_sign, e1, cut_to l (by omega), T_cps, ← e1]
    refine fm_if (fun h => hbad (.inr (.inl (of_decide_eq_true (by rw [← e1]; exact h))))) fun h2 => fm_if (fun h => hbad (.inr (.inr (by have := of_decide_eq_true h; omega)))) fun h3 => ?_
    rw [e1] at h2
    have h3 := of_decide_eq_false h3
    rw [if_neg (by rintro (z | z | z); · rw [z] at h1; cases h1
                   · exact of_decide_eq_false h2 z
                   · omega)] at hi
    refine hR _ _ ⟨rfl, ?_, _, _, rfl⟩
    rw [List.length_append, List.length_singleton]
    exact hi
  · rintro env M' ⟨rfl, hi, a, b, rfl⟩
    rw [List.length_zipIdx, List.drop_length, ldF] at hi
    walk_at "dl"
    rw [strE, T_beq]
    refine fm_if (fun h => ?_) fun h => ?_
    · have hl : l = [] := of_decide_eq_true h
      exact q1 0 (by unfold ld; rw [hi, if_pos hl])
    · have hl : ¬ l = [] := of_decide_eq_false h
      exact Fin.same (q0 (by unfold ld; rw [hi, if_neg hl]))
theorem rd_is_rule : ∀ ds M Q E0, sp_is_rule c ds M Q E0 → t_is_rule c (bodyE K Q) (startD ["rule", "letters", "side"] ds) M := by
  rintro ds M Q E0 ⟨r, l, rfl, hr, q⟩
  unfold t_is_rule
  walk_at "dl"
  rw [List.length_map]
  have hrz := hr.1
  by_cases h2 : r.length = 2
  · rw [show ((r.length : Int) == 2) = true by rw [h2]; rfl]
    refine ifT rfl ?_
    rw [dLc_un]
    walk_at "dl"
    refine lcB_m (xs := r) (fun w => D.str (T w)) (fun w => D.bl (decide (w.length ≤ 16) && isW w l)) True.intro (line (by omega)) (fun w hw R h => ?_) ?_
    · obtain ⟨ha, hz⟩ := hr.2 w hw
      walk_at "dl"
      rw [T_len]
      refine ⟨line (by omega), ?_⟩
      refine fm_if (fun h3 => ?_) fun h3 => ?_
      · have h4 : w.length ≤ 16 := by have := of_decide_eq_true h3; omega
        rw [decide_eq_true h4, Bool.true_and] at h
        exact ⟨w, l, rfl, ha, hz, h⟩
      · have h4 : ¬ w.length ≤ 16 := by have := of_decide_eq_false h3; omega
        rw [decide_eq_false h4, Bool.false_and] at h
        exact h
    · walk_at "dl"
      refine ⟨r.map fun w => decide (w.length ≤ 16) && isW w l, by rw [List.map_map]; rfl, ?_⟩
      rw [List.all_map]
      unfold okR at q
      rw [decide_eq_true h2, Bool.true_and] at q
      exact Fin.same q
  · unfold okR at q
    rw [decide_eq_false h2, Bool.false_and] at q
    rw [show ((r.length : Int) == 2) = false by simpa using (by omega)]
    exact ifF rfl (Fin.same q)
theorem ld_none {l : List Nat} (h : ld l = none) : (∀ x ∈ l, isLo x = true) ∧ 1 ≤ l.length ∧ l.length ≤ 3 := by
  have key : ∀ (m : List Nat) (k : Nat), ldF l k m = none → (∀ x ∈ m, isLo x = true) ∧ (m ≠ [] → k + m.length ≤ 3) := fun m => by
    induction m with
    | nil => exact fun k _ => ⟨fun x hx => absurd hx List.not_mem_nil, fun e => absurd rfl e⟩
    | cons x r ih =>
      intro k hk
      rw [ldF] at hk
      split at hk
      · cases hk
      · rename_i hn
        obtain ⟨i1, i2⟩ := ih (k + 1) hk
        refine ⟨fun y hy => ?_, fun _ => ?_⟩
        · rcases List.mem_cons.mp hy with e | e
          · rw [e]
            cases hx : isLo x with
            | true => rfl
            | false => exact absurd (.inl hx) hn
          · exact i1 y e
        · rcases r with _ | ⟨y, r⟩
          · have : ¬ 3 ≤ k := fun z => hn (.inr (.inr z))
            simp only [List.length_cons, List.length_nil]
            omega
          · have := i2 (by simp)
            simp only [List.length_cons] at this ⊢
            omega
  unfold ld at h
  split at h
  · cases h
  · rename_i h0
    split at h
    · cases h
    · rename_i hl
      obtain ⟨a, b⟩ := key l 0 h0
      have := b hl
      exact ⟨a, List.length_pos_iff.mpr hl, by omega⟩
theorem isLo_asc {l : List Nat} (h : ∀ x ∈ l, isLo x = true) : Asc l := fun x hx => by have := isLo_lt (h x hx); omega
theorem fb_none {l : List Nat} : ∀ {rs : List Rl} {k : Nat}, fbF l k rs = none → (∀ r ∈ rs, okR r l = true) ∧ (rs ≠ [] → k + rs.length ≤ 6)
  | [], k, _ => ⟨fun x hx => absurd hx List.not_mem_nil, fun e => absurd rfl e⟩
  | r :: rs, k, h => by
    rw [fbF] at h
    split at h
    · cases h
    · rename_i hn
      obtain ⟨i1, i2⟩ := fb_none h
      refine ⟨fun y hy => ?_, fun _ => ?_⟩
      · rcases List.mem_cons.mp hy with e | e
        · rw [e]
          cases hx : okR r l with
          | true => rfl
          | false => exact absurd (.inr hx) hn
        · exact i1 y e
      · rcases rs with _ | ⟨y, rs⟩
        · have : ¬ 6 ≤ k := fun z => hn (.inl z)
          simp only [List.length_cons, List.length_nil]
          omega
        · have := i2 (by simp)
          simp only [List.length_cons] at this ⊢
          omega
def gap (r : Rl) (l : List Nat) : Row := TM.mi (cntW (r.getD 0 []) l) (cntW (r.getD 1 []) l)
theorem okR_two {r : Rl} {l : List Nat} (h : okR r l = true) : ∃ a b, r = [a, b] ∧ a.length ≤ 16 ∧ b.length ≤ 16 := by
  unfold okR at h
  rw [Bool.and_eq_true] at h
  have h1 : r.length = 2 := of_decide_eq_true h.1
  obtain ⟨a, b, rfl⟩ : ∃ a b, r = [a, b] := by
    match r, h1 with
    | [a, b], _ => exact ⟨a, b, rfl⟩
  have h2 := List.all_eq_true.mp h.2
  have ha := (Bool.and_eq_true_iff.mp (h2 a (by simp))).1
  have hb := (Bool.and_eq_true_iff.mp (h2 b (by simp))).1
  exact ⟨a, b, rfl, of_decide_eq_true ha, of_decide_eq_true hb⟩
theorem cntW_len {w l : List Nat} : (cntW w l).length = l.length := List.length_map _
theorem cntW_num {w l : List Nat} (h : w.length ≤ 16) : ∀ j, (TM.fv (cntW w l) j).natAbs ≤ 16 := fun j => by
  by_cases hj : j < (cntW w l).length
  · have e : TM.fv (cntW w l) j = (cntW w l)[j] := by simp [TM.fv, List.getD, hj]
    have hj2 : j < l.length := by rw [cntW_len] at hj; exact hj
    have e2 : (cntW w l)[j] = (w.count l[j] : Int) - (w.count (swC l[j]) : Int) := by simp [cntW]
    rw [e, e2]
    have h1 := List.count_le_length (a := l[j]) (l := w)
    have h2 := List.count_le_length (a := swC l[j]) (l := w)
    omega
  · rw [TM.fv_out (by omega)]; exact Nat.zero_le _
theorem gap_ok {r : Rl} {l : List Nat} (h : okR r l = true) : (gap r l).length = l.length ∧ ∀ j, (TM.fv (gap r l) j).natAbs ≤ 2 ^ 41 := by
  obtain ⟨a, b, rfl, ha, hb⟩ := okR_two h
  have hl : (cntW a l).length = (cntW b l).length := by rw [cntW_len, cntW_len]
  refine ⟨by show (TM.mi (cntW a l) (cntW b l)).length = _; rw [TM.mi_len hl]; exact cntW_len, fun j => ?_⟩
  show (TM.fv (TM.mi (cntW a l) (cntW b l)) j).natAbs ≤ _
  rw [TM.fv_mi hl]
  have h1 := cntW_num (l := l) ha j
  have h2 := cntW_num (l := l) hb j
  exact Nat.le_trans (show _ ≤ 32 by omega) (by decide)
/-- a table is made of good rows -/
theorem mk_table {M : Mp} {x : Addr} {rd : D} {w : Nat} {rows : List Row} {Q : DQ} {E0 : DX} (hM : M x = none) (hx : xsOf M rd (rows.map rT)) (h1 : 1 ≤ w) (h3 : w ≤ 3) (hz : rows.length ≤ 1000) (hl : ∀ r ∈ rows, r.length = w) (he : TM.Ent (2 ^ 41) rows)
    (q : ∀ f, IsNorm w rows f → NmB w f → Q .non (up M x (.ins c.Table (tabD w f)))) : sp_Table___init__ c [.ptr x, .int (w : Nat), rd] (up M x (.ins c.Table [])) Q E0 := by
  have hx2 : xsOf (up M x (.ins c.Table [])) rd (rows.map rT) := by
    rcases hx with h | h
    · exact .inl (lstOf_up h hM)
    · exact .inr h
  refine ⟨x, .int (w : Nat), rd, _, rfl, up_same, rfl, hx2, by rw [List.length_map]; exact hz, fun y hy => ?_, .inr (.inr ⟨w, rows, rfl, h1, h3, rfl, hl, he, fun f hf hb => by rw [up_up]; exact q f hf hb⟩)⟩
  obtain ⟨r, hr, rfl⟩ := List.mem_map.mp hy
  refine ⟨rfl, fun xs e => ?_⟩
  cases e
  refine ⟨by rw [List.length_map, hl r hr]; omega, fun z hz => ?_⟩
  obtain ⟨i, _, rfl⟩ := List.mem_map.mp hz
  rfl
theorem rd_Town___init__ : ∀ E0 ds M Q, sp_Town___init__ c ds M Q E0 → t_Town___init__ c E0 (bodyE K Q) (startD ["self", "letters", "rules", "at", "rule", "gaps", "one", "other"] ds) M := by
  rintro E0 ds M Q ⟨x, l, rs, rfl, hM, hz, hrz, hr, q1, q2⟩
  unfold t_Town___init__
  walk_at "dl"
  refine ⟨l, rfl, hz, fun hld => ?_, fun k hk => q1 k hk⟩
  obtain ⟨hlo, hl1, hl3⟩ := ld_none hld
  obtain ⟨q3, q4⟩ := q2 hld
  rw [dFor_un]
  walk_at "dl"
  rw [enumD_map]
  refine frB_pre (xs := rs.zipIdx) (fun p => D.tup [.int (p.2 : Nat), rD p.1]) (fun pre env M' => M' = M ∧ fbF l 0 rs = fbF l pre.length (rs.drop pre.length) ∧ ∃ a b, env = [some (.ptr x), some (.str (T l)), some (.tup (rs.map rD)), a, b, none, none, none]) ⟨rfl, rfl, _, _, rfl⟩ (fun _ _ _ _ => True.intro) ?_ ?_
  · rintro pre p post env M' e ⟨rfl, hi, a, b, rfl⟩ R hR
    obtain ⟨e1, e2⟩ := zipIdx_at e
    have hpr := hr p.1 (List.mem_of_getElem? e2)
    rw [drop_at e2, fbF] at hi
    have hbad : (6 ≤ pre.length ∨ okR p.1 l = false) → E0 (Value.ref c.InvalidRule) (gd_InvalidRule [D.int (p.2 : Nat)]) M' := fun h => by
      rw [if_pos h] at hi
      rw [e1]
      exact q3 _ hi
    walk_at "dl"
    refine fm_if (fun h => hbad (.inl (by have := of_decide_eq_true h; omega))) fun h1 => ⟨p.1, l, rfl, hpr, ?_⟩
    walk_at "dl"
    refine fm_if (fun h => hbad (.inr (by simpa using h))) fun h2 => ?_
    have h3 := of_decide_eq_false h1
    rw [if_neg (by rintro (z | z); · omega
                   · rw [z] at h2; cases h2)] at hi
    refine hR _ _ ⟨rfl, ?_, _, _, rfl⟩
    rw [List.length_append, List.length_singleton]
    exact hi
  · rintro env M' ⟨rfl, hi, a, b, rfl⟩
    rw [List.length_zipIdx, List.drop_length] at hi
    have hfbn : fb rs l = none := by show fbF l 0 rs = none; rw [hi, fbF]
    obtain ⟨hok, hn6⟩ := fb_none hfbn
    have hr6 : rs.length ≤ 6 := by
      rcases rs with _ | ⟨y, rs⟩
      · exact Nat.zero_le _
      · have := hn6 (by simp); omega
    have hla := isLo_asc hlo
    walk_at "dl"
    rw [hM]
    walk_at "dl"
    refine ⟨by decide, putD_lt (by decide), ?_⟩
    rw [dLc_un]
    walk_at "dl"
    refine lcB_m (xs := rs) rD (fun r => rT (gap r l)) True.intro (line (by omega)) (fun r hrr R hR => ?_) ?_
    · have hro := hr r hrr
      obtain ⟨w1, w2, rfl, ha, hb⟩ := okR_two (hok r hrr)
      walk_at "dl"
      refine ⟨w1, l, rfl, hla, by omega, by omega, w2, l, rfl, hla, by omega, by omega, cntW w1 l, cntW w2 l, rfl, by rw [cntW_len, cntW_len], by rw [cntW_len]; omega, hR⟩
    · rw [T_len]
      refine ⟨line (by omega), fun y hy => ?_⟩
      have hxy : x ≠ y := fun e => by subst e; rw [up_same] at hy; cases hy
      have hy2 : M' y = none := by rw [up_ne hxy.symm] at hy; exact hy
      refine mk_table (rows := rs.map fun r => gap r l) hy (.inl (by rw [lstOf_l, List.map_map]; rfl)) hl1 hl3 (by rw [List.length_map]; omega) (fun r hrr => ?_) (fun r hrr j => ?_) fun f hf hfb => ?_
      · obtain ⟨z, hz2, rfl⟩ := List.mem_map.mp hrr
        exact (gap_ok (hok z hz2)).1
      · obtain ⟨z, hz2, rfl⟩ := List.mem_map.mp hrr
        exact (gap_ok (hok z hz2)).2 j
      · refine ⟨rfl, ?_⟩
        rw [up_ne hxy, up_same]
        refine ⟨rfl, putD_lt (putD_lt (by decide)), line (by decide), putD_lt (putD_lt (putD_lt (by decide))), ?_⟩
        refine Fin.drop ?_ (q4 hfbn (.ptr y))
        rw [up_comm hxy.symm, up_up]
        exact Sub.refl.up (by rw [up_ne hxy.symm]; exact hy2)
theorem tw_l {l : List Nat} {rs : List Rl} {d : D} : List.lookup ("own_letters" : Str) (twD l rs d) = some (D.str (T l)) := by
  unfold twD
  rw [lk_ne (by decide +kernel), lk_ne (by decide +kernel), lk_ne (by decide +kernel)]; exact lk_same
theorem tw_r {l : List Nat} {rs : List Rl} {d : D} : List.lookup ("rule_row" : Str) (twD l rs d) = some (D.tup (rs.map rD)) := by
  unfold twD
  rw [lk_ne (by decide +kernel), lk_ne (by decide +kernel)]; exact lk_same
theorem tw_i {l : List Nat} {rs : List Rl} {d : D} : List.lookup ("identity" : Str) (twD l rs d) = some (D.tup [.str (T l), .tup (rs.map rD)]) := by
  unfold twD
  exact lk_same
theorem tw_no {l : List Nat} {rs : List Rl} {d : D} {n : Str} (h1 : n ≠ Str.ofString "identity") (h2 : n ≠ Str.ofString "own_table") (h3 : n ≠ Str.ofString "rule_row") (h4 : n ≠ Str.ofString "own_letters") : List.lookup n (twD l rs d) = none := by
  unfold twD
  rw [lk_ne h1, lk_ne h2, lk_ne h3, lk_ne h4]
  rfl
theorem rd_Town_letters : ∀ ds M Q E0, sp_Town_letters c ds M Q E0 → t_Town_letters c (bodyE K Q) (startD ["self"] ds) M := by
  rintro ds M Q E0 ⟨e, l, rs, rfl, ⟨d, h⟩, q⟩
  unfold t_Town_letters
  rw [dRet_ap]
  exact fldI rfl h tw_l (Fin.same q)
theorem rd_Town_width : ∀ ds M Q E0, sp_Town_width c ds M Q E0 → t_Town_width c (bodyE K Q) (startD ["self"] ds) M := by
  rintro ds M Q E0 ⟨e, l, rs, rfl, ⟨d, h⟩, hz, q⟩
  unfold t_Town_width
  walk_at "dl"
  rw [h]
  refine ⟨rfl, _, tw_l, ?_⟩
  walk_at "dl"
  rw [T_len]
  exact ⟨line (by omega), Fin.same q⟩
theorem rd_Town_rules : ∀ ds M Q E0, sp_Town_rules c ds M Q E0 → t_Town_rules c (bodyE K Q) (startD ["self"] ds) M := by
  rintro ds M Q E0 ⟨e, l, rs, rfl, ⟨d, h⟩, q⟩
  unfold t_Town_rules
  walk_at "dl"
  rw [h]
  refine ⟨rfl, _, tw_r, ?_⟩
  walk_at "dl"
  intro p hp
  rcases q with q | q
  · exact Fin.same (q p hp)
  · exact Fin.frz up_same hp (Sub.up Sub.refl hp) q
theorem rd_Town___len__ : ∀ ds M Q E0, sp_Town___len__ c ds M Q E0 → t_Town___len__ c (bodyE K Q) (startD ["self"] ds) M := by
  rintro ds M Q E0 ⟨e, l, rs, rfl, ⟨d, h⟩, q⟩
  unfold t_Town___len__
  walk_at "dl"
  rw [h]
  refine ⟨rfl, _, tw_r, ?_⟩
  walk_at "dl"
  rw [List.length_map]
  exact Fin.same q
theorem dStar_ap {ta : DTE} {tr : DTA} {env : DSt} {M : Mp} {Q : List D → Mp → Prop} : dStar ta tr env M Q = ta env M fun x M1 => ∃ xs, (lstOf M1 x = some xs ∨ x = .tup xs) ∧ tr env M1 fun ys M2 => Q (xs ++ ys) M2 := rfl
/-- a town is made -/
theorem mk_town {M : Mp} {x : Addr} {l : List Nat} {rs : List Rl} {Q : DQ} {E0 : DX} (hM : M x = none) (hz : l.length ≤ 1000) (hrz : rs.length ≤ 100) (hr : ∀ r ∈ rs, RlOk r)
    (h1 : ∀ k, ld l = some k → E0 (.ref c.InvalidLetters) [("at", .int (k : Nat)), ("tag", .str "InvalidLetters")] (up M x (.ins c.Town [])))
    (h2 : ld l = none → (∀ k, fb rs l = some k → E0 (.ref c.InvalidRule) [("at", .int (k : Nat)), ("tag", .str "InvalidRule")] (up M x (.ins c.Town []))) ∧ (fb rs l = none → ∀ d, Q .non (up M x (.ins c.Town (twD l rs d))))) :
    spW 2 100 (sp_Town___init__ c) (.ptr x :: .str (T l) :: rs.map rD) (up M x (.ins c.Town [])) Q E0 :=
  ⟨[.ptr x, .str (T l)], rs.map rD, rfl, rfl, by rw [List.length_map]; exact hrz, x, l, rs, rfl, up_same, hz, hrz, hr, h1, fun h => ⟨(h2 h).1, fun hf d => by rw [up_up]; exact (h2 h).2 hf d⟩⟩
theorem rd_Town_with_rules : ∀ E0 ds M Q, sp_Town_with_rules c ds M Q E0 → t_Town_with_rules c E0 (bodyE K Q) (startD ["self", "more"] ds) M := by
  rintro E0 ds M Q ⟨e, l, rs, more, rfl, ⟨d, h⟩, hz, hrz, hr, hld, q1, q2⟩
  unfold t_Town_with_rules
  walk_at "dl"
  rw [h]
  refine ⟨rfl, _, tw_l, ?_⟩
  rw [dStar_ap]
  refine fldI rfl h tw_r ⟨_, .inr rfl, ?_⟩
  rw [dStar_ap]
  walk_at "dl"
  refine ⟨_, .inr rfl, ?_⟩
  rw [← List.map_append]
  intro x hx
  refine mk_town hx hz (by rw [List.length_append]; exact hrz) hr (fun k hk => by rw [hld] at hk; cases hk) fun _ => ⟨fun k hk => q1 k hk _ (Sub.refl.up hx), fun hf d2 => ⟨rfl, Fin.same (q2 hf x d2 hx)⟩⟩
theorem rl_eqv : ∀ (a b : List (List Nat)), PyData.eqvAll (D.pys (a.map fun w => D.str (T w))) (D.pys (b.map fun w => D.str (T w))) = decide (a = b)
  | [], [] => rfl
  | [], _ :: _ => rfl
  | _ :: _, [] => rfl
  | x :: a, y :: b => by
    have ih := rl_eqv a b
    rw [List.map_cons, List.map_cons, D.pys, D.pys]
    simp only [PyData.eqvAll, D.py, PyData.eqv, ih, T_beq]
    by_cases h : x = y <;> by_cases h2 : a = b <;> simp [h, h2]
theorem rls_eqv : ∀ (f g : List Rl), PyData.eqvAll (D.pys (f.map rD)) (D.pys (g.map rD)) = decide (f = g)
  | [], [] => rfl
  | [], _ :: _ => rfl
  | _ :: _, [] => rfl
  | x :: a, y :: b => by
    have ih := rls_eqv a b
    rw [List.map_cons, List.map_cons, D.pys, D.pys]
    simp only [PyData.eqvAll, D.py, PyData.eqv, ih, rl_eqv]
    by_cases h : x = y <;> by_cases h2 : a = b <;> simp [h, h2]
theorem tw_eqv {l m : List Nat} {f g : List Rl} : D.eqv (.tup [.str (T l), .tup (f.map rD)]) (.tup [.str (T m), .tup (g.map rD)]) = decide (l = m ∧ f = g) := by
  unfold D.eqv
  simp only [D.py, D.pys, PyData.eqv, PyData.eqvAll, rls_eqv, T_beq]
  by_cases h : l = m <;> by_cases h2 : f = g <;> simp [h, h2]
theorem pl_T {n : Nat} {l : List Nat} (h : ∀ x ∈ l, x < 128) : Pl n (.str (T l)) = true := pl_s (strOk_T fun c hc => by have := h c hc; omega)
theorem pl_rl {n : Nat} {r : Rl} (h : RlOk r) : Pl (n + 1) (rD r) = true := pl_tup (fun d hd => by
  obtain ⟨w, hw, rfl⟩ := List.mem_map.mp hd
  exact pl_T (h.2 w hw).1) (by rw [List.length_map]; have := h.1; omega)
theorem pl_rls {n : Nat} {rs : List Rl} (h : ∀ r ∈ rs, RlOk r) : ∀ d ∈ rs.map rD, Pl (n + 1) d = true := fun d hd => by
  obtain ⟨r, hr, rfl⟩ := List.mem_map.mp hd
  exact pl_rl (h r hr)
theorem pl_tw {l : List Nat} {rs : List Rl} (hl : Asc l) (hz : rs.length ≤ 1000) (h : ∀ r ∈ rs, RlOk r) : Pl 3 (.tup [.str (T l), .tup (rs.map rD)]) = true :=
  pl_tup (pl_cons (pl_T hl) (pl_cons (pl_tup (pl_rls h) (by rw [List.length_map]; omega)) pl_nil)) (by show 2 ≤ 1000000; decide)
theorem rd_Town___eq__ : ∀ ds M Q E0, sp_Town___eq__ c ds M Q E0 → t_Town___eq__ c (bodyE K Q) (startD ["self", "other"] ds) M := by
  rintro ds M Q E0 ⟨e, f, l, rs, rfl, ⟨d, h⟩, hl, hz, hr, hq⟩
  unfold t_Town___eq__
  walk_at "dl"
  rcases hq with ⟨ht, hq⟩ | ⟨m, ss, ⟨d2, h2⟩, hm, hsz, hsr, hq⟩
  · unfold rIsiD
    obtain ⟨n, hn⟩ := Option.isSome_iff_exists.mp ht
    rw [tyN_ins ht, hn]
    exact Fin.same hq
  · unfold rIsiD
    rw [h2]
    refine ⟨rfl, ?_⟩
    walk_at "dl"
    rw [h, h2]
    refine ⟨rfl, _, tw_i, rfl, _, tw_i, rEqW_tt (n := 3) (pl_tw hl hz hr) (pl_tw hm hsz hsr) (by decide) ?_⟩
    rw [tw_eqv, Bool.false_xor]
    exact Fin.same hq
theorem tl1 : (Str.ofString "Town(").length = 5 := by decide +kernel
theorem tl2 : (Str.ofString " letters, ").length = 10 := by decide +kernel
theorem tl3 : (Str.ofString " rules)").length = 7 := by decide +kernel
theorem nlog {w : Nat} (hw : w ≤ 1000) : ((w : Nat) : Int).natAbs.log2 < 1920 := by
  rw [Int.natAbs_natCast]
  by_cases h0 : w = 0
  · subst h0; decide
  · exact (Nat.log2_lt h0).mpr (Nat.lt_of_le_of_lt hw (Nat.lt_of_lt_of_le (show 1000 < 2 ^ 10 by decide) (Nat.pow_le_pow_right (by decide) (by decide))))
theorem sl0 : Str.empty.length = 0 := rfl
local macro_rules | `(tactic| walk_at "st") => `(tactic| (simp only [Str.length_append, sl0, tl1, tl2, tl3]; exact line (by omega)))
theorem rd_Town___repr__ : ∀ ds M Q E0, sp_Town___repr__ c ds M Q E0 → t_Town___repr__ c (bodyE K Q) (startD ["self"] ds) M := by
  rintro ds M Q E0 ⟨e, l, rs, rfl, ⟨d, h⟩, hz, hrz, q⟩
  unfold t_Town___repr__
  walk_at "dl"
  rw [h]
  have t1 := ilen (nlog hz)
  have t2 := ilen (nlog hrz)
  refine ⟨by walk_at "st", rfl, e, l, rs, rfl, ⟨d, h⟩, hz, ?_⟩
  walk_at "dl"
  refine ⟨nlog hz, by walk_at "st", by walk_at "st", ?_⟩
  rw [h]
  refine ⟨rfl, _, tw_r, ?_⟩
  walk_at "dl"
  rw [List.length_map]
  refine ⟨nlog hrz, by walk_at "st", by walk_at "st", Fin.same ?_⟩
  rw [Str.empty_append]
  exact q
end
end K12
namespace K12
open PySem PySem.Spec PyProof.Rows L2 DL PRE LamN
local macro_rules | `(tactic| walk_at "dl") => `(tactic| simp only [exists_eq', exists_eq, List.take_nil, List.take_succ_cons, List.take_zero, decide_false, decide_true, dFld_ap, dSetF_ap, dAugF_ap, dMeth_ap, dMake_ap, dProp_ap, insOf_p, insOf_o, dNever_ap, bodyE_rt, bodyE_nx, dVar_ap, dC_ap, dOp_ap, dTB_ap, dTru_ap, dAnd_ap, dOr_ap, dNot_ap, dNotV_ap, dAndV_ap, dOrV_ap, dIf_ap, dIsN_ap, dNext_ap, dSeq_ap, dBreak_ap, dCont_ap, dDrop_ap, dRet_ap, dRetN_ap, dIfS_ap, dgName_ap, dgNil_ap, dgCons_ap, dgTup_ap, dgSub_ap, dAsg_ap, dPar_ap, dAug_ap, dNil_ap, dCons_ap, dTup_ap, dLst_ap, dLstM_ap, dCB_ap, dBM_ap, dBM0_ap, dCall_ap, dCallK_ap, dRev_s, dSl_ap, dPart_ap, dUn_ap, dChain_ap, dIsi_ap, dIsi2_ap, dIter_ap, dIterT_ap, dIterS_ap, dRng1_ap, dRng2_ap, rMulX_ii, rMulX_si, dFmt_ap, fmtD_s, fmtD_i, dJoined_ap, dJs_nil, dJs_cons, jStep_s, dCallK_ap, dNil_ap, rAdd_ii, rAdd_ss, rAdd_tt, rAdd_ll, rSub_ii, rInt2_ii, rNeg_i, rOrd_ii, rOrd_ss, rIadd_ii, rIadd_ss, rEqW_ii, rEqW_ss, rEqW_bb, rIn_ss, rIxD_l, rIxD_x, rIxD_t, rIxD_s, rIxD_p, lstOf_p, lstOf_l, lstOf_x, rSlD_s, rSlD_t, rSlD_l, rSlD_x, rLen_s, rLen_t, rLen_l, rLen_x, rLen_p, rAbs_i, rInt_i, rInt_b, rToListA_t, rToListA_l, rToListA_s, rToListM_t, rToListM_l, rToTup_t, rToTup_l, rToTup_p, rSum_ap, rAll_ap, rAny_ap, rStrN_i, rMax2_ii, rMin2_ii, rS0_ap, rS1_ap, tyD_s, tyD_p, tyD_l, rJoin_l, rJoin_p, rAppend_p, rPop_p, startD, wipeD, List.map_cons, List.map_nil, List.cons_append, List.nil_append, List.append_nil, List.length_cons, List.length_nil, List.getElem?_cons_zero, List.getElem?_cons_succ, List.set_cons_zero, List.set_cons_succ, List.replicate, Nat.reduceAdd, Nat.reduceSub, Nat.sub_zero, up_same, up_up, Bool.false_xor, Bool.true_xor, Bool.not_true, Bool.not_false, if_true, if_false, Bool.false_eq_true, and_true, true_and, ite_true, ite_false, reduceIte, reduceCtorEq, Option.some.injEq, exists_eq_left', exists_eq_left, dCallX_ap, dWhy_ap, dLam_ap, dRaise_ap, dEnumL_ap, dEnumT_ap, dEnumS_ap, dZip_ap, T_beq, T_app, rMulT_ii, rMulT_ti, rFdivZ_ii, rMulW_ii, dMakeX_ap, dMethX_ap, dCallKX_ap, dgTupL_ap, dFz_ap])
local macro_rules | `(tactic| walk_at "dlh") => `(tactic| simp only [exists_eq', exists_eq, List.take_nil, List.take_succ_cons, List.take_zero, decide_false, decide_true, dFld_ap, dSetF_ap, dAugF_ap, dMeth_ap, dMake_ap, dProp_ap, insOf_p, insOf_o, dNever_ap, bodyE_rt, bodyE_nx, dVar_ap, dC_ap, dOp_ap, dTB_ap, dTru_ap, dAnd_ap, dOr_ap, dNot_ap, dNotV_ap, dAndV_ap, dOrV_ap, dIf_ap, dIsN_ap, dNext_ap, dSeq_ap, dBreak_ap, dCont_ap, dDrop_ap, dRet_ap, dRetN_ap, dIfS_ap, dgName_ap, dgNil_ap, dgCons_ap, dgTup_ap, dgSub_ap, dAsg_ap, dPar_ap, dAug_ap, dNil_ap, dCons_ap, dTup_ap, dLst_ap, dLstM_ap, dCB_ap, dBM_ap, dBM0_ap, dCall_ap, dCallK_ap, dRev_s, dSl_ap, dPart_ap, dUn_ap, dChain_ap, dIsi_ap, dIsi2_ap, dIter_ap, dIterT_ap, dIterS_ap, dRng1_ap, dRng2_ap, rMulX_ii, rMulX_si, dFmt_ap, fmtD_s, fmtD_i, dJoined_ap, dJs_nil, dJs_cons, jStep_s, dCallK_ap, dNil_ap, rAdd_ii, rAdd_ss, rAdd_tt, rAdd_ll, rSub_ii, rInt2_ii, rNeg_i, rOrd_ii, rOrd_ss, rIadd_ii, rIadd_ss, rEqW_ii, rEqW_ss, rEqW_bb, rIn_ss, rIxD_l, rIxD_x, rIxD_t, rIxD_s, rIxD_p, lstOf_p, lstOf_l, lstOf_x, rSlD_s, rSlD_t, rSlD_l, rSlD_x, rLen_s, rLen_t, rLen_l, rLen_x, rLen_p, rAbs_i, rInt_i, rInt_b, rToListA_t, rToListA_l, rToListA_s, rToListM_t, rToListM_l, rToTup_t, rToTup_l, rToTup_p, rSum_ap, rAll_ap, rAny_ap, rStrN_i, rMax2_ii, rMin2_ii, rS0_ap, rS1_ap, tyD_s, tyD_p, tyD_l, rJoin_l, rJoin_p, rAppend_p, rPop_p, startD, wipeD, List.map_cons, List.map_nil, List.cons_append, List.nil_append, List.append_nil, List.length_cons, List.length_nil, List.getElem?_cons_zero, List.getElem?_cons_succ, List.set_cons_zero, List.set_cons_succ, List.replicate, Nat.reduceAdd, Nat.reduceSub, Nat.sub_zero, up_same, up_up, Bool.false_xor, Bool.true_xor, Bool.not_true, Bool.not_false, if_true, if_false, Bool.false_eq_true, and_true, true_and, ite_true, ite_false, reduceIte, reduceCtorEq, Option.some.injEq, exists_eq_left', exists_eq_left, dCallX_ap, dWhy_ap, dLam_ap, dRaise_ap, dEnumL_ap, dEnumT_ap, dEnumS_ap, dZip_ap, T_beq, T_app, rMulT_ii, rMulT_ti, rFdivZ_ii, rMulW_ii, dMakeX_ap, dMethX_ap, dCallKX_ap, dgTupL_ap, dFz_ap, *])
local macro_rules | `(tactic| walk_at "len") => `(tactic| (intro ds M Q E h; first | (obtain ⟨_, h1, _⟩ := h; subst h1; rfl) | (obtain ⟨_, _, h1, _⟩ := h; subst h1; rfl) | (obtain ⟨_, _, _, h1, _⟩ := h; subst h1; rfl) | (obtain ⟨_, _, _, _, h1, _⟩ := h; subst h1; rfl) | (obtain ⟨_, _, _, _, _, h1, _⟩ := h; subst h1; rfl) | (obtain ⟨_, _, _, _, _, _, h1, _⟩ := h; subst h1; rfl) | (obtain ⟨_, _, _, _, _, _, _, h1, _⟩ := h; subst h1; rfl) | (obtain ⟨_, _, _, _, _, _, _, _, h1, _⟩ := h; subst h1; rfl) | (obtain ⟨_, _, _, _, _, _, _, _, _, h1, _⟩ := h; subst h1; rfl)))
local macro_rules | `(tactic| walk_at "ln") => `(tactic| (simp only [List.length_cons, List.length_nil, List.length_map, List.length_append, List.length_take, List.length_drop, List.length_reverse, T_len]; omega))
section
variable {K : PySem.W.Frag} {c : Ks}
theorem rd__law_side : ∀ ds M Q E0, sp__law_side c ds M Q E0 → t__law_side c (bodyE K Q) (startD ["_law_box", "_law_letters_here", "_law_most"] ds) M := by
  rintro ds M Q E0 ⟨a, l, m, mo, rfl, h1, h2, h3, h4, h5, h6, q⟩
  unfold t__law_side
  walk_at "dl"
  exact ⟨a, l, m, mo, rfl, h1, h2, h3, h4, h5, h6, fun w mo' a b e => Fin.same (q w mo' a b e)⟩
theorem up_drop {M : Mp} {x y : Addr} {o o2 : MO} (hx : M x = none) (hy : up M x o y = none) : Sub (up M y o2) (up (up M x o) y o2) := fun b mo e => by
  by_cases h : b = y
  · subst h
    rw [up_same] at e ⊢
    exact e
  · rw [up_ne h] at e
    rw [up_ne h, up_ne fun z => by subst z; rw [hx] at e; cases e]
    exact e
theorem lst_sub {M M' : Mp} {d : D} {ds : List D} (h : lstOf M d = some ds) (hs : Sub M M') : lstOf M' d = some ds := by
  cases d with
  | ptr a =>
    simp only [lstOf] at h ⊢
    split at h
    · rename_i es g
      rw [hs a _ g]
      exact h
    · cases h
  | _ => exact h
theorem fbF_app {l : List Nat} : ∀ {rs ss : List Rl} {k : Nat}, fbF l k (rs ++ ss) = none → fbF l k rs = none
  | [], _, _, _ => rfl
  | r :: rs, ss, k, h => by
    rw [List.cons_append, fbF] at h
    rw [fbF]
    split at h
    · cases h
    · rename_i hn
      rw [if_neg hn]
      exact fbF_app h
theorem rd__law_town : ∀ ds M Q E0, sp__law_town c ds M Q E0 → t__law_town c (bodyE K Q) (startD ["_law_letters_here", "_law_rules_now", "_law_made_here", "_law_rule"] ds) M := by
  rintro ds M Q E0 ⟨e, l, rs, rfl, hd, hz, hrz, hr, hld, hfb, q⟩
  unfold t__law_town
  walk_at "dl"
  intro x hx
  refine mk_town (rs := []) hx hz (by decide) (fun r hr => absurd hr List.not_mem_nil) (fun k hk => by rw [hld] at hk; cases hk) fun _ => ⟨fun k hk => (by cases hk), fun _ d => ⟨rfl, ?_⟩⟩
  obtain ⟨kp, h1, h2⟩ := iterL (M := up M x (.ins c.Town (twD l [] d))) (env := [some (.str (T l)), some e, some (.ptr x), none]) (n := 1) (lstOf_up hd hx) rfl
  refine for_pre rs rD (fun pre env M' => ∃ y d2 e3, M y = none ∧ M' y = some (.ins c.Town (twD l pre d2)) ∧ Sub M M' ∧ env = [some (.str (T l)), some e, some (.ptr y), e3]) h1 ⟨x, d, none, hx, up_same, Sub.refl.up hx, rfl⟩ (fun s env M' ⟨y, d2, e3, g1, g2, g3, g4⟩ => h2 _ (lst_sub hd g3)) ?_ ?_
  · rintro pre r post env M' ep ⟨y, d2, e3, g1, g2, g3, rfl⟩
    have hpl : pre.length + 1 ≤ 100 := by
      have := congrArg List.length ep
      rw [List.length_append, List.length_cons] at this
      omega
    have hpre : ∀ r2 ∈ pre ++ [r], RlOk r2 := fun r2 h => hr r2 (by
      rw [ep]
      rcases List.mem_append.mp h with z | z
      · simp [z]
      · rw [List.mem_singleton.mp z]; simp)
    have hfp : fb (pre ++ [r]) l = none := by
      refine fbF_app (ss := post) ?_
      rw [List.append_assoc]
      show fbF l 0 (pre ++ ([r] ++ post)) = none
      rw [List.singleton_append, ← ep]
      exact hfb
    walk_at "dl"
    rw [g2]
    refine ⟨rfl, tw_no (by decide +kernel) (by decide +kernel) (by decide +kernel) (by decide +kernel), ?_⟩
    refine ⟨[.ptr y], [rD r], rfl, rfl, by show 1 ≤ 100; decide, .ptr y, l, pre, [r], rfl, ⟨d2, by show (match M' y with | some (.ins C fs) => some (C, fs) | _ => none) = _; rw [g2]⟩, hz, hpl, hpre, hld, fun k hk => (by rw [hfp] at hk; cases hk), fun _ z d3 hz3 => ?_⟩
    exact ⟨z, d3, _, sub_none g3 hz3, up_same, g3.up (sub_none g3 hz3), rfl⟩
  · rintro env M' ⟨y, d2, e3, g1, g2, g3, rfl⟩
    walk_at "dl"
    exact Fin.drop (sub_up2 g3 g2) (q y d2 g1)
theorem isS_eq {w l : List Nat} (h : ∀ c ∈ l, isLo c = true) : isS w l = (decide (w.length ≤ 16) && isW w l) := by
  have key : ∀ x : Nat, decide (x ∈ sgn l) = (decide (loC x ∈ l) && isLo (loC x)) := fun x => by
    by_cases hx : x ∈ sgn l
    · rw [decide_eq_true hx]
      unfold sgn at hx
      obtain ⟨y, hy, hxy⟩ := List.mem_flatMap.mp hx
      have hly := isLo_lt (h y hy)
      have e : loC x = y := by
        simp only [List.mem_cons, List.not_mem_nil, or_false] at hxy
        unfold loC
        rcases hxy with rfl | rfl
        · rw [if_neg (by omega)]
        · rw [if_pos (by omega)]; omega
      rw [e, decide_eq_true hy, h y hy]
      rfl
    · rw [decide_eq_false hx]
      by_cases hy : loC x ∈ l
      · refine absurd ?_ hx
        have hly := isLo_lt (h _ hy)
        unfold sgn
        refine List.mem_flatMap.mpr ⟨_, hy, ?_⟩
        simp only [List.mem_cons, List.not_mem_nil, or_false]
        unfold loC at hly ⊢
        split
        · right; omega
        · left; rfl
      · rw [decide_eq_false hy]; rfl
  unfold isS isW
  congr 1
  exact congrArg w.all (funext key)
theorem rd__law_is_side : ∀ ds M Q E0, sp__law_is_side c ds M Q E0 → t__law_is_side c (bodyE K Q) (startD ["_law_one", "_law_letters_here", "_law_sign"] ds) M := by
  rintro ds M Q E0 ⟨w, l, rfl, hz, hl, hlz, q⟩
  unfold t__law_is_side
  walk_at "dl"
  rw [T_len]
  refine ⟨line (by omega), ?_⟩
  unfold isS at q
  refine fm_if (fun h => ?_) fun h => ?_
  · have h2 : w.length ≤ 16 := by have := of_decide_eq_true h; omega
    rw [decide_eq_true h2, Bool.true_and] at q
    rw [dLc_un]
    walk_at "dl"
    rw [sgs_T]
    refine lcB_m (xs := w) (fun x => D.str ⟨#[x]⟩) (fun x => D.bl (decide (x ∈ sgn l))) True.intro (line (by omega)) (fun x hx R hR => ?_) ?_
    · walk_at "dl"
      refine ⟨l, rfl, hl, hlz, ?_⟩
      walk_at "dl"
      rw [strIn_sign, T_cps]
      exact hR
    · walk_at "dl"
      refine ⟨w.map fun x => decide (x ∈ sgn l), by rw [List.map_map]; rfl, ?_⟩
      rw [List.all_map]
      exact Fin.same q
  · have h2 : ¬ w.length ≤ 16 := by have := of_decide_eq_false h; omega
    rw [decide_eq_false h2, Bool.false_and] at q
    exact Fin.same q
theorem atI_at {α : Type} {xs : List α} {k : Nat} {x : α} (h : xs[k]? = some x) : atI xs (k : Nat) = some x := by
  have hk := (List.getElem?_eq_some_iff.mp h).1
  have e2 : ixN xs.length ((k : Nat) : Int) = some k := by
    unfold ixN
    simp [hk]
  unfold atI
  rw [e2]
  exact h
theorem atI_map {α : Type} {f : α → D} {xs : List α} {k : Nat} {x : α} (h : xs[k]? = some x) : atI (xs.map f) (k : Nat) = some (f x) :=
  atI_at (by rw [List.getElem?_map, h]; rfl)
theorem rd__law_bad_rule : ∀ ds M Q E0, sp__law_bad_rule c ds M Q E0 → t__law_bad_rule c (bodyE K Q) (startD ["_law_rules_now", "_law_letters_here", "_law_at", "_law_rule"] ds) M := by
  rintro ds M Q E0 ⟨l, rs, rfl, hl, hlz, hrz, hr, q0, q1⟩
  unfold t__law_bad_rule
  walk_at "dl"
  refine for_pre (M1 := M) (kp := fun _ => True) (List.range rs.length) (fun i => D.int (0 + (i : Nat))) (fun pre env M' => M' = M ∧ fbF l 0 rs = fbF l pre.length (rs.drop pre.length) ∧ ∃ a b, env = [some (.lst (rs.map rD)), some (.str (T l)), a, b]) (fun R h => ?_) ⟨rfl, rfl, _, _, rfl⟩ (fun _ _ _ _ => True.intro) ?_ ?_
  · walk_at "dl"
    rw [List.length_map]
    exact ⟨by omega, h⟩
  · rintro pre k post env M' e ⟨rfl, hi, a, b, rfl⟩
    obtain ⟨hke, hkn⟩ := range_at e
    rw [List.length_append, List.length_singleton, ← hke, Int.zero_add]
    rw [← hke] at hi
    have hrk : rs[k]? = some rs[k] := List.getElem?_eq_getElem hkn
    have hro := hr rs[k] (List.getElem_mem hkn)
    rw [drop_at hrk, fbF] at hi
    generalize hrr : rs[k] = r at hi hro hrk
    have hbad : (6 ≤ k ∨ okR r l = false) → DL.Fin K Q (.int (k : Nat)) M' := fun h => by
      rw [if_pos h] at hi
      exact Fin.same (q1 _ hi)
    walk_at "dl"
    refine ⟨_, atI_map hrk, ?_⟩
    walk_at "dl"
    rw [List.length_map]
    refine fm_if (fun h => hbad (.inl (by have := of_decide_eq_true h; omega))) fun h1 => ?_
    have h1' := of_decide_eq_false h1
    refine fm_if (fun h => hbad (.inr ?_)) fun h2 => ?_
    · unfold okR
      rw [decide_eq_false (by intro z; rw [z] at h; simp at h), Bool.false_and]
    · have hr2 : r.length = 2 := by
        have : ((r.length : Int) == 2) = true := by simpa using h2
        have := eq_of_beq this
        omega
      obtain ⟨w1, w2, rfl⟩ : ∃ a b, r = [a, b] := by
        match r, hr2 with
        | [a, b], _ => exact ⟨a, b, rfl⟩
      have ha := (hro.2 w1 (by simp)).2
      have hb := (hro.2 w2 (by simp)).2
      have hok : okR [w1, w2] l = (isS w1 l && isS w2 l) := by
        rw [isS_eq hl, isS_eq hl]
        unfold okR
        simp
      refine ⟨_, atI_head, w1, l, rfl, ha, hl, hlz, ?_⟩
      walk_at "dl"
      refine fm_if (fun h => hbad (.inr ?_)) fun h3 => ?_
      · rw [hok]
        have : isS w1 l = false := by simpa using h
        rw [this, Bool.false_and]
      · refine ⟨_, rfl, w2, l, rfl, hb, hl, hlz, ?_⟩
        walk_at "dl"
        refine fm_if (fun h => hbad (.inr ?_)) fun h4 => ?_
        · rw [hok]
          have : isS w2 l = false := by simpa using h
          rw [this, Bool.and_false]
        · have e3 : isS w1 l = true := by simpa using h3
          have e4 : isS w2 l = true := by simpa using h4
          rw [if_neg (by rw [hok, e3, e4]; rintro (z | z); · omega
                         · cases z)] at hi
          exact ⟨hi, _, _, rfl⟩
  · rintro env M' ⟨rfl, hi, a, b, rfl⟩
    rw [List.length_range, List.drop_length, fbF] at hi
    walk_at "dl"
    exact Fin.same (q0 hi)
theorem rd__law_letters_due : ∀ ds M Q E0, sp__law_letters_due c ds M Q E0 → t__law_letters_due c (bodyE K Q) (startD ["_law_letters_here", "_law_at", "_law_sign"] ds) M := by
  rintro ds M Q E0 ⟨l, rfl, hz, q0, q1⟩
  unfold t__law_letters_due
  walk_at "dl"
  refine for_pre (M1 := M) (kp := fun _ => True) (List.range l.length) (fun i => D.int (0 + (i : Nat))) (fun pre env M' => M' = M ∧ ldF l 0 l = ldF l pre.length (l.drop pre.length) ∧ ∃ a b, env = [some (.str (T l)), a, b]) (fun R h => ?_) ⟨rfl, rfl, _, _, rfl⟩ (fun _ _ _ _ => True.intro) ?_ ?_
  · walk_at "dl"
    rw [T_len]
    exact ⟨line (by omega), by omega, h⟩
  · rintro pre k post env M' e ⟨rfl, hi, a, b, rfl⟩
    obtain ⟨hke, hkn⟩ := range_at e
    rw [List.length_append, List.length_singleton, ← hke, Int.zero_add]
    rw [← hke] at hi
    have hlk : l[k]? = some l[k] := List.getElem?_eq_getElem hkn
    rw [drop_at hlk, ldF] at hi
    generalize l[k] = x at hi hlk
    have hbad : (isLo x = false ∨ x ∈ l.take k ∨ 3 ≤ k) → DL.Fin K Q (.tup [.str "InvalidLetters", .int (k : Nat)]) M' := fun h => by
      rw [if_pos h] at hi
      have hld : ld l = some k := by unfold ld; rw [hi]
      exact Fin.same (q1 _ hld)
    have hat : atI l (k : Nat) = some x := atI_at hlk
    walk_at "dl"
    rw [T_len, T_cps]
    refine ⟨line (by omega), x, hat, ?_⟩
    rw [lower_in]
    refine fm_if (fun h => ⟨line (by decide), hbad (.inl (by simpa using h))⟩) fun h1 => ⟨line (by omega), ?_⟩
    rw [strIn_sign, cut_to l (by omega), T_cps]
    refine fm_if (fun h => ⟨line (by decide), hbad (.inr (.inl (of_decide_eq_true h)))⟩) fun h2 => fm_if (fun h => ⟨line (by decide), hbad (.inr (.inr (by have := of_decide_eq_true h; omega)))⟩) fun h3 => ?_
    have h3 := of_decide_eq_false h3
    rw [if_neg (by rintro (z | z | z); · rw [z] at h1; cases h1
                   · exact of_decide_eq_false h2 z
                   · omega)] at hi
    exact ⟨hi, _, _, rfl⟩
  · rintro env M' ⟨rfl, hi, a, b, rfl⟩
    rw [List.length_range, List.drop_length, ldF] at hi
    walk_at "dl"
    rw [strE, T_beq]
    refine fm_if (fun h => ⟨line (by decide), Fin.same ?_⟩) fun h => ⟨line (by decide), Fin.same ?_⟩
    · have hl : ¬ l = [] := by simpa using h
      have := q0 (by unfold ld; rw [hi, if_neg hl])
      rw [← strE]
      exact this
    · have hl : l = [] := by simpa using h
      exact q1 0 (by unfold ld; rw [hi, if_pos hl])
theorem cut4 {a b c d : D} {r : List D} : DL.cutD (a :: b :: c :: d :: r) none (some 4) = [a, b, c, d] := by
  unfold DL.cutD
  rw [HT.sIx_none, show (4 : Int) = ((4 : Nat) : Int) from rfl, HT.sIx_nat, Nat.min_eq_left (by simp), List.drop_zero, Nat.sub_zero]
  rfl
theorem dg4 {a b c d : D} {e0 e1 e2 e3 e4 e5 : Option D} {M : Mp} {R : DSt → Mp → Prop} (h : R [e0, e1, some a, some b, some c, some d] M) : dgCons (dgName 2) (dgCons (dgName 3) (dgCons (dgName 4) (dgCons (dgName 5) dgNil))) [a, b, c, d] [e0, e1, e2, e3, e4, e5] M R := by
  walk_at "dl"
  exact h
theorem rd__law_made : ∀ E0 ds M Q, sp__law_made c ds M Q E0 → t__law_made c E0 (bodyE K Q) (startD ["_law_letters_here", "_law_some", "_law_a", "_law_b", "_law_c", "_law_d"] ds) M := by
  rintro E0 ds M Q ⟨l, rs, rfl, hz, hrz, hr, hld, q1, q2⟩
  have mk : ∀ x : Addr, M x = none → ∀ ds : List D, ds = rs.map rD → spW 2 100 (sp_Town___init__ c) (.ptr x :: .str (T l) :: ds) (up M x (.ins c.Town [])) (fun v M2 => v = .non ∧ DL.Fin K Q (.ptr x) M2) E0 := fun x hx ds e => by
    subst e
    exact mk_town hx hz (by omega) hr (fun k hk => (by rw [hld] at hk; cases hk)) fun _ => ⟨fun k hk => q1 k hk _ (Sub.refl.up hx), fun hf d => ⟨rfl, Fin.same (q2 hf x d hx)⟩⟩
  unfold t__law_made
  generalize spW 2 100 (sp_Town___init__ c) = SP at mk ⊢
  walk_at "dl"
  have hpl : Pl 2 (.lst (rs.map rD)) = true := pl_lst (pl_rls hr) (by rw [List.length_map]; omega)
  refine ⟨line (by decide), rEqW_ll (n := 2) hpl (pl_lst pl_nil (by decide)) (by decide) ?_⟩
  rw [lst_nil, List.length_map]
  walk_at "dl"
  match rs, hrz, mk with
  | [], _, mk => exact ifT rfl fun x hx => mk x hx _ rfl
  | [a], _, mk => exact ifF rfl (ifT rfl ⟨_, rfl, fun x hx => mk x hx _ rfl⟩)
  | [a, b], _, mk => exact ifF rfl (ifF rfl (ifT rfl ⟨_, rfl, _, rfl, fun x hx => mk x hx _ rfl⟩))
  | [a, b, c3], _, mk => exact ifF rfl (ifF rfl (ifF rfl (ifT rfl ⟨_, rfl, _, rfl, _, rfl, fun x hx => mk x hx _ rfl⟩)))
  | [a, b, c3, d], _, mk =>
    refine ifF rfl (ifF rfl (ifF rfl (ifF rfl ?_)))
    rw [show List.map rD [a, b, c3, d] = rD a :: rD b :: rD c3 :: rD d :: List.map rD [] from rfl, cut4]
    refine ⟨rfl, dg4 ?_⟩
    walk_at "dl"
    exact ifT rfl fun x hx => mk x hx _ rfl
  | [a, b, c3, d, e], _, mk =>
    refine ifF rfl (ifF rfl (ifF rfl (ifF rfl ?_)))
    rw [show List.map rD [a, b, c3, d, e] = rD a :: rD b :: rD c3 :: rD d :: List.map rD [e] from rfl, cut4]
    refine ⟨rfl, dg4 ?_⟩
    walk_at "dl"
    exact ifF rfl (ifT rfl ⟨_, rfl, fun x hx => mk x hx _ rfl⟩)
  | [a, b, c3, d, e, f], _, mk =>
    refine ifF rfl (ifF rfl (ifF rfl (ifF rfl ?_)))
    rw [show List.map rD [a, b, c3, d, e, f] = rD a :: rD b :: rD c3 :: rD d :: List.map rD [e, f] from rfl, cut4]
    refine ⟨rfl, dg4 ?_⟩
    walk_at "dl"
    exact ifF rfl (ifF rfl (ifT rfl ⟨_, rfl, _, rfl, fun x hx => mk x hx _ rfl⟩))
  | [a, b, c3, d, e, f, g], _, mk =>
    refine ifF rfl (ifF rfl (ifF rfl (ifF rfl ?_)))
    rw [show List.map rD [a, b, c3, d, e, f, g] = rD a :: rD b :: rD c3 :: rD d :: List.map rD [e, f, g] from rfl, cut4]
    refine ⟨rfl, dg4 ?_⟩
    walk_at "dl"
    exact ifF rfl (ifF rfl (ifF rfl ⟨_, rfl, _, rfl, _, rfl, fun x hx => mk x hx _ rfl⟩))
end
end K12
namespace K12
open PySem PySem.Spec PyProof.Rows L2 DL PRE LamN
local macro_rules | `(tactic| walk_at "dl") => `(tactic| simp only [exists_eq', exists_eq, List.take_nil, List.take_succ_cons, List.take_zero, decide_false, decide_true, dFld_ap, dSetF_ap, dAugF_ap, dMeth_ap, dMake_ap, dProp_ap, insOf_p, insOf_o, dNever_ap, bodyE_rt, bodyE_nx, dVar_ap, dC_ap, dOp_ap, dTB_ap, dTru_ap, dAnd_ap, dOr_ap, dNot_ap, dNotV_ap, dAndV_ap, dOrV_ap, dIf_ap, dIsN_ap, dNext_ap, dSeq_ap, dBreak_ap, dCont_ap, dDrop_ap, dRet_ap, dRetN_ap, dIfS_ap, dgName_ap, dgNil_ap, dgCons_ap, dgTup_ap, dgSub_ap, dAsg_ap, dPar_ap, dAug_ap, dNil_ap, dCons_ap, dTup_ap, dLst_ap, dLstM_ap, dCB_ap, dBM_ap, dBM0_ap, dCall_ap, dCallK_ap, dRev_s, dSl_ap, dPart_ap, dUn_ap, dChain_ap, dIsi_ap, dIsi2_ap, dIter_ap, dIterT_ap, dIterS_ap, dRng1_ap, dRng2_ap, rMulX_ii, rMulX_si, dFmt_ap, fmtD_s, fmtD_i, dJoined_ap, dJs_nil, dJs_cons, jStep_s, dCallK_ap, dNil_ap, rAdd_ii, rAdd_ss, rAdd_tt, rAdd_ll, rSub_ii, rInt2_ii, rNeg_i, rOrd_ii, rOrd_ss, rIadd_ii, rIadd_ss, rEqW_ii, rEqW_ss, rEqW_bb, rIn_ss, rIxD_l, rIxD_x, rIxD_t, rIxD_s, rIxD_p, lstOf_p, lstOf_l, lstOf_x, rSlD_s, rSlD_t, rSlD_l, rSlD_x, rLen_s, rLen_t, rLen_l, rLen_x, rLen_p, rAbs_i, rInt_i, rInt_b, rToListA_t, rToListA_l, rToListA_s, rToListM_t, rToListM_l, rToTup_t, rToTup_l, rToTup_p, rSum_ap, rAll_ap, rAny_ap, rStrN_i, rMax2_ii, rMin2_ii, rS0_ap, rS1_ap, tyD_s, tyD_p, tyD_l, rJoin_l, rJoin_p, rAppend_p, rPop_p, startD, wipeD, List.map_cons, List.map_nil, List.cons_append, List.nil_append, List.append_nil, List.length_cons, List.length_nil, List.getElem?_cons_zero, List.getElem?_cons_succ, List.set_cons_zero, List.set_cons_succ, List.replicate, Nat.reduceAdd, Nat.reduceSub, Nat.sub_zero, up_same, up_up, Bool.false_xor, Bool.true_xor, Bool.not_true, Bool.not_false, if_true, if_false, Bool.false_eq_true, and_true, true_and, ite_true, ite_false, reduceIte, reduceCtorEq, Option.some.injEq, exists_eq_left', exists_eq_left, dCallX_ap, dWhy_ap, dLam_ap, dRaise_ap, dEnumL_ap, dEnumT_ap, dEnumS_ap, dZip_ap, T_beq, T_app, rMulT_ii, rMulT_ti, rFdivZ_ii, rMulW_ii, dMakeX_ap, dMethX_ap, dCallKX_ap, dgTupL_ap, dFz_ap])
local macro_rules | `(tactic| walk_at "dlh") => `(tactic| simp only [exists_eq', exists_eq, List.take_nil, List.take_succ_cons, List.take_zero, decide_false, decide_true, dFld_ap, dSetF_ap, dAugF_ap, dMeth_ap, dMake_ap, dProp_ap, insOf_p, insOf_o, dNever_ap, bodyE_rt, bodyE_nx, dVar_ap, dC_ap, dOp_ap, dTB_ap, dTru_ap, dAnd_ap, dOr_ap, dNot_ap, dNotV_ap, dAndV_ap, dOrV_ap, dIf_ap, dIsN_ap, dNext_ap, dSeq_ap, dBreak_ap, dCont_ap, dDrop_ap, dRet_ap, dRetN_ap, dIfS_ap, dgName_ap, dgNil_ap, dgCons_ap, dgTup_ap, dgSub_ap, dAsg_ap, dPar_ap, dAug_ap, dNil_ap, dCons_ap, dTup_ap, dLst_ap, dLstM_ap, dCB_ap, dBM_ap, dBM0_ap, dCall_ap, dCallK_ap, dRev_s, dSl_ap, dPart_ap, dUn_ap, dChain_ap, dIsi_ap, dIsi2_ap, dIter_ap, dIterT_ap, dIterS_ap, dRng1_ap, dRng2_ap, rMulX_ii, rMulX_si, dFmt_ap, fmtD_s, fmtD_i, dJoined_ap, dJs_nil, dJs_cons, jStep_s, dCallK_ap, dNil_ap, rAdd_ii, rAdd_ss, rAdd_tt, rAdd_ll, rSub_ii, rInt2_ii, rNeg_i, rOrd_ii, rOrd_ss, rIadd_ii, rIadd_ss, rEqW_ii, rEqW_ss, rEqW_bb, rIn_ss, rIxD_l, rIxD_x, rIxD_t, rIxD_s, rIxD_p, lstOf_p, lstOf_l, lstOf_x, rSlD_s, rSlD_t, rSlD_l, rSlD_x, rLen_s, rLen_t, rLen_l, rLen_x, rLen_p, rAbs_i, rInt_i, rInt_b, rToListA_t, rToListA_l, rToListA_s, rToListM_t, rToListM_l, rToTup_t, rToTup_l, rToTup_p, rSum_ap, rAll_ap, rAny_ap, rStrN_i, rMax2_ii, rMin2_ii, rS0_ap, rS1_ap, tyD_s, tyD_p, tyD_l, rJoin_l, rJoin_p, rAppend_p, rPop_p, startD, wipeD, List.map_cons, List.map_nil, List.cons_append, List.nil_append, List.append_nil, List.length_cons, List.length_nil, List.getElem?_cons_zero, List.getElem?_cons_succ, List.set_cons_zero, List.set_cons_succ, List.replicate, Nat.reduceAdd, Nat.reduceSub, Nat.sub_zero, up_same, up_up, Bool.false_xor, Bool.true_xor, Bool.not_true, Bool.not_false, if_true, if_false, Bool.false_eq_true, and_true, true_and, ite_true, ite_false, reduceIte, reduceCtorEq, Option.some.injEq, exists_eq_left', exists_eq_left, dCallX_ap, dWhy_ap, dLam_ap, dRaise_ap, dEnumL_ap, dEnumT_ap, dEnumS_ap, dZip_ap, T_beq, T_app, rMulT_ii, rMulT_ti, rFdivZ_ii, rMulW_ii, dMakeX_ap, dMethX_ap, dCallKX_ap, dgTupL_ap, dFz_ap, *])
local macro_rules | `(tactic| walk_at "len") => `(tactic| (intro ds M Q E h; first | (obtain ⟨_, h1, _⟩ := h; subst h1; rfl) | (obtain ⟨_, _, h1, _⟩ := h; subst h1; rfl) | (obtain ⟨_, _, _, h1, _⟩ := h; subst h1; rfl) | (obtain ⟨_, _, _, _, h1, _⟩ := h; subst h1; rfl) | (obtain ⟨_, _, _, _, _, h1, _⟩ := h; subst h1; rfl) | (obtain ⟨_, _, _, _, _, _, h1, _⟩ := h; subst h1; rfl) | (obtain ⟨_, _, _, _, _, _, _, h1, _⟩ := h; subst h1; rfl) | (obtain ⟨_, _, _, _, _, _, _, _, h1, _⟩ := h; subst h1; rfl) | (obtain ⟨_, _, _, _, _, _, _, _, _, h1, _⟩ := h; subst h1; rfl)))
local macro_rules | `(tactic| walk_at "ln") => `(tactic| (simp only [List.length_cons, List.length_nil, List.length_map, List.length_append, List.length_take, List.length_drop, List.length_reverse, T_len]; omega))
section
variable {K : PySem.W.Frag} {c : Ks}
/-- the body of a comprehension whose list goes into M -/
def lcMB (g : DTG) (te : DTE) (vs : List Nat) (env : DSt) (Q : DQ) : List D → (Mp → Prop) → Mp → Prop := fun ds kp M1 => ∃ Pv : Nat → List D → Mp → Prop, Pv 0 [] M1 ∧ (∀ i acc M, Pv i acc M → kp M) ∧
  (∀ i d acc M, ds[i]? = some d → Pv i acc M → g d (wipeD env vs) M fun env2 M2 => dYes env2 M2 fun b M3 => if b = true then te env2 M3 fun y M4 => acc.length < sizeLine ∧ Pv (i + 1) (acc ++ [y]) M4 else Pv (i + 1) acc M3) ∧
  ∀ acc M, Pv ds.length acc M → ∀ p, M p = none → Q (.ptr p) (up M p (.lst acc))
theorem dLcM_un {ti : DTI} {g : DTG} {te : DTE} {vs : List Nat} {env : DSt} {M : Mp} {Q : DQ} : dLcM ti g dYes te vs env M Q = ti env M (lcMB g te vs env Q) := rfl
theorem lcMB_st {α : Type} {xs : List α} {g : DTG} {te : DTE} {vs : List Nat} {env : DSt} {Q : DQ} {kp : Mp → Prop} {M1 : Mp} (enc : α → D) (inv : List α → List D → Mp → Prop) (h0 : inv [] [] M1) (hk : ∀ s acc M, inv s acc M → kp M) (hz : ∀ s acc M, inv s acc M → acc.length < sizeLine)
    (h : ∀ pre x post acc M, xs = pre ++ x :: post → inv pre acc M → ∀ R : DQ, (∀ y M', inv (pre ++ [x]) (acc ++ [y]) M' → R y M') → g (enc x) (wipeD env vs) M fun env2 M2 => te env2 M2 R)
    (q : ∀ acc M, inv xs acc M → ∀ p, M p = none → Q (.ptr p) (up M p (.lst acc))) : lcMB g te vs env Q (xs.map enc) kp M1 := by
  refine ⟨fun i acc M => inv (xs.take i) acc M, by simpa using h0, fun i acc M => hk _ _ M, fun i d acc M hx p => ?_, fun acc M p => ?_⟩
  · rw [List.getElem?_map] at hx
    cases q : xs[i]? with
    | none => rw [q] at hx; cases hx
    | some x =>
      rw [q] at hx
      cases hx
      have hi : i < xs.length := (List.getElem?_eq_some_iff.mp q).1
      have e : xs.take (i + 1) = xs.take i ++ [x] := by rw [List.take_add_one, q]; rfl
      have e2 : xs.drop i = x :: xs.drop (i + 1) := by
        rw [List.drop_eq_getElem_cons hi]
        congr 1
        exact Option.some.inj ((List.getElem?_eq_getElem hi).symm.trans q)
      refine h _ x (xs.drop (i + 1)) acc M (by rw [← e2, List.take_append_drop]) p _ fun y M' hy => ?_
      dsimp only
      rw [e]
      exact ⟨hz _ _ _ p, hy⟩
  · rw [List.length_map, List.take_length] at p
    exact q acc M p
local macro_rules | `(tactic| walk_at "st") => `(tactic| (simp only [Str.length_append, sl0, tl1, tl2, tl3]; exact line (by omega)))
theorem strSelf {x : Str} : (x == x) = true := by simp
theorem Lets.lo {l : List Nat} (h : Lets l) : (∀ x ∈ l, isLo x = true) ∧ Asc l := ⟨h.isLo, isLo_asc h.isLo⟩
theorem rd_s2 {l0 l1 : LamD} (hq0 : l0.q = q_law) {M M' : Mp} {a : Addr} {mo : MO} {l : List Nat} {E : DEnds} {s0 d2 d4 d5 d6 d7 d8 d9 d10 d11 d12 d13 d14 d15 d16 : Option D} (hT0 : M c.T_law = some (.tab qL)) (hl : Lets l) (h1 : 1 ≤ l.length) (h3 : l.length ≤ 3) (hb : BoxOk mo) (hm : M' a = some mo) (ha : M a = none) (hs : Sub M M')
    (hnx : ∀ (mo : MO) (M2 : Mp) (d4 d5 d6 d7 d8 d9 d10 d11 d12 d13 d14 d15 d16 : Option D), BoxOk mo → M2 a = some mo → Sub M M2 → E.nx [s0, some (.ptr a), d2, some (.str (T l)), d4, d5, d6, d7, d8, d9, d10, d11, d12, d13, d14, d15, d16] M2) :
    t_law_s2 c l0 l1 E [s0, some (.ptr a), d2, some (.str (T l)), d4, d5, d6, d7, d8, d9, d10, d11, d12, d13, d14, d15, d16] M' := by
  obtain ⟨hlo, hla⟩ := Lets.lo hl
  generalize hSP : spW 2 100 (sp_Town___init__ c) = SP
  unfold t_law_s2
  rw [hSP]
  walk_at "dl"
  rw [T_len, T_cps]
  obtain ⟨x0, tl, rfl⟩ : ∃ x0 tl, l = x0 :: tl := by
    match l, h1 with
    | x0 :: tl, _ => exact ⟨x0, tl, rfl⟩
  refine ⟨line (by omega), x0, atI_head, line (by show _ + 1 ≤ _; omega), line (by decide), a, _, mo, rfl, by show 1 ≤ 9; decide, by show 9 ≤ _; decide, hm, hb, fun d mo2 hd hb2 => ?_⟩
  have hd2 : ∃ o : List Nat, o.length ≤ 1000 ∧ (∀ x ∈ o, x < 128) ∧ d = .str (T o) := by
    simp only [List.mem_cons, List.not_mem_nil, or_false] at hd
    rcases hd with rfl | rfl | rfl | rfl | rfl | rfl | rfl | rfl | rfl
    · exact ⟨[], by decide, by decide, congrArg D.str (by decide +kernel)⟩
    · exact ⟨[97, 97], by decide, by decide, congrArg D.str (by decide +kernel)⟩
    · exact ⟨[97, 66], by decide, by decide, congrArg D.str (by decide +kernel)⟩
    · exact ⟨[97, 98, 99, 100], by decide, by decide, congrArg D.str (by decide +kernel)⟩
    · exact ⟨[97, 32, 98], by decide, by decide, congrArg D.str (by decide +kernel)⟩
    · exact ⟨[49], by decide, by decide, congrArg D.str (by decide +kernel)⟩
    · exact ⟨[97, 98, 99, 97], by decide, by decide, congrArg D.str (by decide +kernel)⟩
    · refine ⟨x0 :: tl ++ [x0], by rw [List.length_append]; simp only [List.length_cons, List.length_nil] at h3 ⊢; omega, fun y hy => ?_, congrArg D.str (by rw [T_one, T_app])⟩
      rcases List.mem_append.mp hy with z | z
      · exact hla y z
      · rw [List.mem_singleton.mp z]; exact hla x0 List.mem_cons_self
    · exact ⟨x0 :: tl, by omega, hla, rfl⟩
  obtain ⟨o, hoz, hoa, rfl⟩ := hd2
  have hMa : up M' a mo2 a = some mo2 := up_same
  have hMs : Sub M (up M' a mo2) := hs.up ha
  generalize up M' a mo2 = M1 at hMa hMs
  have hTT : M1 c.T_law = some (.tab l0.q) := by rw [hMs _ _ hT0]; exact congrArg some (congrArg MO.tab hq0.symm)
  have hroD : [D.tup [D.str (Str.ofString ""), D.str (Str.ofString "?")]] = [[[], [63]]].map rD := by
    rw [strE, show Str.ofString "?" = T [63] by decide +kernel, List.map_cons, List.map_nil]
    rfl
  have hrok : ∀ r ∈ ([[[], [63]]] : List Rl), RlOk r := fun r hr => by
    rw [List.mem_singleton.mp hr]
    exact ⟨by decide, fun w hw => by simp at hw; rcases hw with rfl | rfl <;> exact ⟨by decide, by decide⟩⟩
  have hok : okR [[], [63]] o = false := by
    unfold okR isW
    simp [show isLo (loC 63) = false by decide]
  have hfb : fb [[[], [63]]] o = some 0 := by
    show fbF o 0 [[[], [63]]] = _
    rw [fbF, if_pos (.inr hok)]
  have fin : ∀ (y : Addr) (d4 d5 d6 d7 d8 d9 d10 d11 d12 d13 d14 d15 d16 : Option D), M1 y = none → E.nx [s0, some (.ptr a), d2, some (.str (T (x0 :: tl))), d4, d5, d6, d7, d8, d9, d10, d11, d12, d13, d14, d15, d16] (up M1 y (.ins c.Town [])) := fun y d4 d5 d6 d7 d8 d9 d10 d11 d12 d13 d14 d15 d16 hy =>
    hnx mo2 _ _ _ _ _ _ _ _ _ _ _ _ _ _ hb2 (by rw [up_ne fun e => by subst e; rw [hMa] at hy; cases hy]; exact hMa) (hMs.up (sub_none hMs hy))
  have hpl2 : ∀ (t : Str) (k : Nat), PyData.strOk t = true → Pl 1 (.tup [.str t, .int (k : Nat)]) = true := fun t k ht => pl_tup (pl_cons (pl_s ht) (pl_cons pl_int pl_nil)) (by show 2 ≤ 1000000; decide)
  have hself : ∀ (t : Str) (k : Nat), PyData.strOk t = true → D.eqv (.tup [.str t, .int (k : Nat)]) (.tup [.str t, .int (k : Nat)]) = true := fun t k ht => pl_self (hpl2 t k ht)
  refine ⟨o, rfl, hoz, fun hld => ⟨hTT, whyB_1 ?_⟩, fun k hk => ⟨hTT, whyB_1 ?_⟩⟩
  · walk_at "dl"
    refine ⟨line (by decide), fun y hy => ?_⟩
    rw [← hSP, hroD]
    refine mk_town hy hoz (by decide) hrok (fun k hk => (by rw [hld] at hk; cases hk)) fun _ => ⟨fun k hk => ?_, fun hf => (by rw [hfb] at hf; cases hf)⟩
    rw [hfb] at hk
    cases hk
    refine whyX_of (t := "InvalidRule") (d := .int 0) (List.mem_cons_of_mem _ List.mem_cons_self) (by kernel_rfl) ?_
    refine ⟨_, atI_head, ?_⟩
    rw [rEqW_ss, strSelf]
    refine ifF rfl ⟨line (by decide), rEqW_tt (n := 1) (hpl2 _ 0 (by decide +kernel)) (hpl2 _ 0 (by decide +kernel)) (by decide) ?_⟩
    rw [show D.eqv (.tup [.str (Str.ofString "InvalidRule"), .int 0]) (.tup [.str (Str.ofString "InvalidRule"), .int 0]) = true from hself _ 0 (by decide +kernel)]
    exact ifF rfl (fin _ _ _ _ _ _ _ _ _ _ _ _ _ _ hy)
  · walk_at "dl"
    refine ⟨line (by decide), fun y hy => ?_⟩
    rw [← hSP, hroD]
    refine mk_town hy hoz (by decide) hrok (fun k2 hk2 => ?_) fun h => (by rw [hk] at h; cases h)
    rw [hk] at hk2
    cases hk2
    refine whyX_of (t := "InvalidLetters") (d := .int (k : Nat)) List.mem_cons_self (by kernel_rfl) ?_
    refine ⟨_, atI_head, ?_⟩
    rw [rEqW_ss, show (Str.ofString "InvalidLetters" == Str.ofString "") = false by decide +kernel]
    refine ifT rfl (rEqW_tt (n := 1) (hpl2 _ k (by decide +kernel)) (hpl2 _ k (by decide +kernel)) (by decide) ?_)
    rw [hself _ k (by decide +kernel)]
    exact ifF rfl (fin _ _ _ _ _ _ _ _ _ _ _ _ _ _ hy)
theorem nodup_ne : ∀ {l : List Nat}, l.Nodup → ∀ {j k : Nat} (hj : j < k) (hk : k < l.length), (l[j]'(by omega)) = l[k] → False
  | x :: l, h, 0, k + 1, _, hk, e => by
    have h2 := (List.nodup_cons.mp h).1
    have hk2 : k < l.length := by simpa using hk
    have e2 : x = l[k] := by simpa using e
    exact h2 (by rw [e2]; exact List.getElem_mem hk2)
  | x :: l, h, j + 1, k + 1, hj, hk, e => nodup_ne (List.nodup_cons.mp h).2 (show j < k by omega) (by simpa using hk) (by simpa using e)
theorem fb_all {l : List Nat} : ∀ {rs : List Rl} {k : Nat}, (∀ r ∈ rs, okR r l = true) → k + rs.length ≤ 6 → fbF l k rs = none
  | [], _, _, _ => rfl
  | r :: rs, k, h, hk => by
    rw [List.length_cons] at hk
    rw [fbF, if_neg, fb_all (fun x hx => h x (List.mem_cons_of_mem _ hx)) (by omega)]
    rintro (z | z)
    · omega
    · rw [h r List.mem_cons_self] at z; cases z
theorem lets_ld {l : List Nat} (hl : Lets l) (h1 : 1 ≤ l.length) (h3 : l.length ≤ 3) : ld l = none := by
  have key : ∀ (k : Nat), k ≤ l.length → ldF l k (l.drop k) = none := fun k hk => by
    generalize hn : l.length - k = n
    induction n generalizing k with
    | zero => rw [List.drop_eq_nil_of_le (by omega)]; rfl
    | succ n ih =>
      have hkl : k < l.length := by omega
      rw [List.drop_eq_getElem_cons hkl, ldF, if_neg, ih (k + 1) (by omega) (by omega)]
      rintro (z | z | z)
      · rw [hl.isLo _ (List.getElem_mem hkl)] at z; cases z
      · obtain ⟨j, hj, e⟩ := List.mem_iff_getElem.mp z
        rw [List.length_take] at hj
        rw [List.getElem_take] at e
        exact nodup_ne hl.1 (show j < k by omega) hkl e
      · omega
  have h0 := key 0 (Nat.zero_le _)
  rw [List.drop_zero] at h0
  unfold ld
  rw [h0]
  rw [if_neg (List.length_pos_iff.mp h1)]
theorem rd_s1 {l0 l1 : LamD} (hq0 : l0.q = q_law) (hq1 : l1.q = q_law) {M M' : Mp} {a p : Addr} {mo : MO} {l : List Nat} {rs : List Rl} {E : DEnds} {s0 d2 d5 d6 d7 d8 d9 d10 d11 d12 d13 d14 d15 d16 : Option D} (hT0 : M c.T_law = some (.tab qL)) (hl : Lets l) (h1 : 1 ≤ l.length) (h3 : l.length ≤ 3) (hb : BoxOk mo) (hm : M' a = some mo) (ha : M a = none) (hs : Sub M M')
    (hp : M' p = some (.lst (rs.map rD))) (hMp : M p = none) (hpa : a ≠ p) (hrz : rs.length ≤ 7) (hr : ∀ r ∈ rs, RlOk r)
    (hnx : ∀ (mo : MO) (M2 : Mp) (d4 d5 d6 d7 d8 d9 d10 d11 d12 d13 d14 d15 d16 : Option D), BoxOk mo → M2 a = some mo → Sub M M2 → E.nx [s0, some (.ptr a), d2, some (.str (T l)), d4, d5, d6, d7, d8, d9, d10, d11, d12, d13, d14, d15, d16] M2) :
    t_law_s1 c l0 l1 E [s0, some (.ptr a), d2, some (.str (T l)), some (.ptr p), d5, d6, d7, d8, d9, d10, d11, d12, d13, d14, d15, d16] M' := by
  obtain ⟨hlo, hla⟩ := Lets.lo hl
  generalize hS2 : t_law_s2 c l0 l1 = S2
  have tail : ∀ {M2 : Mp} {mo : MO} {d4 d5 d6 d7 d8 d9 d10 d11 d12 d13 d14 d15 d16 : Option D}, BoxOk mo → M2 a = some mo → Sub M M2 → S2 E [s0, some (.ptr a), d2, some (.str (T l)), d4, d5, d6, d7, d8, d9, d10, d11, d12, d13, d14, d15, d16] M2 := fun {M2 mo d4 d5 d6 d7 d8 d9 d10 d11 d12 d13 d14 d15 d16} hb2 hm2 hs2 => by
    rw [← hS2]
    exact rd_s2 hq0 hT0 hl h1 h3 hb2 hm2 ha hs2 hnx
  unfold t_law_s1
  rw [hS2]
  rw [dFz_ap]
  refine ⟨p, _, rfl, hp, ?_⟩
  have hm2 : rm M' p a = some mo := by rw [rm_ne hpa]; exact hm
  have hs2 : Sub M (rm M' p) := hs.rm hMp
  have hpl : Pl 2 (.lst (rs.map rD)) = true := pl_lst (pl_rls hr) (by rw [List.length_map]; omega)
  generalize rm M' p = M3 at hm2 hs2
  have hld := lets_ld hl h1 h3
  have hTT : ∀ {M4 : Mp}, Sub M M4 → M4 c.T_law = some (.tab l1.q) := fun {M4} h4 => by rw [h4 _ _ hT0]; exact congrArg some (congrArg MO.tab hq1.symm)
  have hpl2 : ∀ (t : Str) (k : Nat), PyData.strOk t = true → Pl 1 (.tup [.str t, .int (k : Nat)]) = true := fun t k ht => pl_tup (pl_cons (pl_s ht) (pl_cons pl_int pl_nil)) (by show 2 ≤ 1000000; decide)
  walk_at "dl"
  refine ⟨l, rs, rfl, hlo, by omega, by omega, hr, fun hf => ⟨hTT hs2, whyB_1 ?_⟩, fun k hk => ⟨hTT hs2, whyB_1 ?_⟩⟩
  · walk_at "dl"
    refine ⟨l, rs, rfl, by omega, hrz, hr, hld, fun k hk => (by rw [hf] at hk; cases hk), fun _ x d hx => ?_⟩
    have hxa : a ≠ x := fun e => by subst e; rw [hm2] at hx; cases hx
    have h4a : up M3 x (.ins c.Town (twD l rs d)) a = some mo := by rw [up_ne hxa]; exact hm2
    have h4x : up M3 x (.ins c.Town (twD l rs d)) x = some (.ins c.Town (twD l rs d)) := up_same
    have h4s : Sub M (up M3 x (.ins c.Town (twD l rs d))) := hs2.up (sub_none hs2 hx)
    generalize up M3 x (.ins c.Town (twD l rs d)) = M4 at h4a h4x h4s
    have hTn : ∀ {M5 : Mp}, M5 x = some (.ins c.Town (twD l rs d)) → insOf M5 (.ptr x) = some (c.Town, twD l rs d) := fun {M5} h => by
      show (match M5 x with | some (.ins C fs) => some (C, fs) | _ => none) = _
      rw [h]
    have hIn := hTn h4x
    have hisT : isTown c M4 (.ptr x) l rs := ⟨d, hIn⟩
    refine ifF rfl ⟨_, rfl, ?_⟩
    rw [hIn]
    refine ⟨rfl, _, l, rs, rfl, hisT, ?_⟩
    dsimp only
    rw [hIn]
    refine ⟨rfl, _, l, rs, rfl, hisT, by omega, ?_⟩
    dsimp only
    rw [hIn]
    refine ⟨rfl, tw_no (by decide +kernel) (by decide +kernel) (by decide +kernel) (by decide +kernel), _, l, rs, rfl, hisT, .inr ?_⟩
    have hLen : ∀ {M5 : Mp} {Q : DQ}, M5 x = some (.ins c.Town (twD l rs d)) → Q (.int (rs.length : Nat)) M5 → rLenD c.Town (sp_Town___len__ c) [D.ptr x] M5 Q := fun {M5 Q} h5 hq => by
      unfold rLenD
      dsimp only
      rw [hTn h5]
      exact ⟨rfl, _, l, rs, rfl, ⟨d, hTn h5⟩, ⟨by omega, by omega⟩, hq⟩
    refine hLen h4x ⟨line (by decide), line (by rw [T_len]; omega), line (by decide), _, atI_head, ?_⟩
    rw [rEqW_ss, strSelf]
    refine ifF rfl ?_
    rw [T_len, List.length_map]
    refine ⟨_, rfl, pl_lst (pl_cons (pl_T hla) (pl_cons pl_int (pl_cons (pl_lst (pl_rls hr) (by rw [List.length_map]; omega)) (pl_cons pl_int pl_nil)))) (by show 4 ≤ _; decide), ?_⟩
    have t1 := ilen (nlog (show l.length ≤ 1000 by omega))
    have t2 := ilen (nlog (show rs.length ≤ 1000 by omega))
    refine ifF rfl ⟨line (by omega), nlog (by omega), by walk_at "st", by walk_at "st", nlog (by omega), by walk_at "st", by walk_at "st", ?_⟩
    have hRep : ∀ {Q : DQ}, Q (.str (twS l.length rs.length)) M4 → rReprD c.Town (sp_Town___repr__ c) [D.ptr x] M4 Q := fun {Q} hq => by
      unfold rReprD
      dsimp only
      rw [hIn]
      exact ⟨rfl, _, l, rs, rfl, hisT, by omega, by omega, hq⟩
    refine hRep ?_
    unfold twS
    rw [rEqW_ss, strSelf]
    refine ifF rfl ?_
    rw [hIn]
    refine ⟨rfl, tw_no (by decide +kernel) (by decide +kernel) (by decide +kernel) (by decide +kernel), _, l, rs, rfl, hisT, .inl fun p7 hp7 => ?_⟩
    have h7a : a ≠ p7 := fun e => by subst e; rw [h4a] at hp7; cases hp7
    have h7x : x ≠ p7 := fun e => by subst e; rw [h4x] at hp7; cases hp7
    refine ⟨⟨rfl, _, by rw [lstOf_p, up_same]⟩, line (by decide), ?_⟩
    rw [rAppend_p, up_same]
    refine ⟨lineT (by rw [List.length_map]; omega), ?_⟩
    rw [up_up]
    have h5a : ∀ {o : MO}, up M4 p7 o a = some mo := fun {o} => by rw [up_ne h7a]; exact h4a
    have h5x : ∀ {o : MO}, up M4 p7 o x = some (.ins c.Town (twD l rs d)) := fun {o} => by rw [up_ne h7x]; exact h4x
    have h5s : ∀ {o : MO}, Sub M (up M4 p7 o) := fun {o} => h4s.up (sub_none h4s hp7)
    generalize hM5 : up M4 p7 _ = M5
    have g5a : M5 a = some mo := by rw [← hM5]; exact h5a
    have g5x : M5 x = some (.ins c.Town (twD l rs d)) := by rw [← hM5]; exact h5x
    have g5s : Sub M M5 := by rw [← hM5]; exact h5s
    have gIn := hTn g5x
    have gis : isTown c M5 (.ptr x) l rs := ⟨d, gIn⟩
    rw [gIn]
    refine ⟨rfl, tw_no (by decide +kernel) (by decide +kernel) (by decide +kernel) (by decide +kernel), _, l, rs, rfl, gis, .inr ?_⟩
    have hplR : ∀ {ss : List Rl}, (∀ r ∈ ss, RlOk r) → ss.length ≤ 7 → Pl 2 (.lst (ss.map rD)) = true := fun h hz => pl_lst (pl_rls h) (by rw [List.length_map]; omega)
    have rlEq : ∀ {f g : List Rl}, D.eqv (.lst (f.map rD)) (.lst (g.map rD)) = decide (f = g) := fun {f g} => by
      unfold D.eqv
      rw [D.py, D.py, PyData.eqv]
      exact rls_eqv f g
    refine rEqW_ll (n := 2) (hplR hr hrz) (hplR hr hrz) (by decide) ?_
    rw [rlEq, decide_eq_true rfl]
    refine ifF rfl ⟨line (by decide), ?_⟩
    have no : ∀ {e : D} {Q : DQ}, (tyN M5 e).isSome = true → Q (.bl false) M5 → sp_Town___eq__ c [D.ptr x, e] M5 Q noX := fun {e Q} he hq => ⟨_, e, l, rs, rfl, gis, hla, by omega, hr, .inl ⟨he, hq⟩⟩
    refine ⟨⟨_, gIn⟩, trivial, no rfl ?_⟩
    simp only [DL.qB, Bool.false_eq_true, if_false]
    refine ⟨⟨_, gIn⟩, ⟨_, rfl⟩, no rfl ?_⟩
    simp only [DL.qB, Bool.false_eq_true, if_false]
    refine ⟨⟨_, gIn⟩, trivial, no rfl ?_⟩
    simp only [DL.qB, Bool.false_eq_true, if_false]
    refine ⟨⟨_, gIn⟩, ?_⟩
    unfold inChD
    refine ifF rfl ?_
    obtain ⟨hok, hn6⟩ := fb_none hf
    have hr6 : rs.length ≤ 6 := by
      rcases rs with _ | ⟨y, rs⟩
      · exact Nat.zero_le _
      · have := hn6 (by simp); omega
    refine ⟨_, l, rs, rfl, rfl, by omega, by omega, hr, hld, hf, fun y d3 hy => ?_⟩
    have hxy : x ≠ y := fun e => by subst e; rw [g5x] at hy; cases hy
    have hay : a ≠ y := fun e => by subst e; rw [g5a] at hy; cases hy
    have k5a : up M5 y (.ins c.Town (twD l rs d3)) a = some mo := by rw [up_ne hay]; exact g5a
    have k5x : up M5 y (.ins c.Town (twD l rs d3)) x = some (.ins c.Town (twD l rs d)) := by rw [up_ne hxy]; exact g5x
    have k5y : up M5 y (.ins c.Town (twD l rs d3)) y = some (.ins c.Town (twD l rs d3)) := up_same
    have k5s : Sub M (up M5 y (.ins c.Town (twD l rs d3))) := g5s.up (sub_none g5s hy)
    generalize up M5 y (.ins c.Town (twD l rs d3)) = M6 at k5a k5x k5y k5s
    have eqT : ∀ {M : Mp} {u v : Addr} {f g : List Rl} {du dv : D} {neg : Bool} {Q : DQ}, M u = some (.ins c.Town (twD l f du)) → M v = some (.ins c.Town (twD l g dv)) → (∀ r ∈ f, RlOk r) → (∀ r ∈ g, RlOk r) → f.length ≤ 7 → g.length ≤ 7 → Q (.bl (neg ^^ decide (l = l ∧ f = g))) M → DL.rEqD neg c.Town (sp_Town___eq__ c) noX (.ptr u) (.ptr v) M Q := fun {M u v f g du dv neg Q} hu hv hf hg hfz hgz hq => by
      have iu : insOf M (.ptr u) = some (c.Town, twD l f du) := by
        show (match M u with | some (.ins C fs) => some (C, fs) | _ => none) = _
        rw [hu]
      have iv : insOf M (.ptr v) = some (c.Town, twD l g dv) := by
        show (match M v with | some (.ins C fs) => some (C, fs) | _ => none) = _
        rw [hv]
      unfold DL.rEqD
      rw [iu]
      exact ⟨rfl, .inr ⟨_, iv⟩, _, _, l, f, rfl, ⟨_, iu⟩, hla, by omega, hf, .inr ⟨l, g, ⟨_, iv⟩, hla, by omega, hg, hq⟩⟩
    refine eqT k5x k5y hr hr hrz hrz ?_
    rw [decide_eq_true ⟨rfl, rfl⟩]
    refine ifF rfl ?_
    rw [← List.map_reverse]
    have hrr : ∀ r ∈ rs.reverse, RlOk r := fun r h => hr r (List.mem_reverse.mp h)
    have hrrz : rs.reverse.length ≤ 7 := by rw [List.length_reverse]; exact hrz
    refine rEqW_ll (n := 2) (hplR hr hrz) (hplR hrr hrrz) (by decide) ?_
    rw [rlEq]
    by_cases hrev : rs = rs.reverse
    · rw [decide_eq_true hrev]
      exact ifF rfl (tail hb k5a k5s)
    · rw [decide_eq_false hrev]
      refine ifT rfl ⟨_, l, rs.reverse, rfl, rfl, by omega, by omega, hrr, hld, fb_all (fun r h => hok r (List.mem_reverse.mp h)) (by rw [List.length_reverse]; omega), fun z d4 hz4 => ?_⟩
      have hxz : x ≠ z := fun e => by subst e; rw [k5x] at hz4; cases hz4
      have haz : a ≠ z := fun e => by subst e; rw [k5a] at hz4; cases hz4
      refine eqT (by rw [up_ne hxz]; exact k5x) up_same hr hrr hrz hrrz ?_
      rw [decide_eq_false (fun h => hrev h.2)]
      exact ifF rfl (tail hb (by rw [up_ne haz]; exact k5a) (k5s.up (sub_none k5s hz4)))
  · walk_at "dl"
    refine ⟨l, rs, rfl, by omega, hrz, hr, hld, fun k2 hk2 M2 hM2 => ?_, fun h => (by rw [hk] at h; cases h)⟩
    rw [hk] at hk2
    cases hk2
    refine whyX_of (t := "InvalidRule") (d := .int (k : Nat)) (List.mem_cons_of_mem _ List.mem_cons_self) (by kernel_rfl) ?_
    refine ifT rfl ⟨line (by decide), rEqW_tt (n := 1) (hpl2 _ k (by decide +kernel)) (hpl2 _ k (by decide +kernel)) (by decide) ?_⟩
    rw [show D.eqv (.tup [.str (Str.ofString "InvalidRule"), .int (k : Nat)]) (.tup [.str (Str.ofString "InvalidRule"), .int (k : Nat)]) = true from pl_self (hpl2 _ k (by decide +kernel))]
    exact ifF rfl (tail hb (hM2 _ _ hm2) (fun a mo e => hM2 _ _ (hs2 _ _ e)))
theorem fold_rep (a : List Nat) : ∀ (k : Nat) (acc : Array Nat), (List.replicate k a.toArray).foldl (· ++ ·) acc = acc ++ ((List.replicate k a).flatten).toArray
  | 0, acc => by simp
  | k + 1, acc => by
    rw [List.replicate_succ, List.foldl_cons, fold_rep a k, List.replicate_succ, List.flatten_cons]
    simp
theorem mul_T (l : List Nat) {n : Int} : Txt.mul (T l) n = T (List.replicate n.toNat l).flatten := by
  unfold Txt.mul
  by_cases h : n < 1
  · rw [if_pos h, show n.toNat = 0 by omega]; rfl
  · rw [if_neg h]
    by_cases h2 : (n == 1 || (T l).length == 0) = true
    · rw [if_pos h2]
      rw [Bool.or_eq_true] at h2
      rcases h2 with h2 | h2
      · have : n = 1 := by simpa using h2
        subst this
        simp
      · rw [T_len] at h2
        have : l = [] := by simpa using h2
        subst this
        congr 1
        generalize n.toNat = k
        induction k with
        | zero => rfl
        | succ k ih => rw [List.replicate_succ, List.flatten_cons, ← ih]; rfl
    · rw [if_neg h2]
      show (⟨_⟩ : Str) = ⟨_⟩
      congr 1
      have := fold_rep l n.toNat #[]
      show (List.replicate n.toNat l.toArray).foldl (· ++ ·) #[] = (List.replicate n.toNat l).flatten.toArray
      rw [this]
      simp
theorem mulOk_T {l : List Nat} {n : Int} (h : -1000000 ≤ n) (h2 : n ≤ 1000000) (hz : l.length ≤ 1000000) (hz2 : l.length * n.toNat ≤ 1000000) : MulOk (T l) n := by
  refine ⟨?_, fun h1 _ => ?_, fun h1 _ => ?_⟩
  · rw [Bool.or_eq_false_iff]; exact ⟨decide_eq_false (by omega), decide_eq_false (by omega)⟩
  · rw [T_len]
    have : (1000000 : Int) ≤ (2 ^ 63 - 1) / n := by
      rw [Int.le_ediv_iff_mul_le (by omega)]
      omega
    omega
  · rw [T_len]; exact decide_eq_false (by have := line hz2; omega)
theorem dg2 {a b : D} {e0 e1 e2 e3 e4 e5 e6 e7 e8 e9 e10 e11 e12 e13 e14 e15 e16 : Option D} {M : Mp} {R : DSt → Mp → Prop} (h : R [e0, e1, e2, e3, e4, e5, e6, some a, some b, e9, e10, e11, e12, e13, e14, e15, e16] M) : dgTup 2 (dgCons (dgName 7) (dgCons (dgName 8) dgNil)) (.tup [a, b]) [e0, e1, e2, e3, e4, e5, e6, e7, e8, e9, e10, e11, e12, e13, e14, e15, e16] M R := by
  walk_at "dl"
  exact h
theorem rd_law : ∀ l0 l1 : LamD, l0.q = q_law → l1.q = q_law → ∀ ds M Q E0, sp_law c ds M Q E0 → t_law c l0 l1 (bodyE K Q) (startD ["_law_script", "_law_box", "_law_turn", "_law_letters_here", "_law_some", "_law_at", "_law_long", "_law_one", "_law_other", "_law_odd", "_law_first", "_law_told", "_law_made_here", "_law_found", "_law_due", "_law_text", "_law_k"] ds) M := by
  rintro l0 l1 hq0 hq1 ds M Q E0 ⟨ms, rfl, hz, hMT, q⟩
  have hT0 : M c.T_law = some (.tab qL) := by rw [hMT]; simp [tabM]
  generalize hSP : spW 2 100 (sp_Town___init__ c) = SP
  unfold t_law
  rw [hSP]
  walk_at "dl"
  refine ⟨ms, rfl, hz, fun a mo ha hb => ?_⟩
  walk_at "dl"
  refine for_pre (M1 := up M a mo) (kp := fun _ => True) [0, 1, 2, 3] (fun i : Int => D.int i) (fun _ env M' => ∃ mo d2 d3 d4 d5 d6 d7 d8 d9 d10 d11 d12 d13 d14 d15 d16, BoxOk mo ∧ M' a = some mo ∧ Sub M M' ∧ env = [some (.lsx (ms.map D.int)), some (.ptr a), d2, d3, d4, d5, d6, d7, d8, d9, d10, d11, d12, d13, d14, d15, d16]) (fun R h => ?_) ⟨mo, _, _, _, _, _, _, _, _, _, _, _, _, _, _, _, hb, up_same, Sub.refl.up ha, rfl⟩ (fun _ _ _ _ => True.intro) ?_ ?_
  · walk_at "dl"
    exact ⟨by decide, h⟩
  · rintro pre x post env M' e ⟨mo1, d2, d3, d4, d5, d6, d7, d8, d9, d10, d11, d12, d13, d14, d15, d16, hb1, hm1, hs1, rfl⟩
    walk_at "dl"
    refine ⟨a, 3, mo1, rfl, by decide, by decide, hm1, hb1, fun r mo2 h0 h1 hb2 => ?_⟩
    obtain ⟨n, rfl⟩ : ∃ n : Nat, r = n := ⟨r.toNat, by omega⟩
    walk_at "dl"
    refine ⟨a, 1 + n, mo2, by rw [show (1 : Int) + n = ((1 + n : Nat) : Int) by omega], by omega, up_same, hb2, fun l mo3 hl hll hb3 => ?_⟩
    dsimp only
    rw [dLcM_un]
    obtain ⟨hlo, hla⟩ := Lets.lo hl
    have hsg : ∀ x ∈ sgn l, x < 128 := fun x hx => by
      unfold sgn at hx
      obtain ⟨y, hy, hxy⟩ := List.mem_flatMap.mp hx
      have := isLo_lt (hlo y hy)
      simp only [List.mem_cons, List.not_mem_nil, or_false] at hxy
      rcases hxy with rfl | rfl <;> omega
    have hm3 : up (up M' a mo2) a mo3 a = some mo3 := up_same
    have hs3 : Sub M (up (up M' a mo2) a mo3) := by rw [up_up]; exact hs1.up ha
    generalize up (up M' a mo2) a mo3 = M3 at hm3 hs3
    generalize hS1 : t_law_s1 c l0 l1 = S1
    walk_at "dl"
    refine ⟨a, 8, mo3, rfl, by decide, by decide, hm3, hb3, fun r2 mo4 q0 q1 hb4 => ?_⟩
    obtain ⟨n2, rfl⟩ : ∃ n2 : Nat, r2 = n2 := ⟨r2.toNat, by omega⟩
    walk_at "dl"
    refine ⟨by omega, ?_⟩
    refine lcMB_st (xs := List.range (n2 : Int).toNat) (fun i => D.int (0 + (i : Nat))) (fun pre acc M'' => ∃ (rs : List Rl) (mo' : MO), acc = rs.map rD ∧ rs.length = pre.length ∧ rs.length ≤ 7 ∧ (∀ r ∈ rs, ∃ w1 w2, r = [w1, w2] ∧ Asc w1 ∧ Asc w2 ∧ w1.length ≤ 16 ∧ w2.length ≤ 16) ∧ BoxOk mo' ∧ M'' a = some mo' ∧ Sub M M'') ⟨[], mo4, rfl, rfl, by decide, fun r hr => absurd hr List.not_mem_nil, hb4, up_same, hs3.up ha⟩ (fun _ _ _ _ => True.intro) ?_ ?_ ?_
    · rintro pre acc M'' ⟨rs, mo', rfl, _, h, _⟩
      rw [List.length_map]; exact lineT (by omega)
    · rintro pre2 y post2 acc M'' e2 ⟨rs, mo', rfl, g1, g2, g3, g4, g5, g6⟩ R hR
      have hpre2 : pre2.length < n2 := by
        have := congrArg List.length e2
        simp only [List.length_range, List.length_append, List.length_cons] at this
        omega
      walk_at "dl"
      refine ⟨a, l, 16, mo', rfl, hlo, by omega, by omega, by decide, g5, g4, fun w1 mo5 u1 u2 hb5 => ?_⟩
      refine ⟨a, l, 5, mo5, rfl, hlo, by omega, by omega, by decide, up_same, hb5, fun w2 mo6 v1 v2 hb6 => ⟨line (by decide), ?_⟩⟩
      rw [up_up]
      refine hR _ _ ⟨rs ++ [[w1, w2]], mo6, by rw [List.map_append]; rfl, by simp [g1], by rw [List.length_append, List.length_singleton]; omega, fun r hr => ?_, hb6, up_same, g6.up ha⟩
      rcases List.mem_append.mp hr with z | z
      · exact g3 r z
      · exact ⟨w1, w2, List.mem_singleton.mp z, fun x hx => hsg x (u2 x hx), fun x hx => hsg x (v2 x hx), by omega, by omega⟩
    · rintro acc M'' ⟨rs, mo5, rfl, g1, g2, g3, g4, g5, g6⟩ p hp
      have hpa : a ≠ p := fun e => by subst e; rw [g5] at hp; cases hp
      have hMp : M p = none := sub_none g6 hp
      have hrk : ∀ r ∈ rs, RlOk r := fun r hr => by
        obtain ⟨w1, w2, rfl, z1, z2, z3, z4⟩ := g3 r hr
        refine ⟨by show 2 ≤ 1000; decide, fun w hw => ?_⟩
        simp at hw
        rcases hw with rfl | rfl
        · exact ⟨z1, by omega⟩
        · exact ⟨z2, by omega⟩
      have hE : ∀ {E : DEnds} (hnx : ∀ (mo : MO) (M2 : Mp) (d4 d5 d6 d7 d8 d9 d10 d11 d12 d13 d14 d15 d16 : Option D), BoxOk mo → M2 a = some mo → Sub M M2 → E.nx [some (.lsx (ms.map D.int)), some (.ptr a), some (.int x), some (.str (T l)), d4, d5, d6, d7, d8, d9, d10, d11, d12, d13, d14, d15, d16] M2) {M2 : Mp} {rs2 : List Rl} {mo : MO} {d5 d6 d7 d8 d9 : Option D}, BoxOk mo → M2 a = some mo → Sub M M2 → M2 p = some (.lst (rs2.map rD)) → rs2.length ≤ 7 → (∀ r ∈ rs2, RlOk r) → S1 E [some (.lsx (ms.map D.int)), some (.ptr a), some (.int x), some (.str (T l)), some (.ptr p), d5, d6, d7, d8, d9, d10, d11, d12, d13, d14, d15, d16] M2 := fun {E} hnx {M2 rs2 mo d5 d6 d7 d8 d9} hb2 hm2 hs2 hp2 hz2 hr2 => by
        rw [← hS1]
        exact rd_s1 hq0 hq1 hT0 hl (by omega) (by omega) hb2 hm2 ha hs2 hp2 hMp hpa hz2 hr2 hnx
      have hplr : ∀ d ∈ rs.map rD, Pl 2 d = true := pl_rls hrk
      refine ⟨line (by decide), ?_⟩
      rw [rEqW_p0 (n := 2) up_same hplr (by rw [List.length_map]; omega) (by decide)]
      have k5a : up M'' p (.lst (rs.map rD)) a = some mo5 := by rw [up_ne hpa]; exact g5
      have k5p : up M'' p (.lst (rs.map rD)) p = some (.lst (rs.map rD)) := up_same
      have k5s : Sub M (up M'' p (.lst (rs.map rD))) := g6.up hMp
      generalize up M'' p (.lst (rs.map rD)) = M5 at k5a k5p k5s
      refine fm_if (fun hne => ?_) fun _ => (by
        refine hE ?_ g4 k5a k5s k5p g2 hrk
        exact fun mo M2 d4 d5 d6 d7 d8 d9 d10 d11 d12 d13 d14 d15 d16 u1 u2 u3 => ⟨mo, _, _, _, _, _, _, _, _, _, _, _, _, _, _, _, u1, u2, u3, rfl⟩)
      have hrs1 : 1 ≤ rs.length := by
        rcases rs with _ | ⟨r0, rs⟩
        · cases hne
        · simp
      refine ⟨a, 2, mo5, rfl, by decide, by decide, k5a, g4, fun r3 mo6 q2 q3 hb6 => ?_⟩
      dsimp only
      rw [rEqW_ii]
      have k6a : up M5 a mo6 a = some mo6 := up_same
      have k6p : up M5 a mo6 p = some (.lst (rs.map rD)) := by rw [up_ne hpa.symm]; exact k5p
      have k6s : Sub M (up M5 a mo6) := k5s.up ha
      generalize up M5 a mo6 = M6 at k6a k6p k6s
      refine fm_if (fun _ => ?_) fun _ => (by
        refine hE ?_ hb6 k6a k6s k6p g2 hrk
        exact fun mo M2 d4 d5 d6 d7 d8 d9 d10 d11 d12 d13 d14 d15 d16 u1 u2 u3 => ⟨mo, _, _, _, _, _, _, _, _, _, _, _, _, _, _, _, u1, u2, u3, rfl⟩)
      rw [rLen_p, lstOf_p, k6p]
      dsimp only
      rw [List.length_map]
      refine ⟨a, _, mo6, rfl, by omega, by omega, k6a, hb6, fun r4 mo7 q4 q5 hb7 => ?_⟩
      obtain ⟨k, rfl⟩ : ∃ k : Nat, r4 = k := ⟨r4.toNat, by omega⟩
      have hkr : k < rs.length := by omega
      have k7a : up M6 a mo7 a = some mo7 := up_same
      have k7p : up M6 a mo7 p = some (.lst (rs.map rD)) := by rw [up_ne hpa.symm]; exact k6p
      have k7s : Sub M (up M6 a mo7) := k6s.up ha
      generalize up M6 a mo7 = M7 at k7a k7p k7s
      obtain ⟨x0, tl, hlx⟩ : ∃ x0 tl, l = x0 :: tl := by
        match l, (show 1 ≤ l.length by omega) with
        | x0 :: tl, _ => exact ⟨x0, tl, rfl⟩
      rw [T_len, T_cps]
      refine ⟨line (by omega), x0, by rw [hlx]; exact atI_head, ?_⟩
      rw [T_one]
      refine ⟨mulOk_T (by decide) (by decide) (by show 1 ≤ 1000000; decide) (by show 17 ≤ 1000000; decide), ?_⟩
      rw [mul_T, rIxD_p, lstOf_p, k7p]
      obtain ⟨w1, w2, hrw, z1, z2, z3, z4⟩ := g3 rs[k] (List.getElem_mem hkr)
      have hrsk : rs[k]? = some [w1, w2] := by rw [List.getElem?_eq_getElem hkr, hrw]
      refine ⟨_, atI_map hrsk, ?_⟩
      have hlong : (List.replicate (Int.toNat 17) [x0]).flatten.length = 17 := by simp [List.length_flatten]
      have hx0 : x0 < 128 := hla x0 (by rw [hlx]; simp)
      have hlongA : Asc (List.replicate (Int.toNat 17) [x0]).flatten := fun y hy => by
        obtain ⟨z, hz, hyz⟩ := List.mem_flatten.mp hy
        rw [List.eq_of_mem_replicate hz] at hyz
        rw [List.mem_singleton.mp hyz]; exact hx0
      generalize (List.replicate (Int.toNat 17) [x0]).flatten = lg at hlong hlongA
      refine dg2 ?_
      walk_at "dl"
      have eq1 : Str.ofString "?" = T [63] := by decide +kernel
      have eq2 : Str.ofString "1" = T [49] := by decide +kernel
      rw [eq1, eq2, T_app, T_app]
      refine ⟨line (by decide), line (by decide), line (by decide), by rw [T_len, T_len]; exact line (by simp only [List.length_singleton]; omega), line (by decide), line (by decide), by rw [T_len, T_len]; exact line (by simp only [List.length_singleton]; omega), line (by decide), line (by decide), line (by decide), a, _, mo7, rfl, by show 1 ≤ 7; decide, by show 7 ≤ _; decide, k7a, hb7, fun d mo8 hd hb8 => ?_⟩
      have hd2 : ∃ r2 : Rl, RlOk r2 ∧ d = rD r2 := by
        have two : ∀ {u v : List Nat}, Asc u → Asc v → u.length ≤ 10000 → v.length ≤ 10000 → RlOk [u, v] := fun {u v} au av lu lv => ⟨by show 2 ≤ 1000; decide, fun w hw => by
          simp at hw
          rcases hw with rfl | rfl
          · exact ⟨au, lu⟩
          · exact ⟨av, lv⟩⟩
        have as : ∀ {u : List Nat} {y : Nat}, Asc u → y < 128 → Asc (u ++ [y]) := fun {u y} au hy z hz => by
          rcases List.mem_append.mp hz with q | q
          · exact au z q
          · rw [List.mem_singleton.mp q]; exact hy
        simp only [List.mem_cons, List.not_mem_nil, or_false] at hd
        rcases hd with rfl | rfl | rfl | rfl | rfl | rfl | rfl
        · exact ⟨[w1], ⟨by show 1 ≤ 1000; decide, fun w hw => by rw [List.mem_singleton.mp hw]; exact ⟨z1, by omega⟩⟩, rfl⟩
        · exact ⟨[w1, w2, w1], ⟨by show 3 ≤ 1000; decide, fun w hw => by
            rcases List.mem_cons.mp hw with rfl | hw
            · exact ⟨z1, by omega⟩
            · rcases List.mem_cons.mp hw with rfl | hw
              · exact ⟨z2, by omega⟩
              · rw [List.mem_singleton.mp hw]; exact ⟨z1, by omega⟩⟩, rfl⟩
        · exact ⟨[], ⟨by show 0 ≤ 1000; decide, fun w hw => absurd hw List.not_mem_nil⟩, rfl⟩
        · exact ⟨[w1, w2 ++ [63]], two z1 (as z2 (by decide)) (by omega) (by rw [List.length_append, List.length_singleton]; omega), rfl⟩
        · exact ⟨[lg, w2], two hlongA z2 (by omega) (by omega), rfl⟩
        · exact ⟨[w1 ++ [49], w2], two (as z1 (by decide)) z2 (by rw [List.length_append, List.length_singleton]; omega) (by omega), rfl⟩
        · exact ⟨[w1, lg], two z1 hlongA (by omega) (by omega), rfl⟩
      obtain ⟨r2, hr2, rfl⟩ := hd2
      have k8p : up M7 a mo8 p = some (.lst (rs.map rD)) := by rw [up_ne hpa.symm]; exact k7p
      have k8a : up M7 a mo8 a = some mo8 := up_same
      have k8s : Sub M (up M7 a mo8) := k7s.up ha
      generalize up M7 a mo8 = M8 at k8p k8a k8s
      dsimp only
      rw [k8p]
      have hix : ixN (rs.map rD).length (k : Int) = some k := by
        rw [List.length_map]
        unfold ixN
        simp [hkr]
      refine ⟨k, hix, ?_⟩
      refine hE ?_ hb8 (by rw [up_ne hpa]; exact k8a) (k8s.up hMp) (rs2 := rs.set k r2) (by rw [up_same, List.map_set]) (by rw [List.length_set]; exact g2) fun r hr => ?_
      · exact fun mo M2 d4 d5 d6 d7 d8 d9 d10 d11 d12 d13 d14 d15 d16 u1 u2 u3 => ⟨mo, _, _, _, _, _, _, _, _, _, _, _, _, _, _, _, u1, u2, u3, rfl⟩
      · rcases List.mem_or_eq_of_mem_set hr with z | z
        · exact hrk r z
        · rw [z]; exact hr2
  · rintro env M' ⟨mo1, d2, d3, d4, d5, d6, d7, d8, d9, d10, d11, d12, d13, d14, d15, d16, hb1, hm1, hs1, rfl⟩
    walk_at "dl"
    have eab : Str.ofString "ab" = T [97, 98] := by decide +kernel
    have eba : Str.ofString "ba" = T [98, 97] := by decide +kernel
    have ea : Str.ofString "a" = T [97] := by decide +kernel
    rw [eab, eba, ea, ← hSP]
    have mk2 : ∀ {l : List Nat} {M : Mp} {x : Addr} {Q : DQ}, M x = none → l.length ≤ 1000 → ld l = none → (∀ d, Q .non (up M x (.ins c.Town (twD l [] d)))) → spW 2 100 (sp_Town___init__ c) [.ptr x, .str (T l)] (up M x (.ins c.Town [])) Q noX := fun {l M x Q} hx hz hld hq =>
      mk_town (rs := []) hx hz (by decide) (fun r hr => absurd hr List.not_mem_nil) (fun k hk => by rw [hld] at hk; cases hk) fun _ => ⟨fun k hk => (by cases hk), fun _ d => hq d⟩
    have neT : ∀ {M : Mp} {u v : Addr} {f g : List Nat} {du dv : D} {Q : DQ}, M u = some (.ins c.Town (twD f [] du)) → M v = some (.ins c.Town (twD g [] dv)) → Asc f → Asc g → f ≠ g → Q (.bl true) M → DL.rEqD true c.Town (sp_Town___eq__ c) noX (.ptr u) (.ptr v) M Q := fun {M u v f g du dv Q} hu hv hf hg hne hq => by
      have iu : insOf M (.ptr u) = some (c.Town, twD f [] du) := by
        show (match M u with | some (.ins C fs) => some (C, fs) | _ => none) = _
        rw [hu]
      have iv : insOf M (.ptr v) = some (c.Town, twD g [] dv) := by
        show (match M v with | some (.ins C fs) => some (C, fs) | _ => none) = _
        rw [hv]
      unfold DL.rEqD
      rw [iu]
      refine ⟨rfl, .inr ⟨_, iv⟩, _, _, f, [], rfl, ⟨_, iu⟩, hf, by decide, fun r hr => absurd hr List.not_mem_nil, .inr ⟨g, [], ⟨_, iv⟩, hg, by decide, fun r hr => absurd hr List.not_mem_nil, ?_⟩⟩
      rw [decide_eq_false (fun h => hne h.1)]
      exact hq
    refine ifT rfl fun x hx => mk2 hx (by decide) (by decide +kernel) fun d => ⟨rfl, fun y hy => mk2 hy (by decide) (by decide +kernel) fun d' => ⟨rfl, ?_⟩⟩
    have hxy : x ≠ y := fun e => by subst e; rw [up_same] at hy; cases hy
    have hy1 : M' y = none := by rw [up_ne hxy.symm] at hy; exact hy
    refine neT (by rw [up_ne hxy]; exact up_same) up_same (by decide) (by decide) (by decide) ?_
    refine ifT rfl fun z hz => mk2 hz (by decide) (by decide +kernel) fun d3 => ⟨rfl, fun t ht => mk2 ht (by decide) (by decide +kernel) fun d4 => ⟨rfl, ?_⟩⟩
    have hzt : z ≠ t := fun e => by subst e; rw [up_same] at ht; cases ht
    refine neT (by rw [up_ne hzt]; exact up_same) up_same (by decide) (by decide) (by decide) ?_
    have s1 := hs1.up (o := .ins c.Town (twD [97, 98] [] d)) (sub_none hs1 hx)
    have s2 := s1.up (o := .ins c.Town (twD [98, 97] [] d')) (sub_none s1 hy)
    have s3 := s2.up (o := .ins c.Town (twD [97] [] d3)) (sub_none s2 hz)
    have s4 := s3.up (o := .ins c.Town (twD [97, 98] [] d4)) (sub_none s3 ht)
    exact Fin.drop s4 q
end
end K12
namespace K12
open PySem PySem.Spec PyProof.Rows L2 DL PRE LamN
local macro_rules | `(tactic| walk_at "dl") => `(tactic| simp only [exists_eq', exists_eq, List.take_nil, List.take_succ_cons, List.take_zero, decide_false, decide_true, dFld_ap, dSetF_ap, dAugF_ap, dMeth_ap, dMake_ap, dProp_ap, insOf_p, insOf_o, dNever_ap, bodyE_rt, bodyE_nx, dVar_ap, dC_ap, dOp_ap, dTB_ap, dTru_ap, dAnd_ap, dOr_ap, dNot_ap, dNotV_ap, dAndV_ap, dOrV_ap, dIf_ap, dIsN_ap, dNext_ap, dSeq_ap, dBreak_ap, dCont_ap, dDrop_ap, dRet_ap, dRetN_ap, dIfS_ap, dgName_ap, dgNil_ap, dgCons_ap, dgTup_ap, dgSub_ap, dAsg_ap, dPar_ap, dAug_ap, dNil_ap, dCons_ap, dTup_ap, dLst_ap, dLstM_ap, dCB_ap, dBM_ap, dBM0_ap, dCall_ap, dCallK_ap, dRev_s, dSl_ap, dPart_ap, dUn_ap, dChain_ap, dIsi_ap, dIsi2_ap, dIter_ap, dIterT_ap, dIterS_ap, dRng1_ap, dRng2_ap, rMulX_ii, rMulX_si, dFmt_ap, fmtD_s, fmtD_i, dJoined_ap, dJs_nil, dJs_cons, jStep_s, dCallK_ap, dNil_ap, rAdd_ii, rAdd_ss, rAdd_tt, rAdd_ll, rSub_ii, rInt2_ii, rNeg_i, rOrd_ii, rOrd_ss, rIadd_ii, rIadd_ss, rEqW_ii, rEqW_ss, rEqW_bb, rIn_ss, rIxD_l, rIxD_x, rIxD_t, rIxD_s, rIxD_p, lstOf_p, lstOf_l, lstOf_x, rSlD_s, rSlD_t, rSlD_l, rSlD_x, rLen_s, rLen_t, rLen_l, rLen_x, rLen_p, rAbs_i, rInt_i, rInt_b, rToListA_t, rToListA_l, rToListA_s, rToListM_t, rToListM_l, rToTup_t, rToTup_l, rToTup_p, rSum_ap, rAll_ap, rAny_ap, rStrN_i, rMax2_ii, rMin2_ii, rS0_ap, rS1_ap, tyD_s, tyD_p, tyD_l, rJoin_l, rJoin_p, rAppend_p, rPop_p, startD, wipeD, List.map_cons, List.map_nil, List.cons_append, List.nil_append, List.append_nil, List.length_cons, List.length_nil, List.getElem?_cons_zero, List.getElem?_cons_succ, List.set_cons_zero, List.set_cons_succ, List.replicate, Nat.reduceAdd, Nat.reduceSub, Nat.sub_zero, up_same, up_up, Bool.false_xor, Bool.true_xor, Bool.not_true, Bool.not_false, if_true, if_false, Bool.false_eq_true, and_true, true_and, ite_true, ite_false, reduceIte, reduceCtorEq, Option.some.injEq, exists_eq_left', exists_eq_left, dCallX_ap, dWhy_ap, dLam_ap, dRaise_ap, dEnumL_ap, dEnumT_ap, dEnumS_ap, dZip_ap, T_beq, T_app, rMulT_ii, rMulT_ti, rFdivZ_ii, rMulW_ii, dMakeX_ap, dMethX_ap, dCallKX_ap, dgTupL_ap, dFz_ap])
local macro_rules | `(tactic| walk_at "dlh") => `(tactic| simp only [exists_eq', exists_eq, List.take_nil, List.take_succ_cons, List.take_zero, decide_false, decide_true, dFld_ap, dSetF_ap, dAugF_ap, dMeth_ap, dMake_ap, dProp_ap, insOf_p, insOf_o, dNever_ap, bodyE_rt, bodyE_nx, dVar_ap, dC_ap, dOp_ap, dTB_ap, dTru_ap, dAnd_ap, dOr_ap, dNot_ap, dNotV_ap, dAndV_ap, dOrV_ap, dIf_ap, dIsN_ap, dNext_ap, dSeq_ap, dBreak_ap, dCont_ap, dDrop_ap, dRet_ap, dRetN_ap, dIfS_ap, dgName_ap, dgNil_ap, dgCons_ap, dgTup_ap, dgSub_ap, dAsg_ap, dPar_ap, dAug_ap, dNil_ap, dCons_ap, dTup_ap, dLst_ap, dLstM_ap, dCB_ap, dBM_ap, dBM0_ap, dCall_ap, dCallK_ap, dRev_s, dSl_ap, dPart_ap, dUn_ap, dChain_ap, dIsi_ap, dIsi2_ap, dIter_ap, dIterT_ap, dIterS_ap, dRng1_ap, dRng2_ap, rMulX_ii, rMulX_si, dFmt_ap, fmtD_s, fmtD_i, dJoined_ap, dJs_nil, dJs_cons, jStep_s, dCallK_ap, dNil_ap, rAdd_ii, rAdd_ss, rAdd_tt, rAdd_ll, rSub_ii, rInt2_ii, rNeg_i, rOrd_ii, rOrd_ss, rIadd_ii, rIadd_ss, rEqW_ii, rEqW_ss, rEqW_bb, rIn_ss, rIxD_l, rIxD_x, rIxD_t, rIxD_s, rIxD_p, lstOf_p, lstOf_l, lstOf_x, rSlD_s, rSlD_t, rSlD_l, rSlD_x, rLen_s, rLen_t, rLen_l, rLen_x, rLen_p, rAbs_i, rInt_i, rInt_b, rToListA_t, rToListA_l, rToListA_s, rToListM_t, rToListM_l, rToTup_t, rToTup_l, rToTup_p, rSum_ap, rAll_ap, rAny_ap, rStrN_i, rMax2_ii, rMin2_ii, rS0_ap, rS1_ap, tyD_s, tyD_p, tyD_l, rJoin_l, rJoin_p, rAppend_p, rPop_p, startD, wipeD, List.map_cons, List.map_nil, List.cons_append, List.nil_append, List.append_nil, List.length_cons, List.length_nil, List.getElem?_cons_zero, List.getElem?_cons_succ, List.set_cons_zero, List.set_cons_succ, List.replicate, Nat.reduceAdd, Nat.reduceSub, Nat.sub_zero, up_same, up_up, Bool.false_xor, Bool.true_xor, Bool.not_true, Bool.not_false, if_true, if_false, Bool.false_eq_true, and_true, true_and, ite_true, ite_false, reduceIte, reduceCtorEq, Option.some.injEq, exists_eq_left', exists_eq_left, dCallX_ap, dWhy_ap, dLam_ap, dRaise_ap, dEnumL_ap, dEnumT_ap, dEnumS_ap, dZip_ap, T_beq, T_app, rMulT_ii, rMulT_ti, rFdivZ_ii, rMulW_ii, dMakeX_ap, dMethX_ap, dCallKX_ap, dgTupL_ap, dFz_ap, *])
local macro_rules | `(tactic| walk_at "len") => `(tactic| (intro ds M Q E h; first | (obtain ⟨_, h1, _⟩ := h; subst h1; rfl) | (obtain ⟨_, _, h1, _⟩ := h; subst h1; rfl) | (obtain ⟨_, _, _, h1, _⟩ := h; subst h1; rfl) | (obtain ⟨_, _, _, _, h1, _⟩ := h; subst h1; rfl) | (obtain ⟨_, _, _, _, _, h1, _⟩ := h; subst h1; rfl) | (obtain ⟨_, _, _, _, _, _, h1, _⟩ := h; subst h1; rfl) | (obtain ⟨_, _, _, _, _, _, _, h1, _⟩ := h; subst h1; rfl) | (obtain ⟨_, _, _, _, _, _, _, _, h1, _⟩ := h; subst h1; rfl) | (obtain ⟨_, _, _, _, _, _, _, _, _, h1, _⟩ := h; subst h1; rfl)))
local macro_rules | `(tactic| walk_at "ln") => `(tactic| (simp only [List.length_cons, List.length_nil, List.length_map, List.length_append, List.length_take, List.length_drop, List.length_reverse, T_len]; omega))
def D_swapped : He.DefD := ⟨("swapped", none), "swapped", "swapped", defArgs s_swapped, defBody s_swapped, defScope s_swapped, [], []⟩
def D_is_word : He.DefD := ⟨("is_word", none), "is_word", "is_word", defArgs s_is_word, defBody s_is_word, defScope s_is_word, [], []⟩
def D_counts_of : He.DefD := ⟨("counts_of", none), "counts_of", "counts_of", defArgs s_counts_of, defBody s_counts_of, defScope s_counts_of, [], []⟩
def D_is_number : He.DefD := ⟨("is_number", none), "is_number", "is_number", defArgs s_is_number, defBody s_is_number, defScope s_is_number, [], []⟩
def D_is_counts : He.DefD := ⟨("is_counts", none), "is_counts", "is_counts", defArgs s_is_counts, defBody s_is_counts, defScope s_is_counts, [], []⟩
def D_minus : He.DefD := ⟨("minus", none), "minus", "minus", defArgs s_minus, defBody s_minus, defScope s_minus, [], []⟩
def D_scaled : He.DefD := ⟨("scaled", none), "scaled", "scaled", defArgs s_scaled, defBody s_scaled, defScope s_scaled, [], []⟩
def D_lead_of : He.DefD := ⟨("lead_of", none), "lead_of", "lead_of", defArgs s_lead_of, defBody s_lead_of, defScope s_lead_of, [], []⟩
def D_least_row : He.DefD := ⟨("least_row", none), "least_row", "least_row", defArgs s_least_row, defBody s_least_row, defScope s_least_row, [], []⟩
def D_normal : He.DefD := ⟨("normal", none), "normal", "normal", defArgs s_normal, defBody s_normal, defScope s_normal, [], []⟩
def D_size_of : He.DefD := ⟨("size_of", none), "size_of", "size_of", defArgs s_size_of, defBody s_size_of, defScope s_size_of, [], []⟩
def D_Table___init__ : He.DefD := ⟨("Table", some "__init__"), "__init__", "Table.__init__", defArgs s_Table___init__, defBody s_Table___init__, defScope s_Table___init__, [.adr (He.dflAt ("Table", some "__init__") 0)], []⟩
def D_check_letters : He.DefD := ⟨("check_letters", none), "check_letters", "check_letters", defArgs s_check_letters, defBody s_check_letters, defScope s_check_letters, [], []⟩
def D_is_rule : He.DefD := ⟨("is_rule", none), "is_rule", "is_rule", defArgs s_is_rule, defBody s_is_rule, defScope s_is_rule, [], []⟩
def D_Town___init__ : He.DefD := ⟨("Town", some "__init__"), "__init__", "Town.__init__", defArgs s_Town___init__, defBody s_Town___init__, defScope s_Town___init__, [], []⟩
def D_Town_letters : GtD := ⟨"Town", "letters", "Town.letters", defArgs s_Town_letters, defBody s_Town_letters, defScope s_Town_letters⟩
def D_Town_width : GtD := ⟨"Town", "width", "Town.width", defArgs s_Town_width, defBody s_Town_width, defScope s_Town_width⟩
def D_Town_rules : He.DefD := ⟨("Town", some "rules"), "rules", "Town.rules", defArgs s_Town_rules, defBody s_Town_rules, defScope s_Town_rules, [], []⟩
def D_Town_with_rules : He.DefD := ⟨("Town", some "with_rules"), "with_rules", "Town.with_rules", defArgs s_Town_with_rules, defBody s_Town_with_rules, defScope s_Town_with_rules, [], []⟩
def D_Town___len__ : He.DefD := ⟨("Town", some "__len__"), "__len__", "Town.__len__", defArgs s_Town___len__, defBody s_Town___len__, defScope s_Town___len__, [], []⟩
def D_Town___eq__ : He.DefD := ⟨("Town", some "__eq__"), "__eq__", "Town.__eq__", defArgs s_Town___eq__, defBody s_Town___eq__, defScope s_Town___eq__, [], []⟩
def D_Town___repr__ : He.DefD := ⟨("Town", some "__repr__"), "__repr__", "Town.__repr__", defArgs s_Town___repr__, defBody s_Town___repr__, defScope s_Town___repr__, [], []⟩
def D__law_begin : He.DefD := ⟨("_law_begin", none), "_law_begin", "_law_begin", defArgs s__law_begin, defBody s__law_begin, defScope s__law_begin, [], []⟩
def D__law_draw : He.DefD := ⟨("_law_draw", none), "_law_draw", "_law_draw", defArgs s__law_draw, defBody s__law_draw, defScope s__law_draw, [], []⟩
def D__law_any : He.DefD := ⟨("_law_any", none), "_law_any", "_law_any", defArgs s__law_any, defBody s__law_any, defScope s__law_any, [], []⟩
def D__law_same : He.DefD := ⟨("_law_same", none), "_law_same", "_law_same", defArgs s__law_same, defBody s__law_same, defScope s__law_same, [], []⟩
def D__law_letters : He.DefD := ⟨("_law_letters", none), "_law_letters", "_law_letters", defArgs s__law_letters, defBody s__law_letters, defScope s__law_letters, [], []⟩
def D__law_signs : He.DefD := ⟨("_law_signs", none), "_law_signs", "_law_signs", defArgs s__law_signs, defBody s__law_signs, defScope s__law_signs, [], []⟩
def D__law_some_word : He.DefD := ⟨("_law_some_word", none), "_law_some_word", "_law_some_word", defArgs s__law_some_word, defBody s__law_some_word, defScope s__law_some_word, [], []⟩
def D__law_side : He.DefD := ⟨("_law_side", none), "_law_side", "_law_side", defArgs s__law_side, defBody s__law_side, defScope s__law_side, [], []⟩
def D__law_town : He.DefD := ⟨("_law_town", none), "_law_town", "_law_town", defArgs s__law_town, defBody s__law_town, defScope s__law_town, [], []⟩
def D__law_is_side : He.DefD := ⟨("_law_is_side", none), "_law_is_side", "_law_is_side", defArgs s__law_is_side, defBody s__law_is_side, defScope s__law_is_side, [], []⟩
def D__law_bad_rule : He.DefD := ⟨("_law_bad_rule", none), "_law_bad_rule", "_law_bad_rule", defArgs s__law_bad_rule, defBody s__law_bad_rule, defScope s__law_bad_rule, [], []⟩
def D__law_letters_due : He.DefD := ⟨("_law_letters_due", none), "_law_letters_due", "_law_letters_due", defArgs s__law_letters_due, defBody s__law_letters_due, defScope s__law_letters_due, [], []⟩
def D__law_made : He.DefD := ⟨("_law_made", none), "_law_made", "_law_made", defArgs s__law_made, defBody s__law_made, defScope s__law_made, [], []⟩
def D_law : He.DefD := ⟨("law", none), "law", "law", defArgs s_law, defBody s_law, defScope s_law, [], []⟩
def D__law_field : He.DefD := ⟨("_law_field", none), "_law_field", "_law_field", defArgs s__law_field, defBody s__law_field, defScope s__law_field, [], []⟩
def D__law_why : He.DefD := ⟨("_law_why", none), "_law_why", "_law_why", defArgs s__law_why, defBody s__law_why, defScope s__law_why, [], []⟩
def fns : List He.DefD := [D_swapped, D_is_word, D_counts_of, D_is_number, D_is_counts, D_minus, D_scaled, D_lead_of, D_least_row, D_normal, D_size_of, D_Table___init__, D_check_letters, D_is_rule, D_Town___init__, D_Town_rules, D_Town_with_rules, D_Town___len__, D_Town___eq__, D_Town___repr__, D__law_begin, D__law_draw, D__law_any, D__law_same, D__law_letters, D__law_signs, D__law_some_word, D__law_side, D__law_town, D__law_is_side, D__law_bad_rule, D__law_letters_due, D__law_made, D_law, D__law_field, D__law_why]
def xts : List XtF := [.cnum "Town" "MOST" 6]
def gts : List GtD := [D_Town_letters, D_Town_width]
def nms0 : List Str := ["_wall", "TownError", "Missing", "NothingLeft", "InvalidLetters", "InvalidCounts", "InvalidTable", "InvalidRule", "InvalidNumber", "ParseError", "TooLong", "Endless", "LOWER", "swapped", "is_word", "opposite", "counts_of", "characters", "MOST_LENGTH", "MOST_DEEP", "DIGITS", "Reader", "atom_length", "length_of", "atom_word", "word_of_factors", "read_factors", "short_word", "run_text", "format_word"]
def nms1 : List Str := ["MOST_WIDTH", "is_number", "is_counts", "check_counts", "minus", "scaled", "lead_of", "least_row", "normal", "size_of", "Table", "MOST_LETTERS", "MOST_SIDE", "check_letters", "is_rule", "Town", "read_sides", "_law_begin", "_law_draw", "_law_any", "_law_same", "_law_field", "_law_why", "_law_letters", "_law_signs", "_law_some_word", "_law_side", "_law_town", "_law_is_side", "_law_bad_rule"]
def nms2 : List Str := ["_law_letters_due", "_law_made"]
def nms : List Str := nms0 ++ nms1 ++ nms2
abbrev ks (K : PySem.W.Frag) : Ks := ⟨He.ga K "Table", He.ga K "Town", He.ga K "InvalidLetters", He.ga K "InvalidNumber", He.ga K "InvalidRule", He.ga K "InvalidTable", (He.cT K ("law", none)).2⟩
def fas0 : List He.Fa := [.free "len", .free "int", .free "range", .free "list", .free "tuple", .free "str", .free "bool", .free "abs", .free "sum", .free "all", .free "any", .free "max", .free "min", .free "sorted", .free "zip", .free "enumerate", .free "isinstance", .free "repr", .free "dict", .free "super", .free "type", .str "LOWER" "abcdefghijklmnopqrstuvwxyz", .int "MOST_WIDTH" 3, .int "MOST_LETTERS" 3, .int "MOST_SIDE" 16]
def fas1 : List He.Fa := [.noat "Table" "own_size", .noat "Table" "identity", .noat "Table" "leads", .noat "Table" "normal_rows", .noat "Table" "own_width", .cls "Table", .noat "Town" "identity", .noat "Town" "own_table", .noat "Town" "rule_row", .noat "Town" "own_letters", .cls "Town", .glo "Town", .glo "_law_why", .glo "TownError", .glo "Missing", .glo "NothingLeft", .glo "_law_field", .glo "swapped", .glo "is_word", .glo "counts_of", .glo "is_number", .glo "is_counts", .glo "minus", .glo "scaled", .glo "lead_of"]
def fas2 : List He.Fa := [.glo "least_row", .glo "normal", .glo "size_of", .mkr "Table", .glo "Table", .glo "check_letters", .glo "is_rule", .mkr "Town", .meth "Town" "rules", .meth "Town" "with_rules", .meth "Town" "__len__", .meth "Town" "__eq__", .meth "Town" "__repr__", .glo "_law_begin", .glo "_law_draw", .glo "_law_any", .glo "_law_same", .glo "_law_letters", .glo "_law_signs", .glo "_law_some_word", .glo "_law_side", .glo "_law_town", .glo "_law_is_side", .glo "_law_bad_rule", .glo "_law_letters_due"]
def fas3 : List He.Fa := [.glo "_law_made", .glo "law"]
def fas : List He.Fa := fas0 ++ fas1 ++ fas2 ++ fas3
abbrev Rw : PySem.W.OpenRow := PySem.W.OpenLaw.row PySem.Challenge.rw_roundswap_k12_towns_that_are_made
def exs : List ExD := [X_InvalidLetters, X_InvalidNumber, X_InvalidRule, X_InvalidTable]
def tfs : List He.Defn := [("law", none)]
def cwn : List Str := ["InvalidLetters", "InvalidRule"]
def ows : List OwF := [.own "Town", .plain "Town", .ne "Town", .isi "Town" "Town" true]
abbrev hk : PySem.W.Hook := hookY Rw.prog 5 fas fns exs tfs cwn ows gts xts
def ob (s : PySem.W.SharedT) : AlY := obsYG Rw.prog 5 fas fns exs tfs cwn ows gts xts (HandSHeadRun.getT s)
theorem ob_eq (s : PySem.W.SharedT) : ob s = hk.obs s.abs := obsYG_eq (HandSHeadRun.getT_eq s)
theorem run (w : World) : HandSHeadRun.RunEq Rw (PySem.W.view Rw.prog [68]) hk ob 20000 nms w := by
  intro os
  kernel_rfl
theorem facts {w : World} {K : PySem.W.Frag} {h : Heap} {mg : Str → Option Value} {f : Addr} (X : K.In h) (G : h.Ns mainGlobals mg) (hfa : mg ("law" : Str) = some (.ref f)) (c : SaysY Rw.prog fas fns exs tfs cwn ows gts xts h K) :
    ∃ fd : FuncData, (∀ (s : Shared) (v : Value), BindsTo s fd ⟨[v], []⟩ [("_law_script", v)]) ∧ ∀ base : Heap, K.In base → base.Ns mainGlobals mg → (∀ p ∈ tfs.map (He.cT K), LamX.TabB base mg p.1 p.2) → FnOk Rw.prog w K mg base CX0 10 f fd ["_law_script"] (lSp K (sp_law (ks K))) := by
  obtain ⟨fd0, F0⟩ := c.z.d.def_ 33 (d := D_law) rfl
  have e := hfa.symm.trans (He.glo_ok X G (c.z.d.fact 76 (f := .glo "law") rfl))
  cases e
  have b := FunD.bindsA (ps := ["_law_script"]) F0 fun _ _ _ _ _ _ us hl => match us, hl with | [_], _ => rfl
  refine ⟨fd0, fun s v => b s [v] rfl, fun base _ _ hB => ?_⟩
  have B : NB mg := ⟨He.free_ok X G (c.z.d.fact 0 (f := .free "len") rfl), He.free_ok X G (c.z.d.fact 1 (f := .free "int") rfl), He.free_ok X G (c.z.d.fact 2 (f := .free "range") rfl), He.free_ok X G (c.z.d.fact 3 (f := .free "list") rfl), He.free_ok X G (c.z.d.fact 4 (f := .free "tuple") rfl), He.free_ok X G (c.z.d.fact 5 (f := .free "str") rfl), He.free_ok X G (c.z.d.fact 6 (f := .free "bool") rfl), He.free_ok X G (c.z.d.fact 7 (f := .free "abs") rfl), He.free_ok X G (c.z.d.fact 8 (f := .free "sum") rfl), He.free_ok X G (c.z.d.fact 9 (f := .free "all") rfl), He.free_ok X G (c.z.d.fact 10 (f := .free "any") rfl), He.free_ok X G (c.z.d.fact 11 (f := .free "max") rfl), He.free_ok X G (c.z.d.fact 12 (f := .free "min") rfl), He.free_ok X G (c.z.d.fact 13 (f := .free "sorted") rfl), He.free_ok X G (c.z.d.fact 14 (f := .free "zip") rfl), He.free_ok X G (c.z.d.fact 15 (f := .free "enumerate") rfl), He.free_ok X G (c.z.d.fact 16 (f := .free "isinstance") rfl), He.free_ok X G (c.z.d.fact 17 (f := .free "repr") rfl), He.free_ok X G (c.z.d.fact 18 (f := .free "dict") rfl), He.free_ok X G (c.z.d.fact 19 (f := .free "super") rfl), He.free_ok X G (c.z.d.fact 20 (f := .free "type") rfl)⟩
  have T : Cn mg := ⟨(let ⟨t, h⟩ := He.str_ok X G (c.z.d.fact 21 (f := .str "LOWER" "abcdefghijklmnopqrstuvwxyz") rfl); ⟨_, h, t, rfl⟩), (let ⟨t, h⟩ := He.int_ok X G (c.z.d.fact 22 (f := .int "MOST_WIDTH" 3) rfl); ⟨_, h, t, rfl⟩), (let ⟨t, h⟩ := He.int_ok X G (c.z.d.fact 23 (f := .int "MOST_LETTERS" 3) rfl); ⟨_, h, t, rfl⟩), (let ⟨t, h⟩ := He.int_ok X G (c.z.d.fact 24 (f := .int "MOST_SIDE" 16) rfl); ⟨_, h, t, rfl⟩)⟩
  have K_Table : Kls K (ks K).Table ["own_width", "normal_rows", "leads", "identity", "own_size"] := ⟨He.cls_ok (c.z.d.fact 30 (f := .cls "Table") rfl), List.forall_mem_cons.mpr ⟨He.noat_ok (c.z.d.fact 29 (f := .noat "Table" "own_width") rfl), List.forall_mem_cons.mpr ⟨He.noat_ok (c.z.d.fact 28 (f := .noat "Table" "normal_rows") rfl), List.forall_mem_cons.mpr ⟨He.noat_ok (c.z.d.fact 27 (f := .noat "Table" "leads") rfl), List.forall_mem_cons.mpr ⟨He.noat_ok (c.z.d.fact 26 (f := .noat "Table" "identity") rfl), List.forall_mem_cons.mpr ⟨He.noat_ok (c.z.d.fact 25 (f := .noat "Table" "own_size") rfl), fun _ h => absurd h List.not_mem_nil⟩⟩⟩⟩⟩⟩
  have K_Town : Kls K (ks K).Town ["own_letters", "rule_row", "own_table", "identity"] := ⟨He.cls_ok (c.z.d.fact 35 (f := .cls "Town") rfl), List.forall_mem_cons.mpr ⟨He.noat_ok (c.z.d.fact 34 (f := .noat "Town" "own_letters") rfl), List.forall_mem_cons.mpr ⟨He.noat_ok (c.z.d.fact 33 (f := .noat "Town" "rule_row") rfl), List.forall_mem_cons.mpr ⟨He.noat_ok (c.z.d.fact 32 (f := .noat "Town" "own_table") rfl), List.forall_mem_cons.mpr ⟨He.noat_ok (c.z.d.fact 31 (f := .noat "Town" "identity") rfl), fun _ h => absurd h List.not_mem_nil⟩⟩⟩⟩⟩
  have O_Town : OwnK K (ks K).Town := ⟨own_ok K_Town.cls (c.z.owf 0 (f := .own "Town") rfl), plain_ok (c.z.owf 1 (f := .plain "Town") rfl), ne_ok (c.z.owf 2 (f := .ne "Town") rfl), isi_ok (c.z.owf 3 (f := .isi "Town" "Town" true) rfl)⟩
  have gg_Town : mg "Town" = some (.ref (ks K).Town) := He.glo_ok X G (c.z.d.fact 36 (f := .glo "Town") rfl)
  have CN_Town_MOST : CNum K (ks K).Town "MOST" 6 := cnum_ok (c.xtf 0 (f := .cnum "Town" "MOST" 6) rfl)
  obtain ⟨xd_InvalidLetters, E_InvalidLetters⟩ := c.z.exk X G 0 (d := X_InvalidLetters) rfl
  have C_InvalidLetters : CalE Rw.prog w K mg base 2 "InvalidLetters" (ks K).InvalidLetters g_InvalidLetters gd_InvalidLetters 1 := ce_InvalidLetters E_InvalidLetters
  obtain ⟨xd_InvalidNumber, E_InvalidNumber⟩ := c.z.exk X G 1 (d := X_InvalidNumber) rfl
  have C_InvalidNumber : CalE Rw.prog w K mg base 2 "InvalidNumber" (ks K).InvalidNumber g_InvalidNumber gd_InvalidNumber 1 := ce_InvalidNumber E_InvalidNumber
  obtain ⟨xd_InvalidRule, E_InvalidRule⟩ := c.z.exk X G 2 (d := X_InvalidRule) rfl
  have C_InvalidRule : CalE Rw.prog w K mg base 2 "InvalidRule" (ks K).InvalidRule g_InvalidRule gd_InvalidRule 1 := ce_InvalidRule E_InvalidRule
  obtain ⟨xd_InvalidTable, E_InvalidTable⟩ := c.z.exk X G 3 (d := X_InvalidTable) rfl
  have C_InvalidTable : CalE Rw.prog w K mg base 2 "InvalidTable" (ks K).InvalidTable g_InvalidTable gd_InvalidTable 1 := ce_InvalidTable E_InvalidTable
  obtain ⟨fd__law_field, F__law_field⟩ := c.z.d.def_ 34 (d := D__law_field) rfl
  have b__law_field := FunD.bindsN (ps := ["_law_e"]) F__law_field fun _ _ _ _ _ _ us hl => match us, hl with | [_], _ => rfl
  obtain ⟨fd__law_why, F__law_why⟩ := c.z.d.def_ 35 (d := D__law_why) rfl
  have b__law_why := FunD.bindsN (ps := ["_law_ask"]) F__law_why fun _ _ _ _ _ _ us hl => match us, hl with | [_], _ => rfl
  have W : WhyF Rw.prog w K mg base (cws (ks K)) := by
    refine ⟨s__law_why, He.fAd K D__law_why.at_, He.fAd K D__law_field.at_, fd__law_why, fd__law_field, .ref (He.ga K "TownError"), .ref (He.ga K "Missing"), .ref (He.ga K "NothingLeft"), F__law_why, sc__law_why, He.glo_ok X G (c.z.d.fact 37 (f := .glo "_law_why") rfl), b__law_why, ⟨_, _, _, _, _, _, _, _, _, _, _, _, _, _, _, _, _, _, _, _, _, _, rfl⟩, rfl, rfl, ⟨rfl, rfl, rfl, rfl⟩, ⟨He.glo_ok X G (c.z.d.fact 38 (f := .glo "TownError") rfl), He.glo_ok X G (c.z.d.fact 39 (f := .glo "Missing") rfl), He.glo_ok X G (c.z.d.fact 40 (f := .glo "NothingLeft") rfl)⟩, ⟨He.glo_ok X G (c.z.d.fact 41 (f := .glo "_law_field") rfl), F__law_field.kp, b__law_field⟩, fun a oe C dd fs xc hz hf => field_ok F__law_field sc__law_field fun cdv A outer s H E G T hr => dv__law_field xc hz hf T hr, fun C hC => ?_⟩
    obtain ⟨x, hx, rfl⟩ := List.mem_map.mp (show C ∈ cwn.map (He.ga K) from hC)
    exact caught_ok c.z.ca x hx
  obtain ⟨fd_swapped, F_swapped⟩ := c.z.d.def_ 0 (d := D_swapped) rfl
  have b_swapped := FunD.bindsN (ps := ["character"]) F_swapped fun _ _ _ _ _ _ us hl => match us, hl with | [_], _ => rfl
  have C_swapped : Cal Rw.prog w K mg base 1 "swapped" ["character"] (sp_swapped) (He.fAd K D_swapped.at_) fd_swapped := ⟨ok_swapped (ks K) B T F_swapped (by walk_at "len") rd_swapped, He.glo_ok X G (c.z.d.fact 42 (f := .glo "swapped") rfl), F_swapped.kp, b_swapped⟩
  obtain ⟨fd_is_word, F_is_word⟩ := c.z.d.def_ 1 (d := D_is_word) rfl
  have b_is_word := FunD.bindsN (ps := ["word", "letters"]) F_is_word fun _ _ _ _ _ _ us hl => match us, hl with | [_, _], _ => rfl
  have C_is_word : Cal Rw.prog w K mg base 1 "is_word" ["word", "letters"] (sp_is_word (ks K)) (He.fAd K D_is_word.at_) fd_is_word := ⟨ok_is_word (ks K) B T F_is_word (by walk_at "len") rd_is_word, He.glo_ok X G (c.z.d.fact 43 (f := .glo "is_word") rfl), F_is_word.kp, b_is_word⟩
  obtain ⟨fd_counts_of, F_counts_of⟩ := c.z.d.def_ 2 (d := D_counts_of) rfl
  have b_counts_of := FunD.bindsN (ps := ["word", "letters"]) F_counts_of fun _ _ _ _ _ _ us hl => match us, hl with | [_, _], _ => rfl
  have C_counts_of : Cal Rw.prog w K mg base 2 "counts_of" ["word", "letters"] (sp_counts_of (ks K)) (He.fAd K D_counts_of.at_) fd_counts_of := ⟨ok_counts_of (ks K) B T C_swapped F_counts_of (by walk_at "len") rd_counts_of, He.glo_ok X G (c.z.d.fact 44 (f := .glo "counts_of") rfl), F_counts_of.kp, b_counts_of⟩
  obtain ⟨fd_is_number, F_is_number⟩ := c.z.d.def_ 3 (d := D_is_number) rfl
  have b_is_number := FunD.bindsN (ps := ["value"]) F_is_number fun _ _ _ _ _ _ us hl => match us, hl with | [_], _ => rfl
  have C_is_number : Cal Rw.prog w K mg base 1 "is_number" ["value"] (sp_is_number (ks K)) (He.fAd K D_is_number.at_) fd_is_number := ⟨ok_is_number (ks K) B T F_is_number (by walk_at "len") rd_is_number, He.glo_ok X G (c.z.d.fact 45 (f := .glo "is_number") rfl), F_is_number.kp, b_is_number⟩
  obtain ⟨fd_is_counts, F_is_counts⟩ := c.z.d.def_ 4 (d := D_is_counts) rfl
  have b_is_counts := FunD.bindsN (ps := ["value", "width"]) F_is_counts fun _ _ _ _ _ _ us hl => match us, hl with | [_, _], _ => rfl
  have C_is_counts : Cal Rw.prog w K mg base 2 "is_counts" ["value", "width"] (sp_is_counts (ks K)) (He.fAd K D_is_counts.at_) fd_is_counts := ⟨ok_is_counts (ks K) B T C_is_number F_is_counts (by walk_at "len") rd_is_counts, He.glo_ok X G (c.z.d.fact 46 (f := .glo "is_counts") rfl), F_is_counts.kp, b_is_counts⟩
  obtain ⟨fd_minus, F_minus⟩ := c.z.d.def_ 5 (d := D_minus) rfl
  have b_minus := FunD.bindsN (ps := ["one", "other"]) F_minus fun _ _ _ _ _ _ us hl => match us, hl with | [_, _], _ => rfl
  have C_minus : Cal Rw.prog w K mg base 1 "minus" ["one", "other"] (sp_minus (ks K)) (He.fAd K D_minus.at_) fd_minus := ⟨ok_minus (ks K) B T F_minus (by walk_at "len") rd_minus, He.glo_ok X G (c.z.d.fact 47 (f := .glo "minus") rfl), F_minus.kp, b_minus⟩
  obtain ⟨fd_scaled, F_scaled⟩ := c.z.d.def_ 6 (d := D_scaled) rfl
  have b_scaled := FunD.bindsN (ps := ["one", "times"]) F_scaled fun _ _ _ _ _ _ us hl => match us, hl with | [_, _], _ => rfl
  have C_scaled : Cal Rw.prog w K mg base 1 "scaled" ["one", "times"] (sp_scaled (ks K)) (He.fAd K D_scaled.at_) fd_scaled := ⟨ok_scaled (ks K) B T F_scaled (by walk_at "len") rd_scaled, He.glo_ok X G (c.z.d.fact 48 (f := .glo "scaled") rfl), F_scaled.kp, b_scaled⟩
  obtain ⟨fd_lead_of, F_lead_of⟩ := c.z.d.def_ 7 (d := D_lead_of) rfl
  have b_lead_of := FunD.bindsN (ps := ["row"]) F_lead_of fun _ _ _ _ _ _ us hl => match us, hl with | [_], _ => rfl
  have C_lead_of : Cal Rw.prog w K mg base 1 "lead_of" ["row"] (sp_lead_of (ks K)) (He.fAd K D_lead_of.at_) fd_lead_of := ⟨ok_lead_of (ks K) B T F_lead_of (by walk_at "len") rd_lead_of, He.glo_ok X G (c.z.d.fact 49 (f := .glo "lead_of") rfl), F_lead_of.kp, b_lead_of⟩
  obtain ⟨fd_least_row, F_least_row⟩ := c.z.d.def_ 8 (d := D_least_row) rfl
  have b_least_row := FunD.bindsN (ps := ["rows", "at"]) F_least_row fun _ _ _ _ _ _ us hl => match us, hl with | [_, _], _ => rfl
  have C_least_row : Cal Rw.prog w K mg base 1 "least_row" ["rows", "at"] (sp_least_row (ks K)) (He.fAd K D_least_row.at_) fd_least_row := ⟨ok_least_row (ks K) B T F_least_row (by walk_at "len") rd_least_row, He.glo_ok X G (c.z.d.fact 50 (f := .glo "least_row") rfl), F_least_row.kp, b_least_row⟩
  obtain ⟨fd_normal, F_normal⟩ := c.z.d.def_ 9 (d := D_normal) rfl
  have b_normal := FunD.bindsN (ps := ["width", "rows"]) F_normal fun _ _ _ _ _ _ us hl => match us, hl with | [_, _], _ => rfl
  have C_normal : Cal Rw.prog w K mg base 2 "normal" ["width", "rows"] (sp_normal (ks K)) (He.fAd K D_normal.at_) fd_normal := ⟨ok_normal (ks K) B T C_least_row C_minus C_scaled F_normal (by walk_at "len") rd_normal, He.glo_ok X G (c.z.d.fact 51 (f := .glo "normal") rfl), F_normal.kp, b_normal⟩
  obtain ⟨fd_size_of, F_size_of⟩ := c.z.d.def_ 10 (d := D_size_of) rfl
  have b_size_of := FunD.bindsN (ps := ["width", "rows"]) F_size_of fun _ _ _ _ _ _ us hl => match us, hl with | [_, _], _ => rfl
  have C_size_of : Cal Rw.prog w K mg base 1 "size_of" ["width", "rows"] (sp_size_of (ks K)) (He.fAd K D_size_of.at_) fd_size_of := ⟨ok_size_of (ks K) B T F_size_of (by walk_at "len") rd_size_of, He.glo_ok X G (c.z.d.fact 52 (f := .glo "size_of") rfl), F_size_of.kp, b_size_of⟩
  obtain ⟨fd_Table___init__, F_Table___init__⟩ := c.z.d.def_ 11 (d := D_Table___init__) rfl
  have b_Table___init__ := bd_all (dvs := D_Table___init__.dvs K) (FunD.binds1 (ps := ["self", "width", "rows"]) F_Table___init__ 3 1 (by exact fun h => nomatch h) rfl fun _ _ _ _ _ _ _ us its hl hi => match us, its, hl, hi with | [_, _, _], [_], _, _ => ⟨_, rfl, rfl⟩)
  have C_Table___init__ : CalIX Rw.prog w K mg base 3 "Table" (ks K).Table ["self", "width", "rows"] (sp_Table___init__ (ks K)) [] (He.fAd K D_Table___init__.at_) fd_Table___init__ := ⟨ok_Table___init__ (ks K) B T K_Table C_is_number C_is_counts C_normal C_lead_of C_size_of C_InvalidNumber C_InvalidTable F_Table___init__ (by walk_at "len") rd_Table___init__, He.mkr_ok (c.z.d.fact 53 (f := .mkr "Table") rfl), He.glo_ok X G (c.z.d.fact 54 (f := .glo "Table") rfl), b_Table___init__⟩
  obtain ⟨fd_check_letters, F_check_letters⟩ := c.z.d.def_ 12 (d := D_check_letters) rfl
  have b_check_letters := FunD.bindsN (ps := ["letters"]) F_check_letters fun _ _ _ _ _ _ us hl => match us, hl with | [_], _ => rfl
  have C_check_letters : CalX Rw.prog w K mg base 3 "check_letters" ["letters"] (sp_check_letters (ks K)) (He.fAd K D_check_letters.at_) fd_check_letters := ⟨ok_check_letters (ks K) B T C_InvalidLetters F_check_letters (by walk_at "len") rd_check_letters, He.glo_ok X G (c.z.d.fact 55 (f := .glo "check_letters") rfl), F_check_letters.kp, b_check_letters⟩
  obtain ⟨fd_is_rule, F_is_rule⟩ := c.z.d.def_ 13 (d := D_is_rule) rfl
  have b_is_rule := FunD.bindsN (ps := ["rule", "letters"]) F_is_rule fun _ _ _ _ _ _ us hl => match us, hl with | [_, _], _ => rfl
  have C_is_rule : Cal Rw.prog w K mg base 2 "is_rule" ["rule", "letters"] (sp_is_rule (ks K)) (He.fAd K D_is_rule.at_) fd_is_rule := ⟨ok_is_rule (ks K) B T C_is_word F_is_rule (by walk_at "len") rd_is_rule, He.glo_ok X G (c.z.d.fact 56 (f := .glo "is_rule") rfl), F_is_rule.kp, b_is_rule⟩
  obtain ⟨fd_Town___init__, F_Town___init__⟩ := c.z.d.def_ 14 (d := D_Town___init__) rfl
  have C_Town___init__ : CalIXV Rw.prog w K mg base 5 "Town" (ks K).Town (spW 2 100 (sp_Town___init__ (ks K))) (He.fAd K D_Town___init__.at_) := ⟨ok_Town___init__ (ks K) B T K_Town C_check_letters C_is_rule C_minus C_counts_of C_Table___init__ C_InvalidRule gg_Town CN_Town_MOST F_Town___init__  rd_Town___init__, He.mkr_ok (c.z.d.fact 57 (f := .mkr "Town") rfl), He.glo_ok X G (c.z.d.fact 36 (f := .glo "Town") rfl)⟩
  obtain ⟨PR_Town_letters, fd_Town_letters, F_Town_letters⟩ := c.gtd 0 (d := D_Town_letters) rfl
  have b_Town_letters := FunD.bindsN (ps := ["self"]) F_Town_letters fun _ _ _ _ _ _ us hl => match us, hl with | [_], _ => rfl
  have C_Town_letters : CalP Rw.prog w K mg base 1 (ks K).Town "letters" (sp_Town_letters (ks K)) (D_Town_letters.p K) (D_Town_letters.g K) fd_Town_letters := ⟨ok_Town_letters (ks K) B T K_Town F_Town_letters (by walk_at "len") rd_Town_letters, K_Town.cls, PR_Town_letters, b_Town_letters⟩
  obtain ⟨PR_Town_width, fd_Town_width, F_Town_width⟩ := c.gtd 1 (d := D_Town_width) rfl
  have b_Town_width := FunD.bindsN (ps := ["self"]) F_Town_width fun _ _ _ _ _ _ us hl => match us, hl with | [_], _ => rfl
  have C_Town_width : CalP Rw.prog w K mg base 1 (ks K).Town "width" (sp_Town_width (ks K)) (D_Town_width.p K) (D_Town_width.g K) fd_Town_width := ⟨ok_Town_width (ks K) B T K_Town F_Town_width (by walk_at "len") rd_Town_width, K_Town.cls, PR_Town_width, b_Town_width⟩
  obtain ⟨fd_Town_rules, F_Town_rules⟩ := c.z.d.def_ 15 (d := D_Town_rules) rfl
  have b_Town_rules := FunD.bindsN (ps := ["self"]) F_Town_rules fun _ _ _ _ _ _ us hl => match us, hl with | [_], _ => rfl
  have C_Town_rules : CalM Rw.prog w K mg base 1 (ks K).Town "rules" ["self"] (sp_Town_rules (ks K)) (He.fAd K D_Town_rules.at_) fd_Town_rules := ⟨ok_Town_rules (ks K) B T K_Town F_Town_rules (by walk_at "len") rd_Town_rules, K_Town.cls, He.meth_ok (c.z.d.fact 58 (f := .meth "Town" "rules") rfl), b_Town_rules⟩
  obtain ⟨fd_Town_with_rules, F_Town_with_rules⟩ := c.z.d.def_ 16 (d := D_Town_with_rules) rfl
  have C_Town_with_rules : CalMXV Rw.prog w K mg base 7 (ks K).Town "with_rules" (spW 1 100 (sp_Town_with_rules (ks K))) (He.fAd K D_Town_with_rules.at_) := ⟨ok_Town_with_rules (ks K) B T K_Town C_Town___init__ F_Town_with_rules  rd_Town_with_rules, K_Town.cls, He.meth_ok (c.z.d.fact 59 (f := .meth "Town" "with_rules") rfl)⟩
  obtain ⟨fd_Town___len__, F_Town___len__⟩ := c.z.d.def_ 17 (d := D_Town___len__) rfl
  have b_Town___len__ := FunD.bindsN (ps := ["self"]) F_Town___len__ fun _ _ _ _ _ _ us hl => match us, hl with | [_], _ => rfl
  have C_Town___len__ : CalM Rw.prog w K mg base 1 (ks K).Town "__len__" ["self"] (sp_Town___len__ (ks K)) (He.fAd K D_Town___len__.at_) fd_Town___len__ := ⟨ok_Town___len__ (ks K) B T K_Town F_Town___len__ (by walk_at "len") rd_Town___len__, K_Town.cls, He.meth_ok (c.z.d.fact 60 (f := .meth "Town" "__len__") rfl), b_Town___len__⟩
  obtain ⟨fd_Town___eq__, F_Town___eq__⟩ := c.z.d.def_ 18 (d := D_Town___eq__) rfl
  have b_Town___eq__ := FunD.bindsN (ps := ["self", "other"]) F_Town___eq__ fun _ _ _ _ _ _ us hl => match us, hl with | [_, _], _ => rfl
  have C_Town___eq__ : CalM Rw.prog w K mg base 1 (ks K).Town "__eq__" ["self", "other"] (sp_Town___eq__ (ks K)) (He.fAd K D_Town___eq__.at_) fd_Town___eq__ := ⟨ok_Town___eq__ (ks K) B T K_Town O_Town gg_Town F_Town___eq__ (by walk_at "len") rd_Town___eq__, K_Town.cls, He.meth_ok (c.z.d.fact 61 (f := .meth "Town" "__eq__") rfl), b_Town___eq__⟩
  obtain ⟨fd_Town___repr__, F_Town___repr__⟩ := c.z.d.def_ 19 (d := D_Town___repr__) rfl
  have b_Town___repr__ := FunD.bindsN (ps := ["self"]) F_Town___repr__ fun _ _ _ _ _ _ us hl => match us, hl with | [_], _ => rfl
  have C_Town___repr__ : CalM Rw.prog w K mg base 3 (ks K).Town "__repr__" ["self"] (sp_Town___repr__ (ks K)) (He.fAd K D_Town___repr__.at_) fd_Town___repr__ := ⟨ok_Town___repr__ (ks K) B T K_Town C_Town_width F_Town___repr__ (by walk_at "len") rd_Town___repr__, K_Town.cls, He.meth_ok (c.z.d.fact 62 (f := .meth "Town" "__repr__") rfl), b_Town___repr__⟩
  obtain ⟨fd__law_begin, F__law_begin⟩ := c.z.d.def_ 20 (d := D__law_begin) rfl
  have b__law_begin := FunD.bindsN (ps := ["_law_script"]) F__law_begin fun _ _ _ _ _ _ us hl => match us, hl with | [_], _ => rfl
  have C__law_begin : Cal Rw.prog w K mg base 1 "_law_begin" ["_law_script"] (sp__law_begin) (He.fAd K D__law_begin.at_) fd__law_begin := ⟨ok__law_begin (ks K) B T F__law_begin (by walk_at "len") rd__law_begin, He.glo_ok X G (c.z.d.fact 63 (f := .glo "_law_begin") rfl), F__law_begin.kp, b__law_begin⟩
  obtain ⟨fd__law_draw, F__law_draw⟩ := c.z.d.def_ 21 (d := D__law_draw) rfl
  have b__law_draw := FunD.bindsN (ps := ["_law_box", "_law_many"]) F__law_draw fun _ _ _ _ _ _ us hl => match us, hl with | [_, _], _ => rfl
  have C__law_draw : Cal Rw.prog w K mg base 1 "_law_draw" ["_law_box", "_law_many"] (sp__law_draw) (He.fAd K D__law_draw.at_) fd__law_draw := ⟨ok__law_draw (ks K) B T F__law_draw (by walk_at "len") rd__law_draw, He.glo_ok X G (c.z.d.fact 64 (f := .glo "_law_draw") rfl), F__law_draw.kp, b__law_draw⟩
  obtain ⟨fd__law_any, F__law_any⟩ := c.z.d.def_ 22 (d := D__law_any) rfl
  have b__law_any := FunD.bindsN (ps := ["_law_box", "_law_some"]) F__law_any fun _ _ _ _ _ _ us hl => match us, hl with | [_, _], _ => rfl
  have C__law_any : Cal Rw.prog w K mg base 2 "_law_any" ["_law_box", "_law_some"] (sp__law_any) (He.fAd K D__law_any.at_) fd__law_any := ⟨ok__law_any (ks K) B T C__law_draw F__law_any (by walk_at "len") rd__law_any, He.glo_ok X G (c.z.d.fact 65 (f := .glo "_law_any") rfl), F__law_any.kp, b__law_any⟩
  obtain ⟨fd__law_same, F__law_same⟩ := c.z.d.def_ 23 (d := D__law_same) rfl
  have b__law_same := FunD.bindsN (ps := ["_law_found", "_law_due"]) F__law_same fun _ _ _ _ _ _ us hl => match us, hl with | [_, _], _ => rfl
  have C__law_same_0 : Cal Rw.prog w K mg base 1 "_law_same" ["_law_found", "_law_due"] (sp_sameB 0) (He.fAd K D__law_same.at_) fd__law_same := ⟨fn_no F__law_same sc__law_same, He.glo_ok X G (c.z.d.fact 66 (f := .glo "_law_same") rfl), F__law_same.kp, b__law_same⟩
  have C__law_same_1 : Cal Rw.prog w K mg base 2 "_law_same" ["_law_found", "_law_due"] (sp_sameB 1) (He.fAd K D__law_same.at_) fd__law_same := ⟨ok__law_same (ks K) (n := 1) (by decide) B T C__law_same_0 F__law_same (by walk_at "len") (rd__law_same 0), He.glo_ok X G (c.z.d.fact 66 (f := .glo "_law_same") rfl), F__law_same.kp, b__law_same⟩
  have C__law_same_2 : Cal Rw.prog w K mg base 3 "_law_same" ["_law_found", "_law_due"] (sp_sameB 2) (He.fAd K D__law_same.at_) fd__law_same := ⟨ok__law_same (ks K) (n := 2) (by decide) B T C__law_same_1 F__law_same (by walk_at "len") (rd__law_same 1), He.glo_ok X G (c.z.d.fact 66 (f := .glo "_law_same") rfl), F__law_same.kp, b__law_same⟩
  have C__law_same_3 : Cal Rw.prog w K mg base 4 "_law_same" ["_law_found", "_law_due"] (sp_sameB 3) (He.fAd K D__law_same.at_) fd__law_same := ⟨ok__law_same (ks K) (n := 3) (by decide) B T C__law_same_2 F__law_same (by walk_at "len") (rd__law_same 2), He.glo_ok X G (c.z.d.fact 66 (f := .glo "_law_same") rfl), F__law_same.kp, b__law_same⟩
  have C__law_same : Cal Rw.prog w K mg base 5 "_law_same" ["_law_found", "_law_due"] (sp__law_same 3) (He.fAd K D__law_same.at_) fd__law_same := ⟨ok__law_same (ks K) (n := 4) (by decide) B T C__law_same_3 F__law_same (by walk_at "len") (rd__law_same 3), He.glo_ok X G (c.z.d.fact 66 (f := .glo "_law_same") rfl), F__law_same.kp, b__law_same⟩
  obtain ⟨fd__law_letters, F__law_letters⟩ := c.z.d.def_ 24 (d := D__law_letters) rfl
  have b__law_letters := FunD.bindsN (ps := ["_law_box", "_law_many"]) F__law_letters fun _ _ _ _ _ _ us hl => match us, hl with | [_, _], _ => rfl
  have C__law_letters : Cal Rw.prog w K mg base 3 "_law_letters" ["_law_box", "_law_many"] (sp__law_letters) (He.fAd K D__law_letters.at_) fd__law_letters := ⟨ok__law_letters (ks K) B T C__law_any F__law_letters (by walk_at "len") rd__law_letters, He.glo_ok X G (c.z.d.fact 67 (f := .glo "_law_letters") rfl), F__law_letters.kp, b__law_letters⟩
  obtain ⟨fd__law_signs, F__law_signs⟩ := c.z.d.def_ 25 (d := D__law_signs) rfl
  have b__law_signs := FunD.bindsN (ps := ["_law_letters_here"]) F__law_signs fun _ _ _ _ _ _ us hl => match us, hl with | [_], _ => rfl
  have C__law_signs : Cal Rw.prog w K mg base 1 "_law_signs" ["_law_letters_here"] (sp__law_signs) (He.fAd K D__law_signs.at_) fd__law_signs := ⟨ok__law_signs (ks K) B T F__law_signs (by walk_at "len") rd__law_signs, He.glo_ok X G (c.z.d.fact 68 (f := .glo "_law_signs") rfl), F__law_signs.kp, b__law_signs⟩
  obtain ⟨fd__law_some_word, F__law_some_word⟩ := c.z.d.def_ 26 (d := D__law_some_word) rfl
  have b__law_some_word := FunD.bindsN (ps := ["_law_box", "_law_letters_here", "_law_most"]) F__law_some_word fun _ _ _ _ _ _ us hl => match us, hl with | [_, _, _], _ => rfl
  have C__law_some_word : Cal Rw.prog w K mg base 3 "_law_some_word" ["_law_box", "_law_letters_here", "_law_most"] (sp__law_some_word) (He.fAd K D__law_some_word.at_) fd__law_some_word := ⟨ok__law_some_word (ks K) B T C__law_signs C__law_draw C__law_any F__law_some_word (by walk_at "len") rd__law_some_word, He.glo_ok X G (c.z.d.fact 69 (f := .glo "_law_some_word") rfl), F__law_some_word.kp, b__law_some_word⟩
  obtain ⟨fd__law_side, F__law_side⟩ := c.z.d.def_ 27 (d := D__law_side) rfl
  have b__law_side := FunD.bindsN (ps := ["_law_box", "_law_letters_here", "_law_most"]) F__law_side fun _ _ _ _ _ _ us hl => match us, hl with | [_, _, _], _ => rfl
  have C__law_side : Cal Rw.prog w K mg base 4 "_law_side" ["_law_box", "_law_letters_here", "_law_most"] (sp__law_side (ks K)) (He.fAd K D__law_side.at_) fd__law_side := ⟨ok__law_side (ks K) B T C__law_some_word F__law_side (by walk_at "len") rd__law_side, He.glo_ok X G (c.z.d.fact 70 (f := .glo "_law_side") rfl), F__law_side.kp, b__law_side⟩
  obtain ⟨fd__law_town, F__law_town⟩ := c.z.d.def_ 28 (d := D__law_town) rfl
  have b__law_town := FunD.bindsN (ps := ["_law_letters_here", "_law_rules_now"]) F__law_town fun _ _ _ _ _ _ us hl => match us, hl with | [_, _], _ => rfl
  have C__law_town : Cal Rw.prog w K mg base 8 "_law_town" ["_law_letters_here", "_law_rules_now"] (sp__law_town (ks K)) (He.fAd K D__law_town.at_) fd__law_town := ⟨ok__law_town (ks K) B T C_Town___init__ C_Town_with_rules F__law_town (by walk_at "len") rd__law_town, He.glo_ok X G (c.z.d.fact 71 (f := .glo "_law_town") rfl), F__law_town.kp, b__law_town⟩
  obtain ⟨fd__law_is_side, F__law_is_side⟩ := c.z.d.def_ 29 (d := D__law_is_side) rfl
  have b__law_is_side := FunD.bindsN (ps := ["_law_one", "_law_letters_here"]) F__law_is_side fun _ _ _ _ _ _ us hl => match us, hl with | [_, _], _ => rfl
  have C__law_is_side : Cal Rw.prog w K mg base 2 "_law_is_side" ["_law_one", "_law_letters_here"] (sp__law_is_side (ks K)) (He.fAd K D__law_is_side.at_) fd__law_is_side := ⟨ok__law_is_side (ks K) B T C__law_signs F__law_is_side (by walk_at "len") rd__law_is_side, He.glo_ok X G (c.z.d.fact 72 (f := .glo "_law_is_side") rfl), F__law_is_side.kp, b__law_is_side⟩
  obtain ⟨fd__law_bad_rule, F__law_bad_rule⟩ := c.z.d.def_ 30 (d := D__law_bad_rule) rfl
  have b__law_bad_rule := FunD.bindsN (ps := ["_law_rules_now", "_law_letters_here"]) F__law_bad_rule fun _ _ _ _ _ _ us hl => match us, hl with | [_, _], _ => rfl
  have C__law_bad_rule : Cal Rw.prog w K mg base 3 "_law_bad_rule" ["_law_rules_now", "_law_letters_here"] (sp__law_bad_rule (ks K)) (He.fAd K D__law_bad_rule.at_) fd__law_bad_rule := ⟨ok__law_bad_rule (ks K) B T C__law_is_side F__law_bad_rule (by walk_at "len") rd__law_bad_rule, He.glo_ok X G (c.z.d.fact 73 (f := .glo "_law_bad_rule") rfl), F__law_bad_rule.kp, b__law_bad_rule⟩
  obtain ⟨fd__law_letters_due, F__law_letters_due⟩ := c.z.d.def_ 31 (d := D__law_letters_due) rfl
  have b__law_letters_due := FunD.bindsN (ps := ["_law_letters_here"]) F__law_letters_due fun _ _ _ _ _ _ us hl => match us, hl with | [_], _ => rfl
  have C__law_letters_due : Cal Rw.prog w K mg base 1 "_law_letters_due" ["_law_letters_here"] (sp__law_letters_due (ks K)) (He.fAd K D__law_letters_due.at_) fd__law_letters_due := ⟨ok__law_letters_due (ks K) B T F__law_letters_due (by walk_at "len") rd__law_letters_due, He.glo_ok X G (c.z.d.fact 74 (f := .glo "_law_letters_due") rfl), F__law_letters_due.kp, b__law_letters_due⟩
  obtain ⟨fd__law_made, F__law_made⟩ := c.z.d.def_ 32 (d := D__law_made) rfl
  have b__law_made := FunD.bindsN (ps := ["_law_letters_here", "_law_some"]) F__law_made fun _ _ _ _ _ _ us hl => match us, hl with | [_, _], _ => rfl
  have C__law_made : CalX Rw.prog w K mg base 7 "_law_made" ["_law_letters_here", "_law_some"] (sp__law_made (ks K)) (He.fAd K D__law_made.at_) fd__law_made := ⟨ok__law_made (ks K) B T C_Town___init__ F__law_made (by walk_at "len") rd__law_made, He.glo_ok X G (c.z.d.fact 75 (f := .glo "_law_made") rfl), F__law_made.kp, b__law_made⟩
  have F_law := F0
  have b_law := FunD.bindsN (ps := ["_law_script"]) F_law fun _ _ _ _ _ _ us hl => match us, hl with | [_], _ => rfl
  exact ok_law (ks K) B T C__law_begin C__law_any C__law_letters_due C_Town___init__ C__law_bad_rule C__law_made C_Town_letters C_Town_width C_Town_rules C_Town___len__ C__law_same C_Town___repr__ C_Town___eq__ C__law_town C__law_letters C__law_draw C__law_side W O_Town gg_Town CN_Town_MOST F_law (c.z.tab hB (q := ("law", none)) (by decide) (x := "law") (qual := "law") (st := s_law) (dvs := []) (kws := []) F_law) (by walk_at "len") rd_law
end K12
open PySem PySem.W PySem.Calls PyProof.Rows
set_option maxHeartbeats 0 in
theorem PySem.Challenge.cw_roundswap_k12_towns_that_are_made_holds : PySem.Challenge.rw_roundswap_k12_towns_that_are_made.Holds := by
  w_on; o_law
  refine HandSHeadRun.head_any (r := OpenLaw.row PySem.Challenge.rw_roundswap_k12_towns_that_are_made) (q := view (OpenLaw.row PySem.Challenge.rw_roundswap_k12_towns_that_are_made).prog [68]) (H := K12.hk) (ob := K12.ob) (M := 20000) (loose := K12.nms) (d := HandSHeadRun.topDef (OpenLaw.row PySem.Challenge.rw_roundswap_k12_towns_that_are_made).prog 68) (kwd := []) K12.ob_eq
    (by kernel_rfl) (fun s => by kernel_rfl) K12.run (by kernel_rfl) (by kernel_rfl) (by kernel_rfl) (by rfl) (by first | assumption | decide +kernel) (by decide +kernel) ⟨rfl, rfl, rfl, rfl, rfl, by decide +kernel⟩ ?hw ?hc
  case hw => w_witness2
  case hc =>
    refine LamX.walk_ofTsE (l := PySem.Challenge.rw_roundswap_k12_towns_that_are_made) (n := 63) (k := 10) (x := "_law_script") (CX := fun _ => L2.CX0) rfl (by decide) (by kernel_rfl) ⟨rfl, by decide, by decide⟩ ?F (fun _ _ _ _ _ z => z)
    intro w mg fa h Y G hmg0
    obtain ⟨K, KX, c⟩ := Y
    have hmg : mg ("law" : PySem.Str) = some (.ref fa) := by
      have e : (HandSHeadRun.topDef (OpenLaw.row PySem.Challenge.rw_roundswap_k12_towns_that_are_made).prog 68).name = ("law" : PySem.Str) := by kernel_rfl
      rw [← e]
      exact hmg0
    obtain ⟨fd, hb, hF⟩ := K12.facts (w := w) KX G hmg c
    have tm : ∀ {Z : PySem.Addr × PySem.Addr → Prop}, (∀ q ∈ K12.tfs, Z (He.cT K q)) → ∀ p ∈ K12.tfs.map (He.cT K), Z p := fun z p hp => by obtain ⟨q, hq, rfl⟩ := List.mem_map.mp hp; exact z q hq
    exact ⟨K, KX, fd, K12.tfs.map (He.cT K), (DL.lSp K (K12.sp_law (K12.ks K))), tm c.z.empty, tm c.z.out, tm fun q hq => PySem.W.codeHd_of_K KX (c.z.hd q hq), hb, fun H a ns hl _ hT hS => DL.law_inT hl (fun p hp => by first | (exact absurd hp List.not_mem_nil) | (simp only [List.mem_cons, List.not_mem_nil, or_false] at hp; rcases hp with rfl <;> exact hT _ (List.mem_map_of_mem (by decide)))) hS, hF⟩
