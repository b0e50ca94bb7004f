import PyProof.Rows.All
import Wide.All
import OpenK.AllK
import Wide.FinOn
import HandS.ForMost
import HandS.Lambda
import KE.KDflt
import HandS.TupMul
import HandS.FStr
import HandS.Flow
import HandS.Wide
import HandS.Zip
import HandS.StrMore
import HandS.ForExc
import HandS.IsInst
import HandS.Style
import HandS.Deep
import HandS.RaiseMore
import HandS.Property
import PyProof.StrBlock2
import HandS.Defaults
import HandS.Head0
import HandS.Head1
import HandS.Head2
import HandS.HeadEnd
import HandS.HeadHook1
import HandS.HeadHook2
import HandS.WordsExc
import HandS.ExcInit
import KE.KExcSuper
import HandS.More
import HandS.Star
import KE.GoesEnum
import HandS.Iter
import HandS.HotCalls
import KE.KTryMore
import HandS.ExcField
import HandS.HeadHook4
import HandS.HeadWalk
import KE.LtData
import HandS.Replace
import PySem.Challenge.RW_roundswap_k02_order_of_words
set_option Elab.async false
set_option linter.all false
set_option maxRecDepth 100000
set_option maxHeartbeats 4000000
/-! DL: readings over deep data. D: data; Mp: the objects that may change; F: the frozen heap. -/
namespace DL
open PySem PySem.Spec PyProof.Rows L2
/-- a function object that stands at f -/
def FunO (f : Addr) (o : Obj) : HO := .ext fun h => h.get? f = some o
/-- a lambda of a def: its qualified name, its text, its cells, the default of its one parameter -/
structure LamD where
  q : Str
  params : Arguments
  body : Expr
  scope : Scope
  cl : List (Str × Addr)
  dfl : Option Int
  deriving Inhabited
def DflAt (F : Hp) (dV : Value) : Option Int → Prop
  | none => dV = .none
  | some i => ∃ t, dV = .ref t ∧ F t = some (.tup [.int i])
abbrev lamO (l : LamD) (dV doc pm : Value) (c' : Addr) (ctv : Value) : Obj := PySem.W.kdv_obj "<lambda>" l.q l.params (.expr l.body) l.scope l.cl dV doc pm c' ctv
def LamAt (F : Hp) (f : Addr) (l : LamD) : Prop := ∃ (dV doc pm : Value) (c' : Addr) (ctv : Value), F f = some (FunO f (lamO l dV doc pm c' ctv)) ∧ F c' = some (LamX.CodeO c' l.q) ∧ DflAt F dV l.dfl
theorem LamAt.mono {F F' : Hp} (e : Same F F') {f : Addr} {l : LamD} (h : LamAt F f l) : LamAt F' f l := by
  obtain ⟨dV, doc, pm, c', ctv, h1, h2, h3⟩ := h
  refine ⟨dV, doc, pm, c', ctv, e _ _ h1, e _ _ h2, ?_⟩
  cases q : l.dfl with
  | none => rw [q] at h3; exact h3
  | some i => rw [q] at h3; obtain ⟨t, a, b⟩ := h3; exact ⟨t, a, e _ _ b⟩
inductive D where
  | non
  | bl (b : Bool)
  | int (i : Int)
  | str (x : Str)
  | lst (xs : List D)
  | lsx (xs : List D)
  | tup (xs : List D)
  | ptr (a : Addr)
  | ty (n : String)
  | obj (C : Addr) (fs : List (Str × D))
  | fn (l : LamD)
  deriving Inhabited
mutual
def Rep (K : PySem.W.Frag) (F : Hp) : D → V → Prop
  | .non, v => v = .non
  | .bl b, v => v = .bl b
  | .int i, v => v = .int i
  | .str x, v => v = .str x
  | .lst ds, v => ∃ a vs, v = .ref a ∧ F a = some (.lst vs) ∧ Reps K F ds vs
  | .lsx ds, v => ∃ a vs, v = .ref a ∧ SqL K F a vs ∧ Reps K F ds vs
  | .tup ds, v => ∃ a vs, v = .ref a ∧ SqT K F a vs ∧ Reps K F ds vs
  | .ptr a, v => v = .ref a
  | .ty n, v => v = .ty n
  | .obj C fs, v => ∃ a dx vs, v = .ref a ∧ F a = some (.ins C dx vs) ∧ RepF K F fs vs
  | .fn l, v => ∃ f, v = .ref f ∧ LamAt F f l
def Reps (K : PySem.W.Frag) (F : Hp) : List D → List V → Prop
  | [], vs => vs = []
  | d :: ds, vs => ∃ v r, vs = v :: r ∧ Rep K F d v ∧ Reps K F ds r
def RepF (K : PySem.W.Frag) (F : Hp) : List (Str × D) → List (Str × V) → Prop
  | [], vs => vs = []
  | p :: ds, vs => ∃ v r, vs = v :: r ∧ RepP K F p v ∧ RepF K F ds r
def RepP (K : PySem.W.Frag) (F : Hp) : Str × D → Str × V → Prop
  | (n, d), v => v.1 = n ∧ Rep K F d v.2
end
theorem sameT {K : PySem.W.Frag} {H H' : Hp} {a : Addr} {xs : List V} (e : Same H H') (h : SqT K H a xs) : SqT K H' a xs := by
  rcases h with (h | ⟨o, h⟩) | h
  · exact .inl (.inl (e _ _ h))
  · exact .inl (.inr ⟨o, e _ _ h⟩)
  · exact .inr h
section
variable {K : PySem.W.Frag} {F F' H H' H1 : Hp}
mutual
theorem Rep.mono (e : Same F F') : ∀ (d : D) (v : V), Rep K F d v → Rep K F' d v
  | .non, _, h => by rw [Rep] at *; exact h
  | .bl _, _, h => by rw [Rep] at *; exact h
  | .int _, _, h => by rw [Rep] at *; exact h
  | .str _, _, h => by rw [Rep] at *; exact h
  | .ptr _, _, h => by rw [Rep] at *; exact h
  | .ty _, _, h => by rw [Rep] at *; exact h
  | .lst ds, v, h => by
    rw [Rep] at *
    obtain ⟨a, vs, e1, e2, e3⟩ := h
    exact ⟨a, vs, e1, e _ _ e2, Reps.mono e ds vs e3⟩
  | .lsx ds, v, h => by
    rw [Rep] at *
    obtain ⟨a, vs, e1, e2, e3⟩ := h
    exact ⟨a, vs, e1, e.seq e2, Reps.mono e ds vs e3⟩
  | .tup ds, v, h => by
    rw [Rep] at *
    obtain ⟨a, vs, e1, e2, e3⟩ := h
    exact ⟨a, vs, e1, sameT e e2, Reps.mono e ds vs e3⟩
  | .obj C fs, v, h => by
    rw [Rep] at *
    obtain ⟨a, dx, vs, e1, e2, e3⟩ := h
    exact ⟨a, dx, vs, e1, e _ _ e2, RepF.mono e fs vs e3⟩
  | .fn l, v, h => by
    rw [Rep] at *
    obtain ⟨f, e1, e2⟩ := h
    exact ⟨f, e1, e2.mono e⟩
theorem Reps.mono (e : Same F F') : ∀ (ds : List D) (vs : List V), Reps K F ds vs → Reps K F' ds vs
  | [], _, h => by rw [Reps] at *; exact h
  | d :: ds, vs, h => by
    rw [Reps] at *
    obtain ⟨v, r, e1, e2, e3⟩ := h
    exact ⟨v, r, e1, Rep.mono e d v e2, Reps.mono e ds r e3⟩
theorem RepF.mono (e : Same F F') : ∀ (ds : List (Str × D)) (vs : List (Str × V)), RepF K F ds vs → RepF K F' ds vs
  | [], _, h => by rw [RepF] at *; exact h
  | p :: ds, vs, h => by
    rw [RepF] at *
    obtain ⟨v, r, e1, e2, e3⟩ := h
    exact ⟨v, r, e1, RepP.mono e p v e2, RepF.mono e ds r e3⟩
theorem RepP.mono (e : Same F F') : ∀ (p : Str × D) (v : Str × V), RepP K F p v → RepP K F' p v
  | (n, d), v, h => by
    rw [RepP] at *
    exact ⟨h.1, Rep.mono e d v.2 h.2⟩
end
theorem Reps.len : ∀ {ds : List D} {vs : List V}, Reps K F ds vs → vs.length = ds.length
  | [], _, h => by rw [Reps] at h; subst h; rfl
  | d :: ds, vs, h => by
    rw [Reps] at h
    obtain ⟨v, r, e1, e2, e3⟩ := h
    subst e1
    simp [Reps.len e3]
theorem Reps.nil : Reps K F [] [] := by rw [Reps]
theorem Reps.cons {d : D} {v : V} {ds : List D} {vs : List V} (a : Rep K F d v) (b : Reps K F ds vs) : Reps K F (d :: ds) (v :: vs) := by rw [Reps]; exact ⟨v, vs, rfl, a, b⟩
theorem Reps.get : ∀ {ds : List D} {vs : List V} {i : Nat} {d : D}, Reps K F ds vs → ds[i]? = some d → ∃ v, vs[i]? = some v ∧ Rep K F d v
  | [], _, _, _, _, e => by simp at e
  | x :: ds, vs, 0, d, h, e => by
    rw [Reps] at h
    obtain ⟨v, r, e1, e2, e3⟩ := h
    simp at e; subst e e1
    exact ⟨v, rfl, e2⟩
  | x :: ds, vs, i + 1, d, h, e => by
    rw [Reps] at h
    obtain ⟨v, r, e1, e2, e3⟩ := h
    subst e1
    obtain ⟨u, q1, q2⟩ := Reps.get (i := i) (d := d) e3 (by simpa using e)
    exact ⟨u, by simpa using q1, q2⟩
theorem Reps.get' {ds : List D} {vs : List V} {i : Nat} {v : V} (h : Reps K F ds vs) (e : vs[i]? = some v) : ∃ d, ds[i]? = some d ∧ Rep K F d v := by
  have hl := h.len
  have hi : i < vs.length := (List.getElem?_eq_some_iff.mp e).1
  obtain ⟨u, q1, q2⟩ := h.get (i := i) (d := ds[i]) (by simp)
  rw [e] at q1; cases q1
  exact ⟨_, by simp, q2⟩
theorem Reps.app : ∀ {ds es : List D} {vs ws : List V}, Reps K F ds vs → Reps K F es ws → Reps K F (ds ++ es) (vs ++ ws)
  | [], es, vs, ws, h, g => by rw [Reps] at h; subst h; exact g
  | d :: ds, es, vs, ws, h, g => by
    rw [Reps] at h
    obtain ⟨v, r, e1, e2, e3⟩ := h
    subst e1
    exact Reps.cons e2 (Reps.app e3 g)
theorem Reps.one {d : D} {v : V} (a : Rep K F d v) : Reps K F [d] [v] := Reps.cons a Reps.nil
theorem Reps.take : ∀ (n : Nat) {ds : List D} {vs : List V}, Reps K F ds vs → Reps K F (ds.take n) (vs.take n)
  | 0, _, _, h => Reps.nil
  | n + 1, [], vs, h => by rw [Reps] at h; subst h; exact Reps.nil
  | n + 1, d :: ds, vs, h => by
    rw [Reps] at h
    obtain ⟨v, r, e1, e2, e3⟩ := h
    subst e1
    exact Reps.cons e2 (Reps.take n e3)
theorem Reps.drop : ∀ (n : Nat) {ds : List D} {vs : List V}, Reps K F ds vs → Reps K F (ds.drop n) (vs.drop n)
  | 0, _, _, h => h
  | n + 1, [], vs, h => by rw [Reps] at h; subst h; exact Reps.nil
  | n + 1, d :: ds, vs, h => by
    rw [Reps] at h
    obtain ⟨v, r, e1, e2, e3⟩ := h
    subst e1
    exact Reps.drop n e3
theorem Reps.set {d : D} {v : V} (a : Rep K F d v) : ∀ (n : Nat) {ds : List D} {vs : List V}, Reps K F ds vs → Reps K F (ds.set n d) (vs.set n v)
  | _, [], vs, h => by rw [Reps] at h; subst h; exact Reps.nil
  | 0, x :: ds, vs, h => by
    rw [Reps] at h
    obtain ⟨v, r, e1, e2, e3⟩ := h
    subst e1
    exact Reps.cons a e3
  | n + 1, x :: ds, vs, h => by
    rw [Reps] at h
    obtain ⟨v, r, e1, e2, e3⟩ := h
    subst e1
    exact Reps.cons e2 (Reps.set a n e3)
theorem Reps.dropLast {ds : List D} {vs : List V} (h : Reps K F ds vs) : Reps K F ds.dropLast vs.dropLast := by
  rw [List.dropLast_eq_take, List.dropLast_eq_take, h.len]; exact h.take _
theorem Reps.reverse : ∀ {ds : List D} {vs : List V}, Reps K F ds vs → Reps K F ds.reverse vs.reverse
  | [], vs, h => by rw [Reps] at h; subst h; exact Reps.nil
  | d :: ds, vs, h => by
    rw [Reps] at h
    obtain ⟨v, r, e1, e2, e3⟩ := h
    subst e1
    rw [List.reverse_cons, List.reverse_cons]
    exact Reps.app (Reps.reverse e3) (Reps.one e2)
theorem Reps.strs : ∀ {ys : List Str} {vs : List V}, Reps K F (ys.map D.str) vs → vs = ys.map V.str
  | [], vs, h => by rw [List.map_nil, Reps] at h; subst h; rfl
  | y :: ys, vs, h => by
    rw [List.map_cons, Reps] at h
    obtain ⟨v, r, e1, e2, e3⟩ := h
    rw [Rep] at e2
    subst e1 e2
    rw [Reps.strs e3]; rfl
theorem Reps.ints : ∀ {ys : List Int} {vs : List V}, Reps K F (ys.map D.int) vs → vs = ys.map V.int
  | [], vs, h => by rw [List.map_nil, Reps] at h; subst h; rfl
  | y :: ys, vs, h => by
    rw [List.map_cons, Reps] at h
    obtain ⟨v, r, e1, e2, e3⟩ := h
    rw [Rep] at e2
    subst e1 e2
    rw [Reps.ints e3]; rfl
theorem Reps.of_strs : ∀ {ys : List Str}, Reps K F (ys.map D.str) (ys.map V.str)
  | [] => Reps.nil
  | y :: ys => Reps.cons (by rw [Rep]) Reps.of_strs
theorem Reps.of_ints : ∀ {ys : List Int}, Reps K F (ys.map D.int) (ys.map V.int)
  | [] => Reps.nil
  | y :: ys => Reps.cons (by rw [Rep]) Reps.of_ints
theorem RepF.look : ∀ {fs : List (Str × D)} {vs : List (Str × V)} {n : Str} {d : D}, RepF K F fs vs → fs.lookup n = some d → ∃ v, vs.lookup n = some v ∧ Rep K F d v
  | [], vs, n, d, h, e => by simp at e
  | (m, x) :: fs, vs, n, d, h, e => by
    rw [RepF] at h
    obtain ⟨v, r, e1, e2, e3⟩ := h
    rw [RepP] at e2
    obtain ⟨e2, e4⟩ := e2
    subst e1
    obtain ⟨m', u⟩ := v
    simp only at e2 e4
    subst e2
    rw [List.lookup_cons] at e ⊢
    cases q : n == m' with
    | true => rw [q] at e; simp at e; subst e; exact ⟨u, rfl, e4⟩
    | false => rw [q] at e; exact RepF.look e3 e
theorem RepF.look0 : ∀ {fs : List (Str × D)} {vs : List (Str × V)} {n : Str}, RepF K F fs vs → fs.lookup n = none → vs.lookup n = none
  | [], vs, n, h, e => by rw [RepF] at h; subst h; rfl
  | (m, x) :: fs, vs, n, h, e => by
    rw [RepF] at h
    obtain ⟨v, r, e1, e2, e3⟩ := h
    rw [RepP] at e2
    obtain ⟨e2, e4⟩ := e2
    subst e1
    obtain ⟨m', u⟩ := v
    simp only at e2 e4
    subst e2
    rw [List.lookup_cons] at e ⊢
    cases q : n == m' with
    | true => rw [q] at e; simp at e
    | false => rw [q] at e; exact RepF.look0 e3 e
theorem RepF.len : ∀ {fs : List (Str × D)} {vs : List (Str × V)}, RepF K F fs vs → vs.length = fs.length
  | [], vs, h => by rw [RepF] at h; subst h; rfl
  | p :: fs, vs, h => by
    rw [RepF] at h
    obtain ⟨v, r, e1, e2, e3⟩ := h
    subst e1
    simp [RepF.len e3]
/-- as putF -/
def putD (f : Str) (v : D) : List (Str × D) → List (Str × D)
  | [] => [(f, v)]
  | (g, x) :: r => if g = f then (g, v) :: r else (g, x) :: putD f v r
theorem RepF.put {f : Str} {d : D} {v : V} (hd : Rep K F d v) : ∀ {fs : List (Str × D)} {vs : List (Str × V)}, RepF K F fs vs → RepF K F (putD f d fs) (putF f v vs)
  | [], vs, h => by
    rw [RepF] at h; subst h
    show RepF K F [(f, d)] [(f, v)]
    rw [RepF]; exact ⟨_, _, rfl, by rw [RepP]; exact ⟨rfl, hd⟩, by rw [RepF]⟩
  | (m, x) :: fs, vs, h => by
    rw [RepF] at h
    obtain ⟨v', r, e1, e2, e3⟩ := h
    rw [RepP] at e2
    obtain ⟨e2, e4⟩ := e2
    subst e1
    obtain ⟨m', u⟩ := v'
    simp only at e2 e4
    subst e2
    unfold putD putF
    by_cases q : m' = f
    · rw [if_pos q, if_pos q]
      rw [RepF]; exact ⟨_, _, rfl, by rw [RepP]; exact ⟨rfl, hd⟩, e3⟩
    · rw [if_neg q, if_neg q]
      rw [RepF]; exact ⟨_, _, rfl, by rw [RepP]; exact ⟨rfl, e4⟩, RepF.put hd e3⟩
/-! ### objects that may change -/
inductive MO where
  | lst (xs : List D)
  | ins (C : Addr) (fs : List (Str × D))
  | tab (q : Str)
  deriving Inhabited
abbrev Mp := Addr → Option MO
def RepM (K : PySem.W.Frag) (F : Hp) : MO → HO → Prop
  | .lst ds, o => ∃ vs, o = .lst vs ∧ Reps K F ds vs
  | .ins C fs, o => ∃ dx vs, o = .ins C dx vs ∧ RepF K F fs vs
  | .tab q, o => ∃ ps : Array Value, o = .tbl ps ∧ TriplesOk ps.toList ∧ ∀ (pos : Pos) (cv : Value), codeAmong pos ps.toList = some cv → ∃ c, cv = .ref c ∧ F c = some (LamX.CodeO c q)
theorem RepM.mono (e : Same F F') {mo : MO} {o : HO} (h : RepM K F mo o) : RepM K F' mo o := by
  cases mo with
  | lst ds => obtain ⟨vs, e1, e2⟩ := h; exact ⟨vs, e1, e2.mono e⟩
  | ins C fs => obtain ⟨dx, vs, e1, e2⟩ := h; exact ⟨dx, vs, e1, e2.mono e⟩
  | tab q => obtain ⟨ps, e1, e2, e3⟩ := h; exact ⟨ps, e1, e2, fun pos cv z => let ⟨c, a, b⟩ := e3 pos cv z; ⟨c, a, e _ _ b⟩⟩
def up (M : Mp) (a : Addr) (o : MO) : Mp := fun b => if b = a then some o else M b
def rm (M : Mp) (a : Addr) : Mp := fun b => if b = a then none else M b
@[simp] theorem up_same {M : Mp} {a : Addr} {o : MO} : up M a o a = some o := by simp [up]
theorem up_ne {M : Mp} {a b : Addr} {o : MO} (h : b ≠ a) : up M a o b = M b := by simp [up, h]
@[simp] theorem up_up {M : Mp} {a : Addr} {o o' : MO} : up (up M a o) a o' = up M a o' := by
  funext b; unfold up; split <;> rfl
theorem up_comm {M : Mp} {a b : Addr} {o o' : MO} (h : a ≠ b) : up (up M a o) b o' = up (up M b o') a o := by
  funext c; unfold up
  by_cases e1 : c = a
  · subst e1; simp [h]
  · simp [e1]
@[simp] theorem rm_up {M : Mp} {a : Addr} {o : MO} : rm (up M a o) a = rm M a := by
  funext b
  by_cases e : b = a
  · simp [rm, e]
  · simp [rm, up, e]
theorem rm_of {M : Mp} {a : Addr} (h : M a = none) : rm M a = M := by
  funext b
  by_cases e : b = a
  · subst e; simp [rm, h]
  · simp [rm, e]
theorem up_id {M : Mp} {a : Addr} {o : MO} (h : M a = some o) : up M a o = M := by
  funext b
  by_cases e : b = a
  · subst e; rw [up_same, h]
  · rw [up_ne e]
structure CoreP (K : PySem.W.Frag) (F H : Hp) (M : Mp) : Prop where
  same : Same F H
  mem : ∀ a mo, M a = some mo → F a = none ∧ ∃ o, H a = some o ∧ RepM K F mo o
/-- what stands outside M stays -/
def Fr (F H : Hp) (M : Mp) (F' H' : Hp) (M' : Mp) : Prop := ∀ a o, H a = some o → M a = none → H' a = some o ∧ M' a = none ∧ (F a = none → F' a = none)
theorem Fr.refl {M : Mp} : Fr F H M F H M := fun _ _ a b => ⟨a, b, fun z => z⟩
theorem Fr.trans {F1 : Hp} {M M1 M2 : Mp} (a : Fr F H M F1 H1 M1) (b : Fr F1 H1 M1 F' H' M2) : Fr F H M F' H' M2 := fun c o e n =>
  let ⟨e1, n1, g1⟩ := a c o e n
  let ⟨e2, n2, g2⟩ := b c o e1 n1
  ⟨e2, n2, fun z => g2 (g1 z)⟩
theorem CoreP.fr {M M' : Mp} (c : CoreP K F H M) (f : Fr F H M F' H' M') : Same F H' := fun a o e => by
  cases q : M a with
  | none => exact (f a o (c.same a o e) q).1
  | some mo => rw [(c.mem a mo q).1] at e; cases e
theorem CoreP.nones {M : Mp} (c : CoreP K F H M) {p : Addr} (h : H p = none) : F p = none ∧ M p = none := by
  refine ⟨c.same.free h, ?_⟩
  cases q : M p with
  | none => rfl
  | some mo => obtain ⟨_, o, e, _⟩ := c.mem p mo q; rw [h] at e; cases e
/-- a new frozen object -/
theorem CoreP.new {M : Mp} (c : CoreP K F H M) {p : Addr} (h : H p = none) (o : HO) : CoreP K (upd F p o) (upd H p o) M ∧ Same F (upd F p o) ∧ Fr F H M (upd F p o) (upd H p o) M := by
  obtain ⟨n1, n2⟩ := c.nones h
  have s1 : Same F (upd F p o) := fun b u e => by rw [upd_ne (ne_of_none e n1)]; exact e
  refine ⟨⟨fun b u e => ?_, fun a mo e => ?_⟩, s1, fun b u e n => ⟨by rw [upd_ne (ne_of_none e h)]; exact e, n, fun z => by rw [upd_ne (ne_of_none e h)]; exact z⟩⟩
  · by_cases hb : b = p
    · subst hb; rw [upd_same] at e ⊢; exact e
    · rw [upd_ne hb] at e ⊢; exact c.same b u e
  · obtain ⟨f0, u, e1, r⟩ := c.mem a mo e
    have na : a ≠ p := fun z => by rw [z, n2] at e; cases e
    refine ⟨by rw [upd_ne na]; exact f0, u, by rw [upd_ne na]; exact e1, r.mono s1⟩
/-- a new object that may change -/
theorem CoreP.newM {M : Mp} (c : CoreP K F H M) {p : Addr} (h : H p = none) {o : HO} {mo : MO} (r : RepM K F mo o) : CoreP K F (upd H p o) (up M p mo) ∧ Fr F H M F (upd H p o) (up M p mo) := by
  obtain ⟨n1, n2⟩ := c.nones h
  refine ⟨⟨fun b u e => by rw [upd_ne (ne_of_none e n1)]; exact c.same b u e, fun a mo' e => ?_⟩, fun b u e n => ⟨by rw [upd_ne (ne_of_none e h)]; exact e, by rw [up_ne (ne_of_none e h)]; exact n, fun z => z⟩⟩
  by_cases ha : a = p
  · subst ha
    rw [up_same] at e; cases e
    exact ⟨n1, o, upd_same, r⟩
  · rw [up_ne ha] at e
    obtain ⟨f0, u, e1, r'⟩ := c.mem a mo' e
    exact ⟨f0, u, by rw [upd_ne ha]; exact e1, r'⟩
/-- an object of M is written -/
theorem CoreP.write {M : Mp} (c : CoreP K F H M) {p : Addr} {mo0 mo : MO} (h : M p = some mo0) {o : HO} (r : RepM K F mo o) : CoreP K F (upd H p o) (up M p mo) ∧ Fr F H M F (upd H p o) (up M p mo) := by
  obtain ⟨n1, u0, h1, r0⟩ := c.mem p mo0 h
  refine ⟨⟨fun b u e => by rw [upd_ne (ne_of_none e n1)]; exact c.same b u e, fun a mo' e => ?_⟩, fun b u e n => ?_⟩
  · by_cases ha : a = p
    · subst ha
      rw [up_same] at e; cases e
      exact ⟨n1, o, upd_same, r⟩
    · rw [up_ne ha] at e
      obtain ⟨f0, u, e1, r'⟩ := c.mem a mo' e
      exact ⟨f0, u, by rw [upd_ne ha]; exact e1, r'⟩
  · have hb : b ≠ p := fun z => by rw [z, h] at n; cases n
    exact ⟨by rw [upd_ne hb]; exact e, by rw [up_ne hb]; exact n, fun z => z⟩
/-- an object of M is frozen -/
theorem CoreP.freeze {M : Mp} (c : CoreP K F H M) {p : Addr} {mo : MO} (h : M p = some mo) : ∃ o, RepM K F mo o ∧ CoreP K (upd F p o) H (rm M p) ∧ Same F (upd F p o) ∧ Fr F H M (upd F p o) H (rm M p) := by
  obtain ⟨n1, o, h1, r⟩ := c.mem p mo h
  have s1 : Same F (upd F p o) := fun b u e => by rw [upd_ne (ne_of_none e n1)]; exact e
  refine ⟨o, r, ⟨fun b u e => ?_, fun a mo' e => ?_⟩, s1, fun b u e n => ⟨e, ?_, fun z => by rw [upd_ne (fun w => by rw [w, h] at n; cases n)]; exact z⟩⟩
  · by_cases hb : b = p
    · subst hb; rw [upd_same] at e; cases e; exact h1
    · rw [upd_ne hb] at e; exact c.same b u e
  · by_cases ha : a = p
    · subst ha; simp [rm] at e
    · simp [rm, ha] at e
      obtain ⟨f0, u, e1, r'⟩ := c.mem a mo' e
      exact ⟨by rw [upd_ne ha]; exact f0, u, e1, r'.mono s1⟩
  · unfold rm; split
    · rfl
    · exact n
/-- an object of M is forgotten -/
theorem CoreP.drop {M M' : Mp} (c : CoreP K F H M) (h : ∀ a mo, M' a = some mo → M a = some mo) : CoreP K F H M' := ⟨c.same, fun a mo e => c.mem a mo (h a mo e)⟩
/-! ### environments -/
abbrev DSt := List (Option D)
def EnvR (K : PySem.W.Frag) (F : Hp) (σ : L2.St) (env : DSt) : Prop := σ.length = env.length ∧ ∀ (i : Nat) (d : D), env[i]? = some (some d) → ∃ v : V, σ[i]? = some (some v) ∧ Rep K F d v
theorem EnvR.mono (e : Same F F') {σ : L2.St} {env : DSt} (h : EnvR K F σ env) : EnvR K F' σ env := ⟨h.1, fun i d q => let ⟨v, a, b⟩ := h.2 i d q; ⟨v, a, b.mono e⟩⟩
theorem EnvR.set {σ : L2.St} {env : DSt} {d : D} {v : V} (h : EnvR K F σ env) (i : Nat) (r : Rep K F d v) : EnvR K F (σ.set i (some v)) (env.set i (some d)) := by
  refine ⟨by simp [h.1], fun j e q => ?_⟩
  by_cases hj : i = j
  · subst hj
    have hi : i < env.length := by
      have := (List.getElem?_eq_some_iff.mp q).1
      simpa using this
    rw [List.getElem?_set_self hi] at q
    cases q
    exact ⟨v, by rw [List.getElem?_set_self (by rw [h.1]; exact hi)], r⟩
  · rw [List.getElem?_set_ne hj] at q ⊢
    exact h.2 j e q
end
/-- what is kept through a body beside the heaps themselves -/
class GI (K : PySem.W.Frag) where
  p : Hp → Hp → Mp → Prop
  cl : ∀ {F H : Hp} {M : Mp} {F' H' : Hp} {M' : Mp}, p F H M → Same F F' → Fr F H M F' H' M' → p F' H' M'
structure Core (K : PySem.W.Frag) [G : GI K] (F H : Hp) (M : Mp) : Prop extends CoreP K F H M where
  g : G.p F H M
section
variable {K : PySem.W.Frag} {G : GI K} {F H F' H' : Hp} {M M' : Mp}
theorem Core.to (c : Core K F H M) (c' : CoreP K F' H' M') (s : Same F F') (f : Fr F H M F' H' M') : Core K F' H' M' := ⟨c', G.cl c.g s f⟩
theorem Core.fr (c : Core K F H M) (f : Fr F H M F' H' M') : Same F H' := c.toCoreP.fr f
theorem Core.nones (c : Core K F H M) {p : Addr} (h : H p = none) : F p = none ∧ M p = none := c.toCoreP.nones h
/-- a new object that nothing is told of -/
theorem Core.out (c : Core K F H M) {L : Addr} (hL : H L = none) (o : HO) : Core K F (upd H L o) M :=
  c.to ⟨fun b u e => by rw [upd_ne (ne_of_none (c.same b u e) hL)]; exact c.same b u e, fun a mo e => by
    obtain ⟨x1, o, x2, x3⟩ := c.mem a mo e
    exact ⟨x1, o, by rw [upd_ne (ne_of_none x2 hL)]; exact x2, x3⟩⟩ (Same.refl F) fun a o e n => ⟨by rw [upd_ne (ne_of_none e hL)]; exact e, n, fun z => z⟩
theorem Core.new (c : Core K F H M) {p : Addr} (h : H p = none) (o : HO) : Core K (upd F p o) (upd H p o) M ∧ Same F (upd F p o) ∧ Fr F H M (upd F p o) (upd H p o) M :=
  let ⟨c1, s1, f1⟩ := c.toCoreP.new h o
  ⟨c.to c1 s1 f1, s1, f1⟩
theorem Core.newM (c : Core K F H M) {p : Addr} (h : H p = none) {o : HO} {mo : MO} (r : RepM K F mo o) : Core K F (upd H p o) (up M p mo) ∧ Fr F H M F (upd H p o) (up M p mo) :=
  let ⟨c1, f1⟩ := c.toCoreP.newM h r
  ⟨c.to c1 (Same.refl F) f1, f1⟩
theorem Core.write (c : Core K F H M) {p : Addr} {mo0 mo : MO} (h : M p = some mo0) {o : HO} (r : RepM K F mo o) : Core K F (upd H p o) (up M p mo) ∧ Fr F H M F (upd H p o) (up M p mo) :=
  let ⟨c1, f1⟩ := c.toCoreP.write h r
  ⟨c.to c1 (Same.refl F) f1, f1⟩
theorem Core.freeze (c : Core K F H M) {p : Addr} {mo : MO} (h : M p = some mo) : ∃ o, RepM K F mo o ∧ Core K (upd F p o) H (rm M p) ∧ Same F (upd F p o) ∧ Fr F H M (upd F p o) H (rm M p) :=
  let ⟨o, r, c1, s1, f1⟩ := c.toCoreP.freeze h
  ⟨o, r, c.to c1 s1 f1, s1, f1⟩
end
/-! ### readings -/
abbrev DQ := D → Mp → Prop
abbrev DTE := DSt → Mp → DQ → Prop
abbrev DTT := DSt → Mp → (Bool → Mp → Prop) → Prop
abbrev DTA := DSt → Mp → (List D → Mp → Prop) → Prop
structure DEnds where
  nx : DSt → Mp → Prop
  rt : DQ
  bk : DSt → Mp → Prop := fun _ _ => False
  ct : DSt → Mp → Prop := fun _ _ => False
abbrev DTS := DEnds → DSt → Mp → Prop
def Post (K : PySem.W.Frag) [GI K] (F H : Hp) (M : Mp) (Q0 : DQ) (Q : VK) : Prop := ∀ d M' F' H' v, Q0 d M' → Same F F' → Fr F H M F' H' M' → Core K F' H' M' → Rep K F' d v → Q v H'
def PostT (K : PySem.W.Frag) [GI K] (F H : Hp) (M : Mp) (Q0 : Bool → Mp → Prop) (Q : Bool → Hp → Prop) : Prop := ∀ d M' F' H', Q0 d M' → Same F F' → Fr F H M F' H' M' → Core K F' H' M' → Q d H'
def PostA (K : PySem.W.Frag) [GI K] (F H : Hp) (M : Mp) (Q0 : List D → Mp → Prop) (Q : List V → Hp → Prop) : Prop := ∀ ds M' F' H' vs, Q0 ds M' → Same F F' → Fr F H M F' H' M' → Core K F' H' M' → Reps K F' ds vs → Q vs H'
def PostN (K : PySem.W.Frag) [GI K] (F H : Hp) (M : Mp) (Q0 : DSt → Mp → Prop) (Q : L2.St → Hp → Prop) : Prop := ∀ env M' F' H' σ, Q0 env M' → Same F F' → Fr F H M F' H' M' → Core K F' H' M' → EnvR K F' σ env → Q σ H'
structure PostS (K : PySem.W.Frag) [GI K] (F H : Hp) (M : Mp) (D0 : DEnds) (E : Ends) : Prop where
  nx : PostN K F H M D0.nx E.nx
  rt : Post K F H M D0.rt E.rt
  bk : PostN K F H M D0.bk E.bk
  ct : PostN K F H M D0.ct E.ct
section
variable {K : PySem.W.Frag} {G : GI K} {F F1 H H1 : Hp} {M M1 : Mp}
theorem Post.after {Q0 : DQ} {Q : VK} (p : Post K F H M Q0 Q) (s : Same F F1) (f : Fr F H M F1 H1 M1) : Post K F1 H1 M1 Q0 Q := fun d M' F' H' v q s' f' c r => p d M' F' H' v q (s.trans s') (f.trans f') c r
theorem PostT.after {Q0 : Bool → Mp → Prop} {Q : Bool → Hp → Prop} (p : PostT K F H M Q0 Q) (s : Same F F1) (f : Fr F H M F1 H1 M1) : PostT K F1 H1 M1 Q0 Q := fun d M' F' H' q s' f' c => p d M' F' H' q (s.trans s') (f.trans f') c
theorem PostA.after {Q0 : List D → Mp → Prop} {Q : List V → Hp → Prop} (p : PostA K F H M Q0 Q) (s : Same F F1) (f : Fr F H M F1 H1 M1) : PostA K F1 H1 M1 Q0 Q := fun d M' F' H' v q s' f' c r => p d M' F' H' v q (s.trans s') (f.trans f') c r
theorem PostN.after {Q0 : DSt → Mp → Prop} {Q : L2.St → Hp → Prop} (p : PostN K F H M Q0 Q) (s : Same F F1) (f : Fr F H M F1 H1 M1) : PostN K F1 H1 M1 Q0 Q := fun d M' F' H' v q s' f' c r => p d M' F' H' v q (s.trans s') (f.trans f') c r
theorem PostS.after {D0 : DEnds} {E : Ends} (p : PostS K F H M D0 E) (s : Same F F1) (f : Fr F H M F1 H1 M1) : PostS K F1 H1 M1 D0 E := ⟨p.nx.after s f, p.rt.after s f, p.bk.after s f, p.ct.after s f⟩
end
def lE (K : PySem.W.Frag) [GI K] (t : DTE) : TE := fun σ H Q => ∃ F env M Q0, EnvR K F σ env ∧ Core K F H M ∧ t env M Q0 ∧ Post K F H M Q0 Q
def lT (K : PySem.W.Frag) [GI K] (t : DTT) : TT := fun σ H Q => ∃ F env M Q0, EnvR K F σ env ∧ Core K F H M ∧ t env M Q0 ∧ PostT K F H M Q0 Q
def lA (K : PySem.W.Frag) [GI K] (t : DTA) : TA := fun σ H Q => ∃ F env M Q0, EnvR K F σ env ∧ Core K F H M ∧ t env M Q0 ∧ PostA K F H M Q0 Q
def lS (K : PySem.W.Frag) [GI K] (t : DTS) : TS := fun E σ H => ∃ F env M D0, EnvR K F σ env ∧ Core K F H M ∧ t D0 env M ∧ PostS K F H M D0 E
abbrev DE (X : Cx) [GI X.K] (e : Expr) (t : DTE) : Prop := PE X e (lE X.K t)
abbrev DT (X : Cx) [GI X.K] (e : Expr) (t : DTT) : Prop := PT X e (lT X.K t)
abbrev DA (X : Cx) [GI X.K] (e : List Expr) (t : DTA) : Prop := PA X e (lA X.K t)
abbrev DS (X : Cx) [GI X.K] (st : Stmt) (t : DTS) : Prop := PS X st (lS X.K t)
abbrev DSs (X : Cx) [GI X.K] (st : List Stmt) (t : DTS) : Prop := PSs X st (lS X.K t)
theorem PE.imp {X : Cx} {e : Expr} {t t' : TE} (h : PE X e t) (i : ∀ σ H Q, t' σ H Q → t σ H Q) : PE X e t' := ⟨fun pins s σ H Q I q => h.run pins s σ H Q I (i σ H Q q)⟩
theorem PT.imp {X : Cx} {e : Expr} {t t' : TT} (h : PT X e t) (i : ∀ σ H Q, t' σ H Q → t σ H Q) : PT X e t' := ⟨fun pins s σ H Q I q => h.run pins s σ H Q I (i σ H Q q)⟩
theorem PW.imp {X : Cx} {e : Expr} {t t' : TT} (h : PW X e t) (i : ∀ σ H Q, t' σ H Q → t σ H Q) : PW X e t' := ⟨fun wh pins s σ H Q I q => h.run wh pins s σ H Q I (i σ H Q q)⟩
theorem PA.imp {X : Cx} {e : List Expr} {t t' : TA} (h : PA X e t) (i : ∀ σ H Q, t' σ H Q → t σ H Q) : PA X e t' := ⟨fun pos pins s σ H Q I q => h.run pos pins s σ H Q I (i σ H Q q)⟩
theorem PS.imp {X : Cx} {e : Stmt} {t t' : TS} (h : PS X e t) (i : ∀ E σ H, t' E σ H → t E σ H) : PS X e t' := ⟨fun pins s σ H D I q => h.run pins s σ H D I (i D σ H q)⟩
theorem PSs.imp {X : Cx} {e : List Stmt} {t t' : TS} (h : PSs X e t) (i : ∀ E σ H, t' E σ H → t E σ H) : PSs X e t' := ⟨fun pins s σ H D I q => h.run pins s σ H D I (i D σ H q)⟩
/-- a D-level weakening of the same judgement -/
theorem DE.imp {X : Cx} {G : GI X.K} {e : Expr} {t t' : DTE} (h : DE X e t) (i : ∀ env M Q, t' env M Q → t env M Q) : DE X e t' :=
  PE.imp h fun σ H Q ⟨F, env, M, Q0, a, b, c, d⟩ => ⟨F, env, M, Q0, a, b, i _ _ _ c, d⟩
theorem DT.imp {X : Cx} {G : GI X.K} {e : Expr} {t t' : DTT} (h : DT X e t) (i : ∀ env M Q, t' env M Q → t env M Q) : DT X e t' :=
  PT.imp h fun σ H Q ⟨F, env, M, Q0, a, b, c, d⟩ => ⟨F, env, M, Q0, a, b, i _ _ _ c, d⟩
theorem DSs.imp {X : Cx} {G : GI X.K} {e : List Stmt} {t t' : DTS} (h : DSs X e t) (i : ∀ E env M, t' E env M → t E env M) : DSs X e t' :=
  PSs.imp h fun E σ H ⟨F, env, M, D0, a, b, c, d⟩ => ⟨F, env, M, D0, a, b, i _ _ _ c, d⟩
end DL
namespace DL
open PySem PySem.Spec PyProof.Rows L2
section
variable {X : Cx} {GX : GI X.K} {K : PySem.W.Frag} {G : GI K} {a b c e : Expr} {es : List Expr} {ta tb tc : DTE} {pos : Pos}
/-! ### names, constants -/
def dVar (i : Nat) : DTE := fun env M Q => match env[i]? with | some (some d) => Q d M | _ => False
def dC (d : D) : DTE := fun _ M Q => Q d M
theorem de_of {t : TE} {td : DTE} (h : PE X e t) (i : ∀ {F H M env σ Q0 Q}, EnvR X.K F σ env → Core X.K F H M → td env M Q0 → Post X.K F H M Q0 Q → t σ H Q) : DE X e td :=
  PE.imp h fun _ _ _ ⟨_, _, _, _, he, hc, ht, hp⟩ => i he hc ht hp
theorem de_var {i : Nat} (h : PE X e (tVar i)) : DE X e (dVar i) := de_of h fun {F H M env σ Q0 Q} he hc ht hp => by
  unfold dVar at ht
  split at ht
  · rename_i d q
    obtain ⟨v, e1, r⟩ := he.2 i d q
    exact ⟨v, e1, hp d M F H v ht (Same.refl F) Fr.refl hc r⟩
  · exact ht.elim
theorem de_c {v : V} {d : D} (h : PE X e (tC v)) (r : ∀ F, Rep X.K F d v) : DE X e (dC d) := de_of h fun {F H M env σ Q0 Q} he hc ht hp => hp d M F H v ht (Same.refl F) Fr.refl hc (r F)
theorem dv (i : Nat) {x : Str} {pos : Pos} (hN : X.N[i]? = some x := by rfl) (hv : Vis X.env.scope x := by first | exact Or.inl rfl | exact Or.inr (Or.inl rfl) | exact Or.inr (Or.inr rfl)) (hd : (x == ("__debug__" : Str)) = false := by decide)
    (hcd : (x == ("__classdict__" : Str)) = false := by decide) : DE X (.Name x pos) (dVar i) := de_var (pv i hN hv hd hcd)
theorem de_int {i j pos} : DE X (.Constant (.int i) j pos) (dC (.int i)) := de_c pe_int fun F => by rw [Rep]
theorem de_bl {i j pos} : DE X (.Constant (.bool i) j pos) (dC (.bl i)) := de_c pe_bl fun F => by rw [Rep]
theorem de_str {i j pos} : DE X (.Constant (.str i) j pos) (dC (.str i)) := de_c pe_str fun F => by rw [Rep]
theorem de_non {j pos} : DE X (.Constant .none j pos) (dC .non) := de_c pe_non fun F => by rw [Rep]
/-- a module's constant -/
theorem de_glob {x : Str} {v : V} {u : Value} {d : D} {pos : Pos} (hg : Gl X x) (hm : X.mg x = some u) (r : RelV v u) (q : ∀ F, Rep X.K F d v) (hd : (x == ("__debug__" : Str)) = false := by decide) : DE X (.Name x pos) (dC d) := de_c (pe_glob hg hm r hd) q
/-! ### operations by values -/
abbrev D2 := D → D → Mp → DQ → Prop
def LR2 (K : PySem.W.Frag) [GI K] (r : R2) (rd : D2) : Prop := ∀ {F H M d e v w Q0 Q}, Core K F H M → Rep K F d v → Rep K F e w → rd d e M Q0 → Post K F H M Q0 Q → r v w H Q
def dOp (rd : D2) (ta tb : DTE) : DTE := fun env M Q => ta env M fun x M1 => tb env M1 fun y M2 => rd x y M2 Q
theorem lop {r : R2} {rd : D2} (l : LR2 K r rd) : ∀ σ H Q, lE K (dOp rd ta tb) σ H Q → tOp r (lE K ta) (lE K tb) σ H Q := fun σ H Q ⟨F, env, M, Q0, he, hc, ht, hp⟩ =>
  ⟨F, env, M, _, he, hc, ht, fun d M1 F1 H1 v q s1 f1 c1 r1 => ⟨F1, env, M1, _, he.mono s1, c1, q, fun d' M2 F2 H2 v' q2 s2 f2 c2 r2 =>
    l c2 (r1.mono s2) r2 q2 (hp.after (s1.trans s2) (f1.trans f2))⟩⟩
theorem de_op {op : Operator} {r : R2} {rd : D2} (ho : OpR X (binaryOp op) r) (l : LR2 X.K r rd) (ha : DE X a ta) (hb : DE X b tb) : DE X (.BinOp a op b pos) (dOp rd ta tb) := PE.imp (pe_op ho ha hb) (lop l)
theorem de_cmp {op : CmpOp} {r : R2} {rd : D2} (ho : OpR X (compareOp op) r) (l : LR2 X.K r rd) (ha : DE X a ta) (hb : DE X b tb) (hm : behindInMarks op b = false) : DE X (.Compare a [op] [b] pos) (dOp rd ta tb) := PE.imp (pe_cmpR ho ha hb hm) (lop l)
/-- a value that is a bool, as a test -/
def dTB (t : DTE) : DTT := fun env M Q => t env M fun x M' => match x with | .bl k => Q k M' | _ => False
theorem dt_cmp {op : CmpOp} {r : R2} {rd : D2} (ho : OpR X (compareOp op) r) (l : LR2 X.K r rd) (ha : DE X a ta) (hb : DE X b tb) (hm : behindInMarks op b = false) : DT X (.Compare a [op] [b] pos) (dTB (dOp rd ta tb)) :=
  PT.imp (pt_cmpR ho ha hb hm) fun σ H Q ⟨F, env, M, Q0, he, hc, ht, hp⟩ => by
    refine lop l σ H _ ⟨F, env, M, _, he, hc, ht, fun d M1 F1 H1 v q s1 f1 c1 r1 => ?_⟩
    cases d with
    | bl k => rw [Rep] at r1; exact ⟨k, r1, hp k M1 F1 H1 q s1 f1 c1⟩
    | _ => exact False.elim q
/-- as a test: any expression whose value is True or False -/
theorem dt_val (h : DE X e ta) (he : ∀ whole, isTrue e X.env whole = (do let v ← whole; standAt e.pos; holding [v] (truthy v)) := by intro _; rfl) : DT X e (dTB ta) :=
  PT.imp (pt_val h he) fun σ H Q ⟨F, env, M, Q0, he, hc, ht, hp⟩ => by
    refine ⟨F, env, M, _, he, hc, ht, fun d M1 F1 H1 v q s1 f1 c1 r1 => ?_⟩
    cases d with
    | bl k => rw [Rep] at r1; exact ⟨k, r1, hp k M1 F1 H1 q s1 f1 c1⟩
    | _ => exact False.elim q
/-- a list that M or the data hold -/
def lstOf (M : Mp) : D → Option (List D)
  | .lst ds => some ds
  | .lsx ds => some ds
  | .ptr a => match M a with | some (.lst ds) => some ds | _ => none
  | _ => none
def tupOf : D → Option (List D)
  | .tup ds => some ds
  | _ => none
theorem lstOf_ok {F H : Hp} {M : Mp} {d : D} {v : V} {ds : List D} (c : Core K F H M) (r : Rep K F d v) (h : lstOf M d = some ds) : ∃ a vs, v = .ref a ∧ SqL K H a vs ∧ Reps K F ds vs := by
  cases d with
  | lst es =>
    simp [lstOf] at h; subst h
    rw [Rep] at r
    obtain ⟨a, vs, e1, e2, e3⟩ := r
    exact ⟨a, vs, e1, SqL.of (c.same _ _ e2), e3⟩
  | lsx es =>
    simp [lstOf] at h; subst h
    rw [Rep] at r
    obtain ⟨a, vs, e1, e2, e3⟩ := r
    exact ⟨a, vs, e1, c.same.seq e2, e3⟩
  | ptr a =>
    rw [Rep] at r
    simp only [lstOf] at h
    split at h
    · rename_i q
      cases h
      obtain ⟨_, o, ho, rm⟩ := c.mem a _ q
      obtain ⟨vs, e1, e2⟩ := rm
      subst e1
      exact ⟨a, vs, r, SqL.of ho, e2⟩
    · cases h
  | _ => simp [lstOf] at h
theorem tupOf_ok {F H : Hp} {M : Mp} {d : D} {v : V} {ds : List D} (c : Core K F H M) (r : Rep K F d v) (h : tupOf d = some ds) : ∃ a vs, v = .ref a ∧ SqT K H a vs ∧ Reps K F ds vs := by
  cases d with
  | tup es =>
    simp [tupOf] at h; subst h
    rw [Rep] at r
    obtain ⟨a, vs, e1, e2, e3⟩ := r
    exact ⟨a, vs, e1, sameT c.same e2, e3⟩
  | _ => simp [tupOf] at h
theorem Post.lst {F H : Hp} {M : Mp} {Q0 : DQ} {Q : VK} (p : Post K F H M Q0 Q) (c : Core K F H M) {ds : List D} {vs : List V} (r : Reps K F ds vs) (q : Q0 (.lst ds) M) : ∀ x, H x = none → Q (.ref x) (upd H x (.lst vs)) := fun x hx => by
  obtain ⟨c1, s1, f1⟩ := c.new hx (.lst vs)
  exact p _ _ _ _ _ q s1 f1 c1 (by rw [Rep]; exact ⟨x, vs, rfl, upd_same, r.mono s1⟩)
theorem Post.tup {F H : Hp} {M : Mp} {Q0 : DQ} {Q : VK} (p : Post K F H M Q0 Q) (c : Core K F H M) {ds : List D} {vs : List V} (r : Reps K F ds vs) (q : Q0 (.tup ds) M) : ∀ x, H x = none → Q (.ref x) (upd H x (.tup vs)) := fun x hx => by
  obtain ⟨c1, s1, f1⟩ := c.new hx (.tup vs)
  exact p _ _ _ _ _ q s1 f1 c1 (by rw [Rep]; exact ⟨x, vs, rfl, SqT.of upd_same, r.mono s1⟩)
theorem Post.val {F H : Hp} {M : Mp} {Q0 : DQ} {Q : VK} (p : Post K F H M Q0 Q) (c : Core K F H M) {d : D} {v : V} (q : Q0 d M) (r : Rep K F d v) : Q v H := p _ _ _ _ _ q (Same.refl F) Fr.refl c r
theorem Post.int {F H : Hp} {M : Mp} {Q0 : DQ} {Q : VK} (p : Post K F H M Q0 Q) (c : Core K F H M) {i : Int} (q : Q0 (.int i) M) : Q (.int i) H := p.val c q (by rw [Rep])
theorem Post.str {F H : Hp} {M : Mp} {Q0 : DQ} {Q : VK} (p : Post K F H M Q0 Q) (c : Core K F H M) {i : Str} (q : Q0 (.str i) M) : Q (.str i) H := p.val c q (by rw [Rep])
theorem Post.bl {F H : Hp} {M : Mp} {Q0 : DQ} {Q : VK} (p : Post K F H M Q0 Q) (c : Core K F H M) {i : Bool} (q : Q0 (.bl i) M) : Q (.bl i) H := p.val c q (by rw [Rep])
theorem Post.non {F H : Hp} {M : Mp} {Q0 : DQ} {Q : VK} (p : Post K F H M Q0 Q) (c : Core K F H M) (q : Q0 .non M) : Q .non H := p.val c q (by rw [Rep])
/-- the data as they stand in H -/
def rs (M : Mp) : D → D
  | .ptr a => match M a with | some (.lst ds) => .lst ds | _ => .ptr a
  | d => d
theorem rs_ok {F H : Hp} {M : Mp} {d : D} {v : V} (c : Core K F H M) (r : Rep K F d v) : Rep K H (rs M d) v := by
  cases d with
  | ptr a =>
    cases q : M a with
    | none =>
      simp only [rs, q]
      exact r.mono c.same
    | some mo =>
      cases mo with
      | lst ds =>
        obtain ⟨_, o, ho, vs, e1, e2⟩ := c.mem a _ q
        subst e1
        rw [Rep] at r
        simp only [rs, q]
        rw [Rep]
        exact ⟨a, vs, r, ho, e2.mono c.same⟩
      | tab z =>
        simp only [rs, q]
        exact r.mono c.same
      | ins C fs =>
        simp only [rs, q]
        exact r.mono c.same
  | _ => exact r.mono c.same
/-! ### data without objects -/
mutual
def D.py : D → PyData
  | .non => .none
  | .bl b => .bool b
  | .int i => .int i
  | .str x => .str x
  | .lst ds => .list (D.pys ds)
  | .lsx ds => .list (D.pys ds)
  | .tup ds => .tuple (D.pys ds)
  | .ptr _ => .none
  | .ty _ => .none
  | .obj _ _ => .none
  | .fn _ => .none
def D.pys : List D → List PyData
  | [] => []
  | d :: ds => D.py d :: D.pys ds
end
mutual
def D.pl : D → Bool
  | .non => true
  | .bl _ => true
  | .int _ => true
  | .str _ => true
  | .lst ds => D.pls ds
  | .lsx ds => D.pls ds
  | .tup ds => D.pls ds
  | .ptr _ => false
  | .ty _ => false
  | .obj _ _ => false
  | .fn _ => false
def D.pls : List D → Bool
  | [] => true
  | d :: ds => D.pl d && D.pls ds
end
mutual
theorem Rep.dp {H : Hp} : ∀ (d : D) (v : V), Rep K H d v → d.pl = true → Dp K H v d.py
  | .non, v, r, _ => by rw [Rep] at r; subst r; exact .non
  | .bl b, v, r, _ => by rw [Rep] at r; subst r; exact .bl b
  | .int b, v, r, _ => by rw [Rep] at r; subst r; exact .int b
  | .str b, v, r, _ => by rw [Rep] at r; subst r; exact .str b
  | .lst ds, v, r, h => by
    rw [Rep] at r
    obtain ⟨a, vs, e1, e2, e3⟩ := r
    subst e1
    rw [D.pl] at h
    rw [D.py]
    exact .lst (SqL.of e2) (Reps.dp ds vs e3 h)
  | .lsx ds, v, r, h => by
    rw [Rep] at r
    obtain ⟨a, vs, e1, e2, e3⟩ := r
    subst e1
    rw [D.pl] at h
    rw [D.py]
    exact .lst e2 (Reps.dp ds vs e3 h)
  | .tup ds, v, r, h => by
    rw [Rep] at r
    obtain ⟨a, vs, e1, e2, e3⟩ := r
    subst e1
    rw [D.pl] at h
    rw [D.py]
    exact .tup e2 (Reps.dp ds vs e3 h)
  | .ptr _, v, r, h => by rw [D.pl] at h; cases h
  | .ty _, v, r, h => by rw [D.pl] at h; cases h
  | .obj _ _, v, r, h => by rw [D.pl] at h; cases h
  | .fn _, v, r, h => by rw [D.pl] at h; cases h
theorem Reps.dp {H : Hp} : ∀ (ds : List D) (vs : List V), Reps K H ds vs → D.pls ds = true → DpAll K H vs (D.pys ds)
  | [], vs, r, _ => by rw [Reps] at r; subst r; exact .nil
  | d :: ds, vs, r, h => by
    rw [Reps] at r
    obtain ⟨v, w, e1, e2, e3⟩ := r
    subst e1
    rw [D.pls, Bool.and_eq_true] at h
    rw [D.pys]
    exact .cons (Rep.dp d v e2 h.1) (Reps.dp ds w e3 h.2)
end
/-- may be asked for == : no objects, texts of true signs, not too deep -/
def D.ok (d : D) : Bool := d.pl && SeqAt.shaped d.py
def D.eqv (d e : D) : Bool := PyData.eqv d.py e.py
/-! ### == -/
/-- the scalars -/
def sc2 : D → D → Bool
  | .non, .non => true | .non, .int _ => true | .int _, .non => true | .non, .bl _ => true | .bl _, .non => true | .non, .str _ => true | .str _, .non => true
  | .int _, .int _ => true | .bl _, .bl _ => true | .str _, .str _ => true
  | .int _, .str _ => true | .str _, .int _ => true | .bl _, .str _ => true | .str _, .bl _ => true
  | _, _ => false
def sEq : D → D → Bool
  | .non, .non => true
  | .int i, .int j => i == j
  | .bl i, .bl j => i == j
  | .str i, .str j => i == j
  | _, _ => false
theorem sc2_ok {F H : Hp} {d e : D} {v w : V} (r1 : Rep K F d v) (r2 : Rep K F e w) (h : sc2 d e = true) : scal v w = true ∧ decide (v = w) = sEq d e := by
  cases d <;> cases e <;> first
    | (simp [sc2] at h; done)
    | (simp only [Rep] at r1 r2; subst r1 r2; refine ⟨rfl, ?_⟩; first | rfl | exact dec_int | exact dec_bl | exact dec_str | (simp [sEq]; done))
def rEqW (neg : Bool) : D2 := fun x y M Q => if sc2 x y = true then Q (.bl (neg ^^ sEq x y)) M else ((rs M x).ok = true ∧ (rs M y).ok = true) ∧ Q (.bl (neg ^^ (rs M x).eqv (rs M y))) M
theorem ok2 {d : D} (h : d.ok = true) : d.pl = true ∧ SeqAt.shaped d.py = true := by
  unfold D.ok at h
  rw [Bool.and_eq_true] at h
  exact h
theorem l_eq : LR2 K (fun x y H Q => rEq x y H Q ∨ rEqD K x y H Q) (rEqW false) := by
  intro F H M d e v w Q0 Q c r1 r2 h p
  unfold rEqW at h
  split at h
  · rename_i q
    obtain ⟨q1, q2⟩ := sc2_ok (H := H) r1 r2 q
    refine .inl ⟨q1, ?_⟩
    rw [q2]
    exact p.bl c (by simpa using h)
  · obtain ⟨⟨h1, h2⟩, h3⟩ := h
    obtain ⟨a1, a2⟩ := ok2 h1
    obtain ⟨b1, b2⟩ := ok2 h2
    exact .inr ⟨_, _, Rep.dp _ _ (rs_ok c r1) a1, Rep.dp _ _ (rs_ok c r2) b1, a2, b2, p.bl c (by simpa [D.eqv] using h3)⟩
theorem l_ne : LR2 K (fun x y H Q => rNe x y H Q ∨ rNeD K x y H Q) (rEqW true) := by
  intro F H M d e v w Q0 Q c r1 r2 h p
  unfold rEqW at h
  split at h
  · rename_i q
    obtain ⟨q1, q2⟩ := sc2_ok (H := H) r1 r2 q
    refine .inl ⟨q1, ?_⟩
    rw [q2]
    exact p.bl c (by simpa using h)
  · obtain ⟨⟨h1, h2⟩, h3⟩ := h
    obtain ⟨a1, a2⟩ := ok2 h1
    obtain ⟨b1, b2⟩ := ok2 h2
    exact .inr ⟨_, _, Rep.dp _ _ (rs_ok c r1) a1, Rep.dp _ _ (rs_ok c r2) b1, a2, b2, p.bl c (by simpa [D.eqv] using h3)⟩
theorem o_eq (hu : X.A.units + 64 < cLine) : OpR X (compareOp .Eq) (fun x y H Q => rEq x y H Q ∨ rEqD X.K x y H Q) := op_eq.or (op_eqD hu)
theorem o_ne (hu : X.A.units + 64 < cLine) : OpR X (compareOp .NotEq) (fun x y H Q => rNe x y H Q ∨ rNeD X.K x y H Q) := op_ne.or (op_neD hu)
end
end DL
namespace DL
open PySem PySem.Spec PyProof.Rows L2
section
variable {X : Cx} {GX : GI X.K} {K : PySem.W.Frag} {G : GI K} {a b c e : Expr} {es : List Expr} {ta tb tc : DTE} {pos : Pos}
/-! ### arithmetic -/
def lstM (M : Mp) : D → Option (List D)
  | .lst ds => some ds
  | .ptr a => match M a with | some (.lst ds) => some ds | _ => none
  | _ => none
theorem lstM_ok {F H : Hp} {M : Mp} {d : D} {v : V} {ds : List D} (c : Core K F H M) (r : Rep K F d v) (h : lstM M d = some ds) : ∃ a vs, v = .ref a ∧ H a = some (.lst vs) ∧ Reps K F ds vs := by
  cases d with
  | lst es =>
    simp [lstM] at h; subst h
    rw [Rep] at r
    obtain ⟨a, vs, e1, e2, e3⟩ := r
    exact ⟨a, vs, e1, c.same _ _ e2, e3⟩
  | ptr a =>
    rw [Rep] at r
    simp only [lstM] at h
    split at h
    · rename_i q
      cases h
      obtain ⟨_, o, ho, rm⟩ := c.mem a _ q
      obtain ⟨vs, e1, e2⟩ := rm
      subst e1
      exact ⟨a, vs, r, ho, e2⟩
    · cases h
  | _ => simp [lstM] at h
def rAdd : D2 := fun x y M Q => match x, y with
  | .int i, .int j => Q (.int (i + j)) M
  | .str i, .str j => i.length + j.length ≤ sizeLine ∧ Q (.str (i ++ j)) M
  | .tup i, .tup j => (i ≠ [] ∧ j ≠ []) ∧ i.length + j.length ≤ sizeLine ∧ Q (.tup (i ++ j)) M
  | x, y => match lstM M x, lstM M y with
    | some i, some j => i.length + j.length ≤ sizeLine ∧ Q (.lst (i ++ j)) M
    | _, _ => False
abbrev rStrs : R2 := fun x y H Q => ∃ i j, x = .str i ∧ y = .str j ∧ i.length + j.length ≤ sizeLine ∧ Q (.str (i ++ j)) H
theorem l_add : LR2 K (fun x y H Q => ((rI0 fun i j => .int (i + j)) x y H Q ∨ rStrs x y H Q) ∨ (rCatT K x y H Q ∨ rCat x y H Q)) rAdd := by
  intro F H M d e v w Q0 Q c r1 r2 h p
  unfold rAdd at h
  split at h
  · simp only [Rep] at r1 r2
    exact .inl (.inl ⟨_, _, r1, r2, p.int c h⟩)
  · simp only [Rep] at r1 r2
    exact .inl (.inr ⟨_, _, r1, r2, h.1, p.str c h.2⟩)
  · rename_i i j
    rw [Rep] at r1 r2
    obtain ⟨x, xs, e1, e2, e3⟩ := r1
    obtain ⟨y, ys, f1, f2, f3⟩ := r2
    obtain ⟨⟨h1, h2⟩, h3, h4⟩ := h
    have l1 := e3.len
    have l2 := f3.len
    refine .inr (.inl ⟨x, y, xs, ys, e1, f1, sameT c.same e2, sameT c.same f2, fun z => h1 ?_, by omega, fun z => absurd ?_ h2, fun _ => p.tup c (e3.app f3) h4⟩)
    · subst z; exact List.length_eq_zero_iff.mp l1.symm
    · subst z; exact List.length_eq_zero_iff.mp l2.symm
  · split at h
    · rename_i i j g1 g2
      obtain ⟨x, xs, e1, e2, e3⟩ := lstM_ok c r1 g1
      obtain ⟨y, ys, f1, f2, f3⟩ := lstM_ok c r2 g2
      have l1 := e3.len
      have l2 := f3.len
      exact .inr (.inr ⟨x, y, xs, ys, e1, f1, e2, f2, by omega, p.lst c (e3.app f3) h.2⟩)
    · exact h.elim
theorem o_add : OpR X (binaryOp .Add) (fun x y H Q => ((rI0 fun i j => .int (i + j)) x y H Q ∨ rStrs x y H Q) ∨ (rCatT X.K x y H Q ∨ rCat x y H Q)) := (op_add.or op_add_str).or (op_catT.or op_cat)
theorem de_add (ha : DE X a ta) (hb : DE X b tb) : DE X (.BinOp a .Add b pos) (dOp rAdd ta tb) := de_op o_add l_add ha hb
/-- ints alone -/
def rInt2 (C : Int → Int → Prop) (g : Int → Int → Int) : D2 := fun x y M Q => match x, y with
  | .int i, .int j => C i j ∧ Q (.int (g i j)) M
  | _, _ => False
theorem l_int {C : Int → Int → Prop} {g : Int → Int → Int} : LR2 K (rI C fun i j => .int (g i j)) (rInt2 C g) := by
  intro F H M d e v w Q0 Q c r1 r2 h p
  unfold rInt2 at h
  split at h
  · simp only [Rep] at r1 r2
    exact ⟨_, _, r1, r2, h.1, p.int c h.2⟩
  · exact h.elim
def rSubI : D2 := fun x y M Q => match x, y with
  | .int i, .int j => Q (.int (i - j)) M
  | _, _ => False
theorem l_sub : LR2 K (rI0 fun i j => .int (i - j)) rSubI := by
  intro F H M d e v w Q0 Q c r1 r2 h p
  unfold rSubI at h
  split at h
  · simp only [Rep] at r1 r2
    exact ⟨_, _, r1, r2, p.int c h⟩
  · exact h.elim
theorem de_sub (ha : DE X a ta) (hb : DE X b tb) : DE X (.BinOp a .Sub b pos) (dOp rSubI ta tb) := de_op op_sub l_sub ha hb
theorem de_fdiv (ha : DE X a ta) (hb : DE X b tb) : DE X (.BinOp a .FloorDiv b pos) (dOp (rInt2 CDivN Int.fdiv) ta tb) := de_op op_fdivN l_int ha hb
theorem de_mod (ha : DE X a ta) (hb : DE X b tb) : DE X (.BinOp a .Mod b pos) (dOp (rInt2 (fun _ j => j ≠ 0) Int.fmod) ta tb) := de_op op_modN l_int ha hb
theorem de_mul (ha : DE X a ta) (hb : DE X b tb) : DE X (.BinOp a .Mult b pos) (dOp (rInt2 CMul fun i j => i * j) ta tb) := de_op op_mul l_int ha hb
theorem de_pow (ha : DE X a ta) (hb : DE X b tb) : DE X (.BinOp a .Pow b pos) (dOp (rInt2 CPow fun i j => i ^ j.toNat) ta tb) := de_op op_pow l_int ha hb
def rNeg : D → Mp → DQ → Prop := fun x M Q => match x with | .int i => Q (.int (-i)) M | _ => False
def dUn (r : D → Mp → DQ → Prop) (t : DTE) : DTE := fun env M Q => t env M fun x M' => r x M' Q
theorem de_neg (ha : DE X a ta) : DE X (.UnaryOp .USub a pos) (dUn rNeg ta) := PE.imp (pe_un un_neg ha) fun σ H Q ⟨F, env, M, Q0, he, hc, ht, hp⟩ =>
  ⟨F, env, M, _, he, hc, ht, fun d M1 F1 H1 v q s1 f1 c1 r1 => by
    cases d with
    | int i => rw [Rep] at r1; exact ⟨i, r1, (hp.after s1 f1).int c1 q⟩
    | _ => exact False.elim q⟩
/-! ### order -/
def rOrd (fi : Int → Int → Bool) (fs : Str → Str → Bool) (ft : List Int → List Int → Bool) : D2 := fun x y M Q => match x, y with
  | .int i, .int j => Q (.bl (fi i j)) M
  | .str i, .str j => Q (.bl (fs i j)) M
  | _, _ => False
theorem l_ord {fi : Int → Int → Bool} {fs : Str → Str → Bool} {ft : List Int → List Int → Bool} :
    LR2 K (fun x y H Q => (rI0 fun i j => .bl (fi i j)) x y H Q ∨ (∃ i j, x = .str i ∧ y = .str j ∧ Q (.bl (fs i j)) H)) (rOrd fi fs ft) := by
  intro F H M d e v w Q0 Q c r1 r2 h p
  unfold rOrd at h
  split at h
  · simp only [Rep] at r1 r2
    exact .inl ⟨_, _, r1, r2, p.bl c h⟩
  · simp only [Rep] at r1 r2
    exact .inr ⟨_, _, r1, r2, p.bl c h⟩
  · exact h.elim
/-! ### items -/
theorem atI_len {α β : Type} {xs : List α} {ys : List β} (h : xs.length = ys.length) (i : Int) : ixN xs.length i = ixN ys.length i := by rw [h]
theorem atI_rep {F : Hp} {ds : List D} {vs : List V} {i : Int} {d : D} (r : Reps K F ds vs) (h : atI ds i = some d) : ∃ v, atI vs i = some v ∧ Rep K F d v := by
  unfold atI at h ⊢
  rw [r.len]
  cases q : ixN ds.length i with
  | none => rw [q] at h; cases h
  | some j => rw [q] at h; exact r.get h
def rIxD : D2 := fun x y M Q => match y with
  | .int i => match x with
    | .str z => z.length ≤ sizeLine ∧ ∃ c, atI z.cps.toList i = some c ∧ Q (.str ⟨#[c]⟩) M
    | .tup ds => ∃ d, atI ds i = some d ∧ Q d M
    | x => match lstOf M x with
      | some ds => ∃ d, atI ds i = some d ∧ Q d M
      | none => False
  | _ => False
theorem l_ix : LR2 K (rIx K) rIxD := by
  intro F H M d e v w Q0 Q c r1 r2 h p
  unfold rIxD at h
  split at h
  · rename_i i
    simp only [Rep] at r2
    subst r2
    split at h
    · simp only [Rep] at r1
      obtain ⟨h1, cc, h2, h3⟩ := h
      exact .inr (.inr ⟨_, i, cc, r1, rfl, h1, h2, p.str c h3⟩)
    · rename_i ds
      rw [Rep] at r1
      obtain ⟨x, xs, e1, e2, e3⟩ := r1
      obtain ⟨d, h1, h2⟩ := h
      obtain ⟨u, q1, q2⟩ := atI_rep e3 h1
      exact .inr (.inl ⟨x, xs, i, u, e1, rfl, sameT c.same e2, q1, p.val c h2 q2⟩)
    · split at h
      · rename_i ds g
        obtain ⟨x, xs, e1, e2, e3⟩ := lstOf_ok c r1 g
        obtain ⟨d, h1, h2⟩ := h
        obtain ⟨u, q1, q2⟩ := atI_rep e3 h1
        exact .inl ⟨x, xs, i, u, e1, rfl, e2, q1, p.val c h2 q2⟩
      · exact h.elim
  · exact h.elim
theorem de_ix (ha : DE X a ta) (hb : DE X b tb) (hs : PlainIx b := by intro _ _; rfl) : DE X (.Subscript a b pos) (dOp rIxD ta tb) := PE.imp (pe_ix ix_seq ha hb hs) (lop l_ix)
/-! ### slices -/
abbrev DTO := DSt → Mp → (Option Int → Mp → Prop) → Prop
def lO (K : PySem.W.Frag) [GI K] (t : DTO) : TO := fun σ H Q => ∃ F env M Q0, EnvR K F σ env ∧ Core K F H M ∧ t env M Q0 ∧ ∀ o M' F' H', Q0 o M' → Same F F' → Fr F H M F' H' M' → Core K F' H' M' → Q o H'
theorem do_none : PO X none (lO X.K fun _ M Q => Q none M) := ⟨fun pins s σ H Q I ⟨F, env, M, Q0, he, hc, ht, hp⟩ => po_none.run pins s σ H Q I (hp none M F H ht (Same.refl F) Fr.refl hc)⟩
def dPart (t : DTE) : DTO := fun env M Q => t env M fun x M' => match x with | .int i => Q (some i) M' | _ => False
theorem do_some (h : DE X e ta) : PO X (some e) (lO X.K (dPart ta)) := ⟨fun pins s σ H Q I ⟨F, env, M, Q0, he, hc, ht, hp⟩ => (po_some h).run pins s σ H Q I
  ⟨F, env, M, _, he, hc, ht, fun d M1 F1 H1 v q s1 f1 c1 r1 => by
    cases d with
    | int i => rw [Rep] at r1; exact ⟨i, r1, hp _ _ _ _ q s1 f1 c1⟩
    | _ => exact False.elim q⟩⟩
def cutD (xs : List D) (lo hi : Option Int) : List D := (xs.drop (HT.sIx xs.length 0 lo)).take (HT.sIx xs.length xs.length hi - HT.sIx xs.length 0 lo)
theorem cut_rep {F : Hp} {ds : List D} {vs : List V} {lo hi : Option Int} (r : Reps K F ds vs) : Reps K F (cutD ds lo hi) (cutV vs lo hi) := by
  unfold cutD cutV
  rw [r.len]
  exact (r.drop _).take _
def rSlD : D → Option Int → Option Int → Mp → DQ → Prop := fun x lo hi M Q => match x with
  | .str z => z.length ≤ sizeLine ∧ Q (.str (cutS z lo hi)) M
  | .tup ds => ¬ (HT.sIx ds.length 0 lo = 0 ∧ HT.sIx ds.length ds.length hi = ds.length) ∧ Q (.tup (cutD ds lo hi)) M
  | x => match lstOf M x with
    | some ds => Q (.lst (cutD ds lo hi)) M
    | none => False
theorem SlR.or {r r' : V → Option Int → Option Int → Hp → VK → Prop} (h : SlR X r) (h' : SlR X r') : SlR X (fun x l u H Q => r x l u H Q ∨ r' x l u H Q) := by
  intro pins s σ H x v vl vu l u p Q I rv hp pl pu q
  rcases q with q | q
  · exact h pins s σ H x v vl vu l u p Q I rv hp pl pu q
  · exact h' pins s σ H x v vl vu l u p Q I rv hp pl pu q
def dSl (ta : DTE) (tl th : DTO) : DTE := fun env M Q => ta env M fun x M1 => tl env M1 fun l M2 => th env M2 fun u M3 => rSlD x l u M3 Q
theorem l_sl {F H : Hp} {M : Mp} {d : D} {v : V} {l u : Option Int} {Q0 : DQ} {Q : VK} (c : Core K F H M) (r : Rep K F d v) (h : rSlD d l u M Q0) (p : Post K F H M Q0 Q) :
    rSlL K v l u H Q ∨ rSlT K v l u H Q ∨ rSlS v l u H Q := by
  unfold rSlD at h
  split at h
  · rw [Rep] at r
    exact .inr (.inr ⟨_, r, h.1, p.str c h.2⟩)
  · rw [Rep] at r
    obtain ⟨x, xs, e1, e2, e3⟩ := r
    refine .inr (.inl ⟨x, xs, e1, sameT c.same e2, ?_, p.tup c (cut_rep e3) h.2⟩)
    rw [e3.len]; exact h.1
  · split at h
    · rename_i ds g
      obtain ⟨x, xs, e1, e2, e3⟩ := lstOf_ok c r g
      exact .inl ⟨x, xs, e1, e2, p.lst c (cut_rep e3) h⟩
    · exact h.elim
theorem de_sl {lo hi : Option Expr} {tl th : DTO} {p2 : Pos} (he : DE X e ta) (hl : PO X lo (lO X.K tl)) (hu : PO X hi (lO X.K th)) : DE X (.Subscript e (.Slice lo hi none p2) pos) (dSl ta tl th) :=
  PE.imp (pe_slice (SlR.or sl_list (SlR.or sl_tup sl_str)) he hl hu) fun σ H Q ⟨F, env, M, Q0, he, hc, ht, hp⟩ =>
    ⟨F, env, M, _, he, hc, ht, fun d M1 F1 H1 v q s1 f1 c1 r1 => ⟨F1, env, M1, _, he.mono s1, c1, q, fun l M2 F2 H2 q2 s2 f2 c2 => ⟨F2, env, M2, _, (he.mono s1).mono s2, c2, q2, fun u M3 F3 H3 q3 s3 f3 c3 =>
      l_sl c3 ((r1.mono s2).mono s3) q3 (hp.after ((s1.trans s2).trans s3) ((f1.trans f2).trans f3))⟩⟩⟩
end
end DL
namespace DL
open PySem PySem.Spec PyProof.Rows L2
section
variable {X : Cx} {GX : GI X.K} {K : PySem.W.Frag} {G : GI K} {a b c e : Expr} {es : List Expr} {ta tb tc : DTE} {pos : Pos} {st : Stmt} {rest sa sb : List Stmt} {t u : DTS} {tt : DTT}
/-! ### truth, and, or, not, if -/
def dTru (ta : DTE) : DTT := fun env M Q => ta env M fun x M' => match x with
  | .non => Q false M'
  | .bl b => Q b M'
  | .int i => Q (i != 0) M'
  | .str y => y.length ≤ sizeLine ∧ Q ((y.length : Int) != 0) M'
  | .tup ds => Q (!ds.isEmpty) M'
  | x => match lstOf M' x with
    | some ds => Q (!ds.isEmpty) M'
    | none => False
theorem emp_len {F : Hp} {ds : List D} {vs : List V} (r : Reps K F ds vs) : (!vs.isEmpty) = !ds.isEmpty := by
  have h := r.len
  cases vs <;> cases ds <;> simp_all
theorem dt_tru (ha : DE X a ta) (he : ∀ whole, isTrue a X.env whole = (do let v ← whole; standAt a.pos; holding [v] (truthy v)) := by intro _; rfl) : DT X a (dTru ta) :=
  PT.imp (pt_truth ha he) fun σ H Q ⟨F, env, M, Q0, he, hc, ht, hp⟩ => ⟨F, env, M, _, he, hc, ht, fun d M1 F1 H1 v q s1 f1 c1 r1 => by
    have go : ∀ {b}, Q0 b M1 → Q b H1 := fun {b} h => hp b M1 F1 H1 h s1 f1 c1
    revert q
    dsimp only
    split <;> intro q
    · rw [Rep] at r1; subst r1; exact ⟨_, rfl, go q⟩
    · rw [Rep] at r1; subst r1; exact ⟨_, rfl, go q⟩
    · rw [Rep] at r1; subst r1; exact ⟨_, rfl, go q⟩
    · rw [Rep] at r1; subst r1; exact ⟨_, ⟨q.1, rfl⟩, go q.2⟩
    · rw [Rep] at r1
      obtain ⟨x, vs, e1, e2, e3⟩ := r1
      subst e1
      exact ⟨_, .inr (.inl ⟨vs, sameT c1.same e2, rfl⟩), by rw [emp_len e3]; exact go q⟩
    · split at q
      · rename_i ds g
        obtain ⟨x, vs, e1, e2, e3⟩ := lstOf_ok c1 r1 g
        subst e1
        exact ⟨_, .inl ⟨vs, e2, rfl⟩, by rw [emp_len e3]; exact go q⟩
      · exact q.elim⟩
abbrev DW (X : Cx) [GI X.K] (e : Expr) (t : DTT) : Prop := PW X e (lT X.K t)
def dAnd (t u : DTT) : DTT := fun env M Q => t env M fun c M1 => if c = true then u env M1 Q else Q false M1
def dOr (t u : DTT) : DTT := fun env M Q => t env M fun c M1 => if c = true then Q true M1 else u env M1 Q
def dNot (t : DTT) : DTT := fun env M Q => t env M fun c M1 => Q (!c) M1
variable {t1 t2 : DTT}
theorem dw_and1 (h : DT X a t1) : DW X (.BoolOp .And [a] pos) t1 := pw_and1 h
theorem dw_or1 (h : DT X a t1) : DW X (.BoolOp .Or [a] pos) t1 := pw_or1 h
theorem dw_and {es : List Expr} (ha : DT X a t1) (hb : DW X (.BoolOp .And (b :: es) pos) t2) : DW X (.BoolOp .And (a :: b :: es) pos) (dAnd t1 t2) :=
  PW.imp (pw_and ha hb) fun σ H Q ⟨F, env, M, Q0, he, hc, ht, hp⟩ => ⟨F, env, M, _, he, hc, ht, fun d M1 F1 H1 q s1 f1 c1 => by
    cases d with
    | true => exact ⟨F1, env, M1, _, he.mono s1, c1, q, hp.after s1 f1⟩
    | false => exact hp false M1 F1 H1 q s1 f1 c1⟩
theorem dw_or {es : List Expr} (ha : DT X a t1) (hb : DW X (.BoolOp .Or (b :: es) pos) t2) : DW X (.BoolOp .Or (a :: b :: es) pos) (dOr t1 t2) :=
  PW.imp (pw_or ha hb) fun σ H Q ⟨F, env, M, Q0, he, hc, ht, hp⟩ => ⟨F, env, M, _, he, hc, ht, fun d M1 F1 H1 q s1 f1 c1 => by
    cases d with
    | false => exact ⟨F1, env, M1, _, he.mono s1, c1, q, hp.after s1 f1⟩
    | true => exact hp true M1 F1 H1 q s1 f1 c1⟩
theorem dt_not (ha : DT X a t1) : DT X (.UnaryOp .Not a pos) (dNot t1) :=
  PT.imp (pt_not ha) fun σ H Q ⟨F, env, M, Q0, he, hc, ht, hp⟩ => ⟨F, env, M, _, he, hc, ht, fun d M1 F1 H1 q s1 f1 c1 => hp _ M1 F1 H1 q s1 f1 c1⟩
def dNotV (ta : DTE) : DTE := fun env M Q => ta env M fun x M1 => match x with | .bl k => Q (.bl (!k)) M1 | _ => False
def dAndV (ta tb : DTE) : DTE := fun env M Q => ta env M fun x M1 => match x with | .bl k => (if k = true then tb env M1 Q else Q (.bl false) M1) | _ => False
def dOrV (ta tb : DTE) : DTE := fun env M Q => ta env M fun x M1 => match x with | .bl k => (if k = true then Q (.bl true) M1 else tb env M1 Q) | _ => False
theorem de_not (ha : DE X a ta) : DE X (.UnaryOp .Not a pos) (dNotV ta) :=
  PE.imp (pe_not ha) fun σ H Q ⟨F, env, M, Q0, he, hc, ht, hp⟩ => ⟨F, env, M, _, he, hc, ht, fun d M1 F1 H1 v q s1 f1 c1 r1 => by
    cases d with
    | bl k => rw [Rep] at r1; exact ⟨k, r1, (hp.after s1 f1).bl c1 q⟩
    | _ => exact False.elim q⟩
theorem de_one {op} (h : DE X a ta) : DE X (.BoolOp op [a] pos) ta := pe_one h
theorem de_and {es : List Expr} (ha : DE X a ta) (hb : DE X (.BoolOp .And (b :: es) pos) tb) : DE X (.BoolOp .And (a :: b :: es) pos) (dAndV ta tb) :=
  PE.imp (pe_and ha hb) fun σ H Q ⟨F, env, M, Q0, he, hc, ht, hp⟩ => ⟨F, env, M, _, he, hc, ht, fun d M1 F1 H1 v q s1 f1 c1 r1 => by
    cases d with
    | bl k =>
      rw [Rep] at r1
      refine ⟨k, r1, ?_⟩
      cases k with
      | true => exact ⟨F1, env, M1, _, he.mono s1, c1, q, hp.after s1 f1⟩
      | false => exact (hp.after s1 f1).bl c1 q
    | _ => exact False.elim q⟩
theorem de_or {es : List Expr} (ha : DE X a ta) (hb : DE X (.BoolOp .Or (b :: es) pos) tb) : DE X (.BoolOp .Or (a :: b :: es) pos) (dOrV ta tb) :=
  PE.imp (pe_or ha hb) fun σ H Q ⟨F, env, M, Q0, he, hc, ht, hp⟩ => ⟨F, env, M, _, he, hc, ht, fun d M1 F1 H1 v q s1 f1 c1 r1 => by
    cases d with
    | bl k =>
      rw [Rep] at r1
      refine ⟨k, r1, ?_⟩
      cases k with
      | false => exact ⟨F1, env, M1, _, he.mono s1, c1, q, hp.after s1 f1⟩
      | true => exact (hp.after s1 f1).bl c1 q
    | _ => exact False.elim q⟩
def dIf (tt : DTT) (ta tb : DTE) : DTE := fun env M Q => tt env M fun k M1 => if k = true then ta env M1 Q else tb env M1 Q
theorem de_if (hc : DT X c tt) (ha : DE X a ta) (hb : DE X b tb) : DE X (.IfExp c a b pos) (dIf tt ta tb) :=
  PE.imp (pe_ifExp hc ha hb) fun σ H Q ⟨F, env, M, Q0, he, hc, ht, hp⟩ => ⟨F, env, M, _, he, hc, ht, fun d M1 F1 H1 q s1 f1 c1 => by
    cases d with
    | true => exact ⟨F1, env, M1, _, he.mono s1, c1, q, hp.after s1 f1⟩
    | false => exact ⟨F1, env, M1, _, he.mono s1, c1, q, hp.after s1 f1⟩⟩
def isNon : D → Bool
  | .non => true
  | _ => false
def dIsN (neg : Bool) (ta : DTE) : DTE := fun env M Q => ta env M fun x M1 => Q (.bl (neg ^^ isNon x)) M1
theorem isN_of {F : Hp} {d : D} {v : V} (r : Rep K F d v) : decide (v = .non) = isNon d := by
  cases d <;> simp only [Rep] at r <;> simp only [isNon] <;> first
    | (subst r; simp; done)
    | (obtain ⟨a, vs, e1, _⟩ := r; subst e1; simp; done)
    | (obtain ⟨a, dx, vs, e1, _⟩ := r; subst e1; simp; done)
    | (obtain ⟨a, e1, _⟩ := r; subst e1; simp; done)
theorem de_isN {j pos'} (ha : DE X a ta) : DE X (.Compare a [.Is] [.Constant .none j pos'] pos) (dIsN false ta) :=
  PE.imp (pe_cmp (pc_isN ha) rfl) fun σ H Q ⟨F, env, M, Q0, he, hc, ht, hp⟩ => ⟨F, env, M, _, he, hc, ht, fun d M1 F1 H1 v q s1 f1 c1 r1 => by
    refine (hp.after s1 f1).bl c1 ?_
    rw [isN_of r1]
    simpa using q⟩
theorem de_notN {j pos'} (ha : DE X a ta) : DE X (.Compare a [.IsNot] [.Constant .none j pos'] pos) (dIsN true ta) :=
  PE.imp (pe_cmp (pc_notN ha) rfl) fun σ H Q ⟨F, env, M, Q0, he, hc, ht, hp⟩ => ⟨F, env, M, _, he, hc, ht, fun d M1 F1 H1 v q s1 f1 c1 r1 => by
    refine (hp.after s1 f1).bl c1 ?_
    rw [isN_of r1]
    simpa using q⟩
theorem dt_isN {j pos'} (ha : DE X a ta) : DT X (.Compare a [.Is] [.Constant .none j pos'] pos) (dTB (dIsN false ta)) :=
  PT.imp (pt_cmp (pc_isN ha) rfl) fun σ H Q ⟨F, env, M, Q0, he, hc, ht, hp⟩ => ⟨F, env, M, _, he, hc, ht, fun d M1 F1 H1 v q s1 f1 c1 r1 => by
    refine ⟨_, rfl, hp _ M1 F1 H1 ?_ s1 f1 c1⟩
    rw [isN_of r1]
    simpa using q⟩
theorem dt_notN {j pos'} (ha : DE X a ta) : DT X (.Compare a [.IsNot] [.Constant .none j pos'] pos) (dTB (dIsN true ta)) :=
  PT.imp (pt_cmp (pc_notN ha) rfl) fun σ H Q ⟨F, env, M, Q0, he, hc, ht, hp⟩ => ⟨F, env, M, _, he, hc, ht, fun d M1 F1 H1 v q s1 f1 c1 r1 => by
    refine ⟨_, rfl, hp _ M1 F1 H1 ?_ s1 f1 c1⟩
    rw [isN_of r1]
    simpa using q⟩
/-! ### blocks -/
def dNext : DTS := fun E env M => E.nx env M
def dSeq (t u : DTS) : DTS := fun E env M => t { E with nx := u E } env M
theorem dss_nil : DSs X [] dNext := PSs.imp pss_nil fun E σ H ⟨F, env, M, D0, he, hc, ht, hp⟩ => hp.nx env M F H σ ht (Same.refl F) Fr.refl hc he
theorem dss_cons (h1 : DS X st t) (h2 : DSs X rest u) : DSs X (st :: rest) (dSeq t u) := PSs.imp (pss_cons h1 h2) fun E σ H ⟨F, env, M, D0, he, hc, ht, hp⟩ =>
  ⟨F, env, M, { D0 with nx := u D0 }, he, hc, ht, ⟨fun env' M' F' H' σ' q s f c r => ⟨F', env', M', D0, r, c, q, hp.after s f⟩, hp.rt, hp.bk, hp.ct⟩⟩
theorem dss_one (h : DS X st t) : DSs X [st] t := pss_one h
def dBreak : DTS := fun E env M => E.bk env M
def dCont : DTS := fun E env M => E.ct env M
theorem ds_pass : DS X (.Pass pos) dNext := PS.imp ps_pass fun E σ H ⟨F, env, M, D0, he, hc, ht, hp⟩ => hp.nx env M F H σ ht (Same.refl F) Fr.refl hc he
theorem ds_break : DS X (.Break pos) dBreak := PS.imp ps_break fun E σ H ⟨F, env, M, D0, he, hc, ht, hp⟩ => hp.bk env M F H σ ht (Same.refl F) Fr.refl hc he
theorem ds_continue : DS X (.Continue pos) dCont := PS.imp ps_continue fun E σ H ⟨F, env, M, D0, he, hc, ht, hp⟩ => hp.ct env M F H σ ht (Same.refl F) Fr.refl hc he
def dDrop (ta : DTE) : DTS := fun E env M => ta env M fun _ M' => E.nx env M'
theorem ds_expr (h : DE X e ta) (hs : swapsWith e none pos.line X.env = pure false := by rfl) : DS X (.Expr e pos) (dDrop ta) := PS.imp (ps_expr h hs) fun E σ H ⟨F, env, M, D0, he, hc, ht, hp⟩ =>
  ⟨F, env, M, _, he, hc, ht, fun d M1 F1 H1 v q s1 f1 c1 r1 => hp.nx env M1 F1 H1 σ q s1 f1 c1 (he.mono s1)⟩
def dRet (ta : DTE) : DTS := fun E env M => ta env M E.rt
theorem ds_ret (h : DE X e ta) : DS X (.Return (some e) pos) (dRet ta) := PS.imp (ps_ret h) fun E σ H ⟨F, env, M, D0, he, hc, ht, hp⟩ =>
  ⟨F, env, M, _, he, hc, ht, fun d M1 F1 H1 v q s1 f1 c1 r1 => hp.rt d M1 F1 H1 v q s1 f1 c1 r1⟩
def dRetN : DTS := fun E _ M => E.rt .non M
theorem ds_retN : DS X (.Return none pos) dRetN := PS.imp ps_retN fun E σ H ⟨F, env, M, D0, he, hc, ht, hp⟩ => hp.rt.non hc ht
def dIfS (tt : DTT) (t u : DTS) : DTS := fun E env M => tt env M fun k M1 => if k = true then t E env M1 else u E env M1
theorem ds_if (hc : DT X c tt) (ha : DSs X sa t) (hb : DSs X sb u) : DS X (.If c sa sb pos) (dIfS tt t u) := PS.imp (ps_if hc ha hb) fun E σ H ⟨F, env, M, D0, he, hc, ht, hp⟩ =>
  ⟨F, env, M, _, he, hc, ht, fun d M1 F1 H1 q s1 f1 c1 => by
    cases d with
    | true => exact ⟨F1, env, M1, D0, he.mono s1, c1, q, hp.after s1 f1⟩
    | false => exact ⟨F1, env, M1, D0, he.mono s1, c1, q, hp.after s1 f1⟩⟩
/-- a choice of the proof: the reading is weakened -/
theorem ds_wk {t' : DTS} (h : DS X st t) (i : ∀ E env M, t' E env M → t E env M) : DS X st t' :=
  PS.imp h fun E σ H ⟨F, env, M, D0, he, hc, ht, hp⟩ => ⟨F, env, M, D0, he, hc, i _ _ _ ht, hp⟩
/-! ### targets -/
abbrev DTG := D → DSt → Mp → (DSt → Mp → Prop) → Prop
abbrev DTGs := List D → DSt → Mp → (DSt → Mp → Prop) → Prop
def lG (K : PySem.W.Frag) [GI K] (t : DTG) : TG := fun v σ H Q => ∃ F env M d Q0, EnvR K F σ env ∧ Core K F H M ∧ Rep K F d v ∧ t d env M Q0 ∧ PostN K F H M Q0 Q
def lGs (K : PySem.W.Frag) [GI K] (t : DTGs) : TGs := fun vs σ H Q => ∃ F env M ds Q0, EnvR K F σ env ∧ Core K F H M ∧ Reps K F ds vs ∧ t ds env M Q0 ∧ PostN K F H M Q0 Q
abbrev DG (X : Cx) [GI X.K] (e : Expr) (t : DTG) : Prop := PG X e (lG X.K t)
abbrev DGs (X : Cx) [GI X.K] (es : List Expr) (t : DTGs) : Prop := PGs X es (lGs X.K t)
theorem PG.imp {t t' : TG} (h : PG X e t) (i : ∀ v σ H Q, t' v σ H Q → t v σ H Q) : PG X e t' := ⟨fun pins s σ H v u Q I r q => h.run pins s σ H v u Q I r (i v σ H Q q)⟩
theorem PGs.imp {t t' : TGs} (h : PGs X es t) (i : ∀ v σ H Q, t' v σ H Q → t v σ H Q) : PGs X es t' := ⟨fun pins s σ H v u Q I r q => h.run pins s σ H v u Q I r (i v σ H Q q)⟩
def dgName (i : Nat) : DTG := fun d env M Q => Q (env.set i (some d)) M
theorem dg_of {i : Nat} (h : PG X e (gName i)) : DG X e (dgName i) := PG.imp h fun v σ H Q ⟨F, env, M, d, Q0, he, hc, r, ht, hp⟩ =>
  hp _ M F H _ ht (Same.refl F) Fr.refl hc (he.set i r)
theorem dg_name {i : Nat} {x : Str} (hN : X.N.Nodup) (hi : X.N[i]? = some x := by rfl) (hx : Loc X.env.scope x := by first | exact Or.inl rfl | exact Or.inr rfl) (hf : X.fn x = true ∨ X.env.scope.names.lookup x = some .local := by first | exact .inl rfl | exact .inr rfl | assumption) : DG X (.Name x pos) (dgName i) := dg_of (pg_name hN hi hx hf)
def dgNil : DTGs := fun ds env M Q => ds = [] ∧ Q env M
def dgCons (t : DTG) (u : DTGs) : DTGs := fun ds env M Q => match ds with | d :: r => t d env M fun env' M' => u r env' M' Q | [] => False
theorem dgs_nil : DGs X [] dgNil := PGs.imp pgs_nil fun v σ H Q ⟨F, env, M, ds, Q0, he, hc, r, ht, hp⟩ => by
  obtain ⟨e, ht⟩ := ht
  subst e
  rw [Reps] at r
  exact ⟨r, hp _ M F H _ ht (Same.refl F) Fr.refl hc he⟩
theorem dgs_cons {t : DTG} {u : DTGs} (h1 : DG X e t) (h2 : DGs X es u) (hs : (assignEach (e :: es) X.env).map (·.2) = assign e X.env :: (assignEach es X.env).map (·.2) := by rfl) : DGs X (e :: es) (dgCons t u) :=
  PGs.imp (pgs_cons h1 h2 hs) fun v σ H Q ⟨F, env, M, ds, Q0, he, hc, r, ht, hp⟩ => by
    cases ds with
    | nil => exact False.elim ht
    | cons d ds =>
      rw [Reps] at r
      obtain ⟨v1, r1, e1, e2, e3⟩ := r
      exact ⟨v1, r1, e1, F, env, M, d, _, he, hc, e2, ht, fun env' M' F' H' σ' q s f c r => ⟨F', env', M', ds, Q0, r, c, e3.mono s, q, hp.after s f⟩⟩
def dgTup (n : Nat) (t : DTGs) : DTG := fun d env M Q => match d with | .tup ds => ds.length = n ∧ t ds env M Q | _ => False
theorem dg_tup {k : Nat} {t : DTGs} {n : Nat} (hc : X.calm = true) (h : DGs X es t) (hn : (assignEach es X.env).length = n := by rfl) (hst : (assignEach es X.env).findIdx? (·.1) = none := by rfl) : DG X (.Tuple es k pos) (dgTup n t) :=
  PG.imp (pg_tup hc h hn hst) fun v σ H Q ⟨F, env, M, d, Q0, he, hc, r, ht, hp⟩ => by
    cases d with
    | tup ds =>
      rw [Rep] at r
      obtain ⟨a, vs, e1, e2, e3⟩ := r
      exact ⟨a, vs, e1, sameT hc.same e2, by rw [e3.len]; exact ht.1, F, env, M, ds, Q0, he, hc, e3, ht.2, hp⟩
    | _ => exact False.elim ht
/-! ### stores -/
def dAsg (ta : DTE) (g : DTG) : DTS := fun E env M => ta env M fun d M1 => g d env M1 E.nx
theorem dasg {g : DTG} : ∀ E σ H, lS K (dAsg ta g) E σ H → tAsg (lE K ta) (lG K g) E σ H := fun E σ H ⟨F, env, M, D0, he, hc, ht, hp⟩ =>
  ⟨F, env, M, _, he, hc, ht, fun d M1 F1 H1 v q s1 f1 c1 r1 => ⟨F1, env, M1, d, _, he.mono s1, c1, r1, q, hp.nx.after s1 f1⟩⟩
theorem ds_asg {tg : Expr} {g : DTG} (he : DE X e ta) (hg : DG X tg g) (hs : swapsWithSole [tg] e pos.line X.env = pure false := by rfl) (hw : swappedStores [tg] e X.env = pure none := by rfl)
    (h1 : (assignEach [tg] X.env).map (·.2) = [assign tg X.env] := by rfl) : DS X (.Assign [tg] e pos) (dAsg ta g) := PS.imp (ps_asg he hg hs hw h1) dasg
theorem ds_set {i : Nat} {x : Str} {pos' : Pos} (hN : X.N.Nodup) (he : DE X e ta) (hi : X.N[i]? = some x := by rfl) (hx : Loc X.env.scope x := by first | exact Or.inl rfl | exact Or.inr rfl) (hs : swapsWith e (some (.Name x pos')) pos.line X.env = pure false := by rfl) (hf : X.fn x = true ∨ X.env.scope.names.lookup x = some .local := by first | exact .inl rfl | exact .inr rfl | assumption) :
    DS X (.Assign [.Name x pos'] e pos) (dAsg ta (dgName i)) := PS.imp (ps_set hN hi hx he hs hf) fun E σ H ⟨F, env, M, D0, he, hc, ht, hp⟩ =>
  ⟨F, env, M, _, he, hc, ht, fun d M1 F1 H1 v q s1 f1 c1 r1 => hp.nx _ M1 F1 H1 _ q s1 f1 c1 ((he.mono s1).set i r1)⟩
/-- a, b = x, y -/
def dPar (i j : Nat) (ta tb : DTE) : DTS := fun E env M => ta env M fun x M1 => tb env M1 fun y M2 => E.nx ((env.set i (some x)).set j (some y)) M2
/-! ### loops -/
def dWhile (tt : DTT) (t : DTS) : DTS := fun E env M => ∃ Pv : Nat → DSt → Mp → Prop, (∃ m, Pv m env M) ∧ ∀ m env M, Pv m env M →
  tt env M fun k M1 => if k = true then t { E with nx := fun env' M' => ∃ m', m' < m ∧ Pv m' env' M', ct := fun env' M' => ∃ m', m' < m ∧ Pv m' env' M', bk := E.nx } env M1 else E.nx env M1
theorem ds_while {body : List Stmt} (hp : PassesOwn (model X.prog X.w) X.A X.env X.xe) (hc : DT X c tt) (hb : DSs X body t) : DS X (.While c body [] pos) (dWhile tt t) :=
  PS.imp (ps_while hp hc hb) fun E σ H ⟨F, env, M, D0, he, hc, ⟨Pv, ⟨m0, p0⟩, turn⟩, hp⟩ => by
    refine ⟨fun m σ' H' => ∃ F' env' M', Same F F' ∧ Fr F H M F' H' M' ∧ EnvR X.K F' σ' env' ∧ Core X.K F' H' M' ∧ Pv m env' M', ⟨m0, F, env, M, Same.refl F, Fr.refl, he, hc, p0⟩, ?_⟩
    rintro m σ1 H1 ⟨F1, env1, M1, s1, f1, r1, c1, p1⟩
    refine ⟨F1, env1, M1, _, r1, c1, turn m env1 M1 p1, fun k M2 F2 H2 q s2 f2 c2 => ?_⟩
    cases k with
    | false => exact hp.nx _ M2 F2 H2 _ q (s1.trans s2) (f1.trans f2) c2 (r1.mono s2)
    | true =>
      have go : PostN X.K F2 H2 M2 (fun env' M' => ∃ m', m' < m ∧ Pv m' env' M') (fun σ' H' => ∃ m', m' < m ∧ ∃ F' env' M', Same F F' ∧ Fr F H M F' H' M' ∧ EnvR X.K F' σ' env' ∧ Core X.K F' H' M' ∧ Pv m' env' M') :=
        fun env' M' F' H' σ' ⟨m', hm, p'⟩ s f c r => ⟨m', hm, F', env', M', (s1.trans s2).trans s, (f1.trans f2).trans f, r, c, p'⟩
      rw [if_pos rfl]
      refine ⟨_, fun σ' H' z => z, F2, env1, M2, _, r1.mono s2, c2, q, ⟨go, (hp.after (s1.trans s2) (f1.trans f2)).rt, (hp.after (s1.trans s2) (f1.trans f2)).nx, go⟩⟩
/-- what a loop walks: the items -/
structure Yl (K : PySem.W.Frag) [GI K] (J : It) (F : Hp) (ds : List D) (kp : Mp → Prop) : Prop where
  go : ∀ {F' H : Hp} {M : Mp} {i : Nat}, Same F F' → Core K F' H M → kp M → i < ds.length → J.go i H
  stop : ∀ {F' H : Hp} {M : Mp} {i : Nat}, Same F F' → Core K F' H M → kp M → ds.length ≤ i → J.stop i H
  yld : ∀ {F' H H' : Hp} {M : Mp} {i : Nat} {x : V}, Same F F' → Core K F' H M → kp M → i < ds.length → J.yld i H x H' → ∃ d F'', ds[i]? = some d ∧ Same F' F'' ∧ Core K F'' H' M ∧ Fr F' H M F'' H' M ∧ Rep K F'' d x
theorem Yl.mono {J : It} {F F1 : Hp} {ds : List D} {kp : Mp → Prop} (y : Yl K J F ds kp) (s : Same F F1) : Yl K J F1 ds kp := ⟨fun s' => y.go (s.trans s'), fun s' => y.stop (s.trans s'), fun s' => y.yld (s.trans s')⟩
abbrev DTI := DSt → Mp → (List D → (Mp → Prop) → Mp → Prop) → Prop
def lI (K : PySem.W.Frag) [GI K] (t : DTI) : TI := fun σ H R => ∃ F env M R0, EnvR K F σ env ∧ Core K F H M ∧ t env M R0 ∧ ∀ ds kp M' F' H' J, R0 ds kp M' → Same F F' → Fr F H M F' H' M' → Core K F' H' M' → Yl K J F' ds kp → R J H'
abbrev DI (X : Cx) [GI X.K] (tg iter : Expr) (t : DTI) : Prop := PI X tg iter (lI X.K t)
theorem PI.imp {tg iter : Expr} {t t' : TI} (h : PI X tg iter t) (i : ∀ σ H R, t' σ H R → t σ H R) : PI X tg iter t' := ⟨fun pins s σ H R I q => h.run pins s σ H R I (i σ H R q)⟩
def dFor (ti : DTI) (g : DTG) (t : DTS) : DTS := fun E env M => ti env M fun ds kp M1 => ∃ Pv : Nat → DSt → Mp → Prop, Pv 0 env M1 ∧ (∀ i env M, Pv i env M → kp M) ∧
  (∀ i d env M, ds[i]? = some d → Pv i env M → g d env M fun env' M' => t { E with nx := Pv (i + 1), ct := Pv (i + 1), bk := E.nx } env' M') ∧ ∀ env M, Pv ds.length env M → E.nx env M
theorem ds_for {tg iter : Expr} {body : List Stmt} {ti : DTI} {g : DTG} (hp : PassesOwn (model X.prog X.w) X.A X.env X.xe) (hc : X.calm = true) (hi : DI X tg iter ti) (hg : DG X tg g) (hb : DSs X body t)
    (hs : ∀ x, foldedSetIterable iter X.env x = pure x := by intro _; rfl) : DS X (.For tg iter body [] pos) (dFor ti g t) :=
  PS.imp (ps_for hp hc hi hg hb hs) fun E σ H ⟨F, env, M, D0, he, hc, ht, hp⟩ => by
    refine ⟨F, env, M, _, he, hc, ht, fun ds kp M1 F1 H1 J q s1 f1 c1 Y => ?_⟩
    obtain ⟨Pv, p0, hk, turn, fin⟩ := q
    refine ⟨fun i m σ' H' => m = ds.length - i ∧ i ≤ ds.length ∧ ∃ F' env' M', Same F1 F' ∧ Fr F1 H1 M1 F' H' M' ∧ EnvR X.K F' σ' env' ∧ Core X.K F' H' M' ∧ Pv i env' M', ⟨_, rfl, Nat.zero_le _, F1, env, M1, Same.refl _, Fr.refl, he.mono s1, c1, p0⟩, ?_⟩
    rintro i m σ2 H2 ⟨rfl, hle, F2, env2, M2, s2, f2, r2, c2, p2⟩
    have kk := hk _ _ _ p2
    by_cases hlt : i < ds.length
    · refine .inr ⟨Y.go s2 c2 kk hlt, fun σ' H' => ∃ F' env' M', Same F1 F' ∧ Fr F1 H1 M1 F' H' M' ∧ EnvR X.K F' σ' env' ∧ Core X.K F' H' M' ∧ Pv (i + 1) env' M', fun σ' H' z => ⟨_, by omega, rfl, hlt, z⟩, fun x H3 y => ?_⟩
      obtain ⟨d, F3, hd, s3, c3, f3, r3⟩ := Y.yld s2 c2 kk hlt y
      have t1 := turn i d env2 M2 hd p2
      have go : PostN X.K F3 H3 M2 (Pv (i + 1)) (fun σ' H' => ∃ F' env' M', Same F1 F' ∧ Fr F1 H1 M1 F' H' M' ∧ EnvR X.K F' σ' env' ∧ Core X.K F' H' M' ∧ Pv (i + 1) env' M') :=
        fun env' M' F' H' σ' p' s f c r => ⟨F', env', M', (s2.trans s3).trans s, (f2.trans f3).trans f, r, c, p'⟩
      have hp' := hp.after ((s1.trans s2).trans s3) ((f1.trans f2).trans f3)
      exact ⟨F3, env2, M2, d, _, r2.mono s3, c3, r3, t1, fun env' M' F' H' σ' p' s f c r => ⟨F', env', M', _, r, c, p', ⟨go.after s f, (hp'.after s f).rt, (hp'.after s f).nx, go.after s f⟩⟩⟩
    · have e : i = ds.length := by omega
      subst e
      exact .inl ⟨Y.stop s2 c2 kk (Nat.le_refl _), hp.nx _ M2 F2 H2 _ (fin _ _ p2) (s1.trans s2) (f1.trans f2) c2 r2⟩
end
end DL
namespace DL
open PySem PySem.Spec PyProof.Rows L2
section
variable {X : Cx} {GX : GI X.K} {K : PySem.W.Frag} {G : GI K} {a b c e : Expr} {es : List Expr} {ta tb tc : DTE} {pos : Pos} {tt : DTT} {tr : DTA}
/-! ### argument lists, displays -/
def dNil : DTA := fun _ M Q => Q [] M
def dCons (ta : DTE) (tr : DTA) : DTA := fun env M Q => ta env M fun x M1 => tr env M1 fun xs M2 => Q (x :: xs) M2
theorem da_nil : DA X [] dNil := PA.imp pa_nil fun σ H Q ⟨F, env, M, Q0, he, hc, ht, hp⟩ => hp [] M F H [] ht (Same.refl F) Fr.refl hc Reps.nil
theorem da_cons (ha : DE X e ta) (hr : DA X es tr) (hs : starEach (e :: es) X.env = (false, eval e X.env) :: starEach es X.env := by rfl) : DA X (e :: es) (dCons ta tr) :=
  PA.imp (pa_cons ha hr hs) fun σ H Q ⟨F, env, M, Q0, he, hc, ht, hp⟩ => ⟨F, env, M, _, he, hc, ht, fun d M1 F1 H1 v q s1 f1 c1 r1 => ⟨F1, env, M1, _, he.mono s1, c1, q, fun ds M2 F2 H2 vs q2 s2 f2 c2 r2 =>
    hp _ M2 F2 H2 _ q2 (s1.trans s2) (f1.trans f2) c2 (Reps.cons (r1.mono s2) r2)⟩⟩
theorem pa_of {t : TA} {td : DTA} (h : PA X es t) (i : ∀ {F H M env σ Q0 Q}, EnvR X.K F σ env → Core X.K F H M → td env M Q0 → PostA X.K F H M Q0 Q → t σ H Q) : DA X es td :=
  PA.imp h fun _ _ _ ⟨_, _, _, _, he, hc, ht, hp⟩ => i he hc ht hp
def dTup (t : DTA) : DTE := fun env M Q => t env M fun ds M1 => ds.length ≤ sizeLine ∧ Q (.tup ds) M1
def dLst (t : DTA) : DTE := fun env M Q => t env M fun ds M1 => ds.length ≤ sizeLine ∧ Q (.lst ds) M1
def dLstM (t : DTA) : DTE := fun env M Q => t env M fun ds M1 => ds.length ≤ sizeLine ∧ ∀ p, M1 p = none → Q (.ptr p) (up M1 p (.lst ds))
theorem de_tup {k} (h : DA X es tr) : DE X (.Tuple es k pos) (dTup tr) := PE.imp (pe_tup h) fun σ H Q ⟨F, env, M, Q0, he, hc, ht, hp⟩ =>
  ⟨F, env, M, _, he, hc, ht, fun ds M1 F1 H1 vs q s1 f1 c1 r1 => ⟨by rw [r1.len]; exact q.1, (hp.after s1 f1).tup c1 r1 q.2⟩⟩
theorem de_lst (h : DA X es tr) : DE X (.List es pos) (dLst tr) := PE.imp (pe_lst h) fun σ H Q ⟨F, env, M, Q0, he, hc, ht, hp⟩ =>
  ⟨F, env, M, _, he, hc, ht, fun ds M1 F1 H1 vs q s1 f1 c1 r1 => ⟨by rw [r1.len]; exact q.1, (hp.after s1 f1).lst c1 r1 q.2⟩⟩
theorem Post.ptr {F H : Hp} {M : Mp} {Q0 : DQ} {Q : VK} (p : Post K F H M Q0 Q) (c : Core K F H M) {o : HO} {mo : MO} (r : RepM K F mo o) (q : ∀ x, M x = none → Q0 (.ptr x) (up M x mo)) : ∀ x, H x = none → Q (.ref x) (upd H x o) := fun x hx => by
  obtain ⟨c1, f1⟩ := c.newM hx r
  exact p _ _ _ _ _ (q x (c.nones hx).2) (Same.refl F) f1 c1 (by rw [Rep])
theorem de_lstM (h : DA X es tr) : DE X (.List es pos) (dLstM tr) := PE.imp (pe_lst h) fun σ H Q ⟨F, env, M, Q0, he, hc, ht, hp⟩ =>
  ⟨F, env, M, _, he, hc, ht, fun ds M1 F1 H1 vs q s1 f1 c1 r1 => ⟨by rw [r1.len]; exact q.1, (hp.after s1 f1).ptr (mo := .lst ds) c1 ⟨vs, rfl, r1⟩ q.2⟩⟩
/-! ### what is walked -/
theorem yl_list {F : Hp} {a : Addr} {vs : List V} {ds : List D} {kp : Mp → Prop} (r : Reps K F ds vs) (h : ∀ {F' H : Hp} {M : Mp}, Same F F' → Core K F' H M → kp M → SqL K H a vs) : Yl K (Itl K a) F ds kp where
  go := fun {F' H M i} s c k hi => ⟨vs, vs[i]'(by rw [r.len]; exact hi), h s c k, by simp⟩
  stop := fun {F' H M i} s c k hi => ⟨vs, h s c k, by rw [r.len]; exact hi⟩
  yld := fun {F' H H' M i x} s c k hi y => by
    obtain ⟨e, y⟩ := y
    subst e
    obtain ⟨d, e1, e2⟩ := r.get' (y vs (h s c k))
    exact ⟨d, F', e1, Same.refl _, c, Fr.refl, e2.mono s⟩
def dIter (ta : DTE) : DTI := fun env M R => ta env M fun x M1 => match x with
  | .lst ds => R ds (fun _ => True) M1
  | .lsx ds => R ds (fun _ => True) M1
  | .ptr a => match M1 a with | some (.lst ds) => R ds (fun M => M a = some (.lst ds)) M1 | _ => False
  | _ => False
theorem di_list {tg : Expr} (h : DE X e ta) : DI X tg e (dIter ta) := PI.imp (pi_list h) fun σ H R ⟨F, env, M, R0, he, hc, ht, hp⟩ =>
  ⟨F, env, M, _, he, hc, ht, fun d M1 F1 H1 v q s1 f1 c1 r1 => by
    revert q
    dsimp only
    split <;> intro q
    · rw [Rep] at r1
      obtain ⟨a, vs, e1, e2, e3⟩ := r1
      exact ⟨a, e1, ⟨vs, SqL.of (c1.same _ _ e2)⟩, hp _ _ _ _ _ _ q s1 f1 c1 (yl_list e3 fun s c k => SqL.of (c.same _ _ (s _ _ e2)))⟩
    · rw [Rep] at r1
      obtain ⟨a, vs, e1, e2, e3⟩ := r1
      exact ⟨a, e1, ⟨vs, c1.same.seq e2⟩, hp _ _ _ _ _ _ q s1 f1 c1 (yl_list e3 fun s c k => c.same.seq (s.seq e2))⟩
    · rename_i a
      split at q
      · rename_i ds g
        rw [Rep] at r1
        obtain ⟨_, o, ho, vs, e1, e2⟩ := c1.mem a _ g
        subst e1
        have y : Yl X.K (Itl X.K a) F1 ds (fun M => M a = some (.lst ds)) := {
          go := fun {F' H M i} s c k hi => by
            obtain ⟨_, o, ho, vs, e1, e2⟩ := c.mem a _ k
            subst e1
            exact ⟨vs, vs[i]'(by rw [e2.len]; exact hi), SqL.of ho, by simp⟩
          stop := fun {F' H M i} s c k hi => by
            obtain ⟨_, o, ho, vs, e1, e2⟩ := c.mem a _ k
            subst e1
            exact ⟨vs, SqL.of ho, by rw [e2.len]; exact hi⟩
          yld := fun {F' H H' M i x} s c k hi y => by
            obtain ⟨_, o, ho, vs, e1, e2⟩ := c.mem a _ k
            subst e1
            obtain ⟨e, y⟩ := y
            subst e
            obtain ⟨d, e3, e4⟩ := e2.get' (y vs (SqL.of ho))
            exact ⟨d, F', e3, Same.refl _, c, Fr.refl, e4⟩ }
        exact ⟨a, r1, ⟨vs, SqL.of ho⟩, hp _ _ _ _ _ _ q s1 f1 c1 y⟩
      · exact q.elim
    · exact q.elim⟩
def dIterT (ta : DTE) : DTI := fun env M R => ta env M fun x M1 => match x with
  | .tup ds => R ds (fun _ => True) M1
  | _ => False
theorem di_tup {tg : Expr} (h : DE X e ta) : DI X tg e (dIterT ta) := PI.imp (pi_tup h) fun σ H R ⟨F, env, M, R0, he, hc, ht, hp⟩ =>
  ⟨F, env, M, _, he, hc, ht, fun d M1 F1 H1 v q s1 f1 c1 r1 => by
    revert q
    dsimp only
    split <;> intro q
    · rename_i ds
      rw [Rep] at r1
      obtain ⟨a, vs, e1, e2, e3⟩ := r1
      have y : Yl X.K (Itt X.K a) F1 ds (fun _ => True) := {
          go := fun {F' H M i} s c k hi => ⟨vs, vs[i]'(by rw [e3.len]; exact hi), sameT c.same (sameT s e2), by simp⟩
          stop := fun {F' H M i} s c k hi => ⟨vs, sameT c.same (sameT s e2), by rw [e3.len]; exact hi⟩
          yld := fun {F' H H' M i x} s c k hi y => by
            obtain ⟨e, y⟩ := y
            subst e
            obtain ⟨d, e4, e5⟩ := e3.get' (y vs (sameT c.same (sameT s e2)))
            exact ⟨d, F', e4, Same.refl _, c, Fr.refl, e5.mono s⟩ }
      exact ⟨a, e1, ⟨vs, sameT c1.same e2⟩, hp _ _ _ _ _ _ q s1 f1 c1 y⟩
    · exact q.elim⟩
/-- the sgs of a text -/
def sgs (x : Str) : List D := x.cps.toList.map fun c => .str ⟨#[c]⟩
def dIterS (ta : DTE) : DTI := fun env M R => ta env M fun x M1 => match x with
  | .str z => R (sgs z) (fun _ => True) M1
  | _ => False
theorem di_str {tg : Expr} (h : DE X e ta) : DI X tg e (dIterS ta) := PI.imp (pi_str h) fun σ H R ⟨F, env, M, R0, he, hc, ht, hp⟩ =>
  ⟨F, env, M, _, he, hc, ht, fun d M1 F1 H1 v q s1 f1 c1 r1 => by
    cases d with
    | str z =>
      rw [Rep] at r1
      have hl : (sgs z).length = z.cps.size := by simp [sgs]
      have y : Yl X.K (Its z) F1 (sgs z) (fun _ => True) := {
          go := fun {F' H M i} s c k hi => by rw [hl] at hi; exact hi
          stop := fun {F' H M i} s c k hi => by rw [hl] at hi; exact hi
          yld := fun {F' H H' M i x} s c k hi y => by
            obtain ⟨e, cc, e1, e2⟩ := y
            subst e
            refine ⟨.str ⟨#[cc]⟩, F', ?_, Same.refl _, c, Fr.refl, by rw [Rep]; exact e2⟩
            simp [sgs, e1] }
      exact ⟨z, r1, hp _ _ _ _ _ _ q s1 f1 c1 y⟩
    | _ => exact False.elim q⟩
def rng (lo : Int) (n : Nat) : List D := (List.range n).map fun i => .int (lo + (i : Nat))
theorem yl_rng {F : Hp} {lo : Int} {n : Nat} : Yl K (Itr lo n) F (rng lo n) (fun _ => True) where
  go := fun {F' H M i} s c k hi => by
    have h : i < n := by simpa [rng] using hi
    exact h
  stop := fun {F' H M i} s c k hi => by
    have h : n ≤ i := by simpa [rng] using hi
    exact h
  yld := fun {F' H H' M i x} s c k hi y => by
    obtain ⟨e, e1⟩ := y
    subst e e1
    have hi' : i < n := by simpa [rng] using hi
    exact ⟨.int (lo + (i : Nat)), F', by simp [rng, hi'], Same.refl _, c, Fr.refl, by rw [Rep]⟩
def dRng1 (tr : DTA) : DTI := fun env M R => tr env M fun ds M1 => match ds with
  | [.int j] => (-(2 ^ 62) ≤ j ∧ j < 2 ^ 62) ∧ R (rng 0 j.toNat) (fun _ => True) M1
  | _ => False
theorem di_rng1 {tg : Expr} {p : Pos} (hm : X.mg "range" = none) (ha : DA X [a] tr) (hg : Gl X "range" := by rfl) (hs : starEach [a] X.env = [(false, eval a X.env)] := by rfl) : DI X tg (.Call (.Name "range" p) [a] [] pos) (dRng1 tr) :=
  PI.imp (pi_range1 hg hm ha hs) fun σ H R ⟨F, env, M, R0, he, hc, ht, hp⟩ => ⟨F, env, M, _, he, hc, ht, fun ds M1 F1 H1 vs q s1 f1 c1 r1 => by
    revert q
    dsimp only
    split <;> intro q
    · simp only [Reps, Rep] at r1
      obtain ⟨v, r, e1, e2, e3⟩ := r1
      subst e1 e2 e3
      exact ⟨_, rfl, q.1.1, q.1.2, hp _ _ _ _ _ _ q.2 s1 f1 c1 yl_rng⟩
    · exact q.elim⟩
def dRng2 (tr : DTA) : DTI := fun env M R => tr env M fun ds M1 => match ds with
  | [.int i, .int j] => (-(2 ^ 62) ≤ i ∧ i < 2 ^ 62 ∧ -(2 ^ 62) ≤ j ∧ j < 2 ^ 62) ∧ R (rng i (j - i).toNat) (fun _ => True) M1
  | _ => False
theorem di_rng2 {tg : Expr} {p : Pos} (hm : X.mg "range" = none) (ha : DA X [a, b] tr) (hg : Gl X "range" := by rfl) (hs : starEach [a, b] X.env = [(false, eval a X.env), (false, eval b X.env)] := by rfl) (hs2 : starEach [b] X.env = [(false, eval b X.env)] := by rfl) : DI X tg (.Call (.Name "range" p) [a, b] [] pos) (dRng2 tr) :=
  PI.imp (pi_range2 hg hm ha hs hs2) fun σ H R ⟨F, env, M, R0, he, hc, ht, hp⟩ => ⟨F, env, M, _, he, hc, ht, fun ds M1 F1 H1 vs q s1 f1 c1 r1 => by
    revert q
    dsimp only
    split <;> intro q
    · simp only [Reps, Rep] at r1
      obtain ⟨v, r, e1, e2, v', r', e4, e5, e6⟩ := r1
      subst e1 e2 e4 e5 e6
      exact ⟨_, _, rfl, q.1, hp _ _ _ _ _ _ q.2 s1 f1 c1 yl_rng⟩
    · exact q.elim⟩
/-! ### comprehensions -/
def wipeD (env : DSt) : List Nat → DSt
  | [] => env
  | v :: vs => (wipeD env vs).set v none
theorem EnvR.wipe {F : Hp} {σ : L2.St} {env : DSt} (h : EnvR K F σ env) : ∀ vs : List Nat, EnvR K F (wipe σ vs) (wipeD env vs)
  | [] => h
  | v :: vs => by
    have ih := EnvR.wipe h vs
    refine ⟨by unfold L2.wipe wipeD; rw [List.length_set, List.length_set]; exact ih.1, fun i d q => ?_⟩
    unfold wipeD at q
    unfold L2.wipe
    by_cases hv : v = i
    · subst hv
      by_cases hl : v < (wipeD env vs).length
      · rw [List.getElem?_set_self hl] at q; cases q
      · rw [List.getElem?_eq_none (by simp; omega)] at q; cases q
    · rw [List.getElem?_set_ne hv] at q ⊢
      exact ih.2 i d q
theorem wipe_set {σ : L2.St} {i : Nat} {x : Option V} : ∀ {vs : List Nat}, i ∈ vs → wipe (σ.set i x) vs = wipe σ vs
  | v :: vs, h => by
    have key : ∀ (ws : List Nat) (τ : L2.St) (y : Option V), wipe (τ.set i y) ws = (wipe τ ws).set i (if i ∈ ws then none else y) ∨ wipe (τ.set i y) ws = wipe τ ws := by
      intro ws
      induction ws with
      | nil => intro τ y; left; simp [wipe]
      | cons w ws ih =>
        intro τ y
        unfold wipe
        by_cases hw : w = i
        · subst hw
          rcases ih τ y with e | e
          · right; rw [e, List.set_set]
          · right; rw [e]
        · rcases ih τ y with e | e
          · left; rw [e, List.set_comm _ _ (Ne.symm hw)]; simp [Ne.symm hw]
          · right; rw [e]
    rcases key (v :: vs) σ x with e | e
    · rw [e, if_pos h]
      have : ∀ (ws : List Nat) (τ : L2.St), i ∈ ws → (wipe τ ws).set i none = wipe τ ws := by
        intro ws
        induction ws with
        | nil => intro τ h; cases h
        | cons w ws ih =>
          intro τ h
          unfold wipe
          by_cases hw : w = i
          · subst hw; rw [List.set_set]
          · rw [List.set_comm _ _ hw]
            rcases List.mem_cons.mp h with z | z
            · exact absurd z.symm hw
            · rw [ih τ z]
      exact this _ _ h
    · exact e
theorem wipe_idem {σ : L2.St} : ∀ vs : List Nat, wipe (wipe σ vs) vs = wipe σ vs
  | [] => rfl
  | v :: vs => by
    show (wipe ((wipe σ vs).set v none) vs).set v none = (wipe σ vs).set v none
    by_cases h : v ∈ vs
    · rw [wipe_set h, wipe_idem vs]
    · have key : ∀ (ws : List Nat) (τ : L2.St), v ∉ ws → wipe (τ.set v none) ws = (wipe τ ws).set v none := by
        intro ws
        induction ws with
        | nil => intro τ _; rfl
        | cons w ws ih =>
          intro τ hn
          have h1 : w ≠ v := fun e => hn (by rw [e]; exact List.mem_cons_self)
          show (wipe (τ.set v none) ws).set w none = ((wipe τ ws).set w none).set v none
          rw [ih τ fun z => hn (List.mem_cons_of_mem _ z), List.set_comm _ _ h1]
      rw [key vs _ h, List.set_set, wipe_idem vs]
def TgL (K : PySem.W.Frag) [GI K] (g : TG) (dg : DTG) (vs : List Nat) : Prop := ∀ {F H : Hp} {M : Mp} {σ : L2.St} {env : DSt} {d : D} {v : V} {Q0 : DSt → Mp → Prop} {Q : L2.St → Hp → Prop}, EnvR K F σ env → Core K F H M → Rep K F d v → dg d env M Q0 →
  (∀ σ' env', wipe σ' vs = wipe σ vs → EnvR K F σ' env' → Q0 env' M → Q σ' H) → g v σ H Q
def TgsL (K : PySem.W.Frag) [GI K] (g : TGs) (dg : DTGs) (vs : List Nat) : Prop := ∀ {F H : Hp} {M : Mp} {σ : L2.St} {env : DSt} {d : List D} {v : List V} {Q0 : DSt → Mp → Prop} {Q : L2.St → Hp → Prop}, EnvR K F σ env → Core K F H M → Reps K F d v → dg d env M Q0 →
  (∀ σ' env', wipe σ' vs = wipe σ vs → EnvR K F σ' env' → Q0 env' M → Q σ' H) → g v σ H Q
theorem tg_name {i : Nat} {vs : List Nat} (h : i ∈ vs) : TgL K (gName i) (dgName i) vs := fun he hc r q k => k _ _ (wipe_set h) (he.set i r) q
theorem tgs_nil {vs : List Nat} : TgsL K gNil dgNil vs := fun he hc r q k => by
  obtain ⟨e, q⟩ := q
  subst e
  rw [Reps] at r
  exact ⟨r, k _ _ rfl he q⟩
theorem tgs_cons {vs : List Nat} {g : TG} {dg : DTG} {gs : TGs} {dgs : DTGs} (h : TgL K g dg vs) (hs : TgsL K gs dgs vs) : TgsL K (gCons g gs) (dgCons dg dgs) vs := fun {F H M σ env d v Q0 Q} he hc r q k => by
  cases d with
  | nil => exact False.elim q
  | cons d ds =>
    rw [Reps] at r
    obtain ⟨v1, r1, e1, e2, e3⟩ := r
    exact ⟨v1, r1, e1, h he hc e2 q fun σ' env' w he' q' => hs he' hc e3 q' fun σ2 env2 w2 => k σ2 env2 (w2.trans w)⟩
theorem tg_tup {n : Nat} {vs : List Nat} {gs : TGs} {dgs : DTGs} (hs : TgsL K gs dgs vs) : TgL K (gTup K n gs) (dgTup n dgs) vs := fun {F H M σ env d v Q0 Q} he hc r q k => by
  cases d with
  | tup ds =>
    rw [Rep] at r
    obtain ⟨a, ws, e1, e2, e3⟩ := r
    exact ⟨a, ws, e1, sameT hc.same e2, by rw [e3.len]; exact q.1, hs he hc e3 q.2 k⟩
  | _ => exact False.elim q
def dLc (ti : DTI) (g : DTG) (tt : DTT) (te : DTE) (vs : List Nat) : DTE := fun env M Q => ti env M fun ds kp M1 => ∃ Pv : Nat → List D → Mp → Prop, Pv 0 [] M1 ∧ (∀ i acc M, Pv i acc M → kp M) ∧
  (∀ i d acc M, ds[i]? = some d → Pv i acc M → g d (wipeD env vs) M fun env2 M2 => tt env2 M2 fun b M3 => if b = true then te env2 M3 fun y M4 => acc.length < sizeLine ∧ Pv (i + 1) (acc ++ [y]) M4 else Pv (i + 1) acc M3) ∧
  ∀ acc M, Pv ds.length acc M → Q (.lst acc) M
abbrev DTs (X : Cx) [GI X.K] (ifs : List Expr) (t : DTT) : Prop := PTs X ifs (lT X.K t)
def dYes : DTT := fun _ M Q => Q true M
theorem dts_nil : DTs X [] dYes := ⟨fun pins s σ H Q I ⟨F, env, M, Q0, he, hc, ht, hp⟩ => pts_nil.run pins s σ H Q I (hp true M F H ht (Same.refl F) Fr.refl hc)⟩
theorem dts_one (h : DT X c tt) : DTs X [c] tt := pts_one h
theorem l_lc {ti : DTI} {g : TG} {dg : DTG} {te : DTE} {vs : List Nat} (tl : TgL K g dg vs) : ∀ σ H Q, lE K (dLc ti dg tt te vs) σ H Q → tLc (lI K ti) g (lT K tt) (lE K te) vs σ H Q := fun σ H Q ⟨F, env, M, Q0, he, hc, ht, hp⟩ => by
  refine ⟨F, env, M, _, he, hc, ht, fun ds kp M1 F1 H1 J q s1 f1 c1 Y L hL => ?_⟩
  obtain ⟨Pv, p0, hk, turn, fin⟩ := q
  have n1 := c1.nones hL
  have c1' : Core K F1 (upd H1 L (.lst [])) M1 := c1.out hL _
  have fL : Fr F1 H1 M1 F1 (upd H1 L (.lst [])) M1 := fun a o e n => ⟨by rw [upd_ne (ne_of_none e hL)]; exact e, n, fun z => z⟩
  refine ⟨fun i m H' => m = ds.length - i ∧ i ≤ ds.length ∧ ∃ F' M' acc va, Same F1 F' ∧ Fr F1 H1 M1 F' H' M' ∧ Core K F' H' M' ∧ H' L = some (.lst va) ∧ F' L = none ∧ M' L = none ∧ Reps K F' acc va ∧ Pv i acc M',
    ⟨_, rfl, Nat.zero_le _, F1, M1, [], [], Same.refl _, fL, c1', upd_same, n1.1, n1.2, Reps.nil, p0⟩, ?_⟩
  rintro i m H2 ⟨rfl, hle, F2, M2, acc, va, s2, f2, c2, hv, hF, hM, ra, p2⟩
  have kk := hk _ _ _ p2
  by_cases hlt : i < ds.length
  · refine .inr ⟨Y.go s2 c2 kk hlt, fun H' => ∃ F' M' acc va, Same F1 F' ∧ Fr F1 H1 M1 F' H' M' ∧ Core K F' H' M' ∧ H' L = some (.lst va) ∧ F' L = none ∧ M' L = none ∧ Reps K F' acc va ∧ Pv (i + 1) acc M', fun H' z => ⟨_, by omega, rfl, hlt, z⟩, fun x H3 y => ?_⟩
    obtain ⟨d, F3, hd, s3, c3, f3, r3⟩ := Y.yld s2 c2 kk hlt y
    obtain ⟨hv3, _, hF3⟩ := f3 L _ hv hM
    refine tl (((he.mono s1).mono (s2.trans s3)).wipe vs) c3 r3 (turn i d acc M2 hd p2) fun σ' env' hw he' q' => ⟨hw.trans (wipe_idem vs), F3, env', M2, _, he', c3, q', fun b M4 F4 H4 q4 s4 f4 c4 => ?_⟩
    obtain ⟨hv4, hM4, hF4⟩ := f4 L _ hv3 hM
    cases b with
    | false => exact ⟨F4, M4, acc, va, s2.trans (s3.trans s4), f2.trans (f3.trans f4), c4, hv4, hF4 (hF3 hF), hM4, ra.mono (s3.trans s4), q4⟩
    | true =>
      rw [if_pos rfl] at q4 ⊢
      refine ⟨F4, env', M4, _, he'.mono s4, c4, q4, fun z M5 F5 H5 v5 q5 s5 f5 c5 r5 => ?_⟩
      obtain ⟨hv5, hM5, hF5⟩ := f5 L _ hv4 hM4
      have hF' := hF5 (hF4 (hF3 hF))
      have ra5 := ra.mono ((s3.trans s4).trans s5)
      have fr5 : Fr F1 H1 M1 F5 (upd H5 L (.lst (va ++ [v5]))) M5 := fun a o e n => by
        obtain ⟨x1, x2, x3⟩ := (f2.trans (f3.trans (f4.trans f5))) a o e n
        exact ⟨by rw [upd_ne (ne_of_none e hL)]; exact x1, x2, x3⟩
      refine ⟨va, hv5, by rw [ra5.len]; exact q5.1, F5, M5, acc ++ [z], va ++ [v5], s2.trans (s3.trans (s4.trans s5)), fr5, c1.to ⟨fun b u e => ?_, fun a mo e => ?_⟩ (s2.trans (s3.trans (s4.trans s5))) fr5, upd_same, hF', hM5, ra5.app (Reps.one r5), q5.2⟩
      · have hb : b ≠ L := fun z => by rw [z, hF'] at e; cases e
        rw [upd_ne hb]; exact c5.same b u e
      · obtain ⟨x1, o, x2, x3⟩ := c5.mem a mo e
        have ha : a ≠ L := fun z => by rw [z, hM5] at e; cases e
        exact ⟨x1, o, by rw [upd_ne ha]; exact x2, x3⟩
  · have e : i = ds.length := by omega
    subst e
    obtain ⟨o, r, c', s', f'⟩ : ∃ F', Core K F' H2 M2 ∧ Same F2 F' ∧ Fr F1 H1 M1 F' H2 M2 ∧ F' L = some (.lst va) := by
      have s' : Same F2 (upd F2 L (.lst va)) := fun b u e => by rw [upd_ne (ne_of_none e hF)]; exact e
      have fr2 : Fr F1 H1 M1 (upd F2 L (.lst va)) H2 M2 := fun a o e n => by
        obtain ⟨x1, x2, x3⟩ := f2 a o e n
        exact ⟨x1, x2, fun z => by rw [upd_ne (ne_of_none e hL)]; exact x3 z⟩
      refine ⟨upd F2 L (.lst va), c1.to ⟨fun b u e => ?_, fun a mo e => ?_⟩ (s2.trans s') fr2, s', fr2, upd_same⟩
      · by_cases hb : b = L
        · subst hb; rw [upd_same] at e; cases e; exact hv
        · rw [upd_ne hb] at e; exact c2.same b u e
      · obtain ⟨x1, o, x2, x3⟩ := c2.mem a mo e
        have ha : a ≠ L := fun z => by rw [z, hM] at e; cases e
        exact ⟨by rw [upd_ne ha]; exact x1, o, x2, x3.mono s'⟩
    exact .inl ⟨Y.stop s2 c2 kk (Nat.le_refl _), hp _ M2 o H2 _ (fin _ _ p2) (s1.trans (s2.trans c')) (f1.trans s') r (by rw [Rep]; exact ⟨L, va, rfl, f', ra.mono c'⟩)⟩
abbrev ForBlk (X : Cx) (scope : Scope) (P : Cx → Prop) : Prop := ∀ (s : Shared) (H : Hp) (C : Addr) (cl : List (Str × Addr)) (fp : List Addr), P (X.blk s H scope (compEnvC scope cl C X.env) fp)
theorem de_lc {elt tg iter : Expr} {ifs : List Expr} {scope : Scope} {own : List (Str × Nat)} {vs : List Nat} {ti : DTI} {g : TG} {dg : DTG} {te : DTE} (hN : X.N.Nodup) (hi : DI X tg iter ti) (ok : BlkOk X.N X.env.scope scope own) (tl : TgL X.K g dg vs)
    (hg : ForBlk X scope fun Y => PG Y tg g) (ht : ForBlk X scope fun Y => PTs Y ifs (lT X.K tt)) (he : ForBlk X scope fun Y => PE Y elt (lE X.K te)) (ho : own.map (·.2) = vs := by rfl) (hc : X.calm = true := by rfl) (hs : ∀ x, foldedSetIterable iter X.env x = pure x := by intro _; rfl) :
    DE X (.ListComp elt [⟨tg, iter, ifs, 0⟩] scope pos) (dLc ti dg tt te vs) := by
  subst ho
  exact PE.imp (pe_lc hc hN hi ok hg ht he hs) (l_lc tl)
theorem ds_setLc {i : Nat} {y : Str} {py spos : Pos} {elt tg iter : Expr} {ifs : List Expr} {scope : Scope} {own : List (Str × Nat)} {vs : List Nat} {ti : DTI} {g : TG} {dg : DTG} {te : DTE} (hN : X.N.Nodup) (hi : DI X tg iter ti) (ok : BlkOk X.N X.env.scope scope own) (tl : TgL X.K g dg vs)
    (hg : ForBlk X scope fun Y => PG Y tg g) (ht : ForBlk X scope fun Y => PTs Y ifs (lT X.K tt)) (he : ForBlk X scope fun Y => PE Y elt (lE X.K te)) (hy : X.N[i]? = some y := by rfl) (hyl : X.env.scope.names.lookup y = some .local := by rfl)
    (hsw : swapsWith (.ListComp elt [⟨tg, iter, ifs, 0⟩] scope pos) (some (.Name y py)) spos.line X.env = pure true := by exact sw_true rfl rfl rfl (by decide +kernel)) (ho : own.map (·.2) = vs := by rfl) (hc : X.calm = true := by rfl) (hs : ∀ x, foldedSetIterable iter X.env x = pure x := by intro _; rfl) :
    DS X (.Assign [.Name y py] (.ListComp elt [⟨tg, iter, ifs, 0⟩] scope pos) spos) (dAsg (dLc ti dg tt te vs) (dgName i)) := by
  subst ho
  exact PS.imp (ps_setLc hc hN hy hyl hsw hi ok hg ht he hs) fun E σ H ⟨F, env, M, D0, he, hc, ht, hp⟩ => l_lc tl σ H _ ⟨F, env, M, _, he, hc, ht, fun d M1 F1 H1 v q s1 f1 c1 r1 => hp.nx _ M1 F1 H1 _ q s1 f1 c1 ((he.mono s1).set i r1)⟩
end
end DL
namespace DL
open PySem PySem.Spec PyProof.Rows L2
section
variable {X : Cx} {GX : GI X.K} {K : PySem.W.Frag} {G : GI K} {a b c e : Expr} {es : List Expr} {ta tb tc : DTE} {pos : Pos} {tt : DTT} {tr : DTA}
/-! ### calls of built-ins -/
abbrev DC := List D → Mp → DQ → Prop
def LC (K : PySem.W.Frag) [GI K] (r : List V → Hp → VK → Prop) (rd : DC) : Prop := ∀ {F H : Hp} {M : Mp} {ds : List D} {vs : List V} {Q0 : DQ} {Q : VK}, Core K F H M → Reps K F ds vs → rd ds M Q0 → Post K F H M Q0 Q → r vs H Q
theorem CallR.or {f : Value} {r r' : List V → Hp → VK → Prop} (h : CallR X f r) (h' : CallR X f r') : CallR X f (fun xs H Q => r xs H Q ∨ r' xs H Q) := by
  intro pins s σ H xs us Q I rx q
  rcases q with q | q
  · exact h pins s σ H xs us Q I rx q
  · exact h' pins s σ H xs us Q I rx q
def dCB (rd : DC) (tr : DTA) : DTE := fun env M Q => tr env M fun ds M1 => rd ds M1 Q
theorem l_cb {r : List V → Hp → VK → Prop} {rd : DC} (l : LC K r rd) : ∀ σ H Q, lE K (dCB rd tr) σ H Q → tCB r (lA K tr) σ H Q := fun σ H Q ⟨F, env, M, Q0, he, hc, ht, hp⟩ =>
  ⟨F, env, M, _, he, hc, ht, fun ds M1 F1 H1 vs q s1 f1 c1 r1 => l c1 r1 q (hp.after s1 f1)⟩
theorem de_callB {x : Str} {id : String} {r : List V → Hp → VK → Prop} {rd : DC} {p : Pos} (hc : CallR X (.builtin id) r) (l : LC X.K r rd) (hm : X.mg x = none) (hv : bootBuiltins x = some (.builtin id)) (ha : DA X (e :: es) tr) (hg : Gl X x := by rfl) (hn : x ≠ "__name__" := by decide) (hdb : (x == ("__debug__" : Str)) = false := by decide)
    (na : starEach (e :: es) X.env = (false, eval e X.env) :: starEach es X.env := by rfl) (hpl : (backTo pos (starEach es X.env)).any (·.1) = false := by rfl) : DE X (.Call (.Name x p) (e :: es) [] pos) (dCB rd tr) :=
  PE.imp (by first | exact pe_callB hc hg hm hv ha hn hdb na hpl | exact pe_callB hc hg hm hv ha hn hdb) (l_cb l)
theorem de_callTy {x : Str} {T : String} {r : List V → Hp → VK → Prop} {rd : DC} {p : Pos} (hc : CallR X (.type T) r) (l : LC X.K r rd) (hm : X.mg x = none) (hv : bootBuiltins x = some (.type T)) (ha : DA X (e :: es) tr) (hg : Gl X x := by rfl) (hn : x ≠ "__name__" := by decide) (hdb : (x == ("__debug__" : Str)) = false := by decide)
    (na : starEach (e :: es) X.env = (false, eval e X.env) :: starEach es X.env := by rfl) (hpl : (backTo pos (starEach es X.env)).any (·.1) = false := by rfl) : DE X (.Call (.Name x p) (e :: es) [] pos) (dCB rd tr) :=
  PE.imp (by first | exact pe_callTy hc hg hm hv ha hn hdb na hpl | exact pe_callTy hc hg hm hv ha hn hdb) (l_cb l)
theorem reps1 {F : Hp} {d : D} {vs : List V} (h : Reps K F [d] vs) : ∃ v, vs = [v] ∧ Rep K F d v := by
  simp only [Reps] at h
  obtain ⟨v, r, e1, e2, e3⟩ := h
  subst e3
  exact ⟨v, e1, e2⟩
theorem reps2 {F : Hp} {d d' : D} {vs : List V} (h : Reps K F [d, d'] vs) : ∃ v v', vs = [v, v'] ∧ Rep K F d v ∧ Rep K F d' v' := by
  simp only [Reps] at h
  obtain ⟨v, r, e1, e2, v', r', e3, e4, e5⟩ := h
  subst e5 e3
  exact ⟨v, v', e1, e2, e4⟩
def rLen : DC := fun ds M Q => match ds with
  | [.str z] => z.length ≤ sizeLine ∧ Q (.int z.length) M
  | [.tup xs] => Q (.int xs.length) M
  | [x] => match lstOf M x with | some xs => Q (.int xs.length) M | none => False
  | _ => False
theorem o_len : CallR X (.builtin "len") (fun xs H Q => (∃ p ys, xs = [.ref p] ∧ (SqL X.K H p ys ∨ SqT X.K H p ys) ∧ Q (.int ys.length) H) ∨ (∃ z, xs = [.str z] ∧ z.length ≤ sizeLine ∧ Q (.int z.length) H)) := CallR.or call_len_seq call_len_str
theorem l_len : LC K (fun xs H Q => (∃ p ys, xs = [.ref p] ∧ (SqL K H p ys ∨ SqT K H p ys) ∧ Q (.int ys.length) H) ∨ (∃ z, xs = [.str z] ∧ z.length ≤ sizeLine ∧ Q (.int z.length) H)) rLen := by
  intro F H M ds vs Q0 Q c r h p
  unfold rLen at h
  split at h
  · obtain ⟨v, e1, e2⟩ := reps1 r
    rw [Rep] at e2
    subst e1 e2
    exact .inr ⟨_, rfl, h.1, p.int c h.2⟩
  · obtain ⟨v, e1, e2⟩ := reps1 r
    rw [Rep] at e2
    obtain ⟨a, vs, f1, f2, f3⟩ := e2
    subst e1 f1
    exact .inl ⟨a, vs, rfl, .inr (sameT c.same f2), by rw [f3.len]; exact p.int c h⟩
  · split at h
    · rename_i xs g
      obtain ⟨v, e1, e2⟩ := reps1 r
      obtain ⟨a, vs, f1, f2, f3⟩ := lstOf_ok c e2 g
      subst e1 f1
      exact .inl ⟨a, vs, rfl, .inl f2, by rw [f3.len]; exact p.int c h⟩
    · exact h.elim
  · exact h.elim
theorem de_len {p : Pos} (hm : X.mg "len" = none) (ha : DA X [a] tr) (hg : Gl X "len" := by rfl) (na : starEach [a] X.env = (false, eval a X.env) :: starEach [] X.env := by rfl) : DE X (.Call (.Name "len" p) [a] [] pos) (dCB rLen tr) := de_callB o_len l_len hm PySem.boot_len ha hg (by decide) (by decide) na rfl
def rAbs : DC := fun ds M Q => match ds with | [.int i] => Q (.int (if i < 0 then -i else i)) M | _ => False
theorem l_abs : LC K (fun xs H Q => ∃ i, xs = [.int i] ∧ Q (.int (if i < 0 then -i else i)) H) rAbs := by
  intro F H M ds vs Q0 Q c r h p
  unfold rAbs at h
  split at h
  · obtain ⟨v, e1, e2⟩ := reps1 r
    rw [Rep] at e2
    subst e1 e2
    exact ⟨_, rfl, p.int c h⟩
  · exact h.elim
def rInt : DC := fun ds M Q => match ds with
  | [.int i] => Q (.int i) M
  | [.bl k] => Q (.int (if k then 1 else 0)) M
  | [.str a] => ∃ n, PySem.intText? a = some n ∧ a.length ≤ 640 ∧ Q (.int n) M
  | _ => False
theorem l_toInt : LC K (fun xs H Q => ((∃ i, xs = [.int i] ∧ Q (.int i) H) ∨ ∃ k, xs = [.bl k] ∧ Q (.int (if k then 1 else 0)) H) ∨ (∃ a n, xs = [.str a] ∧ PySem.intText? a = some n ∧ a.length ≤ 640 ∧ Q (.int n) H)) rInt := by
  intro F H M ds vs Q0 Q c r h p
  unfold rInt at h
  split at h
  · obtain ⟨v, e1, e2⟩ := reps1 r
    rw [Rep] at e2
    subst e1 e2
    exact .inl (.inl ⟨_, rfl, p.int c h⟩)
  · obtain ⟨v, e1, e2⟩ := reps1 r
    rw [Rep] at e2
    subst e1 e2
    exact .inl (.inr ⟨_, rfl, p.int c h⟩)
  · obtain ⟨v, e1, e2⟩ := reps1 r
    rw [Rep] at e2
    subst e1 e2
    obtain ⟨n, h1, h2, h3⟩ := h
    exact .inr ⟨_, n, rfl, h1, h2, p.int c h3⟩
  · exact h.elim
theorem o_int : CallR X (.type "int") (fun xs H Q => ((∃ i, xs = [.int i] ∧ Q (.int i) H) ∨ ∃ k, xs = [.bl k] ∧ Q (.int (if k then 1 else 0)) H) ∨ (∃ a n, xs = [.str a] ∧ PySem.intText? a = some n ∧ a.length ≤ 640 ∧ Q (.int n) H)) := CallR.or call_int1 call_int_str
theorem de_toInt {p : Pos} (hm : X.mg "int" = none) (ha : DA X [a] tr) (hg : Gl X "int" := by rfl) (na : starEach [a] X.env = (false, eval a X.env) :: starEach [] X.env := by rfl) : DE X (.Call (.Name "int" p) [a] [] pos) (dCB rInt tr) := de_callTy o_int l_toInt hm (by decide +kernel) ha hg (by decide) (by decide) na rfl
def rToList : DC := fun ds M Q => match ds with
  | [.tup xs] => Q (.lst xs) M
  | [x] => match lstOf M x with | some xs => Q (.lst xs) M | none => False
  | _ => False
def rToListM : DC := fun ds M Q => match ds with
  | [.tup xs] => ∀ p, M p = none → Q (.ptr p) (up M p (.lst xs))
  | [x] => match lstOf M x with | some xs => ∀ p, M p = none → Q (.ptr p) (up M p (.lst xs)) | none => False
  | _ => False
theorem l_toList : LC K (fun xs H Q => ∃ p ys, xs = [.ref p] ∧ (SqL K H p ys ∨ SqT K H p ys) ∧ ∀ l, H l = none → Q (.ref l) (upd H l (.lst ys))) rToList := by
  intro F H M ds vs Q0 Q c r h p
  unfold rToList at h
  split at h
  · obtain ⟨v, e1, e2⟩ := reps1 r
    rw [Rep] at e2
    obtain ⟨a, vs, f1, f2, f3⟩ := e2
    subst e1 f1
    exact ⟨a, vs, rfl, .inr (sameT c.same f2), p.lst c f3 h⟩
  · split at h
    · rename_i xs g
      obtain ⟨v, e1, e2⟩ := reps1 r
      obtain ⟨a, vs, f1, f2, f3⟩ := lstOf_ok c e2 g
      subst e1 f1
      exact ⟨a, vs, rfl, .inl f2, p.lst c f3 h⟩
    · exact h.elim
  · exact h.elim
theorem l_toListM : LC K (fun xs H Q => ∃ p ys, xs = [.ref p] ∧ (SqL K H p ys ∨ SqT K H p ys) ∧ ∀ l, H l = none → Q (.ref l) (upd H l (.lst ys))) rToListM := by
  intro F H M ds vs Q0 Q c r h p
  unfold rToListM at h
  split at h
  · obtain ⟨v, e1, e2⟩ := reps1 r
    rw [Rep] at e2
    obtain ⟨a, vs, f1, f2, f3⟩ := e2
    subst e1 f1
    exact ⟨a, vs, rfl, .inr (sameT c.same f2), p.ptr (mo := .lst _) c ⟨vs, rfl, f3⟩ h⟩
  · split at h
    · rename_i xs g
      obtain ⟨v, e1, e2⟩ := reps1 r
      obtain ⟨a, vs, f1, f2, f3⟩ := lstOf_ok c e2 g
      subst e1 f1
      exact ⟨a, vs, rfl, .inl f2, p.ptr (mo := .lst _) c ⟨vs, rfl, f3⟩ h⟩
    · exact h.elim
  · exact h.elim
def rToTup : DC := fun ds M Q => match ds with
  | [.tup xs] => Q (.tup xs) M
  | [x] => match lstOf M x with | some xs => Q (.tup xs) M | none => False
  | _ => False
theorem l_toTup : LC K (fun xs H Q => ∃ p ys, xs = [.ref p] ∧ ((SqL K H p ys ∧ ∀ l, H l = none → Q (.ref l) (upd H l (.tup ys))) ∨ (SqT K H p ys ∧ Q (.ref p) H))) rToTup := by
  intro F H M ds vs Q0 Q c r h p
  unfold rToTup at h
  split at h
  · obtain ⟨v, e1, e2⟩ := reps1 r
    have e3 := e2
    rw [Rep] at e2
    obtain ⟨a, vs, f1, f2, f3⟩ := e2
    subst e1 f1
    exact ⟨a, vs, rfl, .inr ⟨sameT c.same f2, p.val c h e3⟩⟩
  · split at h
    · rename_i xs g
      obtain ⟨v, e1, e2⟩ := reps1 r
      obtain ⟨a, vs, f1, f2, f3⟩ := lstOf_ok c e2 g
      subst e1 f1
      exact ⟨a, vs, rfl, .inl ⟨f2, p.tup c f3 h⟩⟩
    · exact h.elim
  · exact h.elim
def rSum : DC := fun ds M Q => match ds with | [x] => ∃ ns : List Int, lstOf M x = some (ns.map D.int) ∧ Q (.int ns.sum) M | _ => False
theorem l_sum : LC K (L2.rSum K) rSum := by
  intro F H M ds vs Q0 Q c r h p
  unfold rSum at h
  split at h
  · obtain ⟨v, e1, e2⟩ := reps1 r
    obtain ⟨ns, g, h⟩ := h
    obtain ⟨a, vs, f1, f2, f3⟩ := lstOf_ok c e2 g
    have := f3.ints
    subst e1 f1 this
    exact ⟨a, ns, rfl, f2, p.int c h⟩
  · exact h.elim
def rAll : DC := fun ds M Q => match ds with | [x] => ∃ ns : List Bool, lstOf M x = some (ns.map D.bl) ∧ Q (.bl (ns.all id)) M | _ => False
def rAny : DC := fun ds M Q => match ds with | [x] => ∃ ns : List Bool, lstOf M x = some (ns.map D.bl) ∧ Q (.bl (ns.any id)) M | _ => False
theorem Reps.bls {F : Hp} : ∀ {ys : List Bool} {vs : List V}, Reps K F (ys.map D.bl) vs → vs = ys.map V.bl
  | [], vs, h => by rw [List.map_nil, Reps] at h; subst h; rfl
  | y :: ys, vs, h => by
    rw [List.map_cons, Reps] at h
    obtain ⟨v, r, e1, e2, e3⟩ := h
    rw [Rep] at e2
    subst e1 e2
    rw [Reps.bls e3]; rfl
theorem l_all : LC K (L2.rAll K) rAll := by
  intro F H M ds vs Q0 Q c r h p
  unfold rAll at h
  split at h
  · obtain ⟨v, e1, e2⟩ := reps1 r
    obtain ⟨ns, g, h⟩ := h
    obtain ⟨a, vs, f1, f2, f3⟩ := lstOf_ok c e2 g
    have := f3.bls
    subst e1 f1 this
    exact ⟨a, ns, rfl, f2, p.bl c h⟩
  · exact h.elim
theorem l_any : LC K (L2.rAny K) rAny := by
  intro F H M ds vs Q0 Q c r h p
  unfold rAny at h
  split at h
  · obtain ⟨v, e1, e2⟩ := reps1 r
    obtain ⟨ns, g, h⟩ := h
    obtain ⟨a, vs, f1, f2, f3⟩ := lstOf_ok c e2 g
    have := f3.bls
    subst e1 f1 this
    exact ⟨a, ns, rfl, f2, p.bl c h⟩
  · exact h.elim
def rStrN : DC := fun ds M Q => match ds with | [.int n] => n.natAbs.log2 < 1920 ∧ Q (.str (toString n)) M | _ => False
/-! ### methods of built-in types -/
abbrev DM := D → List D → Mp → DQ → Prop
def LM (K : PySem.W.Frag) [GI K] (r : V → List V → Hp → VK → Prop) (rd : DM) : Prop := ∀ {F H : Hp} {M : Mp} {d : D} {v : V} {ds : List D} {vs : List V} {Q0 : DQ} {Q : VK}, Core K F H M → Rep K F d v → Reps K F ds vs → rd d ds M Q0 → Post K F H M Q0 Q → r v vs H Q
def tyD (T : String) (d : D) (M : Mp) : Prop := match d with
  | .str _ => T = "str"
  | d => T = "list" ∧ ∃ ds, lstOf M d = some ds
theorem tyD_ok {F H : Hp} {M : Mp} {T : String} {d : D} {v : V} (c : Core K F H M) (r : Rep K F d v) (h : tyD T d M) : tyV K T v H := by
  unfold tyD at h
  split at h
  · rw [Rep] at r; subst r; exact h
  · obtain ⟨e, ds, g⟩ := h
    obtain ⟨a, vs, f1, f2, f3⟩ := lstOf_ok c r g
    subst f1
    exact .inl ⟨e, vs, f2⟩
def dBM (T : String) (rd : DM) (ta : DTE) (tr : DTA) : DTE := fun env M Q => ta env M fun x M1 => tyD T x M1 ∧ tr env M1 fun xs M2 => rd x xs M2 Q
def dBM0 (T : String) (rd : DM) (ta : DTE) : DTE := fun env M Q => ta env M fun x M1 => tyD T x M1 ∧ rd x [] M1 Q
theorem de_bm {T : String} {name : Str} {id : String} {r : V → List V → Hp → VK → Prop} {rd : DM} {apos cpos : Pos} (pa : PlainAttrs T) (slot : Slot T name id) (hty : typeOf (.builtin id) = pure (.type "method_descriptor")) (hm : MtR X id r) (l : LM X.K r rd) (ho : DE X a ta) (ha : DA X (e :: es) tr)
    (hbase : attributeBase a name X.env (eval a X.env) = eval a X.env := by rfl)
    (hfew : ((backTo cpos (starEach (e :: es) X.env)).all (fun x => !x.1) && (backToKw cpos (keywordEach [] X.env)).all (fun x => x.1.isSome)
      && decide ((e :: es).length + ([] : List Keyword).length + (if ([] : List Keyword).isEmpty then 0 else 1) < 30)) = true := by rfl)
    (hline : (apos.endLine == cpos.line) = true := by rfl) (hs : starEach (e :: es) X.env = (false, eval e X.env) :: starEach es X.env := by rfl) (hplain : (backTo cpos (starEach es X.env)).any (·.1) = false := by rfl) :
    DE X (.Call (.Attribute a name apos) (e :: es) [] cpos) (dBM T rd ta tr) := PE.imp (pe_bm pa slot hty hm ho ha hbase hfew hline hs hplain) fun σ H Q ⟨F, env, M, Q0, he, hc, ht, hp⟩ =>
  ⟨F, env, M, _, he, hc, ht, fun d M1 F1 H1 v q s1 f1 c1 r1 => ⟨tyD_ok c1 r1 q.1, F1, env, M1, _, he.mono s1, c1, q.2, fun ds M2 F2 H2 vs q2 s2 f2 c2 r2 => l c2 (r1.mono s2) r2 q2 (hp.after (s1.trans s2) (f1.trans f2))⟩⟩
theorem de_bm0 {T : String} {name : Str} {id : String} {r : V → List V → Hp → VK → Prop} {rd : DM} {apos cpos : Pos} (pa : PlainAttrs T) (slot : Slot T name id) (hty : typeOf (.builtin id) = pure (.type "method_descriptor")) (hm : MtR X id r) (l : LM X.K r rd) (ho : DE X a ta)
    (hbase : attributeBase a name X.env (eval a X.env) = eval a X.env := by rfl) (hline : (apos.endLine == cpos.line) = true := by rfl) : DE X (.Call (.Attribute a name apos) [] [] cpos) (dBM0 T rd ta) :=
  PE.imp (pe_bm0 pa slot hty hm ho hbase hline) fun σ H Q ⟨F, env, M, Q0, he, hc, ht, hp⟩ => ⟨F, env, M, _, he, hc, ht, fun d M1 F1 H1 v q s1 f1 c1 r1 => ⟨tyD_ok c1 r1 q.1, l c1 r1 Reps.nil q.2 (hp.after s1 f1)⟩⟩
def rS0 (C : Str → Prop) (g : Str → D) : DM := fun x xs M Q => match x, xs with | .str a, [] => C a ∧ Q (g a) M | _, _ => False
def rS1 (C : Str → Str → Prop) (g : Str → Str → D) : DM := fun x xs M Q => match x, xs with | .str a, [.str b] => C a b ∧ Q (g a b) M | _, _ => False
theorem l_s0 {C : Str → Prop} {g : Str → D} {h : Str → V} (e : ∀ F a, Rep K F (g a) (h a)) : LM K (fun x xs H Q => ∃ a, x = .str a ∧ xs = [] ∧ C a ∧ Q (h a) H) (rS0 C g) := by
  intro F H M d v ds vs Q0 Q c r rs h p
  unfold rS0 at h
  split at h
  · simp only [Rep, Reps] at r rs
    exact ⟨_, r, rs, h.1, p.val c h.2 (e F _)⟩
  · exact h.elim
theorem l_s1 {C : Str → Str → Prop} {g : Str → Str → D} {h : Str → Str → V} (e : ∀ F a b, Rep K F (g a b) (h a b)) : LM K (fun x xs H Q => ∃ a b, x = .str a ∧ xs = [.str b] ∧ C a b ∧ Q (h a b) H) (rS1 C g) := by
  intro F H M d v ds vs Q0 Q c r rs h p
  unfold rS1 at h
  split at h
  · obtain ⟨w, e1, e2⟩ := reps1 rs
    simp only [Rep] at r e2
    subst e1 e2
    exact ⟨_, _, r, rfl, h.1, p.val c h.2 (e F _ _)⟩
  · exact h.elim
theorem l_s1' {g : Str → Str → D} {h : Str → Str → V} (e : ∀ F a b, Rep K F (g a b) (h a b)) : LM K (fun x xs H Q => ∃ a b, x = .str a ∧ xs = [.str b] ∧ Q (h a b) H) (rS1 (fun _ _ => True) g) := by
  intro F H M d v ds vs Q0 Q c r rs q p
  obtain ⟨a, b, e1, e2, _, e3⟩ := l_s1 (C := fun _ _ => True) (h := h) e c r rs q p
  exact ⟨a, b, e1, e2, e3⟩
theorem de_lower {apos cpos : Pos} (ho : DE X a ta) (hbase : attributeBase a "lower" X.env (eval a X.env) = eval a X.env := by rfl) (hline : (apos.endLine == cpos.line) = true := by rfl) : DE X (.Call (.Attribute a "lower" apos) [] [] cpos) (dBM0 "str" (rS0 (fun a => a.length ≤ 5592405) fun a => .str (Txt.lower a)) ta) :=
  de_bm0 F.plainAttrs_str F.slot_str_lower F.type_str_lower mt_lower (l_s0 fun F a => by rw [Rep]) ho hbase hline
theorem de_upper {apos cpos : Pos} (ho : DE X a ta) (hbase : attributeBase a "upper" X.env (eval a X.env) = eval a X.env := by rfl) (hline : (apos.endLine == cpos.line) = true := by rfl) : DE X (.Call (.Attribute a "upper" apos) [] [] cpos) (dBM0 "str" (rS0 (fun a => a.length ≤ 5592405) fun a => .str (Txt.upper a)) ta) :=
  de_bm0 F.plainAttrs_str F.slot_str_upper F.type_str_upper mt_upper (l_s0 fun F a => by rw [Rep]) ho hbase hline
theorem de_scount {apos cpos : Pos} (ho : DE X a ta) (ha : DA X [b] tr) (hbase : attributeBase a "count" X.env (eval a X.env) = eval a X.env := by rfl) (hline : (apos.endLine == cpos.line) = true := by rfl) (hs : starEach [b] X.env = (false, eval b X.env) :: starEach [] X.env := by rfl) :
    DE X (.Call (.Attribute a "count" apos) [b] [] cpos) (dBM "str" (rS1 (fun _ _ => True) fun a b => .int (Txt.count a b)) ta tr) :=
  de_bm F.plainAttrs_str F.slot_str_count F.type_str_count mt_count (l_s1' fun F a b => by rw [Rep]) ho ha hbase (by rw [hs]; rfl) hline hs rfl
def rJoin : DM := fun x xs M Q => match x, xs with
  | .str a, [.tup ds] => ∃ ys : List Str, ds = ys.map D.str ∧ (ys.map (·.length)).sum + ys.length * a.length ≤ 16777216 ∧ Q (.str (Txt.join a ys)) M
  | .str a, [x] => ∃ ys : List Str, lstOf M x = some (ys.map D.str) ∧ (ys.map (·.length)).sum + ys.length * a.length ≤ 16777216 ∧ Q (.str (Txt.join a ys)) M
  | _, _ => False
theorem l_join : LM K (fun x xs H Q => ∃ a p, ∃ ys : List Str, x = .str a ∧ xs = [.ref p] ∧ (SqL K H p (ys.map V.str) ∨ SqT K H p (ys.map V.str)) ∧ (ys.map (·.length)).sum + ys.length * a.length ≤ 16777216 ∧ Q (.str (Txt.join a ys)) H) rJoin := by
  intro F H M d v ds vs Q0 Q c r rs h p
  unfold rJoin at h
  split at h
  · obtain ⟨w, e1, e2⟩ := reps1 rs
    simp only [Rep] at r e2
    obtain ⟨ys, e, h1, h2⟩ := h
    obtain ⟨x, vs, f1, f2, f3⟩ := e2
    subst e
    have := f3.strs
    subst e1 f1 this
    exact ⟨_, x, ys, r, rfl, .inr (sameT c.same f2), h1, p.str c h2⟩
  · obtain ⟨w, e1, e2⟩ := reps1 rs
    rw [Rep] at r
    obtain ⟨ys, g, h1, h2⟩ := h
    obtain ⟨x, vs, f1, f2, f3⟩ := lstOf_ok c e2 g
    have := f3.strs
    subst e1 f1 this
    exact ⟨_, x, ys, r, rfl, .inl f2, h1, p.str c h2⟩
  · exact h.elim
theorem de_join {apos cpos : Pos} (ho : DE X a ta) (ha : DA X [b] tr) (hbase : attributeBase a "join" X.env (eval a X.env) = eval a X.env := by rfl) (hline : (apos.endLine == cpos.line) = true := by rfl) (hs : starEach [b] X.env = (false, eval b X.env) :: starEach [] X.env := by rfl) :
    DE X (.Call (.Attribute a "join" apos) [b] [] cpos) (dBM "str" rJoin ta tr) :=
  de_bm F.plainAttrs_str F.slot_str_join F.type_str_join mt_join l_join ho ha hbase (by rw [hs]; rfl) hline hs rfl
/-- a list that M holds is written -/
theorem Post.put {F H : Hp} {M : Mp} {Q0 : DQ} {Q : VK} (p : Post K F H M Q0 Q) (c : Core K F H M) {x : Addr} {o : HO} {mo0 mo : MO} (h : M x = some mo0) (r : RepM K F mo o) {d : D} {v : V} (q : Q0 d (up M x mo)) (rd : Rep K F d v) : Q v (upd H x o) := by
  obtain ⟨c1, f1⟩ := c.write h r
  exact p _ _ _ _ _ q (Same.refl F) f1 c1 rd
theorem ptr_lst {F H : Hp} {M : Mp} {x : Addr} {ds : List D} (c : Core K F H M) (h : M x = some (.lst ds)) : ∃ vs, H x = some (.lst vs) ∧ Reps K F ds vs := by
  obtain ⟨_, o, ho, vs, e1, e2⟩ := c.mem x _ h
  subst e1
  exact ⟨vs, ho, e2⟩
def rAppend : DM := fun x xs M Q => match x, xs with
  | .ptr a, [y] => match M a with | some (.lst ds) => ds.length < sizeLine ∧ Q .non (up M a (.lst (ds ++ [y]))) | _ => False
  | _, _ => False
theorem l_append : LM K L2.rAppend rAppend := by
  intro F H M d v ds vs Q0 Q c r rs h p
  unfold rAppend at h
  split at h
  · split at h
    · rename_i xs g
      obtain ⟨w, e1, e2⟩ := reps1 rs
      rw [Rep] at r
      obtain ⟨ws, h1, h2⟩ := ptr_lst c g
      subst e1 r
      exact ⟨_, ws, w, rfl, rfl, h1, by rw [h2.len]; exact h.1, p.put (mo := .lst _) c g ⟨_, rfl, h2.app (Reps.one e2)⟩ h.2 (by rw [Rep])⟩
    · exact h.elim
  · exact h.elim
theorem de_append {apos cpos : Pos} (ho : DE X a ta) (ha : DA X [b] tr) (hbase : attributeBase a "append" X.env (eval a X.env) = eval a X.env := by rfl) (hline : (apos.endLine == cpos.line) = true := by rfl) (hs : starEach [b] X.env = (false, eval b X.env) :: starEach [] X.env := by rfl) :
    DE X (.Call (.Attribute a "append" apos) [b] [] cpos) (dBM "list" rAppend ta tr) :=
  de_bm F.plainAttrs_list F.slot_list_append F.type_list_append mt_append l_append ho ha hbase (by rw [hs]; rfl) hline hs rfl
def rPop : DM := fun x xs M Q => match x, xs with
  | .ptr a, [] => match M a with | some (.lst ds) => ∃ y, ds[ds.length - 1]? = some y ∧ Q y (up M a (.lst ds.dropLast)) | _ => False
  | _, _ => False
theorem l_pop : LM K L2.rPop rPop := by
  intro F H M d v ds vs Q0 Q c r rs h p
  unfold rPop at h
  split at h
  · split at h
    · rename_i xs g
      rw [Rep] at r
      rw [Reps] at rs
      obtain ⟨ws, h1, h2⟩ := ptr_lst c g
      obtain ⟨y, h3, h4⟩ := h
      obtain ⟨w, q1, q2⟩ := h2.get h3
      subst r rs
      exact ⟨_, ws, w, rfl, rfl, h1, by rw [h2.len]; exact q1, p.put (mo := .lst _) c g ⟨_, rfl, h2.dropLast⟩ h4 q2⟩
    · exact h.elim
  · exact h.elim
theorem de_pop {apos cpos : Pos} (ho : DE X a ta) (hbase : attributeBase a "pop" X.env (eval a X.env) = eval a X.env := by rfl) (hline : (apos.endLine == cpos.line) = true := by rfl) : DE X (.Call (.Attribute a "pop" apos) [] [] cpos) (dBM0 "list" rPop ta) :=
  de_bm0 F.plainAttrs_list F.slot_list_pop F.type_list_pop mt_pop l_pop ho hbase hline
/-! ### stores into lists -/
def dgSub (ta tb : DTE) : DTG := fun d env M Q => ta env M fun o M1 => tb env M1 fun i M2 => match o, i with
  | .ptr a, .int k => match M2 a with | some (.lst ds) => ∃ j, ixN ds.length k = some j ∧ Q env (up M2 a (.lst (ds.set j d))) | _ => False
  | _, _ => False
theorem dg_sub (ha : DE X a ta) (hb : DE X b tb) (hs : ∀ v, assign (.Subscript a b pos) X.env v = (do
      let ov ← holding [v] (eval a X.env)
      let iv ← holding [v, ov] (eval b X.env)
      standAt pos
      holding [v, ov, iv] (setItem ov iv v)
      release [v, ov, iv] []) := by intro _; rfl) : DG X (.Subscript a b pos) (dgSub ta tb) :=
  PG.imp (pg_sub ha hb set_list hs) fun v σ H Q ⟨F, env, M, d, Q0, he, hc, r, ht, hp⟩ => ⟨F, env, M, _, he, hc, ht, fun o M1 F1 H1 ov q s1 f1 c1 r1 => ⟨F1, env, M1, _, he.mono s1, c1, q, fun i M2 F2 H2 iv q2 s2 f2 c2 r2 => by
    revert q2
    dsimp only
    split <;> intro q2
    · rename_i a k
      split at q2
      · rename_i ds g
        obtain ⟨j, h1, h2⟩ := q2
        simp only [Rep] at r1 r2
        obtain ⟨ws, g1, g2⟩ := ptr_lst c2 g
        subst r1 r2
        have r0 := (r.mono s1).mono s2
        obtain ⟨c3, f3⟩ := c2.write (o := .lst (ws.set j v)) (mo := .lst (ds.set j d)) g ⟨_, rfl, Reps.set r0 j g2⟩
        exact ⟨a, ws, k, j, rfl, rfl, g1, by rw [g2.len]; exact h1, hp _ _ _ _ _ h2 (s1.trans s2) ((f1.trans f2).trans f3) c3 ((he.mono s1).mono s2)⟩
      · exact q2.elim
    · exact q2.elim⟩⟩
/-! ### name op= e -/
def dAug (i : Nat) (ta : DTE) (rd : D2) : DTS := fun E env M => match env[i]? with
  | some (some x) => ta env M fun y M1 => rd x y M1 fun z M2 => E.nx (env.set i (some z)) M2
  | _ => False
theorem ds_aug {i : Nat} {x : Str} {op : Operator} {r : R2} {rd : D2} {pos' : Pos} (hN : X.N.Nodup) (he : DE X e ta) (ho : OpR X (inplaceOp op) r) (l : LR2 X.K r rd) (hi : X.N[i]? = some x := by rfl) (hx : Loc X.env.scope x := by first | exact Or.inl rfl | exact Or.inr rfl) (hf : X.fn x = true ∨ X.env.scope.names.lookup x = some .local := by first | exact .inl rfl | exact .inr rfl | assumption) :
    DS X (.AugAssign (.Name x pos') op e pos) (dAug i ta rd) := PS.imp (ps_aug (ti := r) hN hi hx he (fun pins s σ H x y v u Q I rx ry q => ho pins s σ H x y v u Q I rx ry q) hf) fun E σ H ⟨F, env, M, D0, he, hc, ht, hp⟩ => by
    unfold dAug at ht
    split at ht
    · rename_i d g
      obtain ⟨v, e1, r1⟩ := he.2 i d g
      exact ⟨v, e1, F, env, M, _, he, hc, ht, fun y M1 F1 H1 w q s1 f1 c1 r2 => l c1 (r1.mono s1) r2 q fun z M2 F2 H2 u q2 s2 f2 c2 r3 => hp.nx _ M2 F2 H2 _ q2 (s1.trans s2) (f1.trans f2) c2 (((he.mono s1).mono s2).set i r3)⟩
    · exact ht.elim
theorem l_iadd : LR2 K (fun x y H Q => (rI0 fun i j => .int (i + j)) x y H Q ∨ rStrs x y H Q) (fun x y M Q => match x, y with | .int i, .int j => Q (.int (i + j)) M | .str i, .str j => i.length + j.length ≤ sizeLine ∧ Q (.str (i ++ j)) M | _, _ => False) := by
  intro F H M d e v w Q0 Q c r1 r2 h p
  split at h
  · simp only [Rep] at r1 r2
    exact .inl ⟨_, _, r1, r2, p.int c h⟩
  · simp only [Rep] at r1 r2
    exact .inr ⟨_, _, r1, r2, h.1, p.str c h.2⟩
  · exact h.elim
theorem o_iadd : OpR X (inplaceOp .Add) (fun x y H Q => (rI0 fun i j => .int (i + j)) x y H Q ∨ rStrs x y H Q) := iop_add.or iop_add_str
end
end DL
namespace DL
open PySem PySem.Spec PyProof.Rows L2
/-- what is wanted of an exception: its class, its fields -/
abbrev DX := Value → List (Str × D) → Mp → Prop
abbrev DSp := List D → Mp → DQ → DX → Prop
def PostX (K : PySem.W.Frag) (F H : Hp) (M : Mp) (Q0 : DX) (Q : XK) : Prop := ∀ c fs M' F' H' dd vs, Q0 c fs M' → Same F F' → Fr F H M F' H' M' → CoreP K F' H' M' → F' dd = some (.xd vs) → RepF K F' fs vs → Q c (some dd) H'
theorem PostX.after {K : PySem.W.Frag} {F H F1 H1 : Hp} {M M1 : Mp} {Q0 : DX} {Q : XK} (p : PostX K F H M Q0 Q) (s : Same F F1) (f : Fr F H M F1 H1 M1) : PostX K F1 H1 M1 Q0 Q := fun c fs M' F' H' dd vs q s' f' c' h r => p c fs M' F' H' dd vs q (s.trans s') (f.trans f') c' h r
/-- .. for a call: nothing but the heaps is kept -/
def PostP (K : PySem.W.Frag) (F H : Hp) (M : Mp) (Q0 : DQ) (Q : VK) : Prop := ∀ d M' F' H' v, Q0 d M' → Same F F' → Fr F H M F' H' M' → CoreP K F' H' M' → Rep K F' d v → Q v H'
theorem Post.plain {K : PySem.W.Frag} {G : GI K} {F H : Hp} {M : Mp} {Q0 : DQ} {Q : VK} (p : Post K F H M Q0 Q) (c : Core K F H M) : PostP K F H M Q0 Q := fun d M' F' H' v q s f c' r => p d M' F' H' v q s f (c.to c' s f) r
def lSp (K : PySem.W.Frag) (sp : DSp) : Sp := fun vs H Q E => ∃ F M ds Q0 E0, CoreP K F H M ∧ Reps K F ds vs ∧ sp ds M Q0 E0 ∧ PostP K F H M Q0 Q ∧ PostX K F H M E0 E
def noX : DX := fun _ _ _ => False
theorem postX0 {K : PySem.W.Frag} {F H : Hp} {M : Mp} {Q : XK} : PostX K F H M noX Q := fun _ _ _ _ _ _ _ q => q.elim
section
variable {X : Cx} {GX : GI X.K} {K : PySem.W.Frag} {G : GI K} {a b c e : Expr} {es : List Expr} {ta tb tc : DTE} {pos p : Pos} {tt : DTT} {tr tk : DTA} {k : Nat} {f : Addr} {fd : FuncData} {ps ks : List Str} {sp : DSp} {x : Str}
/-- f(e, ..); nothing is raised out of f -/
def dCall (sp : DSp) (tr : DTA) : DTE := fun env M Q => tr env M fun ds M1 => sp ds M1 Q noX
theorem l_call : ∀ σ H Q, lE K (dCall sp tr) σ H Q → tCall (lSp K sp) [] E0 (lA K tr) σ H Q := fun σ H Q ⟨F, env, M, Q0, he, hc, ht, hp⟩ =>
  ⟨F, env, M, _, he, hc, ht, fun ds M1 F1 H1 vs q s1 f1 c1 r1 => by
    show lSp K sp (vs ++ []) H1 Q E0
    rw [List.append_nil]
    exact ⟨F1, M1, ds, Q0, noX, c1.toCoreP, r1, q, (hp.after s1 f1).plain c1, postX0⟩⟩
theorem de_call (G : FnOk X.prog X.w X.K X.mg X.base CX0 k f fd ps (lSp X.K sp)) (hr : Room k X.A) (hm : X.mg x = some (.ref f)) (hk : PySem.W.keepIn X.K (.ref f) = true) (hb : Binds X.K fd ps []) (ha : DA X (e :: es) tr) (hg : Gl X x := by rfl)
    (hdb : (x == ("__debug__" : Str)) = false := by decide) (he : starEach (e :: es) X.env = (false, eval e X.env) :: starEach es X.env := by rfl) (hpl : (backTo pos (starEach es X.env)).any (·.1) = false := by rfl) : DE X (.Call (.Name x p) (e :: es) [] pos) (dCall sp tr) :=
  PE.imp (pe_call G hr hg hm hk hb .nil pass0 ha hdb he hpl) l_call
theorem de_call0 (G : FnOk X.prog X.w X.K X.mg X.base CX0 k f fd ps (lSp X.K sp)) (hr : Room k X.A) (hm : X.mg x = some (.ref f)) (hk : PySem.W.keepIn X.K (.ref f) = true) (hb : Binds X.K fd ps []) (hg : Gl X x := by rfl)
    (hdb : (x == ("__debug__" : Str)) = false := by decide) : DE X (.Call (.Name x p) [] [] pos) (dCall sp dNil) :=
  PE.imp (pe_call0 G hr hg hm hk hb .nil pass0 hdb) fun σ H Q ⟨F, env, M, Q0, he, hc, ht, hp⟩ => ⟨F, M, [], Q0, noX, hc.toCoreP, Reps.nil, ht, hp.plain hc, postX0⟩
/-- keywords: gV puts the values in the parameters' order -/
structure GD (gV : List V → List V → List V) (gD : List D → List D → List D) : Prop where
  rep : ∀ {K : PySem.W.Frag} {F : Hp} {ds es : List D} {vs ws : List V}, Reps K F ds vs → Reps K F es ws → Reps K F (gD ds es) (gV vs ws)
def dCallK (sp : DSp) (gD : List D → List D → List D) (tr tk : DTA) : DTE := fun env M Q => tr env M fun ds M1 => tk env M1 fun es M2 => sp (gD ds es) M2 Q noX
abbrev DK (X : Cx) [GI X.K] (kws : List Keyword) (t : DTA) : Prop := PK X kws (lA X.K t)
theorem dk_nil : DK X [] dNil := ⟨fun pos pins s σ H Q I ⟨F, env, M, Q0, he, hc, ht, hp⟩ => pk_nil.run pos pins s σ H Q I (hp [] M F H [] ht (Same.refl F) Fr.refl hc Reps.nil)⟩
theorem dk_cons {kws : List Keyword} {nm : Option Str} {kpos : Pos} (ha : DE X e ta) (hr : DK X kws tr) : DK X (⟨nm, e, kpos⟩ :: kws) (dCons ta tr) := ⟨fun pos pins s σ H Q I ⟨F, env, M, Q0, he, hc, ht, hp⟩ =>
  (pk_cons ha hr).run pos pins s σ H Q I ⟨F, env, M, _, he, hc, ht, fun d M1 F1 H1 v q s1 f1 c1 r1 => ⟨F1, env, M1, _, he.mono s1, c1, q, fun ds M2 F2 H2 vs q2 s2 f2 c2 r2 =>
    hp _ M2 F2 H2 _ q2 (s1.trans s2) (f1.trans f2) c2 (Reps.cons (r1.mono s2) r2)⟩⟩⟩
theorem de_callK {kws : List Keyword} {g : List Value → List Value → List Value} {gV : List V → List V → List V} {gD : List D → List D → List D} (G : FnOk X.prog X.w X.K X.mg X.base CX0 k f fd ps (lSp X.K sp)) (hr : Room k X.A) (hm : X.mg x = some (.ref f)) (hk : PySem.W.keepIn X.K (.ref f) = true) (hb : KBinds X.K fd ps ks g gV) (hgd : GD gV gD)
    (ha : DA X (e :: es) tr) (hkw : DK X kws tk) (hg : Gl X x := by rfl) (hall : (backToKw pos (keywordEach kws X.env)).all (·.1.isSome) = true := by rfl) (hks : (backToKw pos (keywordEach kws X.env)).filterMap (·.1) = ks := by rfl)
    (hdb : (x == ("__debug__" : Str)) = false := by decide) (he : starEach (e :: es) X.env = (false, eval e X.env) :: starEach es X.env := by rfl)
    (hpl : ((backTo pos (starEach (e :: es) X.env)).any (·.1) || (backToKw pos (keywordEach kws X.env)).any (·.1.isNone)) = false := by rfl) : DE X (.Call (.Name x p) (e :: es) kws pos) (dCallK sp gD tr tk) :=
  PE.imp (pe_callK G hr hg hm hk hb pass0 ha hkw hall hks hdb he hpl) fun σ H Q ⟨F, env, M, Q0, he, hc, ht, hp⟩ =>
    ⟨F, env, M, _, he, hc, ht, fun ds M1 F1 H1 vs q s1 f1 c1 r1 => ⟨F1, env, M1, _, he.mono s1, c1, q, fun es M2 F2 H2 ws q2 s2 f2 c2 r2 =>
      ⟨F2, M2, _, Q0, noX, c2.toCoreP, hgd.rep (r1.mono s2) r2, q2, ((hp.after s1 f1).after s2 f2).plain c2, postX0⟩⟩⟩
end
/-! ### a def's body -/
def startD (N : List Str) (ds : List D) : DSt := ds.map some ++ List.replicate (N.length - ds.length) none
theorem start_env {K : PySem.W.Frag} {F : Hp} {N : List Str} {ds : List D} {vs : List V} (r : Reps K F ds vs) : EnvR K F (L2.start N vs) (startD N ds) := by
  have hl := r.len
  refine ⟨by simp [L2.start, startD, hl], fun i d h => ?_⟩
  unfold startD at h
  unfold L2.start
  by_cases hi : i < ds.length
  · rw [List.getElem?_append_left (by simpa using hi)] at h
    rw [List.getElem?_append_left (by simpa [hl] using hi)]
    simp only [List.getElem?_map, Option.map_eq_some_iff] at h
    obtain ⟨d', e1, e2⟩ := h
    cases e2
    obtain ⟨v, e3, e4⟩ := r.get e1
    exact ⟨v, by simp [e3], e4⟩
  · rw [List.getElem?_append_right (by simpa using hi)] at h
    rw [List.getElem?_replicate] at h
    split at h <;> cases h
/-- what is told at the end: the frame's own objects are forgotten or frozen -/
def Wk (K : PySem.W.Frag) (d : D) (M : Mp) (d0 : D) (M0 : Mp) : Prop := ∀ {F H : Hp} {v : V}, CoreP K F H M → Rep K F d v → ∃ F', Same F F' ∧ CoreP K F' H M0 ∧ Fr F H M F' H M0 ∧ Rep K F' d0 v
def Fin (K : PySem.W.Frag) (Q : DQ) : DQ := fun d M => ∃ d0 M0, Wk K d M d0 M0 ∧ Q d0 M0
def Sub (M0 M : Mp) : Prop := ∀ a mo, M0 a = some mo → M a = some mo
theorem Sub.refl {M : Mp} : Sub M M := fun _ _ h => h
theorem Sub.up {M0 M : Mp} (h : Sub M0 M) {a : Addr} {o : MO} (n : M0 a = none) : Sub M0 (up M a o) := fun b mo e => by
  rw [up_ne fun z => by rw [z, n] at e; cases e]; exact h b mo e
theorem Sub.up2 {M0 M : Mp} (h : Sub M0 M) {a : Addr} {o : MO} : Sub (DL.up M0 a o) (DL.up M a o) := fun b mo e => by
  by_cases hb : b = a
  · subst hb; rw [up_same] at e ⊢; exact e
  · rw [up_ne hb] at e ⊢; exact h b mo e
theorem Sub.rm {M0 M : Mp} (h : Sub M0 M) {a : Addr} (n : M0 a = none) : Sub M0 (rm M a) := fun b mo e => by
  have : b ≠ a := fun z => by rw [z, n] at e; cases e
  simp [DL.rm, this]; exact h b mo e
section
variable {K : PySem.W.Frag} {d : D} {M M0 : Mp} {Q : DQ}
theorem sub_none {M0 M : Mp} (h : Sub M0 M) {a : Addr} (n : M a = none) : M0 a = none := by
  cases e : M0 a with
  | none => rfl
  | some mo => rw [h a mo e] at n; cases n
theorem wk_drop (h : Sub M0 M) : Wk K d M d M0 := fun {F H v} c r => ⟨F, Same.refl F, c.drop h, fun a o e n => ⟨e, sub_none h n, fun z => z⟩, r⟩
theorem Fin.drop (h : Sub M0 M) (q : Q d M0) : Fin K Q d M := ⟨d, M0, wk_drop h, q⟩
theorem Fin.same (q : Q d M) : Fin K Q d M := Fin.drop Sub.refl q
theorem Fin.frz {a : Addr} {ds : List D} (h : M a = some (.lst ds)) (n : M0 a = none) (hs : Sub M0 M) (q : Q (.lst ds) M0) : Fin K Q (.ptr a) M := by
  refine ⟨.lst ds, M0, fun {F H v} c r => ?_, q⟩
  obtain ⟨o, r1, c1, s1, f1⟩ := c.freeze h
  obtain ⟨vs, e1, e2⟩ := r1
  subst e1
  rw [Rep] at r
  exact ⟨_, s1, c1.drop (hs.rm n), fun b o e nb => ⟨e, sub_none hs nb, (f1 b o e nb).2.2⟩, by rw [Rep]; exact ⟨a, vs, r, upd_same, e2.mono s1⟩⟩
theorem Fin.frzI {a C : Addr} {ds : List (Str × D)} (h : M a = some (.ins C ds)) (n : M0 a = none) (hs : Sub M0 M) (q : Q (.obj C ds) M0) : Fin K Q (.ptr a) M := by
  refine ⟨.obj C ds, M0, fun {F H v} c r => ?_, q⟩
  obtain ⟨o, r1, c1, s1, f1⟩ := c.freeze h
  obtain ⟨dx, vs, e1, e2⟩ := r1
  subst e1
  rw [Rep] at r
  exact ⟨_, s1, c1.drop (hs.rm n), fun b o e nb => ⟨e, sub_none hs nb, (f1 b o e nb).2.2⟩, by rw [Rep]; exact ⟨a, dx, vs, r, upd_same, e2.mono s1⟩⟩
end
theorem post_fin {K : PySem.W.Frag} {G : GI K} {F H : Hp} {M : Mp} {Q0 : DQ} {Q : VK} (p : Post K F H M Q0 Q) : Post K F H M (Fin K Q0) Q := fun d M' F' H' v ⟨d0, M0, w, q⟩ s f c r => by
  obtain ⟨F2, s2, c2, f2, r2⟩ := w c.toCoreP r
  exact p d0 M0 F2 H' v q (s.trans s2) (f.trans f2) (c.to c2 s2 f2) r2
def bodyE (K : PySem.W.Frag) (Q : DQ) : DEnds := { nx := fun _ M => Fin K Q .non M, rt := Fin K Q }
theorem fin_ok {K : PySem.W.Frag} {G : GI K} {F H : Hp} {M : Mp} {Q0 : DQ} {Q : VK} (p : Post K F H M Q0 Q) : PostS K F H M (bodyE K Q0) { nx := fun _ H' => Q .non H', rt := Q } :=
  ⟨fun env M' F' H' σ q s f c r => post_fin p .non M' F' H' .non q s f c (by rw [Rep]), post_fin p, fun _ _ _ _ _ q => q.elim, fun _ _ _ _ _ q => q.elim⟩
/-- the entry state is kept -/
abbrev entryG (K : PySem.W.Frag) (F0 H0 : Hp) (M0 : Mp) : GI K := ⟨fun F H M => Same F0 F ∧ Fr F0 H0 M0 F H M, fun ⟨a, b⟩ s f => ⟨a.trans s, b.trans f⟩⟩
theorem PostP.post {K : PySem.W.Frag} {G : GI K} {F H : Hp} {M : Mp} {Q0 : DQ} {Q : VK} (p : PostP K F H M Q0 Q) : Post K F H M Q0 Q := fun d M' F' H' v q s f c r => p d M' F' H' v q s f c.toCoreP r
end DL
namespace DL
open PySem PySem.Spec PyProof.Rows L2
/-- no name of a built-in is hidden -/
structure NB (mg : Str → Option Value) : Prop where
  len : mg "len" = none
  int : mg "int" = none
  range : mg "range" = none
  list : mg "list" = none
  tuple : mg "tuple" = none
  str : mg "str" = none
  bool : mg "bool" = none
  abs : mg "abs" = none
  sum : mg "sum" = none
  all : mg "all" = none
  any : mg "any" = none
  max : mg "max" = none
  min : mg "min" = none
  sorted : mg "sorted" = none
  zip : mg "zip" = none
  enumerate : mg "enumerate" = none
  isinstance : mg "isinstance" = none
  repr : mg "repr" = none
  dict : mg "dict" = none
  super : mg "super" = none
  type : mg "type" = none
/-- a def that is called: where it stands, its promise -/
structure Cal (P : Program) (w : World) (K : PySem.W.Frag) (mg : Str → Option Value) (base : Heap) (k : Nat) (x : Str) (ps : List Str) (sp : DSp) (f : Addr) (fd : FuncData) : Prop where
  fn : FnOk P w K mg base CX0 k f fd ps (lSp K sp)
  g : mg x = some (.ref f)
  kp : PySem.W.keepIn K (.ref f) = true
  b : Binds K fd ps []
abbrev CMulA (i j : Int) : Prop := CMul i j ∨ CMulW i j
abbrev CDivA (i j : Int) : Prop := CDivN i j ∨ CDivW i j
abbrev rMul : D2 := rInt2 CMulA fun i j => i * j
abbrev rFdiv : D2 := rInt2 CDivA Int.fdiv
abbrev rMod : D2 := rInt2 (fun _ j => j ≠ 0) Int.fmod
abbrev rPow : D2 := rInt2 CPow fun i j => i ^ j.toNat
def rIadd : D2 := fun x y M Q => match x, y with | .int i, .int j => Q (.int (i + j)) M | .str i, .str j => i.length + j.length ≤ sizeLine ∧ Q (.str (i ++ j)) M | _, _ => False
abbrev rLower : DM := rS0 (fun a => a.length ≤ 5592405) fun a => .str (Txt.lower a)
abbrev rUpper : DM := rS0 (fun a => a.length ≤ 5592405) fun a => .str (Txt.upper a)
abbrev rScount : DM := rS1 (fun _ _ => True) fun a b => .int (Txt.count a b)
theorem Room.unitsI {k : Nat} {A : Around} (r : Room k A) : A.units + 65 < cLine := by have := r.un; omega
section
variable {X : Cx} {GX : GI X.K} {K : PySem.W.Frag} {G : GI K} {a b c e : Expr} {es : List Expr} {ta tb tc : DTE} {pos p : Pos} {tt : DTT} {tr tk : DTA} {k : Nat} {f : Addr} {fd : FuncData} {ps ks : List Str} {sp : DSp} {x : Str}
theorem de_callC (G : Cal X.prog X.w X.K X.mg X.base k x ps sp f fd) (hr : Room k X.A) (ha : DA X (e :: es) tr) (hg : Gl X x := by rfl)
    (hdb : (x == ("__debug__" : Str)) = false := by decide) (he : starEach (e :: es) X.env = (false, eval e X.env) :: starEach es X.env := by rfl) (hpl : (backTo pos (starEach es X.env)).any (·.1) = false := by rfl) : DE X (.Call (.Name x p) (e :: es) [] pos) (dCall sp tr) :=
  de_call G.fn hr G.g G.kp G.b ha hg hdb he hpl
theorem de_callC0 (G : Cal X.prog X.w X.K X.mg X.base k x ps sp f fd) (hr : Room k X.A) (hg : Gl X x := by rfl) (hdb : (x == ("__debug__" : Str)) = false := by decide) : DE X (.Call (.Name x p) [] [] pos) (dCall sp dNil) := de_call0 G.fn hr G.g G.kp G.b hg hdb
theorem o_mulA : OpR X (binaryOp .Mult) (rI CMulA fun i j => .int (i * j)) := by
  intro pins s σ H x y v u Q I rx ry q
  obtain ⟨i, j, e1, e2, h | h, q⟩ := q
  · exact op_mul pins s σ H x y v u Q I rx ry ⟨i, j, e1, e2, h, q⟩
  · exact op_mulW pins s σ H x y v u Q I rx ry ⟨i, j, e1, e2, h, q⟩
theorem o_fdivA : OpR X (binaryOp .FloorDiv) (rI CDivA fun i j => .int (i.fdiv j)) := by
  intro pins s σ H x y v u Q I rx ry q
  obtain ⟨i, j, e1, e2, h | h, q⟩ := q
  · exact op_fdivN pins s σ H x y v u Q I rx ry ⟨i, j, e1, e2, h, q⟩
  · refine op_fdivW pins s σ H x y v u Q I rx ry ⟨i, j, e1, e2, h, ?_⟩
    show Q (.int (i / j)) H
    rw [← Int.fdiv_eq_ediv_of_nonneg i (Int.le_of_lt h.1)]
    exact q
theorem de_mulA (ha : DE X a ta) (hb : DE X b tb) : DE X (.BinOp a .Mult b pos) (dOp rMul ta tb) := de_op o_mulA l_int ha hb
theorem de_fdivA (ha : DE X a ta) (hb : DE X b tb) : DE X (.BinOp a .FloorDiv b pos) (dOp rFdiv ta tb) := de_op o_fdivA l_int ha hb
/-! ### order -/
abbrev rLt : D2 := rOrd (fun i j => decide (i < j)) (fun i j => decide (i.cps.toList < j.cps.toList)) (fun _ _ => false)
abbrev rLe : D2 := rOrd (fun i j => decide (i ≤ j)) (fun i j => !decide (j.cps.toList < i.cps.toList)) (fun _ _ => false)
abbrev rGt : D2 := rOrd (fun i j => decide (j < i)) (fun i j => decide (j.cps.toList < i.cps.toList)) (fun _ _ => false)
abbrev rGe : D2 := rOrd (fun i j => decide (j ≤ i)) (fun i j => !decide (i.cps.toList < j.cps.toList)) (fun _ _ => false)
theorem o_lt : OpR X (compareOp .Lt) (fun x y H Q => (rI0 fun i j => .bl (decide (i < j))) x y H Q ∨ (∃ i j, x = .str i ∧ y = .str j ∧ Q (.bl (decide (i.cps.toList < j.cps.toList))) H)) := op_lt.or op_lt_str
theorem o_le : OpR X (compareOp .LtE) (fun x y H Q => (rI0 fun i j => .bl (decide (i ≤ j))) x y H Q ∨ (∃ i j, x = .str i ∧ y = .str j ∧ Q (.bl (!decide (j.cps.toList < i.cps.toList))) H)) := op_le.or op_le_str
theorem o_gt : OpR X (compareOp .Gt) (fun x y H Q => (rI0 fun i j => .bl (decide (j < i))) x y H Q ∨ (∃ i j, x = .str i ∧ y = .str j ∧ Q (.bl (decide (j.cps.toList < i.cps.toList))) H)) := op_gt.or op_gt_str
theorem o_ge : OpR X (compareOp .GtE) (fun x y H Q => (rI0 fun i j => .bl (decide (j ≤ i))) x y H Q ∨ (∃ i j, x = .str i ∧ y = .str j ∧ Q (.bl (!decide (i.cps.toList < j.cps.toList))) H)) := op_ge.or op_ge_str
theorem l_lt : LR2 K (fun x y H Q => (rI0 fun i j => .bl (decide (i < j))) x y H Q ∨ (∃ i j, x = .str i ∧ y = .str j ∧ Q (.bl (decide (i.cps.toList < j.cps.toList))) H)) rLt := l_ord
theorem l_le : LR2 K (fun x y H Q => (rI0 fun i j => .bl (decide (i ≤ j))) x y H Q ∨ (∃ i j, x = .str i ∧ y = .str j ∧ Q (.bl (!decide (j.cps.toList < i.cps.toList))) H)) rLe := l_ord
theorem l_gt : LR2 K (fun x y H Q => (rI0 fun i j => .bl (decide (j < i))) x y H Q ∨ (∃ i j, x = .str i ∧ y = .str j ∧ Q (.bl (decide (j.cps.toList < i.cps.toList))) H)) rGt := l_ord
theorem l_ge : LR2 K (fun x y H Q => (rI0 fun i j => .bl (decide (j ≤ i))) x y H Q ∨ (∃ i j, x = .str i ∧ y = .str j ∧ Q (.bl (!decide (i.cps.toList < j.cps.toList))) H)) rGe := l_ord
/-! ### in -/
def strIn (s z : Str) : Bool := !(Builtin.Str.occurrences z s 0 z.length 1).isEmpty
theorem strIn_sign (c : Nat) (z : Str) : strIn ⟨#[c]⟩ z = decide (c ∈ z.cps.toList) := PySem.StrLaws.found_one z c
def flatD : D → Bool
  | .non => true
  | .bl _ => true
  | .int _ => true
  | .str _ => true
  | _ => false
def rInD (neg : Bool) : D2 := fun x y M Q => match y with
  | .str z => match x with | .str s => Q (.bl (neg ^^ strIn s z)) M | _ => False
  | .tup ds => (flatD x = true ∧ ds.all flatD = true) ∧ Q (.bl (neg ^^ ds.any fun z => D.eqv z x)) M
  | y => match lstOf M y with
    | some ds => if (flatD x && ds.all flatD) = true then Q (.bl (neg ^^ ds.any fun z => D.eqv z x)) M else (rs M x).ok = true ∧ (D.lst ds).ok = true ∧ Q (.bl (neg ^^ ds.any fun z => D.eqv z (rs M x))) M
    | none => False
theorem flat_v {F : Hp} {d : D} {v : V} (r : Rep K F d v) (h : flatD d = true) : flatV v = true := by
  cases d <;> first | (simp [flatD] at h; done) | (simp only [Rep] at r; subst r; rfl)
theorem flat_eqv {F F' : Hp} {d e : D} {v w : V} (r : Rep K F d v) (r' : Rep K F' e w) (h : flatD d = true) (h' : flatD e = true) : eqV v w = D.eqv d e := by
  cases d <;> first | (simp [flatD] at h; done) | skip
  all_goals cases e <;> first | (simp [flatD] at h'; done) | skip
  all_goals
    simp only [Rep] at r r'
    subst r r'
    simp [eqV, D.eqv, D.py, PyData.eqv]
theorem flat_all {F : Hp} : ∀ {ds : List D} {vs : List V}, Reps K F ds vs → ds.all flatD = true → vs.all flatV = true
  | [], vs, r, _ => by rw [Reps] at r; subst r; rfl
  | d :: ds, vs, r, h => by
    rw [Reps] at r
    obtain ⟨v, w, e1, e2, e3⟩ := r
    subst e1
    rw [List.all_cons, Bool.and_eq_true] at h ⊢
    exact ⟨flat_v e2 h.1, flat_all e3 h.2⟩
theorem flat_any {F F' : Hp} {x : D} {u : V} (rx : Rep K F' x u) (hx : flatD x = true) : ∀ {ds : List D} {vs : List V}, Reps K F ds vs → ds.all flatD = true → inV u vs = ds.any fun z => D.eqv z x
  | [], vs, r, _ => by rw [Reps] at r; subst r; rfl
  | d :: ds, vs, r, h => by
    rw [Reps] at r
    obtain ⟨v, w, e1, e2, e3⟩ := r
    subst e1
    rw [List.all_cons, Bool.and_eq_true] at h
    have ih := flat_any rx hx e3 h.2
    unfold inV at ih ⊢
    rw [List.any_cons, List.any_cons, ih, flat_eqv e2 rx h.1 hx]
theorem pys_map : ∀ ds : List D, D.pys ds = ds.map D.py
  | [] => by rw [D.pys]; rfl
  | d :: ds => by rw [D.pys, pys_map ds]; rfl
abbrev rInA (K : PySem.W.Frag) (neg : Bool) : R2 := fun x y H Q => (∃ i j, x = .str i ∧ y = .str j ∧ Q (.bl (neg ^^ strIn i j)) H) ∨ (rIn K neg x y H Q ∨ (∃ d ds, Dp K H x d ∧ Dp K H y (.list ds) ∧ SeqAt.shaped d = true ∧ SeqAt.shaped (.list ds) = true ∧ Q (.bl (neg ^^ ds.any fun z => PyData.eqv z d)) H))
theorem l_inA {neg : Bool} : LR2 K (rInA K neg) (rInD neg) := by
  intro F H M d e v w Q0 Q c r1 r2 h p
  unfold rInD at h
  have eqb : ∀ b : Bool, (if neg = true then !b else b) = (neg ^^ b) := fun b => by cases neg <;> cases b <;> rfl
  split at h
  · split at h
    · simp only [Rep] at r1 r2
      exact .inl ⟨_, _, r1, r2, p.bl c h⟩
    · exact h.elim
  · rename_i ds
    obtain ⟨⟨h1, h2⟩, h3⟩ := h
    rw [Rep] at r2
    obtain ⟨a, vs, e1, e2, e3⟩ := r2
    subst e1
    refine .inr (.inl ⟨a, vs, rfl, .inr (sameT c.same e2), flat_v r1 h1, flat_all e3 h2, ?_⟩)
    rw [flat_any r1 h1 e3 h2, eqb]
    exact p.bl c h3
  · split at h
    · rename_i ds g
      obtain ⟨a, vs, e1, e2, e3⟩ := lstOf_ok c r2 g
      subst e1
      split at h
      · rename_i hf
        rw [Bool.and_eq_true] at hf
        refine .inr (.inl ⟨a, vs, rfl, .inl e2, flat_v r1 hf.1, flat_all e3 hf.2, ?_⟩)
        rw [flat_any r1 hf.1 e3 hf.2, eqb]
        exact p.bl c h
      · obtain ⟨h1, h2, h3⟩ := h
        obtain ⟨a1, a2⟩ := ok2 h1
        obtain ⟨b1, b2⟩ := ok2 h2
        rw [D.pl] at b1
        rw [D.py] at b2
        refine .inr (.inr ⟨_, _, Rep.dp _ _ (rs_ok c r1) a1, .lst e2 (Reps.dp _ _ (e3.mono c.same) b1), a2, b2, ?_⟩)
        rw [pys_map, List.any_map]
        exact p.bl c h3
    · exact h.elim
theorem l_in : LR2 K (rInA K false) (rInD false) := l_inA
theorem l_nin : LR2 K (rInA K true) (rInD true) := l_inA
theorem OpR.imp {f : Value → Value → Sem Value} {r r' : R2} (h : OpR X f r) (i : ∀ x y H Q, r' x y H Q → r x y H Q) : OpR X f r' := fun pins s σ H x y v u Q I rx ry q => h pins s σ H x y v u Q I rx ry (i x y H Q q)
theorem o_in (hu : X.A.units + 65 < cLine) : OpR X (compareOp .In) (rInA X.K false) := OpR.imp (op_in_str.or (op_in_seq.or (op_inD hu))) fun x y H Q q => by
  rcases q with ⟨i, j, e1, e2, q⟩ | q | ⟨d, ds, e1, e2, e3, e4, q⟩
  · exact .inl ⟨i, j, e1, e2, by rw [Bool.false_xor] at q; exact q⟩
  · exact .inr (.inl q)
  · exact .inr (.inr ⟨d, ds, e1, e2, e3, e4, by rw [Bool.false_xor] at q; exact q⟩)
theorem o_nin (hu : X.A.units + 65 < cLine) : OpR X (compareOp .NotIn) (rInA X.K true) := OpR.imp (op_notIn_str.or (op_notIn_seq.or (op_notInD hu))) fun x y H Q q => by
  rcases q with ⟨i, j, e1, e2, q⟩ | q | ⟨d, ds, e1, e2, e3, e4, q⟩
  · exact .inl ⟨i, j, e1, e2, by rw [Bool.true_xor] at q; exact q⟩
  · exact .inr (.inl q)
  · exact .inr (.inr ⟨d, ds, e1, e2, e3, e4, by rw [Bool.true_xor] at q; exact q⟩)
/-! ### chains -/
def dChain (r r' : D2) (ta tb tc : DTE) : DTE := fun env M Q => ta env M fun x M1 => tb env M1 fun y M2 => r x y M2 fun z M3 => match z with
  | .bl k => if k = true then tc env M3 fun w M4 => r' y w M4 Q else Q (.bl false) M3
  | _ => False
theorem l_chain {r r' : R2} {rd rd' : D2} (l : LR2 K r rd) (l' : LR2 K r' rd') : ∀ σ H Q, lE K (dChain rd rd' ta tb tc) σ H Q → tChain r r' (lE K ta) (lE K tb) (lE K tc) σ H Q := fun σ H Q ⟨F, env, M, Q0, he, hc, ht, hp⟩ =>
  ⟨F, env, M, _, he, hc, ht, fun d M1 F1 H1 v q s1 f1 c1 r1 => ⟨F1, env, M1, _, he.mono s1, c1, q, fun d' M2 F2 H2 v' q2 s2 f2 c2 r2 =>
    l c2 (r1.mono s2) r2 q2 fun z M3 F3 H3 u q3 s3 f3 c3 r3 => by
      revert q3
      split <;> intro q3
      · rename_i k
        rw [Rep] at r3
        refine ⟨k, r3, ?_⟩
        have hp3 := ((hp.after s1 f1).after s2 f2).after s3 f3
        cases k with
        | false => exact hp3.bl c3 q3
        | true =>
          rw [if_pos rfl] at q3 ⊢
          exact ⟨F3, env, M3, _, ((he.mono s1).mono s2).mono s3, c3, q3, fun w' M4 F4 H4 u4 q4 s4 f4 c4 r4 => l' c4 ((r2.mono s3).mono s4) r4 q4 (hp3.after s4 f4)⟩
      · exact q3.elim⟩⟩
theorem de_chain {op op' : CmpOp} {r r' : R2} {rd rd' : D2} (ho : OpR X (compareOp op) r) (l : LR2 X.K r rd) (ho' : OpR X (compareOp op') r') (l' : LR2 X.K r' rd') (ha : DE X a ta) (hb : DE X b tb) (hc : DE X c tc)
    (hm : lastMarks [op, op'] [b, c] = false := by with_unfolding_all rfl) : DE X (.Compare a [op, op'] [b, c] pos) (dChain rd rd' ta tb tc) := PE.imp (pe_chain ho ho' ha hb hc hm) (l_chain l l')
theorem dt_chain {op op' : CmpOp} {r r' : R2} {rd rd' : D2} (ho : OpR X (compareOp op) r) (l : LR2 X.K r rd) (ho' : OpR X (compareOp op') r') (l' : LR2 X.K r' rd') (ha : DE X a ta) (hb : DE X b tb) (hc : DE X c tc)
    (hm : lastMarks [op, op'] [b, c] = false := by with_unfolding_all rfl) : DT X (.Compare a [op, op'] [b, c] pos) (dTB (dChain rd rd' ta tb tc)) := PT.imp (pt_chain ho ho' ha hb hc hm) fun σ H Q ⟨F, env, M, Q0, he, hc, ht, hp⟩ =>
  l_chain l l' σ H _ ⟨F, env, M, _, he, hc, ht, fun d M1 F1 H1 v q s1 f1 c1 r1 => by
    cases d with
    | bl k => rw [Rep] at r1; exact ⟨k, r1, hp k M1 F1 H1 q s1 f1 c1⟩
    | _ => exact False.elim q⟩
/-! ### built-ins by their names -/
theorem de_abs (hm : X.mg "abs" = none) (ha : DA X [a] tr) (hg : Gl X "abs" := by rfl) (na : starEach [a] X.env = (false, eval a X.env) :: starEach [] X.env := by rfl) : DE X (.Call (.Name "abs" p) [a] [] pos) (dCB rAbs tr) := de_callB call_abs l_abs hm (by decide +kernel) ha hg (by decide) (by decide) na rfl
theorem de_sum (hm : X.mg "sum" = none) (ha : DA X [a] tr) (hc : X.calm = true := by rfl) (hg : Gl X "sum" := by rfl) (na : starEach [a] X.env = (false, eval a X.env) :: starEach [] X.env := by rfl) : DE X (.Call (.Name "sum" p) [a] [] pos) (dCB rSum tr) := de_callB (cr_sum hc) l_sum hm (by decide +kernel) ha hg (by decide) (by decide) na rfl
theorem de_all (hm : X.mg "all" = none) (ha : DA X [a] tr) (hc : X.calm = true := by rfl) (hg : Gl X "all" := by rfl) (na : starEach [a] X.env = (false, eval a X.env) :: starEach [] X.env := by rfl) : DE X (.Call (.Name "all" p) [a] [] pos) (dCB rAll tr) := de_callB (cr_all hc) l_all hm (by decide +kernel) ha hg (by decide) (by decide) na rfl
theorem de_any (hm : X.mg "any" = none) (ha : DA X [a] tr) (hc : X.calm = true := by rfl) (hg : Gl X "any" := by rfl) (na : starEach [a] X.env = (false, eval a X.env) :: starEach [] X.env := by rfl) : DE X (.Call (.Name "any" p) [a] [] pos) (dCB rAny tr) := de_callB (cr_any hc) l_any hm (by decide +kernel) ha hg (by decide) (by decide) na rfl
theorem de_toTup (hm : X.mg "tuple" = none) (ha : DA X [a] tr) (hg : Gl X "tuple" := by rfl) (na : starEach [a] X.env = (false, eval a X.env) :: starEach [] X.env := by rfl) : DE X (.Call (.Name "tuple" p) [a] [] pos) (dCB rToTup tr) := de_callTy call_tuple_of l_toTup hm (by decide +kernel) ha hg (by decide) (by decide) na rfl
theorem de_toListM (hm : X.mg "list" = none) (ha : DA X [a] tr) (hg : Gl X "list" := by rfl) (na : starEach [a] X.env = (false, eval a X.env) :: starEach [] X.env := by rfl) : DE X (.Call (.Name "list" p) [a] [] pos) (dCB rToListM tr) := de_callTy call_list_of l_toListM hm (by decide +kernel) ha hg (by decide) (by decide) na rfl
def rMax2 : DC := fun ds M Q => match ds with | [.int i, .int j] => Q (.int (if j > i then j else i)) M | _ => False
def rMin2 : DC := fun ds M Q => match ds with | [.int i, .int j] => Q (.int (if j < i then j else i)) M | _ => False
theorem l_max2 : LC K (fun xs H Q => ∃ i j, xs = [.int i, .int j] ∧ Q (.int (if j > i then j else i)) H) rMax2 := by
  intro F H M ds vs Q0 Q c r h p
  unfold rMax2 at h
  split at h
  · obtain ⟨v, v', e1, e2, e3⟩ := reps2 r
    simp only [Rep] at e2 e3
    subst e1 e2 e3
    exact ⟨_, _, rfl, p.int c h⟩
  · exact h.elim
theorem l_min2 : LC K (fun xs H Q => ∃ i j, xs = [.int i, .int j] ∧ Q (.int (if j < i then j else i)) H) rMin2 := by
  intro F H M ds vs Q0 Q c r h p
  unfold rMin2 at h
  split at h
  · obtain ⟨v, v', e1, e2, e3⟩ := reps2 r
    simp only [Rep] at e2 e3
    subst e1 e2 e3
    exact ⟨_, _, rfl, p.int c h⟩
  · exact h.elim
theorem de_max2 (hm : X.mg "max" = none) (ha : DA X [a, b] tr) (hc : X.calm = true := by rfl) (hg : Gl X "max" := by rfl) (na : starEach [a, b] X.env = (false, eval a X.env) :: starEach [b] X.env := by rfl) (hpl : (backTo pos (starEach [b] X.env)).any (·.1) = false := by rfl) : DE X (.Call (.Name "max" p) [a, b] [] pos) (dCB rMax2 tr) := de_callB (call_max2 hc) l_max2 hm (by decide +kernel) ha hg (by decide) (by decide) na hpl
theorem de_min2 (hm : X.mg "min" = none) (ha : DA X [a, b] tr) (hc : X.calm = true := by rfl) (hg : Gl X "min" := by rfl) (na : starEach [a, b] X.env = (false, eval a X.env) :: starEach [b] X.env := by rfl) (hpl : (backTo pos (starEach [b] X.env)).any (·.1) = false := by rfl) : DE X (.Call (.Name "min" p) [a, b] [] pos) (dCB rMin2 tr) := de_callB (call_min2 hc) l_min2 hm (by decide +kernel) ha hg (by decide) (by decide) na hpl
theorem l_strN : LC K (fun xs H Q => ∃ i, xs = [.int i] ∧ i.natAbs.log2 < 1920 ∧ Q (.str (toString i)) H) rStrN := by
  intro F H M ds vs Q0 Q c r h p
  unfold rStrN at h
  split at h
  · obtain ⟨v, e1, e2⟩ := reps1 r
    rw [Rep] at e2
    subst e1 e2
    exact ⟨_, rfl, h.1, p.str c h.2⟩
  · exact h.elim
theorem de_strN (hm : X.mg "str" = none) (ha : DA X [a] tr) (hg : Gl X "str" := by rfl) (na : starEach [a] X.env = (false, eval a X.env) :: starEach [] X.env := by rfl) : DE X (.Call (.Name "str" p) [a] [] pos) (dCB rStrN tr) := de_callTy call_str_int l_strN hm (by decide +kernel) ha hg (by decide) (by decide) na rfl
/-! ### a, b = x, y -/
theorem ds_par {i j : Nat} {x y : Str} {px py pt : Pos} {kt k2 pt2} (hc : X.calm = true) (hN : X.N.Nodup) (hi : X.N[i]? = some x) (hj : X.N[j]? = some y) (hij : i ≠ j)
    (hx : X.env.scope.names.lookup x = some .local) (hy : X.env.scope.names.lookup y = some .local) (ha : DE X a ta) (hb : DE X b tb) (hw : swappedStores [.Tuple [.Name x px, .Name y py] kt pt] (.Tuple [a, b] k2 pt2) X.env = pure (some [x, y]))
    (na : starEach [a, b] X.env = (false, eval a X.env) :: starEach [b] X.env := by rfl) (nb : starEach [b] X.env = (false, eval b X.env) :: starEach [] X.env := by rfl)
    (hs : swapsWithSole [.Tuple [.Name x px, .Name y py] kt pt] (.Tuple [a, b] k2 pt2) pos.line X.env = pure false := by rfl) :
    DS X (.Assign [.Tuple [.Name x px, .Name y py] kt pt] (.Tuple [a, b] k2 pt2) pos) (dPar i j ta tb) :=
  PS.imp (ps_par hc hN hi hj hij hx hy (pa_cons ha (pa_cons hb pa_nil nb) na) hw hs) fun E σ H ⟨F, env, M, D0, he, hc, ht, hp⟩ =>
    ⟨F, env, M, _, he, hc, ht, fun d M1 F1 H1 v q s1 f1 c1 r1 => ⟨F1, env, M1, _, he.mono s1, c1, q, fun d' M2 F2 H2 v' q2 s2 f2 c2 r2 =>
      ⟨v, v', rfl, hp.nx _ M2 F2 H2 _ q2 (s1.trans s2) (f1.trans f2) c2 ((((he.mono s1).mono s2).set i (r1.mono s2)).set j r2)⟩⟩⟩
/-! ### the built-in types of data -/
def tyN (M : Mp) : D → Option String
  | .non => some "NoneType"
  | .bl _ => some "bool"
  | .int _ => some "int"
  | .str _ => some "str"
  | .tup _ => some "tuple"
  | .lst _ => some "list"
  | .lsx _ => some "list"
  | .ptr a => match M a with | some (.lst _) => some "list" | _ => none
  | _ => none
theorem sq_ty {H : Hp} {a : Addr} {vs : List V} (h : SqL K H a vs) : TyX K H (.ref a) (.type "list") := by
  rcases h with (h | ⟨o, h⟩) | ⟨o, its, n, h1, h2, _⟩
  · exact .base (.lst h)
  · exact .base (.frz h)
  · exact .kList h1 h2
theorem sqt_ty {H : Hp} {a : Addr} {vs : List V} (h : SqT K H a vs) : TyX K H (.ref a) (.type "tuple") := by
  rcases h with (h | ⟨o, h⟩) | ⟨o, its, n, h1, h2, _⟩
  · exact .base (.tup h)
  · exact .fTuple h
  · exact .kTuple h1 h2
theorem tyN_ok {F H : Hp} {M : Mp} {d : D} {v : V} {n : String} (c : Core K F H M) (r : Rep K F d v) (h : tyN M d = some n) : TyX K H v (.type n) := by
  cases d with
  | non => simp only [tyN] at h; cases h; rw [Rep] at r; subst r; exact .base .non
  | bl _ => simp only [tyN] at h; cases h; rw [Rep] at r; subst r; exact .base (.bl _)
  | int _ => simp only [tyN] at h; cases h; rw [Rep] at r; subst r; exact .base (.int _)
  | str _ => simp only [tyN] at h; cases h; rw [Rep] at r; subst r; exact .base (.str _)
  | lst ds =>
    simp only [tyN] at h; cases h
    obtain ⟨a, vs, e1, e2, e3⟩ := lstOf_ok c r rfl
    subst e1
    exact sq_ty e2
  | lsx ds =>
    simp only [tyN] at h; cases h
    obtain ⟨a, vs, e1, e2, e3⟩ := lstOf_ok c r rfl
    subst e1
    exact sq_ty e2
  | tup ds =>
    simp only [tyN] at h; cases h
    obtain ⟨a, vs, e1, e2, e3⟩ := tupOf_ok c r rfl
    subst e1
    exact sqt_ty e2
  | ptr a =>
    simp only [tyN] at h
    split at h
    · rename_i ds g
      cases h
      rw [Rep] at r
      obtain ⟨vs, e1, _⟩ := ptr_lst c g
      subst r
      exact sq_ty (SqL.of e1)
    · cases h
  | ty _ => simp [tyN] at h
  | obj _ _ => simp [tyN] at h
  | fn _ => simp [tyN] at h
def isT (a b : String) : Bool := a == b || (a == "bool" && b == "int")
def tyNames : List String := ["int", "bool", "str", "list", "tuple", "dict"]
theorem kit_isT {M : Mp} {d : D} {n T : String} (h : tyN M d = some n) (hT : T ∈ tyNames) : PySem.W.kitOne K (.type n) (.type T) = some (isT n T) := by
  have key : ∀ n ∈ ["NoneType", "bool", "int", "str", "tuple", "list"], ∀ T ∈ tyNames, kitB n T = some (isT n T) := by decide +kernel
  refine kit_ty (key n ?_ T hT)
  cases d <;> simp only [tyN] at h <;> first | (cases h; simp; done) | (cases h; done) | (split at h <;> first | (cases h; simp; done) | (cases h; done))
def dIsi (T : String) (ta : DTE) : DTE := fun env M Q => ta env M fun x M1 => match tyN M1 x with | some n => Q (.bl (isT n T)) M1 | none => False
theorem de_isi {T : Str} {Ts : String} {p2 : Pos} (B : NB X.mg) (ha : DE X a ta) (hT : Ts ∈ tyNames := by decide) (hv : bootBuiltins T = some (.type Ts) := by decide +kernel) (hm : X.mg T = none := by first | exact NB.int ‹_› | exact NB.str ‹_› | exact NB.bool ‹_› | exact NB.tuple ‹_› | exact NB.list ‹_›) (hg : Gl X "isinstance" := by rfl) (hgT : Gl X T := by rfl)
    (hn : T ≠ "__name__" := by decide) (hd : (T == ("__debug__" : Str)) = false := by decide)
    (na : starEach [a, .Name T p2] X.env = (false, eval a X.env) :: starEach [.Name T p2] X.env := by rfl) (nb : starEach [.Name T p2] X.env = (false, eval (.Name T p2) X.env) :: starEach [] X.env := by rfl) (hpl : (backTo pos (starEach [.Name T p2] X.env)).any (·.1) = false := by rfl) :
    DE X (.Call (.Name "isinstance" p) [a, .Name T p2] [] pos) (dIsi Ts ta) :=
  PE.imp (pe_callB call_isi hg B.isinstance (by decide +kernel) (pa_cons ha (pa_cons (pe_bltn (v := .ty Ts) hgT hm hv rfl hn hd) pa_nil nb) na) (by decide) (by decide) na hpl) fun σ H Q ⟨F, env, M, Q0, he, hc, ht, hp⟩ =>
    ⟨F, env, M, _, he, hc, ht, fun d M1 F1 H1 v q s1 f1 c1 r1 => by
      revert q
      dsimp only
      split <;> intro q
      · rename_i n g
        exact ⟨v, .ty Ts, _, _, _, rfl, .ty Ts, tyN_ok c1 r1 g, kit_isT g hT, (hp.after s1 f1).bl c1 q⟩
      · exact q.elim⟩
def dIsi2 (T U : String) (ta : DTE) : DTE := fun env M Q => ta env M fun x M1 => match tyN M1 x with | some n => Q (.bl (isT n T || isT n U)) M1 | none => False
theorem de_isi2 {T U : Str} {Ts Us : String} {p2 p3 p4 : Pos} {k4} (B : NB X.mg) (ha : DE X a ta) (hT : Ts ∈ tyNames := by decide) (hU : Us ∈ tyNames := by decide) (hv : bootBuiltins T = some (.type Ts) := by decide +kernel) (hw : bootBuiltins U = some (.type Us) := by decide +kernel)
    (hm : X.mg T = none := by first | exact NB.int ‹_› | exact NB.str ‹_› | exact NB.bool ‹_› | exact NB.tuple ‹_› | exact NB.list ‹_›) (hm2 : X.mg U = none := by first | exact NB.int ‹_› | exact NB.str ‹_› | exact NB.bool ‹_› | exact NB.tuple ‹_› | exact NB.list ‹_›) (hg : Gl X "isinstance" := by rfl) (hgT : Gl X T := by rfl) (hgU : Gl X U := by rfl)
    (hn : T ≠ "__name__" := by decide) (hd : (T == ("__debug__" : Str)) = false := by decide) (hn2 : U ≠ "__name__" := by decide) (hd2 : (U == ("__debug__" : Str)) = false := by decide)
    (na : starEach [a, .Tuple [.Name T p2, .Name U p3] k4 p4] X.env = (false, eval a X.env) :: starEach [.Tuple [.Name T p2, .Name U p3] k4 p4] X.env := by rfl)
    (nb : starEach [.Tuple [.Name T p2, .Name U p3] k4 p4] X.env = (false, eval (.Tuple [.Name T p2, .Name U p3] k4 p4) X.env) :: starEach [] X.env := by rfl) (hpl : (backTo pos (starEach [.Tuple [.Name T p2, .Name U p3] k4 p4] X.env)).any (·.1) = false := by rfl)
    (nc : starEach [.Name T p2, .Name U p3] X.env = (false, eval (.Name T p2) X.env) :: starEach [.Name U p3] X.env := by rfl) (nd : starEach [.Name U p3] X.env = (false, eval (.Name U p3) X.env) :: starEach [] X.env := by rfl) :
    DE X (.Call (.Name "isinstance" p) [a, .Tuple [.Name T p2, .Name U p3] k4 p4] [] pos) (dIsi2 Ts Us ta) :=
  PE.imp (pe_callB call_isiT hg B.isinstance (by decide +kernel) (pa_cons ha (pa_cons (pe_tup (pa_cons (pe_bltn (v := .ty Ts) hgT hm hv rfl hn hd) (pa_cons (pe_bltn (v := .ty Us) hgU hm2 hw rfl hn2 hd2) pa_nil nd) nc)) pa_nil nb) na) (by decide) (by decide) na hpl) fun σ H Q ⟨F, env, M, Q0, he, hc, ht, hp⟩ =>
    ⟨F, env, M, _, he, hc, ht, fun d M1 F1 H1 v q s1 f1 c1 r1 => by
      revert q
      dsimp only
      split <;> intro q
      · rename_i n g
        refine ⟨by show 2 ≤ sizeLine; decide, fun t ht => ?_⟩
        obtain ⟨c2, s2, f2⟩ := c1.new ht (.tup [.ty Ts, .ty Us])
        refine ⟨v, t, [.ty Ts, .ty Us], .type n, [.type Ts, .type Us], _, rfl, upd_same, .cons (.ty Ts) (.cons (.ty Us) .nil), tyN_ok c2 (r1.mono s2) g, ?_, ((hp.after s1 f1).after s2 f2).bl c2 q⟩
        refine kitAny_cons (kit_isT g hT) (fun hb => ?_) (fun hb => by rw [hb]; rfl)
        rw [hb, Bool.false_or]
        exact kitAny_cons (kit_isT g hU) (fun hb => by rw [hb]; rfl) (fun hb => hb)
      · exact q.elim⟩
end
end DL
namespace DL
open PySem PySem.Spec PyProof.Rows L2
/-- the sgs from the end -/
def srev (z : Str) : Str := ⟨z.cps.toList.reverse.toArray⟩
theorem filterMap_rev (l : List Nat) : ∀ (n : Nat), n ≤ l.length → ((List.range n).map fun k => n - 1 - k).filterMap (fun i => l[i]?) = (l.take n).reverse := by
  intro n
  induction n with
  | zero => intro _; simp
  | succ n ih =>
    intro h
    have hn : n < l.length := h
    rw [List.range_succ_eq_map, List.map_cons, List.map_map, List.filterMap_cons]
    have e0 : n + 1 - 1 - 0 = n := by omega
    rw [e0, List.getElem?_eq_getElem hn]
    simp only
    have e1 : ((fun k => n + 1 - 1 - k) ∘ Nat.succ) = fun k => n - 1 - k := by
      funext k
      show n + 1 - 1 - (k + 1) = n - 1 - k
      omega
    rw [e1, ih (by omega)]
    have e2 : List.take (n + 1) l = List.take n l ++ [l[n]] := by rw [List.take_add_one, List.getElem?_eq_getElem hn]; rfl
    rw [e2, List.reverse_append]
    rfl
theorem rev_picked (z : Str) : ((Builtin.Str.strSliceIndices none none (-1) z.length).filterMap (z.cps[·]?)) = z.cps.toList.reverse := by
  have hz : z.cps.toList.length = z.length := by simp [Str.length]
  have e : Builtin.Str.strSliceIndices none none (-1) z.length = (List.range z.length).map fun k => z.length - 1 - k := by
    show sliceRange ((z.length : Int) - 1) (-1) (-1) = _
    unfold sliceRange
    have c1 : ¬ ((-1 : Int) > 0) := by decide
    simp only [if_neg c1]
    have c2 : (if (z.length : Int) - 1 > -1 then ((z.length : Int) - 1 - -1 - -1 - 1) / (- -1) else 0).toNat = z.length := by
      split
      · have : ((z.length : Int) - 1 - -1 - -1 - 1) / (- -1) = z.length := by
          have h1 : (- -1 : Int) = 1 := by decide
          rw [h1, Int.ediv_one]; omega
        rw [this]; omega
      · omega
    rw [c2]
    apply List.map_congr_left
    intro k hk
    have := List.mem_range.mp hk
    omega
  rw [e]
  have := filterMap_rev z.cps.toList z.length (by omega)
  rw [List.take_of_length_le (by omega)] at this
  rw [← this]
  congr 1
  funext i
  simp
section
variable {X : Cx} {GX : GI X.K} {K : PySem.W.Frag} {G : GI K} {a b c e : Expr} {es : List Expr} {ta tb tc : DTE} {pos p : Pos} {tt : DTT} {tr tk : DTA} {k : Nat} {f : Addr} {fd : FuncData} {ps ks : List Str} {sp : DSp} {x : Str}
/-! ### x[::-1] -/
def tRevA (K : PySem.W.Frag) (te : TE) : TE := fun σ H Q => te σ H fun x H1 => (∃ z, x = .str z ∧ z.length ≤ sizeLine ∧ Q (.str (srev z)) H1) ∨ (∃ a xs, x = .ref a ∧ SqL K H1 a xs ∧ ∀ p, H1 p = none → Q (.ref p) (upd H1 p (.lst xs.reverse)))
theorem pe_revA {te : TE} {kk : Nat} {p1 p2 p3 : Pos} (he : PE X e te) : PE X (.Subscript e (.Slice none none (some (.UnaryOp .USub (.Constant (.int 1) kk p1) p2)) p3) pos) (tRevA X.K te) := by
  refine ⟨fun pins s σ H Q I hh => ?_⟩
  refine Subscript_ (thn (he.run pins s σ H _ I hh) fun vv s1 ⟨xx, H1, I1, rr1, qq1⟩ => ?_)
  have step : PO X (some (.UnaryOp .USub (.Constant (.int 1) kk p1) p2)) (tPart (tUn (rU fun i => .int (-i)) (tC (.int 1)))) := po_some (pe_un un_neg pe_int)
  refine wpAny_Slice (thn (po_none.run pins s1 σ H1 (fun o H2 => o = none ∧ H2 = H1) I1 ⟨rfl, rfl⟩) fun vl s2 ⟨l, H2, I2, pl, el, e2⟩ => ?_)
  subst el e2
  refine thn (po_none.run pins s2 σ H2 (fun o H3 => o = none ∧ H3 = H2) I2 ⟨rfl, rfl⟩) fun vu s3 ⟨u, H3, I3, pu, eu, e3⟩ => ?_
  subst eu e3
  refine thn (step.run pins s3 σ H3 (fun o H4 => o = some (-1) ∧ H4 = H3) I3 ⟨1, rfl, -1, rfl, rfl, rfl⟩) fun w4 s4 ⟨o, H4, I4, ps, eo, e4⟩ => ?_
  subst eo e4
  have J : Inv X pins σ H4 { s4 with heap := s4.heap.push { cls := .type "slice", data := .fields #[vl, vu, w4] } } := I4.kept (t' := s4.toks) fun b ob q => Heap.get?_push_of_some _ q
  rcases qq1 with ⟨z, ez, hz, q⟩ | ⟨a, xs, ea, hx, q⟩
  · subst ez
    obtain ⟨t, rfl⟩ := rr1
    show wpAny (model X.prog X.w) X.A (subscriptTail e (.Slice none none (some (.UnaryOp .USub (.Constant (.int 1) kk p1) p2)) p3) (.str z t) (.ref s4.heap.objs.size)) (EP X pins σ Q) X.xe { s4 with heap := s4.heap.push { cls := .type "slice", data := .fields #[vl, vu, w4] } }
    cases pl
    cases pu
    cases ps with
    | int _ tk =>
    refine tail_any (ops := [.ref s4.heap.objs.size, .str z t]) (typeIs_str _ _ _) F.slot_str_getitem.lookup ?_ (by with_unfolding_all rfl)
    refine wpAny_getItem_str_slice (l := none) (u := none) (st := some (-1, tk)) ⟨_, Heap.get?_push_size _ rfl, rfl, rfl⟩ rfl ?_
    show Made.post (if ((-1 : Int) == 1 && _) = true then Made.val (.str z t) else Made.str ⟨((Builtin.Str.strSliceIndices none none (-1) z.length).filterMap (z.cps[·]?)).toArray⟩) (EP X pins σ Q) _
    have c0 : ((-1 : Int) == 1) = false := by decide
    rw [c0, Bool.false_and, if_neg Bool.false_ne_true, rev_picked]
    refine ⟨?_, .str (srev z), H4, J.tok _, ⟨_, rfl⟩, q⟩
    show z.cps.toList.reverse.toArray.size ≤ sizeLine
    rw [List.size_toArray, List.length_reverse]
    exact hz
  · subst ea
    cases rr1
    obtain ⟨its, r, ht, hz⟩ := J.list hx
    have hlen := r.length
    show wpAny (model X.prog X.w) X.A (subscriptTail e (.Slice none none (some (.UnaryOp .USub (.Constant (.int 1) kk p1) p2)) p3) (.ref a) (.ref s4.heap.objs.size)) (EP X pins σ Q) X.xe { s4 with heap := s4.heap.push { cls := .type "slice", data := .fields #[vl, vu, w4] } }
    refine tail_any (ops := [.ref a, .ref s4.heap.objs.size]) ht.isList.typeIs (PySem.slot_list_getitem.lookup) ?_ (by with_unfolding_all rfl)
    refine wpAny_getItem_list_slice ht.isList (Heap.IsSliceOf.new _ vl vu w4) pl pu ps (by decide) ?_ (by rw [List.size_toArray]; omega)
    rw [PySem.W.krv_pick]
    have nw := J.hok.fresh (Nat.le_refl _)
    refine ⟨.ref _, _, J.laid (t' := s4.toks) (o := .lst xs.reverse) (fun b ob q => Heap.get?_push_of_some _ q) (Nat.le_refl _) ?_, rfl, q _ nw⟩
    refine ⟨by rw [List.length_reverse]; exact hz, its.reverse, 0, r.reverse, ?_⟩
    exact Heap.get?_push_size _ rfl
def dRev (ta : DTE) : DTE := fun env M Q => ta env M fun x M1 => match x with
  | .str z => z.length ≤ sizeLine ∧ Q (.str (srev z)) M1
  | x => match lstOf M1 x with | some ds => Q (.lst ds.reverse) M1 | none => False
theorem de_rev {kk : Nat} {p1 p2 p3 : Pos} (he : DE X e ta) : DE X (.Subscript e (.Slice none none (some (.UnaryOp .USub (.Constant (.int 1) kk p1) p2)) p3) pos) (dRev ta) := PE.imp (pe_revA he) fun σ H Q ⟨F, env, M, Q0, he, hc, ht, hp⟩ =>
  ⟨F, env, M, _, he, hc, ht, fun d M1 F1 H1 v q s1 f1 c1 r1 => by
    revert q
    dsimp only
    split <;> intro q
    · rw [Rep] at r1
      exact .inl ⟨_, r1, q.1, (hp.after s1 f1).str c1 q.2⟩
    · split at q
      · rename_i ds g
        obtain ⟨a, vs, e1, e2, e3⟩ := lstOf_ok c1 r1 g
        exact .inr ⟨a, vs, e1, e2, (hp.after s1 f1).lst c1 e3.reverse q⟩
      · exact q.elim⟩
/-! ### list(x): a list, a tuple, a text -/
def rToListA : DC := fun ds M Q => match ds with
  | [.tup xs] => Q (.lst xs) M
  | [.str z] => z.length ≤ sizeLine ∧ Q (.lst (sgs z)) M
  | [x] => match lstOf M x with | some xs => Q (.lst xs) M | none => False
  | _ => False
theorem call_list_text (hc : X.calm = true) : CallR X (.type "list") (fun xs H Q => ∃ z, xs = [.str z] ∧ z.length ≤ sizeLine ∧ ∀ l, H l = none → Q (.ref l) (upd H l (.lst (z.cps.toList.map fun c => .str ⟨#[c]⟩)))) := by
  intro pins s σ H xs us Q I r hh
  obtain ⟨z, rfl, hz, q⟩ := hh
  obtain ⟨u, rfl, t, rfl⟩ := vals1 r
  refine call_list_str (I.ok.hd hc) z t (fun h' tk acc cc hk ho hi => ?_) hz
  have fresh : H s.heap.objs.size = none := I.hok.fresh (Nat.le_refl _)
  have va : Vals (z.cps.toList.map fun c => V.str ⟨#[c]⟩) acc.toList := by
    have key : ∀ (l : List Nat) (us : List Value), us.length = l.length → (∀ (j : Nat) (v : Value), us[j]? = some v → ∃ c u, l[j]? = some c ∧ v = .str ⟨#[c]⟩ u) → Vals (l.map fun c => V.str ⟨#[c]⟩) us := by
      intro l
      induction l with
      | nil => intro us h0 _; cases us with
        | nil => exact .nil
        | cons _ _ => cases h0
      | cons c l ih =>
        intro us h0 hj
        cases us with
        | nil => cases h0
        | cons v us =>
          obtain ⟨c', u, e1, e2⟩ := hj 0 v rfl
          cases e1
          exact .cons ⟨u, e2⟩ (ih us (by simpa using h0) fun j w hw => hj (j + 1) w (by simpa using hw))
    refine key _ _ (by simpa using hi.1) fun j v hv => ?_
    obtain ⟨c, u, e1, e2⟩ := hi.2 j v (by simpa using hv)
    exact ⟨c, u, by simpa using e1, e2⟩
  refine ⟨.ref s.heap.objs.size, _, I.laid (t' := tk) (a := s.heap.objs.size) (o := .lst (z.cps.toList.map fun c => .str ⟨#[c]⟩)) hk (Nat.le_refl _) ⟨?_, acc.toList, cc, va, ?_⟩, rfl, q _ fresh⟩
  · rw [List.length_map]; simpa [Str.length] using hz
  · simpa using ho
theorem l_toListA : LC K (fun xs H Q => (∃ z, xs = [.str z] ∧ z.length ≤ sizeLine ∧ ∀ l, H l = none → Q (.ref l) (upd H l (.lst (z.cps.toList.map fun c => .str ⟨#[c]⟩)))) ∨ (∃ p ys, xs = [.ref p] ∧ (SqL K H p ys ∨ SqT K H p ys) ∧ ∀ l, H l = none → Q (.ref l) (upd H l (.lst ys)))) rToListA := by
  intro F H M ds vs Q0 Q c r h p
  unfold rToListA at h
  split at h
  · obtain ⟨v, e1, e2⟩ := reps1 r
    rw [Rep] at e2
    obtain ⟨a, vs, f1, f2, f3⟩ := e2
    subst e1 f1
    exact .inr ⟨a, vs, rfl, .inr (sameT c.same f2), p.lst c f3 h⟩
  · rename_i z
    obtain ⟨v, e1, e2⟩ := reps1 r
    rw [Rep] at e2
    subst e1 e2
    refine .inl ⟨z, rfl, h.1, p.lst c ?_ h.2⟩
    have e : (z.cps.toList.map fun c => V.str ⟨#[c]⟩) = (z.cps.toList.map fun c => (⟨#[c]⟩ : Str)).map V.str := by rw [List.map_map]; rfl
    have e' : sgs z = (z.cps.toList.map fun c => (⟨#[c]⟩ : Str)).map D.str := by unfold sgs; rw [List.map_map]; rfl
    rw [e, e']
    exact Reps.of_strs
  · split at h
    · rename_i xs g
      obtain ⟨v, e1, e2⟩ := reps1 r
      obtain ⟨a, vs, f1, f2, f3⟩ := lstOf_ok c e2 g
      subst e1 f1
      exact .inr ⟨a, vs, rfl, .inl f2, p.lst c f3 h⟩
    · exact h.elim
  · exact h.elim
theorem de_toList (hm : X.mg "list" = none) (ha : DA X [a] tr) (hc : X.calm = true := by rfl) (hg : Gl X "list" := by rfl) (na : starEach [a] X.env = (false, eval a X.env) :: starEach [] X.env := by rfl) : DE X (.Call (.Name "list" p) [a] [] pos) (dCB rToListA tr) := de_callTy (CallR.or (call_list_text hc) call_list_of) l_toListA hm (by decide +kernel) ha hg (by decide) (by decide) na rfl
end
end DL
namespace DL
open PySem PySem.Spec PyProof.Rows L2
theorem de_globE {X : Cx} {GX : GI X.K} {x : Str} {v : V} {d : D} {pos : Pos} (h : ∃ u, X.mg x = some u ∧ RelV v u) (q : ∀ F, Rep X.K F d v) (hg : Gl X x := by rfl) (hd : (x == ("__debug__" : Str)) = false := by decide) : DE X (.Name x pos) (dC d) := by
  obtain ⟨u, h1, h2⟩ := h
  exact de_glob hg h1 h2 q hd
end DL
namespace DL
open PySem PySem.Spec PyProof.Rows L2
theorem uI {k : Nat} {A : Around} (r : L2.Room k A) : A.units + 65 < cLine := by have := r.un; omega
end DL
namespace DL
open PySem PySem.Spec PyProof.Rows L2
/-! ### what the readings' proofs use: each combinator at work -/
section
variable {env : DSt} {M : Mp} {Q : DQ} {E : DEnds} {i j n : Int} {k l : Bool} {x y : Str} {xs ys : List D} {d : D} {ta tb tc : DTE} {t u : DTS} {tt t1 t2 : DTT} {tr : DTA} {g : DTG} {gs : DTGs}
theorem bodyE_rt {K : PySem.W.Frag} {G : GI K} : (bodyE K Q).rt = Fin K Q := rfl
theorem bodyE_nx {K : PySem.W.Frag} {G : GI K} : (bodyE K Q).nx env M = Fin K Q .non M := rfl
theorem dVar_ap {m : Nat} : dVar m env M Q = (match env[m]? with | some (some d) => Q d M | _ => False) := rfl
theorem dC_ap : dC d env M Q = Q d M := rfl
theorem dOp_ap {r : D2} : dOp r ta tb env M Q = ta env M fun x M1 => tb env M1 fun y M2 => r x y M2 Q := rfl
theorem dTB_ap {R : Bool → Mp → Prop} : dTB ta env M R = ta env M fun x M' => (match x with | .bl k => R k M' | _ => False) := rfl
theorem dTru_ap {R : Bool → Mp → Prop} : dTru ta env M R = ta env M fun x M' => (match x with
  | .non => R false M' | .bl b => R b M' | .int i => R (i != 0) M' | .str y => y.length ≤ sizeLine ∧ R ((y.length : Int) != 0) M' | .tup ds => R (!ds.isEmpty) M'
  | x => (match lstOf M' x with | some ds => R (!ds.isEmpty) M' | none => False)) := rfl
theorem dAnd_ap {R : Bool → Mp → Prop} : dAnd t1 t2 env M R = t1 env M fun c M1 => if c = true then t2 env M1 R else R false M1 := rfl
theorem dOr_ap {R : Bool → Mp → Prop} : dOr t1 t2 env M R = t1 env M fun c M1 => if c = true then R true M1 else t2 env M1 R := rfl
theorem dNot_ap {R : Bool → Mp → Prop} : dNot t1 env M R = t1 env M fun c M1 => R (!c) M1 := rfl
theorem dNotV_ap : dNotV ta env M Q = ta env M fun x M1 => (match x with | .bl k => Q (.bl (!k)) M1 | _ => False) := rfl
theorem dAndV_ap : dAndV ta tb env M Q = ta env M fun x M1 => (match x with | .bl k => (if k = true then tb env M1 Q else Q (.bl false) M1) | _ => False) := rfl
theorem dOrV_ap : dOrV ta tb env M Q = ta env M fun x M1 => (match x with | .bl k => (if k = true then Q (.bl true) M1 else tb env M1 Q) | _ => False) := rfl
theorem dIf_ap : dIf tt ta tb env M Q = tt env M fun k M1 => if k = true then ta env M1 Q else tb env M1 Q := rfl
theorem dIsN_ap {b : Bool} : dIsN b ta env M Q = ta env M fun x M1 => Q (.bl (b ^^ isNon x)) M1 := rfl
theorem dNext_ap : dNext E env M = E.nx env M := rfl
theorem dSeq_ap : dSeq t u E env M = t { E with nx := u E } env M := rfl
theorem dBreak_ap : dBreak E env M = E.bk env M := rfl
theorem dCont_ap : dCont E env M = E.ct env M := rfl
theorem dDrop_ap : dDrop ta E env M = ta env M fun _ M' => E.nx env M' := rfl
theorem dRet_ap : dRet ta E env M = ta env M E.rt := rfl
theorem dRetN_ap : dRetN E env M = E.rt .non M := rfl
theorem dIfS_ap : dIfS tt t u E env M = tt env M fun k M1 => if k = true then t E env M1 else u E env M1 := rfl
theorem dgName_ap {m : Nat} {R : DSt → Mp → Prop} : dgName m d env M R = R (env.set m (some d)) M := rfl
theorem dgNil_ap {R : DSt → Mp → Prop} : dgNil xs env M R = (xs = [] ∧ R env M) := rfl
theorem dgCons_ap {R : DSt → Mp → Prop} : dgCons g gs (d :: xs) env M R = g d env M fun env' M' => gs xs env' M' R := rfl
theorem dgTup_ap {m : Nat} {R : DSt → Mp → Prop} : dgTup m gs (.tup xs) env M R = (xs.length = m ∧ gs xs env M R) := rfl
theorem dgSub_ap {R : DSt → Mp → Prop} : dgSub ta tb d env M R = ta env M fun o M1 => tb env M1 fun i M2 => (match o, i with
  | .ptr a, .int k => (match M2 a with | some (.lst ds) => ∃ j, ixN ds.length k = some j ∧ R env (up M2 a (.lst (ds.set j d))) | _ => False) | _, _ => False) := rfl
theorem dAsg_ap : dAsg ta g E env M = ta env M fun d M1 => g d env M1 E.nx := rfl
theorem dPar_ap {m m' : Nat} : dPar m m' ta tb E env M = ta env M fun x M1 => tb env M1 fun y M2 => E.nx ((env.set m (some x)).set m' (some y)) M2 := rfl
theorem dAug_ap {m : Nat} {r : D2} : dAug m ta r E env M = (match env[m]? with | some (some x) => ta env M fun y M1 => r x y M1 fun z M2 => E.nx (env.set m (some z)) M2 | _ => False) := rfl
theorem dNil_ap {R : List D → Mp → Prop} : dNil env M R = R [] M := rfl
theorem dCons_ap {R : List D → Mp → Prop} : dCons ta tr env M R = ta env M fun x M1 => tr env M1 fun xs M2 => R (x :: xs) M2 := rfl
theorem dTup_ap : dTup tr env M Q = tr env M fun ds M1 => ds.length ≤ sizeLine ∧ Q (.tup ds) M1 := rfl
theorem dLst_ap : dLst tr env M Q = tr env M fun ds M1 => ds.length ≤ sizeLine ∧ Q (.lst ds) M1 := rfl
theorem dLstM_ap : dLstM tr env M Q = tr env M fun ds M1 => ds.length ≤ sizeLine ∧ ∀ p, M1 p = none → Q (.ptr p) (up M1 p (.lst ds)) := rfl
theorem dCB_ap {r : DC} : dCB r tr env M Q = tr env M fun ds M1 => r ds M1 Q := rfl
theorem dBM_ap {T : String} {r : DM} : dBM T r ta tr env M Q = ta env M fun x M1 => tyD T x M1 ∧ tr env M1 fun xs M2 => r x xs M2 Q := rfl
theorem dBM0_ap {T : String} {r : DM} : dBM0 T r ta env M Q = ta env M fun x M1 => tyD T x M1 ∧ r x [] M1 Q := rfl
theorem dCall_ap {sp : DSp} : dCall sp tr env M Q = tr env M fun ds M1 => sp ds M1 Q noX := rfl
theorem dCallK_ap {sp : DSp} {gD : List D → List D → List D} {tk : DTA} : dCallK sp gD tr tk env M Q = tr env M fun ds M1 => tk env M1 fun es M2 => sp (gD ds es) M2 Q noX := rfl
theorem dRev_s : dRev ta env M Q = ta env M fun x M1 => (match x with | .str z => z.length ≤ sizeLine ∧ Q (.str (srev z)) M1 | x => (match lstOf M1 x with | some ds => Q (.lst ds.reverse) M1 | none => False)) := rfl
theorem dSl_ap {tl th : DTO} : dSl ta tl th env M Q = ta env M fun x M1 => tl env M1 fun l M2 => th env M2 fun u M3 => rSlD x l u M3 Q := rfl
theorem dPart_ap {R : Option Int → Mp → Prop} : dPart ta env M R = ta env M fun x M' => (match x with | .int i => R (some i) M' | _ => False) := rfl
theorem dUn_ap {r : D → Mp → DQ → Prop} : dUn r ta env M Q = ta env M fun x M' => r x M' Q := rfl
theorem dChain_ap {r r' : D2} : dChain r r' ta tb tc env M Q = ta env M fun x M1 => tb env M1 fun y M2 => r x y M2 fun z M3 => (match z with | .bl k => if k = true then tc env M3 fun w M4 => r' y w M4 Q else Q (.bl false) M3 | _ => False) := rfl
theorem dIsi_ap {T : String} : dIsi T ta env M Q = ta env M fun x M1 => (match tyN M1 x with | some n => Q (.bl (isT n T)) M1 | none => False) := rfl
theorem dIsi2_ap {T U : String} : dIsi2 T U ta env M Q = ta env M fun x M1 => (match tyN M1 x with | some n => Q (.bl (isT n T || isT n U)) M1 | none => False) := rfl
theorem dIter_ap {R : List D → (Mp → Prop) → Mp → Prop} : dIter ta env M R = ta env M fun x M1 => (match x with
  | .lst ds => (R ds (fun _ => True) M1)
  | .lsx ds => (R ds (fun _ => True) M1)
  | .ptr a => (match M1 a with
    | some (.lst ds) => (R ds (fun M => M a = some (.lst ds)) M1)
    | _ => False)
  | _ => False) := rfl
theorem dIterT_ap {R : List D → (Mp → Prop) → Mp → Prop} : dIterT ta env M R = ta env M fun x M1 => (match x with
  | .tup ds => (R ds (fun _ => True) M1)
  | _ => False) := rfl
theorem dIterS_ap {R : List D → (Mp → Prop) → Mp → Prop} : dIterS ta env M R = ta env M fun x M1 => (match x with
  | .str z => (R (sgs z) (fun _ => True) M1)
  | _ => False) := rfl
theorem dRng1_ap {R : List D → (Mp → Prop) → Mp → Prop} : dRng1 tr env M R = tr env M fun ds M1 => (match ds with
  | [.int j] => ((-(2 ^ 62) ≤ j ∧ j < 2 ^ 62) ∧ R (rng 0 j.toNat) (fun _ => True) M1)
  | _ => False) := rfl
theorem dRng2_ap {R : List D → (Mp → Prop) → Mp → Prop} : dRng2 tr env M R = tr env M fun ds M1 => (match ds with
  | [.int i, .int j] => ((-(2 ^ 62) ≤ i ∧ i < 2 ^ 62 ∧ -(2 ^ 62) ≤ j ∧ j < 2 ^ 62) ∧ R (rng i (j - i).toNat) (fun _ => True) M1)
  | _ => False) := rfl
/-! operations at data of known kinds -/
theorem rAdd_ii : rAdd (.int i) (.int j) M Q = Q (.int (i + j)) M := rfl
theorem rAdd_ss : rAdd (.str x) (.str y) M Q = (x.length + y.length ≤ sizeLine ∧ Q (.str (x ++ y)) M) := rfl
theorem rAdd_tt : rAdd (.tup xs) (.tup ys) M Q = ((xs ≠ [] ∧ ys ≠ []) ∧ xs.length + ys.length ≤ sizeLine ∧ Q (.tup (xs ++ ys)) M) := rfl
theorem rAdd_ll : rAdd (.lst xs) (.lst ys) M Q = (xs.length + ys.length ≤ sizeLine ∧ Q (.lst (xs ++ ys)) M) := rfl
theorem rSub_ii : rSubI (.int i) (.int j) M Q = Q (.int (i - j)) M := rfl
theorem rInt2_ii {C : Int → Int → Prop} {f : Int → Int → Int} : rInt2 C f (.int i) (.int j) M Q = (C i j ∧ Q (.int (f i j)) M) := rfl
theorem rNeg_i : rNeg (.int i) M Q = Q (.int (-i)) M := rfl
theorem rOrd_ii {fi : Int → Int → Bool} {fs : Str → Str → Bool} {ft : List Int → List Int → Bool} : rOrd fi fs ft (.int i) (.int j) M Q = Q (.bl (fi i j)) M := rfl
theorem rOrd_ss {fi : Int → Int → Bool} {fs : Str → Str → Bool} {ft : List Int → List Int → Bool} : rOrd fi fs ft (.str x) (.str y) M Q = Q (.bl (fs x y)) M := rfl
theorem rIadd_ii : rIadd (.int i) (.int j) M Q = Q (.int (i + j)) M := rfl
theorem rIadd_ss : rIadd (.str x) (.str y) M Q = (x.length + y.length ≤ sizeLine ∧ Q (.str (x ++ y)) M) := rfl
theorem rEqW_ii {b : Bool} : rEqW b (.int i) (.int j) M Q = Q (.bl (b ^^ (i == j))) M := if_pos rfl
theorem rEqW_ss {b : Bool} : rEqW b (.str x) (.str y) M Q = Q (.bl (b ^^ (x == y))) M := if_pos rfl
theorem rEqW_bb {b : Bool} : rEqW b (.bl k) (.bl l) M Q = Q (.bl (b ^^ (k == l))) M := if_pos rfl
theorem rIn_ss {b : Bool} : rInD b (.str x) (.str y) M Q = Q (.bl (b ^^ strIn x y)) M := rfl
theorem rIxD_l : rIxD (.lst xs) (.int i) M Q = ∃ d, atI xs i = some d ∧ Q d M := rfl
theorem rIxD_x : rIxD (.lsx xs) (.int i) M Q = ∃ d, atI xs i = some d ∧ Q d M := rfl
theorem rIxD_t : rIxD (.tup xs) (.int i) M Q = ∃ d, atI xs i = some d ∧ Q d M := rfl
theorem rIxD_s : rIxD (.str x) (.int i) M Q = (x.length ≤ sizeLine ∧ ∃ c, atI x.cps.toList i = some c ∧ Q (.str ⟨#[c]⟩) M) := rfl
theorem rIxD_p {a : Addr} : rIxD (.ptr a) (.int i) M Q = (match lstOf M (.ptr a) with | some ds => ∃ d, atI ds i = some d ∧ Q d M | none => False) := rfl
theorem lstOf_p {a : Addr} : lstOf M (.ptr a) = (match M a with | some (.lst ds) => some ds | _ => none) := rfl
theorem lstOf_l : lstOf M (.lst xs) = some xs := rfl
theorem lstOf_x : lstOf M (.lsx xs) = some xs := rfl
theorem rSlD_s {lo hi : Option Int} : rSlD (.str x) lo hi M Q = (x.length ≤ sizeLine ∧ Q (.str (cutS x lo hi)) M) := rfl
theorem rSlD_t {lo hi : Option Int} : rSlD (.tup xs) lo hi M Q = (¬ (HT.sIx xs.length 0 lo = 0 ∧ HT.sIx xs.length xs.length hi = xs.length) ∧ Q (.tup (cutD xs lo hi)) M) := rfl
theorem rSlD_l {lo hi : Option Int} : rSlD (.lst xs) lo hi M Q = Q (.lst (cutD xs lo hi)) M := rfl
theorem rSlD_x {lo hi : Option Int} : rSlD (.lsx xs) lo hi M Q = Q (.lst (cutD xs lo hi)) M := rfl
theorem rLen_s : rLen [.str x] M Q = (x.length ≤ sizeLine ∧ Q (.int x.length) M) := rfl
theorem rLen_t : rLen [.tup xs] M Q = Q (.int xs.length) M := rfl
theorem rLen_l : rLen [.lst xs] M Q = Q (.int xs.length) M := rfl
theorem rLen_x : rLen [.lsx xs] M Q = Q (.int xs.length) M := rfl
theorem rLen_p {a : Addr} : rLen [.ptr a] M Q = (match lstOf M (.ptr a) with | some xs => Q (.int xs.length) M | none => False) := rfl
theorem rAbs_i : rAbs [.int i] M Q = Q (.int (if i < 0 then -i else i)) M := rfl
theorem rInt_i : rInt [.int i] M Q = Q (.int i) M := rfl
theorem rInt_b : rInt [.bl k] M Q = Q (.int (if k then 1 else 0)) M := rfl
theorem rToListA_t : rToListA [.tup xs] M Q = Q (.lst xs) M := rfl
theorem rToListA_l : rToListA [.lst xs] M Q = Q (.lst xs) M := rfl
theorem rToListA_s : rToListA [.str x] M Q = (x.length ≤ sizeLine ∧ Q (.lst (sgs x)) M) := rfl
theorem rToListM_t : rToListM [.tup xs] M Q = ∀ p, M p = none → Q (.ptr p) (up M p (.lst xs)) := rfl
theorem rToListM_l : rToListM [.lst xs] M Q = ∀ p, M p = none → Q (.ptr p) (up M p (.lst xs)) := rfl
theorem rToTup_t : rToTup [.tup xs] M Q = Q (.tup xs) M := rfl
theorem rToTup_l : rToTup [.lst xs] M Q = Q (.tup xs) M := rfl
theorem rToTup_p {a : Addr} : rToTup [.ptr a] M Q = (match lstOf M (.ptr a) with | some xs => Q (.tup xs) M | none => False) := rfl
theorem rSum_ap : rSum [d] M Q = ∃ ns : List Int, lstOf M d = some (ns.map D.int) ∧ Q (.int ns.sum) M := rfl
theorem rAll_ap : rAll [d] M Q = ∃ ns : List Bool, lstOf M d = some (ns.map D.bl) ∧ Q (.bl (ns.all id)) M := rfl
theorem rAny_ap : rAny [d] M Q = ∃ ns : List Bool, lstOf M d = some (ns.map D.bl) ∧ Q (.bl (ns.any id)) M := rfl
theorem rStrN_i : rStrN [.int n] M Q = (n.natAbs.log2 < 1920 ∧ Q (.str (toString n)) M) := rfl
theorem rMax2_ii : rMax2 [.int i, .int j] M Q = Q (.int (if j > i then j else i)) M := rfl
theorem rMin2_ii : rMin2 [.int i, .int j] M Q = Q (.int (if j < i then j else i)) M := rfl
theorem rS0_ap {C : Str → Prop} {f : Str → D} : rS0 C f (.str x) [] M Q = (C x ∧ Q (f x) M) := rfl
theorem rS1_ap {C : Str → Str → Prop} {f : Str → Str → D} : rS1 C f (.str x) [.str y] M Q = (C x y ∧ Q (f x y) M) := rfl
theorem tyD_s {T : String} : tyD T (.str x) M = (T = "str") := rfl
theorem tyD_p {T : String} {a : Addr} : tyD T (.ptr a) M = (T = "list" ∧ ∃ ds, lstOf M (.ptr a) = some ds) := rfl
theorem tyD_l {T : String} : tyD T (.lst xs) M = (T = "list" ∧ ∃ ds, lstOf M (.lst xs) = some ds) := rfl
theorem rJoin_l : rJoin (.str x) [.lst xs] M Q = ∃ ys : List Str, lstOf M (.lst xs) = some (ys.map D.str) ∧ (ys.map (·.length)).sum + ys.length * x.length ≤ 16777216 ∧ Q (.str (Txt.join x ys)) M := rfl
theorem rJoin_p {a : Addr} : rJoin (.str x) [.ptr a] M Q = ∃ ys : List Str, lstOf M (.ptr a) = some (ys.map D.str) ∧ (ys.map (·.length)).sum + ys.length * x.length ≤ 16777216 ∧ Q (.str (Txt.join x ys)) M := rfl
theorem rAppend_p {a : Addr} : rAppend (.ptr a) [d] M Q = (match M a with | some (.lst ds) => ds.length < sizeLine ∧ Q .non (up M a (.lst (ds ++ [d]))) | _ => False) := rfl
theorem rPop_p {a : Addr} : rPop (.ptr a) [] M Q = (match M a with | some (.lst ds) => ∃ y, ds[ds.length - 1]? = some y ∧ Q y (up M a (.lst ds.dropLast)) | _ => False) := rfl
/-! ### loops by typed data -/
/-- for, by a state that each item moves on -/
theorem for_fold {α β : Type} {ti : DTI} {kp : Mp → Prop} {M1 : Mp} (xs : List α) (enc : α → D) (s0 : β) (step : β → α → β) (inv : β → DSt → Mp → Prop)
    (hi : ∀ R, R (xs.map enc) kp M1 → ti env M R) (h0 : inv s0 env M1) (hk : ∀ s env M, inv s env M → kp M)
    (hs : ∀ s x env M, x ∈ xs → inv s env M → g (enc x) env M fun env' M' => t { E with nx := inv (step s x), ct := inv (step s x), bk := E.nx } env' M')
    (hd : ∀ env M, inv (xs.foldl step s0) env M → E.nx env M) : dFor ti g t E env M := by
  refine hi _ ⟨fun i env M => inv ((xs.take i).foldl step s0) env M, h0, fun i env M => hk _ env M, fun i d env M hx p => ?_, fun env M p => ?_⟩
  · rw [List.getElem?_map] at hx
    cases q : xs[i]? with
    | none => rw [q] at hx; cases hx
    | some x =>
      rw [q] at hx
      cases hx
      have e : (xs.take (i + 1)).foldl step s0 = step ((xs.take i).foldl step s0) x := by rw [List.take_add_one, q]; simp
      dsimp only
      rw [e]
      exact hs _ x env M (List.mem_of_getElem? q) p
  · rw [List.length_map, List.take_length] at p
    exact hd env M p
/-- .. by the part that is done -/
theorem for_pre {α : Type} {ti : DTI} {kp : Mp → Prop} {M1 : Mp} (xs : List α) (enc : α → D) (inv : List α → DSt → Mp → Prop)
    (hi : ∀ R, R (xs.map enc) kp M1 → ti env M R) (h0 : inv [] env M1) (hk : ∀ s env M, inv s env M → kp M)
    (hs : ∀ pre x post env M, xs = pre ++ x :: post → inv pre env M → g (enc x) env M fun env' M' => t { E with nx := inv (pre ++ [x]), ct := inv (pre ++ [x]), bk := E.nx } env' M')
    (hd : ∀ env M, inv xs env M → E.nx env M) : dFor ti g t E env M := by
  refine hi _ ⟨fun i env M => inv (xs.take i) env M, by simpa using h0, fun i env M => hk _ env M, fun i d env M hx p => ?_, fun env M p => ?_⟩
  · rw [List.getElem?_map] at hx
    cases q : xs[i]? with
    | none => rw [q] at hx; cases hx
    | some x =>
      rw [q] at hx
      cases hx
      have hi : i < xs.length := (List.getElem?_eq_some_iff.mp q).1
      have e : xs.take (i + 1) = xs.take i ++ [x] := by rw [List.take_add_one, q]; rfl
      dsimp only
      rw [e]
      refine hs _ x (xs.drop (i + 1)) env M ?_ p
      have e2 : xs.drop i = x :: xs.drop (i + 1) := by
        rw [List.drop_eq_getElem_cons hi]
        congr 1
        exact Option.some.inj ((List.getElem?_eq_getElem hi).symm.trans q)
      rw [← e2, List.take_append_drop]
  · rw [List.length_map, List.take_length] at p
    exact hd env M p
/-- a comprehension whose turns leave M as it is -/
theorem lc_fm {α : Type} {ti : DTI} {dg : DTG} {te : DTE} {vs : List Nat} {kp : Mp → Prop} {M1 : Mp} (xs : List α) (enc f : α → D) (p : α → Bool) (hi : ∀ R, R (xs.map enc) kp M1 → ti env M R) (hk : kp M1) (hz : xs.length ≤ sizeLine)
    (h : ∀ x, x ∈ xs → ∀ (R : DQ) (S : Mp → Prop), (p x = true → R (f x) M1) → (p x = false → S M1) → dg (enc x) (wipeD env vs) M1 fun env2 M2 => tt env2 M2 fun b M3 => if b = true then te env2 M3 R else S M3)
    (q : Q (.lst ((xs.filter p).map f)) M1) : dLc ti dg tt te vs env M Q := by
  refine hi _ ⟨fun i acc M' => M' = M1 ∧ acc = ((xs.take i).filter p).map f ∧ i ≤ xs.length, ⟨rfl, by simp, Nat.zero_le _⟩, fun _ _ _ z => by rw [z.1]; exact hk, fun i d acc M' hd ⟨e1, e2, e3⟩ => ?_, fun acc M' ⟨e1, e2, e3⟩ => ?_⟩
  · subst e1 e2
    rw [List.getElem?_map] at hd
    cases q : xs[i]? with
    | none => rw [q] at hd; cases hd
    | some x =>
      rw [q] at hd
      cases hd
      have hi : i < xs.length := (List.getElem?_eq_some_iff.mp q).1
      have e : xs.take (i + 1) = xs.take i ++ [x] := by rw [List.take_add_one, q]; rfl
      refine h x (List.mem_of_getElem? q) _ _ (fun hp => ⟨?_, rfl, ?_, hi⟩) fun hp => ⟨rfl, ?_, hi⟩
      · have := List.length_filter_le p (xs.take i)
        rw [List.length_take] at this
        rw [List.length_map]
        omega
      · rw [e, List.filter_append, List.map_append]; simp [hp]
      · rw [e, List.filter_append]; simp [hp]
  · rw [List.length_map, List.take_length] at e2
    rw [e1, e2]
    exact q
theorem lc_m {α : Type} {ti : DTI} {dg : DTG} {te : DTE} {vs : List Nat} {kp : Mp → Prop} {M1 : Mp} (xs : List α) (enc f : α → D) (hi : ∀ R, R (xs.map enc) kp M1 → ti env M R) (hk : kp M1) (hz : xs.length ≤ sizeLine)
    (h : ∀ x, x ∈ xs → ∀ R : DQ, R (f x) M1 → dg (enc x) (wipeD env vs) M1 fun env2 M2 => te env2 M2 R)
    (q : Q (.lst (xs.map f)) M1) : dLc ti dg dYes te vs env M Q :=
  lc_fm xs enc f (fun _ => true) hi hk hz (fun x hx R S h1 _ => h x hx R (h1 rfl)) (by rw [List.filter_eq_self.mpr (fun _ _ => rfl)]; exact q)
/-- .. whose turns may change M -/
theorem lc_pre {α : Type} {ti : DTI} {dg : DTG} {te : DTE} {vs : List Nat} {kp : Mp → Prop} {M1 : Mp} (xs : List α) (enc : α → D) (inv : List α → List D → Mp → Prop) (hi : ∀ R, R (xs.map enc) kp M1 → ti env M R) (h0 : inv [] [] M1) (hk : ∀ s acc M, inv s acc M → kp M) (hz : ∀ s acc M, inv s acc M → acc.length < sizeLine)
    (h : ∀ pre x post acc M, xs = pre ++ x :: post → inv pre acc M → dg (enc x) (wipeD env vs) M fun env2 M2 => tt env2 M2 fun b M3 => if b = true then te env2 M3 fun y M4 => inv (pre ++ [x]) (acc ++ [y]) M4 else inv (pre ++ [x]) acc M3)
    (mono : ∀ d env M (R R' : DSt → Mp → Prop), (∀ e m, R e m → R' e m) → dg d env M R → dg d env M R') (monoT : ∀ env M (R R' : Bool → Mp → Prop), (∀ e m, R e m → R' e m) → tt env M R → tt env M R') (monoE : ∀ env M (R R' : DQ), (∀ e m, R e m → R' e m) → te env M R → te env M R')
    (hd : ∀ acc M, inv xs acc M → Q (.lst acc) M) : dLc ti dg tt te vs env M Q := by
  refine hi _ ⟨fun i acc M => inv (xs.take i) acc M, by simpa using h0, fun i acc M => hk _ _ M, fun i d acc M hx p => ?_, fun acc M p => ?_⟩
  · rw [List.getElem?_map] at hx
    cases q : xs[i]? with
    | none => rw [q] at hx; cases hx
    | some x =>
      rw [q] at hx
      cases hx
      have hi : i < xs.length := (List.getElem?_eq_some_iff.mp q).1
      have e : xs.take (i + 1) = xs.take i ++ [x] := by rw [List.take_add_one, q]; rfl
      have e2 : xs.drop i = x :: xs.drop (i + 1) := by
        rw [List.drop_eq_getElem_cons hi]
        congr 1
        exact Option.some.inj ((List.getElem?_eq_getElem hi).symm.trans q)
      dsimp only
      rw [e]
      refine mono _ _ _ _ _ (fun env2 M2 h2 => monoT _ _ _ _ (fun b M3 h3 => ?_) h2) (h _ x (xs.drop (i + 1)) acc M (by rw [← e2, List.take_append_drop]) p)
      cases b with
      | true => exact monoE _ _ _ _ (fun y M4 h4 => ⟨hz _ _ _ p, h4⟩) h3
      | false => exact h3
  · rw [List.length_map, List.take_length] at p
    exact hd acc M p
end
end DL
namespace DL
open PySem PySem.Spec PyProof.Rows L2
/-! ### instances -/
def insOf (M : Mp) : D → Option (Addr × List (Str × D))
  | .ptr a => match M a with | some (.ins C fs) => some (C, fs) | _ => none
  | .obj C fs => some (C, fs)
  | _ => none
section
variable {K : PySem.W.Frag} {G : GI K}
theorem insOf_ok {F H : Hp} {M : Mp} {d : D} {v : V} {C : Addr} {fs : List (Str × D)} (c : Core K F H M) (r : Rep K F d v) (h : insOf M d = some (C, fs)) : ∃ a dx vs, v = .ref a ∧ H a = some (.ins C dx vs) ∧ RepF K F fs vs := by
  cases d with
  | ptr a =>
    rw [Rep] at r
    simp only [insOf] at h
    split at h
    · rename_i g
      cases h
      obtain ⟨_, o, ho, dx, vs, e1, e2⟩ := c.mem a _ g
      subst e1
      exact ⟨a, dx, vs, r, ho, e2⟩
    · cases h
  | obj C' gs =>
    simp only [insOf] at h
    cases h
    rw [Rep] at r
    obtain ⟨a, dx, vs, e1, e2, e3⟩ := r
    exact ⟨a, dx, vs, e1, c.same _ _ e2, e3⟩
  | _ => simp [insOf] at h
/-- a class of the text -/
structure Kls (K : PySem.W.Frag) (C : Addr) (fields : List Str) : Prop where
  cls : Cls K C
  no : ∀ f ∈ fields, NoAttr K C f
structure CalM (P : Program) (w : World) (K : PySem.W.Frag) (mg : Str → Option Value) (base : Heap) (k : Nat) (C : Addr) (m : Str) (ps : List Str) (sp : DSp) (f : Addr) (fd : FuncData) : Prop where
  fn : FnOk P w K mg base CX0 k f fd ps (lSp K sp)
  cls : Cls K C
  me : Meth K C m f
  b : Binds K fd ps []
structure CalI (P : Program) (w : World) (K : PySem.W.Frag) (mg : Str → Option Value) (base : Heap) (k : Nat) (x : Str) (C : Addr) (ps : List Str) (sp : DSp) (f : Addr) (fd : FuncData) : Prop where
  fn : FnOk P w K mg base CX0 k f fd ps (lSp K sp)
  mk1 : Mk K C f
  g : mg x = some (.ref C)
  b : Binds K fd ps []
end
section
variable {X : Cx} {GX : GI X.K} {K : PySem.W.Frag} {G : GI K} {a b c e o : Expr} {es : List Expr} {ta tb tv : DTE} {pos p pos' apos : Pos} {tt : DTT} {tr tk : DTA} {k : Nat} {f C : Addr} {fd : FuncData} {ps ks : List Str} {sp : DSp} {x m n : Str} {fl : List Str}
def dFld (C : Addr) (n : Str) (ta : DTE) : DTE := fun env M Q => ta env M fun x M1 => match insOf M1 x with
  | some (C', fs) => C' = C ∧ ∃ d, fs.lookup n = some d ∧ Q d M1
  | none => False
theorem de_fld (T : Kls X.K C fl) (he : DE X e ta) (hn : n ∈ fl := by decide +kernel) (hb : attributeBase e n X.env (eval e X.env) = eval e X.env := by rfl) : DE X (.Attribute e n pos) (dFld C n ta) :=
  PE.imp (pe_fld he hb) fun σ H Q ⟨F, env, M, Q0, he, hc, ht, hp⟩ => ⟨F, env, M, _, he, hc, ht, fun d M1 F1 H1 v q s1 f1 c1 r1 => by
    revert q
    dsimp only
    split <;> intro q
    · rename_i C' fs g
      obtain ⟨q0, d', q1, q2⟩ := q
      subst q0
      obtain ⟨a, dx, vs, e1, e2, e3⟩ := insOf_ok c1 r1 g
      obtain ⟨u, h1, h2⟩ := e3.look q1
      exact ⟨a, C', dx, vs, u, e1, e2, T.cls, T.no n hn, h1, (hp.after s1 f1).val c1 q2 h2⟩
    · exact q.elim⟩
def dSetF (C : Addr) (n : Str) (ta tv : DTE) : DTS := fun E env M => tv env M fun d M1 => ta env M1 fun x M2 => match x with
  | .ptr a => (match M2 a with
    | some (.ins C' fs) => C' = C ∧ fs.length < 1000 ∧ E.nx env (up M2 a (.ins C (putD n d fs)))
    | _ => False)
  | _ => False
theorem ptr_ins {F H : Hp} {M : Mp} {x C : Addr} {ds : List (Str × D)} (c : Core K F H M) (h : M x = some (.ins C ds)) : ∃ dx vs, H x = some (.ins C dx vs) ∧ RepF K F ds vs := by
  obtain ⟨_, o, ho, dx, vs, e1, e2⟩ := c.mem x _ h
  subst e1
  exact ⟨dx, vs, ho, e2⟩
theorem ds_setF (T : Kls X.K C fl) (ho : DE X o ta) (hv : DE X e tv) (hn : n ∈ fl := by decide +kernel) (hs : swapsWith e (some (.Attribute o n pos')) pos.line X.env = pure false := by rfl) : DS X (.Assign [.Attribute o n pos'] e pos) (dSetF C n ta tv) :=
  PS.imp (ps_fld ho hv hs) fun E σ H ⟨F, env, M, D0, he, hc, ht, hp⟩ => ⟨F, env, M, _, he, hc, ht, fun d M1 F1 H1 v q s1 f1 c1 r1 => ⟨F1, env, M1, _, he.mono s1, c1, q, fun d2 M2 F2 H2 v2 q2 s2 f2 c2 r2 => by
    revert q2
    dsimp only
    split <;> intro q2
    · rename_i a
      split at q2
      · rename_i C' fs g
        obtain ⟨q0, q1, q3⟩ := q2
        subst q0
        rw [Rep] at r2
        obtain ⟨dx, vs, e1, e2⟩ := ptr_ins c2 g
        obtain ⟨c3, f3⟩ := c2.write (o := .ins C' dx (putF n v vs)) (mo := .ins C' (putD n d fs)) g ⟨dx, _, rfl, RepF.put (r1.mono s2) e2⟩
        exact ⟨a, C', dx, vs, r2, e1, T.cls, T.no n hn, by rw [e2.len]; exact q1, hp.nx _ _ _ _ _ q3 (s1.trans s2) ((f1.trans f2).trans f3) c3 ((he.mono s1).mono s2)⟩
      · exact q2.elim
    · exact q2.elim⟩⟩
def dAugF (C : Addr) (n : Str) (ta tv : DTE) (rd : D2) : DTS := fun E env M => ta env M fun x M1 => match x with
  | .ptr a => (match M1 a with
    | some (.ins C' fs) => C' = C ∧ ∃ d, fs.lookup n = some d ∧ tv env M1 fun y M2 => rd d y M2 fun z M3 => (match M3 a with
      | some (.ins C2 fs2) => C2 = C ∧ fs2.length < 1000 ∧ E.nx env (up M3 a (.ins C (putD n z fs2)))
      | _ => False)
    | _ => False)
  | _ => False
theorem ds_augF {op : Operator} {r : R2} {rd : D2} (T : Kls X.K C fl) (ho : DE X o ta) (hv : DE X e tv) (hop : OpR X (inplaceOp op) r) (l : LR2 X.K r rd) (hn : n ∈ fl := by decide +kernel) : DS X (.AugAssign (.Attribute o n pos') op e pos) (dAugF C n ta tv rd) :=
  PS.imp (ps_fldaug (rd := r) ho hv hop) fun E σ H ⟨F, env, M, D0, he, hc, ht, hp⟩ => ⟨F, env, M, _, he, hc, ht, fun d M1 F1 H1 v q s1 f1 c1 r1 => by
    revert q
    dsimp only
    split <;> intro q
    · rename_i a
      split at q
      · rename_i C' fs g
        obtain ⟨q0, d0, q1, q2⟩ := q
        subst q0
        rw [Rep] at r1
        obtain ⟨dx, vs, e1, e2⟩ := ptr_ins c1 g
        obtain ⟨u, h1, h2⟩ := e2.look q1
        refine ⟨a, C', dx, vs, u, r1, e1, T.cls, T.no n hn, h1, F1, env, M1, _, he.mono s1, c1, q2, fun y M2 F2 H2 v2 q3 s2 f2 c2 r2 => l c2 (h2.mono s2) r2 q3 fun z M3 F3 H3 v3 q4 s3 f3 c3 r3 => ?_⟩
        revert q4
        split <;> intro q4
        · rename_i C2 fs2 g2
          obtain ⟨p0, p1, p2⟩ := q4
          subst p0
          obtain ⟨dx2, vs2, k1, k2⟩ := ptr_ins c3 g2
          obtain ⟨c4, f4⟩ := c3.write (o := .ins C2 dx2 (putF n v3 vs2)) (mo := .ins C2 (putD n z fs2)) g2 ⟨dx2, _, rfl, RepF.put r3 k2⟩
          exact ⟨dx2, vs2, k1, by rw [k2.len]; exact p1, hp.nx _ _ _ _ _ p2 ((s1.trans s2).trans s3) (((f1.trans f2).trans f3).trans f4) c4 (((he.mono s1).mono s2).mono s3)⟩
        · exact q4.elim
      · exact q.elim
    · exact q.elim⟩
/-- o.m(..) -/
def dMeth (C : Addr) (m : Str) (sp : DSp) (ta : DTE) (tr : DTA) : DTE := fun env M Q => ta env M fun x M1 => match insOf M1 x with
  | some (C', fs) => C' = C ∧ fs.lookup m = none ∧ tr env M1 fun ds M2 => sp (x :: ds) M2 Q noX
  | none => False
theorem l_meth : ∀ σ H Q, lE K (dMeth C m sp ta tr) σ H Q → tMeth C m (lSp K sp) [] E0 (lE K ta) (lA K tr) σ H Q := fun σ H Q ⟨F, env, M, Q0, he, hc, ht, hp⟩ =>
  ⟨F, env, M, _, he, hc, ht, fun d M1 F1 H1 v q s1 f1 c1 r1 => by
    revert q
    dsimp only
    split <;> intro q
    · rename_i C' fs g
      obtain ⟨q0, q1, q2⟩ := q
      subst q0
      obtain ⟨a, dx, vs, e1, e2, e3⟩ := insOf_ok c1 r1 g
      refine ⟨a, dx, vs, e1, e2, e3.look0 q1, F1, env, M1, _, he.mono s1, c1, q2, fun ds M2 F2 H2 ws q3 s2 f2 c2 r2 => ?_⟩
      show lSp K sp (v :: (ws ++ [])) H2 Q E0
      rw [List.append_nil]
      exact ⟨F2, M2, d :: ds, Q0, noX, c2.toCoreP, Reps.cons (r1.mono s2) r2, q3, ((hp.after s1 f1).after s2 f2).plain c2, postX0⟩
    · exact q.elim⟩
theorem de_meth {pl : Sem Bool} (G : CalM X.prog X.w X.K X.mg X.base k C m ps sp f fd) (hr : Room k X.A) (ho : DE X o ta) (ha : DA X (e :: es) tr)
    (hst : starEach (e :: es) X.env = (false, eval e X.env) :: starEach es X.env := by rfl) (hpl : (backTo pos (starEach es X.env)).any (·.1) = false := by rfl)
    (ht : eval (.Call (.Attribute o m apos) (e :: es) [] pos) X.env = (do
      let ov ← eval o X.env
      standAt apos.atName
      let (f, first) ← holding [ov] (getMethod ov m pl)
      callWith pos f first (backTo pos (starEach (e :: es) X.env)) (backToKw pos (keywordEach [] X.env))) := by rfl) : DE X (.Call (.Attribute o m apos) (e :: es) [] pos) (dMeth C m sp ta tr) :=
  PE.imp (pe_meth ho G.cls G.me G.fn hr G.b .nil pass0 ha hst hpl ht) l_meth
theorem de_meth0 {pl : Sem Bool} (G : CalM X.prog X.w X.K X.mg X.base k C m ps sp f fd) (hr : Room k X.A) (ho : DE X o ta)
    (ht : eval (.Call (.Attribute o m apos) [] [] pos) X.env = (do
      let ov ← eval o X.env
      standAt apos.atName
      let (f, first) ← holding [ov] (getMethod ov m pl)
      callWith pos f first (backTo pos (starEach [] X.env)) (backToKw pos (keywordEach [] X.env))) := by rfl) : DE X (.Call (.Attribute o m apos) [] [] pos) (dMeth C m sp ta dNil) :=
  PE.imp (pe_meth0 ho G.cls G.me G.fn hr G.b .nil pass0 ht) fun σ H Q h => by
    obtain ⟨F, env, M, Q1, he, hc, ht, hp⟩ := l_meth σ H Q h
    refine ⟨F, env, M, Q1, he, hc, ht, fun d M' F' H' v q s f c r => ?_⟩
    obtain ⟨a, dx, fs, e1, e2, e3, F2, env2, M2, Q2, g1, g2, g3, g4⟩ := hp d M' F' H' v q s f c r
    exact ⟨a, dx, fs, e1, e2, e3, g4 [] M2 F2 H' [] g3 (Same.refl _) Fr.refl g2 Reps.nil⟩
/-- C(..) -/
def dMake (C : Addr) (sp : DSp) (tr : DTA) : DTE := fun env M Q => tr env M fun ds M1 => ∀ x, M1 x = none → sp (.ptr x :: ds) (up M1 x (.ins C [])) (fun v M2 => v = .non ∧ Q (.ptr x) M2) noX
theorem l_make : ∀ σ H Q, lE K (dMake C sp tr) σ H Q → tMake C (lSp K sp) [] E0 (lA K tr) σ H Q := fun σ H Q ⟨F, env, M, Q0, he, hc, ht, hp⟩ =>
  ⟨F, env, M, _, he, hc, ht, fun ds M1 F1 H1 vs q s1 f1 c1 r1 x dx hx hdx ne => by
    rw [List.append_nil]
    obtain ⟨n1, n2⟩ := c1.nones hx
    obtain ⟨d1, d2⟩ := c1.nones hdx
    -- the instance's own dict: outside of what is known
    have c2 : Core K F1 (upd H1 dx (.own x)) M1 := c1.out hdx _
    have f2 : Fr F1 H1 M1 F1 (upd H1 dx (.own x)) M1 := fun a o e n => ⟨by rw [upd_ne (ne_of_none e hdx)]; exact e, n, fun z => z⟩
    have hx2 : upd H1 dx (.own x) x = none := by rw [upd_ne (Ne.symm ne)]; exact hx
    obtain ⟨c3, f3⟩ := c2.newM (mo := .ins C []) hx2 (o := .ins C dx []) ⟨dx, [], rfl, by rw [RepF]⟩
    have hp3 := (hp.after s1 f1).after (Same.refl _) (f2.trans f3)
    refine ⟨F1, _, .ptr x :: ds, _, noX, c3.toCoreP, Reps.cons (by rw [Rep]) r1, q x n2, fun d M4 F4 H4 v q4 s4 f4 c4 r4 => ?_, postX0⟩
    obtain ⟨e0, q4⟩ := q4
    subst e0
    rw [Rep] at r4
    exact ⟨r4, hp3 _ M4 F4 H4 _ q4 s4 f4 (c3.to c4 s4 f4) (by rw [Rep])⟩⟩
theorem de_make (G : CalI X.prog X.w X.K X.mg X.base k x C ps sp f fd) (hr : Room (k + 1) X.A) (ha : DA X (e :: es) tr) (hg : Gl X x := by rfl) (hdb : (x == ("__debug__" : Str)) = false := by decide) (he : starEach (e :: es) X.env = (false, eval e X.env) :: starEach es X.env := by rfl)
    (hpl : (backTo pos (starEach es X.env)).any (·.1) = false := by rfl) : DE X (.Call (.Name x p) (e :: es) [] pos) (dMake C sp tr) :=
  PE.imp (pe_make G.mk1 G.fn hr hg G.g G.b .nil pass0 ha hdb he hpl) l_make
/-- e.f, a property -/
def dProp (C : Addr) (sp : DSp) (ta : DTE) : DTE := fun env M Q => ta env M fun x M1 => match insOf M1 x with
  | some (C', fs) => C' = C ∧ sp [x] M1 Q noX
  | none => False
structure CalP (P : Program) (w : World) (K : PySem.W.Frag) (mg : Str → Option Value) (base : Heap) (k : Nat) (C : Addr) (n : Str) (sp : DSp) (pr f : Addr) (fd : FuncData) : Prop where
  fn : FnOk P w K mg base CX0 k f fd ["self"] (lSp K sp)
  cls : Cls K C
  pr : PropOf K C n pr f
  b : Binds K fd ["self"] []
theorem de_prop {pr : Addr} (G : CalP X.prog X.w X.K X.mg X.base k C n sp pr f fd) (hr : Room (k + 1) X.A) (he : DE X e ta) (hab : attributeBase e n X.env (eval e X.env) = eval e X.env := by rfl) : DE X (.Attribute e n pos) (dProp C sp ta) :=
  PE.imp (pe_prop he G.cls G.pr G.fn hr G.b .nil pass0 hab) fun σ H Q ⟨F, env, M, Q0, he, hc, ht, hp⟩ => ⟨F, env, M, _, he, hc, ht, fun d M1 F1 H1 v q s1 f1 c1 r1 => by
    revert q
    dsimp only
    split <;> intro q
    · rename_i C' fs g
      obtain ⟨q0, q1⟩ := q
      subst q0
      obtain ⟨a, dx, vs, e1, e2, e3⟩ := insOf_ok c1 r1 g
      subst e1
      exact ⟨a, dx, vs, rfl, e2, F1, M1, [d], Q0, noX, c1.toCoreP, Reps.one r1, q1, (hp.after s1 f1).plain c1, postX0⟩
    · exact q.elim⟩
end
end DL
namespace DL
open PySem PySem.Spec PyProof.Rows L2
/-! ### comprehensions of two clauses -/
def dLc2 (ti : DTI) (g : DTG) (tt : DTT) (ti1 : DTI) (g1 : DTG) (tt1 : DTT) (te : DTE) (vs vs1 : List Nat) : DTE := fun env M Q => ti env M fun ds kp M1 => ∃ Pv : Nat → List D → Mp → Prop, Pv 0 [] M1 ∧ (∀ i acc M, Pv i acc M → kp M) ∧
  (∀ i d acc M, ds[i]? = some d → Pv i acc M → g d (wipeD env vs) M fun env2 M2 => tt env2 M2 fun b M3 => if b = true then
    ti1 env2 M3 fun ds1 kp1 M4 => ∃ Pv1 : Nat → List D → Mp → Prop, Pv1 0 acc M4 ∧ (∀ j acc M, Pv1 j acc M → kp1 M) ∧
      (∀ j d1 acc1 M, ds1[j]? = some d1 → Pv1 j acc1 M → g1 d1 (wipeD env2 vs1) M fun env3 M5 => tt1 env3 M5 fun b M6 => if b = true then te env3 M6 fun y M7 => acc1.length < sizeLine ∧ Pv1 (j + 1) (acc1 ++ [y]) M7 else Pv1 (j + 1) acc1 M6) ∧
      ∀ acc1 M, Pv1 ds1.length acc1 M → Pv (i + 1) acc1 M
    else Pv (i + 1) acc M3) ∧
  ∀ acc M, Pv ds.length acc M → Q (.lst acc) M
/-- the state of a comprehension: its list at L -/
def LcS (K : PySem.W.Frag) [GI K] (F1 H1 : Hp) (M1 : Mp) (L : Addr) (P : List D → Mp → Prop) (H' : Hp) : Prop :=
  ∃ F' M' acc va, Same F1 F' ∧ Fr F1 H1 M1 F' H' M' ∧ Core K F' H' M' ∧ H' L = some (.lst va) ∧ F' L = none ∧ M' L = none ∧ Reps K F' acc va ∧ P acc M'
section
variable {X : Cx} {GX : GI X.K} {K : PySem.W.Frag} {G : GI K}
theorem lcs_app {F1 H1 F5 H5 : Hp} {M1 M5 : Mp} {L : Addr} {P : List D → Mp → Prop} {acc : List D} {va : List V} {z : D} {v5 : V} (c1 : Core K F1 H1 M1) (hL : H1 L = none) (s : Same F1 F5) (f : Fr F1 H1 M1 F5 H5 M5) (c5 : Core K F5 H5 M5) (hv5 : H5 L = some (.lst va)) (hF : F5 L = none) (hM : M5 L = none) (ra : Reps K F5 acc va) (r5 : Rep K F5 z v5)
    (p : P (acc ++ [z]) M5) : LcS K F1 H1 M1 L P (upd H5 L (.lst (va ++ [v5]))) := by
  have fr5 : Fr F1 H1 M1 F5 (upd H5 L (.lst (va ++ [v5]))) M5 := fun a o e n => by
    obtain ⟨x1, x2, x3⟩ := f a o e n
    exact ⟨by rw [upd_ne (ne_of_none e hL)]; exact x1, x2, x3⟩
  refine ⟨F5, M5, acc ++ [z], va ++ [v5], s, fr5, c1.to ⟨fun b u e => ?_, fun a mo e => ?_⟩ s fr5, upd_same, hF, hM, ra.app (Reps.one r5), p⟩
  · have hb : b ≠ L := fun z => by rw [z, hF] at e; cases e
    rw [upd_ne hb]; exact c5.same b u e
  · obtain ⟨x1, o, x2, x3⟩ := c5.mem a mo e
    have ha : a ≠ L := fun z => by rw [z, hM] at e; cases e
    exact ⟨x1, o, by rw [upd_ne ha]; exact x2, x3⟩
theorem l_lc2 {ti ti1 : DTI} {g g1 : TG} {dg dg1 : DTG} {tt tt1 : DTT} {te : DTE} {vs vs1 : List Nat} (tl : TgL K g dg vs) (tl1 : TgL K g1 dg1 vs1) : ∀ σ H Q, lE K (dLc2 ti dg tt ti1 dg1 tt1 te vs vs1) σ H Q → tLc2 (lI K ti) g (lT K tt) (lI K ti1) g1 (lT K tt1) (lE K te) vs vs1 σ H Q := fun σ H Q ⟨F, env, M, Q0, he, hc, ht, hp⟩ => by
  refine ⟨F, env, M, _, he, hc, ht, fun ds kp M1 F1 H1 J q s1 f1 c1 Y L hL => ?_⟩
  obtain ⟨Pv, p0, hk, turn, fin⟩ := q
  have n1 := c1.nones hL
  have c1' : Core K F1 (upd H1 L (.lst [])) M1 := c1.out hL _
  have fL : Fr F1 H1 M1 F1 (upd H1 L (.lst [])) M1 := fun a o e n => ⟨by rw [upd_ne (ne_of_none e hL)]; exact e, n, fun z => z⟩
  refine ⟨fun i m H' => m = ds.length - i ∧ i ≤ ds.length ∧ LcS K F1 H1 M1 L (Pv i) H', ⟨_, rfl, Nat.zero_le _, F1, M1, [], [], Same.refl _, fL, c1', upd_same, n1.1, n1.2, Reps.nil, p0⟩, ?_⟩
  rintro i m H2 ⟨rfl, hle, F2, M2, acc, va, s2, f2, c2, hv, hF, hM, ra, p2⟩
  have kk := hk _ _ _ p2
  by_cases hlt : i < ds.length
  · refine .inr ⟨Y.go s2 c2 kk hlt, LcS K F1 H1 M1 L (Pv (i + 1)), fun H' z => ⟨_, by omega, rfl, hlt, z⟩, fun x H3 y => ?_⟩
    obtain ⟨d, F3, hd, s3, c3, f3, r3⟩ := Y.yld s2 c2 kk hlt y
    obtain ⟨hv3, _, hF3⟩ := f3 L _ hv hM
    refine tl (((he.mono s1).mono (s2.trans s3)).wipe vs) c3 r3 (turn i d acc M2 hd p2) fun σ' env' hw he' q' => ⟨hw.trans (wipe_idem vs), F3, env', M2, _, he', c3, q', fun b M4 F4 H4 q4 s4 f4 c4 => ?_⟩
    obtain ⟨hv4, hM4, hF4⟩ := f4 L _ hv3 hM
    have hF4' := hF4 (hF3 hF)
    have S4 := s2.trans (s3.trans s4)
    have R4 := f2.trans (f3.trans f4)
    have ra4 := ra.mono (s3.trans s4)
    cases b with
    | false => exact ⟨F4, M4, acc, va, S4, R4, c4, hv4, hF4', hM4, ra4, q4⟩
    | true =>
      rw [if_pos rfl] at q4 ⊢
      refine ⟨F4, env', M4, _, he'.mono s4, c4, q4, fun ds1 kp1 M5 F5 H5 J1 q5 s5 f5 c5 Y1 => ?_⟩
      obtain ⟨Pv1, p10, hk1, turn1, fin1⟩ := q5
      obtain ⟨hv5, hM5, hF5⟩ := f5 L _ hv4 hM4
      refine ⟨fun j k H' => k = ds1.length - j ∧ j ≤ ds1.length ∧ ∃ F' M' acc va, Same F5 F' ∧ Same F1 F' ∧ Fr F1 H1 M1 F' H' M' ∧ Core K F' H' M' ∧ H' L = some (.lst va) ∧ F' L = none ∧ M' L = none ∧ Reps K F' acc va ∧ Pv1 j acc M',
        ⟨_, rfl, Nat.zero_le _, F5, M5, acc, va, Same.refl _, S4.trans s5, R4.trans f5, c5, hv5, hF5 hF4', hM5, ra4.mono s5, p10⟩, ?_⟩
      rintro j k H6 ⟨rfl, hle1, F6, M6, acc1, va1, s6, S6, R6, c6, hv6, hF6, hM6, ra6, p6⟩
      have kk1 := hk1 _ _ _ p6
      by_cases hlt1 : j < ds1.length
      · refine .inr ⟨Y1.go s6 c6 kk1 hlt1, fun H' => ∃ F' M' acc va, Same F5 F' ∧ Same F1 F' ∧ Fr F1 H1 M1 F' H' M' ∧ Core K F' H' M' ∧ H' L = some (.lst va) ∧ F' L = none ∧ M' L = none ∧ Reps K F' acc va ∧ Pv1 (j + 1) acc M', fun H' z => ⟨_, by omega, rfl, hlt1, z⟩, fun x1 H7 y1 => ?_⟩
        obtain ⟨d1, F7, hd1, s7, c7, f7, r7⟩ := Y1.yld s6 c6 kk1 hlt1 y1
        obtain ⟨hv7, _, hF7⟩ := f7 L _ hv6 hM6
        refine tl1 (((he'.mono s4).mono (s5.trans (s6.trans s7))).wipe vs1) c7 r7 (turn1 j d1 acc1 M6 hd1 p6) fun σ3 env3 hw3 he3 q3 => ⟨hw3.trans (wipe_idem vs1), F7, env3, M6, _, he3, c7, q3, fun b1 M8 F8 H8 q8 s8 f8 c8 => ?_⟩
        obtain ⟨hv8, hM8, hF8⟩ := f8 L _ hv7 hM6
        have hF8' := hF8 (hF7 hF6)
        have S8 := S6.trans (s7.trans s8)
        have R8 := R6.trans (f7.trans f8)
        have ra8 := ra6.mono (s7.trans s8)
        cases b1 with
        | false => exact ⟨F8, M8, acc1, va1, s6.trans (s7.trans s8), S8, R8, c8, hv8, hF8', hM8, ra8, q8⟩
        | true =>
          rw [if_pos rfl] at q8 ⊢
          refine ⟨F8, env3, M8, _, he3.mono s8, c8, q8, fun z M9 F9 H9 v9 q9 s9 f9 c9 r9 => ?_⟩
          obtain ⟨hv9, hM9, hF9⟩ := f9 L _ hv8 hM8
          have ra9 := ra8.mono s9
          have hF9' := hF9 hF8'
          have fr9 : Fr F1 H1 M1 F9 (upd H9 L (.lst (va1 ++ [v9]))) M9 := fun a o e n => by
            obtain ⟨y1, y2, y3⟩ := (R8.trans f9) a o e n
            exact ⟨by rw [upd_ne (ne_of_none e hL)]; exact y1, y2, y3⟩
          refine ⟨va1, hv9, by rw [ra9.len]; exact q9.1, F9, M9, acc1 ++ [z], va1 ++ [v9], (s6.trans (s7.trans s8)).trans s9, S8.trans s9, fr9, c1.to ⟨fun b u e => ?_, fun a mo e => ?_⟩ (S8.trans s9) fr9, upd_same, hF9', hM9, ra9.app (Reps.one r9), q9.2⟩
          · have hb : b ≠ L := fun z => by rw [z, hF9'] at e; cases e
            rw [upd_ne hb]; exact c9.same b u e
          · obtain ⟨y1, o, y2, y3⟩ := c9.mem a mo e
            have ha : a ≠ L := fun z => by rw [z, hM9] at e; cases e
            exact ⟨y1, o, by rw [upd_ne ha]; exact y2, y3⟩
      · have e : j = ds1.length := by omega
        subst e
        exact .inl ⟨Y1.stop s6 c6 kk1 (Nat.le_refl _), F6, M6, acc1, va1, S6, R6, c6, hv6, hF6, hM6, ra6, fin1 _ _ p6⟩
  · have e : i = ds.length := by omega
    subst e
    have s' : Same F2 (upd F2 L (.lst va)) := fun b u e => by rw [upd_ne (ne_of_none e hF)]; exact e
    have c0 : CoreP K (upd F2 L (.lst va)) H2 M2 := by
      refine ⟨fun b u e => ?_, fun a mo e => ?_⟩
      · by_cases hb : b = L
        · subst hb; rw [upd_same] at e; cases e; exact hv
        · rw [upd_ne hb] at e; exact c2.same b u e
      · obtain ⟨x1, o, x2, x3⟩ := c2.mem a mo e
        have ha : a ≠ L := fun z => by rw [z, hM] at e; cases e
        exact ⟨by rw [upd_ne ha]; exact x1, o, x2, x3.mono s'⟩
    have f' : Fr F1 H1 M1 (upd F2 L (.lst va)) H2 M2 := fun a o e n => by
      obtain ⟨x1, x2, x3⟩ := f2 a o e n
      exact ⟨x1, x2, fun z => by rw [upd_ne (ne_of_none e hL)]; exact x3 z⟩
    have c' : Core K (upd F2 L (.lst va)) H2 M2 := c1.to c0 (s2.trans s') f'
    exact .inl ⟨Y.stop s2 c2 kk (Nat.le_refl _), hp _ M2 _ H2 _ (fin _ _ p2) (s1.trans (s2.trans s')) (f1.trans f') c' (by rw [Rep]; exact ⟨L, va, rfl, upd_same, ra.mono s'⟩)⟩
variable {a b c e : Expr} {tt tt1 : DTT} {pos p : Pos} {k : Nat}
theorem de_lc2 {elt tg iter tg1 iter1 : Expr} {ifs ifs1 : List Expr} {scope : Scope} {own : List (Str × Nat)} {vs vs1 : List Nat} {ti ti1 : DTI} {g g1 : TG} {dg dg1 : DTG} {te : DTE} (hN : X.N.Nodup) (hi : DI X tg iter ti) (ok : BlkOk X.N X.env.scope scope own) (tl : TgL X.K g dg vs) (tl1 : TgL X.K g1 dg1 vs1)
    (hg : ForBlk X scope fun Y => PG Y tg g) (ht : ForBlk X scope fun Y => PTs Y ifs (lT X.K tt)) (hi1 : ForBlk X scope fun Y => PI Y tg1 iter1 (lI X.K ti1)) (hg1 : ForBlk X scope fun Y => PG Y tg1 g1) (ht1 : ForBlk X scope fun Y => PTs Y ifs1 (lT X.K tt1)) (he : ForBlk X scope fun Y => PE Y elt (lE X.K te))
    (ho : own.map (·.2) = vs := by rfl) (hv : ∀ i ∈ vs1, i ∈ own.map (·.2) := by decide) (hc : X.calm = true := by rfl) (hs : ∀ x, foldedSetIterable iter X.env x = pure x := by intro _; rfl) (hs1 : ∀ env x, foldedSetIterable iter1 env x = pure x := by intro _ _; rfl) :
    DE X (.ListComp elt [⟨tg, iter, ifs, 0⟩, ⟨tg1, iter1, ifs1, 0⟩] scope pos) (dLc2 ti dg tt ti1 dg1 tt1 te vs vs1) := by
  subst ho
  exact PE.imp (pe_lc2 hc hN hi ok hv hg ht hi1 hg1 ht1 he hs hs1) (l_lc2 tl tl1)
theorem ds_setLc2 {i : Nat} {y : Str} {py spos : Pos} {elt tg iter tg1 iter1 : Expr} {ifs ifs1 : List Expr} {scope : Scope} {own : List (Str × Nat)} {vs vs1 : List Nat} {ti ti1 : DTI} {g g1 : TG} {dg dg1 : DTG} {te : DTE} (hN : X.N.Nodup) (hi : DI X tg iter ti) (ok : BlkOk X.N X.env.scope scope own) (tl : TgL X.K g dg vs) (tl1 : TgL X.K g1 dg1 vs1)
    (hg : ForBlk X scope fun Y => PG Y tg g) (ht : ForBlk X scope fun Y => PTs Y ifs (lT X.K tt)) (hi1 : ForBlk X scope fun Y => PI Y tg1 iter1 (lI X.K ti1)) (hg1 : ForBlk X scope fun Y => PG Y tg1 g1) (ht1 : ForBlk X scope fun Y => PTs Y ifs1 (lT X.K tt1)) (he : ForBlk X scope fun Y => PE Y elt (lE X.K te))
    (hy : X.N[i]? = some y := by rfl) (hyl : X.env.scope.names.lookup y = some .local := by rfl) (hsw : swapsWith (.ListComp elt [⟨tg, iter, ifs, 0⟩, ⟨tg1, iter1, ifs1, 0⟩] scope pos) (some (.Name y py)) spos.line X.env = pure true := by exact sw_true rfl rfl rfl (by decide +kernel))
    (ho : own.map (·.2) = vs := by rfl) (hv : ∀ i ∈ vs1, i ∈ own.map (·.2) := by decide) (hc : X.calm = true := by rfl) (hs : ∀ x, foldedSetIterable iter X.env x = pure x := by intro _; rfl) (hs1 : ∀ env x, foldedSetIterable iter1 env x = pure x := by intro _ _; rfl) :
    DS X (.Assign [.Name y py] (.ListComp elt [⟨tg, iter, ifs, 0⟩, ⟨tg1, iter1, ifs1, 0⟩] scope pos) spos) (dAsg (dLc2 ti dg tt ti1 dg1 tt1 te vs vs1) (dgName i)) := by
  subst ho
  exact PS.imp (ps_setLc2 hc hN hy hyl hsw hi ok hv hg ht hi1 hg1 ht1 he hs hs1) fun E σ H ⟨F, env, M, D0, he, hc, ht, hp⟩ => l_lc2 tl tl1 σ H _ ⟨F, env, M, _, he, hc, ht, fun d M1 F1 H1 v q s1 f1 c1 r1 => hp.nx _ M1 F1 H1 _ q s1 f1 c1 ((he.mono s1).set i r1)⟩
end
end DL
namespace DL
open PySem PySem.Spec PyProof.Rows L2
section
variable {X : Cx} {GX : GI X.K} {K : PySem.W.Frag} {G : GI K} {a b c e : Expr} {es : List Expr} {ta tb tc : DTE} {pos p : Pos} {tt : DTT} {tr tk : DTA} {k : Nat} {f : Addr} {fd : FuncData} {ps ks : List Str} {sp : DSp} {x : Str}
/-! ### x * n, x a text too -/
def rMulX : D2 := fun x y M Q => match x, y with
  | .int i, .int j => CMulA i j ∧ Q (.int (i * j)) M
  | .str s, .int j => MulOk s j ∧ Q (.str (Txt.mul s j)) M
  | _, _ => False
theorem o_mulStr : OpR X (binaryOp .Mult) (fun x y H Q => ∃ s i, x = .str s ∧ y = .int i ∧ MulOk s i ∧ Q (.str (Txt.mul s i)) H) := by
  intro pins s σ H x y v u Q I rx ry ⟨z, i, e1, e2, hc, q⟩
  subst e1 e2
  obtain ⟨t, rfl⟩ := rx
  obtain ⟨t2, rfl⟩ := ry
  exact PySem.SB.mul hc fun t' k => ⟨.str (Txt.mul z i), H, I.tok k, ⟨t', rfl⟩, q⟩
theorem l_mulX : LR2 K (fun x y H Q => (rI CMulA fun i j => .int (i * j)) x y H Q ∨ (∃ s i, x = .str s ∧ y = .int i ∧ MulOk s i ∧ Q (.str (Txt.mul s i)) H)) rMulX := by
  intro F H M d e v w Q0 Q c r1 r2 h p
  unfold rMulX at h
  split at h
  · simp only [Rep] at r1 r2
    exact .inl ⟨_, _, r1, r2, h.1, p.int c h.2⟩
  · simp only [Rep] at r1 r2
    exact .inr ⟨_, _, r1, r2, h.1, p.str c h.2⟩
  · exact h.elim
theorem de_mulX (ha : DE X a ta) (hb : DE X b tb) : DE X (.BinOp a .Mult b pos) (dOp rMulX ta tb) := de_op (o_mulA.or o_mulStr) l_mulX ha hb
theorem rMulX_ii {i j : Int} {M : Mp} {Q : DQ} : rMulX (.int i) (.int j) M Q = (CMulA i j ∧ Q (.int (i * j)) M) := rfl
theorem rMulX_si {i : Str} {j : Int} {M : Mp} {Q : DQ} : rMulX (.str i) (.int j) M Q = (MulOk i j ∧ Q (.str (Txt.mul i j)) M) := rfl
/-! ### f-strings -/
def fmtD : DQ → DQ := fun Q d M => match d with
  | .str y => y.length ≤ sizeLine ∧ Q (.str y) M
  | .int i => i.natAbs.log2 < 1920 ∧ Q (.str (toString i)) M
  | _ => False
def dFmt (t : DTE) : DTE := fun env M Q => t env M (fmtD Q)
theorem de_fmt (h : DE X e ta) : DE X (.FormattedValue e (-1) none pos) (dFmt ta) := PE.imp (pe_fmt h) fun σ H Q ⟨F, env, M, Q0, he, hc, ht, hp⟩ => by
  refine ⟨F, env, M, _, he, hc, ht, fun d M1 F1 H1 v q s1 f1 c1 r1 => ?_⟩
  unfold fmtD at q
  split at q
  · rw [Rep] at r1
    exact .inl ⟨_, r1, q.1, (hp.after s1 f1).str c1 q.2⟩
  · rw [Rep] at r1
    exact .inr ⟨_, r1, q.1, (hp.after s1 f1).str c1 q.2⟩
  · exact q.elim
def jStep (acc : Str) (r : Str → Mp → Prop) : DQ := fun d M => match d with | .str y => (acc ++ y).length ≤ sizeLine ∧ r (acc ++ y) M | _ => False
def dJs : List DTE → Str → DSt → Mp → DQ → Prop
  | [], acc, _, M, Q => Q (.str acc) M
  | t :: ts, acc, env, M, Q => t env M (jStep acc fun z M1 => dJs ts z env M1 Q)
def dJoined (ts : List DTE) : DTE := fun env M Q => dJs ts Str.empty env M Q
inductive DJ (X : Cx) [GI X.K] : List Expr → List DTE → Prop where
  | nil : DJ X [] []
  | cons {e : Expr} {t : DTE} {es : List Expr} {ts : List DTE} (h : DE X e t) (r : DJ X es ts) : DJ X (e :: es) (t :: ts)
theorem dj_nil : DJ X [] [] := .nil
theorem dj_cons {t : DTE} {ts : List DTE} (h : DE X e t) (r : DJ X es ts) : DJ X (e :: es) (t :: ts) := .cons h r
theorem DJ.pj {ts : List DTE} (h : DJ X es ts) : PJ X es (ts.map (lE X.K)) := by
  induction h with
  | nil => exact .nil
  | cons h r ih => exact .cons h ih
theorem l_js : ∀ (ts : List DTE) (acc : Str) {σ : L2.St} {H F : Hp} {env : DSt} {M : Mp} {Q0 : DQ} {Q : VK}, EnvR K F σ env → Core K F H M → dJs ts acc env M Q0 → Post K F H M Q0 Q → tJs (ts.map (lE K)) acc σ H fun out H1 => Q (.str out) H1
  | [], acc, σ, H, F, env, M, Q0, Q, he, hc, ht, hp => hp.str hc ht
  | t :: ts, acc, σ, H, F, env, M, Q0, Q, he, hc, ht, hp => by
    refine ⟨F, env, M, _, he, hc, ht, fun d M1 F1 H1 v q s1 f1 c1 r1 => ?_⟩
    unfold jStep at q
    split at q
    · rw [Rep] at r1
      exact ⟨_, r1, q.1, l_js ts _ (he.mono s1) c1 q.2 (hp.after s1 f1)⟩
    · exact q.elim
theorem de_joined {v1 v2 : Expr} {rest : List Expr} {ts : List DTE} (h : DJ X (v1 :: v2 :: rest) ts) : DE X (.JoinedStr (v1 :: v2 :: rest) pos) (dJoined ts) :=
  PE.imp (pe_joined h.pj) fun σ H Q ⟨F, env, M, Q0, he, hc, ht, hp⟩ => l_js ts _ he hc ht hp
theorem de_joined1 (h : DE X e ta) : DE X (.JoinedStr [e] pos) ta := pe_joined1 h
theorem dFmt_ap {t : DTE} {env : DSt} {M : Mp} {Q : DQ} : dFmt t env M Q = t env M (fmtD Q) := rfl
theorem fmtD_s {s : Str} {M : Mp} {Q : DQ} : fmtD Q (.str s) M = (s.length ≤ sizeLine ∧ Q (.str s) M) := rfl
theorem fmtD_i {s : Int} {M : Mp} {Q : DQ} : fmtD Q (.int s) M = (s.natAbs.log2 < 1920 ∧ Q (.str (toString s)) M) := rfl
theorem dJoined_ap {ts : List DTE} {env : DSt} {M : Mp} {Q : DQ} : dJoined ts env M Q = dJs ts Str.empty env M Q := rfl
theorem dJs_nil {acc : Str} {env : DSt} {M : Mp} {Q : DQ} : dJs [] acc env M Q = Q (.str acc) M := rfl
theorem dJs_cons {t : DTE} {ts : List DTE} {acc : Str} {env : DSt} {M : Mp} {Q : DQ} : dJs (t :: ts) acc env M Q = t env M (jStep acc fun z M1 => dJs ts z env M1 Q) := rfl
theorem jStep_s {acc s : Str} {r : Str → Mp → Prop} {M : Mp} : jStep acc r (.str s) M = ((acc ++ s).length ≤ sizeLine ∧ r (acc ++ s) M) := rfl
/-! ### x.lstrip(signs) -/
abbrev rLstripC : DM := rS1 (fun a _ => a.length ≤ sizeLine) fun a b => .str (Txt.lstripChars a b)
theorem de_lstripC {apos cpos : Pos} (ho : DE X a ta) (ha : DA X [b] tr) (hbase : attributeBase a "lstrip" X.env (eval a X.env) = eval a X.env := by rfl) (hline : (apos.endLine == cpos.line) = true := by rfl) (hs : starEach [b] X.env = (false, eval b X.env) :: starEach [] X.env := by rfl) :
    DE X (.Call (.Attribute a "lstrip" apos) [b] [] cpos) (dBM "str" rLstripC ta tr) :=
  de_bm F.plainAttrs_str F.slot_str_lstrip F.type_str_lstrip mt_lstripChars (l_s1 fun F a b => by rw [Rep]) ho ha hbase (by rw [hs]; rfl) hline hs rfl
/-! ### names only -/
def gKV {α : Type} (m n : Nat) (π : List Nat) (us ws : List α) : List α := if us.length = m ∧ ws.length = n then π.filterMap fun i => (us ++ ws)[i]? else []
theorem gkv_vals {xs ys : List V} {us ws : List Value} {m n : Nat} : ∀ (π : List Nat), Vals xs us → Vals ys ws → Vals (gKV m n π xs ys) (gKV m n π us ws) := by
  intro π r1 r2
  unfold gKV
  rw [r1.length, r2.length]
  split
  · have r := r1.append r2
    induction π with
    | nil => exact .nil
    | cons i π ih =>
      rw [List.filterMap_cons, List.filterMap_cons]
      cases h : (xs ++ ys)[i]? with
      | none => rw [r.none_of h]; exact ih
      | some x => obtain ⟨u, e, g⟩ := r.get h; rw [e]; exact .cons g ih
  · exact .nil
theorem gkv_rep (m n : Nat) (π : List Nat) : GD (gKV m n π) (gKV m n π) := by
  refine ⟨fun {K F ds es vs ws} r1 r2 => ?_⟩
  unfold gKV
  rw [r1.len, r2.len]
  split
  · have r := r1.app r2
    induction π with
    | nil => exact Reps.nil
    | cons i π ih =>
      rw [List.filterMap_cons, List.filterMap_cons]
      cases h : (ds ++ es)[i]? with
      | none =>
        have h2 : (vs ++ ws)[i]? = none := by
          rw [List.getElem?_eq_none_iff] at h ⊢
          rw [r.len]; exact h
        rw [h2]; exact ih
      | some x => obtain ⟨u, e, g⟩ := r.get h; rw [e]; exact Reps.cons g ih
  · exact Reps.nil
theorem kb_of {m n : Nat} {π : List Nat} (hp : ps.length ≠ 0) (h : ∀ us ws : List Value, us.length = m → ws.length = n → bindArgs fd ⟨us, ks.zip ws⟩ = pure (ps.zip (gKV m n π us ws))) : KBinds K fd ps ks (gKV m n π) (gKV m n π) :=
  ⟨fun s us ws _ hl => by
    by_cases e : us.length = m ∧ ws.length = n
    · exact BindsTo.of_eq (h us ws e.1 e.2)
    · unfold gKV at hl; rw [if_neg e] at hl; exact absurd hl.symm hp, fun r1 r2 => gkv_vals π r1 r2⟩
theorem de_callKC {kws : List Keyword} {m n : Nat} {π : List Nat} (G : Cal X.prog X.w X.K X.mg X.base k x ps sp f fd) (hr : Room k X.A) (hb : KBinds X.K fd ps ks (gKV m n π) (gKV m n π)) (ha : DA X (e :: es) tr) (hkw : DK X kws tk) (hg : Gl X x := by rfl)
    (hall : (backToKw pos (keywordEach kws X.env)).all (·.1.isSome) = true := by rfl) (hks : (backToKw pos (keywordEach kws X.env)).filterMap (·.1) = ks := by rfl)
    (hdb : (x == ("__debug__" : Str)) = false := by decide) (he : starEach (e :: es) X.env = (false, eval e X.env) :: starEach es X.env := by rfl)
    (hpl : ((backTo pos (starEach (e :: es) X.env)).any (·.1) || (backToKw pos (keywordEach kws X.env)).any (·.1.isNone)) = false := by rfl) : DE X (.Call (.Name x p) (e :: es) kws pos) (dCallK sp (gKV m n π) tr tk) :=
  de_callK G.fn hr G.g G.kp hb (gkv_rep m n π) ha hkw hg hall hks hdb he hpl
theorem de_callKC0 {kws : List Keyword} {m n : Nat} {π : List Nat} (G : Cal X.prog X.w X.K X.mg X.base k x ps sp f fd) (hr : Room k X.A) (hb : KBinds X.K fd ps ks (gKV m n π) (gKV m n π)) (hkw : DK X kws tk) (hg : Gl X x := by rfl)
    (hall : (backToKw pos (keywordEach kws X.env)).all (·.1.isSome) = true := by rfl) (hks : (backToKw pos (keywordEach kws X.env)).filterMap (·.1) = ks := by rfl)
    (hdb : (x == ("__debug__" : Str)) = false := by decide)
    (hpl : ((backTo pos (starEach [] X.env)).any (·.1) || (backToKw pos (keywordEach kws X.env)).any (·.1.isNone)) = false := by rfl) : DE X (.Call (.Name x p) [] kws pos) (dCallK sp (gKV m n π) dNil tk) := by
  have h : PE X (.Call (.Name x p) [] kws pos) (tCallK (lSp X.K sp) (gKV m n π) (fun _ _ _ => False) tNil (lA X.K tk)) := by
    refine ⟨fun pins s σ H Q I h => ?_⟩
    refine wpAny_Call_Name_kw (ld_glob I hg G.g ?_ hdb)
    refine PySem.W.callWith_KW0 (h₀ := X.base) I.ok.mod.kin G.kp hall (thn (hkw.run pos pins s σ H _ I h) fun ws s2 ⟨zs, H2, I2, rz, q2⟩ => ⟨I2.kIn, ?_⟩) hpl
    rw [hks]
    exact run_fnk (us := []) (vs := []) G.fn hr hb pass0 I2 .nil rz q2
  exact PE.imp h fun σ H Q ⟨F, env, M, Q0, he, hc, ht, hp⟩ => ⟨F, env, M, _, he, hc, ht, fun es M2 F2 H2 ws q2 s2 f2 c2 r2 =>
      ⟨F2, M2, _, Q0, noX, c2.toCoreP, (gkv_rep m n π).rep Reps.nil r2, q2, (hp.after s2 f2).plain c2, postX0⟩⟩
end
end DL
namespace DL
open PySem PySem.Spec PyProof.Rows L2
/-! ### loops, behind their iterables -/
def lcB (g : DTG) (tt : DTT) (te : DTE) (vs : List Nat) (env : DSt) (Q : DQ) : List D → (Mp → Prop) → Mp → Prop := fun ds kp M1 => ∃ Pv : Nat → List D → Mp → Prop, Pv 0 [] M1 ∧ (∀ i acc M, Pv i acc M → kp M) ∧
  (∀ i d acc M, ds[i]? = some d → Pv i acc M → g d (wipeD env vs) M fun env2 M2 => tt env2 M2 fun b M3 => if b = true then te env2 M3 fun y M4 => acc.length < sizeLine ∧ Pv (i + 1) (acc ++ [y]) M4 else Pv (i + 1) acc M3) ∧
  ∀ acc M, Pv ds.length acc M → Q (.lst acc) M
def frB (g : DTG) (t : DTS) (E : DEnds) (env : DSt) : List D → (Mp → Prop) → Mp → Prop := fun ds kp M1 => ∃ Pv : Nat → DSt → Mp → Prop, Pv 0 env M1 ∧ (∀ i env M, Pv i env M → kp M) ∧
  (∀ i d env M, ds[i]? = some d → Pv i env M → g d env M fun env' M' => t { E with nx := Pv (i + 1), ct := Pv (i + 1), bk := E.nx } env' M') ∧ ∀ env M, Pv ds.length env M → E.nx env M
section
variable {env : DSt} {M M1 : Mp} {Q : DQ} {E : DEnds} {te : DTE} {t : DTS} {tt : DTT} {g : DTG} {ti : DTI} {vs : List Nat} {kp : Mp → Prop} {α : Type} {xs : List α}
theorem dLc_un : dLc ti g tt te vs env M Q = ti env M (lcB g tt te vs env Q) := rfl
theorem dFor_un : dFor ti g t E env M = ti env M (frB g t E env) := rfl
theorem lcB_fm (enc f : α → D) (p : α → Bool) (hk : kp M1) (hz : xs.length ≤ sizeLine)
    (h : ∀ x, x ∈ xs → ∀ (R : DQ) (S : Mp → Prop), (p x = true → R (f x) M1) → (p x = false → S M1) → g (enc x) (wipeD env vs) M1 fun env2 M2 => tt env2 M2 fun b M3 => if b = true then te env2 M3 R else S M3)
    (q : Q (.lst ((xs.filter p).map f)) M1) : lcB g tt te vs env Q (xs.map enc) kp M1 :=
  lc_fm (ti := fun _ _ R => R (xs.map enc) kp M1) (M := M1) (M1 := M1) xs enc f p (fun _ r => r) hk hz h q
theorem lcB_m (enc f : α → D) (hk : kp M1) (hz : xs.length ≤ sizeLine)
    (h : ∀ x, x ∈ xs → ∀ R : DQ, R (f x) M1 → g (enc x) (wipeD env vs) M1 fun env2 M2 => te env2 M2 R)
    (q : Q (.lst (xs.map f)) M1) : lcB g dYes te vs env Q (xs.map enc) kp M1 :=
  lc_m (ti := fun _ _ R => R (xs.map enc) kp M1) (M := M1) (M1 := M1) xs enc f (fun _ r => r) hk hz h q
/-- turns that change M -/
theorem lcB_st (enc : α → D) (inv : List α → List D → Mp → Prop) (h0 : inv [] [] M1) (hk : ∀ s acc M, inv s acc M → kp M) (hz : ∀ s acc M, inv s acc M → acc.length < sizeLine)
    (h : ∀ pre x post acc M, xs = pre ++ x :: post → inv pre acc M → ∀ R : DQ, (∀ y M', inv (pre ++ [x]) (acc ++ [y]) M' → R y M') → g (enc x) (wipeD env vs) M fun env2 M2 => te env2 M2 R)
    (q : ∀ acc M, inv xs acc M → Q (.lst acc) M) : lcB g dYes te vs env Q (xs.map enc) kp M1 := by
  refine ⟨fun i acc M => inv (xs.take i) acc M, by simpa using h0, fun i acc M => hk _ _ M, fun i d acc M hx p => ?_, fun acc M p => ?_⟩
  · rw [List.getElem?_map] at hx
    cases q : xs[i]? with
    | none => rw [q] at hx; cases hx
    | some x =>
      rw [q] at hx
      cases hx
      have hi : i < xs.length := (List.getElem?_eq_some_iff.mp q).1
      have e : xs.take (i + 1) = xs.take i ++ [x] := by rw [List.take_add_one, q]; rfl
      have e2 : xs.drop i = x :: xs.drop (i + 1) := by
        rw [List.drop_eq_getElem_cons hi]
        congr 1
        exact Option.some.inj ((List.getElem?_eq_getElem hi).symm.trans q)
      refine h _ x (xs.drop (i + 1)) acc M (by rw [← e2, List.take_append_drop]) p _ fun y M' hy => ?_
      dsimp only
      rw [e]
      exact ⟨hz _ _ _ p, hy⟩
  · rw [List.length_map, List.take_length] at p
    exact q acc M p
theorem frB_pre (enc : α → D) (inv : List α → DSt → Mp → Prop) (h0 : inv [] env M1) (hk : ∀ s env M, inv s env M → kp M)
    (hs : ∀ pre x post env M, xs = pre ++ x :: post → inv pre env M → ∀ R : DSt → Mp → Prop, (∀ env' M', inv (pre ++ [x]) env' M' → R env' M') → g (enc x) env M fun env' M' => t { E with nx := R, ct := R, bk := E.nx } env' M')
    (hd : ∀ env M, inv xs env M → E.nx env M) : frB g t E env (xs.map enc) kp M1 :=
  for_pre (ti := fun _ _ R => R (xs.map enc) kp M1) (M := M1) (M1 := M1) xs enc inv (fun _ r => r) h0 hk (fun pre x post env M e i => hs pre x post env M e i _ fun _ _ h => h) hd
end
end DL
namespace DL
open PySem PySem.Spec PyProof.Rows L2
section
variable {env : DSt} {M M1 : Mp} {Q : DQ} {E : DEnds} {te ta tv : DTE} {t : DTS} {tt : DTT} {g g1 : DTG} {ti : DTI} {tr : DTA} {vs vs1 : List Nat} {kp : Mp → Prop} {α β : Type} {xs : List α} {C : Addr} {n m : Str} {sp : DSp} {fs : List (Str × D)} {a : Addr} {rd : D2}
/-- a statement that is not reached -/
def dNever : DTS := fun _ _ _ => False
theorem ds_never {X : Cx} {GX : GI X.K} {st : Stmt} : DS X st dNever := PS.imp ps_never fun D σ H h => by
  obtain ⟨F, env, M, D0, he, hc, ht, hp⟩ := h
  exact ht.elim
theorem dNever_ap : dNever E env M = False := rfl
theorem insOf_p : insOf M (.ptr a) = (match M a with | some (.ins C fs) => some (C, fs) | _ => none) := rfl
theorem insOf_o : insOf M (.obj C fs) = some (C, fs) := rfl
theorem dFld_ap : dFld C n ta env M Q = ta env M fun x M1 => (match insOf M1 x with
  | some (C', fs) => C' = C ∧ ∃ d, fs.lookup n = some d ∧ Q d M1
  | none => False) := rfl
theorem dSetF_ap : dSetF C n ta tv E env M = tv env M fun d M1 => ta env M1 fun x M2 => (match x with
  | .ptr a => (match M2 a with
    | some (.ins C' fs) => C' = C ∧ fs.length < 1000 ∧ E.nx env (up M2 a (.ins C (putD n d fs)))
    | _ => False)
  | _ => False) := rfl
theorem dAugF_ap : dAugF C n ta tv rd E env M = ta env M fun x M1 => (match x with
  | .ptr a => (match M1 a with
    | some (.ins C' fs) => C' = C ∧ ∃ d, fs.lookup n = some d ∧ tv env M1 fun y M2 => rd d y M2 fun z M3 => (match M3 a with
      | some (.ins C2 fs2) => C2 = C ∧ fs2.length < 1000 ∧ E.nx env (up M3 a (.ins C (putD n z fs2)))
      | _ => False)
    | _ => False)
  | _ => False) := rfl
theorem dMeth_ap : dMeth C m sp ta tr env M Q = ta env M fun x M1 => (match insOf M1 x with
  | some (C', fs) => C' = C ∧ fs.lookup m = none ∧ tr env M1 fun ds M2 => sp (x :: ds) M2 Q noX
  | none => False) := rfl
theorem dMake_ap : dMake C sp tr env M Q = tr env M fun ds M1 => ∀ x, M1 x = none → sp (.ptr x :: ds) (up M1 x (.ins C [])) (fun v M2 => v = .non ∧ Q (.ptr x) M2) noX := rfl
theorem dProp_ap : dProp C sp ta env M Q = ta env M fun x M1 => (match insOf M1 x with
  | some (C', fs) => C' = C ∧ sp [x] M1 Q noX
  | none => False) := rfl
/-- a while loop by a measure: Pv tells state and measure -/
theorem wh_of (Pv : Nat → DSt → Mp → Prop) (m : Nat) (h0 : Pv m env M)
    (h : ∀ m env M, Pv m env M → ∀ R : DSt → Mp → Prop, (∀ m' env' M', m' < m → Pv m' env' M' → R env' M') → tt env M fun k M1 => if k = true then t { E with nx := R, ct := R, bk := E.nx } env M1 else E.nx env M1) : dWhile tt t E env M :=
  ⟨Pv, ⟨m, h0⟩, fun m env M p => h m env M p _ fun m' env' M' hm hp => ⟨m', hm, hp⟩⟩
def lc2B (g : DTG) (tt : DTT) (ti1 : DTI) (g1 : DTG) (tt1 : DTT) (te : DTE) (vs vs1 : List Nat) (env : DSt) (Q : DQ) : List D → (Mp → Prop) → Mp → Prop := fun ds kp M1 => ∃ Pv : Nat → List D → Mp → Prop, Pv 0 [] M1 ∧ (∀ i acc M, Pv i acc M → kp M) ∧
  (∀ i d acc M, ds[i]? = some d → Pv i acc M → g d (wipeD env vs) M fun env2 M2 => tt env2 M2 fun b M3 => if b = true then
    ti1 env2 M3 fun ds1 kp1 M4 => ∃ Pv1 : Nat → List D → Mp → Prop, Pv1 0 acc M4 ∧ (∀ j acc M, Pv1 j acc M → kp1 M) ∧
      (∀ j d1 acc1 M, ds1[j]? = some d1 → Pv1 j acc1 M → g1 d1 (wipeD env2 vs1) M fun env3 M5 => tt1 env3 M5 fun b M6 => if b = true then te env3 M6 fun y M7 => acc1.length < sizeLine ∧ Pv1 (j + 1) (acc1 ++ [y]) M7 else Pv1 (j + 1) acc1 M6) ∧
      ∀ acc1 M, Pv1 ds1.length acc1 M → Pv (i + 1) acc1 M
    else Pv (i + 1) acc M3) ∧
  ∀ acc M, Pv ds.length acc M → Q (.lst acc) M
def lc2I (acc : List D) (g1 : DTG) (tt1 : DTT) (te : DTE) (env2 : DSt) (vs1 : List Nat) (Z : List D → Mp → Prop) : List D → (Mp → Prop) → Mp → Prop := fun ds1 kp1 M4 => ∃ Pv1 : Nat → List D → Mp → Prop, Pv1 0 acc M4 ∧ (∀ j acc M, Pv1 j acc M → kp1 M) ∧
      (∀ j d1 acc1 M, ds1[j]? = some d1 → Pv1 j acc1 M → g1 d1 (wipeD env2 vs1) M fun env3 M5 => tt1 env3 M5 fun b M6 => if b = true then te env3 M6 fun y M7 => acc1.length < sizeLine ∧ Pv1 (j + 1) (acc1 ++ [y]) M7 else Pv1 (j + 1) acc1 M6) ∧
      ∀ acc1 M, Pv1 ds1.length acc1 M → Z acc1 M
theorem dLc2_un {ti1 : DTI} {tt1 : DTT} : dLc2 ti g tt ti1 g1 tt1 te vs vs1 env M Q = ti env M (lc2B g tt ti1 g1 tt1 te vs vs1 env Q) := rfl
/-- the inner clause: M unchanged, a map -/
theorem lc2I_m {acc : List D} {Z : List D → Mp → Prop} {ys : List β} (enc f : β → D) (hk : kp M) (hz : acc.length + ys.length ≤ sizeLine)
    (h : ∀ y, y ∈ ys → ∀ R : DQ, R (f y) M → g1 (enc y) (wipeD env vs1) M fun env3 M5 => te env3 M5 R) (q : Z (acc ++ ys.map f) M) : lc2I acc g1 dYes te env vs1 Z (ys.map enc) kp M := by
  refine ⟨fun j a M' => M' = M ∧ a = acc ++ (ys.take j).map f ∧ j ≤ ys.length, ⟨rfl, by simp, Nat.zero_le _⟩, fun _ _ _ z => by rw [z.1]; exact hk, fun j d a M' hd ⟨e1, e2, e3⟩ => ?_, fun a M' ⟨e1, e2, e3⟩ => ?_⟩
  · subst e1 e2
    rw [List.getElem?_map] at hd
    cases q : ys[j]? with
    | none => rw [q] at hd; cases hd
    | some x =>
      rw [q] at hd
      cases hd
      have hi : j < ys.length := (List.getElem?_eq_some_iff.mp q).1
      have e : ys.take (j + 1) = ys.take j ++ [x] := by rw [List.take_add_one, q]; rfl
      refine h x (List.mem_of_getElem? q) (fun y M7 => _ ∧ _) ⟨?_, rfl, ?_, hi⟩
      · rw [List.length_append, List.length_map, List.length_take]; omega
      · rw [e, List.map_append, List.append_assoc]; rfl
  · rw [List.length_map, List.take_length] at e2
    rw [e1, e2]
    exact q
/-- two clauses, M unchanged: one list behind the other -/
theorem lc2B_m {ti1 : DTI} {tt1 : DTT} (enc : α → D) (f : α → List D) (hk : kp M1) (hz : (xs.flatMap f).length ≤ sizeLine)
    (h : ∀ x, x ∈ xs → ∀ (acc : List D) (Z : List D → Mp → Prop), acc.length + (f x).length ≤ sizeLine → Z (acc ++ f x) M1 → g (enc x) (wipeD env vs) M1 fun env2 M2 => ti1 env2 M2 (lc2I acc g1 tt1 te env2 vs1 Z))
    (q : Q (.lst (xs.flatMap f)) M1) : lc2B g dYes ti1 g1 tt1 te vs vs1 env Q (xs.map enc) kp M1 := by
  refine ⟨fun i acc M' => M' = M1 ∧ acc = (xs.take i).flatMap f ∧ i ≤ xs.length, ⟨rfl, by simp, Nat.zero_le _⟩, fun _ _ _ z => by rw [z.1]; exact hk, fun i d acc M' hd ⟨e1, e2, e3⟩ => ?_, fun acc M' ⟨e1, e2, e3⟩ => ?_⟩
  · subst e1 e2
    rw [List.getElem?_map] at hd
    cases q : xs[i]? with
    | none => rw [q] at hd; cases hd
    | some x =>
      rw [q] at hd
      cases hd
      have hi : i < xs.length := (List.getElem?_eq_some_iff.mp q).1
      have e : xs.take (i + 1) = xs.take i ++ [x] := by rw [List.take_add_one, q]; rfl
      have e4 : ((xs.take i).flatMap f).length + (f x).length ≤ (xs.flatMap f).length := by
        have e5 : xs = xs.take (i + 1) ++ xs.drop (i + 1) := (List.take_append_drop _ _).symm
        have := congrArg (fun l => (l.flatMap f).length) e5
        simp only [List.flatMap_append, List.length_append, e, List.flatMap_cons, List.flatMap_nil, List.append_nil] at this
        omega
      exact h x (List.mem_of_getElem? q) _ _ (by omega) ⟨rfl, by rw [e, List.flatMap_append]; simp, hi⟩
  · rw [List.length_map, List.take_length] at e2
    rw [e1, e2]
    exact q
end
end DL
namespace DL
open PySem PySem.Spec PyProof.Rows L2
/-- plain data of a depth -/
def Pl : Nat → D → Bool
  | _, .non => true
  | _, .bl _ => true
  | _, .int _ => true
  | _, .str x => PyData.strOk x
  | n + 1, .lst ds => ds.all (Pl n) && decide (ds.length ≤ 1000000)
  | n + 1, .tup ds => ds.all (Pl n) && decide (ds.length ≤ 1000000)
  | _, _ => false
def ShD (n : Nat) (d : D) : Prop := d.pl = true ∧ d.py.canLay0 = true ∧ d.py.depth ≤ n
theorem shs_of {n : Nat} : ∀ {ds : List D}, (∀ d ∈ ds, ShD n d) → D.pls ds = true ∧ PyData.canLayAll0 (D.pys ds) = true ∧ PyData.depthAll (D.pys ds) ≤ n
  | [], _ => ⟨by rw [D.pls], by rw [D.pys]; rfl, by rw [D.pys]; exact Nat.zero_le _⟩
  | d :: ds, h => by
    obtain ⟨a, b, c⟩ := h d List.mem_cons_self
    obtain ⟨a', b', c'⟩ := shs_of fun e he => h e (List.mem_cons_of_mem _ he)
    rw [D.pls, D.pys]
    refine ⟨by rw [a, a']; rfl, ?_, ?_⟩
    · show (_ && _) = true
      rw [b, b']; rfl
    · exact Nat.max_le.mpr ⟨c, c'⟩
theorem pl_sh : ∀ (n : Nat) (d : D), Pl n d = true → ShD n d
  | n, .non, _ => ⟨by rw [D.pl], by rw [D.py]; rfl, by rw [D.py]; exact Nat.zero_le _⟩
  | n, .bl _, _ => ⟨by rw [D.pl], by rw [D.py]; rfl, by rw [D.py]; exact Nat.zero_le _⟩
  | n, .int _, _ => ⟨by rw [D.pl], by rw [D.py]; rfl, by rw [D.py]; exact Nat.zero_le _⟩
  | n, .str x, h => ⟨by rw [D.pl], by rw [D.py]; cases n <;> exact h, by rw [D.py]; exact Nat.zero_le _⟩
  | n + 1, .lst ds, h => by
    rw [Pl, Bool.and_eq_true] at h
    obtain ⟨a, b, c⟩ := shs_of (n := n) (ds := ds) fun d hd => pl_sh n d (List.all_eq_true.mp h.1 d hd)
    exact ⟨by rw [D.pl]; exact a, by rw [D.py]; exact b, by rw [D.py]; exact Nat.succ_le_succ c⟩
  | n + 1, .tup ds, h => by
    rw [Pl, Bool.and_eq_true] at h
    obtain ⟨a, b, c⟩ := shs_of (n := n) (ds := ds) fun d hd => pl_sh n d (List.all_eq_true.mp h.1 d hd)
    exact ⟨by rw [D.pl]; exact a, by rw [D.py]; exact b, by rw [D.py]; exact Nat.succ_le_succ c⟩
  | 0, .lst _, h => by cases h
  | 0, .tup _, h => by cases h
  | n, .lsx _, h => by cases n <;> cases h
  | n, .ptr _, h => by cases n <;> cases h
  | n, .ty _, h => by cases n <;> cases h
  | n, .obj _ _, h => by cases n <;> cases h
  | n, .fn _, h => by cases n <;> cases h
theorem pl_ok {n : Nat} {d : D} (h : Pl n d = true) (hn : n ≤ 64) : d.ok = true := by
  obtain ⟨a, b, c⟩ := pl_sh n d h
  unfold D.ok SeqAt.shaped
  rw [a, b, Bool.true_and, Bool.true_and]
  exact decide_eq_true (Nat.le_trans c hn)
section
variable {M : Mp} {Q : DQ} {x y : D} {b : Bool} {n : Nat} {a : Addr} {ds : List D}
/-- a list of plain data, and [] -/
theorem rEqW_p0 (h : M a = some (.lst ds)) (hp : ∀ d ∈ ds, Pl n d = true) (hz : ds.length ≤ 1000000) (hn : n ≤ 60) : rEqW b (.ptr a) (.lst []) M Q = Q (.bl (b ^^ ds.isEmpty)) M := by
  unfold rEqW
  rw [if_neg (by exact Bool.false_ne_true)]
  have e : rs M (.ptr a) = .lst ds := by show (match M a with | some (.lst ds) => D.lst ds | _ => D.ptr a) = _; rw [h]
  have k : (D.lst ds).ok = true := pl_ok (n := n + 1) (by rw [Pl, Bool.and_eq_true]; exact ⟨List.all_eq_true.mpr hp, decide_eq_true hz⟩) (by omega)
  have e2 : rs M (.lst []) = .lst [] := by unfold rs; rfl
  have k2 : (D.lst []).ok = true := pl_ok (n := 1) rfl (by decide)
  rw [e, e2, k, k2]
  have e3 : D.eqv (.lst ds) (.lst []) = ds.isEmpty := by
    unfold D.eqv
    rw [D.py, D.py]
    cases ds with
    | nil => rfl
    | cons d r => rw [D.pys]; rfl
  rw [e3]
  simp only [and_self, true_and]
end
end DL
namespace DL
open PySem PySem.Spec PyProof.Rows L2
/-- a def of the text, its defaults by values -/
abbrev FnD (K : PySem.W.Frag) (x qual : Str) (st : Stmt) (dvs : List V) (kws : List (Str × V)) (f : Addr) (fd : FuncData) : Prop := FunD K x qual (defArgs st) (defBody st) (defScope st) dvs kws f fd
section
variable {P : Program} {w : World} {K : PySem.W.Frag} {G : GI K} {mg : Str → Option Value} {base : Heap} {dvs : List V} {kws : List (Str × V)}
/-- THE RULE for a def that raises nothing -/
theorem dfunD {x qual : Str} {st : Stmt} {f : Addr} {fd : FuncData} {N ps : List Str} {k : Nat} {sp : DSp} (F : FnD K x qual st dvs kws f fd) (S : FnScope N ps (defScope st)) (len : ∀ ds M Q E, sp ds M Q E → ds.length = ps.length)
    (hbody : ∀ (cdv : Value) (A : Around) (outer : List Env) (s : Shared) (H : Hp) (E : XK), Room k (A.deeper (envOfC qual (defScope st) s.heap.objs.size f cdv)) →
      ∃ t, (∀ G : GI K, @DSs (cxOf CX0 P w K mg base N qual (defScope st) f cdv A outer s H E).nox G (defBody st) t) ∧ ∀ ds M Q E0, sp ds M Q E0 → t (bodyE K Q) (startD N ds) M) : FnOk P w K mg base CX0 (k + 1) f fd ps (lSp K sp) :=
  FunD.ok F S (fun vs H Q E ⟨F, M, ds, Q0, E0, c, r, h, _⟩ => by rw [r.len]; exact len ds M Q0 E0 h) fun cdv A outer s H vs Q E hr ⟨F, M, ds, Q0, E0, c, r, h, p, _⟩ => by
    obtain ⟨t, h1, h2⟩ := hbody cdv A outer s H E hr
    exact ⟨_, PSs.nox (h1 (entryG K F H M)), F, startD N ds, M, bodyE K Q0, start_env r, @Core.mk K (entryG K F H M) F H M c ⟨Same.refl F, Fr.refl⟩, h2 ds M Q0 E0 h, @fin_ok K (entryG K F H M) F H M Q0 Q (@PostP.post K (entryG K F H M) F H M Q0 Q p)⟩
/-- the law's own promise -/
abbrev spLaw : DSp := fun ds M Q _ => ∃ ms : List Int, ds = [.lsx (ms.map D.int)] ∧ ms.length ≤ 63 ∧ Q (.bl true) M
theorem law_in {H : Hp} {a : Addr} {ns : List Int} (hl : ns.length ≤ 63) (hS : SqL K H a (ns.map V.int)) : lSp K spLaw [.ref a] H (fun v _ => v = .bl true) fun _ _ _ => False :=
  ⟨H, fun _ => none, [.lsx (ns.map D.int)], fun d _ => d = .bl true, noX, ⟨Same.refl H, fun _ _ e => by cases e⟩, Reps.one (by rw [Rep]; exact ⟨a, _, rfl, hS, Reps.of_ints⟩), ⟨ns, rfl, hl, rfl⟩,
    fun d M' F' H' v e _ _ _ r => by subst e; rw [Rep] at r; exact r, postX0⟩
/-- an empty promise is kept by every def -/
theorem fn_no {x qual : Str} {st : Stmt} {f : Addr} {fd : FuncData} {N ps : List Str} (F : FnD K x qual st dvs kws f fd) (S : FnScope N ps (defScope st)) {k : Nat} : FnOk P w K mg base CX0 (k + 1) f fd ps (lSp K fun _ _ _ _ => False) :=
  FunD.ok F S (fun vs H Q E ⟨F, M, ds, Q0, E0, c, r, h, _⟩ => h.elim) fun cdv A outer s H vs Q E hr ⟨F, M, ds, Q0, E0, c, r, h, p, _⟩ => h.elim
theorem kbN {x qual : Str} {st : Stmt} {f : Addr} {fd : FuncData} {ps ks : List Str} {m n : Nat} {π : List Nat} (F : FnD K x qual st [] kws f fd) (hp : ps.length ≠ 0)
    (h : ∀ (kV doc pm : Value) (an : Option Addr) (cdv ct : Value) (us ws : List Value), us.length = m → ws.length = n → bindArgs (PySem.W.fnOf x qual (defArgs st) (defBody st) (defScope st) .none kV doc pm an cdv ct) ⟨us, ks.zip ws⟩ = pure (ps.zip (gKV m n π us ws))) : KBinds K fd ps ks (gKV m n π) (gKV m n π) := by
  obtain ⟨oc, od, dV, kV, doc, pm, an, cdv, ct, osl, rfl, lk, hcd, hD, hK⟩ := F.ex
  rcases hD with ⟨_, rfl⟩ | ⟨e, _⟩
  · exact kb_of hp (h kV doc pm an cdv ct)
  · exact absurd rfl e
end
end DL
namespace DL
open PySem PySem.Spec PyProof.Rows L2
/-! ### what is raised -/
/-- the frame's wish for what is raised, told by data -/
def Wish (K : PySem.W.Frag) [GI K] (E0 : DX) (E : XK) : Prop := ∀ {c : Value} {fs : List (Str × D)} {M' : Mp} {F' H' : Hp} {dd : Addr} {vs : List (Str × V)}, E0 c fs M' → Core K F' H' M' → F' dd = some (.xd vs) → RepF K F' fs vs → E c (some dd) H'
abbrev WE (E : XK) : WX := fun cls d _ H => E cls d H
/-- an expression that makes an exception of the class at C, its fields by the values -/
def tMkE (C : Addr) (g : List V → List (Str × V)) (n : Nat) (ta : TA) : L2.St → Hp → XK → Prop := fun σ H Q => ta σ H fun vs H1 => vs.length = n ∧ ∀ d, H1 d = none → Q (.ref C) (some d) (upd H1 d (.xd (g vs)))
/-- .. by data -/
structure FsD (g : List V → List (Str × V)) (gd : List D → List (Str × D)) (n : Nat) : Prop where
  rep : ∀ {K : PySem.W.Frag} {F : Hp} {ds : List D} {vs : List V}, ds.length = n → Reps K F ds vs → RepF K F (gd ds) (g vs)
/-- an own exception class of the text, its __init__ among it: called by n values -/
structure CalE (P : Program) (w : World) (K : PySem.W.Frag) (mg : Str → Option Value) (base : Heap) (k : Nat) (x : Str) (C : Addr) (g : List V → List (Str × V)) (gd : List D → List (Str × D)) (n : Nat) : Prop where
  mk1 : ∀ {X : Cx} {p pos : Pos} {e : Expr} {es : List Expr} {ta : TA}, X.prog = P → X.w = w → X.K = K → X.mg = mg → X.base = base → Room k X.A → Gl X x → PA X (e :: es) ta → starEach (e :: es) X.env = (false, eval e X.env) :: starEach es X.env → (backTo pos (starEach es X.env)).any (·.1) = false →
    PMk X (.Call (.Name x p) (e :: es) [] pos) (tMkE C g n ta)
  fs : FsD g gd n
/-- raise C(e, ..) -/
def dRaise (E0 : DX) (C : Addr) (gd : List D → List (Str × D)) (n : Nat) (tr : DTA) : DTS := fun _ env M => tr env M fun ds M1 => ds.length = n ∧ E0 (.ref C) (gd ds) M1
section
variable {X : Cx} {GX : GI X.K} {E : XK} {E0 : DX} {x : Str} {C : Addr} {g : List V → List (Str × V)} {gd : List D → List (Str × D)} {n k : Nat} {p pos pos' : Pos} {e : Expr} {es : List Expr} {tr tk : DTA} {f : Addr} {fd : FuncData} {ps ks : List Str} {sp : DSp}
theorem ds_raise (G : CalE X.prog X.w X.K X.mg X.base k x C g gd n) (ws : Wish X.K E0 E) (hr : Room k X.A) (ha : DA X (e :: es) tr) (hc : X.calm = true := by rfl) (tk : L2.Takes X (WE E) := by exact L2.takes_of rfl rfl rfl rfl) (hg : Gl X x := by rfl)
    (he : starEach (e :: es) X.env = (false, eval e X.env) :: starEach es X.env := by rfl) (hpl : (backTo pos (starEach es X.env)).any (·.1) = false := by rfl) : DS X (.Raise (some (.Call (.Name x p) (e :: es) [] pos)) none pos') (dRaise E0 C gd n tr) :=
  PS.imp (L2.ps_raise hc tk (G.mk1 rfl rfl rfl rfl rfl hr hg ha he hpl)) fun D σ H ⟨F, env, M, D0, he, hc, ht, hp⟩ =>
    ⟨F, env, M, _, he, hc, ht, fun ds M1 F1 H1 vs q s1 f1 c1 r1 => ⟨by rw [r1.len]; exact q.1, fun d hd => by
      obtain ⟨c2, s2, _⟩ := c1.new hd (.xd (g vs))
      exact ws q.2 c2 upd_same (RepF.mono s2 _ _ (G.fs.rep q.1 r1))⟩⟩
/-- f(e, ..); what f raises passes on -/
def dCallX (E0 : DX) (sp : DSp) (tr : DTA) : DTE := fun env M Q => tr env M fun ds M1 => sp ds M1 Q E0
/-- a def that is called and may raise -/
structure CalX (P : Program) (w : World) (K : PySem.W.Frag) (mg : Str → Option Value) (base : Heap) (k : Nat) (x : Str) (ps : List Str) (sp : DSp) (f : Addr) (fd : FuncData) : Prop where
  fn : FnOk P w K mg base (L2.CX P w) k f fd ps (lSp K sp)
  g : mg x = some (.ref f)
  kp : PySem.W.keepIn K (.ref f) = true
  b : Binds K fd ps []
theorem Wish.post {K : PySem.W.Frag} {G : GI K} {F H : Hp} {M : Mp} (ws : Wish K E0 E) (c : Core K F H M) : PostX K F H M E0 E := fun c' fs M' F' H' dd vs q s f c1 h r => ws q (c.to c1 s f) h r
theorem l_callX (ws : Wish X.K E0 E) : ∀ σ H Q, lE X.K (dCallX E0 sp tr) σ H Q → tCall (lSp X.K sp) [] E (lA X.K tr) σ H Q := fun σ H Q ⟨F, env, M, Q0, he, hc, ht, hp⟩ =>
  ⟨F, env, M, _, he, hc, ht, fun ds M1 F1 H1 vs q s1 f1 c1 r1 => by
    show lSp X.K sp (vs ++ []) H1 Q E
    rw [List.append_nil]
    exact ⟨F1, M1, ds, Q0, E0, c1.toCoreP, r1, q, (hp.after s1 f1).plain c1, ws.post c1⟩⟩
theorem de_callX (G : CalX X.prog X.w X.K X.mg X.base k x ps sp f fd) (ws : Wish X.K E0 E) (hr : Room k X.A) (ha : DA X (e :: es) tr) (tk : L2.Takes X (WE E) := by exact L2.takes_of rfl rfl rfl rfl) (hg : Gl X x := by rfl)
    (hdb : (x == ("__debug__" : Str)) = false := by decide) (he : starEach (e :: es) X.env = (false, eval e X.env) :: starEach es X.env := by rfl) (hpl : (backTo pos (starEach es X.env)).any (·.1) = false := by rfl) : DE X (.Call (.Name x p) (e :: es) [] pos) (dCallX E0 sp tr) :=
  PE.imp (pe_call G.fn hr hg G.g G.kp G.b .nil (L2.passes_call tk fun _ _ _ _ h => h) ha hdb he hpl) (l_callX ws)
end
section
variable {P : Program} {w : World} {K : PySem.W.Frag} {mg : Str → Option Value} {base : Heap} {dvs : List V} {kws : List (Str × V)}
/-- THE RULE for a def that may raise -/
theorem dfunX {x qual : Str} {st : Stmt} {f : Addr} {fd : FuncData} {N ps : List Str} {k : Nat} {sp : DSp} (F : FnD K x qual st dvs kws f fd) (S : FnScope N ps (defScope st)) (len : ∀ ds M Q E, sp ds M Q E → ds.length = ps.length)
    (hbody : ∀ (cdv : Value) (A : Around) (outer : List Env) (s : Shared) (H : Hp) (E : XK) (E0 : DX), Room k (A.deeper (envOfC qual (defScope st) s.heap.objs.size f cdv)) →
      ∃ t, (∀ G : GI K, @Wish K G E0 E → @DSs (cxOf (L2.CX P w) P w K mg base N qual (defScope st) f cdv A outer s H E) G (defBody st) t) ∧ ∀ ds M Q, sp ds M Q E0 → t (bodyE K Q) (startD N ds) M) : FnOk P w K mg base (L2.CX P w) (k + 1) f fd ps (lSp K sp) :=
  FunD.ok F S (fun vs H Q E ⟨F, M, ds, Q0, E0, c, r, h, _⟩ => by rw [r.len]; exact len ds M Q0 E0 h) fun cdv A outer s H vs Q E hr ⟨F, M, ds, Q0, E0, c, r, h, p, px⟩ => by
    obtain ⟨t, h1, h2⟩ := hbody cdv A outer s H E E0 hr
    have ws : @Wish K (entryG K F H M) E0 E := by
      intro c' fs M' F' H' dd vs' q c1 h r
      have g := @Core.g K (entryG K F H M) F' H' M' c1
      exact px c' fs M' F' H' dd vs' q g.1 g.2 (@Core.toCoreP K (entryG K F H M) F' H' M' c1) h r
    exact ⟨_, h1 (entryG K F H M) ws, F, startD N ds, M, bodyE K Q0, start_env r, @Core.mk K (entryG K F H M) F H M c ⟨Same.refl F, Fr.refl⟩, h2 ds M Q0 h, @fin_ok K (entryG K F H M) F H M Q0 Q (@PostP.post K (entryG K F H M) F H M Q0 Q p)⟩
end
end DL
namespace DL
open PySem PySem.Spec PyProof.Rows L2
/-! ### a method that says super().__init__(..) first -/
abbrev supEnv (qual : Str) (sc : Scope) (L f : Addr) (cd : Value) (cc : Addr) : Env := PySem.W.ksEnv qual sc L f cd cc
def cxSup (CX : CXT) (P : Program) (w : World) (K : PySem.W.Frag) (mg : Str → Option Value) (base : Heap) (N : List Str) (qual : Str) (sc : Scope) (f : Addr) (cd : Value) (cc : Addr) (A : Around) (outer : List Env) (s : Shared) (H : Hp) (E : XK) : Cx where
  prog := P
  w := w
  K := K
  mg := mg
  base := base
  A := A.deeper (supEnv qual sc s.heap.objs.size f cd cc)
  N := N
  s_0 := s
  H_0 := H
  env := supEnv qual sc s.heap.objs.size f cd cc
  outer := outer
  stack := supEnv qual sc s.heap.objs.size f cd cc :: outer
  ex := []
  calm := true
  fn := fun _ => false
  pn := []
  xe := fun e s' => wpAny (model P w) (A.deeper (supEnv qual sc s.heap.objs.size f cd cc)) (leaving (supEnv qual sc s.heap.objs.size f cd cc) e) (fun _ s'' => CX outer H s E e s'') (fun e' s'' => CX outer H s E e' s'') s'
structure SupScope (N P : List Str) (sc : Scope) : Prop where
  kind : sc.kind = .function
  co : sc.isCoroutine = false
  gen : sc.isGenerator = false
  nd : N.Nodup
  pre : N.take P.length = P
  par : ∀ x ∈ P, sc.names.lookup x = some .local
  nocell : ∀ y ∈ sc.names, y.2 ≠ .cell
  free : ∀ y ∈ sc.names, y.2 = .free → y.1 = ("__class__" : Str)
theorem zip_keys : ∀ (ps : List Str) (us : List Value), ps.Nodup → ((ps.zip us).map (·.1)).Nodup ∧ ∀ x ∈ (ps.zip us).map (·.1), x ∈ ps
  | [], us, _ => ⟨by simp, fun x h => by simp at h⟩
  | p :: ps, [], _ => ⟨by simp, fun x h => by simp at h⟩
  | p :: ps, u :: us, h => by
    obtain ⟨h1, h2⟩ := List.nodup_cons.mp h
    obtain ⟨i1, i2⟩ := zip_keys ps us h2
    rw [List.zip_cons_cons, List.map_cons]
    exact ⟨List.nodup_cons.mpr ⟨fun z => h1 (i2 _ z), i1⟩, fun x hx => by
      rcases List.mem_cons.mp hx with rfl | hx
      · exact List.mem_cons_self
      · exact List.mem_cons_of_mem _ (i2 x hx)⟩
theorem zip_get : ∀ {ps : List Str} {us : List Value} {i : Nat} {y : Str} {u : Value}, ps.Nodup → ps[i]? = some y → us[i]? = some u → (ps.zip us).lookup y = some u
  | [], _, _, _, _, _, h, _ => by simp at h
  | _ :: _, [], _, _, _, _, _, h => by simp at h
  | p :: ps, u' :: us, 0, y, u, nd, h1, h2 => by
    simp at h1 h2; subst h1 h2
    rw [List.zip_cons_cons, List.lookup_cons]; simp
  | p :: ps, u' :: us, i + 1, y, u, nd, h1, h2 => by
    obtain ⟨n1, n2⟩ := List.nodup_cons.mp nd
    rw [List.getElem?_cons_succ] at h1 h2
    have hne : (y == p) = false := beq_eq_false_iff_ne.mpr fun e => n1 (by rw [← e]; exact List.mem_of_getElem? h1)
    rw [List.zip_cons_cons, List.lookup_cons, hne]
    exact zip_get n2 h1 h2
theorem rev_lookup {ps : List Str} {us : List Value} {i : Nat} {y : Str} {u : Value} (nd : ps.Nodup) (h1 : ps[i]? = some y) (h2 : us[i]? = some u) : (ps.zip us).reverse.lookup y = some u := by
  rw [PySem.lookup_reverse_of_nodup _ (zip_keys ps us nd).1]
  exact zip_get nd h1 h2
theorem inv_sup {CX : CXT} {P : Program} {w : World} {K : PySem.W.Frag} {mg : Str → Option Value} {base : Heap} {N ps : List Str} {qual : Str} {sc : Scope} {f cc : Addr} {cd cl v0 : Value} {cld : Option Addr} {csl : Array (Option Value)} {A : Around} {outer : List Env} {s : Shared} {H : Hp} {E : XK} {us : List Value} {vs : List V} {h1 : Heap} {tk : Nat}
    (S : SupScope N ps sc) (hd : A.handled = none) (e0 : Env0 P w K mg base A outer s H) (hl : vs.length = ps.length) (r : Vals vs us) (hcell : K.lookup cc = some ⟨cl, cld, .cell (some v0), csl⟩)
    (hns : h1.Ns s.heap.objs.size (fun x => (ps.zip us).reverse.lookup x)) (hk : ∀ b o, s.heap.get? b = some o → h1.get? b = some o) :
    Inv (cxSup CX P w K mg base N qual sc f cd cc A outer s H E) [] (start N vs) H { s with heap := h1, toks := tk } := by
  have noA : ∀ b : Addr, b ∉ (cxSup CX P w K mg base N qual sc f cd cc A outer s H E).ex := fun b z => absurd (show b ∈ ([] : List Addr) from z) (by simp)
  have hcb := e0.mod.kin _ _ hcell
  have cls : ∀ (x : Str) (c : Addr), List.lookup x [(("__class__" : Str), cc)] = some c → x = ("__class__" : Str) ∧ c = cc := fun x c h => by
    simp only [List.lookup] at h
    split at h
    · rename_i q; exact ⟨beq_iff_eq.mp q, (Option.some.inj h).symm⟩
    · cases h
  refine ⟨⟨e0.mod, S.kind, rfl, rfl, Nat.le_refl _, fun y z c a b => (cls y c a).1.trans (cls z c b).1.symm, fun y hy => ?_, fun y c h => (by cases h), fun _ => hd, Around.frames_deeper e0.frames, .inr ⟨rfl, rfl⟩, fun b z => absurd z (noA b), e0.bs, e0.bsz, fun b _ _ => noA b, fun b z => absurd z (noA b), e0.funs, e0.frf⟩,
    rfl, e0.bare, Un.kept hk, ⟨_, hns, fun i y v a b c => ?_⟩, fun y c h => ?_, e0.hok.fresh (Nat.le_refl _), fun y c h => ?_, fun p hp => absurd (show p ∈ ([] : List (Addr × Obj)) from hp) (by simp), e0.hok.kept hk, ?_⟩
  · rcases hy with hy | hy
    · exact absurd rfl (S.nocell _ (PySem.mem_of_lookup hy))
    · have e := S.free _ (PySem.mem_of_lookup hy) rfl
      exact ⟨cc, by show List.lookup y [(("__class__" : Str), cc)] = _; rw [show y = ("__class__" : Str) from e]; rfl⟩
  · have hi : i < vs.length := by
      unfold L2.start at b
      by_cases hi : i < vs.length
      · exact hi
      · rw [List.getElem?_append_right (by simpa using hi), List.getElem?_replicate] at b
        split at b <;> cases b
    have ha : vs[i]? = some v := by
      unfold L2.start at b
      rw [List.getElem?_append_left (by simpa using hi), List.getElem?_map] at b
      cases e : vs[i]? with
      | none => rw [e] at b; cases b
      | some a => rw [e] at b; cases b; rfl
    obtain ⟨u, hu, rv⟩ := r.get ha
    have hp : ps[i]? = some y := by rw [← S.pre, List.getElem?_take_of_lt (by omega)]; exact a
    have ndP : ps.Nodup := by rw [← S.pre]; exact S.nd.sublist (List.take_sublist _ _)
    exact ⟨u, rv, .inl ⟨S.par y (List.mem_of_getElem? hp), rev_lookup ndP hp hu⟩⟩
  · obtain ⟨_, rfl⟩ := cls y c h
    exact ⟨_, _, hk _ _ (e0.bs _ _ hcb).1, rfl⟩
  · obtain ⟨_, rfl⟩ := cls y c h
    exact (e0.bs _ _ hcb).2
  · have hpl : ps.length ≤ N.length := by have := congrArg List.length S.pre; rw [List.length_take] at this; omega
    unfold L2.start
    show _ = N.length
    rw [List.length_append, List.length_map, List.length_replicate]
    omega
/-- what the written part says of super().__init__ in the class at C (a ValueError) -/
structure SupC (P : Program) (K : PySem.W.Frag) (mg : Str → Option Value) (C cc cda : Addr) : Prop where
  ox : OexC K C
  cell : ∃ cl cld csl, K.lookup cc = some ⟨cl, cld, .cell (some (.ref C)), csl⟩
  code : ∃ ccl cdd vs ccs file tf, K.lookup cda = some ⟨ccl, cdd, .fields vs, ccs⟩ ∧ vs[2]? = some (.str file tf) ∧ ((P.main.file : Str) == file) = true
  sup : mg "super" = none
  top : (P.main.scope.names.lookup ("super" : Str)).isSome = false
  sub : PySem.W.mroIn K C (.ref C) = some true
  subB : PySem.W.subIn K (.ref C) (.type "ValueError") = some true
  op : PySem.W.nsIn K cStatics "thirdparty.any" = some none
  ini : PySem.W.ks_superIn K C C "__init__" = some (some (.builtin "ValueError.__init__"))
theorem sup_first {CX : CXT} {P : Program} {w : World} {K : PySem.W.Frag} {mg : Str → Option Value} {base : Heap} {N : List Str} {qual m : Str} {sc : Scope} {f cc cda a C : Addr} {A : Around} {outer : List Env} {s s1 : Shared} {H H1 : Hp} {E : XK} {σ : L2.St} {rest : List Stmt} {j : Nat}
    {p0 p1 p2 ap cp pos : Pos} {fd : FuncData} {oc : Value} {od : Option Addr} {osl : Array (Option Value)} {ar : Arg} {Q : Flow → Shared → Prop}
    (T : SupC P K mg C cc cda) (lk : K.lookup f = some ⟨oc, od, .func fd, osl⟩) (hp : (fd.params.posonlyargs ++ fd.params.args).head? = some ar)
    (hks : sc.names.lookup ("super" : Str) = some .globalImplicit) (hkc : sc.names.lookup ("__class__" : Str) = some .free) (hka : sc.names.lookup ar.arg = some .local) (hk : sc.kind = .function) (hn : N[0]? = some ar.arg)
    (I : Inv (cxSup CX P w K mg base N qual sc f (.ref cda) cc A outer s H E) [] σ H1 s1) (h0 : σ[0]? = some (some (.ref a))) (ha : H1 a = some (exo a C none))
    (hq : ∀ s', Inv (cxSup CX P w K mg base N qual sc f (.ref cda) cc A outer s H E) [] σ H1 s' → Q .next s') {pl : Sem Bool}
    (he : eval (.Call (.Attribute (.Call (.Name "super" p0) [] [] p1) "__init__" ap) [.Constant (.str m) j cp] [] pos) (supEnv qual sc s.heap.objs.size f (.ref cda) cc) = (do
      let ov ← attributeBase (.Call (.Name "super" p0) [] [] p1) "__init__" (supEnv qual sc s.heap.objs.size f (.ref cda) cc) (eval (.Call (.Name "super" p0) [] [] p1) (supEnv qual sc s.heap.objs.size f (.ref cda) cc))
      standAt ap.atName
      let (g, first) ← holding [ov] (getMethod ov "__init__" pl)
      callWith pos g first (backTo pos (starEach [.Constant (.str m) j cp] (supEnv qual sc s.heap.objs.size f (.ref cda) cc))) [])) :
    _root_.PySem.wpAt (model P w) (A.deeper (supEnv qual sc s.heap.objs.size f (.ref cda) cc)) (.func rest (supEnv qual sc s.heap.objs.size f (.ref cda) cc))
      (exec (.Expr (.Call (.Attribute (.Call (.Name "super" p0) [] [] p1) "__init__" ap) [.Constant (.str m) j cp] [] pos) p2) (supEnv qual sc s.heap.objs.size f (.ref cda) cc)) Q
      (cxSup CX P w K mg base N qual sc f (.ref cda) cc A outer s H E).xe s1 := by
  obtain ⟨cl, cld, csl, hcell⟩ := T.cell
  obtain ⟨ccl, cdd, vs, ccs, file, tf, hcode, hvs, hfile⟩ := T.code
  obtain ⟨nm, q, Nn, bs, bm, sn, sub, ab, col, dd, k0, k1, k2, k3, k5, hC, hbm⟩ := T.ox.cls
  have KX := I.kIn
  obtain ⟨t1, ho⟩ := exo_at I.hok ha
  obtain ⟨mb, hb1, hb2⟩ := I.mod.blt
  have hint : interactive (supEnv qual sc s.heap.objs.size f (.ref cda) cc) = false := by
    unfold interactive
    rw [show (supEnv qual sc s.heap.objs.size f (.ref cda) cc).scope.kind = .function from hk]
    rfl
  refine PySem.ks_wpAt_Expr_any (PySem.ks_wpAt_MethodCall (pl := pl) ?_ he) hint
  refine PySem.ks_wpAt_super_base (env := supEnv qual sc s.heap.objs.size f (.ref cda) cc) hks hkc (by decide) rfl (KX _ _ lk) rfl hp rfl (KX _ _ hcode) rfl hvs hfile T.top ?_
  refine PySem.W.ks_loadName_global hk hks (Calls.loadGlobal_builtin (env := supEnv qual sc s.heap.objs.size f (.ref cda) cc) (I.mod.glob.keeps I.bk) T.sup (hb1.keeps I.bk) ((hb2 _ (by decide +kernel)).trans (by first | rfl | kernel_rfl)) ⟨rfl, ?_⟩)
  refine wpAny_loadName_free hk hkc rfl ⟨_, KX _ _ hcell, rfl⟩ ?_
  obtain ⟨mm, hns, hlk⟩ := I.loc
  obtain ⟨u, ru, lu⟩ := hlk 0 ar.arg (.ref a) hn h0 (.inl hka)
  obtain rfl : u = Value.ref a := ru
  obtain ⟨_, hm⟩ : (supEnv qual sc s.heap.objs.size f (.ref cda) cc).kindOf ar.arg = some .local ∧ mm ar.arg = some (.ref a) := by
    rcases lu with z | ⟨z, _⟩
    · exact z
    · rcases z with z | z <;> (rw [show (cxSup CX P w K mg base N qual sc f (.ref cda) cc A outer s H E).env.kindOf ar.arg = some .local from hka] at z; cases z)
  refine wpAny_loadName_local hk hka hns hm ?_
  have hCd := KX _ _ hC
  obtain ⟨hp1, g1, d1, tk1, os1⟩ := s1
  refine PySem.ks_wpAny_isType_cls hCd rfl ⟨rfl, ?_⟩
  refine PySem.ks_wpAny_call_super hCd rfl ho rfl (fun c e => by cases e) (PySem.W.looks_mroIn KX T.sub) (fun h2 so2 k2 => ?_)
  have I2 := I.kept (t' := tk1) k2
  have KX2 := I2.kIn
  have hinst : PySem.W.Looks (model P w) h2 (isInstance (.ref a) (.type "ValueError")) true := by
    have IA : PySem.W.InstAt h2 a { cls := .ref C, data := .fields #[.ref t1, .none, .none, .none, .bool false, .none] } C none := ⟨k2 _ _ ho, rfl, rfl, trivial⟩
    exact IA.type.andThen (PySem.W.looks_subIn KX2 T.subB)
  cases hcd : PySem.W.clsIn K C with
  | none => have z := T.ini; unfold PySem.W.ks_superIn at z; rw [hcd] at z; cases z
  | some cdD =>
  have hini := T.ini
  unfold PySem.W.ks_superIn at hini
  rw [hcd] at hini
  have hne : a ≠ C := fun z => by
    rw [z] at ho
    rw [hCd] at ho
    cases ho
  refine PySem.W.kxs_getMethod PySem.W.kxs_ValueError so2 (PySem.W.looks_opaque KX2 T.op) (l₀ := cdD.mro) (fun A Q E s k q => wpAny_bind ((PySem.W.looks_clsIn KX2 hcd) A _ E s k (wpAny_pure q))) rfl KX2 hini hinst hne (by decide) ?_
  have I3 := I2.kept (t' := tk1 + 1) (h' := h2.push (PySem.W.kxs_mw "ValueError.__init__" a)) fun b o e => Heap.get?_push_of_some _ e
  have hu : (h2.push (PySem.W.kxs_mw "ValueError.__init__" a)).get? h2.objs.size = some (PySem.W.kxs_mw "ValueError.__init__" a) := Heap.get?_push_at rfl rfl
  obtain ⟨mL, hnL, _⟩ := I2.loc
  obtain ⟨oL, esL, epL, hL, _⟩ := hnL
  have hlL := Heap.lt_size hL
  have I4 : Inv (cxSup CX P w K mg base N qual sc f (.ref cda) cc A outer s H E) [(h2.objs.size, PySem.W.kxs_mw "ValueError.__init__" a)] σ H1 ⟨h2.push (PySem.W.kxs_mw "ValueError.__init__" a), g1, d1, tk1 + 1, os1⟩ :=
    I3.pins_of fun p hp => by
      rw [List.mem_singleton] at hp
      subst hp
      refine ⟨hu, I2.hok.fresh (Nat.le_refl _), Ne.symm (Nat.ne_of_lt hlL), fun hb => ?_, fun v z => by cases z⟩
      obtain ⟨_, o, e, _⟩ := I2.ok.funs.mem hb
      have h3 := Heap.lt_size e
      have h4 := I2.ok.above
      exact absurd (Nat.lt_trans (Nat.lt_of_lt_of_le h3 h4) hlL) (Nat.lt_irrefl _)
  have hargs : PA (cxSup CX P w K mg base N qual sc f (.ref cda) cc A outer s H E) [.Constant (.str m) j cp] (tCons (tC (.str m)) tNil) := pa_cons pe_str pa_nil
  have hsp := hargs.run pos _ _ σ H1 (fun vs H' => vs = [V.str m] ∧ H1 = H') I4 ⟨rfl, rfl⟩
  have hspl : starEach [.Constant (.str m) j cp] (supEnv qual sc s.heap.objs.size f (.ref cda) cc) = (false, eval (.Constant (.str m) j cp) (supEnv qual sc s.heap.objs.size f (.ref cda) cc)) :: starEach [] (supEnv qual sc s.heap.objs.size f (.ref cda) cc) := rfl
  refine PySem.W.kxs_callWith (i := "ValueError.__init__") (x := a) rfl (PySem.Calls.evalArgs_plain (wpAny_mono hsp (fun us s4 hh => ?_) fun _ _ z => z))
  obtain ⟨vs', H', I5, r5, ev, eH⟩ := hh
  subst ev eH
  obtain ⟨hu5, _⟩ := I5.pin (h2.objs.size, PySem.W.kxs_mw "ValueError.__init__" a) (by simp)
  refine ⟨hu5, ?_⟩
  have I6 : Inv (cxSup CX P w K mg base N qual sc f (.ref cda) cc A outer s H E) [] σ H1 s4 := I5.pins_of (pins' := []) fun p hp => absurd hp (by simp)
  obtain ⟨t6, ho6⟩ := exo_at I6.hok ha
  have hC6 := I6.kIn _ _ hC
  have hz : us.length ≤ sizeLine := by
    have e := Vals.length r5
    rw [← e, sizeLine_eq]; simp
  obtain ⟨h6, g6, d6, tk6, os6⟩ := s4
  show wpAny _ _ (call (.ref h2.objs.size) us) _ _ _
  refine wpAny_call (codeAny_of_tree ?_)
  show wpAny _ _ (callAny (.ref h2.objs.size) ⟨us, []⟩) _ _ _
  simp only [callAny]
  refine wpAny_bind (wpAny_load hu5 ?_)
  simp only [PySem.W.kxs_mw, show (Value.type "method-wrapper" == Value.type "method" || Value.type "method-wrapper" == Value.type "builtin_function_or_method" || Value.type "method-wrapper" == Value.type "method-wrapper") = true by decide, if_true]
  refine PySem.W.KFB.if_so (by decide) ?_
  refine wpAny_bind (PySem.W.check_bound_init F.excBase_ValueError.toExcCallFacts hC6 ho6 rfl ?_)
  refine wpAny_bind (wpAny_pure (wpAny_pure ?_))
  refine ⟨plainId_quiet F.excBase_ValueError.init.plain _, codeAny_builtin F.excBase_ValueError.initEntry ?_⟩
  refine PySem.W.exc_init_tree (cls := .ref C) (t0 := t6) (dv := none) (c2 := .none) (c3 := .none) (b4 := .bool false) ho6 hz fun h' k hx _ => ?_
  have J := I6.write (t' := tk6) (x := a) (e := a) (o := exo a C none) (by rw [ha]; exact True.intro) (.inl rfl) k ⟨_, hx⟩ (exo_ok hx)
  have eu : upd H1 a (exo a C none) = H1 := by
    funext b
    by_cases hb : b = a
    · rw [hb, upd_same, ha]
    · rw [upd_ne hb]
  rw [eu] at J
  exact hq _ J
/-- an own __init__ whose first statement is super().__init__('..') -/
theorem fn_sup {CX : CXT} {P : Program} {w : World} {K : PySem.W.Frag} {mg : Str → Option Value} {base : Heap} {N ps : List Str} {name qual m : Str} {params : Arguments} {sc : Scope} {f cc cda C : Addr} {rest : List Stmt} {k j : Nat}
    {p0 p1 p2 ap cp pos : Pos} {dV kV doc pm ct oc : Value} {an od : Option Addr} {osl : Array (Option Value)} {ar : Arg} {sp : Sp}
    (T : SupC P K mg C cc cda)
    (lk : K.lookup f = some ⟨oc, od, .func (PySem.W.ksFn name qual params (.Expr (.Call (.Attribute (.Call (.Name "super" p0) [] [] p1) "__init__" ap) [.Constant (.str m) j cp] [] pos) p2 :: rest) sc dV kV doc pm an (.ref cda) ct cc), osl⟩)
    (hcd : PySem.W.codeIn K (.ref cda) qual = true) (S : SupScope N ps sc) (hp : (params.posonlyargs ++ params.args).head? = some ar) (hps : ps.head? = some ar.arg)
    (hks : sc.names.lookup ("super" : Str) = some .globalImplicit) (hkc : sc.names.lookup ("__class__" : Str) = some .free) (len : ∀ vs H Q E, sp vs H Q E → vs.length = ps.length) (hsp : ∀ vs H Q E, sp vs H Q E → ∃ a r, vs = .ref a :: r ∧ H a = some (exo a C none))
    {pl : Sem Bool}
    (he : ∀ L : Addr, eval (.Call (.Attribute (.Call (.Name "super" p0) [] [] p1) "__init__" ap) [.Constant (.str m) j cp] [] pos) (supEnv qual sc L f (.ref cda) cc) = (do
      let ov ← attributeBase (.Call (.Name "super" p0) [] [] p1) "__init__" (supEnv qual sc L f (.ref cda) cc) (eval (.Call (.Name "super" p0) [] [] p1) (supEnv qual sc L f (.ref cda) cc))
      standAt ap.atName
      let (g, first) ← holding [ov] (getMethod ov "__init__" pl)
      callWith pos g first (backTo pos (starEach [.Constant (.str m) j cp] (supEnv qual sc L f (.ref cda) cc))) []))
    (hbody : ∀ (A : Around) (outer : List Env) (s : Shared) (H : Hp) (vs : List V) (Q : VK) (E : XK), Room k (A.deeper (supEnv qual sc s.heap.objs.size f (.ref cda) cc)) → sp vs H Q E →
      ∃ t, PSs (cxSup CX P w K mg base N qual sc f (.ref cda) cc A outer s H E) rest t ∧ t { nx := fun _ H' => Q .non H', rt := Q } (L2.start N vs) H) :
    FnOk P w K mg base CX (k + 1) f (PySem.W.ksFn name qual params (.Expr (.Call (.Attribute (.Call (.Name "super" p0) [] [] p1) "__init__" ap) [.Constant (.str m) j cp] [] pos) p2 :: rest) sc dV kV doc pm an (.ref cda) ct cc) ps sp := by
  refine ⟨len, fun A outer s H args us vs Q E hr e0 hb r hs => ?_⟩
  have hl := len _ _ _ _ hs
  obtain ⟨a, rr, ev, ha⟩ := hsp _ _ _ _ hs
  obtain ⟨cl, cld, csl, hcell⟩ := T.cell
  have KX : K.In s.heap := e0.mod.kin.keeps fun b o e => (e0.bs b o e).1
  have lim : s.heap.NoLimit := e0.mod.nolimit.keeps fun b o e => (e0.bs b o e).1
  refine PySem.ks_codeAny_call_defAt (fd := PySem.W.ksFn name qual params (.Expr (.Call (.Attribute (.Call (.Name "super" p0) [] [] p1) "__init__" ap) [.Constant (.str m) j cp] [] pos) p2 :: rest) sc dV kV doc pm an (.ref cda) ct cc)
    (body := .Expr (.Call (.Attribute (.Call (.Name "super" p0) [] [] p1) "__init__" ap) [.Constant (.str m) j cp] [] pos) p2 :: rest) (binds := ps.zip us) hr.depth (KX _ _ lk) rfl lim (PySem.W.codeRec_of KX hcd) rfl hb S.nocell (fun ⟨n, v⟩ hy => S.par n (List.of_mem_zip hy).1) (fun h1 hns hk1 => ?_) S.co S.gen S.kind
  have I := inv_sup (CX := CX) (qual := qual) (f := f) (cd := .ref cda) (E := E) (tk := s.toks + (ps.zip us).length) S hr.hd e0 hl r hcell hns hk1
  obtain ⟨t, ht, hq⟩ := hbody A outer s H vs Q E (hr.deeper _) hs
  have hN0 : N[0]? = some ar.arg := by
    have e := congrArg List.head? S.pre
    rw [hps] at e
    cases hN : N with
    | nil => rw [hN] at e; cases hps2 : ps with
      | nil => rw [hps2] at hps; cases hps
      | cons p r => rw [hps2] at e; simp at e
    | cons n0 r0 =>
      rw [hN] at e
      cases hps2 : ps with
      | nil => rw [hps2] at hps; cases hps
      | cons p r => rw [hps2] at e; simpa using e
  have hka : sc.names.lookup ar.arg = some .local := S.par _ (List.mem_of_mem_head? (by rw [hps]; rfl))
  refine PySem.ks_wpAt_execs_cons (PySem.ks_wpAt_mono (sup_first (σ := L2.start N vs) (a := a) (Q := fun fl s' => match fl with
    | .next => _root_.PySem.wpAt (model P w) (A.deeper (supEnv qual sc s.heap.objs.size f (.ref cda) cc)) (.func _ (supEnv qual sc s.heap.objs.size f (.ref cda) cc)) (execs rest (supEnv qual sc s.heap.objs.size f (.ref cda) cc)) _ _ s'
    | fl => _) T lk hp hks hkc hka S.kind hN0 I ?_ ha (fun s' I' => ?_) (he _)) (fun fl s' z => z) fun e s' z => z)
  · subst ev; rfl
  · have fin : ∀ {σ' : L2.St} {H' : Hp} {v : V} {u : Value} {s'' : Shared}, Inv (cxSup CX P w K mg base N qual sc f (.ref cda) cc A outer s H E) [] σ' H' s'' → RelV v u → Q v H' → CE outer P w H s Q u s'' :=
      fun {σ' H' v u s''} J rv q => ⟨v, H', J.os, J.bare, J.base, J.hok, rv, q⟩
    refine wpAt_of_wpAny (wpAny_mono (ht.run [] s' (L2.start N vs) H _ I' hq) (fun fl s'' hs2 => ?_) fun e s'' hs2 => hs2)
    cases fl with
    | ret u =>
      obtain ⟨v, σ', H', J, rv, q⟩ := hs2
      exact fin J rv q
    | next =>
      obtain ⟨σ', H', J, q⟩ := hs2
      exact fin (v := V.non) (u := Value.none) J rfl q
    | brk =>
      obtain ⟨_, _, _, q⟩ := hs2
      exact False.elim q
    | cont =>
      obtain ⟨_, _, _, q⟩ := hs2
      exact False.elim q
end DL
namespace DL
open PySem PySem.Spec PyProof.Rows L2
/-! ### an own exception class: super().__init__('..'), then fields -/
def tFields (K : PySem.W.Frag) : List (Str × TE) → TS
  | [] => tNext
  | (f, te) :: r => tSeq (tOst K f (tVar 0) te) (tFields K r)
abbrev FV := Str × TE × V
def FV.st (l : List FV) : List (Str × TE) := l.map fun x => (x.1, x.2.1)
def FV.fs (l : List FV) : List (Str × V) := (l.map fun x => (x.1, x.2.2)).reverse
theorem FV.fs_cons (x : FV) (l : List FV) : FV.fs (x :: l) = FV.fs l ++ [(x.1, x.2.2)] := by unfold FV.fs; rw [List.map_cons, List.reverse_cons]
theorem ost_more {K : PySem.W.Frag} {C a d : Addr} (T : OexC K C) (hd : a ≠ d) {σ : L2.St} (h0 : σ[0]? = some (some (.ref a))) : ∀ (l : List FV) (acc : List (Str × V)) (H : Hp) (E : Ends), (∀ x ∈ l, PySem.W.findIn K (.ref C) x.1 = some none ∧ ∀ H Q, Q x.2.2 H → x.2.1 σ H Q) → acc.length + l.length ≤ 900 →
    H a = some (exo a C (some d)) → H d = some (exd d acc) → (∀ H2, H2 a = some (exo a C (some d)) → H2 d = some (exd d (FV.fs l ++ acc)) → (∀ b, b ≠ a → b ≠ d → H2 b = H b) → E.nx σ H2) → tFields K (FV.st l) E σ H
  | [], acc, H, E, _, _, ha, he, q => q H ha he fun _ _ _ => rfl
  | (f, te, v) :: l, acc, H, E, hl, hz, ha, he, q => by
    obtain ⟨h1, h2⟩ := hl _ List.mem_cons_self
    simp only [List.length_cons] at hz
    refine h2 H _ ⟨_, h0, a, C, rfl, T, h1, .inr ⟨d, acc, ha, he, by omega, ?_⟩⟩
    refine ost_more T hd h0 l ((f, v) :: acc) _ E (fun x hx => hl x (List.mem_cons_of_mem _ hx)) (by simp only [List.length_cons]; omega) (by rw [upd_ne hd]; exact ha) upd_same fun H2 e1 e2 e3 => q H2 e1 ?_ fun b n1 n2 => ?_
    · rw [e2, FV.fs_cons, List.append_assoc]; rfl
    · rw [e3 b n1 n2, upd_ne n2]
/-- what __init__ of such a class keeps: self at a, the values us; its fields g us -/
def spE (C : Addr) (g : List V → List (Str × V)) (n : Nat) : Sp := fun vs H Q _ => ∃ a us, vs = .ref a :: us ∧ us.length = n ∧ H a = some (exo a C none) ∧
  ∀ d H2, H d = none → d ≠ a → H2 a = some (exo a C (some d)) → H2 d = some (exd d (g us)) → (∀ b, b ≠ a → b ≠ d → H2 b = H b) → Q .non H2
theorem ost_all {K : PySem.W.Frag} {C a : Addr} (T : OexC K C) {σ : L2.St} (h0 : σ[0]? = some (some (.ref a))) (x : FV) (l : List FV) (H : Hp) (E : Ends) (hl : ∀ y ∈ x :: l, PySem.W.findIn K (.ref C) y.1 = some none ∧ ∀ H Q, Q y.2.2 H → y.2.1 σ H Q) (hz : l.length ≤ 800)
    (ha : H a = some (exo a C none)) (q : ∀ d H2, H d = none → d ≠ a → H2 a = some (exo a C (some d)) → H2 d = some (exd d (FV.fs (x :: l))) → (∀ b, b ≠ a → b ≠ d → H2 b = H b) → E.nx σ H2) : tFields K (FV.st (x :: l)) E σ H := by
  obtain ⟨f, te, v⟩ := x
  obtain ⟨h1, h2⟩ := hl _ List.mem_cons_self
  refine h2 H _ ⟨_, h0, a, C, rfl, T, h1, .inl ⟨ha, fun d hd hda => ?_⟩⟩
  refine ost_more T (Ne.symm hda) h0 l [(f, v)] _ E (fun y hy => hl y (List.mem_cons_of_mem _ hy)) (by simp only [List.length_cons, List.length_nil]; omega) upd_same (by rw [upd_ne hda]; exact upd_same) fun H2 e1 e2 e3 => q d H2 hd hda e1 (by rw [e2, FV.fs_cons]) fun b n1 n2 => ?_
  rw [e3 b n1 n2, upd_ne n1, upd_ne n2]
/-- C(e, ..) as an exception that is made -/
theorem mk_spE {P : Program} {w : World} {K : PySem.W.Frag} {mg : Str → Option Value} {base : Heap} {k n : Nat} {x : Str} {C fI : Addr} {fd : FuncData} {ps : List Str} {g : List V → List (Str × V)} {gd : List D → List (Str × D)} (T : OexC K C) (iC : PySem.W.findIn K (.ref C) "__init__" = some (some (.ref fI))) (tI : PySem.W.typeIn K (.ref fI) = some (.type "function"))
    (F1 : FnOk P w K mg base CX0 k fI fd ps (spE C g n)) (hb : Binds K fd ps []) (hm : mg x = some (.ref C)) (hn : n ≤ 1000) (hdb : (x == ("__debug__" : Str)) = false) (fs : FsD g gd n) : CalE P w K mg base (k + 1) x C g gd n := by
  refine ⟨fun {X p pos e es ta} e1 e2 e3 e4 e5 hr hg ha he hpl => ?_, fs⟩
  subst e1 e2 e3 e4 e5
  intro pins s σ H Q I h
  have ha' : PA X (e :: es) (fun σ H Q => ∃ Q0, ta σ H Q0 ∧ ∀ vs H1, Q0 vs H1 → Q vs H1) :=
    ⟨fun pos pins s σ H Q I ⟨Q0, h, mo⟩ => wpAny_mono (ha.run pos pins s σ H Q0 I h) (fun us s1 ⟨vs, H1, I1, r, q⟩ => ⟨vs, H1, I1, r, mo _ _ q⟩) fun _ _ z => z⟩
  refine pmk_oex T iC tI F1 hr hb .nil pass0 hg hm ha' hdb he hpl pins s σ H Q I ⟨_, h, fun vs H1 ⟨hl, q⟩ => ⟨by omega, fun a na => ⟨a, vs, by rw [List.append_nil], hl, upd_same, fun d H2 hd hda e1 e2 e3 => ⟨rfl, d, g vs, e1, e2, ?_, ?_⟩⟩⟩⟩
  · rw [upd_ne hda] at hd; exact hd
  · rw [upd_ne hda] at hd
    have e : upd (del H2 a) d (.xd (g vs)) = upd H1 d (.xd (g vs)) := by
      funext b
      by_cases h1 : b = d
      · rw [h1, upd_same, upd_same]
      · rw [upd_ne h1, upd_ne h1]
        by_cases h2 : b = a
        · rw [h2, del_same, na]
        · rw [del_ne h2, e3 b h2 h1, upd_ne h2]
    rw [e]
    exact q d hd
end DL
namespace DL
open PySem PySem.Spec PyProof.Rows L2
/-! ### the head's facts of an own exception class -/
/-- what is asked of a class under ValueError -/
def oexB (K : PySem.W.Frag) (C : Addr) : Bool := (match K.lookup C with
  | some ⟨.type "type", _, .cls cd, sl⟩ => (match cd.mro, sl.toList with
    | .ref C' :: bm, [_, _, _, _, some (.builtin n), _] => decide (C' = C) && decide (n = "ValueError.__new__") && !cd.hasDel && cd.hasDict && PySem.HandSPX.refsVE bm
    | _, _ => false)
  | _ => false) && He.eqO (PySem.W.findIn K (.ref C) "__setattr__") (some (some (.builtin "object.__setattr__"))) && decide (PySem.W.subIn K (.ref C) (.type "BaseException") = some true) && decide (PySem.W.typeIn K (.ref C) = some (.type "type")) && PySem.W.keepIn K (.ref C)
theorem oex_ok {K : PySem.W.Frag} {C : Addr} (h : oexB K C = true) : OexC K C := by
  unfold oexB at h
  obtain ⟨h, h5⟩ := He.ba h
  obtain ⟨h, h4⟩ := He.ba h
  obtain ⟨h, h3⟩ := He.ba h
  obtain ⟨h, h2⟩ := He.ba h
  refine ⟨?_, He.eqO_ok h2, of_decide_eq_true h3, of_decide_eq_true h4, h5⟩
  split at h
  · rename_i dd cd sl ho
    split at h
    · rename_i C' bm k0 k1 k2 k3 n k5 hm hs
      simp only [Bool.and_eq_true, Bool.not_eq_true', decide_eq_true_eq] at h
      obtain ⟨⟨⟨⟨rfl, rfl⟩, hdel⟩, hdict⟩, hr⟩ := h
      obtain ⟨nm, bs, mro, ns, qn, hd, sn, sub, ab, col, del⟩ := cd
      dsimp only at hm hdel hdict
      subst hm hdel hdict
      have hsl : sl = #[k0, k1, k2, k3, some (.builtin "ValueError.__new__"), k5] := by
        obtain ⟨l⟩ := sl
        simp only at hs
        rw [hs]
      subst hsl
      exact ⟨nm, qn, ns, bs, bm, sn, sub, ab, col, dd, k0, k1, k2, k3, k5, ho, hr⟩
    · cases h
  · cases h
/-- the class of the name x, its own __init__ -/
structure ExD where
  cls : Str
  params : Arguments
  body : List Stmt
  scope : Scope
  fields : List Str
def ExD.C (K : PySem.W.Frag) (d : ExD) : Addr := He.ga K d.cls
def ExD.f (K : PySem.W.Frag) (d : ExD) : Addr := He.ma K (He.ga K d.cls) "__init__"
abbrev FnC : Type := Option (Str × Str × Arguments × FuncBody × Scope × Addr × Addr × Value)
def fnC (K : PySem.W.Frag) (f : Addr) : FnC := match K.lookup f with
  | some ⟨_, _, .func fd, _⟩ => some (fd.name, fd.qualname, fd.params, fd.body, fd.scope, fd.globals, fd.builtins, fd.defaults)
  | _ => none
def ExD.val (d : ExD) : FnC := some ("__init__", d.cls ++ ".__init__", d.params, .stmts d.body, d.scope, mainGlobals, builtinsNs, .none)
/-- .. over the closure's cell and the code's file -/
def supB (P : Program) (K : PySem.W.Frag) (C f : Addr) (qual : Str) : Bool := match K.lookup f with
  | some ⟨_, _, .func fd, _⟩ => (match fd.closure, fd.code with
    | [(x, cc)], .ref cda => decide (x = ("__class__" : Str)) && (match K.lookup cc with
        | some ⟨_, _, .cell (some (.ref D)), _⟩ => decide (D = C)
        | _ => false) && (match K.lookup cda with
        | some ⟨_, _, .fields vs, _⟩ => (match vs[2]? with
          | some (Value.str file _) => (P.main.file : Str) == file
          | _ => false)
        | _ => false) && PySem.W.codeIn K (.ref cda) qual
    | _, _ => false)
  | _ => false
def ExD.ok (P : Program) (K : PySem.W.Frag) (d : ExD) : Bool := oexB K (d.C K) && supB P K (d.C K) (d.f K) (d.cls ++ ".__init__") && He.eqO (PySem.W.nsIn K mainGlobals d.cls) (some (some (.ref (d.C K)))) && He.eqO (PySem.W.nsIn K mainGlobals "super") (some none) && !(P.main.scope.names.lookup ("super" : Str)).isSome
  && decide (PySem.W.mroIn K (d.C K) (.ref (d.C K)) = some true) && decide (PySem.W.subIn K (.ref (d.C K)) (.type "ValueError") = some true) && He.eqO (PySem.W.nsIn K cStatics "thirdparty.any") (some none)
  && decide (PySem.W.ks_superIn K (d.C K) (d.C K) "__init__" = some (some (.builtin "ValueError.__init__"))) && He.eqO (PySem.W.findIn K (.ref (d.C K)) "__init__") (some (some (.ref (d.f K)))) && decide (PySem.W.typeIn K (.ref (d.f K)) = some (.type "function"))
  && d.fields.all fun x => He.eqO (PySem.W.findIn K (.ref (d.C K)) x) (some none)
/-- what is known of such a class -/
structure ExK (P : Program) (K : PySem.W.Frag) (mg : Str → Option Value) (d : ExD) (fd : FuncData) : Prop where
  ex : ∃ (oc : Value) (od : Option Addr) (osl : Array (Option Value)) (kV doc pm ct : Value) (an : Option Addr) (cda cc : Addr), fd = PySem.W.ksFn "__init__" (d.cls ++ ".__init__") d.params d.body d.scope .none kV doc pm an (.ref cda) ct cc ∧
    K.lookup (d.f K) = some ⟨oc, od, .func fd, osl⟩ ∧ PySem.W.codeIn K (.ref cda) (d.cls ++ ".__init__") = true ∧ SupC P K mg (d.C K) cc cda
  ox : OexC K (d.C K)
  g : mg d.cls = some (.ref (d.C K))
  ini : PySem.W.findIn K (.ref (d.C K)) "__init__" = some (some (.ref (d.f K)))
  ty : PySem.W.typeIn K (.ref (d.f K)) = some (.type "function")
  no : ∀ x ∈ d.fields, PySem.W.findIn K (.ref (d.C K)) x = some none
theorem exk_of {P : Program} {K : PySem.W.Frag} {h : Heap} {mg : Str → Option Value} {d : ExD} (X : K.In h) (G : h.Ns mainGlobals mg) (e : fnC K (d.f K) = d.val) (c : d.ok P K = true) : ∃ fd, ExK P K mg d fd := by
  unfold ExD.ok at c
  obtain ⟨c, c11⟩ := He.ba c
  obtain ⟨c, c10⟩ := He.ba c
  obtain ⟨c, c9⟩ := He.ba c
  obtain ⟨c, c8⟩ := He.ba c
  obtain ⟨c, c7⟩ := He.ba c
  obtain ⟨c, c6⟩ := He.ba c
  obtain ⟨c, c5⟩ := He.ba c
  obtain ⟨c, c4⟩ := He.ba c
  obtain ⟨c, c3⟩ := He.ba c
  obtain ⟨c, c2⟩ := He.ba c
  obtain ⟨c, c1⟩ := He.ba c
  have ox := oex_ok c
  unfold supB at c1
  unfold fnC at e
  cases q : K.lookup (d.f K) with
  | none => rw [q] at c1; cases c1
  | some o =>
    obtain ⟨oc, od, dt, osl⟩ := o
    rw [q] at c1 e
    cases dt with
    | func fd =>
      obtain ⟨n1, n2, n3, n4, n5, n6, n7, n8, n9, n10, n11, n12, n13, n14, n15⟩ := fd
      have e2 : (some (n1, n2, n3, n4, n5, n6, n15, n8) : FnC) = some (("__init__" : Str), d.cls ++ ".__init__", d.params, FuncBody.stmts d.body, d.scope, mainGlobals, builtinsNs, Value.none) := e
      simp only [Option.some.injEq, Prod.mk.injEq] at e2
      obtain ⟨h1, h2, h3, h4, h5, h6, h7, h8⟩ := e2
      subst h1 h2 h3 h4 h5 h6 h7 h8
      dsimp only at c1
      split at c1
      · rename_i x cc cda
        obtain ⟨c1, k4⟩ := He.ba c1
        obtain ⟨c1, k3⟩ := He.ba c1
        obtain ⟨k1, k2⟩ := He.ba c1
        have ex : x = ("__class__" : Str) := of_decide_eq_true k1
        subst ex
        have cell : ∃ cl cld csl, K.lookup cc = some ⟨cl, cld, .cell (some (.ref (d.C K))), csl⟩ := by
          split at k2
          · rename_i a1 a2 D a3 ho
            have : D = d.C K := of_decide_eq_true k2
            subst this
            exact ⟨_, _, _, ho⟩
          · cases k2
        have code : ∃ ccl cdd vs ccs file tf, K.lookup cda = some ⟨ccl, cdd, .fields vs, ccs⟩ ∧ vs[2]? = some (.str file tf) ∧ ((P.main.file : Str) == file) = true := by
          split at k3
          · rename_i a1 a2 vs a3 ho
            split at k3
            · rename_i file tf hv
              exact ⟨_, _, _, _, file, tf, ho, hv, k3⟩
            · cases k3
          · cases k3
        exact ⟨_, ⟨oc, od, osl, n9, n10, n11, n14, n12, cda, cc, rfl, q, k4, ⟨ox, cell, code, PySem.W.mg_none_of X G (He.eqO_ok c3), by simpa using c4, of_decide_eq_true c5, of_decide_eq_true c6, He.eqO_ok c7, of_decide_eq_true c8⟩⟩, ox, PySem.W.mg_of X G (He.eqO_ok c2), He.eqO_ok c9, of_decide_eq_true c10,
          fun x hx => He.eqO_ok (List.all_eq_true.mp c11 x hx)⟩
      · cases c1
    | _ => cases c1
end DL
namespace DL
open PySem PySem.Spec PyProof.Rows L2
/-! ### the head's Hook with exception classes -/
abbrev AlX : Type := He.AlD × Bool × List FnC
def obsX (P : Program) (fa : List He.Fa) (fn : List He.DefD) (ex : List ExD) (K : PySem.W.Frag) : AlX := (He.obsD fa fn K, ex.all fun d => d.ok P K, ex.map fun d => fnC K (d.f K))
def valX (fn : List He.DefD) (ex : List ExD) : AlX := (He.valD fn, true, ex.map ExD.val)
def SaysX (P : Program) (fa : List He.Fa) (fn : List He.DefD) (ex : List ExD) (K : PySem.W.Frag) : Prop := obsX P fa fn ex K = valX fn ex
def obsXG (P : Program) (n : Nat) (fa : List He.Fa) (fn : List He.DefD) (ex : List ExD) (g : Addr → Option Obj) : AlX := obsX P fa fn ex (He.frG g (He.asD g n))
def hookX (P : Program) (n : Nat) (fa : List He.Fa) (fn : List He.DefD) (ex : List ExD) : PySem.W.Hook where
  α := AlX
  obs := fun s => obsXG P n fa fn ex s.heap.get?
  val := fun _ => valX fn ex
  says := fun _ h => ∃ K : PySem.W.Frag, K.In h ∧ SaysX P fa fn ex K
  of := fun _ _ e => ⟨_, He.frG_in, e⟩
  keeps := fun _ _ _ ⟨K, hK, c⟩ k => ⟨K, PySem.W.Frag.In.keeps hK k, c⟩
theorem obsXG_eq {P : Program} {n : Nat} {fa : List He.Fa} {fn : List He.DefD} {ex : List ExD} {g : Addr → Option Obj} {s : Shared} (h : ∀ a, g a = s.heap.get? a) : obsXG P n fa fn ex g = (hookX P n fa fn ex).obs s := by
  have e : g = s.heap.get? := funext h
  rw [e] <;> rfl
section
variable {P : Program} {fa : List He.Fa} {fn : List He.DefD} {ex : List ExD} {K : PySem.W.Frag}
theorem SaysX.d (c : SaysX P fa fn ex K) : He.SaysD fa fn K := congrArg (fun z : AlX => z.1) c
theorem SaysX.exk (c : SaysX P fa fn ex K) {h : Heap} {mg : Str → Option Value} (X : K.In h) (G : h.Ns mainGlobals mg) (i : Nat) {d : ExD} (e : ex[i]? = some d := by rfl) : ∃ fd, ExK P K mg d fd := by
  have c1 : (ex.all fun d => d.ok P K) = true := congrArg (fun z : AlX => z.2.1) c
  have c2 : (ex.map fun d => fnC K (d.f K)) = ex.map ExD.val := congrArg (fun z : AlX => z.2.2) c
  have e2 : (ex.map fun d => fnC K (d.f K))[i]? = (ex.map ExD.val)[i]? := by rw [c2]
  rw [List.getElem?_map, List.getElem?_map, e] at e2
  exact exk_of X G (Option.some.inj e2) (List.all_eq_true.mp c1 d (List.mem_of_getElem? e))
end
theorem repF_nil {K : PySem.W.Frag} {F : Hp} : RepF K F [] [] := by rw [RepF]
theorem repF_cons {K : PySem.W.Frag} {F : Hp} {n : Str} {d : D} {v : V} {ds : List (Str × D)} {vs : List (Str × V)} (h : Rep K F d v) (r : RepF K F ds vs) : RepF K F ((n, d) :: ds) ((n, v) :: vs) := by
  rw [RepF]
  exact ⟨_, _, rfl, by rw [RepP]; exact ⟨rfl, h⟩, r⟩
/-- the scope of an __init__ that says super() -/
def supScB (N P : List Str) (sc : Scope) : Bool := decide (N.Nodup) && decide (N.take P.length = P) && P.all (fun x => decide (sc.names.lookup x = some .local)) && sc.names.all (fun y => decide (y.2 ≠ .cell) && (decide (y.2 ≠ .free) || decide (y.1 = ("__class__" : Str))))
theorem supSc {N P : List Str} {sc : Scope} (h1 : sc.kind = .function) (h2 : sc.isCoroutine = false) (h3 : sc.isGenerator = false) (h : supScB N P sc = true) : SupScope N P sc := by
  unfold supScB at h
  obtain ⟨h, h7⟩ := He.ba h
  obtain ⟨h, h6⟩ := He.ba h
  obtain ⟨h4, h5⟩ := He.ba h
  refine ⟨h1, h2, h3, of_decide_eq_true h4, of_decide_eq_true h5, fun x hx => of_decide_eq_true (List.all_eq_true.mp h6 x hx), fun y hy => ?_, fun y hy e => ?_⟩
  · exact of_decide_eq_true (He.ba (List.all_eq_true.mp h7 y hy)).1
  · have := (He.ba (List.all_eq_true.mp h7 y hy)).2
    rw [Bool.or_eq_true] at this
    rcases this with z | z
    · exact absurd e (of_decide_eq_true z)
    · exact of_decide_eq_true z
end DL
namespace DL
open PySem PySem.Spec PyProof.Rows L2
/-! ### f(a, *r) -/
/-- the promise as the caller sees it: the star's values laid as one tuple -/
def spV (nmax : Nat) (sp : DSp) : DSp := fun ds M Q E0 => ∃ d rest, ds = d :: rest ∧ rest.length ≤ nmax ∧ sp [d, .tup rest] M Q E0
section
variable {P : Program} {w : World} {K : PySem.W.Frag} {mg : Str → Option Value} {base : Heap} {kws : List (Str × V)}
theorem cxNew {P : Program} {w : World} : CXNew (L2.CX P w) := by
  intro outer s H h2 p rest E e s' k hz hn c
  refine StX.cxUp outer s H { s with heap := h2 } (upd H p (.tup rest)) E e s' (Un.laid k hz hn) k rfl c
theorem dfunXV {x qual pa pv : Str} {st : Stmt} {f : Addr} {fd : FuncData} {N : List Str} {k nmax : Nat} {sp : DSp} (F : FnD K x qual st [] kws f fd) (S : FnScope N [pa, pv] (defScope st)) (hz : nmax ≤ sizeLine)
    (hb : ∀ (kV doc pm : Value) (an : Option Addr) (cdv ct : Value) (u : Value) (rest : List Value), rest.length ≤ nmax → bindArgs (PySem.W.fnOf x qual (defArgs st) (defBody st) (defScope st) .none kV doc pm an cdv ct) ⟨u :: rest, []⟩ = (newTuple rest >>= fun t => pure [(pa, u), (pv, t)]))
    (hbody : ∀ (cdv : Value) (A : Around) (outer : List Env) (s : Shared) (H : Hp) (E : XK) (E0 : DX), Room k (A.deeper (envOfC qual (defScope st) s.heap.objs.size f cdv)) →
      ∃ t, (∀ G : GI K, @Wish K G E0 E → @DSs (cxOf (L2.CX P w) P w K mg base N qual (defScope st) f cdv A outer s H E) G (defBody st) t) ∧ ∀ ds M Q, sp ds M Q E0 → t (bodyE K Q) (startD N ds) M) : FnR P w K mg base (L2.CX P w) (k + 1) f (lSp K (spV nmax sp)) := by
  obtain ⟨oc, od, dV, kV, doc, pm, an, cdv, ct, osl, rfl, lk, hcd, hD, _⟩ := F.ex
  have e : dV = .none := by
    rcases hD with ⟨_, e⟩ | ⟨e, _⟩
    · exact e
    · exact absurd rfl e
  subst e
  refine FnR.imp (fn_ofV (sp := lSp K sp) lk hcd S hz (hb kV doc pm an cdv ct) cxNew fun A outer s H vs Q E hr ⟨F, M, ds, Q0, E0, c, r, h, p, px⟩ => ?_) fun vs H Q E ⟨F, M, ds, Q0, E0, c, r, ⟨d, rest, e1, e2, h⟩, p, px⟩ => ?_
  · obtain ⟨t, h1, h2⟩ := hbody cdv A outer s H E E0 hr
    have ws : @Wish K (entryG K F H M) E0 E := by
      intro c' fs M' F' H' dd vs' q c1 h r
      have g := @Core.g K (entryG K F H M) F' H' M' c1
      exact px c' fs M' F' H' dd vs' q g.1 g.2 (@Core.toCoreP K (entryG K F H M) F' H' M' c1) h r
    exact ⟨_, h1 (entryG K F H M) ws, F, startD N ds, M, bodyE K Q0, start_env r, @Core.mk K (entryG K F H M) F H M c ⟨Same.refl F, Fr.refl⟩, h2 ds M Q0 h, @fin_ok K (entryG K F H M) F H M Q0 Q (@PostP.post K (entryG K F H M) F H M Q0 Q p)⟩
  · subst e1
    rw [Reps] at r
    obtain ⟨v, vr, e3, r1, r2⟩ := r
    refine ⟨v, vr, e3, by rw [r2.len]; exact e2, fun p hp => ?_⟩
    obtain ⟨c1, s1, f1⟩ := c.new hp (.tup vr)
    exact ⟨_, M, [d, .tup rest], Q0, E0, c1, Reps.cons (r1.mono s1) (Reps.one (by rw [Rep]; exact ⟨p, vr, rfl, .inl (.inl upd_same), r2.mono s1⟩)), h,
      fun d' M' F' H' v' q s f c' r' => ‹PostP K F H M Q0 Q› d' M' F' H' v' q (s1.trans s) (f1.trans f) c' r', px.after s1 f1⟩
structure CalXV (P : Program) (w : World) (K : PySem.W.Frag) (mg : Str → Option Value) (base : Heap) (k : Nat) (x : Str) (sp : DSp) (f : Addr) : Prop where
  fn : FnR P w K mg base (L2.CX P w) k f (lSp K sp)
  g : mg x = some (.ref f)
  kp : PySem.W.keepIn K (.ref f) = true
end
section
variable {X : Cx} {GX : GI X.K} {E : XK} {E0 : DX} {x : Str} {k : Nat} {p pos : Pos} {e : Expr} {es : List Expr} {tr : DTA} {f : Addr} {sp : DSp}
theorem de_callXV (G : CalXV X.prog X.w X.K X.mg X.base k x sp f) (ws : Wish X.K E0 E) (hr : Room k X.A) (ha : DA X (e :: es) tr) (tk : L2.Takes X (WE E) := by exact L2.takes_of rfl rfl rfl rfl) (hg : Gl X x := by rfl)
    (hdb : (x == ("__debug__" : Str)) = false := by decide) (he : starEach (e :: es) X.env = (false, eval e X.env) :: starEach es X.env := by rfl) (hpl : (backTo pos (starEach es X.env)).any (·.1) = false := by rfl) : DE X (.Call (.Name x p) (e :: es) [] pos) (dCallX E0 sp tr) := by
  have h : PE X (.Call (.Name x p) (e :: es) [] pos) (tCall (lSp X.K sp) [] E (lA X.K tr)) := by
    refine ⟨fun pins s σ H Q I h => ?_⟩
    refine wpAny_Call_Name_kw (ld_glob I hg G.g ?_ hdb)
    refine PySem.W.callWith_K (h₀ := X.base) I.ok.mod.kin G.kp (thn (ha.run pos pins s σ H _ I h) fun us s1 ⟨vs, H1, I1, r, q⟩ => ⟨I1.kIn, ?_⟩) he hpl
    have q' : lSp X.K sp vs H1 Q E := by rw [← List.append_nil vs]; exact q
    exact wpAny_call (run_fnR G.fn hr (L2.passes_call tk fun _ _ _ _ h => h) I1 r q')
  exact PE.imp h (l_callX ws)
end
end DL
namespace PySem
/-! enumerate(t), t a tuple -/
theorem dl_enum_newT (t : Addr) (items : Array Value) : Meets (Builtin.«enumerate.__new__» ⟨[.type "enumerate", .ref t], []⟩) (fun _ R s => s.heap.IsTuple t items ∧
      R (.ok (.ret (.ref (s.heap.push ({ cls := .type "tuple_iterator", data := .fields #[.ref t, .int 0 0] } : Obj)).objs.size))) { s with heap := (s.heap.push ({ cls := .type "tuple_iterator", data := .fields #[.ref t, .int 0 0] } : Obj)).push { cls := .type "enumerate", data := .fields #[.none, .bool false, .ref s.heap.objs.size, rawInt 0, .none, .none] } }) :=
  .of_wp fun prog w A R s h => by
    obtain ⟨hp, g, d, tk, os⟩ := s; obtain ⟨h1, h⟩ := h
    have hsub := sub_enumerate
    have q1 : ∀ {A' : Around} {E : Value → Shared → Prop} {Q : Value → Shared → Prop}, Q (.ref hp.objs.size) ⟨hp.push ({ cls := .type "tuple_iterator", data := .fields #[.ref t, .int 0 0] } : Obj), g, d, tk, os⟩ → wpAny (model prog w) A' (pyIter (.ref t)) Q E ⟨hp, g, d, tk, os⟩ :=
      fun q => (begins_tuple t items).iter prog w _ _ ⟨hp, g, d, tk, os⟩ _ h1 q
    wp_walk using q1
    refine wpAny_stack_any fun st => wpAny_pure ?_
    split
    · rename_i c _ _ _ _ _
      cases (c == Value.type "enumerate")
      · wp_walk using q1
        exact ⟨_, rfl, h⟩
      · wp_walk using q1
        exact ⟨_, rfl, h⟩
    · wp_walk using q1
      exact ⟨_, rfl, h⟩
theorem dl_call_enumT {prog : Program} {w : World} {A : Around} {E : Value → Shared → Prop} {s : Shared} {t : Addr} {items : Array Value} {Q : Value → Shared → Prop} (h1 : s.heap.IsTuple t items)
    (h : ∀ h', IsEnum h' (s.heap.objs.size + 1) s.heap.objs.size 0 .none → h'.IsTupleIter s.heap.objs.size t 0 → (∀ b o, s.heap.get? b = some o → h'.get? b = some o) → Q (.ref (s.heap.objs.size + 1)) { s with heap := h' }) :
    wpAny (model prog w) A (call (.type "enumerate") [.ref t]) Q E s := by
  refine callType_new F.called_enumerate (by decide) (F.typeCall_enumerate_1 _) (F.newCall_enumerate_1 _) (fun obj => F.args_object_init_2 obj _) F.entry_enumerate_new (dl_enum_newT t items) ⟨h1, ?_⟩
  have hz : (s.heap.push ({ cls := .type "tuple_iterator", data := .fields #[.ref t, .int 0 0] } : Obj)).objs.size = s.heap.objs.size + 1 := Heap.size_push ..
  show _ ∧ _
  rw [hz]
  have he : IsEnum ((s.heap.push ({ cls := .type "tuple_iterator", data := .fields #[.ref t, .int 0 0] } : Obj)).push { cls := .type "enumerate", data := .fields #[.none, .bool false, .ref s.heap.objs.size, rawInt 0, .none, .none] }) (s.heap.objs.size + 1) s.heap.objs.size 0 .none := by
    have := Heap.get?_push_size (s.heap.push ({ cls := .type "tuple_iterator", data := .fields #[.ref t, .int 0 0] } : Obj)) (o := { cls := .type "enumerate", data := .fields #[.none, .bool false, .ref s.heap.objs.size, rawInt 0, .none, .none] }) rfl
    rw [hz] at this; exact this
  exact ⟨⟨_, he, rfl⟩, h _ he ⟨_, Heap.get?_push_of_some _ (Heap.get?_push_size _ rfl), rfl, rfl⟩ fun b o x => Heap.get?_push_of_some _ (Heap.get?_push_of_some _ x)⟩
theorem dl_enum_endT {prog : Program} {w : World} {A : Around} {E : Value → Shared → Prop} {s : Shared} {e it t : Addr} {i : Nat} {items : Array Value} {old : Value} {Q : Option Value → Shared → Prop} (hh : A.handled = none)
    (he : IsEnum s.heap e it i old) (hit : s.heap.IsTupleIter it t i) (ht : s.heap.IsTuple t items) (hx : items[i]? = none)
    (hQ : ∀ h', Heap.ExtBut it s.heap h' → Q none { s with heap := h' }) : wpAny (model prog w) A (pyNext (.ref e)) Q E s := by
  have hT : s.TypeIs (.ref e) "enumerate" := ⟨_, he, rfl⟩
  unfold pyNext
  refine wpAny_bind (wpAny_attempt (wpAny_callSpecial?_slot (name := Str.ofString "__next__") hT F.slot_enumerate_next (wpAny_call_entry F.slot_enumerate_next hT F.entry_enumerate_next ?_ (F.args_enumerate_next_1 _))))
  show wpAny _ _ (field (.ref e) 2 >>= _) _ _ _
  refine wpAny_bind (wpAny_field he rfl (x := .ref it) rfl ?_)
  refine wpAny_bind (wpAny_nextOf_tuple_end (A := A.in1) hh hit ht hx fun h' x he' hx' => ?_)
  obtain ⟨o, ho, hc⟩ := hx'
  refine wpAny_bind (wpAny_isInstance (T := "StopIteration") (b := true) ⟨o, ho, hc⟩ isSubtype_stop ?_)
  exact wpAny_pure (hQ _ he')
end PySem
namespace DL
open PySem PySem.Spec PyProof.Rows L2
def IteT (K : PySem.W.Frag) (a : Addr) : It :=
  ⟨fun i H => ∃ (xs : List V) (x : V), SqT K H a xs ∧ xs[i]? = some x, fun i H v H' => ∃ T x, v = .ref T ∧ H T = none ∧ H' = upd H T (.tup [.int (i : Nat), x]) ∧ ∀ xs, SqT K H a xs → xs[i]? = some x, fun i H => ∃ xs : List V, SqT K H a xs ∧ xs.length ≤ i⟩
theorem turn_enumT {P : Program} {w : World} {K : PySem.W.Frag} {elts : List Expr} {kk : Nat} {tpos : Pos} (a e it : Addr) :
    Turn P w K (.Tuple elts kk tpos) (IteT K a) [e, it] e (fun i h => (∃ old, IsEnum h e it ((i : Nat) : Int) old) ∧ h.IsTupleIter it a i ∧ e ≠ it) where
  mem := by simp
  obj := fun i h st b hb => by
    obtain ⟨⟨old, he⟩, ⟨o, ho, hc, hd⟩, _⟩ := st
    have e' : b = e ∨ b = it := by simpa using hb
    rcases e' with z | z
    · rw [z]; exact ⟨_, he, fun v q => nomatch q⟩
    · rw [z]; exact ⟨o, ho, fun v q => by rw [hd] at q; cases q⟩
  keep := fun i h h' st k => let ⟨⟨old, he⟩, hi, hne⟩ := st; ⟨⟨old, k e (by simp) _ he⟩, hi.at fun o q => k it (by simp) o q, hne⟩
  item := by
    intro X hP hw hK hc i pins s σ H E I hf st hg
    subst hP hw hK
    obtain ⟨⟨old, he⟩, hit, hne⟩ := st
    obtain ⟨xs, x, hq, hx⟩ := hg
    obtain ⟨its, rv, p, hz⟩ := I.tuple hq
    obtain ⟨u, hu, ru⟩ := rv.get hx
    have hel : e < s.heap.objs.size := Heap.lt_size he
    have hil : it < s.heap.objs.size := by obtain ⟨_, q, _⟩ := hit; exact Heap.lt_size q
    have hai : a ≠ it := fun z => by
      subst z
      obtain ⟨o1, g1, c1, _⟩ := p
      obtain ⟨o2, g2, c2, _⟩ := hit
      rw [g1] at g2; cases g2
      rw [c1] at c2
      exact absurd (Value.type.inj c2) (by decide)
    have hea : e ≠ a := fun z => by
      subst z
      obtain ⟨o1, g1, c1, _⟩ := p
      rw [he] at g1; cases g1
      exact absurd (Value.type.inj c1) (by decide)
    have hlt : i < its.toArray.size := by
      have := (List.getElem?_eq_some_iff.mp hu).1
      simpa using this
    refine wpAny_pyNext_enum_itemD (Draws.tuple (A := X.A.in1) (show X.A.in1.handled = none from I.ok.hd hc) it a hai its.toArray) he ⟨hit, p⟩ hlt hne (by simp [hne, hea]) fun x' h' tk hx' ho st' hT hsz hk => ?_
    have ex : x' = u := by
      have z : its.toArray[i]? = some x' := hx'
      rw [List.getElem?_toArray, hu] at z
      exact (Option.some.inj z).symm
    subst ex
    refine ⟨_, rfl, wpAny_letOwnedTupleGo_enum (s := { s with heap := h', toks := tk + 1 }) ho fun h'' he' sb => ?_⟩
    have hT2 : h''.get? s.heap.objs.size = some { cls := .type "tuple", data := .seq #[.int i tk, x'] } := (sb.2 _ (Nat.ne_of_gt hel)).trans hT
    have new : ObjOk X.prog X.w (upd H s.heap.objs.size (.tup [.int (i : Nat), x])) h'' s.heap.objs.size (.tup [.int (i : Nat), x]) :=
      ⟨by show 2 ≤ sizeLine; decide, [.int i tk, x'], .cons ⟨_, rfl⟩ (.cons ru .nil), ⟨_, hT2, rfl, _, rfl⟩⟩
    have I1 : Inv X pins σ (upd H s.heap.objs.size (.tup [.int (i : Nat), x])) { s with heap := h'', toks := tk + 1 } :=
      I.turnedNew (ch := [e, it]) (fun b ob hb q => (sb.2 b (fun z => hb (by simp [z]))).trans (hk b ob (fun z => hb (by simp [z])) (fun z => hb (by simp [z])) q)) hf (Nat.le_refl _) new
    refine ⟨.ref s.heap.objs.size, _, I1, rfl, ⟨_, x, rfl, I.hok.fresh (Nat.le_refl _), rfl, fun ys hy => by rw [I.tuple_inj hy hq]; exact hx⟩, ⟨⟨x', ?_⟩, st'.1.at fun o q => (sb.2 it (Ne.symm hne)).trans q, hne⟩, fun b hb => ?_⟩
    · have e1 : ((i + 1 : Nat) : Int) = (i : Int) + 1 := by omega
      rw [e1]; exact he'
    · have hb' : b < s.heap.objs.size := by
        have e' : b = e ∨ b = it := by simpa using hb
        rcases e' with z | z
        · rw [z]; exact hel
        · rw [z]; exact hil
      rw [upd_ne (Nat.ne_of_lt hb')]
      exact (hf b hb).1
  done := by
    intro X hP hw hK hc i pins s σ H E I hf st hg
    subst hP hw hK
    obtain ⟨⟨old, he⟩, hit, hne⟩ := st
    obtain ⟨xs, hq, hx⟩ := hg
    obtain ⟨its, rv, p, hz⟩ := I.tuple hq
    obtain ⟨f0, f1, f2, f3, f4, f5⟩ := hf it (by simp)
    have hl := rv.length
    exact dl_enum_endT (I.ok.hd hc) he hit p (by simp; omega) fun h' eb => ⟨rfl, I.turned (t' := s.toks) (fun b o hb q => eb b o hb q) f0 f1 f3 f4 f5⟩
  self := fun A i s Q E st h => let ⟨⟨_, he⟩, _⟩ := st; wpAny_pyIter_enum he h
def iEnumT (K : PySem.W.Frag) (ta : TA) : TI := fun σ H R => ta σ H fun vs H1 => ∃ a xs, vs = [.ref a] ∧ SqT K H1 a xs ∧ R (IteT K a) H1
theorem pi_enumT {X : Cx} {e : Expr} {ta : TA} {p pos tpos : Pos} {elts : List Expr} {kk : Nat} (hg : Gl X "enumerate") (hm : X.mg "enumerate" = none) (ha : PA X [e] ta) (hs : starEach [e] X.env = [(false, eval e X.env)] := by rfl) :
    PI X (.Tuple elts kk tpos) (.Call (.Name "enumerate" p) [e] [] pos) (iEnumT X.K ta) := by
  refine ⟨fun pins s σ H R I h => ?_⟩
  refine Call_ (ld_blt I hg hm boot_enumerate (PyProof.Rows.callWith_type1 (thn (ha.run pos pins s σ H _ I h) fun us s1 ⟨vs, H1, I1, r1, q1⟩ => ?_) hs rfl))
  obtain ⟨a, xs, ex, hq, q⟩ := q1
  subst ex
  cases r1 with
  | cons r rr =>
    cases rr
    cases r
    obtain ⟨its, rv, p', hz⟩ := I1.tuple hq
    refine dl_call_enumT p' fun h' he hit hk => wpAny_pyIter_enum he ?_
    have I2 : Inv X pins σ H1 { s1 with heap := h' } := I1.kept (t' := s1.toks) hk
    refine ⟨s1.heap.objs.size + 1, [s1.heap.objs.size + 1, s1.heap.objs.size], _, _, H1, rfl, I2, turn_enumT a (s1.heap.objs.size + 1) s1.heap.objs.size, ⟨⟨.none, he⟩, hit, Nat.succ_ne_self _⟩, fun b hb => ?_, q⟩
    have e' : b = s1.heap.objs.size + 1 ∨ b = s1.heap.objs.size := by simpa using hb
    have hle : s1.heap.objs.size ≤ b := by
      rcases e' with z | z
      · rw [z]; exact Nat.le_add_right _ _
      · rw [z]; exact Nat.le_refl _
    exact I1.fpOk hle (I1.hok.fresh hle)
/-! ### enumerate, by data -/
def enumD : Nat → List D → List D
  | _, [] => []
  | i, d :: r => .tup [.int i, d] :: enumD (i + 1) r
theorem enumD_len : ∀ (k : Nat) (ds : List D), (enumD k ds).length = ds.length
  | _, [] => rfl
  | k, d :: r => by rw [enumD, List.length_cons, List.length_cons, enumD_len]
theorem enumD_get : ∀ (k : Nat) (ds : List D) (i : Nat), (enumD k ds)[i]? = ds[i]?.map fun d => D.tup [.int ((k + i : Nat) : Int), d]
  | _, [], i => by simp [enumD]
  | k, d :: r, 0 => by simp [enumD]
  | k, d :: r, i + 1 => by
    rw [enumD, List.getElem?_cons_succ, enumD_get, List.getElem?_cons_succ, show k + 1 + i = k + (i + 1) by omega]
theorem yl_enumT {K : PySem.W.Frag} {G : GI K} {F : Hp} {a : Addr} {ds : List D} {vs : List V} (r : Reps K F ds vs) (hT : SqT K F a vs) : Yl K (IteT K a) F (enumD 0 ds) (fun _ => True) where
  go := fun {F' H M i} s c k hi => by
    rw [enumD_len, ← r.len] at hi
    exact ⟨vs, vs[i], sameT (s.trans c.same) hT, List.getElem?_eq_getElem hi⟩
  stop := fun {F' H M i} s c k hi => by
    rw [enumD_len, ← r.len] at hi
    exact ⟨vs, sameT (s.trans c.same) hT, hi⟩
  yld := fun {F' H H' M i x} s c k hi hy => by
    rw [enumD_len] at hi
    obtain ⟨T, x0, rfl, hn, rfl, hx⟩ := hy
    have hx0 := hx vs (sameT (s.trans c.same) hT)
    obtain ⟨v, e1, e2⟩ := r.get (List.getElem?_eq_getElem hi)
    rw [e1] at hx0
    cases hx0
    obtain ⟨c1, s1, f1⟩ := c.new hn (.tup [.int (i : Nat), x0])
    refine ⟨.tup [.int ((0 + i : Nat) : Int), ds[i]], _, by rw [enumD_get, List.getElem?_eq_getElem hi]; rfl, s1, c1, f1, ?_⟩
    rw [Rep]
    exact ⟨T, [.int (i : Nat), x0], rfl, .inl (.inl upd_same), Reps.cons (by rw [Rep, Nat.zero_add]) (Reps.one (e2.mono (s.trans s1)))⟩
def dEnumT (tr : DTA) : DTI := fun env M R => tr env M fun ds M1 => match ds with
  | [.tup xs] => R (enumD 0 xs) (fun _ => True) M1
  | _ => False
section
variable {X : Cx} {GX : GI X.K} {e : Expr} {tr : DTA} {p pos tpos : Pos} {elts : List Expr} {kk : Nat}
theorem di_enumT (hm : X.mg "enumerate" = none) (ha : DA X [e] tr) (hg : Gl X "enumerate" := by rfl) (hs : starEach [e] X.env = [(false, eval e X.env)] := by rfl) : DI X (.Tuple elts kk tpos) (.Call (.Name "enumerate" p) [e] [] pos) (dEnumT tr) :=
  PI.imp (pi_enumT hg hm ha hs) fun σ H R ⟨F, env, M, R0, he, hc, ht, hp⟩ => ⟨F, env, M, _, he, hc, ht, fun ds M1 F1 H1 vs q s1 f1 c1 r1 => by
    revert q
    dsimp only
    split <;> intro q
    · obtain ⟨v, e1, e2⟩ := reps1 r1
      rw [Rep] at e2
      obtain ⟨a, us, e3, e4, e5⟩ := e2
      subst e1 e3
      exact ⟨a, us, rfl, sameT c1.same e4, hp _ _ _ _ _ _ q s1 f1 c1 (yl_enumT e5 e4)⟩
    · exact q.elim⟩
theorem dEnumT_ap {env : DSt} {M : Mp} {R : List D → (Mp → Prop) → Mp → Prop} : dEnumT tr env M R = tr env M fun ds M1 => (match ds with
  | [.tup xs] => R (enumD 0 xs) (fun _ => True) M1
  | _ => False) := rfl
end
end DL
namespace DL
open PySem PySem.Spec PyProof.Rows L2
/-! ### try: .. except (A, B, C) as e: .. -/
theorem flying_keeps {B h h' : Heap} {l : List Env} {a : Addr} {Z : Obj → Prop} (f : HandSPX.FlyingZ B l a Z h) (k : ∀ b o, h.get? b = some o → h'.get? b = some o) : HandSPX.FlyingZ B l a Z h' := by
  obtain ⟨k1, k2, k3, oe, vs, tr, ot, ts, he, hz, hd, h1, hr⟩ := f
  refine ⟨fun b o e => k b o (k1 b o e), k2, Heap.FunFrames.of_keeps (fun b o e _ => ⟨o, k b o e, rfl⟩) k3, oe, vs, tr, ot, ts, k _ _ he, hz, hd, h1, ?_⟩
  exact ⟨hr.1, hr.2.1, k _ _ hr.2.2.1, hr.2.2.2⟩
end DL
namespace L2H
open PySem PySem.Spec PyProof.Rows L2
open DL (flying_keeps)
/-- what the clause 'except (A, B, C) as n' wishes -/
def wAs3 (K : PySem.W.Frag) (c1 c2 c3 : Value) (i : Nat) (ts : Addr → Value → Option Addr → TS) (Wout : WX) (D : Ends) : WX := fun cls d σ H =>
  ∃ b, PySem.W.exmAny K cls [c1, c2, c3] = some b ∧ (b = true → ∀ a, H a = none → ts a cls d { nx := fun σ' H' => D.nx (σ'.set i none) H', rt := D.rt, bk := fun σ' H' => D.bk (σ'.set i none) H', ct := fun σ' H' => D.ct (σ'.set i none) H' } (σ.set i (some (.ref a))) H) ∧
    (b = false → Wout cls d σ H)
section
variable {X : Cx} {y1 y2 y3 n : Str} {c1 c2 c3 : Value} {i kk : Nat} {body suite : List Stmt} {b₀ : Stmt} {q0 q1 q2 q3 pos pos' : Pos} {tb : WX → TS} {ts : Addr → Value → Option Addr → TS} {Wout : WX}
theorem ps_try_three (hs : X.stack = X.env :: X.outer) (hf : X.env.frame = some X.env.locals) (hN : X.N.Nodup) (hi : X.N[i]? = some n) (hln : X.env.kindOf n = some .local) (hc1 : Names X y1 c1) (hc2 : Names X y2 c2) (hc3 : Names X y3 c3) (tk : Takes X Wout)
    (hb : ∀ (W : WX) (pn : List (Addr × Obj)) (xe : Value → Shared → Prop), (∀ q ∈ X.pn, q ∈ pn) → Takes (X.tr pn xe) W → PassesOwn (model X.prog X.w) X.A X.env xe → PSs (X.tr pn xe) body (tb W))
    (hsu : ∀ (a : Addr) (oe : Obj) (cls : Value) (d : Option Addr) (pn : List (Addr × Obj)), Zc cls d oe → (∃ vs, oe.data = .fields vs) → PSs (X.suite a ((a, oe) :: pn)) (b₀ :: suite) (ts a cls d)) :
    PS X (.Try body [.ExceptHandler (some (.Tuple [.Name y1 q1, .Name y2 q2, .Name y3 q3] kk q0)) (some n) (b₀ :: suite) pos'] [] [] pos) (fun D σ H => tb (wAs3 X.K c1 c2 c3 i ts Wout D) D σ H) := by
  refine ⟨fun pins s σ H D I h => ?_⟩
  have ok := I.ok
  have hfr : X.A.frames = some (X.env :: X.outer) := by rw [ok.frames, hs]
  have hloc : Loc X.env.scope n := .inl hln
  refine wpAny_Try_except ?_
  refine wpAny_mono ((hb (wAs3 X.K c1 c2 c3 i ts Wout D) (X.pn ++ pins) (fun e s₁ => wpAny (model X.prog X.w) X.A (noteFrame e X.env) (fun _ s₂ => wpAny (model X.prog X.w) X.A (setFlight e none) (fun _ s₃ =>
    wpAny (model X.prog X.w) X.A (handleBy e X.env [.ExceptHandler (some (.Tuple [.Name y1 q1, .Name y2 q2, .Name y3 q3] kk q0)) (some n) (b₀ :: suite) pos']) (SP X pins D) X.xe s₃) X.xe s₂) X.xe s₁) (fun q hq => List.mem_append_left _ hq) (fun u s' xx => ?_) PassesOwn.looking).run [] s σ H D (I.toTry _) h) (fun f s1 hsp => ?_) (fun e s1 he => he)
  · -- the catch
    obtain ⟨a, B, sI, pins', σ', H', cls, d, rfl, J', nb, up, sky, na, os, ag, b, hb1, hyes, hno⟩ := xx
    have J : Inv X pins σ' H' sI := J'.ofTry ok
    have sky' : Sky B (X.env :: X.outer) a (Zc cls d) X.env.locals s'.heap := by rw [← hs]; exact sky
    show wpAny (model X.prog X.w) X.A (noteFrame (.ref a) X.env) _ _ _
    refine Sky.land Zc.steady hfr hf sky' fun h3 fl3 up3 => ?_
    have J3 : Inv X pins σ' H' { s' with heap := h3 } := J.landed nb fl3.1 (up.trans up3) os ag
    obtain ⟨oe3, vs3, he3, hz3, hd3⟩ := fl3.there
    have notFr : ∀ {h : Heap} {o : Obj} {vs : Array Value}, h.FunFrames B (X.env :: X.outer) → h.get? a = some o → o.data = .fields vs → a ∉ frs (X.env :: X.outer) := fun {h o vs} ff e dd hm => by
      obtain ⟨_, o', e', hnf⟩ := ff.mem hm
      rw [e] at e'; cases e'
      exact hnf _ dd
    have nfr := notFr fl3.2.2.1 he3 hd3
    have nL : a ≠ X.env.locals := fun z => nfr (List.mem_filterMap.mpr ⟨X.env, List.mem_cons_self, by rw [hf, z]⟩)
    have nF : a ∉ X.fs := fun hm => by
      obtain ⟨e, he, q⟩ := List.mem_filterMap.mp hm
      exact nfr (List.mem_filterMap.mpr ⟨e, List.mem_cons_of_mem _ he, q⟩)
    have S3 := J3.suite he3 hd3 na nL nF
    refine wpAny_handleBy_cons (codeAny_handlers_test ?_) (by intro q; cases q)
    have kp : ∀ q o, h3.get? q = some o → (h3.push { cls := .type "tuple", data := .seq [c1, c2, c3].toArray }).get? q = some o := fun _ _ z => Heap.get?_push_of_some _ z
    have LT : PySem.W.Looks (model X.prog X.w) h3 (typeOf (.ref a)) cls := fun A Q E s k q => wpAny_typeOf_ref (k _ _ he3) (by rw [hz3.1]; exact q)
    have LM := PySem.W.exm_tup3 (M := model X.prog X.w) ((J3.kIn).keeps kp) (LT.keeps kp) (Heap.get?_push_size h3 rfl) hb1
    have test : ∀ {y : Str} {c : Value} {np : Pos}, Names X y c → ∀ {Q : Value → Shared → Prop} {E : Value → Shared → Prop}, Q c { s' with heap := h3 } → wpAny (model X.prog X.w) (X.A.mark (some (.ref a))) (eval (.Name y np) X.env) Q E { s' with heap := h3 } := fun {y c np} hc {Q E} q => by
      obtain ⟨hg, hdbg, hm | ⟨hm, hv, hnn⟩⟩ := hc
      · exact ld_glob (X := X.suite a ((a, oe3) :: (X.pn ++ pins))) S3 hg hm q hdbg
      · exact ld_blt (X := X.suite a ((a, oe3) :: (X.pn ++ pins))) S3 hg hm hv q hnn hdbg
    have flp := flying_keeps fl3 kp
    have upp : h3.UpToSlots (h3.push { cls := .type "tuple", data := .seq [c1, c2, c3].toArray }) := fun b o e _ => ⟨o.slots, kp b o e⟩
    refine wpAny_Tuple (wpAny_items_cons (test hc1 (wpAny_items_cons (test hc2 (wpAny_items_cons (test hc3 (wpAny_items_nil ⟨by size_fits, ?_⟩)))))))
    refine LM.here ?_
    cases b with
    | true =>
      refine codeAny_handlers_suite_as ?_
      refine HandSPX.lands_againZ flp fun h4 fl4 up4 => ?_
      have J4 : Inv X pins σ' H' { s' with heap := h4 } := J.landed nb fl4.1 (((up.trans up3).trans upp).trans up4) os ag
      obtain ⟨oe4, vs4, he4, hz4, hd4⟩ := fl4.there
      have S4 := J4.suite he4 hd4 na nL nF
      refine store_ok (X := X.suite a ((a, oe4) :: (X.pn ++ pins))) (v := .ref a) S4 hN hi hloc rfl (fun s5 S5 => ?_) (.inr hln)
      refine wpAny_mono ((hsu a oe4 cls d (X.pn ++ pins) hz4 ⟨_, hd4⟩).run [] s5 _ H' _ S5 (hyes rfl a na)) (fun f s6 hsp => ?_) (fun _ _ z => False.elim z)
      have end_ : ∀ {σ6 : St} {H6 : Hp} {Q : Shared → Prop}, Inv (X.suite a ((a, oe4) :: (X.pn ++ pins))) [] σ6 H6 s6 → (∀ s7, Inv X pins (σ6.set i none) H6 s7 → Q s7) →
          wpAny (model X.prog X.w) X.A (do bindName X.env n .none; unbindBehindTheSuite X.env n pos') (fun _ s7 => Q s7) X.xe s6 := fun {σ6 H6 Q} S6 hq => gone_ok (S6.unsuite ok) hN hi hln hq
      cases f with
      | next =>
        obtain ⟨σ6, H6, S6, q6⟩ := hsp
        exact end_ S6 fun s7 J7 => ⟨_, _, J7, q6⟩
      | brk =>
        obtain ⟨σ6, H6, S6, q6⟩ := hsp
        exact end_ S6 fun s7 J7 => ⟨_, _, J7, q6⟩
      | cont =>
        obtain ⟨σ6, H6, S6, q6⟩ := hsp
        exact end_ S6 fun s7 J7 => ⟨_, _, J7, q6⟩
      | ret u =>
        obtain ⟨v6, σ6, H6, S6, r6, q6⟩ := hsp
        exact end_ S6 fun s7 J7 => ⟨_, _, _, J7, r6, q6⟩
    | false =>
      show wpAny _ X.A (handleBy (.ref a) X.env []) _ _ _
      refine wpAny_handleBy_nil ?_
      obtain ⟨k1, k2, k3, oe, vs, T, oT, ts', he, hz, hd, h1, hr⟩ := id flp
      unfold PySem.passOn
      refine wpAny_bind (wpAny_field he hd h1 ?_)
      rw [if_neg (show ¬ ((Value.ref T == Value.none) = true) from by simp)]
      have fin : wpAny (model X.prog X.w) X.A (setFlight (.ref a) X.env.frame) (fun _ s4 => wpAny (model X.prog X.w) X.A (throw (.ref a) : Sem Flow) (SP X pins D) X.xe s4) X.xe { s' with heap := h3.push { cls := .type "tuple", data := .seq [c1, c2, c3].toArray } } := by
        rw [hf]
        refine HandSPX.setFlight_upZ flp fun h4 hh4 up4 => wpAny_throw (tk _ _ ?_)
        exact ⟨a, B, sI, pins, σ', H', cls, d, rfl, J, nb, ((up.trans up3).trans upp).trans up4, .inr (.inr (by rw [hs]; exact hh4)), na, os, ag, hno rfl⟩
      first
        | exact wpAny_bind (wpAny_pure (wpAny_bind fin))
        | exact wpAny_bind fin
  · cases f with
    | next =>
      obtain ⟨σ', H', J', q⟩ := hsp
      exact wpAny_execs_nil ⟨σ', H', J'.ofTry ok, q⟩
    | brk =>
      obtain ⟨σ', H', J', q⟩ := hsp
      exact ⟨σ', H', J'.ofTry ok, q⟩
    | cont =>
      obtain ⟨σ', H', J', q⟩ := hsp
      exact ⟨σ', H', J'.ofTry ok, q⟩
    | ret u =>
      obtain ⟨v, σ', H', J', r, q⟩ := hsp
      exact ⟨v, σ', H', J'.ofTry ok, r, q⟩
end
end L2H
namespace DL
open PySem PySem.Spec PyProof.Rows L2
/-- a wish that looks at no slot of the body -/
def anyE (n : Nat) (W : WX) : XK := fun c d H => ∀ σ' : L2.St, σ'.length = n → W c d σ' H
theorem takes_any {X : Cx} {W : WX} (t : L2.Takes X W) : L2.Takes X (WE (anyE X.N.length W)) := fun u s' ⟨a, B, sI, pins, σ, H, cls, d, e, I, nb, up, sky, na, os, ag, w⟩ =>
  t u s' ⟨a, B, sI, pins, σ, H, cls, d, e, I, nb, up, sky, na, os, ag, w σ I.len⟩
/-- a reading of which there is some kept relation and some wish -/
def tSome (K : PySem.W.Frag) (E : XK) (r : GI K → DX → TS) : TS := fun D σ H => ∃ (G : GI K) (E0 : DX), @Wish K G E0 E ∧ r G E0 D σ H
theorem pss_some {X : Cx} {b : List Stmt} {E : XK} {r : GI X.K → DX → TS} (h : ∀ (G : GI X.K) (E0 : DX), @Wish X.K G E0 E → PSs X b (r G E0)) : PSs X b (tSome X.K E r) :=
  ⟨fun pins s σ H D I ⟨G, E0, ws, q⟩ => (h G E0 ws).run pins s σ H D I q⟩
end DL
namespace DL
open PySem PySem.Spec PyProof.Rows L2
/-- e.f of the caught exception at a, whose fields are fs -/
def dXf (a : Addr) (fs : List (Str × D)) (f : Str) (te : DTE) : DTE := fun env M Q => te env M fun x M1 => x = .ptr a ∧ ∃ d, fs.lookup f = some d ∧ Q d M1
/-- the kept relation tells the fields -/
def Tells (K : PySem.W.Frag) (G : GI K) (dd : Addr) (fs : List (Str × D)) : Prop := ∀ {F H : Hp} {M : Mp}, G.p F H M → ∃ vs, F dd = some (.xd vs) ∧ RepF K F fs vs
theorem l_xf {K : PySem.W.Frag} {G : GI K} {a C dd : Addr} {fs : List (Str × D)} {f : Str} {te : DTE} (T : Tells K G dd fs) : ∀ σ H Q, lE K (dXf a fs f te) σ H Q → tXf a (.ref C) (some dd) C f (lE K te) σ H Q := fun σ H Q ⟨F, env, M, Q0, he, hc, ht, hp⟩ =>
  ⟨F, env, M, _, he, hc, ht, fun d M' F' H' v ⟨e, d2, l, q⟩ s1 f1 c1 r1 => by
    subst e
    obtain ⟨vs, hF, rf⟩ := T c1.g
    obtain ⟨v2, l2, r2⟩ := rf.look l
    rw [Rep] at r1
    exact ⟨r1, rfl, dd, vs, v2, rfl, c1.same _ _ hF, l2, hp _ _ _ _ _ q s1 f1 c1 r2⟩⟩
theorem de_xf {X : Cx} {G : GI X.K} {a C dd : Addr} {oe : Obj} {pn : List (Addr × Obj)} {e : Expr} {te : DTE} {pos : Pos} {n : Str} {fs : List (Str × D)} (T : Tells X.K G dd fs) (xc : XfC X.K C) (hno : PySem.W.findIn X.K (.ref C) n = some none)
    (hz : Zc (.ref C) (some dd) oe) (hf : ∃ vs, oe.data = .fields vs) (he : DE (X.suite a ((a, oe) :: pn)) e te) (hb : attributeBase e n X.env (eval e X.env) = eval e X.env := by rfl) : DE (X.suite a ((a, oe) :: pn)) (.Attribute e n pos) (dXf a fs n te) :=
  PE.imp (pe_xf xc hno hz hf he hb) (l_xf T)
end DL
namespace LamN
open PySem PySem.Spec PyProof.Rows L2 DL
open LamX (CodeO TabB among_app inv_table codeO_ne)
/-! ### making a lambda: its function object and its code object are told -/
section
variable {X : Cx} {pins : List (Addr × Obj)} {σ : L2.St} {H : Hp} {s : Shared}
/-- what the table at P tells -/
def TabO (H : Hp) (ps : Array Value) (q : Str) : Prop := TriplesOk ps.toList ∧ ∀ (pos : Pos) (cv : Value), codeAmong pos ps.toList = some cv → ∃ c, cv = .ref c ∧ H c = some (CodeO c q)
/-- a new object that is told by itself -/
theorem inv_fun {f : Addr} {o : Obj} {h' : Heap} {tk : Nat} (I : Inv X pins σ H s) (k : ∀ b u, s.heap.get? b = some u → h'.get? b = some u) (hf : s.heap.objs.size ≤ f) (ho : h'.get? f = some o) : Inv X pins σ (upd H f (FunO f o)) { s with heap := h', toks := tk } :=
  I.laid (t' := tk) (a := f) (o := FunO f o) (h' := h') k hf ⟨ho, ⟨o, ho⟩, fun h1 h2 e st => st _ e⟩
theorem lam_tail {F : Hp} {c P : Addr} {q : Str} {params : Arguments} {body : Expr} {scope : Scope} {pos : Pos} {dV : Value} {dfl : Option Int} {ps : Array Value} {E : Value → Shared → Prop} {Q : Value → Shared → Prop} {fl : Nat} (I : Inv X pins σ H s) (TB : TabB X.base X.mg c P) (hcode : X.env.code = .ref c)
    (hP : H P = some (.tbl ps)) (hS : Same F H) (hT : TabO F ps q) (hd : DflAt F dV dfl) (hfree : ∀ y ∈ scope.names, y.2 = .free → ∃ c, X.env.cells.lookup y.1 = some c)
    (h : ∀ (f : Addr) (F1 H1 : Hp) (s' : Shared) (more : Array Value), Inv X pins σ H1 s' → Same F F1 → Same F1 (fun b => if b = P then F1 P else H1 b) → (∀ b o, H b = some o → F b = none → F1 b = none) → (∀ b o, H b = some o → b ≠ P → H1 b = some o) → H1 P = some (.tbl (ps ++ more)) → TabO F1 (ps ++ more) q →
      LamAt F1 f ⟨q, params, body, scope, cloFrom X.env.cells scope.names [], dfl⟩ → Q (.ref f) s') :
    wpAny (model X.prog X.w) X.A (makeTail "<lambda>" q params (.expr body) scope X.env dV .none none pos fl) Q E s := by
  have bP : s.heap.BuiltinsAt X.mg P := TB.bm.keeps I.bk
  have hP' : s.heap.get? P = some { cls := .none, data := .fields ps } := I.hok P _ hP
  have dfl_up : ∀ {F' : Hp}, Same F F' → DflAt F' dV dfl := fun {F'} e => by
    cases dfl with
    | none => exact hd
    | some i =>
      obtain ⟨t, a, b⟩ := hd
      exact ⟨t, a, e _ _ b⟩
  have noF : ∀ {a : Addr}, H a = none → F a = none := fun {a} n => hS.free n
  cases hc : codeAmong pos ps.toList with
  | none =>
    refine PySem.W.kdv_makeTail (mg := X.mg) (c := c) (P := P) (ps := ps) (closure_ok hfree) I.ok.glob (I.mod.glob.keeps I.bk) hcode (TB.code.keeps I.bk) hP' hT.1 hc TB.gP bP fun c' ctv doc h' tk hx hge hlt hrec htb => ?_
    obtain ⟨c2, oc, vs, t, e2, hoc, hdd, hv⟩ := hrec
    cases e2
    have hsz : s.heap.objs.size ≤ h'.objs.size := Nat.le_trans hge (Nat.le_of_lt hlt)
    have nC : H c' = none := I.hok.fresh hge
    have nPc : P ≠ c' := ne_of_none hP nC
    have I1 := inv_table (t' := tk) (more := #[rawInt pos.line, rawInt pos.col, .ref c']) (h' := h') I hP (fun b o hb e => hx b o hb e) htb hge ⟨oc, vs, t, hoc, hdd, hv⟩
    generalize hH2 : upd (upd H P (.tbl (ps ++ #[rawInt pos.line, rawInt pos.col, .ref c']))) c' (CodeO c' q) = H2 at I1
    have hE2 : ∀ b o, H b = some o → b ≠ P → H2 b = some o := fun b o e n => by rw [← hH2, upd_ne (ne_of_none e nC), upd_ne n]; exact e
    have hP2 : H2 P = some (.tbl (ps ++ #[rawInt pos.line, rawInt pos.col, .ref c'])) := by rw [← hH2, upd_ne nPc, upd_same]
    have hC2 : H2 c' = some (CodeO c' q) := by rw [← hH2, upd_same]
    have nF2 : H2 h'.objs.size = none := I1.hok.fresh (Nat.le_refl _)
    have nF : H h'.objs.size = none := I.hok.fresh hsz
    have I2 := inv_fun (f := h'.objs.size) (o := lamO ⟨q, params, body, scope, cloFrom X.env.cells scope.names [], dfl⟩ dV doc ((X.mg "__name__").getD .none) c' ctv) (h' := h'.push (PySem.W.kdv_obj "<lambda>" q params (.expr body) scope (cloFrom X.env.cells scope.names []) dV doc ((X.mg "__name__").getD .none) c' ctv)) (tk := tk) I1 (fun b u e => Heap.get?_push_of_some _ e) (Nat.le_refl _) (Heap.get?_push_size _ rfl)
    generalize hO : lamO ⟨q, params, body, scope, cloFrom X.env.cells scope.names [], dfl⟩ dV doc ((X.mg "__name__").getD .none) c' ctv = O at I2
    have hE3 : ∀ b o, H2 b = some o → upd H2 h'.objs.size (FunO h'.objs.size O) b = some o := fun b o e => by rw [upd_ne (ne_of_none e nF2)]; exact e
    have nfc : c' ≠ h'.objs.size := Nat.ne_of_lt hlt
    have s1 : Same F (upd (upd F c' (CodeO c' q)) h'.objs.size (FunO h'.objs.size O)) := fun b o e => by rw [upd_ne (ne_of_none e (noF nF)), upd_ne (ne_of_none e (noF nC))]; exact e
    have fC : upd (upd F c' (CodeO c' q)) h'.objs.size (FunO h'.objs.size O) c' = some (CodeO c' q) := by rw [upd_ne nfc, upd_same]
    refine h h'.objs.size (upd (upd F c' (CodeO c' q)) h'.objs.size (FunO h'.objs.size O)) _ _ #[rawInt pos.line, rawInt pos.col, .ref c'] I2 s1 (fun b o e => ?_) (fun b o e n => ?_) (fun b o e n => hE3 _ _ (hE2 b o e n)) (hE3 _ _ hP2) ⟨?_, fun p' cv hcv => ?_⟩ ⟨dV, doc, _, c', ctv, by rw [hO, upd_same], fC, dfl_up s1⟩
    · dsimp only
      split
      · rename_i z; rw [← z]; exact e
      · rename_i z
        by_cases hb : b = h'.objs.size
        · rw [hb, upd_same] at e ⊢; exact e
        · rw [upd_ne hb] at e ⊢
          by_cases hb2 : b = c'
          · rw [hb2, upd_same] at e; rw [hb2, hC2]; exact e
          · rw [upd_ne hb2] at e; exact hE2 _ _ (hS _ _ e) z
    · rw [upd_ne (ne_of_none e nF), upd_ne (ne_of_none e nC)]; exact n
    · have eL : (ps ++ #[rawInt pos.line, rawInt pos.col, .ref c']).toList = ps.toList ++ [rawInt pos.line, rawInt pos.col, .ref c'] := by simp
      rw [eL]; exact PySem.TriplesOk_snoc _ _ _ _ hT.1
    · have eL : (ps ++ #[rawInt pos.line, rawInt pos.col, .ref c']).toList = ps.toList ++ [rawInt pos.line, rawInt pos.col, .ref c'] := by simp
      rw [eL] at hcv
      rcases among_app _ hT.1 hcv with z | z
      · obtain ⟨c0, e1, e2⟩ := hT.2 p' cv z
        exact ⟨c0, e1, s1 _ _ e2⟩
      · exact ⟨c', z, fC⟩
  | some cv =>
    obtain ⟨c', e, hco⟩ := hT.2 pos cv hc
    subst e
    refine PySem.W.kdv_makeTailHit (mg := X.mg) (c := c) (P := P) (ps := ps) (closure_ok hfree) I.ok.glob (I.mod.glob.keeps I.bk) hcode (TB.code.keeps I.bk) hP' hT.1 hc bP fun ctv doc h' tk hx hsz => ?_
    have nF : H h'.objs.size = none := I.hok.fresh hsz
    have I2 := inv_fun (f := h'.objs.size) (o := lamO ⟨q, params, body, scope, cloFrom X.env.cells scope.names [], dfl⟩ dV doc ((X.mg "__name__").getD .none) c' ctv) (h' := h'.push (PySem.W.kdv_obj "<lambda>" q params (.expr body) scope (cloFrom X.env.cells scope.names []) dV doc ((X.mg "__name__").getD .none) c' ctv)) (tk := tk) I (fun b u e => Heap.get?_push_of_some _ (hx b u e)) hsz (Heap.get?_push_size _ rfl)
    generalize hO : lamO ⟨q, params, body, scope, cloFrom X.env.cells scope.names [], dfl⟩ dV doc ((X.mg "__name__").getD .none) c' ctv = O at I2
    have hE3 : ∀ b o, H b = some o → upd H h'.objs.size (FunO h'.objs.size O) b = some o := fun b o e => by rw [upd_ne (ne_of_none e nF)]; exact e
    have s1 : Same F (upd F h'.objs.size (FunO h'.objs.size O)) := fun b o e => by rw [upd_ne (ne_of_none e (noF nF))]; exact e
    refine h h'.objs.size (upd F h'.objs.size (FunO h'.objs.size O)) _ _ #[] I2 s1 (fun b o e => ?_) (fun b o e n => ?_) (fun b o e n => hE3 _ _ e) (by rw [Array.append_empty]; exact hE3 _ _ hP) ?_ ⟨dV, doc, _, c', ctv, by rw [hO, upd_same], s1 _ _ hco, dfl_up s1⟩
    · dsimp only
      split
      · rename_i z; rw [← z]; exact e
      · by_cases hb : b = h'.objs.size
        · rw [hb, upd_same] at e ⊢; exact e
        · rw [upd_ne hb] at e ⊢; exact hS _ _ e
    · rw [upd_ne (ne_of_none e nF)]; exact n
    · rw [Array.append_empty]
      refine ⟨hT.1, fun p' cv hcv => ?_⟩
      obtain ⟨c0, e1, e2⟩ := hT.2 p' cv hcv
      exact ⟨c0, e1, s1 _ _ e2⟩
end
end LamN
namespace LamN
open PySem PySem.Spec PyProof.Rows L2 DL
open LamX (CodeO)
/-! ### calling a lambda -/
/-- the lambda's names: its parameter is none of the maker's names, the others are captured or global -/
structure LamS (N : List Str) (scope : Scope) : Prop where
  kind : scope.kind = .function
  co : scope.isCoroutine = false
  gen : scope.isGenerator = false
  own : ∀ y ∈ scope.names, y.2 ≠ .cell
  loc : ∀ y ∈ scope.names, y.2 = .local → y.1 ∉ N
def lamSB (N : List Str) (scope : Scope) : Bool := decide (scope.kind = .function) && !scope.isCoroutine && !scope.isGenerator && scope.names.all fun y => !decide (y.2 = .cell) && (!decide (y.2 = .local) || !decide (y.1 ∈ N))
theorem lamS_by {N : List Str} {scope : Scope} (h : lamSB N scope = true) : LamS N scope := by
  unfold lamSB at h
  simp only [Bool.and_eq_true, Bool.or_eq_true, Bool.not_eq_true', decide_eq_true_eq, decide_eq_false_iff_not, List.all_eq_true] at h
  obtain ⟨⟨⟨h1, h2⟩, h3⟩, h4⟩ := h
  exact ⟨h1, h2, h3, fun y hy => (h4 y hy).1, fun y hy e => (h4 y hy).2.elim (fun z => absurd e z) id⟩
structure LamC (l : LamD) : Prop where
  inj : ∀ x y c, l.cl.lookup x = some c → l.cl.lookup y = some c → x = y
  has : ∀ y, l.scope.names.lookup y = some .free → ∃ c, l.cl.lookup y = some c
/-- what the captured cells hold -/
def CellsAt (N : List Str) (l : LamD) (σ : L2.St) (H : Hp) (h : Heap) : Prop := (∀ y c, l.cl.lookup y = some c → H c = none ∧ ∃ w, h.IsCell c w) ∧
  ∀ (i : Nat) (y : Str) (v : V), N[i]? = some y → σ[i]? = some (some v) → l.scope.names.lookup y = some .free → ∃ c u, l.cl.lookup y = some c ∧ RelV v u ∧ h.IsCell c (some u)
/-- the parameters are bound -/
def BindL (l : LamD) : Prop := ∀ (s : Shared) (H : Hp) (P : Program) (w : World) (dV doc pm cdv ctv : Value), HOk P w H s.heap → DflAt H dV l.dfl → ∃ binds, BindsTo s (PySem.W.kdv_fn "<lambda>" l.q l.params (.expr l.body) l.scope l.cl dV doc pm cdv ctv) ⟨[], []⟩ binds ∧ ∀ y ∈ binds, l.scope.names.lookup y.1 = some .local
abbrev lEnv (l : LamD) (L f c' : Addr) : Env := PySem.W.envX l.q l.scope L f (.ref c') l.cl
def lamCx (P : Program) (w : World) (K : PySem.W.Frag) (mg : Str → Option Value) (base : Heap) (N : List Str) (l : LamD) (A : Around) (outer : List Env) (s : Shared) (H : Hp) (E : XK) (f c' : Addr) : Cx where
  prog := P
  w := w
  K := K
  mg := mg
  base := base
  A := A.deeper (lEnv l s.heap.objs.size f c')
  N := N
  s_0 := s
  H_0 := H
  env := lEnv l s.heap.objs.size f c'
  outer := outer
  stack := lEnv l s.heap.objs.size f c' :: outer
  ex := []
  fn := fun _ => false
  calm := true
  pn := []
  xe := fun e s' => wpAny (model P w) (A.deeper (lEnv l s.heap.objs.size f c')) (leaving (lEnv l s.heap.objs.size f c') e) (fun _ s'' => L2.CX P w outer H s E e s'') (fun e' s'' => L2.CX P w outer H s E e' s'') s'
section
variable {P : Program} {w : World} {K : PySem.W.Frag} {mg : Str → Option Value} {base : Heap} {N : List Str} {l : LamD} {A : Around} {outer : List Env} {E : XK} {σ : L2.St} {H HZ : Hp} {sM s1 : Shared} {f c' : Addr}
theorem lam_start {h₁ : Heap} {tk : Nat} {fsx : List Addr} {m : Str → Option Value} (e0 : Env0 P w K mg base A outer s1 HZ) (hd : A.handled = none) (S : LamS N l.scope) (C : LamC l) (cs : CellsAt N l σ H sM.heap) (hlen : σ.length = N.length)
    (un : Un fsx [] H HZ sM.heap s1.heap) (hns : h₁.Ns s1.heap.objs.size m) (kp : ∀ b o, s1.heap.get? b = some o → h₁.get? b = some o) :
    Inv (lamCx P w K mg base N l A outer s1 HZ E f c') [] σ HZ { s1 with heap := h₁, toks := tk } := by
  have cellK : ∀ {c : Addr} {v : Option Value}, H c = none → sM.heap.IsCell c v → h₁.IsCell c v := fun {c v} n ⟨o, ho, hd⟩ => by
    obtain ⟨sl, q⟩ := un.any ho n (by simp)
    exact ⟨_, kp _ _ q, hd⟩
  have noA : ∀ b : Addr, b ∉ (lamCx P w K mg base N l A outer s1 HZ E f c').ex := fun b z => absurd (show b ∈ ([] : List Addr) from z) (by simp)
  have capt : ∀ {y : Str}, Vis l.scope y → y ∈ N → l.scope.names.lookup y = some .free := fun {y} v hy => by
    rcases v with k | k | k
    · exact absurd hy (S.loc _ (PySem.mem_of_lookup k) rfl)
    · exact absurd rfl (S.own _ (PySem.mem_of_lookup k))
    · exact k
  refine ⟨⟨e0.mod, S.kind, rfl, rfl, Nat.le_refl _, fun y z c e1 e2 => C.inj y z c e1 e2, fun y hy => ?_, fun y c z _ => ?_, fun _ => hd, Around.frames_deeper e0.frames, .inr ⟨rfl, rfl⟩, fun b z => absurd z (noA b), e0.bs, e0.bsz, fun b _ _ => noA b,
      fun b z => absurd z (noA b), e0.funs, e0.frf⟩,
    rfl, e0.bare, Un.kept kp, ⟨_, hns, fun i y v e1 e2 e3 => ?_⟩, fun y c e => ?_, e0.hok.fresh (Nat.le_refl _), fun y c e => ?_, fun q hq => absurd (show q ∈ ([] : List (Addr × Obj)) ++ [] from hq) (by simp), e0.hok.kept kp, hlen⟩
  · have hy : l.scope.names.lookup y = some .cell ∨ l.scope.names.lookup y = some .free := hy
    rcases hy with hy | hy
    · exact absurd rfl (S.own _ (PySem.mem_of_lookup hy))
    · exact C.has y hy
  · have z : false = true := z
    cases z
  · have k := capt (show Vis l.scope y from e3) (List.mem_of_getElem? e1)
    obtain ⟨c, u, h2, r, z⟩ := cs.2 i y v e1 e2 k
    exact ⟨u, r, .inr ⟨.inr k, c, h2, cellK (cs.1 y c h2).1 z⟩⟩
  · obtain ⟨n, w', z⟩ := cs.1 y c e
    exact ⟨w', cellK n z⟩
  · obtain ⟨n, w', o, ho, hd⟩ := cs.1 y c e
    exact un.free c o ho n (by simp)
/-- x(), in the def that got the lambda: Z is that def's context, entered at s -/
theorem pe_act {CXg : CXT} {stack : List Env} {s : Shared} {Eg : XK} {Ng : List Str} {qg : Str} {sg : Scope} {g : Addr} {cdg : Value} {k i : Nat} {a : Str} {pn : List (Addr × Obj)} {xe : Value → Shared → Prop} {W : WX} {tb : TE} {p1 p2 : Pos}
    (S : LamS N l.scope) (C : LamC l) (B : BindL l) (cs : CellsAt N l σ H s.heap) (hlen : σ.length = N.length)
    (tk : Takes ((cxOf CXg P w K mg base Ng qg sg g cdg A stack s H Eg).tr pn xe) W) (hW : ∀ cls d σ' H', E cls d H' → W cls d σ' H') (hr : Room (k + 1) (A.deeper (envOfC qg sg s.heap.objs.size g cdg)))
    (hbody : ∀ (A : Around) (outer : List Env) (s : Shared) (H : Hp) (f c' : Addr), Room k (A.deeper (lEnv l s.heap.objs.size f c')) → PE (lamCx P w K mg base N l A outer s H E f c') l.body tb)
    (hN : Ng[i]? = some a) (hv : Vis sg a) (hd : (a == ("__debug__" : Str)) = false := by decide) (hcd : (a == ("__classdict__" : Str)) = false := by decide) :
    PE ((cxOf CXg P w K mg base Ng qg sg g cdg A stack s H Eg).tr pn xe) (.Call (.Name a p1) [] [] p2)
      (fun σZ HZ Q => ∃ f, σZ[i]? = some (some (.ref f)) ∧ LamAt HZ f l ∧ tb σ HZ Q) := by
  refine ⟨fun pinsZ sZ σZ HZ Q IZ h => ?_⟩
  obtain ⟨f, hs, hl, ht⟩ := h
  refine wpAny_Call_Name_kw (thn ((pe_var (pos := p1) (i := i) hN hv hd hcd).run pinsZ sZ σZ HZ (fun v H1 => v = .ref f ∧ H1 = HZ) IZ ⟨.ref f, hs, rfl, rfl⟩) fun u s1 ⟨v, H1, I1, r1, q1⟩ => ?_)
  obtain ⟨ev, eH⟩ := q1
  subst ev
  rw [eH] at I1
  obtain rfl : u = Value.ref f := r1
  obtain ⟨dV, doc, pm, c', ctv, hF, hC, hD⟩ := hl
  have of1 : s1.heap.get? f = some (lamO l dV doc pm c' ctv) := (I1.hok f _ hF).1
  refine PySem.W.callWith_F0 ⟨_, _, _, _, of1⟩ ?_
  have un : Un (frs stack) [] H HZ s.heap s1.heap := I1.base
  obtain ⟨⟨oc, vs, t, hoc, hdc, hvc⟩, _, _⟩ := I1.hok c' _ hC
  obtain ⟨binds, hb, hbl⟩ := B s1 HZ P w dV doc pm (.ref c') ctv I1.hok hD
  have rc : codeAny (model P w) (A.deeper (envOfC qg sg s.heap.objs.size g cdg)) (.call (.ref f) ⟨[], []⟩) (CR (L2.CX P w) (envOfC qg sg s.heap.objs.size g cdg :: stack) P w HZ s1 Q E) s1 := by
    refine PySem.W.kla_callFunE hr.depth of1 rfl S.co S.gen rfl ⟨c', oc, vs, t, rfl, hoc, hdc, hvc⟩ ?_
    refine hb _ _ _ _ ?_
    refine wpAny_newFunctionEnv S.own hbl (fun h₁ hns hsb => ⟨I1.nolimit.fresh _ hsb, ?_⟩) S.kind
    show codeAny _ _ (.expr l.body (lEnv l s1.heap.objs.size f c')) _ _
    have kp : ∀ b o, s1.heap.get? b = some o → h₁.get? b = some o := fun b o e => hsb.extBut b o (Nat.ne_of_lt (Heap.lt_size e)) (Heap.get?_push_of_some _ e)
    have J : Inv (lamCx P w K mg base N l (A.deeper (envOfC qg sg s.heap.objs.size g cdg)) (envOfC qg sg s.heap.objs.size g cdg :: stack) s1 HZ E f c') [] σ HZ { s1 with heap := h₁, toks := s1.toks + binds.length } :=
      lam_start I1.env0 hr.hd S C cs hlen un hns kp
    refine PySem.W.kla_codeExpr (wpAny_mono ((hbody _ _ s1 HZ f c' (hr.deeper _)).run [] _ _ HZ Q J ht) (fun v s' hq => ?_) fun e s' hq => hq)
    obtain ⟨w', H', J', rv, q⟩ := hq
    exact ⟨w', H', J'.os, J'.bare, J'.base, J'.hok, rv, q⟩
  have hx : Passes (L2.CX P w) ((cxOf CXg P w K mg base Ng qg sg g cdg A stack s H Eg).tr pn xe) E := passes_call tk hW
  refine wpAny_call (codeAny_mono rc fun r s' hq => ?_)
  cases r with
  | error e => exact hx pinsZ σZ HZ s1 e s' I1 hq
  | ok fl =>
    cases fl with
    | ret u => exact I1.after hq
    | next => exact False.elim hq
    | brk => exact False.elim hq
    | cont => exact False.elim hq
end
/-! ### the two ways to bind -/
theorem bind0 {l : LamD} (hd : l.dfl = none) (h : ∀ (q : Str) (cl : List (Str × Addr)) (doc pm cdv ctv : Value), bindArgs (PySem.W.kdv_fn "<lambda>" q l.params (.expr l.body) l.scope cl .none doc pm cdv ctv) ⟨[], []⟩ = pure []) : BindL l := fun s H P w dV doc pm cdv ctv _ e => by
  rw [hd] at e
  have e : dV = .none := e
  subst e
  exact ⟨[], .of_eq (h _ _ _ _ _ _), fun y hy => absurd hy List.not_mem_nil⟩
theorem bind1 {l : LamD} {i : Int} {x : Str} (hd : l.dfl = some i) (hx : l.scope.names.lookup x = some .local)
    (h : ∀ (q : Str) (cl : List (Str × Addr)) (t : Addr) (doc pm cdv ctv : Value), ∃ k : Option (Array Value) → Sem (List (Str × Value)), bindArgs (PySem.W.kdv_fn "<lambda>" q l.params (.expr l.body) l.scope cl (.ref t) doc pm cdv ctv) ⟨[], []⟩ = seqItems? (.ref t) >>= k ∧ ∀ v, k (some #[v]) = pure [(x, v)]) : BindL l := fun s H P w dV doc pm cdv ctv hk e => by
  rw [hd] at e
  obtain ⟨t, rfl, ht⟩ := e
  obtain ⟨_, its, r, o, ho, hcl, n, hdt⟩ := hk t _ ht
  cases r with
  | cons r rr =>
    cases rr
    obtain ⟨k, h1, h2⟩ := h l.q l.cl t doc pm cdv ctv
    refine ⟨[(x, _)], BindsTo.of_defaults (k := k) rfl ho hdt h1 (h2 _), fun y hy => ?_⟩
    rw [List.mem_singleton] at hy
    subst hy
    exact hx
end LamN
namespace DL
open PySem PySem.Spec PyProof.Rows L2 LamN
/-! ### a lambda as data -/
def dLam (P : Addr) (l : LamD) : DTE := fun _ M Q => M P = some (.tab l.q) ∧ Q (.fn l) M
/-- what a def that makes lambdas knows of its code object -/
structure LamM (X : Cx) (P : Addr) : Prop where
  ex : ∃ c, LamX.TabB X.base X.mg c P ∧ X.env.code = .ref c
def FreeIn (sc scope : Scope) : Bool := scope.names.all fun y => !decide (y.2 = .free) || decide (sc.names.lookup y.1 = some .cell) || decide (sc.names.lookup y.1 = some .free)
theorem freeIn {X : Cx} {scope : Scope} (h : FreeIn X.env.scope scope = true) (ok : X.Ok) : ∀ y ∈ scope.names, y.2 = .free → ∃ c, X.env.cells.lookup y.1 = some c := fun y hy e => by
  have := List.all_eq_true.mp h y hy
  simp only [Bool.or_eq_true, Bool.not_eq_true', decide_eq_true_eq, decide_eq_false_iff_not] at this
  rcases this with (z | z) | z
  · exact absurd e z
  · exact ok.has _ (.inl z)
  · exact ok.has _ (.inr z)
section
variable {X : Cx} {G : GI X.K} {pins : List (Addr × Obj)} {σ : L2.St} {H F : Hp} {M : Mp} {s : Shared} {env : DSt} {Q0 : DQ} {Q : VK} {P : Addr} {params : Arguments} {body : Expr} {scope : Scope} {pos : Pos}
theorem lam_core {q : Str} {dV : Value} {dfl : Option Int} {fl : Nat} (I : Inv X pins σ H s) (hm : LamM X P) (hf : FreeIn X.env.scope scope = true) (hc : Core X.K F H M) (hM : M P = some (.tab q)) (hd : DflAt F dV dfl)
    (hq : Q0 (.fn ⟨q, params, body, scope, cloFrom X.env.cells scope.names [], dfl⟩) M) (hp : Post X.K F H M Q0 Q) :
    wpAny (model X.prog X.w) X.A (makeTail "<lambda>" q params (.expr body) scope X.env dV .none none pos fl) (EP X pins σ Q) X.xe s := by
  obtain ⟨c, TB, hcode⟩ := hm.ex
  obtain ⟨fP, o, hP, ps, rfl, t1, t2⟩ := hc.mem P _ hM
  refine lam_tail I TB hcode hP hc.same ⟨t1, t2⟩ hd (freeIn hf I.ok) fun f F1 H1 s' more I1 s1 s2 hn hk hP1 hT1 hl => ?_
  have f1P : F1 P = none := hn P _ hP fP
  have sF : Same F1 H1 := fun b o e => by
    have := s2 b o e
    dsimp only at this
    split at this
    · rename_i z; rw [z, f1P] at e; cases e
    · exact this
  have cp : CoreP X.K F1 H1 M := ⟨sF, fun a mo e => by
    obtain ⟨n, o, ho, r⟩ := hc.mem a mo e
    refine ⟨hn a o ho n, ?_⟩
    by_cases ha : a = P
    · rw [ha, hM] at e
      cases e
      rw [ha]
      exact ⟨_, hP1, _, rfl, hT1.1, hT1.2⟩
    · exact ⟨o, hk a o ho ha, r.mono s1⟩⟩
  have fr : Fr F H M F1 H1 M := fun a o e n => ⟨hk a o e (fun z => by rw [z, hM] at n; cases n), n, fun z => hn a o e z⟩
  exact ⟨.ref f, H1, I1, rfl, hp _ _ _ _ _ hq s1 fr (hc.to cp s1 fr) (by rw [Rep]; exact ⟨f, rfl, hl⟩)⟩
theorem de_lam {sc : Scope} (hm : LamM X P) (hf : FreeIn sc scope = true) (hsc : X.env.scope = sc := by rfl) (hdef : defaultsOf params X.env = ([], []) := by rfl) : DE X (.Lambda params body scope pos) (dLam P ⟨X.env.qual ++ "<lambda>", params, body, scope, cloFrom X.env.cells scope.names [], none⟩) := by
  refine ⟨fun pins s σ H Q I ⟨F, env, M, Q0, he, hc, ht, hp⟩ => ?_⟩
  subst hsc
  refine PySem.W.kla_eval hdef ?_
  rw [makeFunction_eq]
  simp only [List.zip_nil_right, List.filterMap_nil, List.isEmpty_nil, if_true, pure_bind]
  exact lam_core I hm hf hc ht.1 (show DflAt F .none none from rfl) ht.2 hp
theorem de_lam1 {sc : Scope} {i : Int} {j : Nat} {p : Pos} (hm : LamM X P) (hf : FreeIn sc scope = true) (hsc : X.env.scope = sc := by rfl) (h1 : params.defaults = [.Constant (.int i) j p] := by rfl) (h2 : params.kw_defaults = [] := by rfl) : DE X (.Lambda params body scope pos) (dLam P ⟨X.env.qual ++ "<lambda>", params, body, scope, cloFrom X.env.cells scope.names [], some i⟩) := by
  refine ⟨fun pins s σ H Q I ⟨F, env, M, Q0, he, hc, ht, hp⟩ => ?_⟩
  subst hsc
  refine PySem.W.kdv_lam (by rw [h1]; rfl) h2 ?_
  rw [h1]
  refine PySem.W.kdv_all1 (thn ((pe_int (X := X) (i := i) (pos := p)).run pins s σ H (fun v H1 => v = .int i ∧ H1 = H) I ⟨rfl, rfl⟩) fun u s1 ⟨v, H1, I1, r1, q1⟩ => PySem.W.kdv_all0 ?_)
  obtain ⟨ev, eH⟩ := q1
  subst ev eH
  rw [makeFunction_eq]
  simp only [List.zip_nil_right, List.filterMap_nil, List.isEmpty_nil, List.isEmpty_cons, Bool.false_eq_true, if_false, if_true, pure_bind]
  refine wpAny_bind (wpAny_newTextTuple ?_)
  have n : H1 s1.heap.objs.size = none := I1.hok.fresh (Nat.le_refl _)
  have I2 : Inv X pins σ (upd H1 s1.heap.objs.size (.tup [.int i])) { s1 with heap := s1.heap.push { cls := .type "tuple", data := .seq [u].toArray }, toks := s1.toks } :=
    I1.laid (t' := s1.toks) (a := s1.heap.objs.size) (o := .tup [.int i]) (h' := s1.heap.push { cls := .type "tuple", data := .seq [u].toArray }) (fun b o e => Heap.get?_push_of_some _ e) (Nat.le_refl _) ⟨by show 1 ≤ sizeLine; decide, [u], .cons r1 .nil, _, Heap.get?_push_size _ rfl, rfl, _, rfl⟩
  obtain ⟨c1, s1', f1⟩ := hc.new n (.tup [.int i])
  exact lam_core (dfl := some i) I2 hm hf c1 ht.1 ⟨_, rfl, upd_same⟩ ht.2 (hp.after s1' f1)
end
end DL
namespace LamN
open PySem PySem.Spec PyProof.Rows L2 DL
open L2H (RoomH PinOk cxH inv_startH)
/-! ### a def that is called while an exception is handled; it raises nothing -/
structure FnHP (P : Program) (w : World) (K : PySem.W.Frag) (mg : Str → Option Value) (base : Heap) (p : Addr × Obj) (k : Nat) (f : Addr) (fd : FuncData) (ps : List Str) (sp : Sp) : Prop where
  len : ∀ vs H Q E, sp vs H Q E → vs.length = ps.length
  run : ∀ (A : Around) (outer : List Env) (s : Shared) (H : Hp) (args : Args) (us : List Value) (vs : List V) (Q : VK) (E : XK), RoomH k A → PinOk outer H s p → Env0 P w K mg base A outer s H → BindsTo s fd args (ps.zip us) → Vals vs us → sp vs H Q E →
    codeAny (model P w) A (.call (.ref f) args) (CR CX0 outer P w H s Q E) s
section
variable {P : Program} {w : World} {K : PySem.W.Frag} {mg : Str → Option Value} {base : Heap} {k : Nat} {f : Addr} {N ps : List Str} {sp : Sp} {p : Addr × Obj}
theorem fn_ofHP {name qual : Str} {params : Arguments} {body : List Stmt} {scope : Scope} {dV kV doc pm cdv ct oc : Value} {an od : Option Addr} {osl : Array (Option Value)}
    (lk : K.lookup f = some ⟨oc, od, .func (PySem.W.fnOf name qual params body scope dV kV doc pm an cdv ct), osl⟩) (hcd : PySem.W.codeIn K cdv qual = true) (S : FnScope N ps scope) (len : ∀ vs H Q E, sp vs H Q E → vs.length = ps.length)
    (hbody : ∀ (A : Around) (outer : List Env) (s : Shared) (H : Hp) (vs : List V) (Q : VK) (E : XK), RoomH k (A.deeper (envOfC qual scope s.heap.objs.size f cdv)) → sp vs H Q E →
      ∃ t, PSs (cxH CX0 P w K mg base N qual scope f cdv A outer s H E p) body t ∧ t { nx := fun _ H' => Q .non H', rt := Q } (L2.start N vs) H) :
    FnHP P w K mg base p (k + 1) f (PySem.W.fnOf name qual params body scope dV kV doc pm an cdv ct) ps sp := by
  refine ⟨len, fun A outer s H args us vs Q E hr hpin e0 hb r hsp => ?_⟩
  have hl := len _ _ _ _ hsp
  have KX : K.In s.heap := e0.mod.kin.keeps fun b o e => (e0.bs b o e).1
  have kinds : ∀ y ∈ ps.zip us, scope.names.lookup y.1 = some .local ∨ (scope.names.lookup y.1 = some .cell ∧ ((cellsFrom (s.heap.objs.size + 1) scope.names []).lookup y.1).isSome = true) := fun ⟨n, v⟩ hy =>
    (S.par n (List.of_mem_zip hy).1).elim .inl fun q => .inr ⟨q, PySem.W.cellsFrom_some _ _ _ (.inl q)⟩
  refine codeAny_call_function (RoomH.depth hr) (KX _ _ lk) rfl S.co S.gen rfl (PySem.W.codeRec_of KX hcd) (hb _ _ _ _ (wpAny_newFunctionEnv_cells S.kind kinds fun env he s1 x => ?_))
  subst he
  refine ⟨(e0.mod.nolimit.keeps fun b o e => (e0.bs b o e).1).keeps x.toInCall.keep, codeAny_func ?_⟩
  obtain ⟨t, ht, hq⟩ := hbody A outer s H vs Q E (hr.deeper _) hsp
  have I0 : Inv (cxH CX0 P w K mg base N qual scope f cdv A outer s H E p) [] (L2.start N vs) H s1 := inv_startH S hpin e0 hl r x
  refine wpAny_mono (ht.run [] s1 (L2.start N vs) H _ I0 hq) (fun fl s' hs => ?_) fun e s' hs => hs
  have done : ∀ {σ' : L2.St} {H' : Hp} {v : V} {u : Value}, Inv (cxH CX0 P w K mg base N qual scope f cdv A outer s H E p) [] σ' H' s' → RelV v u → Q v H' → CE outer P w H s Q u s' :=
    fun {σ' H' v u} J rv q => ⟨v, H', J.os, J.bare, J.base, J.hok, rv, q⟩
  cases fl with
  | ret u => obtain ⟨v, σ', H', J, rv, q⟩ := hs; exact done J rv q
  | next => obtain ⟨σ', H', J, q⟩ := hs; exact done (v := V.non) (u := Value.none) J rfl q
  | brk => obtain ⟨_, _, _, q⟩ := hs; exact q.elim
  | cont => obtain ⟨_, _, _, q⟩ := hs; exact q.elim
end
section
variable {X : Cx} {k : Nat} {f C a : Addr} {fd : FuncData} {ps : List Str} {sp : Sp} {x n : Str} {q pos : Pos} {e : Expr} {es : List Expr} {t : TA} {te : TE} {p : Addr × Obj} {oe : Obj} {cls : Value} {d : Option Addr}
theorem pe_callHP (F : FnHP X.prog X.w X.K X.mg X.base p k f fd ps sp) (hr : RoomH k X.A) (hp : p ∈ X.pn) (hg : Gl X x) (hm : X.mg x = some (.ref f)) (hk : PySem.W.keepIn X.K (.ref f) = true) (hb : Binds X.K fd ps [])
    (ha : PA X (e :: es) t) (hdb : (x == ("__debug__" : Str)) = false := by decide) (he : starEach (e :: es) X.env = (false, eval e X.env) :: starEach es X.env := by rfl) (hpl : (backTo pos (starEach es X.env)).any (·.1) = false := by rfl) :
    PE X (.Call (.Name x q) (e :: es) [] pos) (fun σ H Q => t σ H fun vs H1 => sp vs H1 Q L2.E0) := by
  refine ⟨fun pins s σ H Q I h => wpAny_Call_Name_kw (ld_glob I hg hm ?_ hdb)⟩
  refine PySem.W.callWith_K (h₀ := X.base) I.ok.mod.kin hk (thn (ha.run pos pins s σ H _ I h) fun us s1 ⟨vs, H1, I1, r, h1⟩ => ⟨I1.kIn, ?_⟩) he hpl
  have hl : us.length = ps.length := by rw [← r.length]; exact F.len _ _ _ _ h1
  have b := hb s1 us I1.kIn (by rw [List.append_nil]; exact hl)
  rw [List.append_nil] at b
  have P1 := I1.pin p (List.mem_append_left _ hp)
  refine wpAny_call (codeAny_mono (F.run X.A X.stack s1 H1 ⟨us, []⟩ us vs Q L2.E0 hr ⟨P1.1, P1.2.1, fun hm => (List.mem_cons.mp (I1.stkSub p.1 hm)).elim P1.2.2.1 P1.2.2.2.1, P1.2.2.2.2⟩ I1.env0 b r h1) fun r' s' hq => ?_)
  cases r' with
  | error e' => exact (show False from hq).elim
  | ok fl =>
    cases fl with
    | ret u => exact I1.after hq
    | next => exact hq.elim
    | brk => exact hq.elim
    | cont => exact hq.elim
/-- e.n of the exception that is handled -/
theorem pe_xfP (T : XfC X.K C) (hno : PySem.W.findIn X.K (.ref C) n = some none) (hz : Zc cls d oe) (hf : ∃ vs, oe.data = .fields vs) (hp : (a, oe) ∈ X.pn) (he : PE X e te) (hb : attributeBase e n X.env (eval e X.env) = eval e X.env := by rfl) :
    PE X (.Attribute e n pos) (tXf a cls d C n te) := by
  refine ⟨fun pins s σ H Q I h => attr_of hb (thn (he.run pins s σ H _ I h) fun u s1 ⟨x, H1, I1, rx, ex, ec, dd, fs, v, ed, ea, l, q⟩ => ?_)⟩
  subst ex ec ed
  obtain rfl : u = Value.ref a := rx
  obtain ⟨vs, hd⟩ := hf
  obtain ⟨mA, hns, hr⟩ : ObjOk X.prog X.w H1 s1.heap dd (.xd fs) := I1.hok dd _ ea
  obtain ⟨od, ho, hl⟩ := lookIn_ns hns
  obtain ⟨u, hu, ru⟩ := RelO.some_of (v := v) (o := mA n) (by rw [← l]; exact hr n)
  have J : PySem.W.InstAt s1.heap a oe C (some od) := ⟨(I1.pin (a, oe) (List.mem_append_left _ hp)).1, hz.1, by unfold PySem.W.notCls; rw [hd] <;> rfl, by rw [hz.2]; exact ho⟩
  exact HandSPX.exc_get I1.kIn J T.ga T.gg T.exC (PySem.W.findObj_own T.hdC hno rfl (by rw [hl, hu])) (handed_of ru) ⟨v, H1, I1.tok _, ru, q⟩
end
end LamN
namespace DL
open PySem PySem.Spec PyProof.Rows L2 LamN
/-! ### by data -/
/-- a class of exceptions whose fields may be read -/
structure XCls (K : PySem.W.Frag) (C : Addr) (fields : List Str) : Prop where
  xc : XfC K C
  no : ∀ n ∈ fields, PySem.W.findIn K (.ref C) n = some none
theorem de_xfP {X : Cx} {G : GI X.K} {a C dd : Addr} {oe : Obj} {e : Expr} {te : DTE} {pos : Pos} {n : Str} {fs : List (Str × D)} {fields : List Str} (T : Tells X.K G dd fs) (xc : XCls X.K C fields) (hz : Zc (.ref C) (some dd) oe) (hf : ∃ vs, oe.data = .fields vs) (hp : (a, oe) ∈ X.pn) (hn : n ∈ fields)
    (he : DE X e te) (hb : attributeBase e n X.env (eval e X.env) = eval e X.env := by rfl) : DE X (.Attribute e n pos) (dXf a fs n te) :=
  PE.imp (pe_xfP xc.xc (xc.no n hn) hz hf hp he hb) (l_xf T)
def fieldNames : List Str := ["tag", "given", "limit", "name", "label", "number", "first", "at"]
def tagIn (t : Str) (l : List Str) : Bool := (l.map D.str).any fun z => D.eqv z (.str t)
def lawField (fs : List (Str × D)) : Option (Str × D) := match fs.lookup ("tag" : Str) with
  | some (.str t) => (if tagIn t ["InvalidCounts", "Endless", "Unlike", "NotASum", "NoWord", "NothingLeft"] = true then some .non
    else if tagIn t ["InvalidNumber", "InvalidLimit"] = true then fs.lookup ("given" : Str)
    else if tagIn t ["TooLong", "TooWide", "CapacityExceeded"] = true then fs.lookup ("limit" : Str)
    else if tagIn t ["InvalidName", "DuplicateName", "UnknownName"] = true then fs.lookup ("name" : Str)
    else if tagIn t ["InUse", "Broken"] = true then fs.lookup ("label" : Str)
    else if (t == "UnknownRule") = true then fs.lookup ("number" : Str)
    else if (t == "InvalidCommand") = true then fs.lookup ("first" : Str) else fs.lookup ("at" : Str)).map fun d => (t, d)
  | _ => none
abbrev dTg (a : Addr) (fs : List (Str × D)) : DTE := dXf a fs "tag" (dVar 0)
abbrev dIn (a : Addr) (fs : List (Str × D)) (tr : DTA) : DTT := dTB (dOp (rInD false) (dTg a fs) (dTup tr))
abbrev dC1 (x : Str) (r : DTA) : DTA := dCons (dC (.str x)) r
/-- the reading of _law_field -/
def tField (a : Addr) (fs : List (Str × D)) : DTS :=
  dSeq (dIfS (dIn a fs (dC1 "InvalidCounts" (dC1 "Endless" (dC1 "Unlike" (dC1 "NotASum" (dC1 "NoWord" (dC1 "NothingLeft" dNil))))))) (dRet (dC .non)) dNext)
  (dSeq (dIfS (dIn a fs (dC1 "InvalidNumber" (dC1 "InvalidLimit" dNil))) (dRet (dXf a fs "given" (dVar 0))) dNext)
  (dSeq (dIfS (dIn a fs (dC1 "TooLong" (dC1 "TooWide" (dC1 "CapacityExceeded" dNil)))) (dRet (dXf a fs "limit" (dVar 0))) dNext)
  (dSeq (dIfS (dIn a fs (dC1 "InvalidName" (dC1 "DuplicateName" (dC1 "UnknownName" dNil)))) (dRet (dXf a fs "name" (dVar 0))) dNext)
  (dSeq (dIfS (dIn a fs (dC1 "InUse" (dC1 "Broken" dNil))) (dRet (dXf a fs "label" (dVar 0))) dNext)
  (dSeq (dIfS (dTB (dOp (rEqW false) (dTg a fs) (dC (.str "UnknownRule")))) (dRet (dXf a fs "number" (dVar 0))) dNext)
  (dRet (dIf (dTB (dOp (rEqW false) (dTg a fs) (dC (.str "InvalidCommand")))) (dXf a fs "first" (dVar 0)) (dXf a fs "at" (dVar 0)))))))))
theorem in_str {t : Str} {l : List Str} {M : Mp} {Q : DQ} : rInD false (.str t) (.tup (l.map D.str)) M Q = Q (.bl (tagIn t l)) M := by
  have h : (l.map D.str).all flatD = true := List.all_eq_true.mpr fun d hd => by obtain ⟨x, _, rfl⟩ := List.mem_map.mp hd; rfl
  show ((flatD (.str t) = true ∧ (l.map D.str).all flatD = true) ∧ Q (.bl (false ^^ tagIn t l)) M) = _
  rw [h, Bool.false_xor]
  exact propext ⟨fun z => z.2, fun z => ⟨⟨rfl, rfl⟩, z⟩⟩
theorem dIn_ap {a : Addr} {fs : List (Str × D)} {t : Str} {M : Mp} {env : DSt} {l : List Str} {tr : DTA} {Q : Bool → Mp → Prop} (he : env[0]? = some (some (.ptr a))) (ht : fs.lookup ("tag" : Str) = some (.str t)) (hr : ∀ R, tr env M R = R (l.map D.str) M) (hl : l.length ≤ 1000) : dIn a fs tr env M Q = Q (tagIn t l) M := by
  unfold dIn dTg dXf
  simp only [dTB_ap, dOp_ap, dVar_ap, he, ht, dTup_ap, hr, in_str, true_and, Option.some.injEq, exists_eq_left', List.length_map]
  have : l.length ≤ sizeLine := by rw [sizeLine_eq]; omega
  simp [this]
theorem dEq_ap {a : Addr} {fs : List (Str × D)} {t x : Str} {M : Mp} {env : DSt} {Q : Bool → Mp → Prop} (he : env[0]? = some (some (.ptr a))) (ht : fs.lookup ("tag" : Str) = some (.str t)) : dTB (dOp (rEqW false) (dTg a fs) (dC (.str x))) env M Q = Q (t == x) M := by
  unfold dTg dXf
  simp only [dTB_ap, dOp_ap, dVar_ap, he, ht, dC_ap, rEqW_ss, Bool.false_xor, true_and, Option.some.injEq, exists_eq_left']
theorem dXf_of {a : Addr} {fs : List (Str × D)} {n : Str} {x : D} {M : Mp} {env : DSt} {Q : DQ} (he : env[0]? = some (some (.ptr a))) (e : fs.lookup n = some x) (q : Q x M) : dXf a fs n (dVar 0) env M Q := by
  unfold dXf
  simp only [dVar_ap, he]
  exact ⟨trivial, x, e, q⟩
theorem rd_field {a : Addr} {fs : List (Str × D)} {t : Str} {d : D} {E : DEnds} {M : Mp} {env : DSt} (he : env[0]? = some (some (.ptr a))) (h : lawField fs = some (t, d)) (q : E.rt d M) : tField a fs E env M := by
  unfold lawField at h
  cases ht : fs.lookup ("tag" : Str) with
  | none => rw [ht] at h; cases h
  | some z =>
    rw [ht] at h
    cases z with
    | str t' =>
      dsimp only at h
      obtain ⟨x, hx, e⟩ := Option.map_eq_some_iff.mp h
      cases e
      unfold tField
      have r : ∀ (l : List Str), True := fun _ => trivial
      simp only [dSeq_ap, dIfS_ap, dNext_ap, dRet_ap, dC_ap]
      rw [dIn_ap he ht (l := ["InvalidCounts", "Endless", "Unlike", "NotASum", "NoWord", "NothingLeft"]) (fun R => rfl) (by decide)]
      split at hx
      · rename_i g; rw [if_pos g]; cases hx; exact q
      rename_i g; rw [if_neg g]
      rw [dIn_ap he ht (l := ["InvalidNumber", "InvalidLimit"]) (fun R => rfl) (by decide)]
      split at hx
      · rename_i g; rw [if_pos g]; exact dXf_of he hx q
      rename_i g; rw [if_neg g]
      rw [dIn_ap he ht (l := ["TooLong", "TooWide", "CapacityExceeded"]) (fun R => rfl) (by decide)]
      split at hx
      · rename_i g; rw [if_pos g]; exact dXf_of he hx q
      rename_i g; rw [if_neg g]
      rw [dIn_ap he ht (l := ["InvalidName", "DuplicateName", "UnknownName"]) (fun R => rfl) (by decide)]
      split at hx
      · rename_i g; rw [if_pos g]; exact dXf_of he hx q
      rename_i g; rw [if_neg g]
      rw [dIn_ap he ht (l := ["InUse", "Broken"]) (fun R => rfl) (by decide)]
      split at hx
      · rename_i g; rw [if_pos g]; exact dXf_of he hx q
      rename_i g; rw [if_neg g]
      rw [dEq_ap he ht]
      split at hx
      · rename_i g; rw [if_pos g]; exact dXf_of he hx q
      rename_i g; rw [if_neg g]
      rw [dIf_ap, dEq_ap he ht]
      split at hx
      · rename_i g; rw [if_pos g]; exact dXf_of he hx q
      rename_i g; rw [if_neg g]
      exact dXf_of he hx q
    | _ => cases h
end DL
namespace DL
open PySem PySem.Spec PyProof.Rows L2 LamN
open L2H (RoomH cxH wAs3)
theorem roomH_mark {k : Nat} {A : Around} (r : Room k A) (h : Option Value) : RoomH k (A.mark h) := ⟨r.dp, r.un⟩
theorem lawField_tag {fs : List (Str × D)} {t : Str} {d : D} (h : lawField fs = some (t, d)) : fs.lookup ("tag" : Str) = some (.str t) := by
  unfold lawField at h
  split at h
  · rename_i z e
    obtain ⟨x, _, e2⟩ := Option.map_eq_some_iff.mp h
    cases e2
    exact e
  · cases h
/-- what _law_field keeps -/
def lSpF (K : PySem.W.Frag) (a dd : Addr) (fs : List (Str × D)) : Sp := fun vs H Q _ => ∃ F M Q0 xs, vs = [.ref a] ∧ CoreP K F H M ∧ F dd = some (.xd xs) ∧ RepF K F fs xs ∧ (∃ t d, lawField fs = some (t, d) ∧ Q0 d M) ∧ PostP K F H M Q0 Q
theorem tells_entry {K : PySem.W.Frag} {F H : Hp} {M : Mp} {dd : Addr} {xs : List (Str × V)} {fs : List (Str × D)} (h : F dd = some (.xd xs)) (r : RepF K F fs xs) : Tells K (entryG K F H M) dd fs := fun {F' H' M'} g => ⟨xs, g.1 _ _ h, RepF.mono g.1 _ _ r⟩
theorem field_ok {P : Program} {w : World} {K : PySem.W.Frag} {mg : Str → Option Value} {base : Heap} {st : Stmt} {f : Addr} {fd : FuncData} {dvs : List V} {kws : List (Str × V)} (Fd : FnD K "_law_field" "_law_field" st dvs kws f fd) (S : FnScope ["_law_e"] ["_law_e"] (defScope st)) {a dd : Addr} {oe : Obj} {fs : List (Str × D)}
    (hbody : ∀ (cdv : Value) (A : Around) (outer : List Env) (s : Shared) (H : Hp) (E : XK) (G : GI K), Tells K G dd fs → RoomH 0 (A.deeper (envOfC "_law_field" (defScope st) s.heap.objs.size f cdv)) → @DSs (cxH CX0 P w K mg base ["_law_e"] "_law_field" (defScope st) f cdv A outer s H E (a, oe)) G (defBody st) (tField a fs)) :
    FnHP P w K mg base (a, oe) 1 f fd ["_law_e"] (lSpF K a dd fs) := by
  obtain ⟨oc, od, dV, kV, doc, pm, an, cdv, ct, osl, rfl, lk, hcd, _, _⟩ := Fd.ex
  refine fn_ofHP lk hcd S (fun vs H Q E ⟨F, M, Q0, xs, e, _⟩ => by rw [e]; rfl) fun A outer s H vs Q E hr ⟨F, M, Q0, xs, e, c, hd, rf, ⟨t, d, hl, q⟩, p⟩ => ?_
  subst e
  refine ⟨_, hbody cdv A outer s H E (entryG K F H M) (tells_entry hd rf) hr, F, startD ["_law_e"] [.ptr a], M, bodyE K Q0, ?_, ?_, ?_, ?_⟩
  · exact start_env (Reps.one (by rw [Rep]))
  · exact @Core.mk K (entryG K F H M) F H M c ⟨Same.refl F, Fr.refl⟩
  · exact rd_field rfl hl (Fin.same q)
  · exact @fin_ok K (entryG K F H M) F H M Q0 Q (@PostP.post K (entryG K F H M) F H M Q0 Q p)
/-! ### _law_why -/
/-- what is kept of it, of _law_field, of the classes cs that may be caught -/
structure WhyF (P : Program) (w : World) (K : PySem.W.Frag) (mg : Str → Option Value) (base : Heap) (cs : List Addr) : Prop where
  ex : ∃ (st : Stmt) (g gf : Addr) (fd fdf : FuncData) (CT CM CN : Value), FnD K "_law_why" "_law_why" st [] [] g fd ∧ FnScope ["_law_ask", "_law_e"] ["_law_ask"] (defScope st) ∧ mg "_law_why" = some (.ref g) ∧ Binds K fd ["_law_ask"] [] ∧
    (∃ (j1 j2 j3 kk : Nat) (p1 p2 p3 p4 p5 q1 q2 q3 q0 p6 p7 p8 p9 p10 p11 p12 p13 p14 : Pos), defBody st = [.Try [.Return (some (.Tuple [.Constant (.str "") j1 p1, .Call (.Name "_law_ask" p2) [] [] p3] j2 p4)) p5]
      [.ExceptHandler (some (.Tuple [.Name "TownError" q1, .Name "Missing" q2, .Name "NothingLeft" q3] kk q0)) (some "_law_e") [.Return (some (.Tuple [.Attribute (.Name "_law_e" p6) "tag" p7, .Call (.Name "_law_field" p8) [.Name "_law_e" p9] [] p10] j3 p11)) p12] p13] [] [] p14]) ∧
    (defScope st).names.lookup ("_law_e" : Str) = some .local ∧ (defScope st).names.lookup ("_law_ask" : Str) = some .local ∧
    ((defScope st).names.lookup ("TownError" : Str) = some .globalImplicit ∧ (defScope st).names.lookup ("Missing" : Str) = some .globalImplicit ∧ (defScope st).names.lookup ("NothingLeft" : Str) = some .globalImplicit ∧ (defScope st).names.lookup ("_law_field" : Str) = some .globalImplicit) ∧
    (mg "TownError" = some CT ∧ mg "Missing" = some CM ∧ mg "NothingLeft" = some CN) ∧ (mg "_law_field" = some (.ref gf) ∧ PySem.W.keepIn K (.ref gf) = true ∧ Binds K fdf ["_law_e"] []) ∧
    (∀ (a : Addr) (oe : Obj) (C dd : Addr) (fs : List (Str × D)), XCls K C fieldNames → Zc (.ref C) (some dd) oe → (∃ vs, oe.data = .fields vs) → FnHP P w K mg base (a, oe) 1 gf fdf ["_law_e"] (lSpF K a dd fs)) ∧
    ∀ C ∈ cs, XCls K C fieldNames ∧ PySem.W.exmAny K (.ref C) [CT, CM, CN] = some true
/-- what is raised, told as a pair -/
def whyX (cs : List Addr) (Q : DQ) : DX := fun cls fs M2 => ∃ C ∈ cs, cls = .ref C ∧ ∃ t d, lawField fs = some (t, d) ∧ Q (.tup [.str t, d]) M2
def whyB (cs : List Addr) (tbs : List (LamD × (DX → DTE))) (env : DSt) (M1 : Mp) (Q : DQ) (x : D) : Prop := ∃ p ∈ tbs, x = .fn p.1 ∧ p.2 (whyX cs Q) env M1 fun v M2 => Q (.tup [.str "", v]) M2
def dWhy (cs : List Addr) (tbs : List (LamD × (DX → DTE))) (te : DTE) : DTE := fun env M Q => te env M fun x M1 => whyB cs tbs env M1 Q x
def dCallF (a : Addr) (fs : List (Str × D)) (tr : DTA) : DTE := fun env M Q => tr env M fun ds M1 => ds = [.ptr a] ∧ ∃ t d, lawField fs = some (t, d) ∧ Q d M1
/-- a lambda that is known where it is called: its cells, its body's reading -/
structure LamOkR (X : Cx) (R : L2.St → Prop) (k : Nat) (l : LamD) (tb : DX → DTE) : Prop where
  s : LamS X.N l.scope
  b : BindL l
  c : ∀ {pins : List (Addr × Obj)} {σ : L2.St} {H : Hp} {s : Shared}, Inv X pins σ H s → R σ → LamC l ∧ CellsAt X.N l σ H s.heap
  t : ∀ (E : XK) (E0 : DX) (A : Around) (outer : List Env) (s : Shared) (H : Hp) (f c' : Addr), Room k (A.deeper (lEnv l s.heap.objs.size f c')) → ∀ G : GI X.K, @Wish X.K G E0 E → @DE (lamCx X.prog X.w X.K X.mg X.base X.N l A outer s H E f c') G l.body (tb E0)
abbrev LamOk (X : Cx) (k : Nat) (l : LamD) (tb : DX → DTE) : Prop := LamOkR X (fun _ => True) k l tb
/-- the handler's value -/
def tSuf (a : Addr) (fs : List (Str × D)) : DTS := dRet (dTup (dCons (dXf a fs "tag" (dVar 1)) (dCons (dCallF a fs (dCons (dVar 1) dNil)) dNil)))
theorem suite_why {Y : Cx} {G' : GI Y.K} {a C dd gf : Addr} {oe : Obj} {fs : List (Str × D)} {fdf : FuncData} {p6 p7 p8 p9 p10 p11 p12 : Pos} {j3 : Nat} (T : Tells Y.K G' dd fs) (xc : XCls Y.K C fieldNames) (hz : Zc (.ref C) (some dd) oe) (hf : ∃ vs, oe.data = .fields vs)
    (FH : FnHP Y.prog Y.w Y.K Y.mg Y.base (a, oe) 1 gf fdf ["_law_e"] (lSpF Y.K a dd fs)) (hr : RoomH 1 Y.A) (mem : (a, oe) ∈ Y.pn) (hN : Y.N[1]? = some ("_law_e" : Str)) (hv : Vis Y.env.scope ("_law_e" : Str)) (gF : Gl Y "_law_field") (mF : Y.mg "_law_field" = some (.ref gf)) (kF : PySem.W.keepIn Y.K (.ref gf) = true) (bF : Binds Y.K fdf ["_law_e"] []) :
    DSs Y [.Return (some (.Tuple [.Attribute (.Name "_law_e" p6) "tag" p7, .Call (.Name "_law_field" p8) [.Name "_law_e" p9] [] p10] j3 p11)) p12] (tSuf a fs) := by
  have callF : DE Y (.Call (.Name "_law_field" p8) [.Name "_law_e" p9] [] p10) (dCallF a fs (dCons (dVar 1) dNil)) := by
    refine PE.imp (pe_callHP FH hr mem gF mF kF bF (da_cons (dv 1 hN hv) da_nil)) fun σ H Q ⟨F, env, M, Q0, he, hc, ht, hp⟩ => ⟨F, env, M, _, he, hc, ht, fun ds M1 F1 H1 vs ⟨e, t, d, hl, q⟩ s1 f1 c1 r1 => ?_⟩
    subst e
    rw [Reps] at r1
    obtain ⟨v, r, rfl, r2, r3⟩ := r1
    rw [Reps] at r3
    rw [Rep] at r2
    subst r2 r3
    obtain ⟨xs, hd, rf⟩ := T c1.g
    exact ⟨F1, M1, _, xs, rfl, c1.toCoreP, hd, rf, ⟨t, d, hl, q⟩, (hp.after s1 f1).plain c1⟩
  exact dss_one (ds_ret (de_tup (da_cons (de_xfP T xc hz hf mem (by decide) (dv 1 hN hv)) (da_cons callF da_nil))))
theorem pe_why {X : Cx} {G : GI X.K} {R : L2.St → Prop} {cs : List Addr} {tbs : List (LamD × (DX → DTE))} {arg : Expr} {te : DTE} {k : Nat} {p pos : Pos} (W : WhyF X.prog X.w X.K X.mg X.base cs) (hr : Room (k + 2) X.A) (ha : DE X arg te) (hl : ∀ p ∈ tbs, LamOkR X R k p.1 p.2) (hg : Gl X "_law_why" := by rfl)
    (hst : starEach [arg] X.env = (false, eval arg X.env) :: starEach [] X.env := by rfl) (hpl : (backTo pos (starEach [] X.env)).any (·.1) = false := by rfl) : PE X (.Call (.Name "_law_why" p) [arg] [] pos) (fun σ H Q => R σ ∧ lE X.K (dWhy cs tbs te) σ H Q) := by
  obtain ⟨st, g, gf, fd, fdf, CT, CM, CN, Fw, Sw, mw, bw, ⟨j1, j2, j3, kk, p1, p2, p3, p4, p5, q1, q2, q3, q0, p6, p7, p8, p9, p10, p11, p12, p13, p14, hbd⟩, le, la, ⟨gT, gM, gN, gF⟩, ⟨mT, mM, mN⟩, ⟨mF, kF, bF⟩, hF, hcs⟩ := W.ex
  have kg := Fw.kp
  obtain ⟨oc, od, dV, kV, doc, pm, an, cdv, ct, osl, rfl, lk, hcd, _, _⟩ := Fw.ex
  refine ⟨fun pins s σ H Q I ⟨hR, F, env, M, Q0, he, hc, ht, hp⟩ => wpAny_Call_Name_kw (ld_glob I hg mw ?_ (by decide))⟩
  refine PySem.W.callWith_K (h₀ := X.base) I.ok.mod.kin kg (thn ((da_cons ha da_nil hst).run pos pins s σ H (fun vs H1 => ∃ F1 M1 f l tb, vs = [.ref f] ∧ (l, tb) ∈ tbs ∧ Same F F1 ∧ Fr F H M F1 H1 M1 ∧ Core X.K F1 H1 M1 ∧ LamAt F1 f l ∧ tb (whyX cs Q0) env M1 fun v M2 => Q0 (.tup [.str "", v]) M2) I
    ⟨F, env, M, fun ds M1 => (match ds with | [x] => whyB cs tbs env M1 Q0 x | _ => False), he, hc, ht, fun ds M1 F1 H1 vs q s1 f1 c1 r1 => ?_⟩) fun us s1 ⟨vs, H1, I1, r, F1, M1, f, l, tb, ev, hm, s1', f1, c1, hL, q⟩ => ⟨I1.kIn, ?_⟩) hst hpl
  · match ds, q, r1 with
    | [x], q, r1 =>
      obtain ⟨⟨l, tb⟩, hm, rfl, q⟩ := q
      rw [Reps] at r1
      obtain ⟨v, r, rfl, r2, r3⟩ := r1
      rw [Reps] at r3
      subst r3
      rw [Rep] at r2
      obtain ⟨f, rfl, hL⟩ := r2
      exact ⟨F1, M1, f, l, tb, rfl, hm, s1, f1, c1, hL, q⟩
  subst ev
  cases r with
  | cons r rr =>
  cases rr
  obtain rfl := r
  have L := hl _ hm
  obtain ⟨C, cells⟩ := L.c I1 hR
  have hpq := hp.after s1' f1
  have vis : Vis (defScope st) ("_law_ask" : Str) := Or.inl la
  refine wpAny_call (codeAny_mono (LamX.run_ofS (CX := CX0) (k := k + 1) (N := ["_law_ask", "_law_e"]) (ps := ["_law_ask"]) (us := [.ref f]) (vs := [.ref f]) (Q := Q) (E := L2.E0) lk hcd Sw hr I1.env0 (bw s1 [.ref f] I1.kIn rfl) (.cons rfl .nil) rfl fun hr' => ?_) fun r' s' hq => ?_)
  · rw [hbd]
    refine ⟨_, PSs.nox (pss_one (L2H.ps_try_three (X := (cxOf CX0 X.prog X.w X.K X.mg X.base ["_law_ask", "_law_e"] "_law_why" (defScope st) g cdv X.A X.stack s1 H1 L2.E0).nox) (i := 1) (c1 := CT) (c2 := CM) (c3 := CN) (Wout := fun _ _ _ _ => False)
      (tb := fun W => tRet (tTup (tCons (tC (.str "")) (tCons (fun σZ HZ Q => ∃ f, σZ[0]? = some (some (.ref f)) ∧ LamAt HZ f l ∧ ∃ (G' : GI X.K) (E0' : DX), @Wish X.K G' E0' (anyE 2 W) ∧ @lE X.K G' (tb E0') σ HZ Q) tNil))))
      (ts := fun a cls d De σ H => ∃ (C dd : Addr) (fs : List (Str × D)) (G' : GI X.K), cls = .ref C ∧ d = some dd ∧ C ∈ cs ∧ Tells X.K G' dd fs ∧ @lS X.K G' (tSuf a fs) De σ H)
      rfl rfl Sw.nd rfl le ⟨gT, by decide, .inl mT⟩ ⟨gM, by decide, .inl mM⟩ ⟨gN, by decide, .inl mN⟩ LamX.takes0 (fun W pn xe _ tk _ => ?_) fun a oe cls d pn hz hf => ?_)), ?_⟩
    · -- the body
      have tk2 : Takes ((cxOf CX0 X.prog X.w X.K X.mg X.base ["_law_ask", "_law_e"] "_law_why" (defScope st) g cdv X.A X.stack s1 H1 L2.E0).tr pn xe) (WE (anyE 2 W)) := takes_any (X := (cxOf CX0 X.prog X.w X.K X.mg X.base ["_law_ask", "_law_e"] "_law_why" (defScope st) g cdv X.A X.stack s1 H1 L2.E0).tr pn xe) tk
      have act := pe_act (CXg := CX0) (Eg := L2.E0) (W := WE (anyE 2 W)) (E := anyE 2 W) (i := 0) (a := "_law_ask") (p1 := p2) (p2 := p3) (tb := fun σ H Q => ∃ (G' : GI X.K) (E0' : DX), @Wish X.K G' E0' (anyE 2 W) ∧ @lE X.K G' (tb E0') σ H Q) L.s C L.b cells I1.len tk2 (fun _ _ _ _ h => h) hr'
        (fun A outer s H f c' hr2 => ⟨fun pins s σ H Q I ⟨G', E0', ws, q⟩ => (L.t (anyE 2 W) E0' A outer _ _ f c' hr2 G' ws).run pins s σ H Q I q⟩) rfl vis
      exact pss_one (ps_ret (pe_tup (pa_cons pe_str (pa_cons act pa_nil))))
    · -- the suite
      refine ⟨fun pins s σ H D I ⟨C, dd, fs, G', ec, ed, hC, T, q⟩ => ?_⟩
      subst ec ed
      exact (suite_why (Y := (cxOf CX0 X.prog X.w X.K X.mg X.base ["_law_ask", "_law_e"] "_law_why" (defScope st) g cdv X.A X.stack s1 H1 L2.E0).nox.suite a ((a, oe) :: pn)) (G' := G') T (hcs C hC).1 hz hf (hF a oe C dd fs (hcs C hC).1 hz hf) (roomH_mark (hr'.mono (by omega)) _) List.mem_cons_self rfl (Or.inl le) gF mF kF bF).run pins s σ H D I q
    · -- the reading
      refine ⟨f, rfl, hL.mono c1.same, entryG X.K F1 H1 M1, whyX cs Q0, ?_, F1, env, M1, _, he.mono s1', @Core.mk X.K (entryG X.K F1 H1 M1) F1 H1 M1 c1.toCoreP ⟨Same.refl F1, Fr.refl⟩, q, ?_⟩
      · intro c fs M' F' H' dd vs hx hcr hdd hrf σ' hσ
        obtain ⟨C, hC, rfl, t, d, hl, q⟩ := hx
        have gg := @Core.g X.K (entryG X.K F1 H1 M1) F' H' M' hcr
        have cp := @Core.toCoreP X.K (entryG X.K F1 H1 M1) F' H' M' hcr
        refine ⟨true, (hcs C hC).2, fun _ a na => ⟨C, dd, fs, entryG X.K F' H' M', rfl, rfl, hC, tells_entry hdd hrf, F', [none, some (.ptr a)], M', { nx := fun _ _ => False, rt := Q0 }, ?_, @Core.mk X.K (entryG X.K F' H' M') F' H' M' cp ⟨Same.refl F', Fr.refl⟩, ?_, ?_⟩, fun z => by cases z⟩
        · refine ⟨by rw [List.length_set, hσ]; rfl, fun i d e => ?_⟩
          match i, e with
          | 1, e =>
            cases e
            exact ⟨.ref a, List.getElem?_set_self (by rw [hσ]; decide), by rw [Rep]⟩
        · unfold tSuf
          simp only [dRet, dTup, dCons, dNil, dXf, dVar, dCallF, List.getElem?_cons_succ, List.getElem?_cons_zero]
          exact ⟨trivial, _, lawField_tag hl, trivial, t, d, hl, by show 2 ≤ sizeLine; decide, q⟩
        · refine @PostS.mk X.K (entryG X.K F' H' M') _ _ _ _ _ (fun _ _ _ _ _ z => z.elim) (fun d2 M2 F2 H2 v q s2 f2 c2 r2 => ?_) (fun _ _ _ _ _ z => z.elim) (fun _ _ _ _ _ z => z.elim)
          have cp2 := @Core.toCoreP X.K (entryG X.K F' H' M') F2 H2 M2 c2
          exact hpq d2 M2 F2 H2 v q (gg.1.trans s2) (gg.2.trans f2) (c1.to cp2 (gg.1.trans s2) (gg.2.trans f2)) r2
      · intro d M' F' H' v q s f c r
        have cp := @Core.toCoreP X.K (entryG X.K F1 H1 M1) F' H' M' c
        refine ⟨by show 2 ≤ sizeLine; decide, fun x hx => ?_⟩
        exact (hpq.after s f).tup (c1.to cp s f) (Reps.cons (by rw [Rep]) (Reps.one r)) q x hx
  · cases r' with
    | error e => exact (show False from hq).elim
    | ok fl =>
      cases fl with
      | ret u => exact I1.after hq
      | next => exact hq.elim
      | brk => exact hq.elim
      | cont => exact hq.elim
theorem de_why {X : Cx} {G : GI X.K} {cs : List Addr} {tbs : List (LamD × (DX → DTE))} {arg : Expr} {te : DTE} {k : Nat} {p pos : Pos} (W : WhyF X.prog X.w X.K X.mg X.base cs) (hr : Room (k + 2) X.A) (ha : DE X arg te) (hl : ∀ p ∈ tbs, LamOk X k p.1 p.2) (hg : Gl X "_law_why" := by rfl)
    (hst : starEach [arg] X.env = (false, eval arg X.env) :: starEach [] X.env := by rfl) (hpl : (backTo pos (starEach [] X.env)).any (·.1) = false := by rfl) : DE X (.Call (.Name "_law_why" p) [arg] [] pos) (dWhy cs tbs te) :=
  PE.imp (pe_why W hr ha hl hg hst hpl) fun σ H Q h => ⟨trivial, h⟩
end DL
namespace DL
open PySem PySem.Spec PyProof.Rows L2 LamN
/-! ### a def that makes lambdas -/
theorem own_cells {X : Cx} {q : Str} {params : Arguments} {body : Expr} {scope : Scope} {dfl : Option Int} {pins : List (Addr × Obj)} {σ : L2.St} {H : Hp} {s : Shared} (hf : FreeIn X.env.scope scope = true) (I : Inv X pins σ H s) :
    LamC ⟨q, params, body, scope, cloFrom X.env.cells scope.names [], dfl⟩ ∧ CellsAt X.N ⟨q, params, body, scope, cloFrom X.env.cells scope.names [], dfl⟩ σ H s.heap ∧ ∀ y c, (cloFrom X.env.cells scope.names []).lookup y = some c → ∃ y', X.env.cells.lookup y' = some c := by
  have cap := freeIn hf I.ok
  have cm : ∀ {y c}, (cloFrom X.env.cells scope.names []).lookup y = some c → X.env.cells.lookup y = some c := fun {y c} e => by
    rcases cloFrom_mem (PySem.mem_of_lookup e) with hm | ⟨h1, h2⟩
    · cases hm
    · obtain ⟨c1, hc⟩ := cap _ h1 rfl
      have hc : X.env.cells.lookup y = some c1 := hc
      rw [hc] at h2
      rw [hc, show c = c1 from h2]
  have look : ∀ {y}, scope.names.lookup y = some .free → ∃ c, (cloFrom X.env.cells scope.names []).lookup y = some c := fun {y} hl => mem_lookup (cloFrom_has (cells := X.env.cells) (acc := []) (PySem.mem_of_lookup hl))
  refine ⟨⟨fun x y c e1 e2 => I.ok.inj x y c (cm e1) (cm e2), fun y hy => look hy⟩, ⟨fun y c e => ⟨I.freeC y c (cm e), I.cell y c (cm e)⟩, fun i y v e1 e2 e3 => ?_⟩, fun y c e => ⟨y, cm e⟩⟩
  obtain ⟨m, hn, hl⟩ := I.loc
  have hk : X.env.scope.names.lookup y = some .cell ∨ X.env.scope.names.lookup y = some .free := by
    have := List.all_eq_true.mp hf _ (PySem.mem_of_lookup e3)
    simp only [Bool.or_eq_true, Bool.not_eq_true', decide_eq_true_eq, decide_eq_false_iff_not] at this
    rcases this with (z | z) | z
    · exact absurd trivial z
    · exact .inl z
    · exact .inr z
  obtain ⟨u, r, q⟩ := hl i y v e1 e2 (hk.elim (fun z => .inr (.inl z)) fun z => .inr (.inr z))
  obtain ⟨c, hc⟩ := look e3
  rcases q with ⟨z, _⟩ | ⟨_, c2, e4, z⟩
  · have z : X.env.scope.names.lookup y = some .local := z
    rcases hk with h | h <;> rw [h] at z <;> cases z
  · rw [cm hc] at e4
    cases e4
    exact ⟨c, u, hc, r, z⟩
theorem lamOk_own {X : Cx} {N : List Str} {sc : Scope} {k : Nat} {params : Arguments} {body : Expr} {scope : Scope} {dfl : Option Int} {tb : DX → DTE} (hS : lamSB N scope = true) (hf : FreeIn sc scope = true) (hb : BindL ⟨X.env.qual ++ "<lambda>", params, body, scope, cloFrom X.env.cells scope.names [], dfl⟩)
    (ht : ∀ (E : XK) (E0 : DX) (A : Around) (outer : List Env) (s : Shared) (H : Hp) (f c' : Addr), Room k (A.deeper (lEnv ⟨X.env.qual ++ "<lambda>", params, body, scope, cloFrom X.env.cells scope.names [], dfl⟩ s.heap.objs.size f c')) → ∀ G : GI X.K, @Wish X.K G E0 E →
      @DE (lamCx X.prog X.w X.K X.mg X.base X.N ⟨X.env.qual ++ "<lambda>", params, body, scope, cloFrom X.env.cells scope.names [], dfl⟩ A outer s H E f c') G body (tb E0)) (hN : X.N = N := by rfl) (hsc : X.env.scope = sc := by rfl) : LamOk X k ⟨X.env.qual ++ "<lambda>", params, body, scope, cloFrom X.env.cells scope.names [], dfl⟩ tb := by
  subst hN hsc
  exact ⟨lamS_by hS, hb, fun {pins σ H s} I _ => let h := own_cells hf I; ⟨h.1, h.2.1⟩, ht⟩
/-- where nothing may be raised -/
theorem ws0 {K : PySem.W.Frag} {G : GI K} : @Wish K G noX (fun _ _ _ => False) := fun h _ _ _ => h
theorem uH {k : Nat} {A : Around} (r : L2H.RoomH k A) : A.units + 65 < cLine := by have := r.un; omega
theorem uH4 {k : Nat} {A : Around} (r : L2H.RoomH k A) : A.units + 64 < cLine := by have := r.un; omega
section
variable {P : Program} {w : World} {K : PySem.W.Frag} {mg : Str → Option Value} {base : Heap} {dvs : List V} {kws : List (Str × V)}
/-- THE RULE for a def that makes lambdas and raises nothing -/
theorem dfunL {x qual : Str} {st : Stmt} {f T : Addr} {fd : FuncData} {N ps : List Str} {k : Nat} {sp : DSp} (F : FnD K x qual st dvs kws f fd) (S : FnScope N ps (defScope st)) (hT : ∃ c, fd.code = .ref c ∧ LamX.TabB base mg c T) (len : ∀ ds M Q E, sp ds M Q E → ds.length = ps.length)
    (hbody : ∀ (cdv : Value) (A : Around) (outer : List Env) (s : Shared) (H : Hp) (E : XK), Room k (A.deeper (envOfC qual (defScope st) s.heap.objs.size f cdv)) → LamM (cxOf CX0 P w K mg base N qual (defScope st) f cdv A outer s H E).nox T →
      ∃ t, (∀ G : GI K, @DSs (cxOf CX0 P w K mg base N qual (defScope st) f cdv A outer s H E).nox G (defBody st) t) ∧ ∀ ds M Q E0, sp ds M Q E0 → t (bodyE K Q) (startD N ds) M) : FnOk P w K mg base CX0 (k + 1) f fd ps (lSp K sp) := by
  obtain ⟨oc, od, dV, kV, doc, pm, an, cdv, ct, osl, rfl, lk, hcd, _, _⟩ := F.ex
  obtain ⟨c, hc, TB⟩ := hT
  refine fn_of lk hcd S (fun vs H Q E ⟨F, M, ds, Q0, E0, c, r, h, _⟩ => by rw [r.len]; exact len ds M Q0 E0 h) fun A outer s H vs Q E hr ⟨F, M, ds, Q0, E0, c0, r, h, p, _⟩ => ?_
  obtain ⟨t, h1, h2⟩ := hbody cdv A outer s H E hr ⟨c, TB, hc⟩
  exact ⟨_, PSs.nox (h1 (entryG K F H M)), F, startD N ds, M, bodyE K Q0, start_env r, @Core.mk K (entryG K F H M) F H M c0 ⟨Same.refl F, Fr.refl⟩, h2 ds M Q0 E0 h, @fin_ok K (entryG K F H M) F H M Q0 Q (@PostP.post K (entryG K F H M) F H M Q0 Q p)⟩
end
/-! ### the law's promise, with tables -/
theorem mem_lookA {β : Type} {b : Addr} {q : β} : ∀ {ts : List (Addr × β)}, ts.lookup b = some q → (b, q) ∈ ts
  | [], e => by cases e
  | (c, r) :: ts, e => by
    rw [List.lookup_cons] at e
    cases h : b == c with
    | true => rw [h] at e; have h := eq_of_beq h; cases e; rw [h]; exact List.mem_cons_self
    | false => rw [h] at e; exact List.mem_cons_of_mem _ (mem_lookA e)
def tabM (ts : List (Addr × Str)) : Mp := fun a => (ts.lookup a).map MO.tab
abbrev spLawT (ts : List (Addr × Str)) : DSp := fun ds M Q _ => ∃ ms : List Int, ds = [.lsx (ms.map D.int)] ∧ ms.length ≤ 63 ∧ M = tabM ts ∧ Q (.bl true) M
theorem law_inT {K : PySem.W.Frag} {H : Hp} {a : Addr} {ns : List Int} {ts : List (Addr × Str)} (hl : ns.length ≤ 63) (hT : ∀ p ∈ ts, H p.1 = some (.tbl #[])) (hS : SqL K H a (ns.map V.int)) : lSp K (spLawT ts) [.ref a] H (fun v _ => v = .bl true) fun _ _ _ => False := by
  have key : ∀ b q, ts.lookup b = some q → H b = some (.tbl #[]) := fun b q e => hT (b, q) (mem_lookA e)
  refine ⟨fun b => match ts.lookup b with | some _ => none | none => H b, tabM ts, [.lsx (ns.map D.int)], fun d _ => d = .bl true, noX, ⟨fun b o e => ?_, fun b mo e => ?_⟩, Reps.one ?_, ⟨ns, rfl, hl, rfl, rfl⟩, fun d M' F' H' v e _ _ _ r => by subst e; rw [Rep] at r; exact r, postX0⟩
  · split at e
    · cases e
    · exact e
  · unfold tabM at e
    cases h : ts.lookup b with
    | none => rw [h] at e; cases e
    | some q =>
      rw [h] at e
      cases e
      refine ⟨by simp only, _, key b q h, #[], rfl, True.intro, fun pos cv hc => ?_⟩
      have z : codeAmong pos [] = some cv := hc
      simp [codeAmong] at z
  · rw [Rep]
    refine ⟨a, _, rfl, ?_, Reps.of_ints⟩
    have na : ∀ o, H a = some o → o ≠ .tbl #[] → (match ts.lookup a with | some _ => none | none => H a) = some o := fun o e n => by
      cases h : ts.lookup a with
      | none => exact e
      | some q => rw [key a q h] at e; cases e; exact absurd rfl n
    rcases hS with (h | ⟨o, h⟩) | h
    · exact .inl (.inl (na _ h (by intro z; cases z)))
    · exact .inl (.inr ⟨o, na _ h (by intro z; cases z)⟩)
    · exact .inr h
/-! ### the head's Hook: exceptions, tables, what is caught -/
def caughtB (K : PySem.W.Frag) (l : List Str) : Bool := l.all fun x => xfB K (He.ga K x) && (fieldNames.all (fun n => decide (PySem.W.findIn K (.ref (He.ga K x)) n = some none)) && decide (PySem.W.exmAny K (.ref (He.ga K x)) [.ref (He.ga K "TownError"), .ref (He.ga K "Missing"), .ref (He.ga K "NothingLeft")] = some true))
theorem caught_ok {K : PySem.W.Frag} {l : List Str} (h : caughtB K l = true) : ∀ x ∈ l, XCls K (He.ga K x) fieldNames ∧ PySem.W.exmAny K (.ref (He.ga K x)) [.ref (He.ga K "TownError"), .ref (He.ga K "Missing"), .ref (He.ga K "NothingLeft")] = some true := fun x hx => by
  obtain ⟨h1, h2⟩ := He.ba (List.all_eq_true.mp h x hx)
  obtain ⟨h2, h3⟩ := He.ba h2
  exact ⟨⟨xfB_ok h1, fun n hn => of_decide_eq_true (List.all_eq_true.mp h2 n hn)⟩, of_decide_eq_true h3⟩
/-- the addresses that are looked at -/
def asZ (g : Addr → Option Obj) (n : Nat) : List Addr := cStatics :: He.asD g n
abbrev AlZ : Type := He.AlD × Bool × List FnC
def obsZ (P : Program) (fa : List He.Fa) (fn : List He.DefD) (ex : List ExD) (tf : List He.Defn) (cw : List Str) (g : Addr → Option Obj) (K : PySem.W.Frag) : AlZ := (He.obsD fa fn K, (ex.all fun d => d.ok P K) && (He.tabsB g tf K && caughtB K cw), ex.map fun d => fnC K (d.f K))
def obsZG (P : Program) (n : Nat) (fa : List He.Fa) (fn : List He.DefD) (ex : List ExD) (tf : List He.Defn) (cw : List Str) (g : Addr → Option Obj) : AlZ := obsZ P fa fn ex tf cw g (He.frT g (asZ g n))
def valZ (fn : List He.DefD) (ex : List ExD) : AlZ := (He.valD fn, true, ex.map ExD.val)
structure SaysZ (P : Program) (fa : List He.Fa) (fn : List He.DefD) (ex : List ExD) (tf : List He.Defn) (cw : List Str) (h : Heap) (K : PySem.W.Frag) : Prop where
  d : He.SaysD fa fn K
  eo : (ex.all fun d => d.ok P K) = true
  ev : (ex.map fun d => fnC K (d.f K)) = ex.map ExD.val
  ca : caughtB K cw = true
  hd : ∀ p ∈ tf, PySem.W.codeHdIn K (He.cT K p).1 (He.cT K p).2 = true
  out : ∀ p ∈ tf, K.lookup (He.cT K p).2 = none
  empty : ∀ p ∈ tf, h.get? (He.cT K p).2 = some { cls := .none, data := .fields #[] }
theorem saysZ_of {P : Program} {n : Nat} {fa : List He.Fa} {fn : List He.DefD} {ex : List ExD} {tf : List He.Defn} {cw : List Str} {h : Heap} (e : obsZG P n fa fn ex tf cw h.get? = valZ fn ex) : SaysZ P fa fn ex tf cw h (He.frT h.get? (asZ h.get? n)) := by
  have e1 := congrArg (fun z : AlZ => z.1) e
  have e2 : ((ex.all fun d => d.ok P (He.frT h.get? (asZ h.get? n))) && (He.tabsB h.get? tf (He.frT h.get? (asZ h.get? n)) && caughtB (He.frT h.get? (asZ h.get? n)) cw)) = true := congrArg (fun z : AlZ => z.2.1) e
  have e3 := congrArg (fun z : AlZ => z.2.2) e
  obtain ⟨h1, h2⟩ := He.ba e2
  obtain ⟨h2, h3⟩ := He.ba h2
  have key : ∀ p ∈ tf, PySem.W.codeHdIn (He.frT h.get? (asZ h.get? n)) (He.cT (He.frT h.get? (asZ h.get? n)) p).1 (He.cT (He.frT h.get? (asZ h.get? n)) p).2 = true ∧ ∃ o, h.get? (He.cT (He.frT h.get? (asZ h.get? n)) p).2 = some o ∧ He.emptyTab o = true := fun p hp => by
    obtain ⟨k1, k2⟩ := He.ba (List.all_eq_true.mp h2 p hp)
    refine ⟨k1, ?_⟩
    cases q : h.get? (He.cT (He.frT h.get? (asZ h.get? n)) p).2 with
    | none => rw [q] at k2; cases k2
    | some o => rw [q] at k2; exact ⟨o, rfl, k2⟩
  exact ⟨e1, h1, e3, h3, fun p hp => (key p hp).1, fun p hp => (let ⟨_, o, q, z⟩ := key p hp; He.frT_none q z), fun p hp => (let ⟨_, o, q, z⟩ := key p hp; by rw [q, He.emptyTab_eq z])⟩
def hookZ (P : Program) (n : Nat) (fa : List He.Fa) (fn : List He.DefD) (ex : List ExD) (tf : List He.Defn) (cw : List Str) : PySem.W.Hook where
  α := AlZ
  obs := fun s => obsZG P n fa fn ex tf cw s.heap.get?
  val := fun _ => valZ fn ex
  says := fun _ h => ∃ K : PySem.W.Frag, K.In h ∧ SaysZ P fa fn ex tf cw h K
  of := fun _ _ e => ⟨_, He.frT_in, saysZ_of e⟩
  keeps := fun _ _ _ ⟨K, hK, c⟩ k => ⟨K, PySem.W.Frag.In.keeps hK k, { c with empty := fun p hp => k _ _ (c.empty p hp) }⟩
theorem obsZG_eq {P : Program} {n : Nat} {fa : List He.Fa} {fn : List He.DefD} {ex : List ExD} {tf : List He.Defn} {cw : List Str} {g : Addr → Option Obj} {s : Shared} (h : ∀ a, g a = s.heap.get? a) : obsZG P n fa fn ex tf cw g = (hookZ P n fa fn ex tf cw).obs s := by
  have e : g = s.heap.get? := funext h
  rw [e] <;> rfl
section
variable {P : Program} {fa : List He.Fa} {fn : List He.DefD} {ex : List ExD} {tf : List He.Defn} {cw : List Str} {h : Heap} {K : PySem.W.Frag}
theorem SaysZ.exk (c : SaysZ P fa fn ex tf cw h K) {h' : Heap} {mg : Str → Option Value} (X : K.In h') (G : h'.Ns mainGlobals mg) (i : Nat) {d : ExD} (e : ex[i]? = some d := by rfl) : ∃ fd, ExK P K mg d fd := by
  have e2 : (ex.map fun d => fnC K (d.f K))[i]? = (ex.map ExD.val)[i]? := by rw [c.ev]
  rw [List.getElem?_map, List.getElem?_map, e] at e2
  exact exk_of X G (Option.some.inj e2) (List.all_eq_true.mp c.eo d (List.mem_of_getElem? e))
theorem SaysZ.tab (c : SaysZ P fa fn ex tf cw h K) {base : Heap} {mg : Str → Option Value} (hB : ∀ p ∈ tf.map (He.cT K), LamX.TabB base mg p.1 p.2) {q : He.Defn} (hq : q ∈ tf) {x qual : Str} {st : Stmt} {dvs : List V} {kws : List (Str × V)} {fd : FuncData} (F : FnD K x qual st dvs kws (He.fAd K q) fd) :
    ∃ cc, fd.code = .ref cc ∧ LamX.TabB base mg cc (He.cT K q).2 := by
  obtain ⟨oc, od, dV, kV, doc, pm, an, cdv, ct, osl, rfl, lk, hcd, _, _⟩ := F.ex
  obtain ⟨cc, rfl⟩ := He.codeIn_ref hcd
  refine ⟨cc, rfl, ?_⟩
  have := hB _ (List.mem_map_of_mem hq)
  have e : (He.cT K q).1 = cc := He.codeOf_eq lk rfl
  rw [← e]
  exact this
end
end DL
namespace DL
open PySem PySem.Spec PyProof.Rows L2 LamN
/-! ### == of plain tuples and lists -/
theorem pl_self {n : Nat} {x : D} (h : Pl n x = true) : D.eqv x x = true := PySem.SeqAt.eqv_refl _ (pl_sh n x h).2.1
theorem pl_lst {n : Nat} {ds : List D} (h : ∀ d ∈ ds, Pl n d = true) (hz : ds.length ≤ 1000000) : Pl (n + 1) (.lst ds) = true := by
  rw [Pl, Bool.and_eq_true]
  exact ⟨List.all_eq_true.mpr h, decide_eq_true hz⟩
theorem pl_tup {n : Nat} {ds : List D} (h : ∀ d ∈ ds, Pl n d = true) (hz : ds.length ≤ 1000000) : Pl (n + 1) (.tup ds) = true := by
  rw [Pl, Bool.and_eq_true]
  exact ⟨List.all_eq_true.mpr h, decide_eq_true hz⟩
theorem pl_int {n : Nat} {i : Int} : Pl n (.int i) = true := by cases n <;> rfl
theorem pl_bl {n : Nat} {i : Bool} : Pl n (.bl i) = true := by cases n <;> rfl
theorem pl_non {n : Nat} : Pl n .non = true := by cases n <;> rfl
theorem pl_s {n : Nat} {x : Str} (h : PyData.strOk x = true) : Pl n (.str x) = true := by cases n <;> exact h
theorem pl_nil {n : Nat} : ∀ d ∈ ([] : List D), Pl n d = true := fun _ h => absurd h List.not_mem_nil
theorem pl_cons {n : Nat} {d : D} {ds : List D} (a : Pl n d = true) (b : ∀ d ∈ ds, Pl n d = true) : ∀ e ∈ d :: ds, Pl n e = true := List.forall_mem_cons.mpr ⟨a, b⟩
theorem pl_ints {n : Nat} {l : List Int} : ∀ d ∈ l.map D.int, Pl n d = true := fun d hd => by obtain ⟨i, _, rfl⟩ := List.mem_map.mp hd; exact pl_int
theorem rEqW_tt {n : Nat} {b : Bool} {xs ys : List D} {M : Mp} {Q : DQ} (hx : Pl n (.tup xs) = true) (hy : Pl n (.tup ys) = true) (hn : n ≤ 60) (q : Q (.bl (b ^^ D.eqv (.tup xs) (.tup ys))) M) : rEqW b (.tup xs) (.tup ys) M Q := by
  unfold rEqW
  rw [if_neg (by show ¬ false = true; decide)]
  exact ⟨⟨pl_ok hx (by omega), pl_ok hy (by omega)⟩, q⟩
theorem rEqW_ll {n : Nat} {b : Bool} {xs ys : List D} {M : Mp} {Q : DQ} (hx : Pl n (.lst xs) = true) (hy : Pl n (.lst ys) = true) (hn : n ≤ 60) (q : Q (.bl (b ^^ D.eqv (.lst xs) (.lst ys))) M) : rEqW b (.lst xs) (.lst ys) M Q := by
  unfold rEqW
  rw [if_neg (by show ¬ false = true; decide)]
  exact ⟨⟨pl_ok hx (by omega), pl_ok hy (by omega)⟩, q⟩
section
variable {env : DSt} {M : Mp} {Q : DQ} {E : DEnds} {te : DTE} {tr : DTA} {sp : DSp} {E0 : DX} {C P : Addr} {gd : List D → List (Str × D)} {n : Nat} {l : LamD} {cs : List Addr} {tbs : List (LamD × (DX → DTE))} {x : D}
theorem dCallX_ap : dCallX E0 sp tr env M Q = tr env M fun ds M1 => sp ds M1 Q E0 := rfl
theorem dRaise_ap : dRaise E0 C gd n tr E env M = tr env M fun ds M1 => ds.length = n ∧ E0 (.ref C) (gd ds) M1 := rfl
theorem dLam_ap : dLam P l env M Q = (M P = some (.tab l.q) ∧ Q (.fn l) M) := rfl
theorem dWhy_ap : dWhy cs tbs te env M Q = te env M fun x M1 => whyB cs tbs env M1 Q x := rfl
/-- the lambda that is handed over: its body's reading -/
theorem whyB_1 {tb : DX → DTE} (h : tb (whyX cs Q) env M fun v M2 => Q (.tup [.str "", v]) M2) : whyB cs [(l, tb)] env M Q (.fn l) := ⟨(l, tb), List.mem_cons_self, rfl, h⟩
theorem whyX_of {fs : List (Str × D)} {t : Str} {d : D} (hC : C ∈ cs) (hl : lawField fs = some (t, d)) (q : Q (.tup [.str t, d]) M) : whyX cs Q (.ref C) fs M := ⟨C, hC, rfl, t, d, hl, q⟩
end
end DL
namespace L2
open PySem PySem.Spec PyProof.Rows
section
variable {X : Cx}
theorem lc_coreZ {Zz : Shared → Hp → List Addr → Prop} {pins : List (Addr × Obj)} {s : Shared} {σ : St} {H : Hp} {Q : VK} {elt tg iter : Expr} {ifs : List Expr} {scope : Scope} {own : List (Str × Nat)} {pos pos' : Pos} {wi : TI} {g : TG} {tt : TT} {te : TE} {use : Option (Value → Sem Unit)} {Qf : Value → Shared → Prop}
    (hc : X.calm = true) (hN : X.N.Nodup) (I : Inv X pins σ H s) (hi : PI X tg iter wi) (ok : BlkOk X.N X.env.scope scope own)
    (hg : ∀ (s : Shared) (H : Hp) (C : Addr) (cl : List (Str × Addr)) (fp : List Addr), PG (X.blk s H scope (compEnvC scope cl C X.env) fp) tg g) (ht : ∀ (s : Shared) (H : Hp) (C : Addr) (cl : List (Str × Addr)) (fp : List Addr), PTs (X.blk s H scope (compEnvC scope cl C X.env) fp) ifs tt)
    (hZ : ∀ (pins : List (Addr × Obj)) (s : Shared) (H : Hp) (fp : List Addr), Inv X pins σ H s → (∀ b ∈ fp, FpOk X pins H b) → Zz s H fp) (he : ∀ (s : Shared) (H : Hp) (C : Addr) (cl : List (Str × Addr)) (fp : List Addr), Zz s H fp → PE (X.blk s H scope (compEnvC scope cl C X.env) fp) elt te) (hs : ∀ x, foldedSetIterable iter X.env x = pure x)
    (h : tLc wi g tt te (own.map (·.2)) σ H Q)
    (hRR : ∀ D C s' m H', Inv X pins σ H' s' → Q (.ref D) H' → s'.heap.Ns C m → FpOk X pins H' C → compPost (model X.prog X.w) X.A X.xe use Qf (.ref D) C (.ok .next) s') :
    wpAny (model X.prog X.w) X.A (comprehension (.ListComp elt [⟨tg, iter, ifs, 0⟩] scope pos) scope X.env pos' (newList []) false (eval iter X.env) use) Qf X.xe s := by
  have hfree : ∀ y ∈ scope.names, y.2 = .free → ∃ c, X.env.cells.lookup y.1 = some c := fun y hy e => by
    rcases ok.free y hy e with k | k
    · exact I.ok.has _ (.inl k)
    · exact I.ok.has _ (.inr k)
  refine wpAny_comprehension_free (use := use) rfl hs (closure_ok hfree) ok.kind (fun y hy e => by rw [ok.uniq y hy, e])
    (thn (hi.run pins s σ H _ I h) fun xv s1 hx => thn hx fun itv s2 h2 => ?_)
  obtain ⟨it, fp, tn, J, H2, e, I2, T, st2, f2, q⟩ := h2
  subst e
  refine wpAny_newObj_type (newEnv_comp ?_) (by show 0 ≤ sizeLine; decide)
  generalize hD : s2.heap.objs.size = D
  have hDn : H2 D = none := I2.hok.fresh (Nat.le_of_eq hD)
  obtain ⟨W, ⟨m0, w0⟩, turn⟩ := q D hDn
  -- the new list
  generalize hs3 : ({ s2 with heap := s2.heap.push { cls := .type "list", data := .seq ([] : List Value).toArray } } : Shared) = sB
  have IB : Inv X pins σ (upd H2 D (.lst [])) sB := by
    rw [← hs3]
    refine I2.laid (t' := s2.toks) (fun b o e => Heap.get?_push_of_some _ e) (Nat.le_of_eq hD) ⟨Nat.zero_le _, [], 0, .nil, ?_⟩
    rw [← hD]
    exact Heap.get?_push_size _ rfl
  have h3 : sB.heap = s2.heap.push { cls := .type "list", data := .seq ([] : List Value).toArray } := by rw [← hs3]
  have sz : ∀ b ∈ fp, b < s2.heap.objs.size := fun b hb => by
    obtain ⟨o, e, _⟩ := T.obj _ _ st2 b hb
    exact Heap.lt_size e
  have fB : ∀ b ∈ fp, FpOk X pins (upd H2 D (.lst [])) b ∧ b < sB.heap.objs.size := fun b hb => by
    have hlt := sz b hb
    refine ⟨⟨?_, (f2 b hb).2⟩, by rw [h3, Heap.size_push]; exact Nat.lt_succ_of_lt hlt⟩
    rw [upd_ne (by rw [← hD]; exact Nat.ne_of_lt hlt)]
    exact (f2 b hb).1
  have tB : tn 0 sB.heap := T.keep _ _ _ st2 fun b _ o e => by rw [h3]; exact Heap.get?_push_of_some _ e
  have IC := block_start IB ok hN fB
  have pg := hg sB (upd H2 D (.lst [])) sB.heap.objs.size (cellsFrom (sB.heap.objs.size + 1) scope.names (cloFrom X.env.cells scope.names [])) fp
  have pt := ht sB (upd H2 D (.lst [])) sB.heap.objs.size (cellsFrom (sB.heap.objs.size + 1) scope.names (cloFrom X.env.cells scope.names [])) fp
  have pe := he sB (upd H2 D (.lst [])) sB.heap.objs.size (cellsFrom (sB.heap.objs.size + 1) scope.names (cloFrom X.env.cells scope.names [])) fp (hZ pins sB _ fp IB fun b hb => (fB b hb).1)
  show codeAny _ _ (.compStart (.ListComp elt [⟨tg, iter, ifs, 0⟩] scope pos) 0 (.ref it) (.ref D) (compEnvC scope (cellsFrom (sB.heap.objs.size + 1) scope.names (cloFrom X.env.cells scope.names [])) sB.heap.objs.size X.env)) (compPost (model X.prog X.w) X.A X.xe use Qf (.ref D) sB.heap.objs.size) { sB with heap := pushCells (sB.heap.push { cls := .type "dict", data := .dict #[] }) scope.names }
  have nFP : ∀ b ∈ fp, (upd H2 D (.lst [])) b = none := fun b hb => (fB b hb).1.1
  generalize hce : compEnvC scope (cellsFrom (sB.heap.objs.size + 1) scope.names (cloFrom X.env.cells scope.names [])) sB.heap.objs.size X.env = ce at IC pg pt pe ⊢
  have cL : ce.locals = sB.heap.objs.size := by subst hce; rfl
  generalize hH3 : upd H2 D (.lst []) = HB at IB IC pg pt pe w0 nFP fB
  generalize hs4 : ({ sB with heap := pushCells (sB.heap.push { cls := .type "dict", data := .dict #[] }) scope.names } : Shared) = sC at IC ⊢
  have tC : tn 0 sC.heap := T.keep _ _ _ tB fun b _ o e => by rw [← hs4]; exact pushCells_keeps _ _ _ _ (Heap.get?_push_of_some _ e)
  have stat : ∀ {σ' : St} {H' : Hp} {s' : Shared}, Inv (X.blk sB HB scope ce fp) [] σ' H' s' → (∀ b ∈ fp, H' b = none) → ∀ b ∈ fp, FpOk (X.blk sB HB scope ce fp) [] H' b := fun {σ' H' s'} I' hn b hb =>
    ⟨hn b hb, (I'.ok.exf b hb).1, I'.ok.exfs b hb, .inl hb, fun x c e => (I'.ok.exf b hb).2 x c e, fun p hp => absurd (show p ∈ ([] : List (Addr × Obj)) ++ [] from hp) (by simp)⟩
  have loop : codeAny (model X.prog X.w) X.A (.compLoop (.ListComp elt [⟨tg, iter, ifs, 0⟩] scope pos) 0 (.ref it) (.ref D) ce) (compPost (model X.prog X.w) X.A X.xe use Qf (.ref D) sB.heap.objs.size) sC := by
    refine compLoop_any (fun n s' => ∃ i H', Inv (X.blk sB HB scope ce fp) [] (wipe σ (own.map (·.2))) H' s' ∧ tn i s'.heap ∧ (∀ b ∈ fp, H' b = none) ∧ W i n H') ?_ m0 ⟨0, HB, IC, tC, nFP, w0⟩
    rintro n sD ⟨i, HD, ID, st5, n5, w5⟩
    rcases turn i n HD w5 with ⟨stop, qq⟩ | ⟨go, Nx, hNx, step⟩
    · have td := T.done (X.blk sB HB scope ce fp) rfl rfl rfl hc i [] sD _ HD (fun _ _ => False) ID (stat ID n5) st5 stop
      refine thnF td fun r s6 ⟨hr, I6⟩ => ?_
      subst hr
      -- back in the def's context
      have I7 : Inv X pins σ HD s6 := IB.call' (ch := fp) I6.os I6.base I6.hok I6.bare fun b hb => ⟨(fB b hb).1.2.2.2.1, (fB b hb).1.2.1, (fB b hb).1.2.2.2.2.1, (fB b hb).1.2.2.2.2.2⟩
      have nC : HD sB.heap.objs.size = none := by
        have z : HD ce.locals = none := I6.free
        rw [cL] at z
        exact z
      obtain ⟨m, hn, _⟩ := I6.loc
      have hn : s6.heap.Ns ce.locals m := hn
      rw [cL] at hn
      exact hRR D sB.heap.objs.size s6 m HD I7 qq hn (IB.fpOk (Nat.le_refl _) nC)
    · have ti := T.item (X.blk sB HB scope ce fp) rfl rfl rfl hc i [] sD _ HD (fun _ _ => False) ID (stat ID n5) st5 go
      refine thnF ti fun r s6 ⟨u, hr, h6⟩ => ?_
      subst hr
      refine thnF h6 fun _ s7 ⟨x, H7, I7, r7, y7, st7, n7⟩ => ?_
      have I7' := I7.pinned (stat I7 n7) (T.obj _ _ st7)
      refine thnF (pg.run _ s7 _ H7 x u _ I7' r7 (step x H7 y7)) fun _ s8 ⟨σ8, H8, I8, hw8, q8⟩ => ?_
      refine thnF (pt.run _ s8 σ8 H8 _ I8 q8) fun b s9 ⟨H9, I9, q9⟩ => ?_
      -- the turn's end
      have fin : ∀ {s' : Shared} {H' : Hp}, Inv (X.blk sB HB scope ce fp) ([] ++ pinsAt fp s7.heap) σ8 H' s' → Nx H' → ∃ m, m < n ∧ ∃ i H', Inv (X.blk sB HB scope ce fp) [] (wipe σ (own.map (·.2))) H' s' ∧ tn i s'.heap ∧ (∀ b ∈ fp, H' b = none) ∧ W i m H' := fun {s' H'} I' nx => by
        obtain ⟨m', hm, w'⟩ := hNx H' nx
        have pin' : ∀ b ∈ fp, ∀ o, s7.heap.get? b = some o → s'.heap.get? b = some o ∧ H' b = none := fun b hb o e =>
          let z := I'.pin (b, o) (List.mem_append_right _ (List.mem_append_right _ (mem_pinsAt hb e)))
          ⟨z.1, z.2.1⟩
        have hl : (wipe σ (own.map (·.2))).length = σ8.length := by rw [← hw8, wipe_length]
        refine ⟨m', hm, i + 1, H', (I'.unpinned (pins := [])).weak hl (fun j v e => ?_), T.keep _ _ _ st7 fun b hb o e => (pin' b hb o e).1, fun b hb => ?_, w'⟩
        · rw [← hw8] at e
          exact (wipe_some e).1
        · obtain ⟨o, e, _⟩ := T.obj _ _ st7 b hb
          exact (pin' b hb o e).2
      cases b with
      | false =>
        simp only [Bool.false_eq_true, if_false] at q9 ⊢
        exact fin I9 q9
      | true =>
        simp only [if_true] at q9 ⊢
        refine thnF (pe.run _ s9 σ8 H9 _ I9 q9) fun z s10 ⟨yv, H10, I10, r10, acc, hD10, hz10, nx⟩ => ?_
        exact app_ok (X := X.blk sB HB scope ce fp) I10 hD10 hz10 r10 fun s11 I11 => fin I11 nx
  exact codeAny_compStart_list loop (T.self X.A 0 _ _ _ tC loop)
theorem pe_lcZ {Zz : L2.St → Shared → Hp → List Addr → Prop} {elt tg iter : Expr} {ifs : List Expr} {scope : Scope} {own : List (Str × Nat)} {pos : Pos} {wi : TI} {g : TG} {tt : TT} {te : L2.St → TE} (hc : X.calm = true) (hN : X.N.Nodup) (hi : PI X tg iter wi) (ok : BlkOk X.N X.env.scope scope own)
    (hg : ∀ (s : Shared) (H : Hp) (C : Addr) (cl : List (Str × Addr)) (fp : List Addr), PG (X.blk s H scope (compEnvC scope cl C X.env) fp) tg g) (ht : ∀ (s : Shared) (H : Hp) (C : Addr) (cl : List (Str × Addr)) (fp : List Addr), PTs (X.blk s H scope (compEnvC scope cl C X.env) fp) ifs tt)
    (hZ : ∀ (σ : L2.St) (pins : List (Addr × Obj)) (s : Shared) (H : Hp) (fp : List Addr), Inv X pins σ H s → (∀ b ∈ fp, FpOk X pins H b) → Zz σ s H fp)
    (he : ∀ (σ : L2.St) (s : Shared) (H : Hp) (C : Addr) (cl : List (Str × Addr)) (fp : List Addr), Zz σ s H fp → PE (X.blk s H scope (compEnvC scope cl C X.env) fp) elt (te σ)) (hs : ∀ x, foldedSetIterable iter X.env x = pure x := by intro _; rfl) :
    PE X (.ListComp elt [⟨tg, iter, ifs, 0⟩] scope pos) (fun σ H Q => tLc wi g tt (te σ) (own.map (·.2)) σ H Q) := by
  refine ⟨fun pins s σ H Q I h => ?_⟩
  rw [eval_ListComp]
  refine lc_coreZ hc hN I hi ok hg ht (hZ σ) (he σ) hs h fun D C s' m H' I' q hn f => ⟨m, hn, fun h'' sb => ?_⟩
  obtain ⟨f0, f1, f2, f3, f4, f5⟩ := f
  exact ⟨.ref D, H', I'.turned (t' := s'.toks) (fun b o hb e => (sb.2 b hb).trans e) f0 f1 f3 f4 f5, rfl, q⟩
end
end L2
namespace DL
open PySem PySem.Spec PyProof.Rows L2 LamN
theorem l_lcW {K : PySem.W.Frag} {G : GI K} {tt : DTT} {ti : DTI} {g : TG} {dg : DTG} {te : DTE} {vs : List Nat} (tl : TgL K g dg vs) : ∀ σ H Q, lE K (dLc ti dg tt te vs) σ H Q → tLc (lI K ti) g (lT K tt) (fun σ2 H Q => L2.wipe σ2 vs = L2.wipe σ vs ∧ lE K te σ2 H Q) vs σ H Q := fun σ H Q ⟨F, env, M, Q0, he, hc, ht, hp⟩ => by
  refine ⟨F, env, M, _, he, hc, ht, fun ds kp M1 F1 H1 J q s1 f1 c1 Y L hL => ?_⟩
  obtain ⟨Pv, p0, hk, turn, fin⟩ := q
  have n1 := c1.nones hL
  have c1' : Core K F1 (upd H1 L (.lst [])) M1 := c1.out hL _
  have fL : Fr F1 H1 M1 F1 (upd H1 L (.lst [])) M1 := fun a o e n => ⟨by rw [upd_ne (ne_of_none e hL)]; exact e, n, fun z => z⟩
  refine ⟨fun i m H' => m = ds.length - i ∧ i ≤ ds.length ∧ ∃ F' M' acc va, Same F1 F' ∧ Fr F1 H1 M1 F' H' M' ∧ Core K F' H' M' ∧ H' L = some (.lst va) ∧ F' L = none ∧ M' L = none ∧ Reps K F' acc va ∧ Pv i acc M',
    ⟨_, rfl, Nat.zero_le _, F1, M1, [], [], Same.refl _, fL, c1', upd_same, n1.1, n1.2, Reps.nil, p0⟩, ?_⟩
  rintro i m H2 ⟨rfl, hle, F2, M2, acc, va, s2, f2, c2, hv, hF, hM, ra, p2⟩
  have kk := hk _ _ _ p2
  by_cases hlt : i < ds.length
  · refine .inr ⟨Y.go s2 c2 kk hlt, fun H' => ∃ F' M' acc va, Same F1 F' ∧ Fr F1 H1 M1 F' H' M' ∧ Core K F' H' M' ∧ H' L = some (.lst va) ∧ F' L = none ∧ M' L = none ∧ Reps K F' acc va ∧ Pv (i + 1) acc M', fun H' z => ⟨_, by omega, rfl, hlt, z⟩, fun x H3 y => ?_⟩
    obtain ⟨d, F3, hd, s3, c3, f3, r3⟩ := Y.yld s2 c2 kk hlt y
    obtain ⟨hv3, _, hF3⟩ := f3 L _ hv hM
    refine tl (((he.mono s1).mono (s2.trans s3)).wipe vs) c3 r3 (turn i d acc M2 hd p2) fun σ' env' hw he' q' => ⟨hw.trans (wipe_idem vs), F3, env', M2, _, he', c3, q', fun b M4 F4 H4 q4 s4 f4 c4 => ?_⟩
    obtain ⟨hv4, hM4, hF4⟩ := f4 L _ hv3 hM
    cases b with
    | false => exact ⟨F4, M4, acc, va, s2.trans (s3.trans s4), f2.trans (f3.trans f4), c4, hv4, hF4 (hF3 hF), hM4, ra.mono (s3.trans s4), q4⟩
    | true =>
      rw [if_pos rfl] at q4 ⊢
      refine ⟨hw.trans (wipe_idem vs), F4, env', M4, _, he'.mono s4, c4, q4, fun z M5 F5 H5 v5 q5 s5 f5 c5 r5 => ?_⟩
      obtain ⟨hv5, hM5, hF5⟩ := f5 L _ hv4 hM4
      have hF' := hF5 (hF4 (hF3 hF))
      have ra5 := ra.mono ((s3.trans s4).trans s5)
      have fr5 : Fr F1 H1 M1 F5 (upd H5 L (.lst (va ++ [v5]))) M5 := fun a o e n => by
        obtain ⟨x1, x2, x3⟩ := (f2.trans (f3.trans (f4.trans f5))) a o e n
        exact ⟨by rw [upd_ne (ne_of_none e hL)]; exact x1, x2, x3⟩
      refine ⟨va, hv5, by rw [ra5.len]; exact q5.1, F5, M5, acc ++ [z], va ++ [v5], s2.trans (s3.trans (s4.trans s5)), fr5, c1.to ⟨fun b u e => ?_, fun a mo e => ?_⟩ (s2.trans (s3.trans (s4.trans s5))) fr5, upd_same, hF', hM5, ra5.app (Reps.one r5), q5.2⟩
      · have hb : b ≠ L := fun z => by rw [z, hF'] at e; cases e
        rw [upd_ne hb]; exact c5.same b u e
      · obtain ⟨x1, o, x2, x3⟩ := c5.mem a mo e
        have ha : a ≠ L := fun z => by rw [z, hM5] at e; cases e
        exact ⟨x1, o, by rw [upd_ne ha]; exact x2, x3⟩
  · have e : i = ds.length := by omega
    subst e
    obtain ⟨o, r, c', s', f'⟩ : ∃ F', Core K F' H2 M2 ∧ Same F2 F' ∧ Fr F1 H1 M1 F' H2 M2 ∧ F' L = some (.lst va) := by
      have s' : Same F2 (upd F2 L (.lst va)) := fun b u e => by rw [upd_ne (ne_of_none e hF)]; exact e
      have fr2 : Fr F1 H1 M1 (upd F2 L (.lst va)) H2 M2 := fun a o e n => by
        obtain ⟨x1, x2, x3⟩ := f2 a o e n
        exact ⟨x1, x2, fun z => by rw [upd_ne (ne_of_none e hL)]; exact x3 z⟩
      refine ⟨upd F2 L (.lst va), c1.to ⟨fun b u e => ?_, fun a mo e => ?_⟩ (s2.trans s') fr2, s', fr2, upd_same⟩
      · by_cases hb : b = L
        · subst hb; rw [upd_same] at e; cases e; exact hv
        · rw [upd_ne hb] at e; exact c2.same b u e
      · obtain ⟨x1, o, x2, x3⟩ := c2.mem a mo e
        have ha : a ≠ L := fun z => by rw [z, hM] at e; cases e
        exact ⟨by rw [upd_ne ha]; exact x1, o, x2, x3.mono s'⟩
    exact .inl ⟨Y.stop s2 c2 kk (Nat.le_refl _), hp _ M2 o H2 _ (fin _ _ p2) (s1.trans (s2.trans c')) (f1.trans s') r (by rw [Rep]; exact ⟨L, va, rfl, f', ra.mono c'⟩)⟩
/-- what a block knows of a lambda of its def -/
def ZL (N : List Str) (l : LamD) (σ : L2.St) (s : Shared) (H : Hp) (fp : List Addr) : Prop := LamC l ∧ CellsAt N l σ H s.heap ∧ ∀ y c, l.cl.lookup y = some c → c ∉ fp
theorem zl_own {X : Cx} {sc : Scope} {q : Str} {params : Arguments} {body : Expr} {scope : Scope} {dfl : Option Int} (hf : FreeIn sc scope = true) (hsc : X.env.scope = sc) {pins : List (Addr × Obj)} {σ : L2.St} {H : Hp} {s : Shared} {fp : List Addr} (I : Inv X pins σ H s) (hfp : ∀ b ∈ fp, FpOk X pins H b) : ZL X.N ⟨q, params, body, scope, cloFrom X.env.cells scope.names [], dfl⟩ σ s H fp := by
  subst hsc
  obtain ⟨h1, h2, h3⟩ := own_cells (q := q) (params := params) (body := body) (dfl := dfl) hf I
  refine ⟨h1, h2, fun y c e hm => ?_⟩
  obtain ⟨y', e'⟩ := h3 y c e
  exact (hfp c hm).2.2.2.2.1 y' c e' rfl
theorem lamOk_blk {X : Cx} {sB : Shared} {HB : Hp} {scB : Scope} {ce : Env} {fp : List Addr} {vs : List Nat} {σ0 : L2.St} {k : Nat} {l : LamD} {tb : DX → DTE} (hS : LamS X.N l.scope) (hb : BindL l) (hz : ZL X.N l σ0 sB HB fp) (hv : ∀ v ∈ vs, ∀ y, X.N[v]? = some y → l.scope.names.lookup y ≠ some .free)
    (ht : ∀ (E : XK) (E0 : DX) (A : Around) (outer : List Env) (s : Shared) (H : Hp) (f c' : Addr), Room k (A.deeper (lEnv l s.heap.objs.size f c')) → ∀ G : GI X.K, @Wish X.K G E0 E → @DE (lamCx X.prog X.w X.K X.mg X.base X.N l A outer s H E f c') G l.body (tb E0)) :
    LamOkR (X.blk sB HB scB ce fp) (fun σ2 => L2.wipe σ2 vs = L2.wipe σ0 vs) k l tb := by
  refine ⟨hS, hb, fun {pins σ H s} I hw => ⟨hz.1, fun y c e => ?_, fun i y v e1 e2 e3 => ?_⟩, ht⟩
  · have un : Un (X.blk sB HB scB ce fp).fs fp HB H sB.heap s.heap := I.base
    obtain ⟨n, w, o, ho, hd⟩ := hz.2.1.1 y c e
    obtain ⟨sl, q⟩ := un.any ho n (hz.2.2 y c e)
    exact ⟨un.free c o ho n (hz.2.2 y c e), w, _, q, hd⟩
  · have un : Un (X.blk sB HB scB ce fp).fs fp HB H sB.heap s.heap := I.base
    have hi : i ∉ vs := fun z => hv i z y e1 e3
    have e4 : σ0[i]? = some (some v) := by
      have key : ∀ (ws : List Nat) (τ : L2.St), i ∉ ws → (L2.wipe τ ws)[i]? = τ[i]? := by
        intro ws
        induction ws with
        | nil => intro τ _; rfl
        | cons w ws ih =>
          intro τ hn
          unfold L2.wipe
          rw [List.getElem?_set_ne (fun z => hn (by rw [z]; exact List.mem_cons_self)), ih τ fun z => hn (List.mem_cons_of_mem _ z)]
      rw [← key vs σ0 hi, ← hw, key vs σ hi, e2]
    obtain ⟨c, u, hc, r, o, ho, hd⟩ := hz.2.1.2 i y v e1 e4 e3
    obtain ⟨n, _⟩ := hz.2.1.1 y c hc
    obtain ⟨sl, q⟩ := un.any ho n (hz.2.2 y c hc)
    exact ⟨c, u, hc, r, _, q, hd⟩
theorem hv_by {N : List Str} {vs : List Nat} {scope : Scope} (h : (vs.all fun v => match N[v]? with | some y => !decide (scope.names.lookup y = some .free) | none => true) = true) : ∀ v ∈ vs, ∀ y, N[v]? = some y → scope.names.lookup y ≠ some .free := fun v hv y hy => by
  have := List.all_eq_true.mp h v hv
  rw [hy] at this
  simpa using this
theorem lamOk_blkN {X : Cx} {N : List Str} {sB : Shared} {HB : Hp} {scB : Scope} {ce : Env} {fp : List Addr} {vs : List Nat} {σ0 : L2.St} {k : Nat} {q : Str} {params : Arguments} {body : Expr} {scope : Scope} {cl : List (Str × Addr)} {dfl : Option Int} {tb : DX → DTE} (hS : lamSB N scope = true) (hb : BindL ⟨q, params, body, scope, cl, dfl⟩) (hz : ZL N ⟨q, params, body, scope, cl, dfl⟩ σ0 sB HB fp)
    (hv : (vs.all fun v => match N[v]? with | some y => !decide (scope.names.lookup y = some .free) | none => true) = true)
    (ht : ∀ (E : XK) (E0 : DX) (A : Around) (outer : List Env) (s : Shared) (H : Hp) (f c' : Addr), Room k (A.deeper (lEnv ⟨q, params, body, scope, cl, dfl⟩ s.heap.objs.size f c')) → ∀ G : GI X.K, @Wish X.K G E0 E → @DE (lamCx X.prog X.w X.K X.mg X.base X.N ⟨q, params, body, scope, cl, dfl⟩ A outer s H E f c') G body (tb E0)) (hN : X.N = N := by rfl) :
    LamOkR (X.blk sB HB scB ce fp) (fun σ2 => L2.wipe σ2 vs = L2.wipe σ0 vs) k ⟨q, params, body, scope, cl, dfl⟩ tb := by
  subst hN
  exact lamOk_blk (lamS_by hS) hb hz (hv_by hv) ht
abbrev ForBlkZ (X : Cx) (scope : Scope) (Zz : L2.St → Shared → Hp → List Addr → Prop) (Pz : L2.St → Cx → Prop) : Prop := ∀ (σ : L2.St) (s : Shared) (H : Hp) (C : Addr) (cl : List (Str × Addr)) (fp : List Addr), Zz σ s H fp → Pz σ (X.blk s H scope (compEnvC scope cl C X.env) fp)
/-- [_law_why(x) ..]: a comprehension whose element knows the cells of its def's lambdas -/
theorem de_lcZ {X : Cx} {G : GI X.K} {pos : Pos} {tt : DTT} {Zz : L2.St → Shared → Hp → List Addr → Prop} {elt tg iter : Expr} {ifs : List Expr} {scope : Scope} {own : List (Str × Nat)} {vs : List Nat} {ti : DTI} {g : TG} {dg : DTG} {te : DTE} (hN : X.N.Nodup) (hi : DI X tg iter ti) (ok : BlkOk X.N X.env.scope scope own) (tl : TgL X.K g dg vs)
    (hg : ForBlk X scope fun Y => PG Y tg g) (ht : ForBlk X scope fun Y => PTs Y ifs (lT X.K tt))
    (hZ : ∀ (σ : L2.St) (pins : List (Addr × Obj)) (s : Shared) (H : Hp) (fp : List Addr), Inv X pins σ H s → (∀ b ∈ fp, FpOk X pins H b) → Zz σ s H fp)
    (he : ForBlkZ X scope Zz fun σ Y => PE Y elt (fun σ2 H Q => L2.wipe σ2 vs = L2.wipe σ vs ∧ lE X.K te σ2 H Q)) (ho : own.map (·.2) = vs := by rfl) (hc : X.calm = true := by rfl) (hs : ∀ x, foldedSetIterable iter X.env x = pure x := by intro _; rfl) :
    DE X (.ListComp elt [⟨tg, iter, ifs, 0⟩] scope pos) (dLc ti dg tt te vs) := by
  subst ho
  exact PE.imp (pe_lcZ (te := fun σ σ2 H Q => L2.wipe σ2 (own.map (·.2)) = L2.wipe σ (own.map (·.2)) ∧ lE X.K te σ2 H Q) hc hN hi ok hg ht hZ he hs) (l_lcW tl)
end DL
namespace DL
open PySem PySem.Spec PyProof.Rows L2
section
variable {X : Cx} {GX : GI X.K} {K : PySem.W.Frag} {G : GI K} {a b c e : Expr} {ta tb tc : DTE} {tr : DTA} {pos : Pos}
/-! ### < of plain data -/
def rLtP (K : PySem.W.Frag) : R2 := fun x y H Q => ∃ d e, Dp K H x d ∧ Dp K H y e ∧ PySem.W.alike d e = true ∧ d ≠ .none ∧ min d.depth e.depth ≤ 60 ∧ Q (.bl (PySem.W.dataLt d e)) H
theorem op_ltP (hu : X.A.units + 65 < cLine) : OpR X (compareOp .Lt) (rLtP X.K) := by
  intro pins s σ H x y v u Q I rx ry h
  obtain ⟨d, e, hd, he, al, nn, dp, q⟩ := h
  obtain ⟨as, r1⟩ := Dp.reads I d x v hd rx
  obtain ⟨bs, r2⟩ := Dp.reads I e y u he ry
  exact PySem.W.rcLt_alike d e X.A s v u as bs r1 r2 al nn (by omega) X.prog X.w X.xe _ ⟨.bl (PySem.W.dataLt d e), H, I, rfl, q⟩
def rLtZ : D2 := fun x y M Q => match x, y with
  | .int i, .int j => Q (.bl (decide (i < j))) M
  | .str i, .str j => Q (.bl (decide (i.cps.toList < j.cps.toList))) M
  | x, y => ((rs M x).pl = true ∧ (rs M y).pl = true) ∧ PySem.W.alike (rs M x).py (rs M y).py = true ∧ (rs M x).py ≠ .none ∧ min (rs M x).py.depth (rs M y).py.depth ≤ 60 ∧ Q (.bl (PySem.W.dataLt (rs M x).py (rs M y).py)) M
theorem rLtZ_ii {i j : Int} {M : Mp} {Q : DQ} : rLtZ (.int i) (.int j) M Q = Q (.bl (decide (i < j))) M := rfl
theorem rLtZ_ss {i j : Str} {M : Mp} {Q : DQ} : rLtZ (.str i) (.str j) M Q = Q (.bl (decide (i.cps.toList < j.cps.toList))) M := rfl
abbrev rLtA (K : PySem.W.Frag) : R2 := fun x y H Q => ((rI0 fun i j => .bl (decide (i < j))) x y H Q ∨ (∃ i j, x = .str i ∧ y = .str j ∧ Q (.bl (decide (i.cps.toList < j.cps.toList))) H)) ∨ rLtP K x y H Q
theorem o_ltZ (hu : X.A.units + 65 < cLine) : OpR X (compareOp .Lt) (rLtA X.K) := (op_lt.or op_lt_str).or (op_ltP hu)
theorem l_ltZ : LR2 K (rLtA K) rLtZ := by
  intro F H M d e v w Q0 Q c r1 r2 h p
  unfold rLtZ at h
  split at h
  · simp only [Rep] at r1 r2
    exact .inl (.inl ⟨_, _, r1, r2, p.bl c h⟩)
  · simp only [Rep] at r1 r2
    exact .inl (.inr ⟨_, _, r1, r2, p.bl c h⟩)
  · obtain ⟨⟨h1, h2⟩, h3, h4, h5, h6⟩ := h
    exact .inr ⟨_, _, Rep.dp _ _ (rs_ok c r1) h1, Rep.dp _ _ (rs_ok c r2) h2, h3, h4, h5, p.bl c h6⟩
/-! ### index -/
def rIndexL : DM := fun x ds M Q => match ds with
  | [y] => (match lstOf M x with
    | some xs => (flatD y = true ∧ xs.all flatD = true) ∧ ∃ (j : Nat) (z : D), xs[j]? = some z ∧ D.eqv z y = true ∧ (∀ (m : Nat) (z' : D), m < j → xs[m]? = some z' → D.eqv z' y = false) ∧ Q (.int (j : Nat)) M
    | none => False)
  | _ => False
theorem l_indexL : LM K (rIndex K) rIndexL := by
  intro F H M d v ds vs Q0 Q c r rs h p
  unfold rIndexL at h
  split at h
  · rename_i y
    split at h
    · rename_i xs g
      obtain ⟨⟨h1, h2⟩, j, z, h3, h4, h5, h6⟩ := h
      obtain ⟨w, e1, e2⟩ := reps1 rs
      obtain ⟨a, us, e3, e4, e5⟩ := lstOf_ok c r g
      obtain ⟨u, e6, e7⟩ := e5.get h3
      have hz : flatD z = true := List.all_eq_true.mp h2 z (List.mem_of_getElem? h3)
      refine ⟨a, us, w, j, u, e3, e1, e4, flat_v e2 h1, flat_all e5 h2, e6, by rw [flat_eqv e7 e2 hz h1]; exact h4, fun m z' hm hz' => ?_, p.int c h6⟩
      obtain ⟨d', e8, e9⟩ := e5.get' hz'
      rw [flat_eqv e9 e2 (List.all_eq_true.mp h2 d' (List.mem_of_getElem? e8)) h1]
      exact h5 m d' hm e8
    · exact h.elim
  · exact h.elim
theorem de_indexL {apos cpos : Pos} (ho : DE X a ta) (ha : DA X [b] tr) (hbase : attributeBase a "index" X.env (eval a X.env) = eval a X.env := by rfl) (hline : (apos.endLine == cpos.line) = true := by rfl) (hs : starEach [b] X.env = (false, eval b X.env) :: starEach [] X.env := by rfl) :
    DE X (.Call (.Attribute a "index" apos) [b] [] cpos) (dBM "list" rIndexL ta tr) :=
  de_bm PySem.F.plainAttrs_list PySem.F.slot_list_index PySem.F.type_list_index mt_index l_indexL ho ha hbase (by rw [hs]; rfl) hline hs rfl
def rIndexS : DM := fun x ds M Q => match x, ds with
  | .str a, [.str b] => ∃ i rest, Builtin.Str.occurrences a b 0 a.length 1 = i :: rest ∧ Q (.int (i : Nat)) M
  | _, _ => False
theorem l_indexS : LM K (fun x xs H Q => ∃ a b i rest, x = .str a ∧ xs = [.str b] ∧ Builtin.Str.occurrences a b 0 a.length 1 = i :: rest ∧ Q (.int (i : Nat)) H) rIndexS := by
  intro F H M d v ds vs Q0 Q c r rs h p
  unfold rIndexS at h
  split at h
  · obtain ⟨i, rest, h1, h2⟩ := h
    obtain ⟨w, e1, e2⟩ := reps1 rs
    rw [Rep] at r e2
    exact ⟨_, _, i, rest, r, by rw [e1, e2], h1, p.int c h2⟩
  · exact h.elim
theorem de_indexS {apos cpos : Pos} (ho : DE X a ta) (ha : DA X [b] tr) (hbase : attributeBase a "index" X.env (eval a X.env) = eval a X.env := by rfl) (hline : (apos.endLine == cpos.line) = true := by rfl) (hs : starEach [b] X.env = (false, eval b X.env) :: starEach [] X.env := by rfl) :
    DE X (.Call (.Attribute a "index" apos) [b] [] cpos) (dBM "str" rIndexS ta tr) :=
  de_bm PySem.F.plainAttrs_str PySem.F.slot_str_index PySem.F.type_str_index mt_sindex l_indexS ho ha hbase (by rw [hs]; rfl) hline hs rfl
end
/-- the first place of a sign -/
theorem occ_sign {l : List Nat} {x : Nat} (h : x ∈ l) : ∃ rest, Builtin.Str.occurrences ⟨l.toArray⟩ ⟨#[x]⟩ 0 (⟨l.toArray⟩ : Str).length 1 = l.idxOf x :: rest := by
  have hat : ∀ i, PySem.StrLaws.At ⟨l.toArray⟩ ⟨#[x]⟩ (⟨l.toArray⟩ : Str).length i ↔ l[i]? = some x := fun i => by
    have := PySem.StrLaws.subAt_one ⟨l.toArray⟩ x i
    exact ⟨fun h => this.mp (by simpa [PySem.StrLaws.At] using h), fun h => by simpa [PySem.StrLaws.At] using this.mpr h⟩
  have hi : l.idxOf x < l.length := List.idxOf_lt_length_of_mem h
  have hx : l[l.idxOf x]? = some x := by rw [List.getElem?_eq_getElem hi, List.getElem_idxOf hi]
  rcases PySem.StrLaws.occ_head ⟨l.toArray⟩ ⟨#[x]⟩ 1 (Nat.le_refl 1) with ⟨_, hn⟩ | ⟨i, r, e, ha, hn⟩
  · exact absurd ((hat _).mpr hx) (hn _)
  · have hix := (hat i).mp ha
    have e1 : i = l.idxOf x := by
      rcases Nat.lt_trichotomy i (l.idxOf x) with z | z | z
      · have hlt := (List.getElem?_eq_some_iff.mp hix)
        obtain ⟨hl, e2⟩ := hlt
        have := List.not_of_lt_findIdx (p := (· == x)) (xs := l) (i := i) z
        rw [e2] at this
        simp at this
      · exact z
      · exact absurd ((hat _).mpr hx) (hn _ z)
    rw [e1] at e
    exact ⟨r, e⟩
section
variable {env : DSt} {M : Mp} {Q : DQ}
theorem rIndexL_l {xs : List D} {y : D} : rIndexL (.lst xs) [y] M Q = ((flatD y = true ∧ xs.all flatD = true) ∧ ∃ (j : Nat) (z : D), xs[j]? = some z ∧ D.eqv z y = true ∧ (∀ (m : Nat) (z' : D), m < j → xs[m]? = some z' → D.eqv z' y = false) ∧ Q (.int (j : Nat)) M) := rfl
theorem rIndexS_s {x y : Str} : rIndexS (.str x) [.str y] M Q = ∃ i rest, Builtin.Str.occurrences x y 0 x.length 1 = i :: rest ∧ Q (.int (i : Nat)) M := rfl
end
end DL
namespace DL
open PySem PySem.Spec PyProof.Rows L2
/-! ### f(a, k=b) of a def that may raise -/
def dCallKX (E0 : DX) (sp : DSp) (gD : List D → List D → List D) (tr tk : DTA) : DTE := fun env M Q => tr env M fun ds M1 => tk env M1 fun es M2 => sp (gD ds es) M2 Q E0
section
variable {X : Cx} {GX : GI X.K} {E : XK} {E0 : DX} {x : Str} {k m n : Nat} {π : List Nat} {p pos : Pos} {e : Expr} {es : List Expr} {kws : List Keyword} {tr tkw : DTA} {f : Addr} {fd : FuncData} {ps ks : List Str} {sp : DSp}
theorem de_callKX (G : CalX X.prog X.w X.K X.mg X.base k x ps sp f fd) (ws : Wish X.K E0 E) (hr : Room k X.A) (hb : KBinds X.K fd ps ks (gKV m n π) (gKV m n π)) (ha : DA X (e :: es) tr) (hkw : DK X kws tkw) (tk : L2.Takes X (WE E) := by exact L2.takes_of rfl rfl rfl rfl) (hg : Gl X x := by rfl)
    (hall : (backToKw pos (keywordEach kws X.env)).all (·.1.isSome) = true := by rfl) (hks : (backToKw pos (keywordEach kws X.env)).filterMap (·.1) = ks := by rfl)
    (hdb : (x == ("__debug__" : Str)) = false := by decide) (he : starEach (e :: es) X.env = (false, eval e X.env) :: starEach es X.env := by rfl)
    (hpl : ((backTo pos (starEach (e :: es) X.env)).any (·.1) || (backToKw pos (keywordEach kws X.env)).any (·.1.isNone)) = false := by rfl) : DE X (.Call (.Name x p) (e :: es) kws pos) (dCallKX E0 sp (gKV m n π) tr tkw) :=
  PE.imp (pe_callK G.fn hr hg G.g G.kp hb (L2.passes_call tk fun _ _ _ _ h => h) ha hkw hall hks hdb he hpl) fun σ H Q ⟨F, env, M, Q0, he, hc, ht, hp⟩ =>
    ⟨F, env, M, _, he, hc, ht, fun ds M1 F1 H1 vs q s1 f1 c1 r1 => ⟨F1, env, M1, _, he.mono s1, c1, q, fun es M2 F2 H2 us q2 s2 f2 c2 r2 =>
      ⟨F2, M2, _, Q0, E0, c2.toCoreP, (gkv_rep m n π).rep (r1.mono s2) r2, q2, ((hp.after s1 f1).after s2 f2).plain c2, ws.post c2⟩⟩⟩
theorem de_callKX0 (G : CalX X.prog X.w X.K X.mg X.base k x ps sp f fd) (ws : Wish X.K E0 E) (hr : Room k X.A) (hb : KBinds X.K fd ps ks (gKV m n π) (gKV m n π)) (hkw : DK X kws tkw) (tk : L2.Takes X (WE E) := by exact L2.takes_of rfl rfl rfl rfl) (hg : Gl X x := by rfl)
    (hall : (backToKw pos (keywordEach kws X.env)).all (·.1.isSome) = true := by rfl) (hks : (backToKw pos (keywordEach kws X.env)).filterMap (·.1) = ks := by rfl)
    (hdb : (x == ("__debug__" : Str)) = false := by decide)
    (hpl : ((backTo pos (starEach [] X.env)).any (·.1) || (backToKw pos (keywordEach kws X.env)).any (·.1.isNone)) = false := by rfl) : DE X (.Call (.Name x p) [] kws pos) (dCallKX E0 sp (gKV m n π) dNil tkw) := by
  have h : PE X (.Call (.Name x p) [] kws pos) (tCallK (lSp X.K sp) (gKV m n π) E tNil (lA X.K tkw)) := by
    refine ⟨fun pins s σ H Q I h => wpAny_Call_Name_kw (ld_glob I hg G.g ?_ hdb)⟩
    refine PySem.W.callWith_KW0 (h₀ := X.base) I.ok.mod.kin G.kp hall (thn (hkw.run pos pins s σ H _ I h) fun us s2 ⟨zs, H2, I2, rz, q2⟩ => ⟨I2.kIn, ?_⟩) hpl
    rw [hks]
    exact run_fnk (us := []) (vs := []) G.fn hr hb (L2.passes_call tk fun _ _ _ _ h => h) I2 .nil rz q2
  exact PE.imp h fun σ H Q ⟨F, env, M, Q0, he, hc, ht, hp⟩ => ⟨F, env, M, _, he, hc, ht, fun es M2 F2 H2 us q2 s2 f2 c2 r2 =>
      ⟨F2, M2, _, Q0, E0, c2.toCoreP, (gkv_rep m n π).rep Reps.nil r2, q2, (hp.after s2 f2).plain c2, ws.post c2⟩⟩
theorem dCallKX_ap {env : DSt} {M : Mp} {Q : DQ} {gD : List D → List D → List D} : dCallKX E0 sp gD tr tkw env M Q = tr env M fun ds M1 => tkw env M1 fun es M2 => sp (gD ds es) M2 Q E0 := rfl
end
theorem whyB_mem {l : LamD} {tb : DX → DTE} {cs : List Addr} {tbs : List (LamD × (DX → DTE))} {env : DSt} {M : Mp} {Q : DQ} (hm : (l, tb) ∈ tbs) (h : tb (whyX cs Q) env M fun v M2 => Q (.tup [.str "", v]) M2) : whyB cs tbs env M Q (.fn l) := ⟨(l, tb), hm, rfl, h⟩
end DL
namespace PRE
open PySem PySem.Spec PyProof.Rows L2 DL
/-! ### the mathematics of words -/
def loC (c : Nat) : Nat := if 65 ≤ c ∧ c ≤ 90 then c + 32 else c
def upC (c : Nat) : Nat := if 97 ≤ c ∧ c ≤ 122 then c - 32 else c
def isLo (c : Nat) : Bool := decide (97 ≤ c ∧ c ≤ 122)
def swC (c : Nat) : Nat := if isLo c = true then upC c else loC c
theorem lo1 {c : Nat} (h : c < 128) : Txt.lower ⟨#[c]⟩ = ⟨#[loC c]⟩ := by
  have : ∀ c < 128, Txt.lower ⟨#[c]⟩ = ⟨#[loC c]⟩ := by decide +kernel
  exact this c h
theorem up1 {c : Nat} (h : c < 128) : Txt.upper ⟨#[c]⟩ = ⟨#[upC c]⟩ := by
  have : ∀ c < 128, Txt.upper ⟨#[c]⟩ = ⟨#[upC c]⟩ := by decide +kernel
  exact this c h
theorem lower_in {c : Nat} : strIn ⟨#[c]⟩ "abcdefghijklmnopqrstuvwxyz" = isLo c := by
  rw [strIn_sign]
  unfold isLo
  have e : (Str.ofString "abcdefghijklmnopqrstuvwxyz").cps.toList = [97,98,99,100,101,102,103,104,105,106,107,108,109,110,111,112,113,114,115,116,117,118,119,120,121,122] := by decide +kernel
  rw [e, decide_eq_decide]
  simp only [List.mem_cons, List.not_mem_nil, or_false]
  omega
theorem line {n : Nat} (h : n ≤ 1000000) : n ≤ sizeLine := by rw [sizeLine_eq]; omega
theorem lineT {n : Nat} (h : n ≤ 1000000) : n < sizeLine := by rw [sizeLine_eq]; omega
theorem len1 (c : Nat) : (⟨#[c]⟩ : Str).length ≤ 5592405 := by show 1 ≤ 5592405; decide
/-- a text by its codes -/
def T (l : List Nat) : Str := ⟨l.toArray⟩
theorem T_cps (l : List Nat) : (T l).cps.toList = l := by simp [T]
theorem T_of (z : Str) : T z.cps.toList = z := by cases z; simp [T]
theorem T_len (l : List Nat) : (T l).length = l.length := by simp [T, Str.length]
theorem T_one (c : Nat) : (⟨#[c]⟩ : Str) = T [c] := rfl
theorem T_app (l m : List Nat) : T l ++ T m = T (l ++ m) := by
  show Str.append (T l) (T m) = T (l ++ m)
  simp [Str.append, T]
theorem T_inj {l m : List Nat} : T l = T m ↔ l = m := ⟨fun e => by rw [← T_cps l, e, T_cps], fun e => by rw [e]⟩
theorem T_beq (l m : List Nat) : (T l == T m) = decide (l = m) := by
  by_cases h : l = m
  · subst h; simp
  · rw [decide_eq_false h]
    exact beq_eq_false_iff_ne.mpr fun e => h (T_inj.mp e)
theorem sgs_T (l : List Nat) : sgs (T l) = l.map fun c => D.str ⟨#[c]⟩ := by unfold sgs; rw [T_cps]
theorem srev_T (l : List Nat) : srev (T l) = T l.reverse := by unfold srev; rw [T_cps]; rfl
theorem join_cps (x : Str) (ys : List Str) : Txt.join x ys = Str.join x ys := by
  exact PySem.StrLaws.glued_eq_join x ys
theorem join_T : ∀ ls : List (List Nat), Txt.join "" (ls.map T) = T ls.flatten
  | [] => by rw [join_cps]; rfl
  | [l] => by rw [join_cps]; show T l = _; simp
  | l :: m :: r => by
    have ih := join_T (m :: r)
    rw [join_cps] at ih ⊢
    show T l ++ "" ++ Str.join "" ((m :: r).map T) = T (l :: m :: r).flatten
    rw [ih]
    have e : (Str.ofString "") = T [] := by decide +kernel
    rw [e, T_app, T_app]
    simp
theorem join_signs (l : List Nat) : Txt.join "" (l.map fun c => (⟨#[c]⟩ : Str)) = T l := by
  have := join_T (l.map fun c => [c])
  rw [List.map_map] at this
  have key : ∀ m : List Nat, (m.map fun c => [c]).flatten = m := by
    intro m
    induction m with
    | nil => rfl
    | cons c r ih => rw [List.map_cons, List.flatten_cons, ih]; rfl
  have e := key l
  rw [e] at this
  exact this
theorem one_sum (l : List Nat) : ((l.map fun c => (⟨#[c]⟩ : Str)).map (·.length)).sum = l.length := by
  rw [List.map_map]
  induction l with
  | nil => rfl
  | cons c r ih => rw [List.map_cons, List.sum_cons, ih]; show 1 + r.length = r.length + 1; omega
theorem strOk_T {l : List Nat} (h : ∀ c ∈ l, c < 1114112) : PyData.strOk (T l) = true := by
  unfold PyData.strOk T
  simpa using h
local macro_rules | `(tactic| walk_at "dl") => `(tactic| simp only [exists_eq', exists_eq, List.take_nil, List.take_succ_cons, List.take_zero, decide_false, decide_true, dFld_ap, dSetF_ap, dAugF_ap, dMeth_ap, dMake_ap, dProp_ap, insOf_p, insOf_o, dNever_ap, bodyE_rt, bodyE_nx, dVar_ap, dC_ap, dOp_ap, dTB_ap, dTru_ap, dAnd_ap, dOr_ap, dNot_ap, dNotV_ap, dAndV_ap, dOrV_ap, dIf_ap, dIsN_ap, dNext_ap, dSeq_ap, dBreak_ap, dCont_ap, dDrop_ap, dRet_ap, dRetN_ap, dIfS_ap, dgName_ap, dgNil_ap, dgCons_ap, dgTup_ap, dgSub_ap, dAsg_ap, dPar_ap, dAug_ap, dNil_ap, dCons_ap, dTup_ap, dLst_ap, dLstM_ap, dCB_ap, dBM_ap, dBM0_ap, dCall_ap, dCallK_ap, dRev_s, dSl_ap, dPart_ap, dUn_ap, dChain_ap, dIsi_ap, dIsi2_ap, dIter_ap, dIterT_ap, dIterS_ap, dRng1_ap, dRng2_ap, rMulX_ii, rMulX_si, dFmt_ap, fmtD_s, fmtD_i, dJoined_ap, dJs_nil, dJs_cons, jStep_s, dCallK_ap, dNil_ap, rAdd_ii, rAdd_ss, rAdd_tt, rAdd_ll, rSub_ii, rInt2_ii, rNeg_i, rOrd_ii, rOrd_ss, rIadd_ii, rIadd_ss, rEqW_ii, rEqW_ss, rEqW_bb, rIn_ss, rIxD_l, rIxD_x, rIxD_t, rIxD_s, rIxD_p, lstOf_p, lstOf_l, lstOf_x, rSlD_s, rSlD_t, rSlD_l, rSlD_x, rLen_s, rLen_t, rLen_l, rLen_x, rLen_p, rAbs_i, rInt_i, rInt_b, rToListA_t, rToListA_l, rToListA_s, rToListM_t, rToListM_l, rToTup_t, rToTup_l, rToTup_p, rSum_ap, rAll_ap, rAny_ap, rStrN_i, rMax2_ii, rMin2_ii, rS0_ap, rS1_ap, tyD_s, tyD_p, tyD_l, rJoin_l, rJoin_p, rAppend_p, rPop_p, startD, wipeD, List.map_cons, List.map_nil, List.cons_append, List.nil_append, List.append_nil, List.length_cons, List.length_nil, List.getElem?_cons_zero, List.getElem?_cons_succ, List.set_cons_zero, List.set_cons_succ, List.replicate, Nat.reduceAdd, Nat.reduceSub, Nat.sub_zero, up_same, up_up, Bool.false_xor, Bool.true_xor, Bool.not_true, Bool.not_false, if_true, if_false, Bool.false_eq_true, and_true, true_and, ite_true, ite_false, reduceIte, reduceCtorEq, Option.some.injEq, exists_eq_left', exists_eq_left])
local macro_rules | `(tactic| walk_at "dlh") => `(tactic| simp only [exists_eq', exists_eq, List.take_nil, List.take_succ_cons, List.take_zero, decide_false, decide_true, dFld_ap, dSetF_ap, dAugF_ap, dMeth_ap, dMake_ap, dProp_ap, insOf_p, insOf_o, dNever_ap, bodyE_rt, bodyE_nx, dVar_ap, dC_ap, dOp_ap, dTB_ap, dTru_ap, dAnd_ap, dOr_ap, dNot_ap, dNotV_ap, dAndV_ap, dOrV_ap, dIf_ap, dIsN_ap, dNext_ap, dSeq_ap, dBreak_ap, dCont_ap, dDrop_ap, dRet_ap, dRetN_ap, dIfS_ap, dgName_ap, dgNil_ap, dgCons_ap, dgTup_ap, dgSub_ap, dAsg_ap, dPar_ap, dAug_ap, dNil_ap, dCons_ap, dTup_ap, dLst_ap, dLstM_ap, dCB_ap, dBM_ap, dBM0_ap, dCall_ap, dCallK_ap, dRev_s, dSl_ap, dPart_ap, dUn_ap, dChain_ap, dIsi_ap, dIsi2_ap, dIter_ap, dIterT_ap, dIterS_ap, dRng1_ap, dRng2_ap, rMulX_ii, rMulX_si, dFmt_ap, fmtD_s, fmtD_i, dJoined_ap, dJs_nil, dJs_cons, jStep_s, dCallK_ap, dNil_ap, rAdd_ii, rAdd_ss, rAdd_tt, rAdd_ll, rSub_ii, rInt2_ii, rNeg_i, rOrd_ii, rOrd_ss, rIadd_ii, rIadd_ss, rEqW_ii, rEqW_ss, rEqW_bb, rIn_ss, rIxD_l, rIxD_x, rIxD_t, rIxD_s, rIxD_p, lstOf_p, lstOf_l, lstOf_x, rSlD_s, rSlD_t, rSlD_l, rSlD_x, rLen_s, rLen_t, rLen_l, rLen_x, rLen_p, rAbs_i, rInt_i, rInt_b, rToListA_t, rToListA_l, rToListA_s, rToListM_t, rToListM_l, rToTup_t, rToTup_l, rToTup_p, rSum_ap, rAll_ap, rAny_ap, rStrN_i, rMax2_ii, rMin2_ii, rS0_ap, rS1_ap, tyD_s, tyD_p, tyD_l, rJoin_l, rJoin_p, rAppend_p, rPop_p, startD, wipeD, List.map_cons, List.map_nil, List.cons_append, List.nil_append, List.append_nil, List.length_cons, List.length_nil, List.getElem?_cons_zero, List.getElem?_cons_succ, List.set_cons_zero, List.set_cons_succ, List.replicate, Nat.reduceAdd, Nat.reduceSub, Nat.sub_zero, up_same, up_up, Bool.false_xor, Bool.true_xor, Bool.not_true, Bool.not_false, if_true, if_false, Bool.false_eq_true, and_true, true_and, ite_true, ite_false, reduceIte, reduceCtorEq, Option.some.injEq, exists_eq_left', exists_eq_left, *])
local macro_rules | `(tactic| walk_at "len") => `(tactic| (intro ds M Q E h; first | (obtain ⟨_, h1, _⟩ := h; subst h1; rfl) | (obtain ⟨_, _, h1, _⟩ := h; subst h1; rfl) | (obtain ⟨_, _, _, h1, _⟩ := h; subst h1; rfl) | (obtain ⟨_, _, _, _, h1, _⟩ := h; subst h1; rfl) | (obtain ⟨_, _, _, _, _, h1, _⟩ := h; subst h1; rfl) | (obtain ⟨_, _, _, _, _, _, h1, _⟩ := h; subst h1; rfl) | (obtain ⟨_, _, _, _, _, _, _, h1, _⟩ := h; subst h1; rfl) | (obtain ⟨_, _, _, _, _, _, _, _, h1, _⟩ := h; subst h1; rfl) | (obtain ⟨_, _, _, _, _, _, _, _, _, h1, _⟩ := h; subst h1; rfl)))
/-! ### the promises -/
abbrev sp_swapped : DSp := fun ds M Q _ => ∃ c : Nat, ds = [.str ⟨#[c]⟩] ∧ c < 128 ∧ Q (.str ⟨#[swC c]⟩) M
/-- the law's box: marks, place, a great number, a seed -/
def BoxOk (mo : MO) : Prop := ∃ (ms : List Int) (i g s : Int), mo = .lst [.lst (ms.map D.int), .int i, .int g, .int s] ∧ ms.length ≤ 63 ∧ 0 ≤ i ∧ 0 ≤ g ∧ 0 ≤ s ∧ s < 2147483647
abbrev sp__law_begin : DSp := fun ds M Q _ => ∃ ms : List Int, ds = [.lsx (ms.map D.int)] ∧ ms.length ≤ 63 ∧ ∀ a mo, M a = none → BoxOk mo → Q (.ptr a) (up M a mo)
abbrev sp__law_draw : DSp := fun ds M Q _ => ∃ (a : Addr) (n : Int) (mo : MO), ds = [.ptr a, .int n] ∧ 1 ≤ n ∧ n < 2 ^ 200 ∧ M a = some mo ∧ BoxOk mo ∧ ∀ r mo', 0 ≤ r → r < n → BoxOk mo' → Q (.int r) (up M a mo')
abbrev sp__law_any : DSp := fun ds M Q _ => ∃ (a : Addr) (xs : List D) (mo : MO), ds = [.ptr a, .lst xs] ∧ 1 ≤ xs.length ∧ xs.length ≤ 1000000 ∧ M a = some mo ∧ BoxOk mo ∧ ∀ d mo', d ∈ xs → BoxOk mo' → Q d (up M a mo')
abbrev sp_opposite : DSp := fun ds M Q _ => ∃ l : List Nat, ds = [.str (T l)] ∧ (∀ x ∈ l, x < 128) ∧ l.length ≤ 10000 ∧ Q (.str (T (l.reverse.map swC))) M
def abm : List Nat := [97, 98, 109, 116, 120, 121, 122]
def Lets (l : List Nat) : Prop := l.Nodup ∧ ∀ c ∈ l, c ∈ abm
theorem Lets.isLo {l : List Nat} (h : Lets l) : ∀ c ∈ l, isLo c = true := fun c hc => by
  have : ∀ c ∈ abm, PRE.isLo c = true := by decide
  exact this c (h.2 c hc)
/-- a letter and its opposite, one behind the other -/
def sgn (l : List Nat) : List Nat := l.flatMap fun c => [c, c - 32]
abbrev sp__law_letters : DSp := fun ds M Q _ => ∃ (a : Addr) (n : Nat) (mo : MO), ds = [.ptr a, .int n] ∧ n ≤ 7 ∧ M a = some mo ∧ BoxOk mo ∧ ∀ l mo', Lets l → l.length = n → BoxOk mo' → Q (.str (T l)) (up M a mo')
abbrev sp__law_signs : DSp := fun ds M Q _ => ∃ l : List Nat, ds = [.str (T l)] ∧ (∀ c ∈ l, isLo c = true) ∧ l.length ≤ 100 ∧ Q (.str (T (sgn l))) M
abbrev sp__law_some_word : DSp := fun ds M Q _ => ∃ (a : Addr) (l : List Nat) (m : Nat) (mo : MO), ds = [.ptr a, .str (T l), .int m] ∧ (∀ c ∈ l, isLo c = true) ∧ 1 ≤ l.length ∧ l.length ≤ 100 ∧ m ≤ 10000 ∧ M a = some mo ∧ BoxOk mo ∧ ∀ w mo', w.length ≤ m → (∀ c ∈ w, c ∈ sgn l) → BoxOk mo' → Q (.str (T w)) (up M a mo')
def t_swapped : DTS :=
  (dRet (dIf (dTB (dOp (rInD false) (dVar 0) (dC (.str "abcdefghijklmnopqrstuvwxyz")))) (dBM0 "str" rUpper (dVar 0)) (dBM0 "str" rLower (dVar 0))))
def t_opposite : DTS :=
  (dRet (dBM "str" rJoin (dC (.str "")) (dCons (dLc (dIterS (dRev (dVar 0))) (dgName 1) dYes (dCall sp_swapped (dCons (dVar 1) dNil)) [1]) dNil)))
def t__law_begin : DTS :=
  (dSeq (dAsg (dLc (dIter (dSl (dVar 0) (fun _ M Q => Q none M) (dPart (dC (.int 63))))) (dgName 3) dYes (dCB rInt (dCons (dVar 3) dNil)) [3]) (dgName 1))
  (dSeq (dAsg (dOp rAdd (dC (.int 3830)) (dOp rMulX (dC (.int 71)) (dCB rLen (dCons (dVar 1) dNil)))) (dgName 2))
  (dSeq (dFor (dIter (dVar 1)) (dgName 3) (dAsg (dOp rMod (dOp rAdd (dOp rAdd (dOp rMulX (dVar 2) (dC (.int 45061))) (dOp rMod (dCB rInt (dCons (dVar 3) dNil)) (dC (.int 2147483579)))) (dC (.int 31))) (dC (.int 2147483647))) (dgName 2)))
  (dRet (dLstM (dCons (dVar 1) (dCons (dC (.int 0)) (dCons (dC (.int 0)) (dCons (dVar 2) dNil)))))))))
def t__law_draw : DTS :=
  (dSeq (dIfS (dAnd (dTB (dOp (rEqW false) (dOp rIxD (dVar 0) (dC (.int 2))) (dC (.int 0)))) (dTB (dOp rLt (dOp rIxD (dVar 0) (dC (.int 1))) (dCB rLen (dCons (dOp rIxD (dVar 0) (dC (.int 0))) dNil))))) (dSeq (dAsg (dOp rIxD (dOp rIxD (dVar 0) (dC (.int 0))) (dOp rIxD (dVar 0) (dC (.int 1)))) (dgName 2))
  (dSeq (dAsg (dOp rAdd (dOp rIxD (dVar 0) (dC (.int 1))) (dC (.int 1))) (dgSub (dVar 0) (dC (.int 1))))
  (dIfS (dTB (dOp rGe (dVar 2) (dOp rPow (dC (.int 10)) (dC (.int 18))))) (dAsg (dVar 2) (dgSub (dVar 0) (dC (.int 2)))) (dAsg (dOp rMod (dOp rAdd (dOp rAdd (dOp rMulX (dOp rIxD (dVar 0) (dC (.int 3))) (dC (.int 40009))) (dOp rMulX (dOp rMod (dCB rInt (dCons (dVar 2) dNil)) (dC (.int 2147483587))) (dC (.int 7919)))) (dC (.int 13))) (dC (.int 2147483647))) (dgSub (dVar 0) (dC (.int 3))))))) dNext)
  (dSeq (dIfS (dTB (dOp rGt (dOp rIxD (dVar 0) (dC (.int 2))) (dC (.int 0)))) (dSeq (dAsg (dOp rMod (dCB rInt (dCons (dOp rIxD (dVar 0) (dC (.int 2))) dNil)) (dVar 1)) (dgName 3))
  (dSeq (dAsg (dOp rFdiv (dOp rIxD (dVar 0) (dC (.int 2))) (dVar 1)) (dgSub (dVar 0) (dC (.int 2))))
  (dRet (dVar 3)))) dNext)
  (dSeq (dAsg (dOp rIxD (dVar 0) (dC (.int 3))) (dgName 4))
  (dSeq (dAsg (dOp rMod (dOp rAdd (dOp rAdd (dOp rMulX (dVar 4) (dVar 4)) (dOp rMulX (dVar 4) (dC (.int 61001)))) (dC (.int 911))) (dC (.int 2147483647))) (dgSub (dVar 0) (dC (.int 3))))
  (dRet (dOp rMod (dOp rAdd (dOp rFdiv (dOp rIxD (dVar 0) (dC (.int 3))) (dC (.int 89))) (dOp rMulX (dOp rMod (dCB rInt (dCons (dOp rIxD (dVar 0) (dC (.int 3))) dNil)) (dC (.int 7907))) (dC (.int 59)))) (dVar 1)))))))
def t__law_any : DTS :=
  (dRet (dOp rIxD (dVar 1) (dCall sp__law_draw (dCons (dVar 0) (dCons (dCB rLen (dCons (dVar 1) dNil)) dNil)))))
def t__law_letters : DTS :=
  (dSeq (dAsg (dC (.str "")) (dgName 2))
  (dSeq (dFor (dRng1 (dCons (dVar 1) dNil)) (dgName 3) (dSeq (dAsg (dLc (dIterS (dC (.str "abmtxyz"))) (dgName 5) (dTB (dOp (rInD true) (dVar 5) (dVar 2))) (dVar 5) [5]) (dgName 4))
  (dAsg (dOp rAdd (dVar 2) (dCall sp__law_any (dCons (dVar 0) (dCons (dVar 4) dNil)))) (dgName 2))))
  (dRet (dVar 2))))
def t__law_signs : DTS :=
  (dRet (dBM "str" rJoin (dC (.str "")) (dCons (dLc (dIterS (dVar 0)) (dgName 1) dYes (dOp rAdd (dVar 1) (dBM0 "str" rUpper (dVar 1))) [1]) dNil)))
def t__law_some_word : DTS :=
  (dSeq (dAsg (dCall sp__law_signs (dCons (dVar 1) dNil)) (dgName 3))
  (dRet (dBM "str" rJoin (dC (.str "")) (dCons (dLc (dRng1 (dCons (dCall sp__law_draw (dCons (dVar 0) (dCons (dOp rAdd (dVar 2) (dC (.int 1))) dNil))) dNil)) (dgName 4) dYes (dCall sp__law_any (dCons (dVar 0) (dCons (dCB rToListA (dCons (dVar 3) dNil)) dNil))) [4]) dNil))))
def t__law_same (r__law_same : DSp) : DTS :=
  (dSeq (dIfS (dTru (dIsi2 "list" "tuple" (dVar 1))) (dSeq (dIfS (dOr (dTB (dOp (rEqW true) (dIsi "list" (dVar 0)) (dIsi "list" (dVar 1)))) (dTB (dOp (rEqW true) (dIsi "tuple" (dVar 0)) (dIsi "tuple" (dVar 1))))) (dRet (dC (.bl false))) dNext)
  (dRet (dAndV (dOp (rEqW false) (dCB rLen (dCons (dVar 0) dNil)) (dCB rLen (dCons (dVar 1) dNil))) (dCB rAll (dCons (dLc (dRng1 (dCons (dCB rLen (dCons (dVar 1) dNil)) dNil)) (dgName 2) dYes (dCall r__law_same (dCons (dOp rIxD (dVar 0) (dVar 2)) (dCons (dOp rIxD (dVar 1) (dVar 2)) dNil))) [2]) dNil))))) dNext)
  (dSeq (dIfS (dOr (dTB (dIsN false (dVar 1))) (dTB (dIsN false (dVar 0)))) (dRet (dAndV (dIsN false (dVar 0)) (dIsN false (dVar 1)))) dNext)
  (dSeq (dIfS (dOr (dTB (dOp (rEqW true) (dIsi "bool" (dVar 1)) (dIsi "bool" (dVar 0)))) (dTB (dOp (rEqW true) (dIsi "int" (dVar 1)) (dIsi "int" (dVar 0))))) (dRet (dC (.bl false))) dNext)
  (dRet (dAndV (dOp (rEqW false) (dIsi "str" (dVar 1)) (dIsi "str" (dVar 0))) (dOp (rEqW false) (dVar 0) (dVar 1)))))))
theorem rd_swapped {K : PySem.W.Frag} : ∀ ds M Q E0, sp_swapped ds M Q E0 → t_swapped (bodyE K Q) (startD ["character"] ds) M := by
  rintro ds M Q E0 ⟨c, rfl, hc, q⟩
  unfold t_swapped
  walk_at "dl"
  rw [lower_in, lo1 hc, up1 hc]
  refine ite2 (fun e => ⟨len1 c, Fin.same ?_⟩) (fun e => ⟨len1 c, Fin.same ?_⟩)
  · rw [show upC c = swC c by simp [swC, e]]; exact q
  · rw [show loC c = swC c by simp [swC, e]]; exact q
theorem fmod_pos {a b : Int} (h : 0 < b) : 0 ≤ a.fmod b ∧ a.fmod b < b := by
  rw [Int.fmod_eq_emod_of_nonneg a (by omega)]
  exact ⟨Int.emod_nonneg a (by omega), Int.emod_lt_of_pos a h⟩
theorem cmulS {i j : Int} (h : -(2 ^ 64) < i ∧ i < 2 ^ 64) : CMulA i j := .inl (.inl h)
theorem cmulR {i j : Int} (h : -(2 ^ 64) < j ∧ j < 2 ^ 64) : CMulA i j := .inl (.inr h)
theorem cdiv {i j : Int} (h : 0 < j) (h2 : j < 2 ^ 200) : CDivA i j := .inr (wide_div (b := 200) h (by omega) (by decide) (by decide))
theorem rd__law_begin {K : PySem.W.Frag} : ∀ ds M Q E0, sp__law_begin ds M Q E0 → t__law_begin (bodyE K Q) (startD ["_law_script", "_law_marks", "_law_seed", "_law_cell"] ds) M := by
  rintro ds M Q E0 ⟨ms, rfl, hz, q⟩
  unfold t__law_begin
  walk_at "dl"
  have cut : DL.cutD (ms.map D.int) none (some 63) = ms.map D.int := by
    unfold DL.cutD
    rw [HT.sIx_none, show HT.sIx (ms.map D.int).length (ms.map D.int).length (some 63) = min 63 (ms.map D.int).length from HT.sIx_nat _ _ 63]
    rw [List.drop_zero, List.take_of_length_le (by rw [List.length_map]; omega)]
  refine lc_m (M1 := M) (kp := fun _ => True) ms D.int D.int (fun R h => ?_) True.intro (line (by omega)) (fun c hc R h => ?_) ?_
  · walk_at "dl"
    rw [cut]
    exact h
  · walk_at "dl"
    exact h
  · walk_at "dl"
    refine ⟨cmulS (by decide), ?_⟩
    refine for_pre (M1 := M) (kp := fun _ => True) ms D.int (fun _ env M' => M' = M ∧ ∃ (s : Int) (d : Option D), 0 ≤ s ∧ s < 2147483647 ∧ env = [some (.lsx (ms.map D.int)), some (.lst (ms.map D.int)), some (.int s), d]) (fun R h => ?_) ?_ (fun _ _ _ _ => True.intro) ?_ ?_
    · walk_at "dl"
      exact h
    · refine ⟨rfl, _, _, ?_, ?_, rfl⟩ <;> simp only [List.length_map] <;> omega
    · rintro pre x post env M' e ⟨rfl, s, d, h0, h1, rfl⟩
      walk_at "dl"
      refine ⟨cmulS (by omega), by decide, by decide, _, _, ?_, ?_, rfl⟩
      · exact (fmod_pos (by decide)).1
      · exact (fmod_pos (a := s * 45061 + x.fmod 2147483579 + 31) (b := 2147483647) (by decide)).2
    · rintro env M' ⟨rfl, s, d, h0, h1, rfl⟩
      walk_at "dl"
      exact ⟨line (by decide), fun p hp => Fin.same (q p _ hp ⟨ms, 0, 0, s, rfl, hz, by decide, by decide, h0, h1⟩)⟩
theorem atI4_0 {a b c d : D} : atI [a, b, c, d] 0 = some a := rfl
theorem atI4_1 {a b c d : D} : atI [a, b, c, d] 1 = some b := rfl
theorem atI4_2 {a b c d : D} : atI [a, b, c, d] 2 = some c := rfl
theorem atI4_3 {a b c d : D} : atI [a, b, c, d] 3 = some d := rfl
theorem set4_1 {a b c d e : D} : ([a, b, c, d] : List D).set 1 e = [a, e, c, d] := rfl
theorem set4_2 {a b c d e : D} : ([a, b, c, d] : List D).set 2 e = [a, b, e, d] := rfl
theorem set4_3 {a b c d e : D} : ([a, b, c, d] : List D).set 3 e = [a, b, c, e] := rfl
theorem draw_tail {K : PySem.W.Frag} {Q : DQ} {M : Mp} {a : Addr} {n : Int} {ms : List Int} (hn : 1 ≤ n) (hn2 : n < 2 ^ 200) (hz : ms.length ≤ 63)
    (q : ∀ (r : Int) (mo' : MO), 0 ≤ r → r < n → BoxOk mo' → Q (D.int r) (up M a mo')) {i g s c1 c2 c3 c4 c5 : Int} (hi : 0 ≤ i) (hg : 0 ≤ g) (h3 : 0 ≤ s) (h4 : s < 2147483647)
    (k3 : 0 < c3) (k3' : c3 < 2 ^ 200) (k4 : 0 < c4) (k4' : c4 < 2 ^ 60) :
    (if decide (0 < g) = true then
      n ≠ 0 ∧ CDivA g n ∧ DL.Fin K Q (D.int (g.fmod n)) (up M a (MO.lst [D.lst (List.map D.int ms), D.int i, D.int (g.fdiv n), D.int s]))
    else
      CMulA s s ∧ CMulA s c1 ∧ (2147483647 : Int) ≠ 0 ∧ CDivA ((s * s + s * c1 + c2).fmod 2147483647) c3 ∧ c4 ≠ 0 ∧
        CMulA (((s * s + s * c1 + c2).fmod 2147483647).fmod c4) c5 ∧ n ≠ 0 ∧
          DL.Fin K Q (D.int ((((s * s + s * c1 + c2).fmod 2147483647).fdiv c3 + ((s * s + s * c1 + c2).fmod 2147483647).fmod c4 * c5).fmod n))
            (up M a (MO.lst [D.lst (List.map D.int ms), D.int i, D.int g, D.int ((s * s + s * c1 + c2).fmod 2147483647)]))) := by
  refine ite2 (fun e => ?_) (fun _ => ?_)
  · have e' : 0 < g := of_decide_eq_true e
    refine ⟨by omega, cdiv (by omega) hn2, Fin.same (q _ _ (fmod_pos (by omega)).1 (fmod_pos (by omega)).2 ⟨ms, i, g.fdiv n, s, rfl, hz, hi, ?_, h3, h4⟩)⟩
    exact Int.fdiv_nonneg (by omega) (by omega)
  · have f := fmod_pos (a := s * s + s * c1 + c2) (b := 2147483647) (by decide)
    have f2 := fmod_pos (a := (s * s + s * c1 + c2).fmod 2147483647) (b := c4) k4
    exact ⟨cmulS (by omega), cmulS (by omega), by decide, cdiv k3 k3', by omega, cmulS (by omega), by omega,
      Fin.same (q _ _ (fmod_pos (by omega)).1 (fmod_pos (by omega)).2 ⟨ms, i, g, _, rfl, hz, hi, hg, f.1, f.2⟩)⟩
theorem cpow18 : CPow 10 18 := ⟨by decide, by decide, by decide⟩
theorem rd__law_draw {K : PySem.W.Frag} : ∀ ds M Q E0, sp__law_draw ds M Q E0 → t__law_draw (bodyE K Q) (startD ["_law_box", "_law_many", "_law_cell", "_law_digit", "_law_seed"] ds) M := by
  rintro ds M Q E0 ⟨a, n, mo, rfl, hn, hn2, hM, ⟨ms, i, g, s, rfl, hz, h1, h2, h3, h4⟩, q⟩
  unfold t__law_draw
  have k2 : ixN 4 2 = some 2 := rfl
  have k1 : ixN 4 1 = some 1 := rfl
  have k3 : ixN 4 3 = some 3 := rfl
  have b0 := @atI4_0
  have b1 := @atI4_1
  have b2 := @atI4_2
  have b3 := @atI4_3
  have c1 := @set4_1
  have c2 := @set4_2
  have c3 := @set4_3
  walk_at "dlh"
  refine ite2 (fun e => ?_) (fun e => ?_)
  · refine ite2 (fun e2 => ?_) (fun e2 => ?_)
    · obtain ⟨k, rfl⟩ : ∃ k : Nat, i = k := ⟨i.toNat, by omega⟩
      have e3 : k < ms.length := by have := of_decide_eq_true e2; rw [List.length_map] at this; omega
      refine ⟨.int ms[k], ?_, ?_⟩
      · exact atI_nat (by rw [List.getElem?_map, List.getElem?_eq_getElem e3]; rfl)
      · walk_at "dlh"
        refine ⟨cpow18, ite2 (fun e4 => ?_) (fun e4 => ?_)⟩
        · have e5 : (10 : Int) ^ 18 ≤ ms[k] := of_decide_eq_true e4
          exact draw_tail hn hn2 hz q (by omega) (by omega) h3 h4 (by decide) (by decide) (by decide) (by decide)
        · have f := fmod_pos (a := ms[k]) (b := 2147483587) (by decide)
          exact ⟨cmulS (by omega), by decide, cmulS (by omega), by decide, draw_tail hn hn2 hz q (by omega) h2 (fmod_pos (by decide)).1 (fmod_pos (by decide)).2 (by decide) (by decide) (by decide) (by decide)⟩
    · exact draw_tail hn hn2 hz q h1 h2 h3 h4 (by decide) (by decide) (by decide) (by decide)
  · exact draw_tail hn hn2 hz q h1 h2 h3 h4 (by decide) (by decide) (by decide) (by decide)
theorem rd__law_any {K : PySem.W.Frag} : ∀ ds M Q E0, sp__law_any ds M Q E0 → t__law_any (bodyE K Q) (startD ["_law_box", "_law_some"] ds) M := by
  rintro ds M Q E0 ⟨a, xs, mo, rfl, hn, hn2, hM, hb, q⟩
  unfold t__law_any
  walk_at "dlh"
  refine ⟨a, xs.length, mo, rfl, by omega, by omega, hM, hb, fun r mo' h0 h1 hb' => ?_⟩
  obtain ⟨k, rfl⟩ : ∃ k : Nat, r = k := ⟨r.toNat, by omega⟩
  have hk : k < xs.length := by omega
  walk_at "dlh"
  exact ⟨xs[k], atI_nat (List.getElem?_eq_getElem hk), Fin.same (q _ _ (List.getElem_mem hk) hb')⟩
end PRE
namespace PRE
open PySem PySem.Spec PyProof.Rows L2 DL
local macro_rules | `(tactic| walk_at "dl") => `(tactic| simp only [exists_eq', exists_eq, List.take_nil, List.take_succ_cons, List.take_zero, decide_false, decide_true, dFld_ap, dSetF_ap, dAugF_ap, dMeth_ap, dMake_ap, dProp_ap, insOf_p, insOf_o, dNever_ap, bodyE_rt, bodyE_nx, dVar_ap, dC_ap, dOp_ap, dTB_ap, dTru_ap, dAnd_ap, dOr_ap, dNot_ap, dNotV_ap, dAndV_ap, dOrV_ap, dIf_ap, dIsN_ap, dNext_ap, dSeq_ap, dBreak_ap, dCont_ap, dDrop_ap, dRet_ap, dRetN_ap, dIfS_ap, dgName_ap, dgNil_ap, dgCons_ap, dgTup_ap, dgSub_ap, dAsg_ap, dPar_ap, dAug_ap, dNil_ap, dCons_ap, dTup_ap, dLst_ap, dLstM_ap, dCB_ap, dBM_ap, dBM0_ap, dCall_ap, dCallK_ap, dRev_s, dSl_ap, dPart_ap, dUn_ap, dChain_ap, dIsi_ap, dIsi2_ap, dIter_ap, dIterT_ap, dIterS_ap, dRng1_ap, dRng2_ap, rMulX_ii, rMulX_si, dFmt_ap, fmtD_s, fmtD_i, dJoined_ap, dJs_nil, dJs_cons, jStep_s, dCallK_ap, dNil_ap, rAdd_ii, rAdd_ss, rAdd_tt, rAdd_ll, rSub_ii, rInt2_ii, rNeg_i, rOrd_ii, rOrd_ss, rIadd_ii, rIadd_ss, rEqW_ii, rEqW_ss, rEqW_bb, rIn_ss, rIxD_l, rIxD_x, rIxD_t, rIxD_s, rIxD_p, lstOf_p, lstOf_l, lstOf_x, rSlD_s, rSlD_t, rSlD_l, rSlD_x, rLen_s, rLen_t, rLen_l, rLen_x, rLen_p, rAbs_i, rInt_i, rInt_b, rToListA_t, rToListA_l, rToListA_s, rToListM_t, rToListM_l, rToTup_t, rToTup_l, rToTup_p, rSum_ap, rAll_ap, rAny_ap, rStrN_i, rMax2_ii, rMin2_ii, rS0_ap, rS1_ap, tyD_s, tyD_p, tyD_l, rJoin_l, rJoin_p, rAppend_p, rPop_p, startD, wipeD, List.map_cons, List.map_nil, List.cons_append, List.nil_append, List.append_nil, List.length_cons, List.length_nil, List.getElem?_cons_zero, List.getElem?_cons_succ, List.set_cons_zero, List.set_cons_succ, List.replicate, Nat.reduceAdd, Nat.reduceSub, Nat.sub_zero, up_same, up_up, Bool.false_xor, Bool.true_xor, Bool.not_true, Bool.not_false, if_true, if_false, Bool.false_eq_true, and_true, true_and, ite_true, ite_false, reduceIte, reduceCtorEq, Option.some.injEq, exists_eq_left', exists_eq_left])
local macro_rules | `(tactic| walk_at "dlh") => `(tactic| simp only [exists_eq', exists_eq, List.take_nil, List.take_succ_cons, List.take_zero, decide_false, decide_true, dFld_ap, dSetF_ap, dAugF_ap, dMeth_ap, dMake_ap, dProp_ap, insOf_p, insOf_o, dNever_ap, bodyE_rt, bodyE_nx, dVar_ap, dC_ap, dOp_ap, dTB_ap, dTru_ap, dAnd_ap, dOr_ap, dNot_ap, dNotV_ap, dAndV_ap, dOrV_ap, dIf_ap, dIsN_ap, dNext_ap, dSeq_ap, dBreak_ap, dCont_ap, dDrop_ap, dRet_ap, dRetN_ap, dIfS_ap, dgName_ap, dgNil_ap, dgCons_ap, dgTup_ap, dgSub_ap, dAsg_ap, dPar_ap, dAug_ap, dNil_ap, dCons_ap, dTup_ap, dLst_ap, dLstM_ap, dCB_ap, dBM_ap, dBM0_ap, dCall_ap, dCallK_ap, dRev_s, dSl_ap, dPart_ap, dUn_ap, dChain_ap, dIsi_ap, dIsi2_ap, dIter_ap, dIterT_ap, dIterS_ap, dRng1_ap, dRng2_ap, rMulX_ii, rMulX_si, dFmt_ap, fmtD_s, fmtD_i, dJoined_ap, dJs_nil, dJs_cons, jStep_s, dCallK_ap, dNil_ap, rAdd_ii, rAdd_ss, rAdd_tt, rAdd_ll, rSub_ii, rInt2_ii, rNeg_i, rOrd_ii, rOrd_ss, rIadd_ii, rIadd_ss, rEqW_ii, rEqW_ss, rEqW_bb, rIn_ss, rIxD_l, rIxD_x, rIxD_t, rIxD_s, rIxD_p, lstOf_p, lstOf_l, lstOf_x, rSlD_s, rSlD_t, rSlD_l, rSlD_x, rLen_s, rLen_t, rLen_l, rLen_x, rLen_p, rAbs_i, rInt_i, rInt_b, rToListA_t, rToListA_l, rToListA_s, rToListM_t, rToListM_l, rToTup_t, rToTup_l, rToTup_p, rSum_ap, rAll_ap, rAny_ap, rStrN_i, rMax2_ii, rMin2_ii, rS0_ap, rS1_ap, tyD_s, tyD_p, tyD_l, rJoin_l, rJoin_p, rAppend_p, rPop_p, startD, wipeD, List.map_cons, List.map_nil, List.cons_append, List.nil_append, List.append_nil, List.length_cons, List.length_nil, List.getElem?_cons_zero, List.getElem?_cons_succ, List.set_cons_zero, List.set_cons_succ, List.replicate, Nat.reduceAdd, Nat.reduceSub, Nat.sub_zero, up_same, up_up, Bool.false_xor, Bool.true_xor, Bool.not_true, Bool.not_false, if_true, if_false, Bool.false_eq_true, and_true, true_and, ite_true, ite_false, reduceIte, reduceCtorEq, Option.some.injEq, exists_eq_left', exists_eq_left, *])
local macro_rules | `(tactic| walk_at "len") => `(tactic| (intro ds M Q E h; first | (obtain ⟨_, h1, _⟩ := h; subst h1; rfl) | (obtain ⟨_, _, h1, _⟩ := h; subst h1; rfl) | (obtain ⟨_, _, _, h1, _⟩ := h; subst h1; rfl) | (obtain ⟨_, _, _, _, h1, _⟩ := h; subst h1; rfl) | (obtain ⟨_, _, _, _, _, h1, _⟩ := h; subst h1; rfl) | (obtain ⟨_, _, _, _, _, _, h1, _⟩ := h; subst h1; rfl) | (obtain ⟨_, _, _, _, _, _, _, h1, _⟩ := h; subst h1; rfl) | (obtain ⟨_, _, _, _, _, _, _, _, h1, _⟩ := h; subst h1; rfl) | (obtain ⟨_, _, _, _, _, _, _, _, _, h1, _⟩ := h; subst h1; rfl)))
theorem strE : Str.ofString "" = T [] := by decide +kernel
theorem abmE : Str.ofString "abmtxyz" = T abm := by decide +kernel
theorem nodup_sub : ∀ (a b : List Nat), a.Nodup → a ⊆ b → a.length ≤ b.length
  | [], _, _, _ => Nat.zero_le _
  | x :: a, b, h, hs => by
    have hx := List.nodup_cons.mp h
    have := nodup_sub a (b.erase x) hx.2 fun y hy => (List.mem_erase_of_ne fun e => by subst e; exact hx.1 hy).mpr (hs (List.mem_cons_of_mem _ hy))
    have hb : x ∈ b := hs List.mem_cons_self
    rw [List.length_erase_of_mem hb] at this
    have := List.length_pos_of_mem hb
    simp only [List.length_cons]
    omega
theorem abm_left {l : List Nat} (h : Lets l) (hz : l.length < 7) : (abm.filter fun c => decide (c ∉ l)) ≠ [] := fun e => by
  have h2 : abm ⊆ l := fun c hc => by
    have := List.filter_eq_nil_iff.mp e c hc
    simpa using this
  have h3 : abm.Nodup := by decide
  have h4 := nodup_sub _ _ h3 h2
  simp only [abm, List.length_cons, List.length_nil] at h4
  omega
theorem rd__law_letters {K : PySem.W.Frag} : ∀ ds M Q E0, sp__law_letters ds M Q E0 → t__law_letters (bodyE K Q) (startD ["_law_box", "_law_many", "_law_found", "_law_k", "_law_left", "_law_letter"] ds) M := by
  rintro ds M Q E0 ⟨a, n, mo, rfl, hn, hM, hb, q⟩
  unfold t__law_letters
  walk_at "dlh"
  refine for_pre (M1 := M) (kp := fun _ => True) (List.range n) (fun i => D.int (0 + (i : Nat))) (fun pre env M' => ∃ l mo' d1 d2 d3, Lets l ∧ l.length = pre.length ∧ BoxOk mo' ∧ M' = up M a mo' ∧ env = [some (.ptr a), some (.int n), some (.str (T l)), d1, d2, d3]) (fun R h => ?_) ?_ (fun _ _ _ _ => True.intro) ?_ ?_
  · walk_at "dl"
    exact ⟨by omega, h⟩
  · exact ⟨[], mo, none, none, none, ⟨List.nodup_nil, fun _ h => absurd h List.not_mem_nil⟩, rfl, hb, (up_id hM).symm, by rw [strE]⟩
  · rintro pre x post env M' e ⟨l, mo', d1, d2, d3, hl, hz, hb', rfl, rfl⟩
    have hz7 : l.length < 7 := by
      have := congrArg List.length e
      simp only [List.length_range, List.length_append, List.length_cons] at this
      omega
    walk_at "dl"
    refine lc_fm (M1 := up M a mo') (kp := fun _ => True) abm (fun c => D.str ⟨#[c]⟩) (fun c => D.str ⟨#[c]⟩) (fun c => decide (c ∉ l)) (fun R h => ?_) True.intro (line (by decide)) (fun c hc R S h1 h2 => ?_) ?_
    · walk_at "dl"
      rw [abmE, sgs_T]
      exact h
    · walk_at "dl"
      rw [strIn_sign, T_cps, ← decide_not]
      by_cases hcl : c ∉ l
      · rw [decide_eq_true hcl] at h1 ⊢; exact h1 rfl
      · rw [decide_eq_false hcl] at h2 ⊢; exact h2 rfl
    · refine ⟨a, _, mo', rfl, ?_, ?_, up_same, hb', fun d mo2 hd hb2 => ?_⟩
      · rw [List.length_map]; exact List.length_pos_iff.mpr (abm_left hl hz7)
      · rw [List.length_map]; exact Nat.le_trans (List.length_filter_le _ _) (by decide)
      · obtain ⟨c, hc, rfl⟩ := List.mem_map.mp hd
        obtain ⟨hc1, hc2⟩ := List.mem_filter.mp hc
        have hc3 : c ∉ l := of_decide_eq_true hc2
        walk_at "dl"
        rw [T_one, T_app]
        refine ⟨by rw [T_len, T_len]; exact line (by simp only [List.length_cons, List.length_nil]; omega), l ++ [c], mo2, _, _, _, ⟨?_, ?_⟩, ?_, hb2, rfl, rfl⟩
        · exact List.nodup_append.mpr ⟨hl.1, by simp, fun x hx y hy => by rw [List.mem_singleton] at hy; subst hy; rintro rfl; exact hc3 hx⟩
        · intro x hx
          rcases List.mem_append.mp hx with hx | hx
          · exact hl.2 x hx
          · rw [List.mem_singleton] at hx; subst hx; exact hc1
        · simp [hz]
  · rintro env M' ⟨l, mo', d1, d2, d3, hl, hz, hb', rfl, rfl⟩
    walk_at "dl"
    exact Fin.same (q l mo' hl (by rw [hz, List.length_range]) hb')
theorem isLo_lt {c : Nat} (h : isLo c = true) : 97 ≤ c ∧ c ≤ 122 := of_decide_eq_true h
theorem up_lo {c : Nat} (h : isLo c = true) : Txt.upper ⟨#[c]⟩ = ⟨#[c - 32]⟩ := by
  have := isLo_lt h
  rw [up1 (by omega)]
  simp [upC, this]
theorem sgn_len (l : List Nat) : (sgn l).length = 2 * l.length := by
  induction l with
  | nil => rfl
  | cons c r ih =>
    unfold sgn at ih ⊢
    rw [List.flatMap_cons, List.length_append, ih]
    simp only [List.length_cons, List.length_nil]; omega
theorem rd__law_signs {K : PySem.W.Frag} : ∀ ds M Q E0, sp__law_signs ds M Q E0 → t__law_signs (bodyE K Q) (startD ["_law_letters_here", "_law_letter"] ds) M := by
  rintro ds M Q E0 ⟨l, rfl, hl, hz, q⟩
  unfold t__law_signs
  walk_at "dlh"
  refine lc_m (M1 := M) (kp := fun _ => True) l (fun c => D.str ⟨#[c]⟩) (fun c => D.str (T [c, c - 32])) (fun R h => ?_) True.intro (line (by omega)) (fun c hc R h => ?_) ?_
  · walk_at "dl"
    rw [sgs_T]
    exact h
  · walk_at "dl"
    refine ⟨len1 c, ?_⟩
    rw [up_lo (hl c hc), T_one, T_one, T_app]
    exact ⟨by rw [T_len, T_len]; exact line (by simp only [List.length_cons, List.length_nil]; omega), h⟩
  · walk_at "dl"
    refine ⟨(l.map fun c => [c, c - 32]).map T, ?_, ?_, ?_⟩
    · rw [List.map_map, List.map_map]; rfl
    · rw [strE, T_len]
      have : (((l.map fun c => [c, c - 32]).map T).map fun x : Str => x.length).sum = 2 * l.length := by
        clear hl hz q
        induction l with
        | nil => rfl
        | cons c r ih => rw [List.map_cons, List.map_cons, List.map_cons, List.sum_cons, ih, List.length_cons, T_len]; simp only [List.length_cons, List.length_nil]; omega
      rw [this]; simp only [List.length_nil]; omega
    · rw [join_T]
      exact Fin.same q
theorem rd__law_some_word {K : PySem.W.Frag} : ∀ ds M Q E0, sp__law_some_word ds M Q E0 → t__law_some_word (bodyE K Q) (startD ["_law_box", "_law_letters_here", "_law_most", "_law_signs_here", "_law_k"] ds) M := by
  rintro ds M Q E0 ⟨a, l, m, mo, rfl, hl, h1, hz, hm, hM, hb, q⟩
  unfold t__law_some_word
  walk_at "dlh"
  refine ⟨l, rfl, hl, hz, ?_⟩
  dsimp only
  rw [dLc_un]
  walk_at "dl"
  refine ⟨a, _, mo, rfl, by omega, by omega, hM, hb, fun r mo' h0 hr hb' => ?_⟩
  obtain ⟨n, rfl⟩ : ∃ n : Nat, r = n := ⟨r.toNat, by omega⟩
  walk_at "dl"
  refine ⟨by omega, ?_⟩
  refine lcB_st (xs := List.range (n : Int).toNat) (fun i => D.int (0 + (i : Nat))) (fun pre acc M' => ∃ (ws : List Nat) (mo' : MO), acc = ws.map (fun c => D.str ⟨#[c]⟩) ∧ ws.length = pre.length ∧ ws.length ≤ m ∧ (∀ c ∈ ws, c ∈ sgn l) ∧ M' = up M a mo' ∧ BoxOk mo') ?_ (fun _ _ _ _ => True.intro) ?_ ?_ ?_
  · exact ⟨[], mo', rfl, rfl, Nat.zero_le _, fun _ h => absurd h List.not_mem_nil, rfl, hb'⟩
  · rintro pre acc M' ⟨ws, mo2, rfl, _, h, _⟩
    rw [List.length_map]; exact lineT (by omega)
  · rintro pre x post acc M' e ⟨ws, mo2, rfl, hw, hwm, hw2, rfl, hb2⟩ R hR
    have hpre : pre.length < n := by
      have := congrArg List.length e
      simp only [List.length_range, List.length_append, List.length_cons] at this
      omega
    walk_at "dl"
    refine ⟨by rw [T_len, sgn_len]; exact line (by omega), a, _, mo2, rfl, ?_, ?_, up_same, hb2, fun d mo3 hd hb3 => ?_⟩
    · rw [sgs_T, List.length_map, sgn_len]; omega
    · rw [sgs_T, List.length_map, sgn_len]; omega
    · rw [sgs_T] at hd
      obtain ⟨c, hc, rfl⟩ := List.mem_map.mp hd
      refine hR _ _ ⟨ws ++ [c], mo3, by simp, by simp [hw], by simp only [List.length_append, List.length_cons, List.length_nil]; omega, ?_, up_up, hb3⟩
      intro x hx
      rcases List.mem_append.mp hx with hx | hx
      · exact hw2 x hx
      · rw [List.mem_singleton] at hx; subst hx; exact hc
  · rintro acc M' ⟨ws, mo2, rfl, hw, hwm, hw2, rfl, hb2⟩
    walk_at "dl"
    refine ⟨ws.map fun c => ⟨#[c]⟩, by rw [List.map_map]; rfl, ?_, ?_⟩
    · rw [one_sum, strE, T_len, List.length_nil]; omega
    · rw [join_signs]
      exact Fin.same (q ws mo2 hwm hw2 hb2)
abbrev sp__law_same (n : Nat) : DSp := fun ds M Q _ => ∃ x, ds = [x, x] ∧ Pl n x = true ∧ Q (.bl true) M
abbrev spNo : DSp := fun _ _ _ _ => False
abbrev sp_sameB : Nat → DSp
  | 0 => spNo
  | n + 1 => sp__law_same n
theorem rd__law_same {K : PySem.W.Frag} (n : Nat) : ∀ ds M Q E0, sp__law_same n ds M Q E0 → t__law_same (sp_sameB n) (bodyE K Q) (startD ["_law_found", "_law_due", "_law_k"] ds) M := by
  rintro ds M Q E0 ⟨x, rfl, hp, q⟩
  unfold t__law_same
  have seq : ∀ (n : Nat) (xs : List D) (T : String) (x : D), xs.all (Pl n) = true → xs.length ≤ 1000000 → (∀ (M : Mp) (Q : DQ), rLen [x] M Q = Q (.int xs.length) M) → (∀ (i : Int) (M : Mp) (Q : DQ), rIxD x (.int i) M Q = ∃ d, atI xs i = some d ∧ Q d M) → Q (.bl true) M →
      (if ((xs.length : Int) == (xs.length : Int)) = true then dLc (dRng1 (dCons (dCB rLen (dCons (dVar 1) dNil)) dNil)) (dgName 2) dYes (dCall (sp__law_same n) (dCons (dOp rIxD (dVar 0) (dVar 2)) (dCons (dOp rIxD (dVar 1) (dVar 2)) dNil))) [2] [some x, some x, none] M fun x M1 =>
        ∃ ns, lstOf M1 x = some (List.map D.bl ns) ∧ DL.Fin K Q (D.bl (ns.all id)) M1 else DL.Fin K Q (D.bl false) M) := by
    intro n xs T x hx hz hl hi q
    rw [show (((xs.length : Int)) == (xs.length : Int)) = true from by simp]
    rw [if_pos rfl]
    rw [dLc_un]
    walk_at "dlh"
    refine ⟨by omega, ?_⟩
    refine lcB_m (xs := List.range (xs.length : Int).toNat) (fun i => D.int (0 + (i : Nat))) (fun _ => D.bl true) True.intro (line (by rw [List.length_range]; omega)) (fun i hi2 R h => ?_) ?_
    · have hi3 : i < xs.length := by have := List.mem_range.mp hi2; omega
      walk_at "dlh"
      refine ⟨xs[i], ?_, xs[i], ?_, xs[i], rfl, ?_, h⟩
      · rw [show (0 + (i : Int)) = (i : Int) by omega]; exact atI_nat (List.getElem?_eq_getElem hi3)
      · rw [show (0 + (i : Int)) = (i : Int) by omega]; exact atI_nat (List.getElem?_eq_getElem hi3)
      · exact List.all_eq_true.mp hx _ (List.getElem_mem hi3)
    · refine ⟨(List.range (xs.length : Int).toNat).map fun _ => true, by rw [lstOf_l, List.map_map]; rfl, ?_⟩
      rw [show ((List.range (xs.length : Int).toNat).map fun _ => true).all id = true by simp]
      exact Fin.same q
  cases x with
  | lst xs =>
    cases n with
    | zero => cases hp
    | succ n =>
      rw [Pl, Bool.and_eq_true, decide_eq_true_eq] at hp
      have := seq n xs "list" (.lst xs) hp.1 hp.2 (fun _ _ => rfl) (fun _ _ _ => rfl) q
      walk_at "dl"
      simp only [tyN]
      rw [if_pos (by decide), if_neg (by decide), if_neg (by decide)]
      exact this
  | tup xs =>
    cases n with
    | zero => cases hp
    | succ n =>
      rw [Pl, Bool.and_eq_true, decide_eq_true_eq] at hp
      have := seq n xs "tuple" (.tup xs) hp.1 hp.2 (fun _ _ => rfl) (fun _ _ _ => rfl) q
      walk_at "dl"
      simp only [tyN]
      rw [if_pos (by decide), if_neg (by decide), if_neg (by decide)]
      exact this
  | non => walk_at "dl"; simp only [tyN]; exact Fin.same q
  | bl k =>
    walk_at "dl"; simp only [tyN]
    rw [if_neg (by decide), if_neg (by exact Bool.false_ne_true), if_neg (by exact Bool.false_ne_true), if_neg (by decide), if_neg (by decide), if_pos (by decide), show (k == k) = true from by simp]
    exact Fin.same q
  | int k =>
    walk_at "dl"; simp only [tyN]
    rw [if_neg (by decide), if_neg (by exact Bool.false_ne_true), if_neg (by exact Bool.false_ne_true), if_neg (by decide), if_neg (by decide), if_pos (by decide), show (k == k) = true from by simp]
    exact Fin.same q
  | str k =>
    walk_at "dl"; simp only [tyN]
    rw [if_neg (by decide), if_neg (by exact Bool.false_ne_true), if_neg (by exact Bool.false_ne_true), if_neg (by decide), if_neg (by decide), if_pos (by decide), show (k == k) = true from by simp]
    exact Fin.same q
  | _ => cases n <;> cases hp
theorem swC_lt {c : Nat} (h : c < 128) : swC c < 128 := by
  have : ∀ c < 128, swC c < 128 := by decide +kernel
  exact this c h
theorem rd_opposite {K : PySem.W.Frag} : ∀ ds M Q E0, sp_opposite ds M Q E0 → t_opposite (bodyE K Q) (startD ["word", "character"] ds) M := by
  rintro ds M Q E0 ⟨l, rfl, hl, hz, q⟩
  unfold t_opposite
  walk_at "dl"
  rw [dLc_un]
  walk_at "dl"
  rw [T_len, srev_T, sgs_T]
  refine ⟨line (by omega), ?_⟩
  refine lcB_m (xs := l.reverse) (fun c => D.str ⟨#[c]⟩) (fun c => D.str ⟨#[swC c]⟩) True.intro (line (by rw [List.length_reverse]; omega)) (fun c hc R h => ?_) ?_
  · walk_at "dl"
    exact ⟨c, rfl, hl c (List.mem_reverse.mp hc), h⟩
  · walk_at "dl"
    refine ⟨(l.reverse.map swC).map fun c => ⟨#[c]⟩, by rw [List.map_map, List.map_map]; rfl, ?_, ?_⟩
    · rw [one_sum, strE, T_len, List.length_nil, List.length_map, List.length_reverse]; omega
    · rw [join_signs]
      exact Fin.same q
end PRE
namespace K02
open PySem PySem.Spec PyProof.Rows L2 DL PRE LamN
structure Ks where
  InvalidWord : Addr
  T_law : Addr
abbrev Asc (w : List Nat) : Prop := ∀ x ∈ w, x < 128
def isW (w l : List Nat) : Bool := w.all fun c => decide (loC c ∈ l) && isLo (loC c)
def firstBad (ws : List (List Nat)) (l : List Nat) : Option Nat := ws.findIdx? fun w => !isW w l
/-- the characters in their order -/
def chs (l : List Nat) : List Nat := l.flatMap fun c => [c, swC c]
def chars (l : List Nat) : List D := l.flatMap fun c => [D.str ⟨#[c]⟩, D.str ⟨#[swC c]⟩]
def keyD (w l : List Nat) : D := .tup [.int (w.length : Nat), .lst (w.map fun c => D.int ((chs l).idxOf c : Nat))]
def ltK (u v l : List Nat) : Bool := PySem.W.dataLt (keyD u l).py (keyD v l).py
/-! ### the promises -/
abbrev sp_is_word (_ : Ks) : DSp := fun ds M Q _ => ∃ w l : List Nat, ds = [.str (T w), .str (T l)] ∧ Asc w ∧ w.length ≤ 10000 ∧ Q (.bl (isW w l)) M
abbrev sp_check_words (c : Ks) : DSp := fun ds M Q E => ∃ (l : List Nat) (ws : List (List Nat)), ds = [.str (T l), .tup (ws.map fun w => D.str (T w))] ∧ (∀ w ∈ ws, Asc w ∧ w.length ≤ 10000) ∧ ws.length ≤ 5 ∧
  (firstBad ws l = none → Q .non M) ∧ ∀ k, firstBad ws l = some k → E (.ref c.InvalidWord) [("at", .int (k : Nat)), ("tag", .str "InvalidWord")] M
abbrev sp_characters (_ : Ks) : DSp := fun ds M Q _ => ∃ l : List Nat, ds = [.str (T l)] ∧ Asc l ∧ l.length ≤ 100 ∧ Q (.lst (chars l)) M
abbrev sp_rank (_ : Ks) : DSp := fun ds M Q _ => ∃ w l : List Nat, ds = [.str (T w), .str (T l)] ∧ Asc w ∧ Asc l ∧ w.length ≤ 10000 ∧ l.length ≤ 100 ∧ (∀ x ∈ w, x ∈ chs l) ∧ Q (keyD w l) M
abbrev sp_precedes (c : Ks) : DSp := fun ds M Q E => ∃ u v l : List Nat, ds = [.str (T u), .str (T v), .str (T l)] ∧ Asc u ∧ Asc v ∧ (∀ x ∈ l, isLo x = true) ∧ u.length ≤ 9000 ∧ v.length ≤ 9000 ∧ l.length ≤ 100 ∧
  (firstBad [u, v] l = none → Q (.bl (ltK u v l)) M) ∧ ∀ k, firstBad [u, v] l = some k → E (.ref c.InvalidWord) [("at", .int (k : Nat)), ("tag", .str "InvalidWord")] M
def qL : Str := Str.ofString "law" ++ ".<locals>." ++ "<lambda>"
abbrev sp_law (c : Ks) : DSp := spLawT [(c.T_law, qL)]
def topS (i : Nat) : Stmt := PySem.Challenge.pw_roundswap_k02_order_of_words.main.body.getD i (.Pass ⟨0, 0, 0, 0⟩)
structure Cn (mg : Str → Option Value) : Prop where
  LOWER : ∃ u, mg "LOWER" = some u ∧ RelV (.str "abcdefghijklmnopqrstuvwxyz") u
/-! ### InvalidWord -/
abbrev s_InvalidWord___init__ : Stmt := inClass (topS 4) 0
theorem sc_InvalidWord___init__ : SupScope ["self", "at"] ["self", "at"] (defScope s_InvalidWord___init__) := supSc rfl rfl rfl (by decide +kernel)
def X_InvalidWord : ExD := ⟨"InvalidWord", defArgs s_InvalidWord___init__, defBody s_InvalidWord___init__, defScope s_InvalidWord___init__, ["tag", "at"]⟩
def g_InvalidWord (us : List V) : List (Str × V) := match us with
  | [v1] => FV.fs [("tag", tC (.str "InvalidWord"), .str "InvalidWord"), ("at", tVar 1, v1)]
  | _ => []
theorem ok_InvalidWord {P : Program} {w : World} {K : PySem.W.Frag} {mg : Str → Option Value} {base : Heap} {fd : FuncData} (E : ExK P K mg X_InvalidWord fd) : FnOk P w K mg base CX0 1 (X_InvalidWord.f K) fd ["self", "at"] (spE (X_InvalidWord.C K) g_InvalidWord 1) := by
  obtain ⟨oc, od, osl, kV, doc, pm, ct, an, cda, cc, rfl, lk, hcd, T⟩ := E.ex
  refine fn_sup (k := 0) T lk hcd sc_InvalidWord___init__ rfl rfl (by decide +kernel) (by decide +kernel) ?_ ?_ (fun L => rfl) ?_
  · rintro vs H Q E' ⟨a, us, rfl, hl, _⟩
    rw [List.length_cons, hl]; rfl
  · rintro vs H Q E' ⟨a, us, rfl, hl, ha, _⟩
    exact ⟨a, us, rfl, ha⟩
  · rintro A outer s H vs Q E' hr ⟨a, us, rfl, hl, ha, q⟩
    obtain ⟨v1, rfl⟩ : ∃ v1, us = [v1] := by
      match us, hl with
      | [v1], _ => exact ⟨v1, rfl⟩
    refine ⟨tFields K (FV.st [("tag", tC (.str "InvalidWord"), .str "InvalidWord"), ("at", tVar 1, v1)]), pss_cons (ps_ost (pv 0) pe_str) (pss_cons (ps_ost (pv 0) (pv 1)) (pss_nil)), ?_⟩
    refine ost_all E.ox rfl _ _ _ _ ?_ (by simp) ha fun d H2 h1 h2 h3 h4 h5 => q d H2 h1 h2 h3 h4 h5
    intro y hy
    rcases List.mem_cons.mp hy with rfl | hy
    · exact ⟨E.no _ (by simp [X_InvalidWord]), fun H Q q => q⟩
    rcases List.mem_cons.mp hy with rfl | hy
    · exact ⟨E.no _ (by simp [X_InvalidWord]), fun H Q q => ⟨_, rfl, q⟩⟩
    exact absurd hy List.not_mem_nil
def gd_InvalidWord (ds : List D) : List (Str × D) := match ds with
  | [d1] => [("at", d1), ("tag", .str "InvalidWord")]
  | _ => []
theorem fs_InvalidWord : FsD g_InvalidWord gd_InvalidWord 1 := ⟨fun {K F ds vs} hl r => by
  match ds, hl, r with
  | [d1], _, r =>
    obtain ⟨v1, rfl, r1⟩ := reps1 r
    exact (repF_cons r1 (repF_cons (by rw [Rep]) repF_nil))⟩
theorem ce_InvalidWord {P : Program} {w : World} {K : PySem.W.Frag} {mg : Str → Option Value} {base : Heap} {fd : FuncData} (E : ExK P K mg X_InvalidWord fd) : CalE P w K mg base 2 "InvalidWord" (X_InvalidWord.C K) g_InvalidWord gd_InvalidWord 1 := by
  refine mk_spE E.ox E.ini E.ty (ok_InvalidWord E) ?_ E.g (by decide) (by decide) fs_InvalidWord
  obtain ⟨oc, od, osl, kV, doc, pm, ct, an, cda, cc, rfl, lk, hcd, T⟩ := E.ex
  exact .all fun us hl => match us, hl with | [_, _], _ => rfl
abbrev cws (c : Ks) : List Addr := [c.InvalidWord]
abbrev s__law_field : Stmt := topS 18
theorem sc__law_field : FnScope ["_law_e"] ["_law_e"] (defScope s__law_field) := ⟨rfl, rfl, rfl, by decide +kernel, rfl, by decide +kernel, by decide +kernel⟩
abbrev s__law_why : Stmt := topS 19
theorem sc__law_why : FnScope ["_law_ask", "_law_e"] ["_law_ask"] (defScope s__law_why) := ⟨rfl, rfl, rfl, by decide +kernel, rfl, by decide +kernel, by decide +kernel⟩
theorem dv__law_field {P : Program} {w : World} {K : PySem.W.Frag} {mg : Str → Option Value} {base : Heap} {f a C dd : Addr} {oe : Obj} {fs : List (Str × D)} (xc : XCls K C fieldNames) (hz : Zc (.ref C) (some dd) oe) (hf : ∃ vs, oe.data = .fields vs) {cdv : Value} {A : Around} {outer : List Env} {s : Shared} {H : Hp} {E : XK} {G : GI K} (T : Tells K G dd fs) (hr : L2H.RoomH 0 (A.deeper (envOfC "_law_field" (defScope s__law_field) s.heap.objs.size f cdv))) :
    @DSs (L2H.cxH CX0 P w K mg base ["_law_e"] "_law_field" (defScope s__law_field) f cdv A outer s H E (a, oe)) G (defBody s__law_field) (tField a fs) :=
  (dss_cons (ds_if (dt_cmp (o_in (uH hr)) l_in (de_xfP T xc hz hf List.mem_cons_self (by decide) (dv 0)) (de_tup (da_cons de_str (da_cons de_str (da_cons de_str (da_cons de_str (da_cons de_str (da_cons de_str da_nil))))))) (by rfl)) (dss_one (ds_ret de_non)) dss_nil)
    (dss_cons (ds_if (dt_cmp (o_in (uH hr)) l_in (de_xfP T xc hz hf List.mem_cons_self (by decide) (dv 0)) (de_tup (da_cons de_str (da_cons de_str da_nil))) (by rfl)) (dss_one (ds_ret (de_xfP T xc hz hf List.mem_cons_self (by decide) (dv 0)))) dss_nil)
    (dss_cons (ds_if (dt_cmp (o_in (uH hr)) l_in (de_xfP T xc hz hf List.mem_cons_self (by decide) (dv 0)) (de_tup (da_cons de_str (da_cons de_str (da_cons de_str da_nil)))) (by rfl)) (dss_one (ds_ret (de_xfP T xc hz hf List.mem_cons_self (by decide) (dv 0)))) dss_nil)
    (dss_cons (ds_if (dt_cmp (o_in (uH hr)) l_in (de_xfP T xc hz hf List.mem_cons_self (by decide) (dv 0)) (de_tup (da_cons de_str (da_cons de_str (da_cons de_str da_nil)))) (by rfl)) (dss_one (ds_ret (de_xfP T xc hz hf List.mem_cons_self (by decide) (dv 0)))) dss_nil)
    (dss_cons (ds_if (dt_cmp (o_in (uH hr)) l_in (de_xfP T xc hz hf List.mem_cons_self (by decide) (dv 0)) (de_tup (da_cons de_str (da_cons de_str da_nil))) (by rfl)) (dss_one (ds_ret (de_xfP T xc hz hf List.mem_cons_self (by decide) (dv 0)))) dss_nil)
    (dss_cons (ds_if (dt_cmp (o_eq (uH4 hr)) l_eq (de_xfP T xc hz hf List.mem_cons_self (by decide) (dv 0)) de_str (nomark _)) (dss_one (ds_ret (de_xfP T xc hz hf List.mem_cons_self (by decide) (dv 0)))) dss_nil)
    (dss_one (ds_ret (de_if (dt_cmp (o_eq (uH4 hr)) l_eq (de_xfP T xc hz hf List.mem_cons_self (by decide) (dv 0)) de_str (nomark _)) (de_xfP T xc hz hf List.mem_cons_self (by decide) (dv 0)) (de_xfP T xc hz hf List.mem_cons_self (by decide) (dv 0)))))))))))
/-! ### swapped -/
abbrev s_swapped : Stmt := topS 7
theorem sc_swapped : FnScope ["character"] ["character"] (defScope s_swapped) := ⟨rfl, rfl, rfl, by decide +kernel, rfl, by decide +kernel, by decide +kernel⟩
theorem dv_swapped {P : Program} {w : World} {K : PySem.W.Frag} {mg : Str → Option Value} {base : Heap} {f : Addr} {cdv : Value} {A : Around} {outer : List Env} {s : Shared} {H : Hp} {E : XK} {G : GI K} (c : Ks) (B : NB mg) (T : Cn mg)
    (hr : Room 0 (A.deeper (envOfC "swapped" (defScope s_swapped) s.heap.objs.size f cdv))) : @DSs (cxOf CX0 P w K mg base ["character"] "swapped" (defScope s_swapped) f cdv A outer s H E).nox G (defBody s_swapped) (t_swapped) :=
  (dss_one (ds_ret (de_if (dt_cmp (o_in (uI hr)) l_in (dv 0) (de_globE T.LOWER (fun _ => by rw [Rep])) (by rfl)) (de_upper (dv 0)) (de_lower (dv 0)))))
theorem ok_swapped {P : Program} {w : World} {K : PySem.W.Frag} {mg : Str → Option Value} {base : Heap} {f : Addr} {fd : FuncData} (c : Ks) (B : NB mg) (T : Cn mg) {dvs : List V} {kws : List (Str × V)} (F : DL.FnD K "swapped" "swapped" s_swapped dvs kws f fd)
    {sp : DSp} (len : ∀ ds M Q E, sp ds M Q E → ds.length = 1) (h : ∀ ds M Q E0, sp ds M Q E0 → t_swapped (bodyE K Q) (startD ["character"] ds) M) : FnOk P w K mg base CX0 1 f fd ["character"] (lSp K sp) :=
  dfunD F sc_swapped len fun cdv A outer s H E hr => ⟨t_swapped, fun G => dv_swapped c B T hr, h⟩
/-! ### is_word -/
abbrev s_is_word : Stmt := topS 8
theorem sc_is_word : FnScope ["word", "letters", "character"] ["word", "letters"] (defScope s_is_word) := ⟨rfl, rfl, rfl, by decide +kernel, rfl, by decide +kernel, by decide +kernel⟩
def t_is_word (c : Ks) : DTS :=
  (dRet (dCB rAll (dCons (dLc (dIterS (dVar 0)) (dgName 2) dYes (dAndV (dOp (rInD false) (dBM0 "str" rLower (dVar 2)) (dVar 1)) (dOp (rInD false) (dBM0 "str" rLower (dVar 2)) (dC (.str "abcdefghijklmnopqrstuvwxyz")))) [2]) dNil)))
theorem dv_is_word {P : Program} {w : World} {K : PySem.W.Frag} {mg : Str → Option Value} {base : Heap} {f : Addr} {cdv : Value} {A : Around} {outer : List Env} {s : Shared} {H : Hp} {E : XK} {G : GI K} (c : Ks) (B : NB mg) (T : Cn mg)
    (hr : Room 0 (A.deeper (envOfC "is_word" (defScope s_is_word) s.heap.objs.size f cdv))) : @DSs (cxOf CX0 P w K mg base ["word", "letters", "character"] "is_word" (defScope s_is_word) f cdv A outer s H E).nox G (defBody s_is_word) (t_is_word c) :=
  (dss_one (ds_ret (de_all B.all (da_cons (de_lc (g := (gName 2)) sc_is_word.nd (di_str (dv 0)) (blkOk_by (own := [("character", 2)]) (N := ["word", "letters", "character"]) (sc := defScope s_is_word) (by decide +kernel)) (tg_name (i := 2) (by decide)) (fun _ _ _ _ _ => (pg_name (i := 2) sc_is_word.nd rfl (Or.inl rfl))) (fun _ _ _ _ _ => dts_nil) (fun _ _ _ _ _ => (de_and (de_cmp (o_in (uI hr)) l_in (de_lower (dv 2)) (dv 1) (by rfl)) (de_one (de_cmp (o_in (uI hr)) l_in (de_lower (dv 2)) (de_globE T.LOWER (fun _ => by rw [Rep])) (by rfl)))))) da_nil))))
theorem ok_is_word {P : Program} {w : World} {K : PySem.W.Frag} {mg : Str → Option Value} {base : Heap} {f : Addr} {fd : FuncData} (c : Ks) (B : NB mg) (T : Cn mg) {dvs : List V} {kws : List (Str × V)} (F : DL.FnD K "is_word" "is_word" s_is_word dvs kws f fd)
    {sp : DSp} (len : ∀ ds M Q E, sp ds M Q E → ds.length = 2) (h : ∀ ds M Q E0, sp ds M Q E0 → t_is_word c (bodyE K Q) (startD ["word", "letters", "character"] ds) M) : FnOk P w K mg base CX0 1 f fd ["word", "letters"] (lSp K sp) :=
  dfunD F sc_is_word len fun cdv A outer s H E hr => ⟨t_is_word c, fun G => dv_is_word c B T hr, h⟩
/-! ### check_words -/
abbrev s_check_words : Stmt := topS 9
theorem sc_check_words : FnScope ["letters", "words", "at", "word"] ["letters", "words"] (defScope s_check_words) := ⟨rfl, rfl, rfl, by decide +kernel, rfl, by decide +kernel, by decide +kernel⟩
def t_check_words (c : Ks) (E0 : DX) : DTS :=
  (dFor (dEnumT (dCons (dVar 1) dNil)) (dgTup 2 (dgCons (dgName 2) (dgCons (dgName 3) dgNil))) (dIfS (dNot (dTru (dCall (sp_is_word c) (dCons (dVar 3) (dCons (dVar 0) dNil))))) (dRaise E0 c.InvalidWord gd_InvalidWord 1 (dCons (dVar 2) dNil)) dNext))
theorem dv_check_words {P : Program} {w : World} {K : PySem.W.Frag} {mg : Str → Option Value} {base : Heap} {f : Addr} {cdv : Value} {A : Around} {outer : List Env} {s : Shared} {H : Hp} {E : XK} {G : GI K} (c : Ks) {E0 : DX} (B : NB mg) (T : Cn mg) {f_is_word : Addr} {d_is_word : FuncData} (C_is_word : Cal P w K mg base 1 "is_word" ["word", "letters"] (sp_is_word c) f_is_word d_is_word) (C_InvalidWord : CalE P w K mg base 2 "InvalidWord" c.InvalidWord g_InvalidWord gd_InvalidWord 1) (ws : @Wish K G E0 E)
    (hr : Room 2 (A.deeper (envOfC "check_words" (defScope s_check_words) s.heap.objs.size f cdv))) : @DSs (cxOf (L2.CX P w) P w K mg base ["letters", "words", "at", "word"] "check_words" (defScope s_check_words) f cdv A outer s H E) G (defBody s_check_words) (t_check_words c E0) :=
  (dss_one (ds_for (L2.passes_of rfl) rfl (di_enumT B.enumerate (da_cons (dv 1) da_nil)) (dg_tup rfl (dgs_cons (dg_name (i := 2) sc_check_words.nd) (dgs_cons (dg_name (i := 3) sc_check_words.nd) dgs_nil))) (dss_one (ds_if (dt_not (dt_tru (de_callC C_is_word (hr.mono (by omega)) (da_cons (dv 3) (da_cons (dv 0) da_nil))))) (dss_one (ds_raise C_InvalidWord ws (hr.mono (by omega)) (da_cons (dv 2) da_nil))) dss_nil))))
theorem ok_check_words {P : Program} {w : World} {K : PySem.W.Frag} {mg : Str → Option Value} {base : Heap} {f : Addr} {fd : FuncData} (c : Ks) (B : NB mg) (T : Cn mg) {f_is_word : Addr} {d_is_word : FuncData} (C_is_word : Cal P w K mg base 1 "is_word" ["word", "letters"] (sp_is_word c) f_is_word d_is_word) (C_InvalidWord : CalE P w K mg base 2 "InvalidWord" c.InvalidWord g_InvalidWord gd_InvalidWord 1) {kws : List (Str × V)} (F : DL.FnD K "check_words" "check_words" s_check_words [] kws f fd)
    {sp : DSp} (h : ∀ E0 ds M Q, sp ds M Q E0 → t_check_words c E0 (bodyE K Q) (startD ["letters", "words", "at", "word"] ds) M) : FnR P w K mg base (L2.CX P w) 3 f (lSp K (spV 5 sp)) :=
  dfunXV F sc_check_words (line (by decide)) (fun _ _ _ _ _ _ => bindV_of (fun _ => rfl) (fun _ _ => rfl) (fun _ _ _ => rfl) (fun _ _ _ _ => rfl) (fun _ _ _ _ _ => rfl) (fun _ _ _ _ _ _ => rfl)) fun cdv A outer s H E E0 hr => ⟨t_check_words c E0, fun G ws => dv_check_words c B T C_is_word C_InvalidWord ws hr, h E0⟩
/-! ### characters -/
abbrev s_characters : Stmt := topS 10
theorem sc_characters : FnScope ["letters", "letter", "character"] ["letters"] (defScope s_characters) := ⟨rfl, rfl, rfl, by decide +kernel, rfl, by decide +kernel, by decide +kernel⟩
def t_characters (c : Ks) : DTS :=
  (dRet (dLc2 (dIterS (dVar 0)) (dgName 1) dYes (dIterT (dTup (dCons (dVar 1) (dCons (dCall sp_swapped (dCons (dVar 1) dNil)) dNil)))) (dgName 2) dYes (dVar 2) [1, 2] [2]))
theorem dv_characters {P : Program} {w : World} {K : PySem.W.Frag} {mg : Str → Option Value} {base : Heap} {f : Addr} {cdv : Value} {A : Around} {outer : List Env} {s : Shared} {H : Hp} {E : XK} {G : GI K} (c : Ks) (B : NB mg) (T : Cn mg) {f_swapped : Addr} {d_swapped : FuncData} (C_swapped : Cal P w K mg base 1 "swapped" ["character"] sp_swapped f_swapped d_swapped)
    (hr : Room 1 (A.deeper (envOfC "characters" (defScope s_characters) s.heap.objs.size f cdv))) : @DSs (cxOf CX0 P w K mg base ["letters", "letter", "character"] "characters" (defScope s_characters) f cdv A outer s H E).nox G (defBody s_characters) (t_characters c) :=
  (dss_one (ds_ret (de_lc2 (g := (gName 1)) (g1 := (gName 2)) sc_characters.nd (di_str (dv 0)) (blkOk_by (own := [("letter", 1), ("character", 2)]) (N := ["letters", "letter", "character"]) (sc := defScope s_characters) (by decide +kernel)) (tg_name (i := 1) (by decide)) (tg_name (i := 2) (by decide)) (fun _ _ _ _ _ => (pg_name (i := 1) sc_characters.nd rfl (Or.inl rfl))) (fun _ _ _ _ _ => dts_nil) (fun _ _ _ _ _ => (di_tup (de_tup (da_cons (dv 1) (da_cons (de_callC C_swapped (hr.mono (by omega)) (da_cons (dv 1) da_nil)) da_nil))))) (fun _ _ _ _ _ => (pg_name (i := 2) sc_characters.nd rfl (Or.inl rfl))) (fun _ _ _ _ _ => dts_nil) (fun _ _ _ _ _ => (dv 2)))))
theorem ok_characters {P : Program} {w : World} {K : PySem.W.Frag} {mg : Str → Option Value} {base : Heap} {f : Addr} {fd : FuncData} (c : Ks) (B : NB mg) (T : Cn mg) {f_swapped : Addr} {d_swapped : FuncData} (C_swapped : Cal P w K mg base 1 "swapped" ["character"] sp_swapped f_swapped d_swapped) {dvs : List V} {kws : List (Str × V)} (F : DL.FnD K "characters" "characters" s_characters dvs kws f fd)
    {sp : DSp} (len : ∀ ds M Q E, sp ds M Q E → ds.length = 1) (h : ∀ ds M Q E0, sp ds M Q E0 → t_characters c (bodyE K Q) (startD ["letters", "letter", "character"] ds) M) : FnOk P w K mg base CX0 2 f fd ["letters"] (lSp K sp) :=
  dfunD F sc_characters len fun cdv A outer s H E hr => ⟨t_characters c, fun G => dv_characters c B T C_swapped hr, h⟩
/-! ### rank -/
abbrev s_rank : Stmt := topS 11
theorem sc_rank : FnScope ["word", "letters", "order", "character"] ["word", "letters"] (defScope s_rank) := ⟨rfl, rfl, rfl, by decide +kernel, rfl, by decide +kernel, by decide +kernel⟩
def t_rank (c : Ks) : DTS :=
  (dSeq (dAsg (dCall (sp_characters c) (dCons (dVar 1) dNil)) (dgName 2))
  (dRet (dTup (dCons (dCB rLen (dCons (dVar 0) dNil)) (dCons (dLc (dIterS (dVar 0)) (dgName 3) dYes (dBM "list" rIndexL (dVar 2) (dCons (dVar 3) dNil)) [3]) dNil)))))
theorem dv_rank {P : Program} {w : World} {K : PySem.W.Frag} {mg : Str → Option Value} {base : Heap} {f : Addr} {cdv : Value} {A : Around} {outer : List Env} {s : Shared} {H : Hp} {E : XK} {G : GI K} (c : Ks) (B : NB mg) (T : Cn mg) {f_characters : Addr} {d_characters : FuncData} (C_characters : Cal P w K mg base 2 "characters" ["letters"] (sp_characters c) f_characters d_characters)
    (hr : Room 2 (A.deeper (envOfC "rank" (defScope s_rank) s.heap.objs.size f cdv))) : @DSs (cxOf CX0 P w K mg base ["word", "letters", "order", "character"] "rank" (defScope s_rank) f cdv A outer s H E).nox G (defBody s_rank) (t_rank c) :=
  (dss_cons (ds_set (i := 2) sc_rank.nd (de_callC C_characters (hr.mono (by omega)) (da_cons (dv 1) da_nil)))
    (dss_one (ds_ret (de_tup (da_cons (de_len B.len (da_cons (dv 0) da_nil)) (da_cons (de_lc (g := (gName 3)) sc_rank.nd (di_str (dv 0)) (blkOk_by (own := [("character", 3)]) (N := ["word", "letters", "order", "character"]) (sc := defScope s_rank) (by decide +kernel)) (tg_name (i := 3) (by decide)) (fun _ _ _ _ _ => (pg_name (i := 3) sc_rank.nd rfl (Or.inl rfl))) (fun _ _ _ _ _ => dts_nil) (fun _ _ _ _ _ => (de_indexL (dv 2) (da_cons (dv 3) da_nil)))) da_nil))))))
theorem ok_rank {P : Program} {w : World} {K : PySem.W.Frag} {mg : Str → Option Value} {base : Heap} {f : Addr} {fd : FuncData} (c : Ks) (B : NB mg) (T : Cn mg) {f_characters : Addr} {d_characters : FuncData} (C_characters : Cal P w K mg base 2 "characters" ["letters"] (sp_characters c) f_characters d_characters) {dvs : List V} {kws : List (Str × V)} (F : DL.FnD K "rank" "rank" s_rank dvs kws f fd)
    {sp : DSp} (len : ∀ ds M Q E, sp ds M Q E → ds.length = 2) (h : ∀ ds M Q E0, sp ds M Q E0 → t_rank c (bodyE K Q) (startD ["word", "letters", "order", "character"] ds) M) : FnOk P w K mg base CX0 3 f fd ["word", "letters"] (lSp K sp) :=
  dfunD F sc_rank len fun cdv A outer s H E hr => ⟨t_rank c, fun G => dv_rank c B T C_characters hr, h⟩
/-! ### precedes -/
abbrev s_precedes : Stmt := topS 12
theorem sc_precedes : FnScope ["one", "other", "letters"] ["one", "other", "letters"] (defScope s_precedes) := ⟨rfl, rfl, rfl, by decide +kernel, rfl, by decide +kernel, by decide +kernel⟩
def t_precedes (c : Ks) (E0 : DX) : DTS :=
  (dSeq (dDrop (dCallX E0 (spV 5 (sp_check_words c)) (dCons (dVar 2) (dCons (dVar 0) (dCons (dVar 1) dNil)))))
  (dRet (dOp rLtZ (dCall (sp_rank c) (dCons (dVar 0) (dCons (dVar 2) dNil))) (dCall (sp_rank c) (dCons (dVar 1) (dCons (dVar 2) dNil))))))
theorem dv_precedes {P : Program} {w : World} {K : PySem.W.Frag} {mg : Str → Option Value} {base : Heap} {f : Addr} {cdv : Value} {A : Around} {outer : List Env} {s : Shared} {H : Hp} {E : XK} {G : GI K} (c : Ks) {E0 : DX} (B : NB mg) (T : Cn mg) {f_check_words : Addr} (C_check_words : CalXV P w K mg base 3 "check_words" (spV 5 (sp_check_words c)) f_check_words) {f_rank : Addr} {d_rank : FuncData} (C_rank : Cal P w K mg base 3 "rank" ["word", "letters"] (sp_rank c) f_rank d_rank) (ws : @Wish K G E0 E)
    (hr : Room 3 (A.deeper (envOfC "precedes" (defScope s_precedes) s.heap.objs.size f cdv))) : @DSs (cxOf (L2.CX P w) P w K mg base ["one", "other", "letters"] "precedes" (defScope s_precedes) f cdv A outer s H E) G (defBody s_precedes) (t_precedes c E0) :=
  (dss_cons (ds_expr (de_callXV C_check_words ws (hr.mono (by omega)) (da_cons (dv 2) (da_cons (dv 0) (da_cons (dv 1) da_nil)))))
    (dss_one (ds_ret (de_cmp (o_ltZ (uI hr)) l_ltZ (de_callC C_rank (hr.mono (by omega)) (da_cons (dv 0) (da_cons (dv 2) da_nil))) (de_callC C_rank (hr.mono (by omega)) (da_cons (dv 1) (da_cons (dv 2) da_nil))) (nomark _)))))
theorem ok_precedes {P : Program} {w : World} {K : PySem.W.Frag} {mg : Str → Option Value} {base : Heap} {f : Addr} {fd : FuncData} (c : Ks) (B : NB mg) (T : Cn mg) {f_check_words : Addr} (C_check_words : CalXV P w K mg base 3 "check_words" (spV 5 (sp_check_words c)) f_check_words) {f_rank : Addr} {d_rank : FuncData} (C_rank : Cal P w K mg base 3 "rank" ["word", "letters"] (sp_rank c) f_rank d_rank) {dvs : List V} {kws : List (Str × V)} (F : DL.FnD K "precedes" "precedes" s_precedes dvs kws f fd)
    {sp : DSp} (len : ∀ ds M Q E, sp ds M Q E → ds.length = 3) (h : ∀ E0 ds M Q, sp ds M Q E0 → t_precedes c E0 (bodyE K Q) (startD ["one", "other", "letters"] ds) M) : FnOk P w K mg base (L2.CX P w) 4 f fd ["one", "other", "letters"] (lSp K sp) :=
  dfunX F sc_precedes len fun cdv A outer s H E E0 hr => ⟨t_precedes c E0, fun G ws => dv_precedes c B T C_check_words C_rank ws hr, h E0⟩
/-! ### _law_begin -/
abbrev s__law_begin : Stmt := topS 14
theorem sc__law_begin : FnScope ["_law_script", "_law_marks", "_law_seed", "_law_cell"] ["_law_script"] (defScope s__law_begin) := ⟨rfl, rfl, rfl, by decide +kernel, rfl, by decide +kernel, by decide +kernel⟩
theorem dv__law_begin {P : Program} {w : World} {K : PySem.W.Frag} {mg : Str → Option Value} {base : Heap} {f : Addr} {cdv : Value} {A : Around} {outer : List Env} {s : Shared} {H : Hp} {E : XK} {G : GI K} (c : Ks) (B : NB mg) (T : Cn mg)
    (hr : Room 0 (A.deeper (envOfC "_law_begin" (defScope s__law_begin) s.heap.objs.size f cdv))) : @DSs (cxOf CX0 P w K mg base ["_law_script", "_law_marks", "_law_seed", "_law_cell"] "_law_begin" (defScope s__law_begin) f cdv A outer s H E).nox G (defBody s__law_begin) (t__law_begin) :=
  (dss_cons (ds_setLc (i := 1) (g := (gName 3)) sc__law_begin.nd (di_list (de_sl (dv 0) do_none (do_some de_int))) (blkOk_by (own := [("_law_cell", 3)]) (N := ["_law_script", "_law_marks", "_law_seed", "_law_cell"]) (sc := defScope s__law_begin) (by decide +kernel)) (tg_name (i := 3) (by decide)) (fun _ _ _ _ _ => (pg_name (i := 3) sc__law_begin.nd rfl (Or.inl rfl))) (fun _ _ _ _ _ => dts_nil) (fun _ _ _ _ _ => (de_toInt B.int (da_cons (dv 3) da_nil))))
    (dss_cons (ds_set (i := 2) sc__law_begin.nd (de_add de_int (de_mulX de_int (de_len B.len (da_cons (dv 1) da_nil)))))
    (dss_cons (ds_for PassesOwn.never rfl (di_list (dv 1)) (dg_name (i := 3) sc__law_begin.nd) (dss_one (ds_set (i := 2) sc__law_begin.nd (de_mod (de_add (de_add (de_mulX (dv 2) de_int) (de_mod (de_toInt B.int (da_cons (dv 3) da_nil)) de_int)) de_int) de_int))))
    (dss_one (ds_ret (de_lstM (da_cons (dv 1) (da_cons de_int (da_cons de_int (da_cons (dv 2) da_nil))))))))))
theorem ok__law_begin {P : Program} {w : World} {K : PySem.W.Frag} {mg : Str → Option Value} {base : Heap} {f : Addr} {fd : FuncData} (c : Ks) (B : NB mg) (T : Cn mg) {dvs : List V} {kws : List (Str × V)} (F : DL.FnD K "_law_begin" "_law_begin" s__law_begin dvs kws f fd)
    {sp : DSp} (len : ∀ ds M Q E, sp ds M Q E → ds.length = 1) (h : ∀ ds M Q E0, sp ds M Q E0 → t__law_begin (bodyE K Q) (startD ["_law_script", "_law_marks", "_law_seed", "_law_cell"] ds) M) : FnOk P w K mg base CX0 1 f fd ["_law_script"] (lSp K sp) :=
  dfunD F sc__law_begin len fun cdv A outer s H E hr => ⟨t__law_begin, fun G => dv__law_begin c B T hr, h⟩
/-! ### _law_draw -/
abbrev s__law_draw : Stmt := topS 15
theorem sc__law_draw : FnScope ["_law_box", "_law_many", "_law_cell", "_law_digit", "_law_seed"] ["_law_box", "_law_many"] (defScope s__law_draw) := ⟨rfl, rfl, rfl, by decide +kernel, rfl, by decide +kernel, by decide +kernel⟩
theorem dv__law_draw {P : Program} {w : World} {K : PySem.W.Frag} {mg : Str → Option Value} {base : Heap} {f : Addr} {cdv : Value} {A : Around} {outer : List Env} {s : Shared} {H : Hp} {E : XK} {G : GI K} (c : Ks) (B : NB mg) (T : Cn mg)
    (hr : Room 0 (A.deeper (envOfC "_law_draw" (defScope s__law_draw) s.heap.objs.size f cdv))) : @DSs (cxOf CX0 P w K mg base ["_law_box", "_law_many", "_law_cell", "_law_digit", "_law_seed"] "_law_draw" (defScope s__law_draw) f cdv A outer s H E).nox G (defBody s__law_draw) (t__law_draw) :=
  (dss_cons (ds_if (PW.pt (dw_and (dt_cmp (o_eq hr.units) l_eq (de_ix (dv 0) de_int) de_int (nomark _)) (dw_and1 (dt_cmp o_lt l_lt (de_ix (dv 0) de_int) (de_len B.len (da_cons (de_ix (dv 0) de_int) da_nil)) (nomark _))))) (dss_cons (ds_set (i := 2) sc__law_draw.nd (de_ix (de_ix (dv 0) de_int) (de_ix (dv 0) de_int)))
    (dss_cons (ds_asg (de_add (de_ix (dv 0) de_int) de_int) (dg_sub (dv 0) de_int))
    (dss_one (ds_if (dt_cmp o_ge l_ge (dv 2) (de_pow de_int de_int) (nomark _)) (dss_one (ds_asg (dv 2) (dg_sub (dv 0) de_int))) (dss_one (ds_asg (de_mod (de_add (de_add (de_mulX (de_ix (dv 0) de_int) de_int) (de_mulX (de_mod (de_toInt B.int (da_cons (dv 2) da_nil)) de_int) de_int)) de_int) de_int) (dg_sub (dv 0) de_int))))))) dss_nil)
    (dss_cons (ds_if (dt_cmp o_gt l_gt (de_ix (dv 0) de_int) de_int (nomark _)) (dss_cons (ds_set (i := 3) sc__law_draw.nd (de_mod (de_toInt B.int (da_cons (de_ix (dv 0) de_int) da_nil)) (dv 1)))
    (dss_cons (ds_asg (de_fdivA (de_ix (dv 0) de_int) (dv 1)) (dg_sub (dv 0) de_int))
    (dss_one (ds_ret (dv 3))))) dss_nil)
    (dss_cons (ds_set (i := 4) sc__law_draw.nd (de_ix (dv 0) de_int))
    (dss_cons (ds_asg (de_mod (de_add (de_add (de_mulX (dv 4) (dv 4)) (de_mulX (dv 4) de_int)) de_int) de_int) (dg_sub (dv 0) de_int))
    (dss_one (ds_ret (de_mod (de_add (de_fdivA (de_ix (dv 0) de_int) de_int) (de_mulX (de_mod (de_toInt B.int (da_cons (de_ix (dv 0) de_int) da_nil)) de_int) de_int)) (dv 1))))))))
theorem ok__law_draw {P : Program} {w : World} {K : PySem.W.Frag} {mg : Str → Option Value} {base : Heap} {f : Addr} {fd : FuncData} (c : Ks) (B : NB mg) (T : Cn mg) {dvs : List V} {kws : List (Str × V)} (F : DL.FnD K "_law_draw" "_law_draw" s__law_draw dvs kws f fd)
    {sp : DSp} (len : ∀ ds M Q E, sp ds M Q E → ds.length = 2) (h : ∀ ds M Q E0, sp ds M Q E0 → t__law_draw (bodyE K Q) (startD ["_law_box", "_law_many", "_law_cell", "_law_digit", "_law_seed"] ds) M) : FnOk P w K mg base CX0 1 f fd ["_law_box", "_law_many"] (lSp K sp) :=
  dfunD F sc__law_draw len fun cdv A outer s H E hr => ⟨t__law_draw, fun G => dv__law_draw c B T hr, h⟩
/-! ### _law_any -/
abbrev s__law_any : Stmt := topS 16
theorem sc__law_any : FnScope ["_law_box", "_law_some"] ["_law_box", "_law_some"] (defScope s__law_any) := ⟨rfl, rfl, rfl, by decide +kernel, rfl, by decide +kernel, by decide +kernel⟩
theorem dv__law_any {P : Program} {w : World} {K : PySem.W.Frag} {mg : Str → Option Value} {base : Heap} {f : Addr} {cdv : Value} {A : Around} {outer : List Env} {s : Shared} {H : Hp} {E : XK} {G : GI K} (c : Ks) (B : NB mg) (T : Cn mg) {f__law_draw : Addr} {d__law_draw : FuncData} (C__law_draw : Cal P w K mg base 1 "_law_draw" ["_law_box", "_law_many"] sp__law_draw f__law_draw d__law_draw)
    (hr : Room 1 (A.deeper (envOfC "_law_any" (defScope s__law_any) s.heap.objs.size f cdv))) : @DSs (cxOf CX0 P w K mg base ["_law_box", "_law_some"] "_law_any" (defScope s__law_any) f cdv A outer s H E).nox G (defBody s__law_any) (t__law_any) :=
  (dss_one (ds_ret (de_ix (dv 1) (de_callC C__law_draw (hr.mono (by omega)) (da_cons (dv 0) (da_cons (de_len B.len (da_cons (dv 1) da_nil)) da_nil))))))
theorem ok__law_any {P : Program} {w : World} {K : PySem.W.Frag} {mg : Str → Option Value} {base : Heap} {f : Addr} {fd : FuncData} (c : Ks) (B : NB mg) (T : Cn mg) {f__law_draw : Addr} {d__law_draw : FuncData} (C__law_draw : Cal P w K mg base 1 "_law_draw" ["_law_box", "_law_many"] sp__law_draw f__law_draw d__law_draw) {dvs : List V} {kws : List (Str × V)} (F : DL.FnD K "_law_any" "_law_any" s__law_any dvs kws f fd)
    {sp : DSp} (len : ∀ ds M Q E, sp ds M Q E → ds.length = 2) (h : ∀ ds M Q E0, sp ds M Q E0 → t__law_any (bodyE K Q) (startD ["_law_box", "_law_some"] ds) M) : FnOk P w K mg base CX0 2 f fd ["_law_box", "_law_some"] (lSp K sp) :=
  dfunD F sc__law_any len fun cdv A outer s H E hr => ⟨t__law_any, fun G => dv__law_any c B T C__law_draw hr, h⟩
/-! ### _law_same -/
abbrev s__law_same : Stmt := topS 17
theorem sc__law_same : FnScope ["_law_found", "_law_due", "_law_k"] ["_law_found", "_law_due"] (defScope s__law_same) := ⟨rfl, rfl, rfl, by decide +kernel, rfl, by decide +kernel, by decide +kernel⟩
theorem dv__law_same {P : Program} {w : World} {K : PySem.W.Frag} {mg : Str → Option Value} {base : Heap} {f : Addr} {cdv : Value} {A : Around} {outer : List Env} {s : Shared} {H : Hp} {E : XK} {G : GI K} (c : Ks) {r__law_same : DSp} {n : Nat} (hn : 0 ≤ n) (B : NB mg) (T : Cn mg) {f__law_same : Addr} {d__law_same : FuncData} (C__law_same : Cal P w K mg base n "_law_same" ["_law_found", "_law_due"] r__law_same f__law_same d__law_same)
    (hr : Room n (A.deeper (envOfC "_law_same" (defScope s__law_same) s.heap.objs.size f cdv))) : @DSs (cxOf CX0 P w K mg base ["_law_found", "_law_due", "_law_k"] "_law_same" (defScope s__law_same) f cdv A outer s H E).nox G (defBody s__law_same) (t__law_same r__law_same) :=
  (dss_cons (ds_if (dt_tru (de_isi2 (Ts := "list") (Us := "tuple") B (dv 1))) (dss_cons (ds_if (PW.pt (dw_or (dt_cmp (o_ne hr.units) l_ne (de_isi (Ts := "list") B (dv 0)) (de_isi (Ts := "list") B (dv 1)) (nomark _)) (dw_or1 (dt_cmp (o_ne hr.units) l_ne (de_isi (Ts := "tuple") B (dv 0)) (de_isi (Ts := "tuple") B (dv 1)) (nomark _))))) (dss_one (ds_ret de_bl)) dss_nil)
    (dss_one (ds_ret (de_and (de_cmp (o_eq hr.units) l_eq (de_len B.len (da_cons (dv 0) da_nil)) (de_len B.len (da_cons (dv 1) da_nil)) (nomark _)) (de_one (de_all B.all (da_cons (de_lc (g := (gName 2)) sc__law_same.nd (di_rng1 B.range (da_cons (de_len B.len (da_cons (dv 1) da_nil)) da_nil)) (blkOk_by (own := [("_law_k", 2)]) (N := ["_law_found", "_law_due", "_law_k"]) (sc := defScope s__law_same) (by decide +kernel)) (tg_name (i := 2) (by decide)) (fun _ _ _ _ _ => (pg_name (i := 2) sc__law_same.nd rfl (Or.inl rfl))) (fun _ _ _ _ _ => dts_nil) (fun _ _ _ _ _ => (de_callC C__law_same (hr.mono (by omega)) (da_cons (de_ix (dv 0) (dv 2)) (da_cons (de_ix (dv 1) (dv 2)) da_nil))))) da_nil))))))) dss_nil)
    (dss_cons (ds_if (PW.pt (dw_or (dt_isN (dv 1)) (dw_or1 (dt_isN (dv 0))))) (dss_one (ds_ret (de_and (de_isN (dv 0)) (de_one (de_isN (dv 1)))))) dss_nil)
    (dss_cons (ds_if (PW.pt (dw_or (dt_cmp (o_ne hr.units) l_ne (de_isi (Ts := "bool") B (dv 1)) (de_isi (Ts := "bool") B (dv 0)) (nomark _)) (dw_or1 (dt_cmp (o_ne hr.units) l_ne (de_isi (Ts := "int") B (dv 1)) (de_isi (Ts := "int") B (dv 0)) (nomark _))))) (dss_one (ds_ret de_bl)) dss_nil)
    (dss_one (ds_ret (de_and (de_cmp (o_eq hr.units) l_eq (de_isi (Ts := "str") B (dv 1)) (de_isi (Ts := "str") B (dv 0)) (nomark _)) (de_one (de_cmp (o_eq hr.units) l_eq (dv 0) (dv 1) (nomark _)))))))))
theorem ok__law_same {P : Program} {w : World} {K : PySem.W.Frag} {mg : Str → Option Value} {base : Heap} {f : Addr} {fd : FuncData} (c : Ks) {r__law_same : DSp} {n : Nat} (hn : 0 ≤ n) (B : NB mg) (T : Cn mg) {f__law_same : Addr} {d__law_same : FuncData} (C__law_same : Cal P w K mg base n "_law_same" ["_law_found", "_law_due"] r__law_same f__law_same d__law_same) {dvs : List V} {kws : List (Str × V)} (F : DL.FnD K "_law_same" "_law_same" s__law_same dvs kws f fd)
    {sp : DSp} (len : ∀ ds M Q E, sp ds M Q E → ds.length = 2) (h : ∀ ds M Q E0, sp ds M Q E0 → t__law_same r__law_same (bodyE K Q) (startD ["_law_found", "_law_due", "_law_k"] ds) M) : FnOk P w K mg base CX0 (n + 1) f fd ["_law_found", "_law_due"] (lSp K sp) :=
  dfunD F sc__law_same len fun cdv A outer s H E hr => ⟨t__law_same r__law_same, fun G => dv__law_same c hn B T C__law_same hr, h⟩
/-! ### _law_letters -/
abbrev s__law_letters : Stmt := topS 20
theorem sc__law_letters : FnScope ["_law_box", "_law_many", "_law_found", "_law_k", "_law_left", "_law_letter"] ["_law_box", "_law_many"] (defScope s__law_letters) := ⟨rfl, rfl, rfl, by decide +kernel, rfl, by decide +kernel, by decide +kernel⟩
theorem dv__law_letters {P : Program} {w : World} {K : PySem.W.Frag} {mg : Str → Option Value} {base : Heap} {f : Addr} {cdv : Value} {A : Around} {outer : List Env} {s : Shared} {H : Hp} {E : XK} {G : GI K} (c : Ks) (B : NB mg) (T : Cn mg) {f__law_any : Addr} {d__law_any : FuncData} (C__law_any : Cal P w K mg base 2 "_law_any" ["_law_box", "_law_some"] sp__law_any f__law_any d__law_any)
    (hr : Room 2 (A.deeper (envOfC "_law_letters" (defScope s__law_letters) s.heap.objs.size f cdv))) : @DSs (cxOf CX0 P w K mg base ["_law_box", "_law_many", "_law_found", "_law_k", "_law_left", "_law_letter"] "_law_letters" (defScope s__law_letters) f cdv A outer s H E).nox G (defBody s__law_letters) (t__law_letters) :=
  (dss_cons (ds_set (i := 2) sc__law_letters.nd de_str)
    (dss_cons (ds_for PassesOwn.never rfl (di_rng1 B.range (da_cons (dv 1) da_nil)) (dg_name (i := 3) sc__law_letters.nd) (dss_cons (ds_setLc (i := 4) (g := (gName 5)) sc__law_letters.nd (di_str de_str) (blkOk_by (own := [("_law_letter", 5)]) (N := ["_law_box", "_law_many", "_law_found", "_law_k", "_law_left", "_law_letter"]) (sc := defScope s__law_letters) (by decide +kernel)) (tg_name (i := 5) (by decide)) (fun _ _ _ _ _ => (pg_name (i := 5) sc__law_letters.nd rfl (Or.inl rfl))) (fun _ _ _ _ _ => (dts_one (dt_cmp (o_nin (uI hr)) l_nin (dv 5) (dv 2) (by rfl)))) (fun _ _ _ _ _ => (dv 5)))
    (dss_one (ds_set (i := 2) sc__law_letters.nd (de_add (dv 2) (de_callC C__law_any (hr.mono (by omega)) (da_cons (dv 0) (da_cons (dv 4) da_nil))))))))
    (dss_one (ds_ret (dv 2)))))
theorem ok__law_letters {P : Program} {w : World} {K : PySem.W.Frag} {mg : Str → Option Value} {base : Heap} {f : Addr} {fd : FuncData} (c : Ks) (B : NB mg) (T : Cn mg) {f__law_any : Addr} {d__law_any : FuncData} (C__law_any : Cal P w K mg base 2 "_law_any" ["_law_box", "_law_some"] sp__law_any f__law_any d__law_any) {dvs : List V} {kws : List (Str × V)} (F : DL.FnD K "_law_letters" "_law_letters" s__law_letters dvs kws f fd)
    {sp : DSp} (len : ∀ ds M Q E, sp ds M Q E → ds.length = 2) (h : ∀ ds M Q E0, sp ds M Q E0 → t__law_letters (bodyE K Q) (startD ["_law_box", "_law_many", "_law_found", "_law_k", "_law_left", "_law_letter"] ds) M) : FnOk P w K mg base CX0 3 f fd ["_law_box", "_law_many"] (lSp K sp) :=
  dfunD F sc__law_letters len fun cdv A outer s H E hr => ⟨t__law_letters, fun G => dv__law_letters c B T C__law_any hr, h⟩
/-! ### _law_signs -/
abbrev s__law_signs : Stmt := topS 21
theorem sc__law_signs : FnScope ["_law_letters_z", "_law_letter"] ["_law_letters_z"] (defScope s__law_signs) := ⟨rfl, rfl, rfl, by decide +kernel, rfl, by decide +kernel, by decide +kernel⟩
theorem dv__law_signs {P : Program} {w : World} {K : PySem.W.Frag} {mg : Str → Option Value} {base : Heap} {f : Addr} {cdv : Value} {A : Around} {outer : List Env} {s : Shared} {H : Hp} {E : XK} {G : GI K} (c : Ks) (B : NB mg) (T : Cn mg)
    (hr : Room 0 (A.deeper (envOfC "_law_signs" (defScope s__law_signs) s.heap.objs.size f cdv))) : @DSs (cxOf CX0 P w K mg base ["_law_letters_z", "_law_letter"] "_law_signs" (defScope s__law_signs) f cdv A outer s H E).nox G (defBody s__law_signs) (t__law_signs) :=
  (dss_one (ds_ret (de_join de_str (da_cons (de_lc (g := (gName 1)) sc__law_signs.nd (di_str (dv 0)) (blkOk_by (own := [("_law_letter", 1)]) (N := ["_law_letters_z", "_law_letter"]) (sc := defScope s__law_signs) (by decide +kernel)) (tg_name (i := 1) (by decide)) (fun _ _ _ _ _ => (pg_name (i := 1) sc__law_signs.nd rfl (Or.inl rfl))) (fun _ _ _ _ _ => dts_nil) (fun _ _ _ _ _ => (de_add (dv 1) (de_upper (dv 1))))) da_nil))))
theorem ok__law_signs {P : Program} {w : World} {K : PySem.W.Frag} {mg : Str → Option Value} {base : Heap} {f : Addr} {fd : FuncData} (c : Ks) (B : NB mg) (T : Cn mg) {dvs : List V} {kws : List (Str × V)} (F : DL.FnD K "_law_signs" "_law_signs" s__law_signs dvs kws f fd)
    {sp : DSp} (len : ∀ ds M Q E, sp ds M Q E → ds.length = 1) (h : ∀ ds M Q E0, sp ds M Q E0 → t__law_signs (bodyE K Q) (startD ["_law_letters_z", "_law_letter"] ds) M) : FnOk P w K mg base CX0 1 f fd ["_law_letters_z"] (lSp K sp) :=
  dfunD F sc__law_signs len fun cdv A outer s H E hr => ⟨t__law_signs, fun G => dv__law_signs c B T hr, h⟩
/-! ### _law_some_word -/
abbrev s__law_some_word : Stmt := topS 22
theorem sc__law_some_word : FnScope ["_law_box", "_law_letters_z", "_law_most", "_law_signs_here", "_law_k"] ["_law_box", "_law_letters_z", "_law_most"] (defScope s__law_some_word) := ⟨rfl, rfl, rfl, by decide +kernel, rfl, by decide +kernel, by decide +kernel⟩
theorem dv__law_some_word {P : Program} {w : World} {K : PySem.W.Frag} {mg : Str → Option Value} {base : Heap} {f : Addr} {cdv : Value} {A : Around} {outer : List Env} {s : Shared} {H : Hp} {E : XK} {G : GI K} (c : Ks) (B : NB mg) (T : Cn mg) {f__law_signs : Addr} {d__law_signs : FuncData} (C__law_signs : Cal P w K mg base 1 "_law_signs" ["_law_letters_z"] sp__law_signs f__law_signs d__law_signs) {f__law_draw : Addr} {d__law_draw : FuncData} (C__law_draw : Cal P w K mg base 1 "_law_draw" ["_law_box", "_law_many"] sp__law_draw f__law_draw d__law_draw) {f__law_any : Addr} {d__law_any : FuncData} (C__law_any : Cal P w K mg base 2 "_law_any" ["_law_box", "_law_some"] sp__law_any f__law_any d__law_any)
    (hr : Room 2 (A.deeper (envOfC "_law_some_word" (defScope s__law_some_word) s.heap.objs.size f cdv))) : @DSs (cxOf CX0 P w K mg base ["_law_box", "_law_letters_z", "_law_most", "_law_signs_here", "_law_k"] "_law_some_word" (defScope s__law_some_word) f cdv A outer s H E).nox G (defBody s__law_some_word) (t__law_some_word) :=
  (dss_cons (ds_set (i := 3) sc__law_some_word.nd (de_callC C__law_signs (hr.mono (by omega)) (da_cons (dv 1) da_nil)))
    (dss_one (ds_ret (de_join de_str (da_cons (de_lc (g := (gName 4)) sc__law_some_word.nd (di_rng1 B.range (da_cons (de_callC C__law_draw (hr.mono (by omega)) (da_cons (dv 0) (da_cons (de_add (dv 2) de_int) da_nil))) da_nil)) (blkOk_by (own := [("_law_k", 4)]) (N := ["_law_box", "_law_letters_z", "_law_most", "_law_signs_here", "_law_k"]) (sc := defScope s__law_some_word) (by decide +kernel)) (tg_name (i := 4) (by decide)) (fun _ _ _ _ _ => (pg_name (i := 4) sc__law_some_word.nd rfl (Or.inl rfl))) (fun _ _ _ _ _ => dts_nil) (fun _ _ _ _ _ => (de_callC C__law_any (hr.mono (by omega)) (da_cons (dv 0) (da_cons (de_toList B.list (da_cons (dv 3) da_nil)) da_nil))))) da_nil)))))
theorem ok__law_some_word {P : Program} {w : World} {K : PySem.W.Frag} {mg : Str → Option Value} {base : Heap} {f : Addr} {fd : FuncData} (c : Ks) (B : NB mg) (T : Cn mg) {f__law_signs : Addr} {d__law_signs : FuncData} (C__law_signs : Cal P w K mg base 1 "_law_signs" ["_law_letters_z"] sp__law_signs f__law_signs d__law_signs) {f__law_draw : Addr} {d__law_draw : FuncData} (C__law_draw : Cal P w K mg base 1 "_law_draw" ["_law_box", "_law_many"] sp__law_draw f__law_draw d__law_draw) {f__law_any : Addr} {d__law_any : FuncData} (C__law_any : Cal P w K mg base 2 "_law_any" ["_law_box", "_law_some"] sp__law_any f__law_any d__law_any) {dvs : List V} {kws : List (Str × V)} (F : DL.FnD K "_law_some_word" "_law_some_word" s__law_some_word dvs kws f fd)
    {sp : DSp} (len : ∀ ds M Q E, sp ds M Q E → ds.length = 3) (h : ∀ ds M Q E0, sp ds M Q E0 → t__law_some_word (bodyE K Q) (startD ["_law_box", "_law_letters_z", "_law_most", "_law_signs_here", "_law_k"] ds) M) : FnOk P w K mg base CX0 3 f fd ["_law_box", "_law_letters_z", "_law_most"] (lSp K sp) :=
  dfunD F sc__law_some_word len fun cdv A outer s H E hr => ⟨t__law_some_word, fun G => dv__law_some_word c B T C__law_signs C__law_draw C__law_any hr, h⟩
/-! ### law -/
abbrev s_law : Stmt := topS 23
theorem sc_law : FnScope ["_law_script", "_law_box", "_law_turn", "_law_letters_z", "_law_signs_here", "_law_one_z", "_law_at", "_law_near", "_law_other_z", "_law_keys", "_law_found", "_law_asks", "_law_each", "_law_sign", "_law_ask"] ["_law_script"] (defScope s_law) := ⟨rfl, rfl, rfl, by decide +kernel, rfl, by decide +kernel, by decide +kernel⟩
def t_law (c : Ks) (l0 l1 : LamD) : DTS :=
  (dSeq (dAsg (dCall sp__law_begin (dCons (dVar 0) dNil)) (dgName 1))
  (dSeq (dFor (dRng1 (dCons (dC (.int 5)) dNil)) (dgName 2) (dSeq (dAsg (dCall sp__law_letters (dCons (dVar 1) (dCons (dOp rAdd (dC (.int 1)) (dCall sp__law_draw (dCons (dVar 1) (dCons (dC (.int 3)) dNil)))) dNil))) (dgName 3))
  (dSeq (dAsg (dCall sp__law_signs (dCons (dVar 3) dNil)) (dgName 4))
  (dSeq (dAsg (dCall sp__law_some_word (dCons (dVar 1) (dCons (dVar 3) (dCons (dC (.int 6)) dNil)))) (dgName 5))
  (dSeq (dAsg (dCall sp__law_draw (dCons (dVar 1) (dCons (dOp rAdd (dCB rLen (dCons (dVar 5) dNil)) (dC (.int 1))) dNil))) (dgName 6))
  (dSeq (dAsg (dOp rAdd (dOp rAdd (dSl (dVar 5) (fun _ M Q => Q none M) (dPart (dVar 6))) (dCall sp__law_any (dCons (dVar 1) (dCons (dCB rToListA (dCons (dVar 4) dNil)) dNil)))) (dSl (dVar 5) (dPart (dOp rAdd (dVar 6) (dCall sp__law_draw (dCons (dVar 1) (dCons (dC (.int 2)) dNil))))) (fun _ M Q => Q none M))) (dgName 7))
  (dSeq (dAsg (dCall sp__law_any (dCons (dVar 1) (dCons (dLst (dCons (dVar 7) (dCons (dVar 7) (dCons (dCall sp__law_some_word (dCons (dVar 1) (dCons (dVar 3) (dCons (dC (.int 6)) dNil)))) (dCons (dVar 5) dNil))))) dNil))) (dgName 8))
  (dSeq (dAsg (dLc (dIter (dLst (dCons (dVar 5) (dCons (dVar 8) dNil)))) (dgName 12) dYes (dTup (dCons (dCB rLen (dCons (dVar 12) dNil)) (dCons (dLc (dIterS (dVar 12)) (dgName 13) dYes (dBM "str" rIndexS (dVar 4) (dCons (dVar 13) dNil)) [13]) dNil))) [12]) (dgName 9))
  (dSeq (dAsg (dLst (dCons (dCallX noX (sp_precedes c) (dCons (dVar 5) (dCons (dVar 8) (dCons (dVar 3) dNil)))) (dCons (dCallKX noX (sp_precedes c) (gKV 0 3 [2, 1, 0]) dNil (dCons (dVar 3) (dCons (dVar 5) (dCons (dVar 8) dNil)))) dNil))) (dgName 10))
  (dSeq (dIfS (dNot (dTru (dCall (sp__law_same 3) (dCons (dVar 10) (dCons (dLst (dCons (dOp rLtZ (dOp rIxD (dVar 9) (dC (.int 0))) (dOp rIxD (dVar 9) (dC (.int 1)))) (dCons (dOp rLtZ (dOp rIxD (dVar 9) (dC (.int 1))) (dOp rIxD (dVar 9) (dC (.int 0)))) dNil))) dNil))))) (dRet (dC (.bl false))) dNext)
  (dSeq (dAsg (dLst (dCons (dLam c.T_law l0) (dCons (dLam c.T_law l1) dNil))) (dgName 11))
  (dIfS (dTB (dOp (rEqW true) (dLc (dIter (dVar 11)) (dgName 14) dYes (dWhy (cws c) [(l0, fun E0 => (dCallX E0 (sp_precedes c) (dCons (dVar 5) (dCons (dOp rAdd (dVar 5) (dC (.str "?"))) (dCons (dVar 3) dNil))))), (l1, fun E0 => (dCallX E0 (sp_precedes c) (dCons (dC (.str "?")) (dCons (dC (.str "?")) (dCons (dVar 3) dNil)))))] (dVar 14)) [14]) (dLst (dCons (dTup (dCons (dC (.str "InvalidWord")) (dCons (dC (.int 1)) dNil))) (dCons (dTup (dCons (dC (.str "InvalidWord")) (dCons (dC (.int 0)) dNil))) dNil))))) (dRet (dC (.bl false))) dNext))))))))))))
  (dRet (dAndV (dCallX noX (sp_precedes c) (dCons (dC (.str "T")) (dCons (dC (.str "a")) (dCons (dC (.str "ta")) dNil)))) (dAndV (dCallX noX (sp_precedes c) (dCons (dC (.str "t")) (dCons (dC (.str "T")) (dCons (dC (.str "ta")) dNil)))) (dNotV (dCallX noX (sp_precedes c) (dCons (dC (.str "ta")) (dCons (dC (.str "a")) (dCons (dC (.str "ta")) dNil))))))))))
def q_law : Str := (envOfC "law" (defScope s_law) 0 0 Value.none).qual ++ "<lambda>"
theorem dv_law {P : Program} {w : World} {K : PySem.W.Frag} {mg : Str → Option Value} {base : Heap} {f : Addr} {cdv : Value} {A : Around} {outer : List Env} {s : Shared} {H : Hp} {E : XK} (c : Ks) (B : NB mg) (T : Cn mg) {f__law_begin : Addr} {d__law_begin : FuncData} (C__law_begin : Cal P w K mg base 1 "_law_begin" ["_law_script"] sp__law_begin f__law_begin d__law_begin) {f__law_letters : Addr} {d__law_letters : FuncData} (C__law_letters : Cal P w K mg base 3 "_law_letters" ["_law_box", "_law_many"] sp__law_letters f__law_letters d__law_letters) {f__law_draw : Addr} {d__law_draw : FuncData} (C__law_draw : Cal P w K mg base 1 "_law_draw" ["_law_box", "_law_many"] sp__law_draw f__law_draw d__law_draw) {f__law_signs : Addr} {d__law_signs : FuncData} (C__law_signs : Cal P w K mg base 1 "_law_signs" ["_law_letters_z"] sp__law_signs f__law_signs d__law_signs) {f__law_some_word : Addr} {d__law_some_word : FuncData} (C__law_some_word : Cal P w K mg base 3 "_law_some_word" ["_law_box", "_law_letters_z", "_law_most"] sp__law_some_word f__law_some_word d__law_some_word) {f__law_any : Addr} {d__law_any : FuncData} (C__law_any : Cal P w K mg base 2 "_law_any" ["_law_box", "_law_some"] sp__law_any f__law_any d__law_any) {f_precedes : Addr} {d_precedes : FuncData} (C_precedes : CalX P w K mg base 4 "precedes" ["one", "other", "letters"] (sp_precedes c) f_precedes d_precedes) {f__law_same : Addr} {d__law_same : FuncData} (C__law_same : Cal P w K mg base 5 "_law_same" ["_law_found", "_law_due"] (sp__law_same 3) f__law_same d__law_same) (W : WhyF P w K mg base (cws c)) (KB_precedes_0_letters_other_one : KBinds K d_precedes ["one", "other", "letters"] ["letters", "other", "one"] (gKV 0 3 [2, 1, 0]) (gKV 0 3 [2, 1, 0]))
    (LM : LamM (cxOf CX0 P w K mg base ["_law_script", "_law_box", "_law_turn", "_law_letters_z", "_law_signs_here", "_law_one_z", "_law_at", "_law_near", "_law_other_z", "_law_keys", "_law_found", "_law_asks", "_law_each", "_law_sign", "_law_ask"] "law" (defScope s_law) f cdv A outer s H E).nox c.T_law) (hr : Room 6 (A.deeper (envOfC "law" (defScope s_law) s.heap.objs.size f cdv))) : ∃ l0 l1 : LamD, (∀ G : GI K, @DSs (cxOf CX0 P w K mg base ["_law_script", "_law_box", "_law_turn", "_law_letters_z", "_law_signs_here", "_law_one_z", "_law_at", "_law_near", "_law_other_z", "_law_keys", "_law_found", "_law_asks", "_law_each", "_law_sign", "_law_ask"] "law" (defScope s_law) f cdv A outer s H E).nox G (defBody s_law) (t_law c l0 l1)) ∧ l0.q = q_law ∧ l1.q = q_law :=
  ⟨_, _, fun G => (dss_cons (ds_set (i := 1) sc_law.nd (de_callC C__law_begin (hr.mono (by omega)) (da_cons (dv 0) da_nil)))
    (dss_cons (ds_for PassesOwn.never rfl (di_rng1 B.range (da_cons de_int da_nil)) (dg_name (i := 2) sc_law.nd) (dss_cons (ds_set (i := 3) sc_law.nd (de_callC C__law_letters (hr.mono (by omega)) (da_cons (dv 1) (da_cons (de_add de_int (de_callC C__law_draw (hr.mono (by omega)) (da_cons (dv 1) (da_cons de_int da_nil)))) da_nil))))
    (dss_cons (ds_set (i := 4) sc_law.nd (de_callC C__law_signs (hr.mono (by omega)) (da_cons (dv 3) da_nil)))
    (dss_cons (ds_set (i := 5) sc_law.nd (de_callC C__law_some_word (hr.mono (by omega)) (da_cons (dv 1) (da_cons (dv 3) (da_cons de_int da_nil)))))
    (dss_cons (ds_set (i := 6) sc_law.nd (de_callC C__law_draw (hr.mono (by omega)) (da_cons (dv 1) (da_cons (de_add (de_len B.len (da_cons (dv 5) da_nil)) de_int) da_nil))))
    (dss_cons (ds_set (i := 7) sc_law.nd (de_add (de_add (de_sl (dv 5) do_none (do_some (dv 6))) (de_callC C__law_any (hr.mono (by omega)) (da_cons (dv 1) (da_cons (de_toList B.list (da_cons (dv 4) da_nil)) da_nil)))) (de_sl (dv 5) (do_some (de_add (dv 6) (de_callC C__law_draw (hr.mono (by omega)) (da_cons (dv 1) (da_cons de_int da_nil))))) do_none)))
    (dss_cons (ds_set (i := 8) sc_law.nd (de_callC C__law_any (hr.mono (by omega)) (da_cons (dv 1) (da_cons (de_lst (da_cons (dv 7) (da_cons (dv 7) (da_cons (de_callC C__law_some_word (hr.mono (by omega)) (da_cons (dv 1) (da_cons (dv 3) (da_cons de_int da_nil)))) (da_cons (dv 5) da_nil))))) da_nil))))
    (dss_cons (ds_setLc (i := 9) (g := (gName 12)) sc_law.nd (di_list (de_lst (da_cons (dv 5) (da_cons (dv 8) da_nil)))) (blkOk_by (own := [("_law_each", 12)]) (N := ["_law_script", "_law_box", "_law_turn", "_law_letters_z", "_law_signs_here", "_law_one_z", "_law_at", "_law_near", "_law_other_z", "_law_keys", "_law_found", "_law_asks", "_law_each", "_law_sign", "_law_ask"]) (sc := defScope s_law) (by decide +kernel)) (tg_name (i := 12) (by decide)) (fun _ _ _ _ _ => (pg_name (i := 12) sc_law.nd rfl (Or.inl rfl))) (fun _ _ _ _ _ => dts_nil) (fun _ _ _ _ _ => (de_tup (da_cons (de_len B.len (da_cons (dv 12) da_nil)) (da_cons (de_lc (g := (gName 13)) sc_law.nd (di_str (dv 12)) (blkOk_by (own := [("_law_sign", 13)]) (N := ["_law_script", "_law_box", "_law_turn", "_law_letters_z", "_law_signs_here", "_law_one_z", "_law_at", "_law_near", "_law_other_z", "_law_keys", "_law_found", "_law_asks", "_law_each", "_law_sign", "_law_ask"]) (by rfl)) (tg_name (i := 13) (by decide)) (fun _ _ _ _ _ => (pg_name (i := 13) sc_law.nd rfl (Or.inl rfl))) (fun _ _ _ _ _ => dts_nil) (fun _ _ _ _ _ => (de_indexS (dv 4) (da_cons (dv 13) da_nil)))) da_nil)))))
    (dss_cons (ds_set (i := 10) sc_law.nd (de_lst (da_cons (de_callX C_precedes ws0 (hr.mono (by omega)) (da_cons (dv 5) (da_cons (dv 8) (da_cons (dv 3) da_nil))) LamX.takes0) (da_cons (de_callKX0 C_precedes ws0 (hr.mono (by omega)) KB_precedes_0_letters_other_one (dk_cons (dv 3) (dk_cons (dv 5) (dk_cons (dv 8) dk_nil))) LamX.takes0) da_nil))))
    (dss_cons (ds_if (dt_not (dt_tru (de_callC C__law_same (hr.mono (by omega)) (da_cons (dv 10) (da_cons (de_lst (da_cons (de_cmp (o_ltZ (uI hr)) l_ltZ (de_ix (dv 9) de_int) (de_ix (dv 9) de_int) (nomark _)) (da_cons (de_cmp (o_ltZ (uI hr)) l_ltZ (de_ix (dv 9) de_int) (de_ix (dv 9) de_int) (nomark _)) da_nil))) da_nil))))) (dss_one (ds_ret de_bl)) dss_nil)
    (dss_cons (ds_set (i := 11) sc_law.nd (de_lst (da_cons (de_lam (sc := defScope s_law) LM (by decide +kernel)) (da_cons (de_lam1 (sc := defScope s_law) LM (by decide +kernel)) da_nil))))
    (dss_one (ds_if (dt_cmp (o_ne hr.units) l_ne (de_lcZ (Zz := fun σ s H fp => ZL ["_law_script", "_law_box", "_law_turn", "_law_letters_z", "_law_signs_here", "_law_one_z", "_law_at", "_law_near", "_law_other_z", "_law_keys", "_law_found", "_law_asks", "_law_each", "_law_sign", "_law_ask"] _ σ s H fp ∧ ZL ["_law_script", "_law_box", "_law_turn", "_law_letters_z", "_law_signs_here", "_law_one_z", "_law_at", "_law_near", "_law_other_z", "_law_keys", "_law_found", "_law_asks", "_law_each", "_law_sign", "_law_ask"] _ σ s H fp ∧ True) (g := (gName 14)) sc_law.nd (di_list (dv 11)) (blkOk_by (own := [("_law_ask", 14)]) (N := ["_law_script", "_law_box", "_law_turn", "_law_letters_z", "_law_signs_here", "_law_one_z", "_law_at", "_law_near", "_law_other_z", "_law_keys", "_law_found", "_law_asks", "_law_each", "_law_sign", "_law_ask"]) (sc := defScope s_law) (by decide +kernel)) (tg_name (i := 14) (by decide)) (fun _ _ _ _ _ => (pg_name (i := 14) sc_law.nd rfl (Or.inl rfl))) (fun _ _ _ _ _ => dts_nil) (fun σ pins s H fp I hfp => ⟨zl_own (sc := defScope s_law) (by decide +kernel) rfl I hfp, zl_own (sc := defScope s_law) (by decide +kernel) rfl I hfp, trivial⟩) (fun σ s H C cl fp hz => pe_why (k := 4) W (hr.mono (by omega)) (dv 14) (List.forall_mem_cons.mpr ⟨(lamOk_blkN (N := ["_law_script", "_law_box", "_law_turn", "_law_letters_z", "_law_signs_here", "_law_one_z", "_law_at", "_law_near", "_law_other_z", "_law_keys", "_law_found", "_law_asks", "_law_each", "_law_sign", "_law_ask"]) (by decide +kernel) (bind0 rfl fun _ _ _ _ _ _ => rfl) hz.1 (by decide +kernel) (fun E E0 A outer s H f c' hr G wq => (fun ws : @Wish K G E0 E => (de_callX C_precedes ws (hr.mono (by omega)) (da_cons (dv 5) (da_cons (de_add (dv 5) de_str) (da_cons (dv 3) da_nil))))) wq)), (List.forall_mem_cons.mpr ⟨(lamOk_blkN (N := ["_law_script", "_law_box", "_law_turn", "_law_letters_z", "_law_signs_here", "_law_one_z", "_law_at", "_law_near", "_law_other_z", "_law_keys", "_law_found", "_law_asks", "_law_each", "_law_sign", "_law_ask"]) (by decide +kernel) (by exact bind1 (x := "_law_a") rfl rfl fun _ _ _ _ _ _ _ => ⟨_, rfl, fun _ => rfl⟩) hz.2.1 (by decide +kernel) (fun E E0 A outer s H f c' hr G wq => (fun ws : @Wish K G E0 E => (de_callX C_precedes ws (hr.mono (by omega)) (da_cons de_str (da_cons de_str (da_cons (dv 3) da_nil))))) wq)), (fun _ h => absurd h List.not_mem_nil)⟩)⟩))) (de_lst (da_cons (de_tup (da_cons de_str (da_cons de_int da_nil))) (da_cons (de_tup (da_cons de_str (da_cons de_int da_nil))) da_nil))) (nomark _)) (dss_one (ds_ret de_bl)) dss_nil)))))))))))))
    (dss_one (ds_ret (de_and (de_callX C_precedes ws0 (hr.mono (by omega)) (da_cons de_str (da_cons de_str (da_cons de_str da_nil))) LamX.takes0) (de_and (de_callX C_precedes ws0 (hr.mono (by omega)) (da_cons de_str (da_cons de_str (da_cons de_str da_nil))) LamX.takes0) (de_one (de_not (de_callX C_precedes ws0 (hr.mono (by omega)) (da_cons de_str (da_cons de_str (da_cons de_str da_nil))) LamX.takes0))))))))), rfl, rfl⟩
theorem ok_law {P : Program} {w : World} {K : PySem.W.Frag} {mg : Str → Option Value} {base : Heap} {f : Addr} {fd : FuncData} (c : Ks) (B : NB mg) (T : Cn mg) {f__law_begin : Addr} {d__law_begin : FuncData} (C__law_begin : Cal P w K mg base 1 "_law_begin" ["_law_script"] sp__law_begin f__law_begin d__law_begin) {f__law_letters : Addr} {d__law_letters : FuncData} (C__law_letters : Cal P w K mg base 3 "_law_letters" ["_law_box", "_law_many"] sp__law_letters f__law_letters d__law_letters) {f__law_draw : Addr} {d__law_draw : FuncData} (C__law_draw : Cal P w K mg base 1 "_law_draw" ["_law_box", "_law_many"] sp__law_draw f__law_draw d__law_draw) {f__law_signs : Addr} {d__law_signs : FuncData} (C__law_signs : Cal P w K mg base 1 "_law_signs" ["_law_letters_z"] sp__law_signs f__law_signs d__law_signs) {f__law_some_word : Addr} {d__law_some_word : FuncData} (C__law_some_word : Cal P w K mg base 3 "_law_some_word" ["_law_box", "_law_letters_z", "_law_most"] sp__law_some_word f__law_some_word d__law_some_word) {f__law_any : Addr} {d__law_any : FuncData} (C__law_any : Cal P w K mg base 2 "_law_any" ["_law_box", "_law_some"] sp__law_any f__law_any d__law_any) {f_precedes : Addr} {d_precedes : FuncData} (C_precedes : CalX P w K mg base 4 "precedes" ["one", "other", "letters"] (sp_precedes c) f_precedes d_precedes) {f__law_same : Addr} {d__law_same : FuncData} (C__law_same : Cal P w K mg base 5 "_law_same" ["_law_found", "_law_due"] (sp__law_same 3) f__law_same d__law_same) (W : WhyF P w K mg base (cws c)) (KB_precedes_0_letters_other_one : KBinds K d_precedes ["one", "other", "letters"] ["letters", "other", "one"] (gKV 0 3 [2, 1, 0]) (gKV 0 3 [2, 1, 0])) {dvs : List V} {kws : List (Str × V)} (F : DL.FnD K "law" "law" s_law dvs kws f fd) (hT : ∃ cc, fd.code = .ref cc ∧ LamX.TabB base mg cc c.T_law)
    {sp : DSp} (len : ∀ ds M Q E, sp ds M Q E → ds.length = 1) (h : ∀ l0 l1 : LamD, l0.q = q_law → l1.q = q_law → ∀ ds M Q E0, sp ds M Q E0 → t_law c l0 l1 (bodyE K Q) (startD ["_law_script", "_law_box", "_law_turn", "_law_letters_z", "_law_signs_here", "_law_one_z", "_law_at", "_law_near", "_law_other_z", "_law_keys", "_law_found", "_law_asks", "_law_each", "_law_sign", "_law_ask"] ds) M) : FnOk P w K mg base CX0 7 f fd ["_law_script"] (lSp K sp) :=
  dfunL F sc_law hT len fun cdv A outer s H E hr LM => (dv_law c B T C__law_begin C__law_letters C__law_draw C__law_signs C__law_some_word C__law_any C_precedes C__law_same W KB_precedes_0_letters_other_one LM hr).elim fun l0 h0 => h0.elim fun l1 hl1 => ⟨t_law c l0 l1, hl1.1, h l0 l1 hl1.2.1 hl1.2.2⟩
end K02
namespace K02
open PySem PySem.Spec PyProof.Rows L2 DL PRE LamN
local macro_rules | `(tactic| walk_at "dl") => `(tactic| simp only [exists_eq', exists_eq, List.take_nil, List.take_succ_cons, List.take_zero, decide_false, decide_true, dFld_ap, dSetF_ap, dAugF_ap, dMeth_ap, dMake_ap, dProp_ap, insOf_p, insOf_o, dNever_ap, bodyE_rt, bodyE_nx, dVar_ap, dC_ap, dOp_ap, dTB_ap, dTru_ap, dAnd_ap, dOr_ap, dNot_ap, dNotV_ap, dAndV_ap, dOrV_ap, dIf_ap, dIsN_ap, dNext_ap, dSeq_ap, dBreak_ap, dCont_ap, dDrop_ap, dRet_ap, dRetN_ap, dIfS_ap, dgName_ap, dgNil_ap, dgCons_ap, dgTup_ap, dgSub_ap, dAsg_ap, dPar_ap, dAug_ap, dNil_ap, dCons_ap, dTup_ap, dLst_ap, dLstM_ap, dCB_ap, dBM_ap, dBM0_ap, dCall_ap, dCallK_ap, dRev_s, dSl_ap, dPart_ap, dUn_ap, dChain_ap, dIsi_ap, dIsi2_ap, dIter_ap, dIterT_ap, dIterS_ap, dRng1_ap, dRng2_ap, rMulX_ii, rMulX_si, dFmt_ap, fmtD_s, fmtD_i, dJoined_ap, dJs_nil, dJs_cons, jStep_s, dCallK_ap, dNil_ap, rAdd_ii, rAdd_ss, rAdd_tt, rAdd_ll, rSub_ii, rInt2_ii, rNeg_i, rOrd_ii, rOrd_ss, rIadd_ii, rIadd_ss, rEqW_ii, rEqW_ss, rEqW_bb, rIn_ss, rIxD_l, rIxD_x, rIxD_t, rIxD_s, rIxD_p, lstOf_p, lstOf_l, lstOf_x, rSlD_s, rSlD_t, rSlD_l, rSlD_x, rLen_s, rLen_t, rLen_l, rLen_x, rLen_p, rAbs_i, rInt_i, rInt_b, rToListA_t, rToListA_l, rToListA_s, rToListM_t, rToListM_l, rToTup_t, rToTup_l, rToTup_p, rSum_ap, rAll_ap, rAny_ap, rStrN_i, rMax2_ii, rMin2_ii, rS0_ap, rS1_ap, tyD_s, tyD_p, tyD_l, rJoin_l, rJoin_p, rAppend_p, rPop_p, startD, wipeD, List.map_cons, List.map_nil, List.cons_append, List.nil_append, List.append_nil, List.length_cons, List.length_nil, List.getElem?_cons_zero, List.getElem?_cons_succ, List.set_cons_zero, List.set_cons_succ, List.replicate, Nat.reduceAdd, Nat.reduceSub, Nat.sub_zero, up_same, up_up, Bool.false_xor, Bool.true_xor, Bool.not_true, Bool.not_false, if_true, if_false, Bool.false_eq_true, and_true, true_and, ite_true, ite_false, reduceIte, reduceCtorEq, Option.some.injEq, exists_eq_left', exists_eq_left, dCallX_ap, dWhy_ap, dLam_ap, dRaise_ap, dEnumT_ap, T_beq, T_app, dCallKX_ap, rIndexL_l, rIndexS_s])
local macro_rules | `(tactic| walk_at "dlh") => `(tactic| simp only [exists_eq', exists_eq, List.take_nil, List.take_succ_cons, List.take_zero, decide_false, decide_true, dFld_ap, dSetF_ap, dAugF_ap, dMeth_ap, dMake_ap, dProp_ap, insOf_p, insOf_o, dNever_ap, bodyE_rt, bodyE_nx, dVar_ap, dC_ap, dOp_ap, dTB_ap, dTru_ap, dAnd_ap, dOr_ap, dNot_ap, dNotV_ap, dAndV_ap, dOrV_ap, dIf_ap, dIsN_ap, dNext_ap, dSeq_ap, dBreak_ap, dCont_ap, dDrop_ap, dRet_ap, dRetN_ap, dIfS_ap, dgName_ap, dgNil_ap, dgCons_ap, dgTup_ap, dgSub_ap, dAsg_ap, dPar_ap, dAug_ap, dNil_ap, dCons_ap, dTup_ap, dLst_ap, dLstM_ap, dCB_ap, dBM_ap, dBM0_ap, dCall_ap, dCallK_ap, dRev_s, dSl_ap, dPart_ap, dUn_ap, dChain_ap, dIsi_ap, dIsi2_ap, dIter_ap, dIterT_ap, dIterS_ap, dRng1_ap, dRng2_ap, rMulX_ii, rMulX_si, dFmt_ap, fmtD_s, fmtD_i, dJoined_ap, dJs_nil, dJs_cons, jStep_s, dCallK_ap, dNil_ap, rAdd_ii, rAdd_ss, rAdd_tt, rAdd_ll, rSub_ii, rInt2_ii, rNeg_i, rOrd_ii, rOrd_ss, rIadd_ii, rIadd_ss, rEqW_ii, rEqW_ss, rEqW_bb, rIn_ss, rIxD_l, rIxD_x, rIxD_t, rIxD_s, rIxD_p, lstOf_p, lstOf_l, lstOf_x, rSlD_s, rSlD_t, rSlD_l, rSlD_x, rLen_s, rLen_t, rLen_l, rLen_x, rLen_p, rAbs_i, rInt_i, rInt_b, rToListA_t, rToListA_l, rToListA_s, rToListM_t, rToListM_l, rToTup_t, rToTup_l, rToTup_p, rSum_ap, rAll_ap, rAny_ap, rStrN_i, rMax2_ii, rMin2_ii, rS0_ap, rS1_ap, tyD_s, tyD_p, tyD_l, rJoin_l, rJoin_p, rAppend_p, rPop_p, startD, wipeD, List.map_cons, List.map_nil, List.cons_append, List.nil_append, List.append_nil, List.length_cons, List.length_nil, List.getElem?_cons_zero, List.getElem?_cons_succ, List.set_cons_zero, List.set_cons_succ, List.replicate, Nat.reduceAdd, Nat.reduceSub, Nat.sub_zero, up_same, up_up, Bool.false_xor, Bool.true_xor, Bool.not_true, Bool.not_false, if_true, if_false, Bool.false_eq_true, and_true, true_and, ite_true, ite_false, reduceIte, reduceCtorEq, Option.some.injEq, exists_eq_left', exists_eq_left, dCallX_ap, dWhy_ap, dLam_ap, dRaise_ap, dEnumT_ap, T_beq, T_app, dCallKX_ap, rIndexL_l, rIndexS_s, *])
local macro_rules | `(tactic| walk_at "len") => `(tactic| (intro ds M Q E h; first | (obtain ⟨_, h1, _⟩ := h; subst h1; rfl) | (obtain ⟨_, _, h1, _⟩ := h; subst h1; rfl) | (obtain ⟨_, _, _, h1, _⟩ := h; subst h1; rfl) | (obtain ⟨_, _, _, _, h1, _⟩ := h; subst h1; rfl) | (obtain ⟨_, _, _, _, _, h1, _⟩ := h; subst h1; rfl) | (obtain ⟨_, _, _, _, _, _, h1, _⟩ := h; subst h1; rfl) | (obtain ⟨_, _, _, _, _, _, _, h1, _⟩ := h; subst h1; rfl) | (obtain ⟨_, _, _, _, _, _, _, _, h1, _⟩ := h; subst h1; rfl) | (obtain ⟨_, _, _, _, _, _, _, _, _, h1, _⟩ := h; subst h1; rfl)))
local macro_rules | `(tactic| walk_at "ln") => `(tactic| (simp only [List.length_cons, List.length_nil, List.length_map, List.length_append, List.length_take, List.length_drop, List.length_reverse, T_len]; omega))
section
variable {K : PySem.W.Frag} {c : Ks}
theorem loC_lt {x : Nat} (h : x < 128) : loC x < 128 := by
  have : ∀ c < 128, loC c < 128 := by decide +kernel
  exact this x h
theorem rd_is_word : ∀ ds M Q E0, sp_is_word c ds M Q E0 → t_is_word c (bodyE K Q) (startD ["word", "letters", "character"] ds) M := by
  rintro ds M Q E0 ⟨w, l, rfl, hw, hz, q⟩
  unfold t_is_word
  walk_at "dl"
  rw [dLc_un]
  walk_at "dl"
  rw [sgs_T]
  refine lcB_m (xs := w) (fun c => D.str ⟨#[c]⟩) (fun c => D.bl (decide (loC c ∈ l) && isLo (loC c))) True.intro (line (by omega)) (fun x hx R h => ?_) ?_
  · walk_at "dl"
    rw [lo1 (hw x hx)]
    rw [lower_in, strIn_sign, T_cps]
    refine ⟨len1 x, ?_⟩
    cases e : decide (loC x ∈ l) with
    | false => rw [e] at h; simp; exact h
    | true => rw [e] at h; simp; exact ⟨len1 x, by simpa using h⟩
  · walk_at "dl"
    refine ⟨w.map fun c => decide (loC c ∈ l) && isLo (loC c), by rw [List.map_map]; rfl, ?_⟩
    rw [List.all_map]
    exact Fin.same q
theorem ne_nil_app {α : Type} {s : List α} (h : s ≠ []) : ∃ r x, s = r ++ [x] := ⟨s.dropLast, s.getLast h, (List.dropLast_concat_getLast h).symm⟩
theorem beq_sg (a b : Nat) : ((⟨#[a]⟩ : Str) == ⟨#[b]⟩) = decide (a = b) := by
  rw [T_one, T_one, T_beq]
  simp
theorem atI_last {ds : List D} {y : D} (h : ds.length ≤ 1000000) : atI (ds ++ [y]) (-1) = some y := by
  unfold atI
  have : ixN (ds ++ [y]).length (-1) = some ds.length := by
    unfold ixN
    rw [List.length_append]
    simp
    omega
  rw [this]
  simp
theorem enumD_map {α : Type} (f : α → D) : ∀ (k : Nat) (ws : List α), enumD k (ws.map f) = (ws.zipIdx k).map fun p => D.tup [.int (p.2 : Nat), f p.1]
  | _, [] => rfl
  | k, w :: ws => by
    rw [List.map_cons, enumD, enumD_map f (k + 1) ws, List.zipIdx_cons, List.map_cons]
theorem zipIdx_split {α : Type} {ws : List α} {pre post : List (α × Nat)} {w : α} {k : Nat} (e : ws.zipIdx = pre ++ (w, k) :: post) : k = pre.length ∧ ws = pre.map Prod.fst ++ w :: post.map Prod.fst := by
  have h1 : ws = pre.map Prod.fst ++ w :: post.map Prod.fst := by
    have := congrArg (List.map Prod.fst) e
    rw [List.zipIdx_map_fst, List.map_append, List.map_cons] at this
    exact this
  have h2 : ws.zipIdx[pre.length]? = some (w, k) := by rw [e]; simp
  rw [List.getElem?_zipIdx] at h2
  refine ⟨?_, h1⟩
  cases h3 : ws[pre.length]? with
  | none => rw [h3] at h2; simp at h2
  | some v => rw [h3] at h2; simp at h2; omega
theorem rd_check_words : ∀ E0 ds M Q, sp_check_words c ds M Q E0 → t_check_words c E0 (bodyE K Q) (startD ["letters", "words", "at", "word"] ds) M := by
  rintro E0 ds M Q ⟨l, ws, rfl, hw, hz, q1, q2⟩
  unfold t_check_words
  refine for_pre (M1 := M) (kp := fun _ => True) ws.zipIdx (fun p => D.tup [.int (p.2 : Nat), .str (T p.1)]) (fun pre env M' => (∀ p ∈ pre, isW p.1 l = true) ∧ M' = M ∧ ∃ d1 d2, env = [some (.str (T l)), some (.tup (ws.map fun w => .str (T w))), d1, d2]) (fun R h => ?_) ⟨fun p hp => absurd hp List.not_mem_nil, rfl, _, _, rfl⟩ (fun _ _ _ _ => True.intro) ?_ ?_
  · walk_at "dl"
    rw [enumD_map]
    exact h
  · rintro pre ⟨w, k⟩ post env M' e ⟨hp, rfl, d1, d2, rfl⟩
    obtain ⟨hk, hws⟩ := zipIdx_split e
    subst hk
    have hwm : w ∈ ws := by rw [hws]; simp
    walk_at "dl"
    refine ⟨w, l, rfl, (hw w hwm).1, (hw w hwm).2, ?_⟩
    walk_at "dl"
    cases e2 : isW w l with
    | true =>
      walk_at "dl"
      exact ⟨fun p hp' => by
        rcases List.mem_append.mp hp' with h | h
        · exact hp p h
        · rw [List.mem_singleton] at h; subst h; exact e2, _, _, rfl⟩
    | false =>
      walk_at "dl"
      refine q2 _ ?_
      unfold firstBad
      rw [hws, List.findIdx?_append, List.findIdx?_cons]
      have : (pre.map Prod.fst).findIdx? (fun w => !isW w l) = none := by
        rw [List.findIdx?_eq_none_iff]
        intro x hx
        obtain ⟨p, hp', rfl⟩ := List.mem_map.mp hx
        simp [hp p hp']
      rw [this]
      simp [e2]
  · rintro env M' ⟨hp, rfl, d1, d2, rfl⟩
    walk_at "dl"
    refine Fin.same (q1 ?_)
    unfold firstBad
    rw [List.findIdx?_eq_none_iff]
    intro x hx
    rw [show ws = ws.zipIdx.map Prod.fst from (List.zipIdx_map_fst 0 ws).symm] at hx
    obtain ⟨p, hp', rfl⟩ := List.mem_map.mp hx
    simp [hp p hp']
theorem cutS_last {r : List Nat} {y : Nat} : cutS (T (r ++ [y])) none (some (-1)) = T r := by
  unfold cutS
  have h : HT.sIx (T (r ++ [y])).length (T (r ++ [y])).length (some (-1)) = r.length := by
    show (if (-1 : Int) < 0 then ((-1 : Int) + ((T (r ++ [y])).length : Int)).toNat else min (-1 : Int).toNat (T (r ++ [y])).length) = r.length
    rw [if_pos (by decide), T_len, List.length_append]
    simp only [List.length_cons, List.length_nil]
    omega
  rw [h, HT.sIx_none, T_cps, List.drop_zero, Nat.sub_zero, List.take_left]
  rfl
theorem cut_to (L : List Nat) {p : Nat} (h : p ≤ L.length) : cutS (T L) none (some (p : Int)) = T (L.take p) := by
  unfold cutS
  rw [HT.sIx_nat, HT.sIx_none, T_cps, T_len, Nat.min_eq_left h, List.drop_zero, Nat.sub_zero]
  rfl
theorem cut_from (L : List Nat) {p : Nat} (h : p ≤ L.length) : cutS (T L) (some (p : Int)) none = T (L.drop p) := by
  unfold cutS
  rw [HT.sIx_nat, HT.sIx_none, T_cps, T_len, Nat.min_eq_left h]
  show T _ = T _
  congr 1
  exact List.take_of_length_le (by rw [List.length_drop]; omega)
theorem sgn_ok {l w : List Nat} (hl : ∀ c ∈ l, isLo c = true) (hw : ∀ c ∈ w, c ∈ sgn l) : ∀ x ∈ w, x < 128 ∧ isLo (loC x) = true ∧ loC x ∈ l := fun x hx => by
  obtain ⟨c, hc, hx2⟩ := List.mem_flatMap.mp (hw x hx)
  have hb := isLo_lt (hl c hc)
  have key : ∀ c < 123, 97 ≤ c → (loC c = c ∧ loC (c - 32) = c ∧ isLo c = true) := by decide +kernel
  obtain ⟨k1, k2, k3⟩ := key c (by omega) hb.1
  simp only [List.mem_cons, List.not_mem_nil, or_false] at hx2
  rcases hx2 with rfl | rfl
  · rw [k1]; exact ⟨by omega, k3, hc⟩
  · rw [k2]; exact ⟨by omega, k3, hc⟩
theorem pl_T {n : Nat} {l : List Nat} (h : ∀ x ∈ l, x < 128) : Pl n (.str (T l)) = true := pl_s (strOk_T fun c hc => by have := h c hc; omega)
theorem swsw {x : Nat} (h : isLo (loC x) = true) : swC (swC x) = x := by
  have h1 : x ≤ 122 := by
    unfold loC at h
    split at h
    · omega
    · have := isLo_lt h; omega
  have key : ∀ x ≤ 122, isLo (loC x) = true → swC (swC x) = x := by decide +kernel
  exact key x h1 h
theorem chars_len (l : List Nat) : (chars l).length = 2 * l.length := by
  induction l with
  | nil => rfl
  | cons c r ih =>
    unfold chars at ih ⊢
    rw [List.flatMap_cons, List.length_append, ih]
    simp only [List.length_cons, List.length_nil]; omega
theorem rd_characters : ∀ ds M Q E0, sp_characters c ds M Q E0 → t_characters c (bodyE K Q) (startD ["letters", "letter", "character"] ds) M := by
  rintro ds M Q E0 ⟨l, rfl, hl, hz, q⟩
  unfold t_characters
  walk_at "dl"
  rw [dLc2_un]
  walk_at "dl"
  rw [sgs_T]
  refine lc2B_m (xs := l) (fun c => D.str ⟨#[c]⟩) (fun c => [D.str ⟨#[c]⟩, D.str ⟨#[swC c]⟩]) True.intro (line (by have := chars_len l; unfold chars at this; rw [this]; omega)) (fun x hx acc Z hz2 hZ => ?_) (Fin.same q)
  walk_at "dl"
  refine ⟨x, rfl, hl x hx, ?_⟩
  refine ⟨line (by decide), ?_⟩
  refine lc2I_m (kp := fun _ => True) (ys := [D.str ⟨#[x]⟩, D.str ⟨#[swC x]⟩]) id id True.intro hz2 (fun y hy R h => ?_) hZ
  walk_at "dl"
  exact h
end
section
variable {K : PySem.W.Frag} {c : Ks}
theorem flatMap_sg (l : List Nat) : (chs l).map (fun c => D.str ⟨#[c]⟩) = chars l := by
  unfold chs chars
  induction l with
  | nil => rfl
  | cons x r ih => rw [List.flatMap_cons, List.flatMap_cons, List.map_append, ih]; rfl
theorem chs_len (l : List Nat) : (chs l).length = 2 * l.length := by
  unfold chs
  induction l with
  | nil => rfl
  | cons x r ih => rw [List.flatMap_cons, List.length_append, ih]; simp only [List.length_cons, List.length_nil]; omega
theorem eqv_sg (a b : Nat) : D.eqv (.str ⟨#[a]⟩) (.str ⟨#[b]⟩) = decide (a = b) := by
  show ((⟨#[a]⟩ : Str) == ⟨#[b]⟩) = _
  exact beq_sg a b
theorem index_at {l : List Nat} {x : Nat} (hx : x ∈ l) : (l.map fun c => D.str ⟨#[c]⟩)[l.idxOf x]? = some (.str ⟨#[x]⟩) ∧ ∀ (m : Nat) (z' : D), m < l.idxOf x → (l.map fun c => D.str ⟨#[c]⟩)[m]? = some z' → D.eqv z' (.str ⟨#[x]⟩) = false := by
  have hi : l.idxOf x < l.length := List.idxOf_lt_length_of_mem hx
  refine ⟨by rw [List.getElem?_map, List.getElem?_eq_getElem hi, List.getElem_idxOf hi]; rfl, fun m z' hm hz => ?_⟩
  rw [List.getElem?_map] at hz
  cases h : l[m]? with
  | none => rw [h] at hz; cases hz
  | some y =>
    rw [h] at hz
    cases hz
    rw [eqv_sg]
    refine decide_eq_false fun e => ?_
    have := List.not_of_lt_findIdx (p := (· == x)) (xs := l) (i := m) hm
    obtain ⟨hl, e2⟩ := List.getElem?_eq_some_iff.mp h
    rw [e2, e] at this
    simp at this
theorem rd_rank : ∀ ds M Q E0, sp_rank c ds M Q E0 → t_rank c (bodyE K Q) (startD ["word", "letters", "order", "character"] ds) M := by
  rintro ds M Q E0 ⟨w, l, rfl, hw, hl, hz, hz2, hm, q⟩
  unfold t_rank
  walk_at "dl"
  refine ⟨l, rfl, hl, hz2, ?_⟩
  rw [T_len]
  refine ⟨line (by omega), ?_⟩
  rw [dLc_un]
  walk_at "dl"
  rw [sgs_T]
  refine lcB_m (xs := w) (fun c => D.str ⟨#[c]⟩) (fun c => D.int ((chs l).idxOf c : Nat)) True.intro (line (by omega)) (fun x hx R h => ?_) ?_
  · walk_at "dl"
    rw [← flatMap_sg]
    obtain ⟨h1, h2⟩ := index_at (hm x hx)
    refine ⟨⟨rfl, List.all_eq_true.mpr fun d hd => by obtain ⟨y, _, rfl⟩ := List.mem_map.mp hd; rfl⟩, _, _, h1, by rw [eqv_sg]; exact decide_eq_true rfl, h2, h⟩
  · exact ⟨line (by decide), Fin.same q⟩
theorem key_pl (w l : List Nat) (h : w.length ≤ 10000) : Pl 2 (keyD w l) = true :=
  pl_tup (pl_cons pl_int (pl_cons (pl_lst (fun d hd => by obtain ⟨x, _, rfl⟩ := List.mem_map.mp hd; exact pl_int) (by rw [List.length_map]; omega)) pl_nil)) (by show 2 ≤ _; decide)
theorem alike_ints : ∀ (a b : List Nat), PySem.W.alikeAll (D.pys (a.map fun i => D.int (i : Nat))) (D.pys (b.map fun i => D.int (i : Nat))) = true
  | [], [] => rfl
  | [], b :: bs => rfl
  | a :: as, [] => rfl
  | a :: as, b :: bs => by
    rw [List.map_cons, List.map_cons, D.pys, D.pys, PySem.W.alikeAll, alike_ints as bs, Bool.and_true]
    rfl
theorem lt_of {u v l : List Nat} {M : Mp} {Q : DQ} (h1 : u.length ≤ 10000) (h2 : v.length ≤ 10000) (q : Q (.bl (ltK u v l)) M) : rLtZ (keyD u l) (keyD v l) M Q := by
  obtain ⟨a1, a2, a3⟩ := pl_sh 2 _ (key_pl u l h1)
  obtain ⟨b1, b2, b3⟩ := pl_sh 2 _ (key_pl v l h2)
  have dp : min (keyD u l).py.depth (keyD v l).py.depth ≤ 60 := by
    have := Nat.min_le_left (keyD u l).py.depth (keyD v l).py.depth
    omega
  have ne : (keyD u l).py ≠ PyData.none := fun z => by
    unfold keyD at z
    rw [D.py] at z
    cases z
  refine ⟨⟨a1, b1⟩, ?_, ne, dp, q⟩
  show PySem.W.alike (keyD u l).py (keyD v l).py = true
  have h := alike_ints (u.map fun c => (chs l).idxOf c) (v.map fun c => (chs l).idxOf c)
  rw [List.map_map, List.map_map] at h
  unfold keyD
  simp only [D.py, D.pys, PySem.W.alike, PySem.W.alikeAll, Bool.true_and, Bool.and_true]
  exact h
theorem rd_precedes : ∀ E0 ds M Q, sp_precedes c ds M Q E0 → t_precedes c E0 (bodyE K Q) (startD ["one", "other", "letters"] ds) M := by
  rintro E0 ds M Q ⟨u, v, l, rfl, hu, hv, hl, hz1, hz2, hz3, q1, q2⟩
  unfold t_precedes
  walk_at "dl"
  have hla : Asc l := fun x hx => by have := isLo_lt (hl x hx); omega
  refine ⟨_, [.str (T u), .str (T v)], rfl, by show 2 ≤ 5; decide, l, [u, v], rfl, fun z hz => ?_, by show 2 ≤ 5; decide, fun h => ?_, fun k h => q2 k h⟩
  · simp only [List.mem_cons, List.not_mem_nil, or_false] at hz
    rcases hz with rfl | rfl
    · exact ⟨hu, by omega⟩
    · exact ⟨hv, by omega⟩
  · have hb := List.findIdx?_eq_none_iff.mp h
    have hb1 := hb u (by simp)
    have hb2 := hb v (by simp)
    have mem : ∀ w : List Nat, Asc w → (!isW w l) = false → ∀ x ∈ w, x ∈ chs l := fun w ha hw x hx => by
      have hw : isW w l = true := by simpa using hw
      have := List.all_eq_true.mp hw x hx
      simp only [Bool.and_eq_true, decide_eq_true_eq] at this
      obtain ⟨h1, h2⟩ := this
      have key : ∀ x < 128, isLo (loC x) = true → x = loC x ∨ x = swC (loC x) := by decide +kernel
      unfold chs
      refine List.mem_flatMap.mpr ⟨loC x, h1, ?_⟩
      rcases key x (ha x hx) h2 with h | h
      · exact List.mem_cons.mpr (.inl h)
      · exact List.mem_cons_of_mem _ (List.mem_singleton.mpr h)
    refine ⟨u, l, rfl, hu, hla, by omega, hz3, mem u hu hb1, v, l, rfl, hv, hla, by omega, hz3, mem v hv hb2, lt_of (by omega) (by omega) (Fin.same (q1 h))⟩
end
end K02
namespace K02
open PySem PySem.Spec PyProof.Rows L2 DL PRE LamN
local macro_rules | `(tactic| walk_at "dl") => `(tactic| simp only [exists_eq', exists_eq, List.take_nil, List.take_succ_cons, List.take_zero, decide_false, decide_true, dFld_ap, dSetF_ap, dAugF_ap, dMeth_ap, dMake_ap, dProp_ap, insOf_p, insOf_o, dNever_ap, bodyE_rt, bodyE_nx, dVar_ap, dC_ap, dOp_ap, dTB_ap, dTru_ap, dAnd_ap, dOr_ap, dNot_ap, dNotV_ap, dAndV_ap, dOrV_ap, dIf_ap, dIsN_ap, dNext_ap, dSeq_ap, dBreak_ap, dCont_ap, dDrop_ap, dRet_ap, dRetN_ap, dIfS_ap, dgName_ap, dgNil_ap, dgCons_ap, dgTup_ap, dgSub_ap, dAsg_ap, dPar_ap, dAug_ap, dNil_ap, dCons_ap, dTup_ap, dLst_ap, dLstM_ap, dCB_ap, dBM_ap, dBM0_ap, dCall_ap, dCallK_ap, dRev_s, dSl_ap, dPart_ap, dUn_ap, dChain_ap, dIsi_ap, dIsi2_ap, dIter_ap, dIterT_ap, dIterS_ap, dRng1_ap, dRng2_ap, rMulX_ii, rMulX_si, dFmt_ap, fmtD_s, fmtD_i, dJoined_ap, dJs_nil, dJs_cons, jStep_s, dCallK_ap, dNil_ap, rAdd_ii, rAdd_ss, rAdd_tt, rAdd_ll, rSub_ii, rInt2_ii, rNeg_i, rOrd_ii, rOrd_ss, rIadd_ii, rIadd_ss, rEqW_ii, rEqW_ss, rEqW_bb, rIn_ss, rIxD_l, rIxD_x, rIxD_t, rIxD_s, rIxD_p, lstOf_p, lstOf_l, lstOf_x, rSlD_s, rSlD_t, rSlD_l, rSlD_x, rLen_s, rLen_t, rLen_l, rLen_x, rLen_p, rAbs_i, rInt_i, rInt_b, rToListA_t, rToListA_l, rToListA_s, rToListM_t, rToListM_l, rToTup_t, rToTup_l, rToTup_p, rSum_ap, rAll_ap, rAny_ap, rStrN_i, rMax2_ii, rMin2_ii, rS0_ap, rS1_ap, tyD_s, tyD_p, tyD_l, rJoin_l, rJoin_p, rAppend_p, rPop_p, startD, wipeD, List.map_cons, List.map_nil, List.cons_append, List.nil_append, List.append_nil, List.length_cons, List.length_nil, List.getElem?_cons_zero, List.getElem?_cons_succ, List.set_cons_zero, List.set_cons_succ, List.replicate, Nat.reduceAdd, Nat.reduceSub, Nat.sub_zero, up_same, up_up, Bool.false_xor, Bool.true_xor, Bool.not_true, Bool.not_false, if_true, if_false, Bool.false_eq_true, and_true, true_and, ite_true, ite_false, reduceIte, reduceCtorEq, Option.some.injEq, exists_eq_left', exists_eq_left, dCallX_ap, dWhy_ap, dLam_ap, dRaise_ap, dEnumT_ap, T_beq, T_app, dCallKX_ap, rIndexL_l, rIndexS_s])
local macro_rules | `(tactic| walk_at "dlh") => `(tactic| simp only [exists_eq', exists_eq, List.take_nil, List.take_succ_cons, List.take_zero, decide_false, decide_true, dFld_ap, dSetF_ap, dAugF_ap, dMeth_ap, dMake_ap, dProp_ap, insOf_p, insOf_o, dNever_ap, bodyE_rt, bodyE_nx, dVar_ap, dC_ap, dOp_ap, dTB_ap, dTru_ap, dAnd_ap, dOr_ap, dNot_ap, dNotV_ap, dAndV_ap, dOrV_ap, dIf_ap, dIsN_ap, dNext_ap, dSeq_ap, dBreak_ap, dCont_ap, dDrop_ap, dRet_ap, dRetN_ap, dIfS_ap, dgName_ap, dgNil_ap, dgCons_ap, dgTup_ap, dgSub_ap, dAsg_ap, dPar_ap, dAug_ap, dNil_ap, dCons_ap, dTup_ap, dLst_ap, dLstM_ap, dCB_ap, dBM_ap, dBM0_ap, dCall_ap, dCallK_ap, dRev_s, dSl_ap, dPart_ap, dUn_ap, dChain_ap, dIsi_ap, dIsi2_ap, dIter_ap, dIterT_ap, dIterS_ap, dRng1_ap, dRng2_ap, rMulX_ii, rMulX_si, dFmt_ap, fmtD_s, fmtD_i, dJoined_ap, dJs_nil, dJs_cons, jStep_s, dCallK_ap, dNil_ap, rAdd_ii, rAdd_ss, rAdd_tt, rAdd_ll, rSub_ii, rInt2_ii, rNeg_i, rOrd_ii, rOrd_ss, rIadd_ii, rIadd_ss, rEqW_ii, rEqW_ss, rEqW_bb, rIn_ss, rIxD_l, rIxD_x, rIxD_t, rIxD_s, rIxD_p, lstOf_p, lstOf_l, lstOf_x, rSlD_s, rSlD_t, rSlD_l, rSlD_x, rLen_s, rLen_t, rLen_l, rLen_x, rLen_p, rAbs_i, rInt_i, rInt_b, rToListA_t, rToListA_l, rToListA_s, rToListM_t, rToListM_l, rToTup_t, rToTup_l, rToTup_p, rSum_ap, rAll_ap, rAny_ap, rStrN_i, rMax2_ii, rMin2_ii, rS0_ap, rS1_ap, tyD_s, tyD_p, tyD_l, rJoin_l, rJoin_p, rAppend_p, rPop_p, startD, wipeD, List.map_cons, List.map_nil, List.cons_append, List.nil_append, List.append_nil, List.length_cons, List.length_nil, List.getElem?_cons_zero, List.getElem?_cons_succ, List.set_cons_zero, List.set_cons_succ, List.replicate, Nat.reduceAdd, Nat.reduceSub, Nat.sub_zero, up_same, up_up, Bool.false_xor, Bool.true_xor, Bool.not_true, Bool.not_false, if_true, if_false, Bool.false_eq_true, and_true, true_and, ite_true, ite_false, reduceIte, reduceCtorEq, Option.some.injEq, exists_eq_left', exists_eq_left, dCallX_ap, dWhy_ap, dLam_ap, dRaise_ap, dEnumT_ap, T_beq, T_app, dCallKX_ap, rIndexL_l, rIndexS_s, *])
local macro_rules | `(tactic| walk_at "len") => `(tactic| (intro ds M Q E h; first | (obtain ⟨_, h1, _⟩ := h; subst h1; rfl) | (obtain ⟨_, _, h1, _⟩ := h; subst h1; rfl) | (obtain ⟨_, _, _, h1, _⟩ := h; subst h1; rfl) | (obtain ⟨_, _, _, _, h1, _⟩ := h; subst h1; rfl) | (obtain ⟨_, _, _, _, _, h1, _⟩ := h; subst h1; rfl) | (obtain ⟨_, _, _, _, _, _, h1, _⟩ := h; subst h1; rfl) | (obtain ⟨_, _, _, _, _, _, _, h1, _⟩ := h; subst h1; rfl) | (obtain ⟨_, _, _, _, _, _, _, _, h1, _⟩ := h; subst h1; rfl) | (obtain ⟨_, _, _, _, _, _, _, _, _, h1, _⟩ := h; subst h1; rfl)))
local macro_rules | `(tactic| walk_at "ln") => `(tactic| (simp only [List.length_cons, List.length_nil, List.length_map, List.length_append, List.length_take, List.length_drop, List.length_reverse, T_len]; omega))
section
variable {K : PySem.W.Frag} {c : Ks}
theorem isW_q (w l : List Nat) (hl : Lets l) : isW (w ++ [63]) l = false := by
  unfold isW
  rw [List.all_append]
  simp [isLo, loC]
theorem chs_sgn {l : List Nat} (hl : ∀ x ∈ l, isLo x = true) : chs l = sgn l := by
  unfold chs sgn
  induction l with
  | nil => rfl
  | cons x r ih =>
    have h1 := hl x List.mem_cons_self
    have h2 := isLo_lt h1
    rw [List.flatMap_cons, List.flatMap_cons, ih fun y hy => hl y (List.mem_cons_of_mem _ hy)]
    have : swC x = x - 32 := by
      unfold swC upC
      rw [if_pos h1, if_pos h2]
    rw [this]
theorem key_law {Q : DQ} {M : Mp} {l w : List Nat} {env : DSt} (h4 : env[4]? = some (some (.str (T (sgn l))))) (h12 : env[12]? = some (some (.str (T w)))) (hN : env.length = 15) (hw : ∀ x ∈ w, x ∈ sgn l) (hz : w.length ≤ 10000) (hl : ∀ x ∈ l, isLo x = true) (q : Q (keyD w l) M) :
    dTup (dCons (dCB rLen (dCons (dVar 12) dNil)) (dCons (dLc (dIterS (dVar 12)) (dgName 13) dYes (dBM "str" rIndexS (dVar 4) (dCons (dVar 13) dNil)) [13]) dNil)) env M Q := by
  match env, hN, h4, h12 with
  | [d0, d1, d2, d3, d4, d5, d6, d7, d8, d9, d10, d11, d12, d13, d14], _, h4, h12 =>
    simp only [List.getElem?_cons_succ, List.getElem?_cons_zero, Option.some.injEq] at h4 h12
    subst h4 h12
    walk_at "dl"
    rw [T_len]
    refine ⟨line (by omega), ?_⟩
    rw [dLc_un]
    walk_at "dl"
    rw [sgs_T]
    refine lcB_m (xs := w) (fun c => D.str ⟨#[c]⟩) (fun c => D.int ((chs l).idxOf c : Nat)) True.intro (line (by omega)) (fun x hx R h => ?_) ?_
    · walk_at "dl"
      obtain ⟨rest, e⟩ := occ_sign (hw x hx)
      rw [chs_sgn hl] at h
      exact ⟨_, rest, e, h⟩
    · exact ⟨line (by decide), q⟩
theorem cut_any (L : List Nat) {p : Nat} : cutS (T L) (some (p : Int)) none = T (L.drop p) := by
  unfold cutS
  rw [HT.sIx_nat, HT.sIx_none, T_cps, T_len]
  show T _ = T _
  congr 1
  by_cases hp : p ≤ L.length
  · rw [Nat.min_eq_left hp]
    exact List.take_of_length_le (by rw [List.length_drop]; omega)
  · rw [List.drop_of_length_le (by omega), List.drop_of_length_le (by omega), List.take_nil]
theorem rd_law : ∀ l0 l1 : LamD, l0.q = q_law → l1.q = q_law → ∀ ds M Q E0, sp_law c ds M Q E0 → t_law c l0 l1 (bodyE K Q) (startD ["_law_script", "_law_box", "_law_turn", "_law_letters_z", "_law_signs_here", "_law_one_z", "_law_at", "_law_near", "_law_other_z", "_law_keys", "_law_found", "_law_asks", "_law_each", "_law_sign", "_law_ask"] ds) M := by
  rintro l0 l1 hq0 hq1 ds M Q E0 ⟨ms, rfl, hz, rfl, q⟩
  unfold t_law
  walk_at "dl"
  refine ⟨ms, rfl, hz, fun a mo ha hb => ?_⟩
  have hne : a ≠ c.T_law := fun e => by rw [e] at ha; simp [tabM] at ha
  have hT : ∀ o, up (tabM [(c.T_law, qL)]) a o c.T_law = some (.tab qL) := fun o => by rw [up_ne hne.symm]; simp [tabM]
  have hqq0 : l0.q = qL := hq0
  have hqq1 : l1.q = qL := hq1
  walk_at "dl"
  refine for_pre (M1 := up (tabM [(c.T_law, qL)]) a mo) (kp := fun _ => True) [0, 1, 2, 3, 4] (fun i : Int => D.int i) (fun _ env M' => ∃ mo d2 d3 d4 d5 d6 d7 d8 d9 d10 d11, BoxOk mo ∧ M' = up (tabM [(c.T_law, qL)]) a mo ∧ env = [some (.lsx (ms.map D.int)), some (.ptr a), d2, d3, d4, d5, d6, d7, d8, d9, d10, d11, none, none, none]) (fun R h => ?_) ⟨mo, _, _, _, _, _, _, _, _, _, _, hb, rfl, rfl⟩ (fun _ _ _ _ => True.intro) ?_ ?_
  · walk_at "dl"
    exact ⟨by decide, h⟩
  · rintro pre x post env M' e ⟨mo1, d2, d3, d4, d5, d6, d7, d8, d9, d10, d11, hb1, rfl, rfl⟩
    walk_at "dl"
    refine ⟨a, 3, mo1, rfl, by decide, by decide, up_same, hb1, fun r mo2 h0 h1 hb2 => ?_⟩
    walk_at "dl"
    obtain ⟨n, rfl⟩ : ∃ n : Nat, r = n := ⟨r.toNat, by omega⟩
    refine ⟨a, 1 + n, mo2, by rw [show (1 : Int) + n = ((1 + n : Nat) : Int) by omega], by omega, up_same, hb2, fun l mo3 hl hll hb3 => ?_⟩
    walk_at "dl"
    refine ⟨l, rfl, hl.isLo, by omega, a, l, 6, mo3, rfl, hl.isLo, by omega, by omega, by decide, up_same, hb3, fun w mo4 hw1 hw2 hb4 => ?_⟩
    walk_at "dl"
    rw [T_len]
    refine ⟨line (by omega), a, (w.length : Int) + 1, mo4, rfl, by omega, by omega, up_same, hb4, fun r2 mo5 h20 h21 hb5 => ?_⟩
    obtain ⟨k, rfl⟩ : ∃ k : Nat, r2 = k := ⟨r2.toNat, by omega⟩
    have hk : k ≤ w.length := by omega
    have hlet := sgn_ok hl.isLo hw2
    have hwa : Asc w := fun x hx => (hlet x hx).1
    have hsg : ∀ x ∈ sgn l, x < 128 := fun x hx => (sgn_ok hl.isLo (w := sgn l) (fun c hc => hc) x hx).1
    walk_at "dl"
    have hsl := sgn_len l
    refine ⟨line (by omega), line (by rw [T_len]; omega), a, _, mo5, rfl, by rw [sgs_T, List.length_map]; omega, by rw [sgs_T, List.length_map]; omega, up_same, hb5, fun d mo6 hd hb6 => ?_⟩
    obtain ⟨y, hy, rfl⟩ : ∃ y, y ∈ sgn l ∧ d = .str (T [y]) := by
      rw [sgs_T] at hd
      obtain ⟨y, hy, rfl⟩ := List.mem_map.mp hd
      exact ⟨y, hy, rfl⟩
    walk_at "dl"
    rw [cut_to w hk]
    refine ⟨line (by rw [T_len, T_len, List.length_take]; simp only [List.length_cons, List.length_nil]; omega), a, 2, mo6, rfl, by decide, by decide, up_same, hb6, fun r3 mo7 h30 h31 hb7 => ?_⟩
    obtain ⟨j, rfl⟩ : ∃ j : Nat, r3 = j := ⟨r3.toNat, by omega⟩
    walk_at "dl"
    rw [show (k : Int) + (j : Int) = ((k + j : Nat) : Int) by omega, cut_any]
    walk_at "dl"
    generalize hnear : w.take k ++ [y] ++ w.drop (k + j) = near
    have hnl : near.length ≤ 7 := by
      rw [← hnear, List.length_append, List.length_append, List.length_take, List.length_drop]
      simp only [List.length_cons, List.length_nil]
      omega
    have hns : ∀ x ∈ near, x ∈ sgn l := fun x hx => by
      rw [← hnear] at hx
      rcases List.mem_append.mp hx with h | h
      · rcases List.mem_append.mp h with h | h
        · exact hw2 x (List.mem_of_mem_take h)
        · rw [List.mem_singleton] at h; subst h; exact hy
      · exact hw2 x (List.mem_of_mem_drop h)
    refine ⟨line (by omega), line (by rw [T_len, T_len, List.length_append, List.length_take, List.length_drop]; simp only [List.length_cons, List.length_nil]; omega), ?_⟩
    refine ⟨a, l, 6, mo7, rfl, hl.isLo, by omega, by omega, by decide, up_same, hb7, fun w2 mo8 hw21 hw22 hb8 => ?_⟩
    walk_at "dl"
    refine ⟨line (by decide), a, _, mo8, rfl, by walk_at "ln", by walk_at "ln", up_same, hb8, fun d mo9 hd hb9 => ?_⟩
    obtain ⟨v, rfl, hvl, hvs⟩ : ∃ v, d = .str (T v) ∧ v.length ≤ 7 ∧ ∀ x ∈ v, x ∈ sgn l := by
      simp only [List.mem_cons, List.not_mem_nil, or_false] at hd
      rcases hd with rfl | rfl | rfl | rfl
      · exact ⟨near, rfl, hnl, hns⟩
      · exact ⟨near, rfl, hnl, hns⟩
      · exact ⟨w2, rfl, by omega, hw22⟩
      · exact ⟨w, rfl, by omega, hw2⟩
    have hva : Asc v := fun x hx => (sgn_ok hl.isLo hvs x hx).1
    have hWw : isW w l = true := by
      unfold isW
      rw [List.all_eq_true]
      intro x hx
      simp [(hlet x hx).2.1, (hlet x hx).2.2]
    have hWv : isW v l = true := by
      unfold isW
      rw [List.all_eq_true]
      intro x hx
      have := sgn_ok hl.isLo hvs x hx
      simp [this.2.1, this.2.2]
    rw [dLc_un]
    walk_at "dl"
    refine ⟨line (by decide), ?_⟩
    refine lcB_m (xs := [w, v]) (fun u => D.str (T u)) (fun u => keyD u l) True.intro (line (by walk_at "ln")) (fun u hu R h => ?_) ?_
    · have hu2 : (∀ x ∈ u, x ∈ sgn l) ∧ u.length ≤ 10000 := by
        simp only [List.mem_cons, List.not_mem_nil, or_false] at hu
        rcases hu with rfl | rfl
        · exact ⟨hw2, by omega⟩
        · exact ⟨hvs, by omega⟩
      exact key_law rfl rfl rfl hu2.1 hu2.2 hl.isLo h
    · walk_at "dl"
      have nob : ∀ u u2 : List Nat, isW u l = true → isW u2 l = true → firstBad [u, u2] l = none := fun u u2 h1 h2 => by
        unfold firstBad
        rw [List.findIdx?_eq_none_iff]
        intro z hz
        simp only [List.mem_cons, List.not_mem_nil, or_false] at hz
        rcases hz with rfl | rfl
        · simp [h1]
        · simp [h2]
      refine ⟨w, v, l, rfl, hwa, hva, hl.isLo, by omega, by omega, by omega, fun _ => ?_, fun k h => by rw [nob w v hWw hWv] at h; cases h⟩
      refine ⟨v, w, l, rfl, hva, hwa, hl.isLo, by omega, by omega, by omega, fun _ => ?_, fun k h => by rw [nob v w hWv hWw] at h; cases h⟩
      refine ⟨line (by decide), _, rfl, _, rfl, lt_of (by omega) (by omega) ⟨_, rfl, _, rfl, lt_of (by omega) (by omega) ?_⟩⟩
      refine ⟨line (by decide), _, rfl, pl_lst (pl_cons pl_bl (pl_cons pl_bl pl_nil)) (by show 2 ≤ _; decide), ?_⟩
      walk_at "dl"
      refine ⟨by rw [hqq0]; exact hT _, by rw [hqq1]; exact hT _, line (by decide), ?_⟩
      rw [dLc_un]
      walk_at "dl"
      refine lcB_m (xs := [(l0, D.tup [.str "InvalidWord", .int 1]), (l1, D.tup [.str "InvalidWord", .int 0])]) (fun p => D.fn p.1) (fun p => p.2) True.intro (line (by walk_at "ln")) (fun p hp R h => ?_) ?_
      · walk_at "dl"
        simp only [List.mem_cons, List.not_mem_nil, or_false] at hp
        have qm : Str.ofString "?" = T [63] := by decide +kernel
        rcases hp with rfl | rfl
        · refine whyB_mem List.mem_cons_self ?_
          walk_at "dl"
          rw [qm]
          walk_at "dl"
          refine ⟨line (by walk_at "ln"), w, w ++ [63], l, rfl, hwa, fun x hx => ?_, hl.isLo, by omega, by walk_at "ln", by omega, fun h => ?_, fun k h => ?_⟩
          · rcases List.mem_append.mp hx with h | h
            · exact hwa x h
            · rw [List.mem_singleton] at h; omega
          · have := List.findIdx?_eq_none_iff.mp h (w ++ [63]) (by simp)
            rw [isW_q w l hl] at this
            cases this
          · have hk1 : firstBad [w, w ++ [63]] l = some 1 := by
              unfold firstBad
              rw [List.findIdx?_cons, List.findIdx?_cons, isW_q w l hl, hWw]
              rfl
            rw [hk1] at h
            cases h
            exact whyX_of (t := "InvalidWord") (d := .int 1) List.mem_cons_self (by kernel_rfl) h
        · refine whyB_mem (List.mem_cons_of_mem _ List.mem_cons_self) ?_
          walk_at "dl"
          rw [qm]
          have hq := isW_q [] l hl
          refine ⟨[63], [63], l, rfl, fun x hx => by rw [List.mem_singleton] at hx; omega, fun x hx => by rw [List.mem_singleton] at hx; omega, hl.isLo, by decide, by decide, by omega, fun h => ?_, fun k h => ?_⟩
          · have := List.findIdx?_eq_none_iff.mp h [63] (by simp)
            rw [show ([63] : List Nat) = [] ++ [63] from rfl, hq] at this
            cases this
          · have hk1 : firstBad [[63], [63]] l = some 0 := by
              unfold firstBad
              rw [List.findIdx?_cons, show ([63] : List Nat) = [] ++ [63] from rfl, hq]
              rfl
            rw [hk1] at h
            cases h
            exact whyX_of (t := "InvalidWord") (d := .int 0) List.mem_cons_self (by kernel_rfl) h
      · walk_at "dl"
        refine ⟨line (by decide), line (by decide), line (by decide), ?_⟩
        have hpl : ∀ k : Int, Pl 1 (D.tup [.str "InvalidWord", .int k]) = true := fun k => pl_tup (pl_cons (pl_s (by decide +kernel)) (pl_cons pl_int pl_nil)) (by show 2 ≤ _; decide)
        refine rEqW_ll (n := 2) (pl_lst (pl_cons (hpl 1) (pl_cons (hpl 0) pl_nil)) (by show 2 ≤ _; decide)) (pl_lst (pl_cons (hpl 1) (pl_cons (hpl 0) pl_nil)) (by show 2 ≤ _; decide)) (by decide) ?_
        rw [pl_self (n := 2) (pl_lst (pl_cons (hpl 1) (pl_cons (hpl 0) pl_nil)) (by show 2 ≤ _; decide))]
        walk_at "dl"
        exact ⟨mo9, _, _, _, _, _, _, _, _, _, _, hb9, rfl, rfl⟩
  · rintro env M' ⟨mo1, d2, d3, d4, d5, d6, d7, d8, d9, d10, d11, hb1, rfl, rfl⟩
    walk_at "dl"
    have s1 : Str.ofString "T" = T [84] := by decide +kernel
    have s2 : Str.ofString "a" = T [97] := by decide +kernel
    have s3 : Str.ofString "ta" = T [116, 97] := by decide +kernel
    have s4 : Str.ofString "t" = T [116] := by decide +kernel
    rw [s1, s2, s3, s4]
    have n1 : firstBad [[84], [97]] [116, 97] = none := by decide +kernel
    have n2 : firstBad [[116], [84]] [116, 97] = none := by decide +kernel
    have n3 : firstBad [[116, 97], [97]] [116, 97] = none := by decide +kernel
    have l1' : ltK [84] [97] [116, 97] = true := by decide +kernel
    have l2' : ltK [116] [84] [116, 97] = true := by decide +kernel
    have l3' : ltK [116, 97] [97] [116, 97] = false := by decide +kernel
    refine ⟨[84], [97], [116, 97], rfl, by decide, by decide, by decide, by decide, by decide, by decide, fun _ => ?_, fun k h => by rw [n1] at h; cases h⟩
    rw [l1']
    walk_at "dl"
    refine ⟨[116], [84], [116, 97], rfl, by decide, by decide, by decide, by decide, by decide, by decide, fun _ => ?_, fun k h => by rw [n2] at h; cases h⟩
    rw [l2']
    walk_at "dl"
    refine ⟨[116, 97], [97], [116, 97], rfl, by decide, by decide, by decide, by decide, by decide, by decide, fun _ => ?_, fun k h => by rw [n3] at h; cases h⟩
    rw [l3']
    walk_at "dl"
    exact Fin.drop (Sub.up Sub.refl ha) q
end
end K02
namespace K02
open PySem PySem.Spec PyProof.Rows L2 DL PRE LamN
local macro_rules | `(tactic| walk_at "dl") => `(tactic| simp only [exists_eq', exists_eq, List.take_nil, List.take_succ_cons, List.take_zero, decide_false, decide_true, dFld_ap, dSetF_ap, dAugF_ap, dMeth_ap, dMake_ap, dProp_ap, insOf_p, insOf_o, dNever_ap, bodyE_rt, bodyE_nx, dVar_ap, dC_ap, dOp_ap, dTB_ap, dTru_ap, dAnd_ap, dOr_ap, dNot_ap, dNotV_ap, dAndV_ap, dOrV_ap, dIf_ap, dIsN_ap, dNext_ap, dSeq_ap, dBreak_ap, dCont_ap, dDrop_ap, dRet_ap, dRetN_ap, dIfS_ap, dgName_ap, dgNil_ap, dgCons_ap, dgTup_ap, dgSub_ap, dAsg_ap, dPar_ap, dAug_ap, dNil_ap, dCons_ap, dTup_ap, dLst_ap, dLstM_ap, dCB_ap, dBM_ap, dBM0_ap, dCall_ap, dCallK_ap, dRev_s, dSl_ap, dPart_ap, dUn_ap, dChain_ap, dIsi_ap, dIsi2_ap, dIter_ap, dIterT_ap, dIterS_ap, dRng1_ap, dRng2_ap, rMulX_ii, rMulX_si, dFmt_ap, fmtD_s, fmtD_i, dJoined_ap, dJs_nil, dJs_cons, jStep_s, dCallK_ap, dNil_ap, rAdd_ii, rAdd_ss, rAdd_tt, rAdd_ll, rSub_ii, rInt2_ii, rNeg_i, rOrd_ii, rOrd_ss, rIadd_ii, rIadd_ss, rEqW_ii, rEqW_ss, rEqW_bb, rIn_ss, rIxD_l, rIxD_x, rIxD_t, rIxD_s, rIxD_p, lstOf_p, lstOf_l, lstOf_x, rSlD_s, rSlD_t, rSlD_l, rSlD_x, rLen_s, rLen_t, rLen_l, rLen_x, rLen_p, rAbs_i, rInt_i, rInt_b, rToListA_t, rToListA_l, rToListA_s, rToListM_t, rToListM_l, rToTup_t, rToTup_l, rToTup_p, rSum_ap, rAll_ap, rAny_ap, rStrN_i, rMax2_ii, rMin2_ii, rS0_ap, rS1_ap, tyD_s, tyD_p, tyD_l, rJoin_l, rJoin_p, rAppend_p, rPop_p, startD, wipeD, List.map_cons, List.map_nil, List.cons_append, List.nil_append, List.append_nil, List.length_cons, List.length_nil, List.getElem?_cons_zero, List.getElem?_cons_succ, List.set_cons_zero, List.set_cons_succ, List.replicate, Nat.reduceAdd, Nat.reduceSub, Nat.sub_zero, up_same, up_up, Bool.false_xor, Bool.true_xor, Bool.not_true, Bool.not_false, if_true, if_false, Bool.false_eq_true, and_true, true_and, ite_true, ite_false, reduceIte, reduceCtorEq, Option.some.injEq, exists_eq_left', exists_eq_left, dCallX_ap, dWhy_ap, dLam_ap, dRaise_ap, dEnumT_ap, T_beq, T_app, dCallKX_ap, rIndexL_l, rIndexS_s])
local macro_rules | `(tactic| walk_at "dlh") => `(tactic| simp only [exists_eq', exists_eq, List.take_nil, List.take_succ_cons, List.take_zero, decide_false, decide_true, dFld_ap, dSetF_ap, dAugF_ap, dMeth_ap, dMake_ap, dProp_ap, insOf_p, insOf_o, dNever_ap, bodyE_rt, bodyE_nx, dVar_ap, dC_ap, dOp_ap, dTB_ap, dTru_ap, dAnd_ap, dOr_ap, dNot_ap, dNotV_ap, dAndV_ap, dOrV_ap, dIf_ap, dIsN_ap, dNext_ap, dSeq_ap, dBreak_ap, dCont_ap, dDrop_ap, dRet_ap, dRetN_ap, dIfS_ap, dgName_ap, dgNil_ap, dgCons_ap, dgTup_ap, dgSub_ap, dAsg_ap, dPar_ap, dAug_ap, dNil_ap, dCons_ap, dTup_ap, dLst_ap, dLstM_ap, dCB_ap, dBM_ap, dBM0_ap, dCall_ap, dCallK_ap, dRev_s, dSl_ap, dPart_ap, dUn_ap, dChain_ap, dIsi_ap, dIsi2_ap, dIter_ap, dIterT_ap, dIterS_ap, dRng1_ap, dRng2_ap, rMulX_ii, rMulX_si, dFmt_ap, fmtD_s, fmtD_i, dJoined_ap, dJs_nil, dJs_cons, jStep_s, dCallK_ap, dNil_ap, rAdd_ii, rAdd_ss, rAdd_tt, rAdd_ll, rSub_ii, rInt2_ii, rNeg_i, rOrd_ii, rOrd_ss, rIadd_ii, rIadd_ss, rEqW_ii, rEqW_ss, rEqW_bb, rIn_ss, rIxD_l, rIxD_x, rIxD_t, rIxD_s, rIxD_p, lstOf_p, lstOf_l, lstOf_x, rSlD_s, rSlD_t, rSlD_l, rSlD_x, rLen_s, rLen_t, rLen_l, rLen_x, rLen_p, rAbs_i, rInt_i, rInt_b, rToListA_t, rToListA_l, rToListA_s, rToListM_t, rToListM_l, rToTup_t, rToTup_l, rToTup_p, rSum_ap, rAll_ap, rAny_ap, rStrN_i, rMax2_ii, rMin2_ii, rS0_ap, rS1_ap, tyD_s, tyD_p, tyD_l, rJoin_l, rJoin_p, rAppend_p, rPop_p, startD, wipeD, List.map_cons, List.map_nil, List.cons_append, List.nil_append, List.append_nil, List.length_cons, List.length_nil, List.getElem?_cons_zero, List.getElem?_cons_succ, List.set_cons_zero, List.set_cons_succ, List.replicate, Nat.reduceAdd, Nat.reduceSub, Nat.sub_zero, up_same, up_up, Bool.false_xor, Bool.true_xor, Bool.not_true, Bool.not_false, if_true, if_false, Bool.false_eq_true, and_true, true_and, ite_true, ite_false, reduceIte, reduceCtorEq, Option.some.injEq, exists_eq_left', exists_eq_left, dCallX_ap, dWhy_ap, dLam_ap, dRaise_ap, dEnumT_ap, T_beq, T_app, dCallKX_ap, rIndexL_l, rIndexS_s, *])
local macro_rules | `(tactic| walk_at "len") => `(tactic| (intro ds M Q E h; first | (obtain ⟨_, h1, _⟩ := h; subst h1; rfl) | (obtain ⟨_, _, h1, _⟩ := h; subst h1; rfl) | (obtain ⟨_, _, _, h1, _⟩ := h; subst h1; rfl) | (obtain ⟨_, _, _, _, h1, _⟩ := h; subst h1; rfl) | (obtain ⟨_, _, _, _, _, h1, _⟩ := h; subst h1; rfl) | (obtain ⟨_, _, _, _, _, _, h1, _⟩ := h; subst h1; rfl) | (obtain ⟨_, _, _, _, _, _, _, h1, _⟩ := h; subst h1; rfl) | (obtain ⟨_, _, _, _, _, _, _, _, h1, _⟩ := h; subst h1; rfl) | (obtain ⟨_, _, _, _, _, _, _, _, _, h1, _⟩ := h; subst h1; rfl)))
local macro_rules | `(tactic| walk_at "ln") => `(tactic| (simp only [List.length_cons, List.length_nil, List.length_map, List.length_append, List.length_take, List.length_drop, List.length_reverse, T_len]; omega))
def D_swapped : He.DefD := ⟨("swapped", none), "swapped", "swapped", defArgs s_swapped, defBody s_swapped, defScope s_swapped, [], []⟩
def D_is_word : He.DefD := ⟨("is_word", none), "is_word", "is_word", defArgs s_is_word, defBody s_is_word, defScope s_is_word, [], []⟩
def D_check_words : He.DefD := ⟨("check_words", none), "check_words", "check_words", defArgs s_check_words, defBody s_check_words, defScope s_check_words, [], []⟩
def D_characters : He.DefD := ⟨("characters", none), "characters", "characters", defArgs s_characters, defBody s_characters, defScope s_characters, [], []⟩
def D_rank : He.DefD := ⟨("rank", none), "rank", "rank", defArgs s_rank, defBody s_rank, defScope s_rank, [], []⟩
def D_precedes : He.DefD := ⟨("precedes", none), "precedes", "precedes", defArgs s_precedes, defBody s_precedes, defScope s_precedes, [], []⟩
def D__law_begin : He.DefD := ⟨("_law_begin", none), "_law_begin", "_law_begin", defArgs s__law_begin, defBody s__law_begin, defScope s__law_begin, [], []⟩
def D__law_draw : He.DefD := ⟨("_law_draw", none), "_law_draw", "_law_draw", defArgs s__law_draw, defBody s__law_draw, defScope s__law_draw, [], []⟩
def D__law_any : He.DefD := ⟨("_law_any", none), "_law_any", "_law_any", defArgs s__law_any, defBody s__law_any, defScope s__law_any, [], []⟩
def D__law_same : He.DefD := ⟨("_law_same", none), "_law_same", "_law_same", defArgs s__law_same, defBody s__law_same, defScope s__law_same, [], []⟩
def D__law_letters : He.DefD := ⟨("_law_letters", none), "_law_letters", "_law_letters", defArgs s__law_letters, defBody s__law_letters, defScope s__law_letters, [], []⟩
def D__law_signs : He.DefD := ⟨("_law_signs", none), "_law_signs", "_law_signs", defArgs s__law_signs, defBody s__law_signs, defScope s__law_signs, [], []⟩
def D__law_some_word : He.DefD := ⟨("_law_some_word", none), "_law_some_word", "_law_some_word", defArgs s__law_some_word, defBody s__law_some_word, defScope s__law_some_word, [], []⟩
def D_law : He.DefD := ⟨("law", none), "law", "law", defArgs s_law, defBody s_law, defScope s_law, [], []⟩
def D__law_field : He.DefD := ⟨("_law_field", none), "_law_field", "_law_field", defArgs s__law_field, defBody s__law_field, defScope s__law_field, [], []⟩
def D__law_why : He.DefD := ⟨("_law_why", none), "_law_why", "_law_why", defArgs s__law_why, defBody s__law_why, defScope s__law_why, [], []⟩
def fns : List He.DefD := [D_swapped, D_is_word, D_check_words, D_characters, D_rank, D_precedes, D__law_begin, D__law_draw, D__law_any, D__law_same, D__law_letters, D__law_signs, D__law_some_word, D_law, D__law_field, D__law_why]
def nms0 : List Str := ["TownError", "Missing", "NothingLeft", "InvalidWord", "LOWER", "swapped", "is_word", "check_words", "characters", "rank", "precedes", "_law_begin", "_law_draw", "_law_any", "_law_same", "_law_field", "_law_why", "_law_letters", "_law_signs", "_law_some_word"]
def nms : List Str := nms0
abbrev ks (K : PySem.W.Frag) : Ks := ⟨He.ga K "InvalidWord", (He.cT K ("law", none)).2⟩
def fas0 : List He.Fa := [.free "len", .free "int", .free "range", .free "list", .free "tuple", .free "str", .free "bool", .free "abs", .free "sum", .free "all", .free "any", .free "max", .free "min", .free "sorted", .free "zip", .free "enumerate", .free "isinstance", .free "repr", .free "dict", .free "super", .free "type", .str "LOWER" "abcdefghijklmnopqrstuvwxyz", .glo "_law_why", .glo "TownError", .glo "Missing"]
def fas1 : List He.Fa := [.glo "NothingLeft", .glo "_law_field", .glo "swapped", .glo "is_word", .glo "check_words", .glo "characters", .glo "rank", .glo "precedes", .glo "_law_begin", .glo "_law_draw", .glo "_law_any", .glo "_law_same", .glo "_law_letters", .glo "_law_signs", .glo "_law_some_word", .glo "law"]
def fas : List He.Fa := fas0 ++ fas1
abbrev Rw : PySem.W.OpenRow := PySem.W.OpenLaw.row PySem.Challenge.rw_roundswap_k02_order_of_words
def exs : List ExD := [X_InvalidWord]
def tfs : List He.Defn := [("law", none)]
def cwn : List Str := ["InvalidWord"]
abbrev hk : PySem.W.Hook := hookZ Rw.prog 5 fas fns exs tfs cwn
def ob (s : PySem.W.SharedT) : AlZ := obsZG Rw.prog 5 fas fns exs tfs cwn (HandSHeadRun.getT s)
theorem ob_eq (s : PySem.W.SharedT) : ob s = hk.obs s.abs := obsZG_eq (HandSHeadRun.getT_eq s)
theorem run (w : World) : HandSHeadRun.RunEq Rw (PySem.W.view Rw.prog [23]) hk ob 20000 nms w := by
  intro os
  kernel_rfl
theorem facts {w : World} {K : PySem.W.Frag} {h : Heap} {mg : Str → Option Value} {f : Addr} (X : K.In h) (G : h.Ns mainGlobals mg) (hfa : mg ("law" : Str) = some (.ref f)) (c : SaysZ Rw.prog fas fns exs tfs cwn h K) :
    ∃ fd : FuncData, (∀ (s : Shared) (v : Value), BindsTo s fd ⟨[v], []⟩ [("_law_script", v)]) ∧ ∀ base : Heap, K.In base → base.Ns mainGlobals mg → (∀ p ∈ tfs.map (He.cT K), LamX.TabB base mg p.1 p.2) → FnOk Rw.prog w K mg base CX0 7 f fd ["_law_script"] (lSp K (sp_law (ks K))) := by
  obtain ⟨fd0, F0⟩ := c.d.def_ 13 (d := D_law) rfl
  have e := hfa.symm.trans (He.glo_ok X G (c.d.fact 40 (f := .glo "law") rfl))
  cases e
  have b := FunD.bindsA (ps := ["_law_script"]) F0 fun _ _ _ _ _ _ us hl => match us, hl with | [_], _ => rfl
  refine ⟨fd0, fun s v => b s [v] rfl, fun base _ _ hB => ?_⟩
  have B : NB mg := ⟨He.free_ok X G (c.d.fact 0 (f := .free "len") rfl), He.free_ok X G (c.d.fact 1 (f := .free "int") rfl), He.free_ok X G (c.d.fact 2 (f := .free "range") rfl), He.free_ok X G (c.d.fact 3 (f := .free "list") rfl), He.free_ok X G (c.d.fact 4 (f := .free "tuple") rfl), He.free_ok X G (c.d.fact 5 (f := .free "str") rfl), He.free_ok X G (c.d.fact 6 (f := .free "bool") rfl), He.free_ok X G (c.d.fact 7 (f := .free "abs") rfl), He.free_ok X G (c.d.fact 8 (f := .free "sum") rfl), He.free_ok X G (c.d.fact 9 (f := .free "all") rfl), He.free_ok X G (c.d.fact 10 (f := .free "any") rfl), He.free_ok X G (c.d.fact 11 (f := .free "max") rfl), He.free_ok X G (c.d.fact 12 (f := .free "min") rfl), He.free_ok X G (c.d.fact 13 (f := .free "sorted") rfl), He.free_ok X G (c.d.fact 14 (f := .free "zip") rfl), He.free_ok X G (c.d.fact 15 (f := .free "enumerate") rfl), He.free_ok X G (c.d.fact 16 (f := .free "isinstance") rfl), He.free_ok X G (c.d.fact 17 (f := .free "repr") rfl), He.free_ok X G (c.d.fact 18 (f := .free "dict") rfl), He.free_ok X G (c.d.fact 19 (f := .free "super") rfl), He.free_ok X G (c.d.fact 20 (f := .free "type") rfl)⟩
  have T : Cn mg := ⟨(let ⟨t, h⟩ := He.str_ok X G (c.d.fact 21 (f := .str "LOWER" "abcdefghijklmnopqrstuvwxyz") rfl); ⟨_, h, t, rfl⟩)⟩
  obtain ⟨xd_InvalidWord, E_InvalidWord⟩ := c.exk X G 0 (d := X_InvalidWord) rfl
  have C_InvalidWord : CalE Rw.prog w K mg base 2 "InvalidWord" (ks K).InvalidWord g_InvalidWord gd_InvalidWord 1 := ce_InvalidWord E_InvalidWord
  obtain ⟨fd__law_field, F__law_field⟩ := c.d.def_ 14 (d := D__law_field) rfl
  have b__law_field := FunD.bindsN (ps := ["_law_e"]) F__law_field fun _ _ _ _ _ _ us hl => match us, hl with | [_], _ => rfl
  obtain ⟨fd__law_why, F__law_why⟩ := c.d.def_ 15 (d := D__law_why) rfl
  have b__law_why := FunD.bindsN (ps := ["_law_ask"]) F__law_why fun _ _ _ _ _ _ us hl => match us, hl with | [_], _ => rfl
  have W : WhyF Rw.prog w K mg base (cws (ks K)) := by
    refine ⟨s__law_why, He.fAd K D__law_why.at_, He.fAd K D__law_field.at_, fd__law_why, fd__law_field, .ref (He.ga K "TownError"), .ref (He.ga K "Missing"), .ref (He.ga K "NothingLeft"), F__law_why, sc__law_why, He.glo_ok X G (c.d.fact 22 (f := .glo "_law_why") rfl), b__law_why, ⟨_, _, _, _, _, _, _, _, _, _, _, _, _, _, _, _, _, _, _, _, _, _, rfl⟩, rfl, rfl, ⟨rfl, rfl, rfl, rfl⟩, ⟨He.glo_ok X G (c.d.fact 23 (f := .glo "TownError") rfl), He.glo_ok X G (c.d.fact 24 (f := .glo "Missing") rfl), He.glo_ok X G (c.d.fact 25 (f := .glo "NothingLeft") rfl)⟩, ⟨He.glo_ok X G (c.d.fact 26 (f := .glo "_law_field") rfl), F__law_field.kp, b__law_field⟩, fun a oe C dd fs xc hz hf => field_ok F__law_field sc__law_field fun cdv A outer s H E G T hr => dv__law_field xc hz hf T hr, fun C hC => ?_⟩
    obtain ⟨x, hx, rfl⟩ := List.mem_map.mp (show C ∈ cwn.map (He.ga K) from hC)
    exact caught_ok c.ca x hx
  obtain ⟨fd_swapped, F_swapped⟩ := c.d.def_ 0 (d := D_swapped) rfl
  have b_swapped := FunD.bindsN (ps := ["character"]) F_swapped fun _ _ _ _ _ _ us hl => match us, hl with | [_], _ => rfl
  have C_swapped : Cal Rw.prog w K mg base 1 "swapped" ["character"] (sp_swapped) (He.fAd K D_swapped.at_) fd_swapped := ⟨ok_swapped (ks K) B T F_swapped (by walk_at "len") rd_swapped, He.glo_ok X G (c.d.fact 27 (f := .glo "swapped") rfl), F_swapped.kp, b_swapped⟩
  obtain ⟨fd_is_word, F_is_word⟩ := c.d.def_ 1 (d := D_is_word) rfl
  have b_is_word := FunD.bindsN (ps := ["word", "letters"]) F_is_word fun _ _ _ _ _ _ us hl => match us, hl with | [_, _], _ => rfl
  have C_is_word : Cal Rw.prog w K mg base 1 "is_word" ["word", "letters"] (sp_is_word (ks K)) (He.fAd K D_is_word.at_) fd_is_word := ⟨ok_is_word (ks K) B T F_is_word (by walk_at "len") rd_is_word, He.glo_ok X G (c.d.fact 28 (f := .glo "is_word") rfl), F_is_word.kp, b_is_word⟩
  obtain ⟨fd_check_words, F_check_words⟩ := c.d.def_ 2 (d := D_check_words) rfl
  have C_check_words : CalXV Rw.prog w K mg base 3 "check_words" (spV 5 (sp_check_words (ks K))) (He.fAd K D_check_words.at_) := ⟨ok_check_words (ks K) B T C_is_word C_InvalidWord F_check_words  rd_check_words, He.glo_ok X G (c.d.fact 29 (f := .glo "check_words") rfl), F_check_words.kp⟩
  obtain ⟨fd_characters, F_characters⟩ := c.d.def_ 3 (d := D_characters) rfl
  have b_characters := FunD.bindsN (ps := ["letters"]) F_characters fun _ _ _ _ _ _ us hl => match us, hl with | [_], _ => rfl
  have C_characters : Cal Rw.prog w K mg base 2 "characters" ["letters"] (sp_characters (ks K)) (He.fAd K D_characters.at_) fd_characters := ⟨ok_characters (ks K) B T C_swapped F_characters (by walk_at "len") rd_characters, He.glo_ok X G (c.d.fact 30 (f := .glo "characters") rfl), F_characters.kp, b_characters⟩
  obtain ⟨fd_rank, F_rank⟩ := c.d.def_ 4 (d := D_rank) rfl
  have b_rank := FunD.bindsN (ps := ["word", "letters"]) F_rank fun _ _ _ _ _ _ us hl => match us, hl with | [_, _], _ => rfl
  have C_rank : Cal Rw.prog w K mg base 3 "rank" ["word", "letters"] (sp_rank (ks K)) (He.fAd K D_rank.at_) fd_rank := ⟨ok_rank (ks K) B T C_characters F_rank (by walk_at "len") rd_rank, He.glo_ok X G (c.d.fact 31 (f := .glo "rank") rfl), F_rank.kp, b_rank⟩
  obtain ⟨fd_precedes, F_precedes⟩ := c.d.def_ 5 (d := D_precedes) rfl
  have b_precedes := FunD.bindsN (ps := ["one", "other", "letters"]) F_precedes fun _ _ _ _ _ _ us hl => match us, hl with | [_, _, _], _ => rfl
  have C_precedes : CalX Rw.prog w K mg base 4 "precedes" ["one", "other", "letters"] (sp_precedes (ks K)) (He.fAd K D_precedes.at_) fd_precedes := ⟨ok_precedes (ks K) B T C_check_words C_rank F_precedes (by walk_at "len") rd_precedes, He.glo_ok X G (c.d.fact 32 (f := .glo "precedes") rfl), F_precedes.kp, b_precedes⟩
  obtain ⟨fd__law_begin, F__law_begin⟩ := c.d.def_ 6 (d := D__law_begin) rfl
  have b__law_begin := FunD.bindsN (ps := ["_law_script"]) F__law_begin fun _ _ _ _ _ _ us hl => match us, hl with | [_], _ => rfl
  have C__law_begin : Cal Rw.prog w K mg base 1 "_law_begin" ["_law_script"] (sp__law_begin) (He.fAd K D__law_begin.at_) fd__law_begin := ⟨ok__law_begin (ks K) B T F__law_begin (by walk_at "len") rd__law_begin, He.glo_ok X G (c.d.fact 33 (f := .glo "_law_begin") rfl), F__law_begin.kp, b__law_begin⟩
  obtain ⟨fd__law_draw, F__law_draw⟩ := c.d.def_ 7 (d := D__law_draw) rfl
  have b__law_draw := FunD.bindsN (ps := ["_law_box", "_law_many"]) F__law_draw fun _ _ _ _ _ _ us hl => match us, hl with | [_, _], _ => rfl
  have C__law_draw : Cal Rw.prog w K mg base 1 "_law_draw" ["_law_box", "_law_many"] (sp__law_draw) (He.fAd K D__law_draw.at_) fd__law_draw := ⟨ok__law_draw (ks K) B T F__law_draw (by walk_at "len") rd__law_draw, He.glo_ok X G (c.d.fact 34 (f := .glo "_law_draw") rfl), F__law_draw.kp, b__law_draw⟩
  obtain ⟨fd__law_any, F__law_any⟩ := c.d.def_ 8 (d := D__law_any) rfl
  have b__law_any := FunD.bindsN (ps := ["_law_box", "_law_some"]) F__law_any fun _ _ _ _ _ _ us hl => match us, hl with | [_, _], _ => rfl
  have C__law_any : Cal Rw.prog w K mg base 2 "_law_any" ["_law_box", "_law_some"] (sp__law_any) (He.fAd K D__law_any.at_) fd__law_any := ⟨ok__law_any (ks K) B T C__law_draw F__law_any (by walk_at "len") rd__law_any, He.glo_ok X G (c.d.fact 35 (f := .glo "_law_any") rfl), F__law_any.kp, b__law_any⟩
  obtain ⟨fd__law_same, F__law_same⟩ := c.d.def_ 9 (d := D__law_same) rfl
  have b__law_same := FunD.bindsN (ps := ["_law_found", "_law_due"]) F__law_same fun _ _ _ _ _ _ us hl => match us, hl with | [_, _], _ => rfl
  have C__law_same_0 : Cal Rw.prog w K mg base 1 "_law_same" ["_law_found", "_law_due"] (sp_sameB 0) (He.fAd K D__law_same.at_) fd__law_same := ⟨fn_no F__law_same sc__law_same, He.glo_ok X G (c.d.fact 36 (f := .glo "_law_same") rfl), F__law_same.kp, b__law_same⟩
  have C__law_same_1 : Cal Rw.prog w K mg base 2 "_law_same" ["_law_found", "_law_due"] (sp_sameB 1) (He.fAd K D__law_same.at_) fd__law_same := ⟨ok__law_same (ks K) (n := 1) (by decide) B T C__law_same_0 F__law_same (by walk_at "len") (rd__law_same 0), He.glo_ok X G (c.d.fact 36 (f := .glo "_law_same") rfl), F__law_same.kp, b__law_same⟩
  have C__law_same_2 : Cal Rw.prog w K mg base 3 "_law_same" ["_law_found", "_law_due"] (sp_sameB 2) (He.fAd K D__law_same.at_) fd__law_same := ⟨ok__law_same (ks K) (n := 2) (by decide) B T C__law_same_1 F__law_same (by walk_at "len") (rd__law_same 1), He.glo_ok X G (c.d.fact 36 (f := .glo "_law_same") rfl), F__law_same.kp, b__law_same⟩
  have C__law_same_3 : Cal Rw.prog w K mg base 4 "_law_same" ["_law_found", "_law_due"] (sp_sameB 3) (He.fAd K D__law_same.at_) fd__law_same := ⟨ok__law_same (ks K) (n := 3) (by decide) B T C__law_same_2 F__law_same (by walk_at "len") (rd__law_same 2), He.glo_ok X G (c.d.fact 36 (f := .glo "_law_same") rfl), F__law_same.kp, b__law_same⟩
  have C__law_same : Cal Rw.prog w K mg base 5 "_law_same" ["_law_found", "_law_due"] (sp__law_same 3) (He.fAd K D__law_same.at_) fd__law_same := ⟨ok__law_same (ks K) (n := 4) (by decide) B T C__law_same_3 F__law_same (by walk_at "len") (rd__law_same 3), He.glo_ok X G (c.d.fact 36 (f := .glo "_law_same") rfl), F__law_same.kp, b__law_same⟩
  obtain ⟨fd__law_letters, F__law_letters⟩ := c.d.def_ 10 (d := D__law_letters) rfl
  have b__law_letters := FunD.bindsN (ps := ["_law_box", "_law_many"]) F__law_letters fun _ _ _ _ _ _ us hl => match us, hl with | [_, _], _ => rfl
  have C__law_letters : Cal Rw.prog w K mg base 3 "_law_letters" ["_law_box", "_law_many"] (sp__law_letters) (He.fAd K D__law_letters.at_) fd__law_letters := ⟨ok__law_letters (ks K) B T C__law_any F__law_letters (by walk_at "len") rd__law_letters, He.glo_ok X G (c.d.fact 37 (f := .glo "_law_letters") rfl), F__law_letters.kp, b__law_letters⟩
  obtain ⟨fd__law_signs, F__law_signs⟩ := c.d.def_ 11 (d := D__law_signs) rfl
  have b__law_signs := FunD.bindsN (ps := ["_law_letters_z"]) F__law_signs fun _ _ _ _ _ _ us hl => match us, hl with | [_], _ => rfl
  have C__law_signs : Cal Rw.prog w K mg base 1 "_law_signs" ["_law_letters_z"] (sp__law_signs) (He.fAd K D__law_signs.at_) fd__law_signs := ⟨ok__law_signs (ks K) B T F__law_signs (by walk_at "len") rd__law_signs, He.glo_ok X G (c.d.fact 38 (f := .glo "_law_signs") rfl), F__law_signs.kp, b__law_signs⟩
  obtain ⟨fd__law_some_word, F__law_some_word⟩ := c.d.def_ 12 (d := D__law_some_word) rfl
  have b__law_some_word := FunD.bindsN (ps := ["_law_box", "_law_letters_z", "_law_most"]) F__law_some_word fun _ _ _ _ _ _ us hl => match us, hl with | [_, _, _], _ => rfl
  have C__law_some_word : Cal Rw.prog w K mg base 3 "_law_some_word" ["_law_box", "_law_letters_z", "_law_most"] (sp__law_some_word) (He.fAd K D__law_some_word.at_) fd__law_some_word := ⟨ok__law_some_word (ks K) B T C__law_signs C__law_draw C__law_any F__law_some_word (by walk_at "len") rd__law_some_word, He.glo_ok X G (c.d.fact 39 (f := .glo "_law_some_word") rfl), F__law_some_word.kp, b__law_some_word⟩
  have F_law := F0
  have b_law := FunD.bindsN (ps := ["_law_script"]) F_law fun _ _ _ _ _ _ us hl => match us, hl with | [_], _ => rfl
  have KB_precedes_0_letters_other_one : KBinds K fd_precedes ["one", "other", "letters"] ["letters", "other", "one"] (gKV 0 3 [2, 1, 0]) (gKV 0 3 [2, 1, 0]) := kbN (x := "precedes") (qual := "precedes") (st := s_precedes) F_precedes (by decide) fun _ _ _ _ _ _ us ws h1 h2 => match us, ws, h1, h2 with | [], [_, _, _], _, _ => rfl
  exact ok_law (ks K) B T C__law_begin C__law_letters C__law_draw C__law_signs C__law_some_word C__law_any C_precedes C__law_same W KB_precedes_0_letters_other_one F_law (c.tab hB (q := ("law", none)) (by decide) (x := "law") (qual := "law") (st := s_law) (dvs := []) (kws := []) F_law) (by walk_at "len") rd_law
end K02
open PySem PySem.W PySem.Calls PyProof.Rows
set_option maxHeartbeats 0 in
theorem PySem.Challenge.cw_roundswap_k02_order_of_words_holds : PySem.Challenge.rw_roundswap_k02_order_of_words.Holds := by
  w_on; o_law
  refine HandSHeadRun.head_any (r := OpenLaw.row PySem.Challenge.rw_roundswap_k02_order_of_words) (q := view (OpenLaw.row PySem.Challenge.rw_roundswap_k02_order_of_words).prog [23]) (H := K02.hk) (ob := K02.ob) (M := 20000) (loose := K02.nms) (d := HandSHeadRun.topDef (OpenLaw.row PySem.Challenge.rw_roundswap_k02_order_of_words).prog 23) (kwd := []) K02.ob_eq
    (by kernel_rfl) (fun s => by kernel_rfl) K02.run (by kernel_rfl) (by kernel_rfl) (by kernel_rfl) (by rfl) (by first | assumption | decide +kernel) (by decide +kernel) ⟨rfl, rfl, rfl, rfl, rfl, by decide +kernel⟩ ?hw ?hc
  case hw => w_witness2
  case hc =>
    refine LamX.walk_ofTsE (l := PySem.Challenge.rw_roundswap_k02_order_of_words) (n := 63) (k := 7) (x := "_law_script") (CX := fun _ => L2.CX0) rfl (by decide) (by kernel_rfl) ⟨rfl, by decide, by decide⟩ ?F (fun _ _ _ _ _ z => z)
    intro w mg fa h Y G hmg0
    obtain ⟨K, KX, c⟩ := Y
    have hmg : mg ("law" : PySem.Str) = some (.ref fa) := by
      have e : (HandSHeadRun.topDef (OpenLaw.row PySem.Challenge.rw_roundswap_k02_order_of_words).prog 23).name = ("law" : PySem.Str) := by kernel_rfl
      rw [← e]
      exact hmg0
    obtain ⟨fd, hb, hF⟩ := K02.facts (w := w) KX G hmg c
    have tm : ∀ {Z : PySem.Addr × PySem.Addr → Prop}, (∀ q ∈ K02.tfs, Z (He.cT K q)) → ∀ p ∈ K02.tfs.map (He.cT K), Z p := fun z p hp => by obtain ⟨q, hq, rfl⟩ := List.mem_map.mp hp; exact z q hq
    exact ⟨K, KX, fd, K02.tfs.map (He.cT K), (DL.lSp K (K02.sp_law (K02.ks K))), tm c.empty, tm c.out, tm fun q hq => PySem.W.codeHd_of_K KX (c.hd q hq), hb, fun H a ns hl _ hT hS => DL.law_inT hl (fun p hp => by first | (exact absurd hp List.not_mem_nil) | (simp only [List.mem_cons, List.not_mem_nil, or_false] at hp; rcases hp with rfl <;> exact hT _ (List.mem_map_of_mem (by decide)))) hS, hF⟩
