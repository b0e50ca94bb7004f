import PyProof.Rows.All
import Wide.All
import OpenK.AllK
import Wide.FinOn
import HandS.ForMost
import HandS.TupMul
import HandS.FStr
import HandS.Flow
import HandS.Wide
import HandS.Zip
import HandS.StrMore
import HandS.ForExc
import HandS.IsInst
import HandS.Style
import HandS.Deep
import HandS.RaiseMore
import HandS.Property
import PyProof.StrBlock2
import HandS.Defaults
import HandS.Head0
import HandS.Head1
import HandS.Head2
import HandS.HeadEnd
import HandS.HeadHook1
import HandS.HeadHook2
import PySem.Challenge.RW_roundswap_k09_texts_of_words
set_option Elab.async false
set_option linter.all false
set_option maxRecDepth 100000
set_option maxHeartbeats 4000000
/-! DL: readings over deep data. D: data; Mp: the objects that may change; F: the frozen heap. -/
namespace DL
open PySem PySem.Spec PyProof.Rows L2
inductive D where
  | non
  | bl (b : Bool)
  | int (i : Int)
  | str (x : Str)
  | lst (xs : List D)
  | lsx (xs : List D)
  | tup (xs : List D)
  | ptr (a : Addr)
  | ty (n : String)
  | obj (C : Addr) (fs : List (Str × D))
  deriving Inhabited
mutual
def Rep (K : PySem.W.Frag) (F : Hp) : D → V → Prop
  | .non, v => v = .non
  | .bl b, v => v = .bl b
  | .int i, v => v = .int i
  | .str x, v => v = .str x
  | .lst ds, v => ∃ a vs, v = .ref a ∧ F a = some (.lst vs) ∧ Reps K F ds vs
  | .lsx ds, v => ∃ a vs, v = .ref a ∧ SqL K F a vs ∧ Reps K F ds vs
  | .tup ds, v => ∃ a vs, v = .ref a ∧ SqT K F a vs ∧ Reps K F ds vs
  | .ptr a, v => v = .ref a
  | .ty n, v => v = .ty n
  | .obj C fs, v => ∃ a dx vs, v = .ref a ∧ F a = some (.ins C dx vs) ∧ RepF K F fs vs
def Reps (K : PySem.W.Frag) (F : Hp) : List D → List V → Prop
  | [], vs => vs = []
  | d :: ds, vs => ∃ v r, vs = v :: r ∧ Rep K F d v ∧ Reps K F ds r
def RepF (K : PySem.W.Frag) (F : Hp) : List (Str × D) → List (Str × V) → Prop
  | [], vs => vs = []
  | p :: ds, vs => ∃ v r, vs = v :: r ∧ RepP K F p v ∧ RepF K F ds r
def RepP (K : PySem.W.Frag) (F : Hp) : Str × D → Str × V → Prop
  | (n, d), v => v.1 = n ∧ Rep K F d v.2
end
theorem sameT {K : PySem.W.Frag} {H H' : Hp} {a : Addr} {xs : List V} (e : Same H H') (h : SqT K H a xs) : SqT K H' a xs := by
  rcases h with (h | ⟨o, h⟩) | h
  · exact .inl (.inl (e _ _ h))
  · exact .inl (.inr ⟨o, e _ _ h⟩)
  · exact .inr h
section
variable {K : PySem.W.Frag} {F F' H H' H1 : Hp}
mutual
theorem Rep.mono (e : Same F F') : ∀ (d : D) (v : V), Rep K F d v → Rep K F' d v
  | .non, _, h => by rw [Rep] at *; exact h
  | .bl _, _, h => by rw [Rep] at *; exact h
  | .int _, _, h => by rw [Rep] at *; exact h
  | .str _, _, h => by rw [Rep] at *; exact h
  | .ptr _, _, h => by rw [Rep] at *; exact h
  | .ty _, _, h => by rw [Rep] at *; exact h
  | .lst ds, v, h => by
    rw [Rep] at *
    obtain ⟨a, vs, e1, e2, e3⟩ := h
    exact ⟨a, vs, e1, e _ _ e2, Reps.mono e ds vs e3⟩
  | .lsx ds, v, h => by
    rw [Rep] at *
    obtain ⟨a, vs, e1, e2, e3⟩ := h
    exact ⟨a, vs, e1, e.seq e2, Reps.mono e ds vs e3⟩
  | .tup ds, v, h => by
    rw [Rep] at *
    obtain ⟨a, vs, e1, e2, e3⟩ := h
    exact ⟨a, vs, e1, sameT e e2, Reps.mono e ds vs e3⟩
  | .obj C fs, v, h => by
    rw [Rep] at *
    obtain ⟨a, dx, vs, e1, e2, e3⟩ := h
    exact ⟨a, dx, vs, e1, e _ _ e2, RepF.mono e fs vs e3⟩
theorem Reps.mono (e : Same F F') : ∀ (ds : List D) (vs : List V), Reps K F ds vs → Reps K F' ds vs
  | [], _, h => by rw [Reps] at *; exact h
  | d :: ds, vs, h => by
    rw [Reps] at *
    obtain ⟨v, r, e1, e2, e3⟩ := h
    exact ⟨v, r, e1, Rep.mono e d v e2, Reps.mono e ds r e3⟩
theorem RepF.mono (e : Same F F') : ∀ (ds : List (Str × D)) (vs : List (Str × V)), RepF K F ds vs → RepF K F' ds vs
  | [], _, h => by rw [RepF] at *; exact h
  | p :: ds, vs, h => by
    rw [RepF] at *
    obtain ⟨v, r, e1, e2, e3⟩ := h
    exact ⟨v, r, e1, RepP.mono e p v e2, RepF.mono e ds r e3⟩
theorem RepP.mono (e : Same F F') : ∀ (p : Str × D) (v : Str × V), RepP K F p v → RepP K F' p v
  | (n, d), v, h => by
    rw [RepP] at *
    exact ⟨h.1, Rep.mono e d v.2 h.2⟩
end
theorem Reps.len : ∀ {ds : List D} {vs : List V}, Reps K F ds vs → vs.length = ds.length
  | [], _, h => by rw [Reps] at h; subst h; rfl
  | d :: ds, vs, h => by
    rw [Reps] at h
    obtain ⟨v, r, e1, e2, e3⟩ := h
    subst e1
    simp [Reps.len e3]
theorem Reps.nil : Reps K F [] [] := by rw [Reps]
theorem Reps.cons {d : D} {v : V} {ds : List D} {vs : List V} (a : Rep K F d v) (b : Reps K F ds vs) : Reps K F (d :: ds) (v :: vs) := by rw [Reps]; exact ⟨v, vs, rfl, a, b⟩
theorem Reps.get : ∀ {ds : List D} {vs : List V} {i : Nat} {d : D}, Reps K F ds vs → ds[i]? = some d → ∃ v, vs[i]? = some v ∧ Rep K F d v
  | [], _, _, _, _, e => by simp at e
  | x :: ds, vs, 0, d, h, e => by
    rw [Reps] at h
    obtain ⟨v, r, e1, e2, e3⟩ := h
    simp at e; subst e e1
    exact ⟨v, rfl, e2⟩
  | x :: ds, vs, i + 1, d, h, e => by
    rw [Reps] at h
    obtain ⟨v, r, e1, e2, e3⟩ := h
    subst e1
    obtain ⟨u, q1, q2⟩ := Reps.get (i := i) (d := d) e3 (by simpa using e)
    exact ⟨u, by simpa using q1, q2⟩
theorem Reps.get' {ds : List D} {vs : List V} {i : Nat} {v : V} (h : Reps K F ds vs) (e : vs[i]? = some v) : ∃ d, ds[i]? = some d ∧ Rep K F d v := by
  have hl := h.len
  have hi : i < vs.length := (List.getElem?_eq_some_iff.mp e).1
  obtain ⟨u, q1, q2⟩ := h.get (i := i) (d := ds[i]) (by simp)
  rw [e] at q1; cases q1
  exact ⟨_, by simp, q2⟩
theorem Reps.app : ∀ {ds es : List D} {vs ws : List V}, Reps K F ds vs → Reps K F es ws → Reps K F (ds ++ es) (vs ++ ws)
  | [], es, vs, ws, h, g => by rw [Reps] at h; subst h; exact g
  | d :: ds, es, vs, ws, h, g => by
    rw [Reps] at h
    obtain ⟨v, r, e1, e2, e3⟩ := h
    subst e1
    exact Reps.cons e2 (Reps.app e3 g)
theorem Reps.one {d : D} {v : V} (a : Rep K F d v) : Reps K F [d] [v] := Reps.cons a Reps.nil
theorem Reps.take : ∀ (n : Nat) {ds : List D} {vs : List V}, Reps K F ds vs → Reps K F (ds.take n) (vs.take n)
  | 0, _, _, h => Reps.nil
  | n + 1, [], vs, h => by rw [Reps] at h; subst h; exact Reps.nil
  | n + 1, d :: ds, vs, h => by
    rw [Reps] at h
    obtain ⟨v, r, e1, e2, e3⟩ := h
    subst e1
    exact Reps.cons e2 (Reps.take n e3)
theorem Reps.drop : ∀ (n : Nat) {ds : List D} {vs : List V}, Reps K F ds vs → Reps K F (ds.drop n) (vs.drop n)
  | 0, _, _, h => h
  | n + 1, [], vs, h => by rw [Reps] at h; subst h; exact Reps.nil
  | n + 1, d :: ds, vs, h => by
    rw [Reps] at h
    obtain ⟨v, r, e1, e2, e3⟩ := h
    subst e1
    exact Reps.drop n e3
theorem Reps.set {d : D} {v : V} (a : Rep K F d v) : ∀ (n : Nat) {ds : List D} {vs : List V}, Reps K F ds vs → Reps K F (ds.set n d) (vs.set n v)
  | _, [], vs, h => by rw [Reps] at h; subst h; exact Reps.nil
  | 0, x :: ds, vs, h => by
    rw [Reps] at h
    obtain ⟨v, r, e1, e2, e3⟩ := h
    subst e1
    exact Reps.cons a e3
  | n + 1, x :: ds, vs, h => by
    rw [Reps] at h
    obtain ⟨v, r, e1, e2, e3⟩ := h
    subst e1
    exact Reps.cons e2 (Reps.set a n e3)
theorem Reps.dropLast {ds : List D} {vs : List V} (h : Reps K F ds vs) : Reps K F ds.dropLast vs.dropLast := by
  rw [List.dropLast_eq_take, List.dropLast_eq_take, h.len]; exact h.take _
theorem Reps.reverse : ∀ {ds : List D} {vs : List V}, Reps K F ds vs → Reps K F ds.reverse vs.reverse
  | [], vs, h => by rw [Reps] at h; subst h; exact Reps.nil
  | d :: ds, vs, h => by
    rw [Reps] at h
    obtain ⟨v, r, e1, e2, e3⟩ := h
    subst e1
    rw [List.reverse_cons, List.reverse_cons]
    exact Reps.app (Reps.reverse e3) (Reps.one e2)
theorem Reps.strs : ∀ {ys : List Str} {vs : List V}, Reps K F (ys.map D.str) vs → vs = ys.map V.str
  | [], vs, h => by rw [List.map_nil, Reps] at h; subst h; rfl
  | y :: ys, vs, h => by
    rw [List.map_cons, Reps] at h
    obtain ⟨v, r, e1, e2, e3⟩ := h
    rw [Rep] at e2
    subst e1 e2
    rw [Reps.strs e3]; rfl
theorem Reps.ints : ∀ {ys : List Int} {vs : List V}, Reps K F (ys.map D.int) vs → vs = ys.map V.int
  | [], vs, h => by rw [List.map_nil, Reps] at h; subst h; rfl
  | y :: ys, vs, h => by
    rw [List.map_cons, Reps] at h
    obtain ⟨v, r, e1, e2, e3⟩ := h
    rw [Rep] at e2
    subst e1 e2
    rw [Reps.ints e3]; rfl
theorem Reps.of_strs : ∀ {ys : List Str}, Reps K F (ys.map D.str) (ys.map V.str)
  | [] => Reps.nil
  | y :: ys => Reps.cons (by rw [Rep]) Reps.of_strs
theorem Reps.of_ints : ∀ {ys : List Int}, Reps K F (ys.map D.int) (ys.map V.int)
  | [] => Reps.nil
  | y :: ys => Reps.cons (by rw [Rep]) Reps.of_ints
theorem RepF.look : ∀ {fs : List (Str × D)} {vs : List (Str × V)} {n : Str} {d : D}, RepF K F fs vs → fs.lookup n = some d → ∃ v, vs.lookup n = some v ∧ Rep K F d v
  | [], vs, n, d, h, e => by simp at e
  | (m, x) :: fs, vs, n, d, h, e => by
    rw [RepF] at h
    obtain ⟨v, r, e1, e2, e3⟩ := h
    rw [RepP] at e2
    obtain ⟨e2, e4⟩ := e2
    subst e1
    obtain ⟨m', u⟩ := v
    simp only at e2 e4
    subst e2
    rw [List.lookup_cons] at e ⊢
    cases q : n == m' with
    | true => rw [q] at e; simp at e; subst e; exact ⟨u, rfl, e4⟩
    | false => rw [q] at e; exact RepF.look e3 e
theorem RepF.look0 : ∀ {fs : List (Str × D)} {vs : List (Str × V)} {n : Str}, RepF K F fs vs → fs.lookup n = none → vs.lookup n = none
  | [], vs, n, h, e => by rw [RepF] at h; subst h; rfl
  | (m, x) :: fs, vs, n, h, e => by
    rw [RepF] at h
    obtain ⟨v, r, e1, e2, e3⟩ := h
    rw [RepP] at e2
    obtain ⟨e2, e4⟩ := e2
    subst e1
    obtain ⟨m', u⟩ := v
    simp only at e2 e4
    subst e2
    rw [List.lookup_cons] at e ⊢
    cases q : n == m' with
    | true => rw [q] at e; simp at e
    | false => rw [q] at e; exact RepF.look0 e3 e
theorem RepF.len : ∀ {fs : List (Str × D)} {vs : List (Str × V)}, RepF K F fs vs → vs.length = fs.length
  | [], vs, h => by rw [RepF] at h; subst h; rfl
  | p :: fs, vs, h => by
    rw [RepF] at h
    obtain ⟨v, r, e1, e2, e3⟩ := h
    subst e1
    simp [RepF.len e3]
/-- as putF -/
def putD (f : Str) (v : D) : List (Str × D) → List (Str × D)
  | [] => [(f, v)]
  | (g, x) :: r => if g = f then (g, v) :: r else (g, x) :: putD f v r
theorem RepF.put {f : Str} {d : D} {v : V} (hd : Rep K F d v) : ∀ {fs : List (Str × D)} {vs : List (Str × V)}, RepF K F fs vs → RepF K F (putD f d fs) (putF f v vs)
  | [], vs, h => by
    rw [RepF] at h; subst h
    show RepF K F [(f, d)] [(f, v)]
    rw [RepF]; exact ⟨_, _, rfl, by rw [RepP]; exact ⟨rfl, hd⟩, by rw [RepF]⟩
  | (m, x) :: fs, vs, h => by
    rw [RepF] at h
    obtain ⟨v', r, e1, e2, e3⟩ := h
    rw [RepP] at e2
    obtain ⟨e2, e4⟩ := e2
    subst e1
    obtain ⟨m', u⟩ := v'
    simp only at e2 e4
    subst e2
    unfold putD putF
    by_cases q : m' = f
    · rw [if_pos q, if_pos q]
      rw [RepF]; exact ⟨_, _, rfl, by rw [RepP]; exact ⟨rfl, hd⟩, e3⟩
    · rw [if_neg q, if_neg q]
      rw [RepF]; exact ⟨_, _, rfl, by rw [RepP]; exact ⟨rfl, e4⟩, RepF.put hd e3⟩
/-! ### objects that may change -/
inductive MO where
  | lst (xs : List D)
  | ins (C : Addr) (fs : List (Str × D))
  deriving Inhabited
abbrev Mp := Addr → Option MO
def RepM (K : PySem.W.Frag) (F : Hp) : MO → HO → Prop
  | .lst ds, o => ∃ vs, o = .lst vs ∧ Reps K F ds vs
  | .ins C fs, o => ∃ dx vs, o = .ins C dx vs ∧ RepF K F fs vs
theorem RepM.mono (e : Same F F') {mo : MO} {o : HO} (h : RepM K F mo o) : RepM K F' mo o := by
  cases mo with
  | lst ds => obtain ⟨vs, e1, e2⟩ := h; exact ⟨vs, e1, e2.mono e⟩
  | ins C fs => obtain ⟨dx, vs, e1, e2⟩ := h; exact ⟨dx, vs, e1, e2.mono e⟩
def up (M : Mp) (a : Addr) (o : MO) : Mp := fun b => if b = a then some o else M b
def rm (M : Mp) (a : Addr) : Mp := fun b => if b = a then none else M b
@[simp] theorem up_same {M : Mp} {a : Addr} {o : MO} : up M a o a = some o := by simp [up]
theorem up_ne {M : Mp} {a b : Addr} {o : MO} (h : b ≠ a) : up M a o b = M b := by simp [up, h]
@[simp] theorem up_up {M : Mp} {a : Addr} {o o' : MO} : up (up M a o) a o' = up M a o' := by
  funext b; unfold up; split <;> rfl
theorem up_comm {M : Mp} {a b : Addr} {o o' : MO} (h : a ≠ b) : up (up M a o) b o' = up (up M b o') a o := by
  funext c; unfold up
  by_cases e1 : c = a
  · subst e1; simp [h]
  · simp [e1]
@[simp] theorem rm_up {M : Mp} {a : Addr} {o : MO} : rm (up M a o) a = rm M a := by
  funext b
  by_cases e : b = a
  · simp [rm, e]
  · simp [rm, up, e]
theorem rm_of {M : Mp} {a : Addr} (h : M a = none) : rm M a = M := by
  funext b
  by_cases e : b = a
  · subst e; simp [rm, h]
  · simp [rm, e]
theorem up_id {M : Mp} {a : Addr} {o : MO} (h : M a = some o) : up M a o = M := by
  funext b
  by_cases e : b = a
  · subst e; rw [up_same, h]
  · rw [up_ne e]
structure Core (K : PySem.W.Frag) (F H : Hp) (M : Mp) : Prop where
  same : Same F H
  mem : ∀ a mo, M a = some mo → F a = none ∧ ∃ o, H a = some o ∧ RepM K F mo o
/-- what stands outside M stays -/
def Fr (F H : Hp) (M : Mp) (F' H' : Hp) (M' : Mp) : Prop := ∀ a o, H a = some o → M a = none → H' a = some o ∧ M' a = none ∧ (F a = none → F' a = none)
theorem Fr.refl {M : Mp} : Fr F H M F H M := fun _ _ a b => ⟨a, b, fun z => z⟩
theorem Fr.trans {F1 : Hp} {M M1 M2 : Mp} (a : Fr F H M F1 H1 M1) (b : Fr F1 H1 M1 F' H' M2) : Fr F H M F' H' M2 := fun c o e n =>
  let ⟨e1, n1, g1⟩ := a c o e n
  let ⟨e2, n2, g2⟩ := b c o e1 n1
  ⟨e2, n2, fun z => g2 (g1 z)⟩
theorem Core.fr {M M' : Mp} (c : Core K F H M) (f : Fr F H M F' H' M') : Same F H' := fun a o e => by
  cases q : M a with
  | none => exact (f a o (c.same a o e) q).1
  | some mo => rw [(c.mem a mo q).1] at e; cases e
theorem Core.nones {M : Mp} (c : Core K F H M) {p : Addr} (h : H p = none) : F p = none ∧ M p = none := by
  refine ⟨c.same.free h, ?_⟩
  cases q : M p with
  | none => rfl
  | some mo => obtain ⟨_, o, e, _⟩ := c.mem p mo q; rw [h] at e; cases e
/-- a new frozen object -/
theorem Core.new {M : Mp} (c : Core K F H M) {p : Addr} (h : H p = none) (o : HO) : Core K (upd F p o) (upd H p o) M ∧ Same F (upd F p o) ∧ Fr F H M (upd F p o) (upd H p o) M := by
  obtain ⟨n1, n2⟩ := c.nones h
  have s1 : Same F (upd F p o) := fun b u e => by rw [upd_ne (ne_of_none e n1)]; exact e
  refine ⟨⟨fun b u e => ?_, fun a mo e => ?_⟩, s1, fun b u e n => ⟨by rw [upd_ne (ne_of_none e h)]; exact e, n, fun z => by rw [upd_ne (ne_of_none e h)]; exact z⟩⟩
  · by_cases hb : b = p
    · subst hb; rw [upd_same] at e ⊢; exact e
    · rw [upd_ne hb] at e ⊢; exact c.same b u e
  · obtain ⟨f0, u, e1, r⟩ := c.mem a mo e
    have na : a ≠ p := fun z => by rw [z, n2] at e; cases e
    refine ⟨by rw [upd_ne na]; exact f0, u, by rw [upd_ne na]; exact e1, r.mono s1⟩
/-- a new object that may change -/
theorem Core.newM {M : Mp} (c : Core K F H M) {p : Addr} (h : H p = none) {o : HO} {mo : MO} (r : RepM K F mo o) : Core K F (upd H p o) (up M p mo) ∧ Fr F H M F (upd H p o) (up M p mo) := by
  obtain ⟨n1, n2⟩ := c.nones h
  refine ⟨⟨fun b u e => by rw [upd_ne (ne_of_none e n1)]; exact c.same b u e, fun a mo' e => ?_⟩, fun b u e n => ⟨by rw [upd_ne (ne_of_none e h)]; exact e, by rw [up_ne (ne_of_none e h)]; exact n, fun z => z⟩⟩
  by_cases ha : a = p
  · subst ha
    rw [up_same] at e; cases e
    exact ⟨n1, o, upd_same, r⟩
  · rw [up_ne ha] at e
    obtain ⟨f0, u, e1, r'⟩ := c.mem a mo' e
    exact ⟨f0, u, by rw [upd_ne ha]; exact e1, r'⟩
/-- an object of M is written -/
theorem Core.write {M : Mp} (c : Core K F H M) {p : Addr} {mo0 mo : MO} (h : M p = some mo0) {o : HO} (r : RepM K F mo o) : Core K F (upd H p o) (up M p mo) ∧ Fr F H M F (upd H p o) (up M p mo) := by
  obtain ⟨n1, u0, h1, r0⟩ := c.mem p mo0 h
  refine ⟨⟨fun b u e => by rw [upd_ne (ne_of_none e n1)]; exact c.same b u e, fun a mo' e => ?_⟩, fun b u e n => ?_⟩
  · by_cases ha : a = p
    · subst ha
      rw [up_same] at e; cases e
      exact ⟨n1, o, upd_same, r⟩
    · rw [up_ne ha] at e
      obtain ⟨f0, u, e1, r'⟩ := c.mem a mo' e
      exact ⟨f0, u, by rw [upd_ne ha]; exact e1, r'⟩
  · have hb : b ≠ p := fun z => by rw [z, h] at n; cases n
    exact ⟨by rw [upd_ne hb]; exact e, by rw [up_ne hb]; exact n, fun z => z⟩
/-- an object of M is frozen -/
theorem Core.freeze {M : Mp} (c : Core K F H M) {p : Addr} {mo : MO} (h : M p = some mo) : ∃ o, RepM K F mo o ∧ Core K (upd F p o) H (rm M p) ∧ Same F (upd F p o) ∧ Fr F H M (upd F p o) H (rm M p) := by
  obtain ⟨n1, o, h1, r⟩ := c.mem p mo h
  have s1 : Same F (upd F p o) := fun b u e => by rw [upd_ne (ne_of_none e n1)]; exact e
  refine ⟨o, r, ⟨fun b u e => ?_, fun a mo' e => ?_⟩, s1, fun b u e n => ⟨e, ?_, fun z => by rw [upd_ne (fun w => by rw [w, h] at n; cases n)]; exact z⟩⟩
  · by_cases hb : b = p
    · subst hb; rw [upd_same] at e; cases e; exact h1
    · rw [upd_ne hb] at e; exact c.same b u e
  · by_cases ha : a = p
    · subst ha; simp [rm] at e
    · simp [rm, ha] at e
      obtain ⟨f0, u, e1, r'⟩ := c.mem a mo' e
      exact ⟨by rw [upd_ne ha]; exact f0, u, e1, r'.mono s1⟩
  · unfold rm; split
    · rfl
    · exact n
/-- an object of M is forgotten -/
theorem Core.drop {M M' : Mp} (c : Core K F H M) (h : ∀ a mo, M' a = some mo → M a = some mo) : Core K F H M' := ⟨c.same, fun a mo e => c.mem a mo (h a mo e)⟩
/-! ### environments -/
abbrev DSt := List (Option D)
def EnvR (K : PySem.W.Frag) (F : Hp) (σ : L2.St) (env : DSt) : Prop := σ.length = env.length ∧ ∀ (i : Nat) (d : D), env[i]? = some (some d) → ∃ v : V, σ[i]? = some (some v) ∧ Rep K F d v
theorem EnvR.mono (e : Same F F') {σ : L2.St} {env : DSt} (h : EnvR K F σ env) : EnvR K F' σ env := ⟨h.1, fun i d q => let ⟨v, a, b⟩ := h.2 i d q; ⟨v, a, b.mono e⟩⟩
theorem EnvR.set {σ : L2.St} {env : DSt} {d : D} {v : V} (h : EnvR K F σ env) (i : Nat) (r : Rep K F d v) : EnvR K F (σ.set i (some v)) (env.set i (some d)) := by
  refine ⟨by simp [h.1], fun j e q => ?_⟩
  by_cases hj : i = j
  · subst hj
    have hi : i < env.length := by
      have := (List.getElem?_eq_some_iff.mp q).1
      simpa using this
    rw [List.getElem?_set_self hi] at q
    cases q
    exact ⟨v, by rw [List.getElem?_set_self (by rw [h.1]; exact hi)], r⟩
  · rw [List.getElem?_set_ne hj] at q ⊢
    exact h.2 j e q
end
/-! ### readings -/
abbrev DQ := D → Mp → Prop
abbrev DTE := DSt → Mp → DQ → Prop
abbrev DTT := DSt → Mp → (Bool → Mp → Prop) → Prop
abbrev DTA := DSt → Mp → (List D → Mp → Prop) → Prop
structure DEnds where
  nx : DSt → Mp → Prop
  rt : DQ
  bk : DSt → Mp → Prop := fun _ _ => False
  ct : DSt → Mp → Prop := fun _ _ => False
abbrev DTS := DEnds → DSt → Mp → Prop
def Post (K : PySem.W.Frag) (F H : Hp) (M : Mp) (Q0 : DQ) (Q : VK) : Prop := ∀ d M' F' H' v, Q0 d M' → Same F F' → Fr F H M F' H' M' → Core K F' H' M' → Rep K F' d v → Q v H'
def PostT (K : PySem.W.Frag) (F H : Hp) (M : Mp) (Q0 : Bool → Mp → Prop) (Q : Bool → Hp → Prop) : Prop := ∀ d M' F' H', Q0 d M' → Same F F' → Fr F H M F' H' M' → Core K F' H' M' → Q d H'
def PostA (K : PySem.W.Frag) (F H : Hp) (M : Mp) (Q0 : List D → Mp → Prop) (Q : List V → Hp → Prop) : Prop := ∀ ds M' F' H' vs, Q0 ds M' → Same F F' → Fr F H M F' H' M' → Core K F' H' M' → Reps K F' ds vs → Q vs H'
def PostN (K : PySem.W.Frag) (F H : Hp) (M : Mp) (Q0 : DSt → Mp → Prop) (Q : L2.St → Hp → Prop) : Prop := ∀ env M' F' H' σ, Q0 env M' → Same F F' → Fr F H M F' H' M' → Core K F' H' M' → EnvR K F' σ env → Q σ H'
structure PostS (K : PySem.W.Frag) (F H : Hp) (M : Mp) (D0 : DEnds) (E : Ends) : Prop where
  nx : PostN K F H M D0.nx E.nx
  rt : Post K F H M D0.rt E.rt
  bk : PostN K F H M D0.bk E.bk
  ct : PostN K F H M D0.ct E.ct
section
variable {K : PySem.W.Frag} {F F1 H H1 : Hp} {M M1 : Mp}
theorem Post.after {Q0 : DQ} {Q : VK} (p : Post K F H M Q0 Q) (s : Same F F1) (f : Fr F H M F1 H1 M1) : Post K F1 H1 M1 Q0 Q := fun d M' F' H' v q s' f' c r => p d M' F' H' v q (s.trans s') (f.trans f') c r
theorem PostT.after {Q0 : Bool → Mp → Prop} {Q : Bool → Hp → Prop} (p : PostT K F H M Q0 Q) (s : Same F F1) (f : Fr F H M F1 H1 M1) : PostT K F1 H1 M1 Q0 Q := fun d M' F' H' q s' f' c => p d M' F' H' q (s.trans s') (f.trans f') c
theorem PostA.after {Q0 : List D → Mp → Prop} {Q : List V → Hp → Prop} (p : PostA K F H M Q0 Q) (s : Same F F1) (f : Fr F H M F1 H1 M1) : PostA K F1 H1 M1 Q0 Q := fun d M' F' H' v q s' f' c r => p d M' F' H' v q (s.trans s') (f.trans f') c r
theorem PostN.after {Q0 : DSt → Mp → Prop} {Q : L2.St → Hp → Prop} (p : PostN K F H M Q0 Q) (s : Same F F1) (f : Fr F H M F1 H1 M1) : PostN K F1 H1 M1 Q0 Q := fun d M' F' H' v q s' f' c r => p d M' F' H' v q (s.trans s') (f.trans f') c r
theorem PostS.after {D0 : DEnds} {E : Ends} (p : PostS K F H M D0 E) (s : Same F F1) (f : Fr F H M F1 H1 M1) : PostS K F1 H1 M1 D0 E := ⟨p.nx.after s f, p.rt.after s f, p.bk.after s f, p.ct.after s f⟩
end
def lE (K : PySem.W.Frag) (t : DTE) : TE := fun σ H Q => ∃ F env M Q0, EnvR K F σ env ∧ Core K F H M ∧ t env M Q0 ∧ Post K F H M Q0 Q
def lT (K : PySem.W.Frag) (t : DTT) : TT := fun σ H Q => ∃ F env M Q0, EnvR K F σ env ∧ Core K F H M ∧ t env M Q0 ∧ PostT K F H M Q0 Q
def lA (K : PySem.W.Frag) (t : DTA) : TA := fun σ H Q => ∃ F env M Q0, EnvR K F σ env ∧ Core K F H M ∧ t env M Q0 ∧ PostA K F H M Q0 Q
def lS (K : PySem.W.Frag) (t : DTS) : TS := fun E σ H => ∃ F env M D0, EnvR K F σ env ∧ Core K F H M ∧ t D0 env M ∧ PostS K F H M D0 E
abbrev DE (X : Cx) (e : Expr) (t : DTE) : Prop := PE X e (lE X.K t)
abbrev DT (X : Cx) (e : Expr) (t : DTT) : Prop := PT X e (lT X.K t)
abbrev DA (X : Cx) (e : List Expr) (t : DTA) : Prop := PA X e (lA X.K t)
abbrev DS (X : Cx) (st : Stmt) (t : DTS) : Prop := PS X st (lS X.K t)
abbrev DSs (X : Cx) (st : List Stmt) (t : DTS) : Prop := PSs X st (lS X.K t)
theorem PE.imp {X : Cx} {e : Expr} {t t' : TE} (h : PE X e t) (i : ∀ σ H Q, t' σ H Q → t σ H Q) : PE X e t' := ⟨fun pins s σ H Q I q => h.run pins s σ H Q I (i σ H Q q)⟩
theorem PT.imp {X : Cx} {e : Expr} {t t' : TT} (h : PT X e t) (i : ∀ σ H Q, t' σ H Q → t σ H Q) : PT X e t' := ⟨fun pins s σ H Q I q => h.run pins s σ H Q I (i σ H Q q)⟩
theorem PW.imp {X : Cx} {e : Expr} {t t' : TT} (h : PW X e t) (i : ∀ σ H Q, t' σ H Q → t σ H Q) : PW X e t' := ⟨fun wh pins s σ H Q I q => h.run wh pins s σ H Q I (i σ H Q q)⟩
theorem PA.imp {X : Cx} {e : List Expr} {t t' : TA} (h : PA X e t) (i : ∀ σ H Q, t' σ H Q → t σ H Q) : PA X e t' := ⟨fun pos pins s σ H Q I q => h.run pos pins s σ H Q I (i σ H Q q)⟩
theorem PS.imp {X : Cx} {e : Stmt} {t t' : TS} (h : PS X e t) (i : ∀ E σ H, t' E σ H → t E σ H) : PS X e t' := ⟨fun pins s σ H D I q => h.run pins s σ H D I (i D σ H q)⟩
theorem PSs.imp {X : Cx} {e : List Stmt} {t t' : TS} (h : PSs X e t) (i : ∀ E σ H, t' E σ H → t E σ H) : PSs X e t' := ⟨fun pins s σ H D I q => h.run pins s σ H D I (i D σ H q)⟩
/-- a D-level weakening of the same judgement -/
theorem DE.imp {X : Cx} {e : Expr} {t t' : DTE} (h : DE X e t) (i : ∀ env M Q, t' env M Q → t env M Q) : DE X e t' :=
  PE.imp h fun σ H Q ⟨F, env, M, Q0, a, b, c, d⟩ => ⟨F, env, M, Q0, a, b, i _ _ _ c, d⟩
theorem DT.imp {X : Cx} {e : Expr} {t t' : DTT} (h : DT X e t) (i : ∀ env M Q, t' env M Q → t env M Q) : DT X e t' :=
  PT.imp h fun σ H Q ⟨F, env, M, Q0, a, b, c, d⟩ => ⟨F, env, M, Q0, a, b, i _ _ _ c, d⟩
theorem DSs.imp {X : Cx} {e : List Stmt} {t t' : DTS} (h : DSs X e t) (i : ∀ E env M, t' E env M → t E env M) : DSs X e t' :=
  PSs.imp h fun E σ H ⟨F, env, M, D0, a, b, c, d⟩ => ⟨F, env, M, D0, a, b, i _ _ _ c, d⟩
end DL
namespace DL
open PySem PySem.Spec PyProof.Rows L2
section
variable {X : Cx} {K : PySem.W.Frag} {a b c e : Expr} {es : List Expr} {ta tb tc : DTE} {pos : Pos}
/-! ### names, constants -/
def dVar (i : Nat) : DTE := fun env M Q => match env[i]? with | some (some d) => Q d M | _ => False
def dC (d : D) : DTE := fun _ M Q => Q d M
theorem de_of {t : TE} {td : DTE} (h : PE X e t) (i : ∀ {F H M env σ Q0 Q}, EnvR X.K F σ env → Core X.K F H M → td env M Q0 → Post X.K F H M Q0 Q → t σ H Q) : DE X e td :=
  PE.imp h fun _ _ _ ⟨_, _, _, _, he, hc, ht, hp⟩ => i he hc ht hp
theorem de_var {i : Nat} (h : PE X e (tVar i)) : DE X e (dVar i) := de_of h fun {F H M env σ Q0 Q} he hc ht hp => by
  unfold dVar at ht
  split at ht
  · rename_i d q
    obtain ⟨v, e1, r⟩ := he.2 i d q
    exact ⟨v, e1, hp d M F H v ht (Same.refl F) Fr.refl hc r⟩
  · exact ht.elim
theorem de_c {v : V} {d : D} (h : PE X e (tC v)) (r : ∀ F, Rep X.K F d v) : DE X e (dC d) := de_of h fun {F H M env σ Q0 Q} he hc ht hp => hp d M F H v ht (Same.refl F) Fr.refl hc (r F)
theorem dv (i : Nat) {x : Str} {pos : Pos} (hN : X.N[i]? = some x := by rfl) (hv : Vis X.env.scope x := by first | exact Or.inl rfl | exact Or.inr (Or.inl rfl) | exact Or.inr (Or.inr rfl)) (hd : (x == ("__debug__" : Str)) = false := by decide)
    (hcd : (x == ("__classdict__" : Str)) = false := by decide) : DE X (.Name x pos) (dVar i) := de_var (pv i hN hv hd hcd)
theorem de_int {i j pos} : DE X (.Constant (.int i) j pos) (dC (.int i)) := de_c pe_int fun F => by rw [Rep]
theorem de_bl {i j pos} : DE X (.Constant (.bool i) j pos) (dC (.bl i)) := de_c pe_bl fun F => by rw [Rep]
theorem de_str {i j pos} : DE X (.Constant (.str i) j pos) (dC (.str i)) := de_c pe_str fun F => by rw [Rep]
theorem de_non {j pos} : DE X (.Constant .none j pos) (dC .non) := de_c pe_non fun F => by rw [Rep]
/-- a module's constant -/
theorem de_glob {x : Str} {v : V} {u : Value} {d : D} {pos : Pos} (hg : Gl X x) (hm : X.mg x = some u) (r : RelV v u) (q : ∀ F, Rep X.K F d v) (hd : (x == ("__debug__" : Str)) = false := by decide) : DE X (.Name x pos) (dC d) := de_c (pe_glob hg hm r hd) q
/-! ### operations by values -/
abbrev D2 := D → D → Mp → DQ → Prop
def LR2 (K : PySem.W.Frag) (r : R2) (rd : D2) : Prop := ∀ {F H M d e v w Q0 Q}, Core K F H M → Rep K F d v → Rep K F e w → rd d e M Q0 → Post K F H M Q0 Q → r v w H Q
def dOp (rd : D2) (ta tb : DTE) : DTE := fun env M Q => ta env M fun x M1 => tb env M1 fun y M2 => rd x y M2 Q
theorem lop {r : R2} {rd : D2} (l : LR2 K r rd) : ∀ σ H Q, lE K (dOp rd ta tb) σ H Q → tOp r (lE K ta) (lE K tb) σ H Q := fun σ H Q ⟨F, env, M, Q0, he, hc, ht, hp⟩ =>
  ⟨F, env, M, _, he, hc, ht, fun d M1 F1 H1 v q s1 f1 c1 r1 => ⟨F1, env, M1, _, he.mono s1, c1, q, fun d' M2 F2 H2 v' q2 s2 f2 c2 r2 =>
    l c2 (r1.mono s2) r2 q2 (hp.after (s1.trans s2) (f1.trans f2))⟩⟩
theorem de_op {op : Operator} {r : R2} {rd : D2} (ho : OpR X (binaryOp op) r) (l : LR2 X.K r rd) (ha : DE X a ta) (hb : DE X b tb) : DE X (.BinOp a op b pos) (dOp rd ta tb) := PE.imp (pe_op ho ha hb) (lop l)
theorem de_cmp {op : CmpOp} {r : R2} {rd : D2} (ho : OpR X (compareOp op) r) (l : LR2 X.K r rd) (ha : DE X a ta) (hb : DE X b tb) (hm : behindInMarks op b = false) : DE X (.Compare a [op] [b] pos) (dOp rd ta tb) := PE.imp (pe_cmpR ho ha hb hm) (lop l)
/-- a value that is a bool, as a test -/
def dTB (t : DTE) : DTT := fun env M Q => t env M fun x M' => match x with | .bl k => Q k M' | _ => False
theorem dt_cmp {op : CmpOp} {r : R2} {rd : D2} (ho : OpR X (compareOp op) r) (l : LR2 X.K r rd) (ha : DE X a ta) (hb : DE X b tb) (hm : behindInMarks op b = false) : DT X (.Compare a [op] [b] pos) (dTB (dOp rd ta tb)) :=
  PT.imp (pt_cmpR ho ha hb hm) fun σ H Q ⟨F, env, M, Q0, he, hc, ht, hp⟩ => by
    refine lop l σ H _ ⟨F, env, M, _, he, hc, ht, fun d M1 F1 H1 v q s1 f1 c1 r1 => ?_⟩
    cases d with
    | bl k => rw [Rep] at r1; exact ⟨k, r1, hp k M1 F1 H1 q s1 f1 c1⟩
    | _ => exact False.elim q
/-- as a test: any expression whose value is True or False -/
theorem dt_val (h : DE X e ta) (he : ∀ whole, isTrue e X.env whole = (do let v ← whole; standAt e.pos; holding [v] (truthy v)) := by intro _; rfl) : DT X e (dTB ta) :=
  PT.imp (pt_val h he) fun σ H Q ⟨F, env, M, Q0, he, hc, ht, hp⟩ => by
    refine ⟨F, env, M, _, he, hc, ht, fun d M1 F1 H1 v q s1 f1 c1 r1 => ?_⟩
    cases d with
    | bl k => rw [Rep] at r1; exact ⟨k, r1, hp k M1 F1 H1 q s1 f1 c1⟩
    | _ => exact False.elim q
/-- a list that M or the data hold -/
def lstOf (M : Mp) : D → Option (List D)
  | .lst ds => some ds
  | .lsx ds => some ds
  | .ptr a => match M a with | some (.lst ds) => some ds | _ => none
  | _ => none
def tupOf : D → Option (List D)
  | .tup ds => some ds
  | _ => none
theorem lstOf_ok {F H : Hp} {M : Mp} {d : D} {v : V} {ds : List D} (c : Core K F H M) (r : Rep K F d v) (h : lstOf M d = some ds) : ∃ a vs, v = .ref a ∧ SqL K H a vs ∧ Reps K F ds vs := by
  cases d with
  | lst es =>
    simp [lstOf] at h; subst h
    rw [Rep] at r
    obtain ⟨a, vs, e1, e2, e3⟩ := r
    exact ⟨a, vs, e1, SqL.of (c.same _ _ e2), e3⟩
  | lsx es =>
    simp [lstOf] at h; subst h
    rw [Rep] at r
    obtain ⟨a, vs, e1, e2, e3⟩ := r
    exact ⟨a, vs, e1, c.same.seq e2, e3⟩
  | ptr a =>
    rw [Rep] at r
    simp only [lstOf] at h
    split at h
    · rename_i q
      cases h
      obtain ⟨_, o, ho, rm⟩ := c.mem a _ q
      obtain ⟨vs, e1, e2⟩ := rm
      subst e1
      exact ⟨a, vs, r, SqL.of ho, e2⟩
    · cases h
  | _ => simp [lstOf] at h
theorem tupOf_ok {F H : Hp} {M : Mp} {d : D} {v : V} {ds : List D} (c : Core K F H M) (r : Rep K F d v) (h : tupOf d = some ds) : ∃ a vs, v = .ref a ∧ SqT K H a vs ∧ Reps K F ds vs := by
  cases d with
  | tup es =>
    simp [tupOf] at h; subst h
    rw [Rep] at r
    obtain ⟨a, vs, e1, e2, e3⟩ := r
    exact ⟨a, vs, e1, sameT c.same e2, e3⟩
  | _ => simp [tupOf] at h
theorem Post.lst {F H : Hp} {M : Mp} {Q0 : DQ} {Q : VK} (p : Post K F H M Q0 Q) (c : Core K F H M) {ds : List D} {vs : List V} (r : Reps K F ds vs) (q : Q0 (.lst ds) M) : ∀ x, H x = none → Q (.ref x) (upd H x (.lst vs)) := fun x hx => by
  obtain ⟨c1, s1, f1⟩ := c.new hx (.lst vs)
  exact p _ _ _ _ _ q s1 f1 c1 (by rw [Rep]; exact ⟨x, vs, rfl, upd_same, r.mono s1⟩)
theorem Post.tup {F H : Hp} {M : Mp} {Q0 : DQ} {Q : VK} (p : Post K F H M Q0 Q) (c : Core K F H M) {ds : List D} {vs : List V} (r : Reps K F ds vs) (q : Q0 (.tup ds) M) : ∀ x, H x = none → Q (.ref x) (upd H x (.tup vs)) := fun x hx => by
  obtain ⟨c1, s1, f1⟩ := c.new hx (.tup vs)
  exact p _ _ _ _ _ q s1 f1 c1 (by rw [Rep]; exact ⟨x, vs, rfl, SqT.of upd_same, r.mono s1⟩)
theorem Post.val {F H : Hp} {M : Mp} {Q0 : DQ} {Q : VK} (p : Post K F H M Q0 Q) (c : Core K F H M) {d : D} {v : V} (q : Q0 d M) (r : Rep K F d v) : Q v H := p _ _ _ _ _ q (Same.refl F) Fr.refl c r
theorem Post.int {F H : Hp} {M : Mp} {Q0 : DQ} {Q : VK} (p : Post K F H M Q0 Q) (c : Core K F H M) {i : Int} (q : Q0 (.int i) M) : Q (.int i) H := p.val c q (by rw [Rep])
theorem Post.str {F H : Hp} {M : Mp} {Q0 : DQ} {Q : VK} (p : Post K F H M Q0 Q) (c : Core K F H M) {i : Str} (q : Q0 (.str i) M) : Q (.str i) H := p.val c q (by rw [Rep])
theorem Post.bl {F H : Hp} {M : Mp} {Q0 : DQ} {Q : VK} (p : Post K F H M Q0 Q) (c : Core K F H M) {i : Bool} (q : Q0 (.bl i) M) : Q (.bl i) H := p.val c q (by rw [Rep])
theorem Post.non {F H : Hp} {M : Mp} {Q0 : DQ} {Q : VK} (p : Post K F H M Q0 Q) (c : Core K F H M) (q : Q0 .non M) : Q .non H := p.val c q (by rw [Rep])
/-- the data as they stand in H -/
def rs (M : Mp) : D → D
  | .ptr a => match M a with | some (.lst ds) => .lst ds | _ => .ptr a
  | d => d
theorem rs_ok {F H : Hp} {M : Mp} {d : D} {v : V} (c : Core K F H M) (r : Rep K F d v) : Rep K H (rs M d) v := by
  cases d with
  | ptr a =>
    cases q : M a with
    | none =>
      simp only [rs, q]
      exact r.mono c.same
    | some mo =>
      cases mo with
      | lst ds =>
        obtain ⟨_, o, ho, vs, e1, e2⟩ := c.mem a _ q
        subst e1
        rw [Rep] at r
        simp only [rs, q]
        rw [Rep]
        exact ⟨a, vs, r, ho, e2.mono c.same⟩
      | ins C fs =>
        simp only [rs, q]
        exact r.mono c.same
  | _ => exact r.mono c.same
/-! ### data without objects -/
mutual
def D.py : D → PyData
  | .non => .none
  | .bl b => .bool b
  | .int i => .int i
  | .str x => .str x
  | .lst ds => .list (D.pys ds)
  | .lsx ds => .list (D.pys ds)
  | .tup ds => .tuple (D.pys ds)
  | .ptr _ => .none
  | .ty _ => .none
  | .obj _ _ => .none
def D.pys : List D → List PyData
  | [] => []
  | d :: ds => D.py d :: D.pys ds
end
mutual
def D.pl : D → Bool
  | .non => true
  | .bl _ => true
  | .int _ => true
  | .str _ => true
  | .lst ds => D.pls ds
  | .lsx ds => D.pls ds
  | .tup ds => D.pls ds
  | .ptr _ => false
  | .ty _ => false
  | .obj _ _ => false
def D.pls : List D → Bool
  | [] => true
  | d :: ds => D.pl d && D.pls ds
end
mutual
theorem Rep.dp {H : Hp} : ∀ (d : D) (v : V), Rep K H d v → d.pl = true → Dp K H v d.py
  | .non, v, r, _ => by rw [Rep] at r; subst r; exact .non
  | .bl b, v, r, _ => by rw [Rep] at r; subst r; exact .bl b
  | .int b, v, r, _ => by rw [Rep] at r; subst r; exact .int b
  | .str b, v, r, _ => by rw [Rep] at r; subst r; exact .str b
  | .lst ds, v, r, h => by
    rw [Rep] at r
    obtain ⟨a, vs, e1, e2, e3⟩ := r
    subst e1
    rw [D.pl] at h
    rw [D.py]
    exact .lst (SqL.of e2) (Reps.dp ds vs e3 h)
  | .lsx ds, v, r, h => by
    rw [Rep] at r
    obtain ⟨a, vs, e1, e2, e3⟩ := r
    subst e1
    rw [D.pl] at h
    rw [D.py]
    exact .lst e2 (Reps.dp ds vs e3 h)
  | .tup ds, v, r, h => by
    rw [Rep] at r
    obtain ⟨a, vs, e1, e2, e3⟩ := r
    subst e1
    rw [D.pl] at h
    rw [D.py]
    exact .tup e2 (Reps.dp ds vs e3 h)
  | .ptr _, v, r, h => by rw [D.pl] at h; cases h
  | .ty _, v, r, h => by rw [D.pl] at h; cases h
  | .obj _ _, v, r, h => by rw [D.pl] at h; cases h
theorem Reps.dp {H : Hp} : ∀ (ds : List D) (vs : List V), Reps K H ds vs → D.pls ds = true → DpAll K H vs (D.pys ds)
  | [], vs, r, _ => by rw [Reps] at r; subst r; exact .nil
  | d :: ds, vs, r, h => by
    rw [Reps] at r
    obtain ⟨v, w, e1, e2, e3⟩ := r
    subst e1
    rw [D.pls, Bool.and_eq_true] at h
    rw [D.pys]
    exact .cons (Rep.dp d v e2 h.1) (Reps.dp ds w e3 h.2)
end
/-- may be asked for == : no objects, texts of true signs, not too deep -/
def D.ok (d : D) : Bool := d.pl && SeqAt.shaped d.py
def D.eqv (d e : D) : Bool := PyData.eqv d.py e.py
/-! ### == -/
/-- the scalars -/
def sc2 : D → D → Bool
  | .non, .non => true | .non, .int _ => true | .int _, .non => true | .non, .bl _ => true | .bl _, .non => true | .non, .str _ => true | .str _, .non => true
  | .int _, .int _ => true | .bl _, .bl _ => true | .str _, .str _ => true
  | .int _, .str _ => true | .str _, .int _ => true | .bl _, .str _ => true | .str _, .bl _ => true
  | _, _ => false
def sEq : D → D → Bool
  | .non, .non => true
  | .int i, .int j => i == j
  | .bl i, .bl j => i == j
  | .str i, .str j => i == j
  | _, _ => false
theorem sc2_ok {F H : Hp} {d e : D} {v w : V} (r1 : Rep K F d v) (r2 : Rep K F e w) (h : sc2 d e = true) : scal v w = true ∧ decide (v = w) = sEq d e := by
  cases d <;> cases e <;> first
    | (simp [sc2] at h; done)
    | (simp only [Rep] at r1 r2; subst r1 r2; refine ⟨rfl, ?_⟩; first | rfl | exact dec_int | exact dec_bl | exact dec_str | (simp [sEq]; done))
def rEqW (neg : Bool) : D2 := fun x y M Q => if sc2 x y = true then Q (.bl (neg ^^ sEq x y)) M else ((rs M x).ok = true ∧ (rs M y).ok = true) ∧ Q (.bl (neg ^^ (rs M x).eqv (rs M y))) M
theorem ok2 {d : D} (h : d.ok = true) : d.pl = true ∧ SeqAt.shaped d.py = true := by
  unfold D.ok at h
  rw [Bool.and_eq_true] at h
  exact h
theorem l_eq : LR2 K (fun x y H Q => rEq x y H Q ∨ rEqD K x y H Q) (rEqW false) := by
  intro F H M d e v w Q0 Q c r1 r2 h p
  unfold rEqW at h
  split at h
  · rename_i q
    obtain ⟨q1, q2⟩ := sc2_ok (H := H) r1 r2 q
    refine .inl ⟨q1, ?_⟩
    rw [q2]
    exact p.bl c (by simpa using h)
  · obtain ⟨⟨h1, h2⟩, h3⟩ := h
    obtain ⟨a1, a2⟩ := ok2 h1
    obtain ⟨b1, b2⟩ := ok2 h2
    exact .inr ⟨_, _, Rep.dp _ _ (rs_ok c r1) a1, Rep.dp _ _ (rs_ok c r2) b1, a2, b2, p.bl c (by simpa [D.eqv] using h3)⟩
theorem l_ne : LR2 K (fun x y H Q => rNe x y H Q ∨ rNeD K x y H Q) (rEqW true) := by
  intro F H M d e v w Q0 Q c r1 r2 h p
  unfold rEqW at h
  split at h
  · rename_i q
    obtain ⟨q1, q2⟩ := sc2_ok (H := H) r1 r2 q
    refine .inl ⟨q1, ?_⟩
    rw [q2]
    exact p.bl c (by simpa using h)
  · obtain ⟨⟨h1, h2⟩, h3⟩ := h
    obtain ⟨a1, a2⟩ := ok2 h1
    obtain ⟨b1, b2⟩ := ok2 h2
    exact .inr ⟨_, _, Rep.dp _ _ (rs_ok c r1) a1, Rep.dp _ _ (rs_ok c r2) b1, a2, b2, p.bl c (by simpa [D.eqv] using h3)⟩
theorem o_eq (hu : X.A.units + 64 < cLine) : OpR X (compareOp .Eq) (fun x y H Q => rEq x y H Q ∨ rEqD X.K x y H Q) := op_eq.or (op_eqD hu)
theorem o_ne (hu : X.A.units + 64 < cLine) : OpR X (compareOp .NotEq) (fun x y H Q => rNe x y H Q ∨ rNeD X.K x y H Q) := op_ne.or (op_neD hu)
end
end DL
namespace DL
open PySem PySem.Spec PyProof.Rows L2
section
variable {X : Cx} {K : PySem.W.Frag} {a b c e : Expr} {es : List Expr} {ta tb tc : DTE} {pos : Pos}
/-! ### arithmetic -/
def lstM (M : Mp) : D → Option (List D)
  | .lst ds => some ds
  | .ptr a => match M a with | some (.lst ds) => some ds | _ => none
  | _ => none
theorem lstM_ok {F H : Hp} {M : Mp} {d : D} {v : V} {ds : List D} (c : Core K F H M) (r : Rep K F d v) (h : lstM M d = some ds) : ∃ a vs, v = .ref a ∧ H a = some (.lst vs) ∧ Reps K F ds vs := by
  cases d with
  | lst es =>
    simp [lstM] at h; subst h
    rw [Rep] at r
    obtain ⟨a, vs, e1, e2, e3⟩ := r
    exact ⟨a, vs, e1, c.same _ _ e2, e3⟩
  | ptr a =>
    rw [Rep] at r
    simp only [lstM] at h
    split at h
    · rename_i q
      cases h
      obtain ⟨_, o, ho, rm⟩ := c.mem a _ q
      obtain ⟨vs, e1, e2⟩ := rm
      subst e1
      exact ⟨a, vs, r, ho, e2⟩
    · cases h
  | _ => simp [lstM] at h
def rAdd : D2 := fun x y M Q => match x, y with
  | .int i, .int j => Q (.int (i + j)) M
  | .str i, .str j => i.length + j.length ≤ sizeLine ∧ Q (.str (i ++ j)) M
  | .tup i, .tup j => (i ≠ [] ∧ j ≠ []) ∧ i.length + j.length ≤ sizeLine ∧ Q (.tup (i ++ j)) M
  | x, y => match lstM M x, lstM M y with
    | some i, some j => i.length + j.length ≤ sizeLine ∧ Q (.lst (i ++ j)) M
    | _, _ => False
abbrev rStrs : R2 := fun x y H Q => ∃ i j, x = .str i ∧ y = .str j ∧ i.length + j.length ≤ sizeLine ∧ Q (.str (i ++ j)) H
theorem l_add : LR2 K (fun x y H Q => ((rI0 fun i j => .int (i + j)) x y H Q ∨ rStrs x y H Q) ∨ (rCatT K x y H Q ∨ rCat x y H Q)) rAdd := by
  intro F H M d e v w Q0 Q c r1 r2 h p
  unfold rAdd at h
  split at h
  · simp only [Rep] at r1 r2
    exact .inl (.inl ⟨_, _, r1, r2, p.int c h⟩)
  · simp only [Rep] at r1 r2
    exact .inl (.inr ⟨_, _, r1, r2, h.1, p.str c h.2⟩)
  · rename_i i j
    rw [Rep] at r1 r2
    obtain ⟨x, xs, e1, e2, e3⟩ := r1
    obtain ⟨y, ys, f1, f2, f3⟩ := r2
    obtain ⟨⟨h1, h2⟩, h3, h4⟩ := h
    have l1 := e3.len
    have l2 := f3.len
    refine .inr (.inl ⟨x, y, xs, ys, e1, f1, sameT c.same e2, sameT c.same f2, fun z => h1 ?_, by omega, fun z => absurd ?_ h2, fun _ => p.tup c (e3.app f3) h4⟩)
    · subst z; exact List.length_eq_zero_iff.mp l1.symm
    · subst z; exact List.length_eq_zero_iff.mp l2.symm
  · split at h
    · rename_i i j g1 g2
      obtain ⟨x, xs, e1, e2, e3⟩ := lstM_ok c r1 g1
      obtain ⟨y, ys, f1, f2, f3⟩ := lstM_ok c r2 g2
      have l1 := e3.len
      have l2 := f3.len
      exact .inr (.inr ⟨x, y, xs, ys, e1, f1, e2, f2, by omega, p.lst c (e3.app f3) h.2⟩)
    · exact h.elim
theorem o_add : OpR X (binaryOp .Add) (fun x y H Q => ((rI0 fun i j => .int (i + j)) x y H Q ∨ rStrs x y H Q) ∨ (rCatT X.K x y H Q ∨ rCat x y H Q)) := (op_add.or op_add_str).or (op_catT.or op_cat)
theorem de_add (ha : DE X a ta) (hb : DE X b tb) : DE X (.BinOp a .Add b pos) (dOp rAdd ta tb) := de_op o_add l_add ha hb
/-- ints alone -/
def rInt2 (C : Int → Int → Prop) (g : Int → Int → Int) : D2 := fun x y M Q => match x, y with
  | .int i, .int j => C i j ∧ Q (.int (g i j)) M
  | _, _ => False
theorem l_int {C : Int → Int → Prop} {g : Int → Int → Int} : LR2 K (rI C fun i j => .int (g i j)) (rInt2 C g) := by
  intro F H M d e v w Q0 Q c r1 r2 h p
  unfold rInt2 at h
  split at h
  · simp only [Rep] at r1 r2
    exact ⟨_, _, r1, r2, h.1, p.int c h.2⟩
  · exact h.elim
def rSubI : D2 := fun x y M Q => match x, y with
  | .int i, .int j => Q (.int (i - j)) M
  | _, _ => False
theorem l_sub : LR2 K (rI0 fun i j => .int (i - j)) rSubI := by
  intro F H M d e v w Q0 Q c r1 r2 h p
  unfold rSubI at h
  split at h
  · simp only [Rep] at r1 r2
    exact ⟨_, _, r1, r2, p.int c h⟩
  · exact h.elim
theorem de_sub (ha : DE X a ta) (hb : DE X b tb) : DE X (.BinOp a .Sub b pos) (dOp rSubI ta tb) := de_op op_sub l_sub ha hb
theorem de_fdiv (ha : DE X a ta) (hb : DE X b tb) : DE X (.BinOp a .FloorDiv b pos) (dOp (rInt2 CDivN Int.fdiv) ta tb) := de_op op_fdivN l_int ha hb
theorem de_mod (ha : DE X a ta) (hb : DE X b tb) : DE X (.BinOp a .Mod b pos) (dOp (rInt2 (fun _ j => j ≠ 0) Int.fmod) ta tb) := de_op op_modN l_int ha hb
theorem de_mul (ha : DE X a ta) (hb : DE X b tb) : DE X (.BinOp a .Mult b pos) (dOp (rInt2 CMul fun i j => i * j) ta tb) := de_op op_mul l_int ha hb
theorem de_pow (ha : DE X a ta) (hb : DE X b tb) : DE X (.BinOp a .Pow b pos) (dOp (rInt2 CPow fun i j => i ^ j.toNat) ta tb) := de_op op_pow l_int ha hb
def rNeg : D → Mp → DQ → Prop := fun x M Q => match x with | .int i => Q (.int (-i)) M | _ => False
def dUn (r : D → Mp → DQ → Prop) (t : DTE) : DTE := fun env M Q => t env M fun x M' => r x M' Q
theorem de_neg (ha : DE X a ta) : DE X (.UnaryOp .USub a pos) (dUn rNeg ta) := PE.imp (pe_un un_neg ha) fun σ H Q ⟨F, env, M, Q0, he, hc, ht, hp⟩ =>
  ⟨F, env, M, _, he, hc, ht, fun d M1 F1 H1 v q s1 f1 c1 r1 => by
    cases d with
    | int i => rw [Rep] at r1; exact ⟨i, r1, (hp.after s1 f1).int c1 q⟩
    | _ => exact False.elim q⟩
/-! ### order -/
def rOrd (fi : Int → Int → Bool) (fs : Str → Str → Bool) (ft : List Int → List Int → Bool) : D2 := fun x y M Q => match x, y with
  | .int i, .int j => Q (.bl (fi i j)) M
  | .str i, .str j => Q (.bl (fs i j)) M
  | _, _ => False
theorem l_ord {fi : Int → Int → Bool} {fs : Str → Str → Bool} {ft : List Int → List Int → Bool} :
    LR2 K (fun x y H Q => (rI0 fun i j => .bl (fi i j)) x y H Q ∨ (∃ i j, x = .str i ∧ y = .str j ∧ Q (.bl (fs i j)) H)) (rOrd fi fs ft) := by
  intro F H M d e v w Q0 Q c r1 r2 h p
  unfold rOrd at h
  split at h
  · simp only [Rep] at r1 r2
    exact .inl ⟨_, _, r1, r2, p.bl c h⟩
  · simp only [Rep] at r1 r2
    exact .inr ⟨_, _, r1, r2, p.bl c h⟩
  · exact h.elim
/-! ### items -/
theorem atI_len {α β : Type} {xs : List α} {ys : List β} (h : xs.length = ys.length) (i : Int) : ixN xs.length i = ixN ys.length i := by rw [h]
theorem atI_rep {F : Hp} {ds : List D} {vs : List V} {i : Int} {d : D} (r : Reps K F ds vs) (h : atI ds i = some d) : ∃ v, atI vs i = some v ∧ Rep K F d v := by
  unfold atI at h ⊢
  rw [r.len]
  cases q : ixN ds.length i with
  | none => rw [q] at h; cases h
  | some j => rw [q] at h; exact r.get h
def rIxD : D2 := fun x y M Q => match y with
  | .int i => match x with
    | .str z => z.length ≤ sizeLine ∧ ∃ c, atI z.cps.toList i = some c ∧ Q (.str ⟨#[c]⟩) M
    | .tup ds => ∃ d, atI ds i = some d ∧ Q d M
    | x => match lstOf M x with
      | some ds => ∃ d, atI ds i = some d ∧ Q d M
      | none => False
  | _ => False
theorem l_ix : LR2 K (rIx K) rIxD := by
  intro F H M d e v w Q0 Q c r1 r2 h p
  unfold rIxD at h
  split at h
  · rename_i i
    simp only [Rep] at r2
    subst r2
    split at h
    · simp only [Rep] at r1
      obtain ⟨h1, cc, h2, h3⟩ := h
      exact .inr (.inr ⟨_, i, cc, r1, rfl, h1, h2, p.str c h3⟩)
    · rename_i ds
      rw [Rep] at r1
      obtain ⟨x, xs, e1, e2, e3⟩ := r1
      obtain ⟨d, h1, h2⟩ := h
      obtain ⟨u, q1, q2⟩ := atI_rep e3 h1
      exact .inr (.inl ⟨x, xs, i, u, e1, rfl, sameT c.same e2, q1, p.val c h2 q2⟩)
    · split at h
      · rename_i ds g
        obtain ⟨x, xs, e1, e2, e3⟩ := lstOf_ok c r1 g
        obtain ⟨d, h1, h2⟩ := h
        obtain ⟨u, q1, q2⟩ := atI_rep e3 h1
        exact .inl ⟨x, xs, i, u, e1, rfl, e2, q1, p.val c h2 q2⟩
      · exact h.elim
  · exact h.elim
theorem de_ix (ha : DE X a ta) (hb : DE X b tb) (hs : PlainIx b := by intro _ _; rfl) : DE X (.Subscript a b pos) (dOp rIxD ta tb) := PE.imp (pe_ix ix_seq ha hb hs) (lop l_ix)
/-! ### slices -/
abbrev DTO := DSt → Mp → (Option Int → Mp → Prop) → Prop
def lO (K : PySem.W.Frag) (t : DTO) : TO := fun σ H Q => ∃ F env M Q0, EnvR K F σ env ∧ Core K F H M ∧ t env M Q0 ∧ ∀ o M' F' H', Q0 o M' → Same F F' → Fr F H M F' H' M' → Core K F' H' M' → Q o H'
theorem do_none : PO X none (lO X.K fun _ M Q => Q none M) := ⟨fun pins s σ H Q I ⟨F, env, M, Q0, he, hc, ht, hp⟩ => po_none.run pins s σ H Q I (hp none M F H ht (Same.refl F) Fr.refl hc)⟩
def dPart (t : DTE) : DTO := fun env M Q => t env M fun x M' => match x with | .int i => Q (some i) M' | _ => False
theorem do_some (h : DE X e ta) : PO X (some e) (lO X.K (dPart ta)) := ⟨fun pins s σ H Q I ⟨F, env, M, Q0, he, hc, ht, hp⟩ => (po_some h).run pins s σ H Q I
  ⟨F, env, M, _, he, hc, ht, fun d M1 F1 H1 v q s1 f1 c1 r1 => by
    cases d with
    | int i => rw [Rep] at r1; exact ⟨i, r1, hp _ _ _ _ q s1 f1 c1⟩
    | _ => exact False.elim q⟩⟩
def cutD (xs : List D) (lo hi : Option Int) : List D := (xs.drop (HT.sIx xs.length 0 lo)).take (HT.sIx xs.length xs.length hi - HT.sIx xs.length 0 lo)
theorem cut_rep {F : Hp} {ds : List D} {vs : List V} {lo hi : Option Int} (r : Reps K F ds vs) : Reps K F (cutD ds lo hi) (cutV vs lo hi) := by
  unfold cutD cutV
  rw [r.len]
  exact (r.drop _).take _
def rSlD : D → Option Int → Option Int → Mp → DQ → Prop := fun x lo hi M Q => match x with
  | .str z => z.length ≤ sizeLine ∧ Q (.str (cutS z lo hi)) M
  | .tup ds => ¬ (HT.sIx ds.length 0 lo = 0 ∧ HT.sIx ds.length ds.length hi = ds.length) ∧ Q (.tup (cutD ds lo hi)) M
  | x => match lstOf M x with
    | some ds => Q (.lst (cutD ds lo hi)) M
    | none => False
theorem SlR.or {r r' : V → Option Int → Option Int → Hp → VK → Prop} (h : SlR X r) (h' : SlR X r') : SlR X (fun x l u H Q => r x l u H Q ∨ r' x l u H Q) := by
  intro pins s σ H x v vl vu l u p Q I rv hp pl pu q
  rcases q with q | q
  · exact h pins s σ H x v vl vu l u p Q I rv hp pl pu q
  · exact h' pins s σ H x v vl vu l u p Q I rv hp pl pu q
def dSl (ta : DTE) (tl th : DTO) : DTE := fun env M Q => ta env M fun x M1 => tl env M1 fun l M2 => th env M2 fun u M3 => rSlD x l u M3 Q
theorem l_sl {F H : Hp} {M : Mp} {d : D} {v : V} {l u : Option Int} {Q0 : DQ} {Q : VK} (c : Core K F H M) (r : Rep K F d v) (h : rSlD d l u M Q0) (p : Post K F H M Q0 Q) :
    rSlL K v l u H Q ∨ rSlT K v l u H Q ∨ rSlS v l u H Q := by
  unfold rSlD at h
  split at h
  · rw [Rep] at r
    exact .inr (.inr ⟨_, r, h.1, p.str c h.2⟩)
  · rw [Rep] at r
    obtain ⟨x, xs, e1, e2, e3⟩ := r
    refine .inr (.inl ⟨x, xs, e1, sameT c.same e2, ?_, p.tup c (cut_rep e3) h.2⟩)
    rw [e3.len]; exact h.1
  · split at h
    · rename_i ds g
      obtain ⟨x, xs, e1, e2, e3⟩ := lstOf_ok c r g
      exact .inl ⟨x, xs, e1, e2, p.lst c (cut_rep e3) h⟩
    · exact h.elim
theorem de_sl {lo hi : Option Expr} {tl th : DTO} {p2 : Pos} (he : DE X e ta) (hl : PO X lo (lO X.K tl)) (hu : PO X hi (lO X.K th)) : DE X (.Subscript e (.Slice lo hi none p2) pos) (dSl ta tl th) :=
  PE.imp (pe_slice (SlR.or sl_list (SlR.or sl_tup sl_str)) he hl hu) fun σ H Q ⟨F, env, M, Q0, he, hc, ht, hp⟩ =>
    ⟨F, env, M, _, he, hc, ht, fun d M1 F1 H1 v q s1 f1 c1 r1 => ⟨F1, env, M1, _, he.mono s1, c1, q, fun l M2 F2 H2 q2 s2 f2 c2 => ⟨F2, env, M2, _, (he.mono s1).mono s2, c2, q2, fun u M3 F3 H3 q3 s3 f3 c3 =>
      l_sl c3 ((r1.mono s2).mono s3) q3 (hp.after ((s1.trans s2).trans s3) ((f1.trans f2).trans f3))⟩⟩⟩
end
end DL
namespace DL
open PySem PySem.Spec PyProof.Rows L2
section
variable {X : Cx} {K : PySem.W.Frag} {a b c e : Expr} {es : List Expr} {ta tb tc : DTE} {pos : Pos} {st : Stmt} {rest sa sb : List Stmt} {t u : DTS} {tt : DTT}
/-! ### truth, and, or, not, if -/
def dTru (ta : DTE) : DTT := fun env M Q => ta env M fun x M' => match x with
  | .non => Q false M'
  | .bl b => Q b M'
  | .int i => Q (i != 0) M'
  | .str y => y.length ≤ sizeLine ∧ Q ((y.length : Int) != 0) M'
  | .tup ds => Q (!ds.isEmpty) M'
  | x => match lstOf M' x with
    | some ds => Q (!ds.isEmpty) M'
    | none => False
theorem emp_len {F : Hp} {ds : List D} {vs : List V} (r : Reps K F ds vs) : (!vs.isEmpty) = !ds.isEmpty := by
  have h := r.len
  cases vs <;> cases ds <;> simp_all
theorem dt_tru (ha : DE X a ta) (he : ∀ whole, isTrue a X.env whole = (do let v ← whole; standAt a.pos; holding [v] (truthy v)) := by intro _; rfl) : DT X a (dTru ta) :=
  PT.imp (pt_truth ha he) fun σ H Q ⟨F, env, M, Q0, he, hc, ht, hp⟩ => ⟨F, env, M, _, he, hc, ht, fun d M1 F1 H1 v q s1 f1 c1 r1 => by
    have go : ∀ {b}, Q0 b M1 → Q b H1 := fun {b} h => hp b M1 F1 H1 h s1 f1 c1
    revert q
    dsimp only
    split <;> intro q
    · rw [Rep] at r1; subst r1; exact ⟨_, rfl, go q⟩
    · rw [Rep] at r1; subst r1; exact ⟨_, rfl, go q⟩
    · rw [Rep] at r1; subst r1; exact ⟨_, rfl, go q⟩
    · rw [Rep] at r1; subst r1; exact ⟨_, ⟨q.1, rfl⟩, go q.2⟩
    · rw [Rep] at r1
      obtain ⟨x, vs, e1, e2, e3⟩ := r1
      subst e1
      exact ⟨_, .inr (.inl ⟨vs, sameT c1.same e2, rfl⟩), by rw [emp_len e3]; exact go q⟩
    · split at q
      · rename_i ds g
        obtain ⟨x, vs, e1, e2, e3⟩ := lstOf_ok c1 r1 g
        subst e1
        exact ⟨_, .inl ⟨vs, e2, rfl⟩, by rw [emp_len e3]; exact go q⟩
      · exact q.elim⟩
abbrev DW (X : Cx) (e : Expr) (t : DTT) : Prop := PW X e (lT X.K t)
def dAnd (t u : DTT) : DTT := fun env M Q => t env M fun c M1 => if c = true then u env M1 Q else Q false M1
def dOr (t u : DTT) : DTT := fun env M Q => t env M fun c M1 => if c = true then Q true M1 else u env M1 Q
def dNot (t : DTT) : DTT := fun env M Q => t env M fun c M1 => Q (!c) M1
variable {t1 t2 : DTT}
theorem dw_and1 (h : DT X a t1) : DW X (.BoolOp .And [a] pos) t1 := pw_and1 h
theorem dw_or1 (h : DT X a t1) : DW X (.BoolOp .Or [a] pos) t1 := pw_or1 h
theorem dw_and {es : List Expr} (ha : DT X a t1) (hb : DW X (.BoolOp .And (b :: es) pos) t2) : DW X (.BoolOp .And (a :: b :: es) pos) (dAnd t1 t2) :=
  PW.imp (pw_and ha hb) fun σ H Q ⟨F, env, M, Q0, he, hc, ht, hp⟩ => ⟨F, env, M, _, he, hc, ht, fun d M1 F1 H1 q s1 f1 c1 => by
    cases d with
    | true => exact ⟨F1, env, M1, _, he.mono s1, c1, q, hp.after s1 f1⟩
    | false => exact hp false M1 F1 H1 q s1 f1 c1⟩
theorem dw_or {es : List Expr} (ha : DT X a t1) (hb : DW X (.BoolOp .Or (b :: es) pos) t2) : DW X (.BoolOp .Or (a :: b :: es) pos) (dOr t1 t2) :=
  PW.imp (pw_or ha hb) fun σ H Q ⟨F, env, M, Q0, he, hc, ht, hp⟩ => ⟨F, env, M, _, he, hc, ht, fun d M1 F1 H1 q s1 f1 c1 => by
    cases d with
    | false => exact ⟨F1, env, M1, _, he.mono s1, c1, q, hp.after s1 f1⟩
    | true => exact hp true M1 F1 H1 q s1 f1 c1⟩
theorem dt_not (ha : DT X a t1) : DT X (.UnaryOp .Not a pos) (dNot t1) :=
  PT.imp (pt_not ha) fun σ H Q ⟨F, env, M, Q0, he, hc, ht, hp⟩ => ⟨F, env, M, _, he, hc, ht, fun d M1 F1 H1 q s1 f1 c1 => hp _ M1 F1 H1 q s1 f1 c1⟩
def dNotV (ta : DTE) : DTE := fun env M Q => ta env M fun x M1 => match x with | .bl k => Q (.bl (!k)) M1 | _ => False
def dAndV (ta tb : DTE) : DTE := fun env M Q => ta env M fun x M1 => match x with | .bl k => (if k = true then tb env M1 Q else Q (.bl false) M1) | _ => False
def dOrV (ta tb : DTE) : DTE := fun env M Q => ta env M fun x M1 => match x with | .bl k => (if k = true then Q (.bl true) M1 else tb env M1 Q) | _ => False
theorem de_not (ha : DE X a ta) : DE X (.UnaryOp .Not a pos) (dNotV ta) :=
  PE.imp (pe_not ha) fun σ H Q ⟨F, env, M, Q0, he, hc, ht, hp⟩ => ⟨F, env, M, _, he, hc, ht, fun d M1 F1 H1 v q s1 f1 c1 r1 => by
    cases d with
    | bl k => rw [Rep] at r1; exact ⟨k, r1, (hp.after s1 f1).bl c1 q⟩
    | _ => exact False.elim q⟩
theorem de_one {op} (h : DE X a ta) : DE X (.BoolOp op [a] pos) ta := pe_one h
theorem de_and {es : List Expr} (ha : DE X a ta) (hb : DE X (.BoolOp .And (b :: es) pos) tb) : DE X (.BoolOp .And (a :: b :: es) pos) (dAndV ta tb) :=
  PE.imp (pe_and ha hb) fun σ H Q ⟨F, env, M, Q0, he, hc, ht, hp⟩ => ⟨F, env, M, _, he, hc, ht, fun d M1 F1 H1 v q s1 f1 c1 r1 => by
    cases d with
    | bl k =>
      rw [Rep] at r1
      refine ⟨k, r1, ?_⟩
      cases k with
      | true => exact ⟨F1, env, M1, _, he.mono s1, c1, q, hp.after s1 f1⟩
      | false => exact (hp.after s1 f1).bl c1 q
    | _ => exact False.elim q⟩
theorem de_or {es : List Expr} (ha : DE X a ta) (hb : DE X (.BoolOp .Or (b :: es) pos) tb) : DE X (.BoolOp .Or (a :: b :: es) pos) (dOrV ta tb) :=
  PE.imp (pe_or ha hb) fun σ H Q ⟨F, env, M, Q0, he, hc, ht, hp⟩ => ⟨F, env, M, _, he, hc, ht, fun d M1 F1 H1 v q s1 f1 c1 r1 => by
    cases d with
    | bl k =>
      rw [Rep] at r1
      refine ⟨k, r1, ?_⟩
      cases k with
      | false => exact ⟨F1, env, M1, _, he.mono s1, c1, q, hp.after s1 f1⟩
      | true => exact (hp.after s1 f1).bl c1 q
    | _ => exact False.elim q⟩
def dIf (tt : DTT) (ta tb : DTE) : DTE := fun env M Q => tt env M fun k M1 => if k = true then ta env M1 Q else tb env M1 Q
theorem de_if (hc : DT X c tt) (ha : DE X a ta) (hb : DE X b tb) : DE X (.IfExp c a b pos) (dIf tt ta tb) :=
  PE.imp (pe_ifExp hc ha hb) fun σ H Q ⟨F, env, M, Q0, he, hc, ht, hp⟩ => ⟨F, env, M, _, he, hc, ht, fun d M1 F1 H1 q s1 f1 c1 => by
    cases d with
    | true => exact ⟨F1, env, M1, _, he.mono s1, c1, q, hp.after s1 f1⟩
    | false => exact ⟨F1, env, M1, _, he.mono s1, c1, q, hp.after s1 f1⟩⟩
def isNon : D → Bool
  | .non => true
  | _ => false
def dIsN (neg : Bool) (ta : DTE) : DTE := fun env M Q => ta env M fun x M1 => Q (.bl (neg ^^ isNon x)) M1
theorem isN_of {F : Hp} {d : D} {v : V} (r : Rep K F d v) : decide (v = .non) = isNon d := by
  cases d <;> simp only [Rep] at r <;> simp only [isNon] <;> first
    | (subst r; simp; done)
    | (obtain ⟨a, vs, e1, _⟩ := r; subst e1; simp; done)
    | (obtain ⟨a, dx, vs, e1, _⟩ := r; subst e1; simp; done)
theorem de_isN {j pos'} (ha : DE X a ta) : DE X (.Compare a [.Is] [.Constant .none j pos'] pos) (dIsN false ta) :=
  PE.imp (pe_cmp (pc_isN ha) rfl) fun σ H Q ⟨F, env, M, Q0, he, hc, ht, hp⟩ => ⟨F, env, M, _, he, hc, ht, fun d M1 F1 H1 v q s1 f1 c1 r1 => by
    refine (hp.after s1 f1).bl c1 ?_
    rw [isN_of r1]
    simpa using q⟩
theorem de_notN {j pos'} (ha : DE X a ta) : DE X (.Compare a [.IsNot] [.Constant .none j pos'] pos) (dIsN true ta) :=
  PE.imp (pe_cmp (pc_notN ha) rfl) fun σ H Q ⟨F, env, M, Q0, he, hc, ht, hp⟩ => ⟨F, env, M, _, he, hc, ht, fun d M1 F1 H1 v q s1 f1 c1 r1 => by
    refine (hp.after s1 f1).bl c1 ?_
    rw [isN_of r1]
    simpa using q⟩
theorem dt_isN {j pos'} (ha : DE X a ta) : DT X (.Compare a [.Is] [.Constant .none j pos'] pos) (dTB (dIsN false ta)) :=
  PT.imp (pt_cmp (pc_isN ha) rfl) fun σ H Q ⟨F, env, M, Q0, he, hc, ht, hp⟩ => ⟨F, env, M, _, he, hc, ht, fun d M1 F1 H1 v q s1 f1 c1 r1 => by
    refine ⟨_, rfl, hp _ M1 F1 H1 ?_ s1 f1 c1⟩
    rw [isN_of r1]
    simpa using q⟩
theorem dt_notN {j pos'} (ha : DE X a ta) : DT X (.Compare a [.IsNot] [.Constant .none j pos'] pos) (dTB (dIsN true ta)) :=
  PT.imp (pt_cmp (pc_notN ha) rfl) fun σ H Q ⟨F, env, M, Q0, he, hc, ht, hp⟩ => ⟨F, env, M, _, he, hc, ht, fun d M1 F1 H1 v q s1 f1 c1 r1 => by
    refine ⟨_, rfl, hp _ M1 F1 H1 ?_ s1 f1 c1⟩
    rw [isN_of r1]
    simpa using q⟩
/-! ### blocks -/
def dNext : DTS := fun E env M => E.nx env M
def dSeq (t u : DTS) : DTS := fun E env M => t { E with nx := u E } env M
theorem dss_nil : DSs X [] dNext := PSs.imp pss_nil fun E σ H ⟨F, env, M, D0, he, hc, ht, hp⟩ => hp.nx env M F H σ ht (Same.refl F) Fr.refl hc he
theorem dss_cons (h1 : DS X st t) (h2 : DSs X rest u) : DSs X (st :: rest) (dSeq t u) := PSs.imp (pss_cons h1 h2) fun E σ H ⟨F, env, M, D0, he, hc, ht, hp⟩ =>
  ⟨F, env, M, { D0 with nx := u D0 }, he, hc, ht, ⟨fun env' M' F' H' σ' q s f c r => ⟨F', env', M', D0, r, c, q, hp.after s f⟩, hp.rt, hp.bk, hp.ct⟩⟩
theorem dss_one (h : DS X st t) : DSs X [st] t := pss_one h
def dBreak : DTS := fun E env M => E.bk env M
def dCont : DTS := fun E env M => E.ct env M
theorem ds_pass : DS X (.Pass pos) dNext := PS.imp ps_pass fun E σ H ⟨F, env, M, D0, he, hc, ht, hp⟩ => hp.nx env M F H σ ht (Same.refl F) Fr.refl hc he
theorem ds_break : DS X (.Break pos) dBreak := PS.imp ps_break fun E σ H ⟨F, env, M, D0, he, hc, ht, hp⟩ => hp.bk env M F H σ ht (Same.refl F) Fr.refl hc he
theorem ds_continue : DS X (.Continue pos) dCont := PS.imp ps_continue fun E σ H ⟨F, env, M, D0, he, hc, ht, hp⟩ => hp.ct env M F H σ ht (Same.refl F) Fr.refl hc he
def dDrop (ta : DTE) : DTS := fun E env M => ta env M fun _ M' => E.nx env M'
theorem ds_expr (h : DE X e ta) (hs : swapsWith e none pos.line X.env = pure false := by rfl) : DS X (.Expr e pos) (dDrop ta) := PS.imp (ps_expr h hs) fun E σ H ⟨F, env, M, D0, he, hc, ht, hp⟩ =>
  ⟨F, env, M, _, he, hc, ht, fun d M1 F1 H1 v q s1 f1 c1 r1 => hp.nx env M1 F1 H1 σ q s1 f1 c1 (he.mono s1)⟩
def dRet (ta : DTE) : DTS := fun E env M => ta env M E.rt
theorem ds_ret (h : DE X e ta) : DS X (.Return (some e) pos) (dRet ta) := PS.imp (ps_ret h) fun E σ H ⟨F, env, M, D0, he, hc, ht, hp⟩ =>
  ⟨F, env, M, _, he, hc, ht, fun d M1 F1 H1 v q s1 f1 c1 r1 => hp.rt d M1 F1 H1 v q s1 f1 c1 r1⟩
def dRetN : DTS := fun E _ M => E.rt .non M
theorem ds_retN : DS X (.Return none pos) dRetN := PS.imp ps_retN fun E σ H ⟨F, env, M, D0, he, hc, ht, hp⟩ => hp.rt.non hc ht
def dIfS (tt : DTT) (t u : DTS) : DTS := fun E env M => tt env M fun k M1 => if k = true then t E env M1 else u E env M1
theorem ds_if (hc : DT X c tt) (ha : DSs X sa t) (hb : DSs X sb u) : DS X (.If c sa sb pos) (dIfS tt t u) := PS.imp (ps_if hc ha hb) fun E σ H ⟨F, env, M, D0, he, hc, ht, hp⟩ =>
  ⟨F, env, M, _, he, hc, ht, fun d M1 F1 H1 q s1 f1 c1 => by
    cases d with
    | true => exact ⟨F1, env, M1, D0, he.mono s1, c1, q, hp.after s1 f1⟩
    | false => exact ⟨F1, env, M1, D0, he.mono s1, c1, q, hp.after s1 f1⟩⟩
/-- a choice of the proof: the reading is weakened -/
theorem ds_wk {t' : DTS} (h : DS X st t) (i : ∀ E env M, t' E env M → t E env M) : DS X st t' :=
  PS.imp h fun E σ H ⟨F, env, M, D0, he, hc, ht, hp⟩ => ⟨F, env, M, D0, he, hc, i _ _ _ ht, hp⟩
/-! ### targets -/
abbrev DTG := D → DSt → Mp → (DSt → Mp → Prop) → Prop
abbrev DTGs := List D → DSt → Mp → (DSt → Mp → Prop) → Prop
def lG (K : PySem.W.Frag) (t : DTG) : TG := fun v σ H Q => ∃ F env M d Q0, EnvR K F σ env ∧ Core K F H M ∧ Rep K F d v ∧ t d env M Q0 ∧ PostN K F H M Q0 Q
def lGs (K : PySem.W.Frag) (t : DTGs) : TGs := fun vs σ H Q => ∃ F env M ds Q0, EnvR K F σ env ∧ Core K F H M ∧ Reps K F ds vs ∧ t ds env M Q0 ∧ PostN K F H M Q0 Q
abbrev DG (X : Cx) (e : Expr) (t : DTG) : Prop := PG X e (lG X.K t)
abbrev DGs (X : Cx) (es : List Expr) (t : DTGs) : Prop := PGs X es (lGs X.K t)
theorem PG.imp {t t' : TG} (h : PG X e t) (i : ∀ v σ H Q, t' v σ H Q → t v σ H Q) : PG X e t' := ⟨fun pins s σ H v u Q I r q => h.run pins s σ H v u Q I r (i v σ H Q q)⟩
theorem PGs.imp {t t' : TGs} (h : PGs X es t) (i : ∀ v σ H Q, t' v σ H Q → t v σ H Q) : PGs X es t' := ⟨fun pins s σ H v u Q I r q => h.run pins s σ H v u Q I r (i v σ H Q q)⟩
def dgName (i : Nat) : DTG := fun d env M Q => Q (env.set i (some d)) M
theorem dg_of {i : Nat} (h : PG X e (gName i)) : DG X e (dgName i) := PG.imp h fun v σ H Q ⟨F, env, M, d, Q0, he, hc, r, ht, hp⟩ =>
  hp _ M F H _ ht (Same.refl F) Fr.refl hc (he.set i r)
theorem dg_name {i : Nat} {x : Str} (hN : X.N.Nodup) (hi : X.N[i]? = some x := by rfl) (hx : Loc X.env.scope x := by first | exact Or.inl rfl | exact Or.inr rfl) (hf : X.fn x = true ∨ X.env.scope.names.lookup x = some .local := by first | exact .inl rfl | exact .inr rfl | assumption) : DG X (.Name x pos) (dgName i) := dg_of (pg_name hN hi hx hf)
def dgNil : DTGs := fun ds env M Q => ds = [] ∧ Q env M
def dgCons (t : DTG) (u : DTGs) : DTGs := fun ds env M Q => match ds with | d :: r => t d env M fun env' M' => u r env' M' Q | [] => False
theorem dgs_nil : DGs X [] dgNil := PGs.imp pgs_nil fun v σ H Q ⟨F, env, M, ds, Q0, he, hc, r, ht, hp⟩ => by
  obtain ⟨e, ht⟩ := ht
  subst e
  rw [Reps] at r
  exact ⟨r, hp _ M F H _ ht (Same.refl F) Fr.refl hc he⟩
theorem dgs_cons {t : DTG} {u : DTGs} (h1 : DG X e t) (h2 : DGs X es u) (hs : (assignEach (e :: es) X.env).map (·.2) = assign e X.env :: (assignEach es X.env).map (·.2) := by rfl) : DGs X (e :: es) (dgCons t u) :=
  PGs.imp (pgs_cons h1 h2 hs) fun v σ H Q ⟨F, env, M, ds, Q0, he, hc, r, ht, hp⟩ => by
    cases ds with
    | nil => exact False.elim ht
    | cons d ds =>
      rw [Reps] at r
      obtain ⟨v1, r1, e1, e2, e3⟩ := r
      exact ⟨v1, r1, e1, F, env, M, d, _, he, hc, e2, ht, fun env' M' F' H' σ' q s f c r => ⟨F', env', M', ds, Q0, r, c, e3.mono s, q, hp.after s f⟩⟩
def dgTup (n : Nat) (t : DTGs) : DTG := fun d env M Q => match d with | .tup ds => ds.length = n ∧ t ds env M Q | _ => False
theorem dg_tup {k : Nat} {t : DTGs} {n : Nat} (hc : X.calm = true) (h : DGs X es t) (hn : (assignEach es X.env).length = n := by rfl) (hst : (assignEach es X.env).findIdx? (·.1) = none := by rfl) : DG X (.Tuple es k pos) (dgTup n t) :=
  PG.imp (pg_tup hc h hn hst) fun v σ H Q ⟨F, env, M, d, Q0, he, hc, r, ht, hp⟩ => by
    cases d with
    | tup ds =>
      rw [Rep] at r
      obtain ⟨a, vs, e1, e2, e3⟩ := r
      exact ⟨a, vs, e1, sameT hc.same e2, by rw [e3.len]; exact ht.1, F, env, M, ds, Q0, he, hc, e3, ht.2, hp⟩
    | _ => exact False.elim ht
/-! ### stores -/
def dAsg (ta : DTE) (g : DTG) : DTS := fun E env M => ta env M fun d M1 => g d env M1 E.nx
theorem dasg {g : DTG} : ∀ E σ H, lS K (dAsg ta g) E σ H → tAsg (lE K ta) (lG K g) E σ H := fun E σ H ⟨F, env, M, D0, he, hc, ht, hp⟩ =>
  ⟨F, env, M, _, he, hc, ht, fun d M1 F1 H1 v q s1 f1 c1 r1 => ⟨F1, env, M1, d, _, he.mono s1, c1, r1, q, hp.nx.after s1 f1⟩⟩
theorem ds_asg {tg : Expr} {g : DTG} (he : DE X e ta) (hg : DG X tg g) (hs : swapsWithSole [tg] e pos.line X.env = pure false := by rfl) (hw : swappedStores [tg] e X.env = pure none := by rfl)
    (h1 : (assignEach [tg] X.env).map (·.2) = [assign tg X.env] := by rfl) : DS X (.Assign [tg] e pos) (dAsg ta g) := PS.imp (ps_asg he hg hs hw h1) dasg
theorem ds_set {i : Nat} {x : Str} {pos' : Pos} (hN : X.N.Nodup) (he : DE X e ta) (hi : X.N[i]? = some x := by rfl) (hx : Loc X.env.scope x := by first | exact Or.inl rfl | exact Or.inr rfl) (hs : swapsWith e (some (.Name x pos')) pos.line X.env = pure false := by rfl) (hf : X.fn x = true ∨ X.env.scope.names.lookup x = some .local := by first | exact .inl rfl | exact .inr rfl | assumption) :
    DS X (.Assign [.Name x pos'] e pos) (dAsg ta (dgName i)) := PS.imp (ps_set hN hi hx he hs hf) fun E σ H ⟨F, env, M, D0, he, hc, ht, hp⟩ =>
  ⟨F, env, M, _, he, hc, ht, fun d M1 F1 H1 v q s1 f1 c1 r1 => hp.nx _ M1 F1 H1 _ q s1 f1 c1 ((he.mono s1).set i r1)⟩
/-- a, b = x, y -/
def dPar (i j : Nat) (ta tb : DTE) : DTS := fun E env M => ta env M fun x M1 => tb env M1 fun y M2 => E.nx ((env.set i (some x)).set j (some y)) M2
/-! ### loops -/
def dWhile (tt : DTT) (t : DTS) : DTS := fun E env M => ∃ Pv : Nat → DSt → Mp → Prop, (∃ m, Pv m env M) ∧ ∀ m env M, Pv m env M →
  tt env M fun k M1 => if k = true then t { E with nx := fun env' M' => ∃ m', m' < m ∧ Pv m' env' M', ct := fun env' M' => ∃ m', m' < m ∧ Pv m' env' M', bk := E.nx } env M1 else E.nx env M1
theorem ds_while {body : List Stmt} (hp : PassesOwn (model X.prog X.w) X.A X.env X.xe) (hc : DT X c tt) (hb : DSs X body t) : DS X (.While c body [] pos) (dWhile tt t) :=
  PS.imp (ps_while hp hc hb) fun E σ H ⟨F, env, M, D0, he, hc, ⟨Pv, ⟨m0, p0⟩, turn⟩, hp⟩ => by
    refine ⟨fun m σ' H' => ∃ F' env' M', Same F F' ∧ Fr F H M F' H' M' ∧ EnvR X.K F' σ' env' ∧ Core X.K F' H' M' ∧ Pv m env' M', ⟨m0, F, env, M, Same.refl F, Fr.refl, he, hc, p0⟩, ?_⟩
    rintro m σ1 H1 ⟨F1, env1, M1, s1, f1, r1, c1, p1⟩
    refine ⟨F1, env1, M1, _, r1, c1, turn m env1 M1 p1, fun k M2 F2 H2 q s2 f2 c2 => ?_⟩
    cases k with
    | false => exact hp.nx _ M2 F2 H2 _ q (s1.trans s2) (f1.trans f2) c2 (r1.mono s2)
    | true =>
      have go : PostN X.K F2 H2 M2 (fun env' M' => ∃ m', m' < m ∧ Pv m' env' M') (fun σ' H' => ∃ m', m' < m ∧ ∃ F' env' M', Same F F' ∧ Fr F H M F' H' M' ∧ EnvR X.K F' σ' env' ∧ Core X.K F' H' M' ∧ Pv m' env' M') :=
        fun env' M' F' H' σ' ⟨m', hm, p'⟩ s f c r => ⟨m', hm, F', env', M', (s1.trans s2).trans s, (f1.trans f2).trans f, r, c, p'⟩
      rw [if_pos rfl]
      refine ⟨_, fun σ' H' z => z, F2, env1, M2, _, r1.mono s2, c2, q, ⟨go, (hp.after (s1.trans s2) (f1.trans f2)).rt, (hp.after (s1.trans s2) (f1.trans f2)).nx, go⟩⟩
/-- what a loop walks: the items -/
structure Yl (K : PySem.W.Frag) (J : It) (F : Hp) (ds : List D) (kp : Mp → Prop) : Prop where
  go : ∀ {F' H : Hp} {M : Mp} {i : Nat}, Same F F' → Core K F' H M → kp M → i < ds.length → J.go i H
  stop : ∀ {F' H : Hp} {M : Mp} {i : Nat}, Same F F' → Core K F' H M → kp M → ds.length ≤ i → J.stop i H
  yld : ∀ {F' H H' : Hp} {M : Mp} {i : Nat} {x : V}, Same F F' → Core K F' H M → kp M → i < ds.length → J.yld i H x H' → ∃ d F'', ds[i]? = some d ∧ Same F' F'' ∧ Core K F'' H' M ∧ Fr F' H M F'' H' M ∧ Rep K F'' d x
theorem Yl.mono {J : It} {F F1 : Hp} {ds : List D} {kp : Mp → Prop} (y : Yl K J F ds kp) (s : Same F F1) : Yl K J F1 ds kp := ⟨fun s' => y.go (s.trans s'), fun s' => y.stop (s.trans s'), fun s' => y.yld (s.trans s')⟩
abbrev DTI := DSt → Mp → (List D → (Mp → Prop) → Mp → Prop) → Prop
def lI (K : PySem.W.Frag) (t : DTI) : TI := fun σ H R => ∃ F env M R0, EnvR K F σ env ∧ Core K F H M ∧ t env M R0 ∧ ∀ ds kp M' F' H' J, R0 ds kp M' → Same F F' → Fr F H M F' H' M' → Core K F' H' M' → Yl K J F' ds kp → R J H'
abbrev DI (X : Cx) (tg iter : Expr) (t : DTI) : Prop := PI X tg iter (lI X.K t)
theorem PI.imp {tg iter : Expr} {t t' : TI} (h : PI X tg iter t) (i : ∀ σ H R, t' σ H R → t σ H R) : PI X tg iter t' := ⟨fun pins s σ H R I q => h.run pins s σ H R I (i σ H R q)⟩
def dFor (ti : DTI) (g : DTG) (t : DTS) : DTS := fun E env M => ti env M fun ds kp M1 => ∃ Pv : Nat → DSt → Mp → Prop, Pv 0 env M1 ∧ (∀ i env M, Pv i env M → kp M) ∧
  (∀ i d env M, ds[i]? = some d → Pv i env M → g d env M fun env' M' => t { E with nx := Pv (i + 1), ct := Pv (i + 1), bk := E.nx } env' M') ∧ ∀ env M, Pv ds.length env M → E.nx env M
theorem ds_for {tg iter : Expr} {body : List Stmt} {ti : DTI} {g : DTG} (hp : PassesOwn (model X.prog X.w) X.A X.env X.xe) (hc : X.calm = true) (hi : DI X tg iter ti) (hg : DG X tg g) (hb : DSs X body t)
    (hs : ∀ x, foldedSetIterable iter X.env x = pure x := by intro _; rfl) : DS X (.For tg iter body [] pos) (dFor ti g t) :=
  PS.imp (ps_for hp hc hi hg hb hs) fun E σ H ⟨F, env, M, D0, he, hc, ht, hp⟩ => by
    refine ⟨F, env, M, _, he, hc, ht, fun ds kp M1 F1 H1 J q s1 f1 c1 Y => ?_⟩
    obtain ⟨Pv, p0, hk, turn, fin⟩ := q
    refine ⟨fun i m σ' H' => m = ds.length - i ∧ i ≤ ds.length ∧ ∃ F' env' M', Same F1 F' ∧ Fr F1 H1 M1 F' H' M' ∧ EnvR X.K F' σ' env' ∧ Core X.K F' H' M' ∧ Pv i env' M', ⟨_, rfl, Nat.zero_le _, F1, env, M1, Same.refl _, Fr.refl, he.mono s1, c1, p0⟩, ?_⟩
    rintro i m σ2 H2 ⟨rfl, hle, F2, env2, M2, s2, f2, r2, c2, p2⟩
    have kk := hk _ _ _ p2
    by_cases hlt : i < ds.length
    · refine .inr ⟨Y.go s2 c2 kk hlt, fun σ' H' => ∃ F' env' M', Same F1 F' ∧ Fr F1 H1 M1 F' H' M' ∧ EnvR X.K F' σ' env' ∧ Core X.K F' H' M' ∧ Pv (i + 1) env' M', fun σ' H' z => ⟨_, by omega, rfl, hlt, z⟩, fun x H3 y => ?_⟩
      obtain ⟨d, F3, hd, s3, c3, f3, r3⟩ := Y.yld s2 c2 kk hlt y
      have t1 := turn i d env2 M2 hd p2
      have go : PostN X.K F3 H3 M2 (Pv (i + 1)) (fun σ' H' => ∃ F' env' M', Same F1 F' ∧ Fr F1 H1 M1 F' H' M' ∧ EnvR X.K F' σ' env' ∧ Core X.K F' H' M' ∧ Pv (i + 1) env' M') :=
        fun env' M' F' H' σ' p' s f c r => ⟨F', env', M', (s2.trans s3).trans s, (f2.trans f3).trans f, r, c, p'⟩
      have hp' := hp.after ((s1.trans s2).trans s3) ((f1.trans f2).trans f3)
      exact ⟨F3, env2, M2, d, _, r2.mono s3, c3, r3, t1, fun env' M' F' H' σ' p' s f c r => ⟨F', env', M', _, r, c, p', ⟨go.after s f, (hp'.after s f).rt, (hp'.after s f).nx, go.after s f⟩⟩⟩
    · have e : i = ds.length := by omega
      subst e
      exact .inl ⟨Y.stop s2 c2 kk (Nat.le_refl _), hp.nx _ M2 F2 H2 _ (fin _ _ p2) (s1.trans s2) (f1.trans f2) c2 r2⟩
end
end DL
namespace DL
open PySem PySem.Spec PyProof.Rows L2
section
variable {X : Cx} {K : PySem.W.Frag} {a b c e : Expr} {es : List Expr} {ta tb tc : DTE} {pos : Pos} {tt : DTT} {tr : DTA}
/-! ### argument lists, displays -/
def dNil : DTA := fun _ M Q => Q [] M
def dCons (ta : DTE) (tr : DTA) : DTA := fun env M Q => ta env M fun x M1 => tr env M1 fun xs M2 => Q (x :: xs) M2
theorem da_nil : DA X [] dNil := PA.imp pa_nil fun σ H Q ⟨F, env, M, Q0, he, hc, ht, hp⟩ => hp [] M F H [] ht (Same.refl F) Fr.refl hc Reps.nil
theorem da_cons (ha : DE X e ta) (hr : DA X es tr) (hs : starEach (e :: es) X.env = (false, eval e X.env) :: starEach es X.env := by rfl) : DA X (e :: es) (dCons ta tr) :=
  PA.imp (pa_cons ha hr hs) fun σ H Q ⟨F, env, M, Q0, he, hc, ht, hp⟩ => ⟨F, env, M, _, he, hc, ht, fun d M1 F1 H1 v q s1 f1 c1 r1 => ⟨F1, env, M1, _, he.mono s1, c1, q, fun ds M2 F2 H2 vs q2 s2 f2 c2 r2 =>
    hp _ M2 F2 H2 _ q2 (s1.trans s2) (f1.trans f2) c2 (Reps.cons (r1.mono s2) r2)⟩⟩
theorem pa_of {t : TA} {td : DTA} (h : PA X es t) (i : ∀ {F H M env σ Q0 Q}, EnvR X.K F σ env → Core X.K F H M → td env M Q0 → PostA X.K F H M Q0 Q → t σ H Q) : DA X es td :=
  PA.imp h fun _ _ _ ⟨_, _, _, _, he, hc, ht, hp⟩ => i he hc ht hp
def dTup (t : DTA) : DTE := fun env M Q => t env M fun ds M1 => ds.length ≤ sizeLine ∧ Q (.tup ds) M1
def dLst (t : DTA) : DTE := fun env M Q => t env M fun ds M1 => ds.length ≤ sizeLine ∧ Q (.lst ds) M1
def dLstM (t : DTA) : DTE := fun env M Q => t env M fun ds M1 => ds.length ≤ sizeLine ∧ ∀ p, M1 p = none → Q (.ptr p) (up M1 p (.lst ds))
theorem de_tup {k} (h : DA X es tr) : DE X (.Tuple es k pos) (dTup tr) := PE.imp (pe_tup h) fun σ H Q ⟨F, env, M, Q0, he, hc, ht, hp⟩ =>
  ⟨F, env, M, _, he, hc, ht, fun ds M1 F1 H1 vs q s1 f1 c1 r1 => ⟨by rw [r1.len]; exact q.1, (hp.after s1 f1).tup c1 r1 q.2⟩⟩
theorem de_lst (h : DA X es tr) : DE X (.List es pos) (dLst tr) := PE.imp (pe_lst h) fun σ H Q ⟨F, env, M, Q0, he, hc, ht, hp⟩ =>
  ⟨F, env, M, _, he, hc, ht, fun ds M1 F1 H1 vs q s1 f1 c1 r1 => ⟨by rw [r1.len]; exact q.1, (hp.after s1 f1).lst c1 r1 q.2⟩⟩
theorem Post.ptr {F H : Hp} {M : Mp} {Q0 : DQ} {Q : VK} (p : Post K F H M Q0 Q) (c : Core K F H M) {o : HO} {mo : MO} (r : RepM K F mo o) (q : ∀ x, M x = none → Q0 (.ptr x) (up M x mo)) : ∀ x, H x = none → Q (.ref x) (upd H x o) := fun x hx => by
  obtain ⟨c1, f1⟩ := c.newM hx r
  exact p _ _ _ _ _ (q x (c.nones hx).2) (Same.refl F) f1 c1 (by rw [Rep])
theorem de_lstM (h : DA X es tr) : DE X (.List es pos) (dLstM tr) := PE.imp (pe_lst h) fun σ H Q ⟨F, env, M, Q0, he, hc, ht, hp⟩ =>
  ⟨F, env, M, _, he, hc, ht, fun ds M1 F1 H1 vs q s1 f1 c1 r1 => ⟨by rw [r1.len]; exact q.1, (hp.after s1 f1).ptr (mo := .lst ds) c1 ⟨vs, rfl, r1⟩ q.2⟩⟩
/-! ### what is walked -/
theorem yl_list {F : Hp} {a : Addr} {vs : List V} {ds : List D} {kp : Mp → Prop} (r : Reps K F ds vs) (h : ∀ {F' H : Hp} {M : Mp}, Same F F' → Core K F' H M → kp M → SqL K H a vs) : Yl K (Itl K a) F ds kp where
  go := fun {F' H M i} s c k hi => ⟨vs, vs[i]'(by rw [r.len]; exact hi), h s c k, by simp⟩
  stop := fun {F' H M i} s c k hi => ⟨vs, h s c k, by rw [r.len]; exact hi⟩
  yld := fun {F' H H' M i x} s c k hi y => by
    obtain ⟨e, y⟩ := y
    subst e
    obtain ⟨d, e1, e2⟩ := r.get' (y vs (h s c k))
    exact ⟨d, F', e1, Same.refl _, c, Fr.refl, e2.mono s⟩
def dIter (ta : DTE) : DTI := fun env M R => ta env M fun x M1 => match x with
  | .lst ds => R ds (fun _ => True) M1
  | .lsx ds => R ds (fun _ => True) M1
  | .ptr a => match M1 a with | some (.lst ds) => R ds (fun M => M a = some (.lst ds)) M1 | _ => False
  | _ => False
theorem di_list {tg : Expr} (h : DE X e ta) : DI X tg e (dIter ta) := PI.imp (pi_list h) fun σ H R ⟨F, env, M, R0, he, hc, ht, hp⟩ =>
  ⟨F, env, M, _, he, hc, ht, fun d M1 F1 H1 v q s1 f1 c1 r1 => by
    revert q
    dsimp only
    split <;> intro q
    · rw [Rep] at r1
      obtain ⟨a, vs, e1, e2, e3⟩ := r1
      exact ⟨a, e1, ⟨vs, SqL.of (c1.same _ _ e2)⟩, hp _ _ _ _ _ _ q s1 f1 c1 (yl_list e3 fun s c k => SqL.of (c.same _ _ (s _ _ e2)))⟩
    · rw [Rep] at r1
      obtain ⟨a, vs, e1, e2, e3⟩ := r1
      exact ⟨a, e1, ⟨vs, c1.same.seq e2⟩, hp _ _ _ _ _ _ q s1 f1 c1 (yl_list e3 fun s c k => c.same.seq (s.seq e2))⟩
    · rename_i a
      split at q
      · rename_i ds g
        rw [Rep] at r1
        obtain ⟨_, o, ho, vs, e1, e2⟩ := c1.mem a _ g
        subst e1
        have y : Yl X.K (Itl X.K a) F1 ds (fun M => M a = some (.lst ds)) := {
          go := fun {F' H M i} s c k hi => by
            obtain ⟨_, o, ho, vs, e1, e2⟩ := c.mem a _ k
            subst e1
            exact ⟨vs, vs[i]'(by rw [e2.len]; exact hi), SqL.of ho, by simp⟩
          stop := fun {F' H M i} s c k hi => by
            obtain ⟨_, o, ho, vs, e1, e2⟩ := c.mem a _ k
            subst e1
            exact ⟨vs, SqL.of ho, by rw [e2.len]; exact hi⟩
          yld := fun {F' H H' M i x} s c k hi y => by
            obtain ⟨_, o, ho, vs, e1, e2⟩ := c.mem a _ k
            subst e1
            obtain ⟨e, y⟩ := y
            subst e
            obtain ⟨d, e3, e4⟩ := e2.get' (y vs (SqL.of ho))
            exact ⟨d, F', e3, Same.refl _, c, Fr.refl, e4⟩ }
        exact ⟨a, r1, ⟨vs, SqL.of ho⟩, hp _ _ _ _ _ _ q s1 f1 c1 y⟩
      · exact q.elim
    · exact q.elim⟩
def dIterT (ta : DTE) : DTI := fun env M R => ta env M fun x M1 => match x with
  | .tup ds => R ds (fun _ => True) M1
  | _ => False
theorem di_tup {tg : Expr} (h : DE X e ta) : DI X tg e (dIterT ta) := PI.imp (pi_tup h) fun σ H R ⟨F, env, M, R0, he, hc, ht, hp⟩ =>
  ⟨F, env, M, _, he, hc, ht, fun d M1 F1 H1 v q s1 f1 c1 r1 => by
    revert q
    dsimp only
    split <;> intro q
    · rename_i ds
      rw [Rep] at r1
      obtain ⟨a, vs, e1, e2, e3⟩ := r1
      have y : Yl X.K (Itt X.K a) F1 ds (fun _ => True) := {
          go := fun {F' H M i} s c k hi => ⟨vs, vs[i]'(by rw [e3.len]; exact hi), sameT c.same (sameT s e2), by simp⟩
          stop := fun {F' H M i} s c k hi => ⟨vs, sameT c.same (sameT s e2), by rw [e3.len]; exact hi⟩
          yld := fun {F' H H' M i x} s c k hi y => by
            obtain ⟨e, y⟩ := y
            subst e
            obtain ⟨d, e4, e5⟩ := e3.get' (y vs (sameT c.same (sameT s e2)))
            exact ⟨d, F', e4, Same.refl _, c, Fr.refl, e5.mono s⟩ }
      exact ⟨a, e1, ⟨vs, sameT c1.same e2⟩, hp _ _ _ _ _ _ q s1 f1 c1 y⟩
    · exact q.elim⟩
/-- the sgs of a text -/
def sgs (x : Str) : List D := x.cps.toList.map fun c => .str ⟨#[c]⟩
def dIterS (ta : DTE) : DTI := fun env M R => ta env M fun x M1 => match x with
  | .str z => R (sgs z) (fun _ => True) M1
  | _ => False
theorem di_str {tg : Expr} (h : DE X e ta) : DI X tg e (dIterS ta) := PI.imp (pi_str h) fun σ H R ⟨F, env, M, R0, he, hc, ht, hp⟩ =>
  ⟨F, env, M, _, he, hc, ht, fun d M1 F1 H1 v q s1 f1 c1 r1 => by
    cases d with
    | str z =>
      rw [Rep] at r1
      have hl : (sgs z).length = z.cps.size := by simp [sgs]
      have y : Yl X.K (Its z) F1 (sgs z) (fun _ => True) := {
          go := fun {F' H M i} s c k hi => by rw [hl] at hi; exact hi
          stop := fun {F' H M i} s c k hi => by rw [hl] at hi; exact hi
          yld := fun {F' H H' M i x} s c k hi y => by
            obtain ⟨e, cc, e1, e2⟩ := y
            subst e
            refine ⟨.str ⟨#[cc]⟩, F', ?_, Same.refl _, c, Fr.refl, by rw [Rep]; exact e2⟩
            simp [sgs, e1] }
      exact ⟨z, r1, hp _ _ _ _ _ _ q s1 f1 c1 y⟩
    | _ => exact False.elim q⟩
def rng (lo : Int) (n : Nat) : List D := (List.range n).map fun i => .int (lo + (i : Nat))
theorem yl_rng {F : Hp} {lo : Int} {n : Nat} : Yl K (Itr lo n) F (rng lo n) (fun _ => True) where
  go := fun {F' H M i} s c k hi => by
    have h : i < n := by simpa [rng] using hi
    exact h
  stop := fun {F' H M i} s c k hi => by
    have h : n ≤ i := by simpa [rng] using hi
    exact h
  yld := fun {F' H H' M i x} s c k hi y => by
    obtain ⟨e, e1⟩ := y
    subst e e1
    have hi' : i < n := by simpa [rng] using hi
    exact ⟨.int (lo + (i : Nat)), F', by simp [rng, hi'], Same.refl _, c, Fr.refl, by rw [Rep]⟩
def dRng1 (tr : DTA) : DTI := fun env M R => tr env M fun ds M1 => match ds with
  | [.int j] => (-(2 ^ 62) ≤ j ∧ j < 2 ^ 62) ∧ R (rng 0 j.toNat) (fun _ => True) M1
  | _ => False
theorem di_rng1 {tg : Expr} {p : Pos} (hm : X.mg "range" = none) (ha : DA X [a] tr) (hg : Gl X "range" := by rfl) (hs : starEach [a] X.env = [(false, eval a X.env)] := by rfl) : DI X tg (.Call (.Name "range" p) [a] [] pos) (dRng1 tr) :=
  PI.imp (pi_range1 hg hm ha hs) fun σ H R ⟨F, env, M, R0, he, hc, ht, hp⟩ => ⟨F, env, M, _, he, hc, ht, fun ds M1 F1 H1 vs q s1 f1 c1 r1 => by
    revert q
    dsimp only
    split <;> intro q
    · simp only [Reps, Rep] at r1
      obtain ⟨v, r, e1, e2, e3⟩ := r1
      subst e1 e2 e3
      exact ⟨_, rfl, q.1.1, q.1.2, hp _ _ _ _ _ _ q.2 s1 f1 c1 yl_rng⟩
    · exact q.elim⟩
def dRng2 (tr : DTA) : DTI := fun env M R => tr env M fun ds M1 => match ds with
  | [.int i, .int j] => (-(2 ^ 62) ≤ i ∧ i < 2 ^ 62 ∧ -(2 ^ 62) ≤ j ∧ j < 2 ^ 62) ∧ R (rng i (j - i).toNat) (fun _ => True) M1
  | _ => False
theorem di_rng2 {tg : Expr} {p : Pos} (hm : X.mg "range" = none) (ha : DA X [a, b] tr) (hg : Gl X "range" := by rfl) (hs : starEach [a, b] X.env = [(false, eval a X.env), (false, eval b X.env)] := by rfl) (hs2 : starEach [b] X.env = [(false, eval b X.env)] := by rfl) : DI X tg (.Call (.Name "range" p) [a, b] [] pos) (dRng2 tr) :=
  PI.imp (pi_range2 hg hm ha hs hs2) fun σ H R ⟨F, env, M, R0, he, hc, ht, hp⟩ => ⟨F, env, M, _, he, hc, ht, fun ds M1 F1 H1 vs q s1 f1 c1 r1 => by
    revert q
    dsimp only
    split <;> intro q
    · simp only [Reps, Rep] at r1
      obtain ⟨v, r, e1, e2, v', r', e4, e5, e6⟩ := r1
      subst e1 e2 e4 e5 e6
      exact ⟨_, _, rfl, q.1, hp _ _ _ _ _ _ q.2 s1 f1 c1 yl_rng⟩
    · exact q.elim⟩
/-! ### comprehensions -/
def wipeD (env : DSt) : List Nat → DSt
  | [] => env
  | v :: vs => (wipeD env vs).set v none
theorem EnvR.wipe {F : Hp} {σ : L2.St} {env : DSt} (h : EnvR K F σ env) : ∀ vs : List Nat, EnvR K F (wipe σ vs) (wipeD env vs)
  | [] => h
  | v :: vs => by
    have ih := EnvR.wipe h vs
    refine ⟨by unfold L2.wipe wipeD; rw [List.length_set, List.length_set]; exact ih.1, fun i d q => ?_⟩
    unfold wipeD at q
    unfold L2.wipe
    by_cases hv : v = i
    · subst hv
      by_cases hl : v < (wipeD env vs).length
      · rw [List.getElem?_set_self hl] at q; cases q
      · rw [List.getElem?_eq_none (by simp; omega)] at q; cases q
    · rw [List.getElem?_set_ne hv] at q ⊢
      exact ih.2 i d q
theorem wipe_set {σ : L2.St} {i : Nat} {x : Option V} : ∀ {vs : List Nat}, i ∈ vs → wipe (σ.set i x) vs = wipe σ vs
  | v :: vs, h => by
    have key : ∀ (ws : List Nat) (τ : L2.St) (y : Option V), wipe (τ.set i y) ws = (wipe τ ws).set i (if i ∈ ws then none else y) ∨ wipe (τ.set i y) ws = wipe τ ws := by
      intro ws
      induction ws with
      | nil => intro τ y; left; simp [wipe]
      | cons w ws ih =>
        intro τ y
        unfold wipe
        by_cases hw : w = i
        · subst hw
          rcases ih τ y with e | e
          · right; rw [e, List.set_set]
          · right; rw [e]
        · rcases ih τ y with e | e
          · left; rw [e, List.set_comm _ _ (Ne.symm hw)]; simp [Ne.symm hw]
          · right; rw [e]
    rcases key (v :: vs) σ x with e | e
    · rw [e, if_pos h]
      have : ∀ (ws : List Nat) (τ : L2.St), i ∈ ws → (wipe τ ws).set i none = wipe τ ws := by
        intro ws
        induction ws with
        | nil => intro τ h; cases h
        | cons w ws ih =>
          intro τ h
          unfold wipe
          by_cases hw : w = i
          · subst hw; rw [List.set_set]
          · rw [List.set_comm _ _ hw]
            rcases List.mem_cons.mp h with z | z
            · exact absurd z.symm hw
            · rw [ih τ z]
      exact this _ _ h
    · exact e
theorem wipe_idem {σ : L2.St} : ∀ vs : List Nat, wipe (wipe σ vs) vs = wipe σ vs
  | [] => rfl
  | v :: vs => by
    show (wipe ((wipe σ vs).set v none) vs).set v none = (wipe σ vs).set v none
    by_cases h : v ∈ vs
    · rw [wipe_set h, wipe_idem vs]
    · have key : ∀ (ws : List Nat) (τ : L2.St), v ∉ ws → wipe (τ.set v none) ws = (wipe τ ws).set v none := by
        intro ws
        induction ws with
        | nil => intro τ _; rfl
        | cons w ws ih =>
          intro τ hn
          have h1 : w ≠ v := fun e => hn (by rw [e]; exact List.mem_cons_self)
          show (wipe (τ.set v none) ws).set w none = ((wipe τ ws).set w none).set v none
          rw [ih τ fun z => hn (List.mem_cons_of_mem _ z), List.set_comm _ _ h1]
      rw [key vs _ h, List.set_set, wipe_idem vs]
def TgL (K : PySem.W.Frag) (g : TG) (dg : DTG) (vs : List Nat) : Prop := ∀ {F H : Hp} {M : Mp} {σ : L2.St} {env : DSt} {d : D} {v : V} {Q0 : DSt → Mp → Prop} {Q : L2.St → Hp → Prop}, EnvR K F σ env → Core K F H M → Rep K F d v → dg d env M Q0 →
  (∀ σ' env', wipe σ' vs = wipe σ vs → EnvR K F σ' env' → Q0 env' M → Q σ' H) → g v σ H Q
def TgsL (K : PySem.W.Frag) (g : TGs) (dg : DTGs) (vs : List Nat) : Prop := ∀ {F H : Hp} {M : Mp} {σ : L2.St} {env : DSt} {d : List D} {v : List V} {Q0 : DSt → Mp → Prop} {Q : L2.St → Hp → Prop}, EnvR K F σ env → Core K F H M → Reps K F d v → dg d env M Q0 →
  (∀ σ' env', wipe σ' vs = wipe σ vs → EnvR K F σ' env' → Q0 env' M → Q σ' H) → g v σ H Q
theorem tg_name {i : Nat} {vs : List Nat} (h : i ∈ vs) : TgL K (gName i) (dgName i) vs := fun he hc r q k => k _ _ (wipe_set h) (he.set i r) q
theorem tgs_nil {vs : List Nat} : TgsL K gNil dgNil vs := fun he hc r q k => by
  obtain ⟨e, q⟩ := q
  subst e
  rw [Reps] at r
  exact ⟨r, k _ _ rfl he q⟩
theorem tgs_cons {vs : List Nat} {g : TG} {dg : DTG} {gs : TGs} {dgs : DTGs} (h : TgL K g dg vs) (hs : TgsL K gs dgs vs) : TgsL K (gCons g gs) (dgCons dg dgs) vs := fun {F H M σ env d v Q0 Q} he hc r q k => by
  cases d with
  | nil => exact False.elim q
  | cons d ds =>
    rw [Reps] at r
    obtain ⟨v1, r1, e1, e2, e3⟩ := r
    exact ⟨v1, r1, e1, h he hc e2 q fun σ' env' w he' q' => hs he' hc e3 q' fun σ2 env2 w2 => k σ2 env2 (w2.trans w)⟩
theorem tg_tup {n : Nat} {vs : List Nat} {gs : TGs} {dgs : DTGs} (hs : TgsL K gs dgs vs) : TgL K (gTup K n gs) (dgTup n dgs) vs := fun {F H M σ env d v Q0 Q} he hc r q k => by
  cases d with
  | tup ds =>
    rw [Rep] at r
    obtain ⟨a, ws, e1, e2, e3⟩ := r
    exact ⟨a, ws, e1, sameT hc.same e2, by rw [e3.len]; exact q.1, hs he hc e3 q.2 k⟩
  | _ => exact False.elim q
def dLc (ti : DTI) (g : DTG) (tt : DTT) (te : DTE) (vs : List Nat) : DTE := fun env M Q => ti env M fun ds kp M1 => ∃ Pv : Nat → List D → Mp → Prop, Pv 0 [] M1 ∧ (∀ i acc M, Pv i acc M → kp M) ∧
  (∀ i d acc M, ds[i]? = some d → Pv i acc M → g d (wipeD env vs) M fun env2 M2 => tt env2 M2 fun b M3 => if b = true then te env2 M3 fun y M4 => acc.length < sizeLine ∧ Pv (i + 1) (acc ++ [y]) M4 else Pv (i + 1) acc M3) ∧
  ∀ acc M, Pv ds.length acc M → Q (.lst acc) M
abbrev DTs (X : Cx) (ifs : List Expr) (t : DTT) : Prop := PTs X ifs (lT X.K t)
def dYes : DTT := fun _ M Q => Q true M
theorem dts_nil : DTs X [] dYes := ⟨fun pins s σ H Q I ⟨F, env, M, Q0, he, hc, ht, hp⟩ => pts_nil.run pins s σ H Q I (hp true M F H ht (Same.refl F) Fr.refl hc)⟩
theorem dts_one (h : DT X c tt) : DTs X [c] tt := pts_one h
theorem l_lc {ti : DTI} {g : TG} {dg : DTG} {te : DTE} {vs : List Nat} (tl : TgL K g dg vs) : ∀ σ H Q, lE K (dLc ti dg tt te vs) σ H Q → tLc (lI K ti) g (lT K tt) (lE K te) vs σ H Q := fun σ H Q ⟨F, env, M, Q0, he, hc, ht, hp⟩ => by
  refine ⟨F, env, M, _, he, hc, ht, fun ds kp M1 F1 H1 J q s1 f1 c1 Y L hL => ?_⟩
  obtain ⟨Pv, p0, hk, turn, fin⟩ := q
  have n1 := c1.nones hL
  have c1' : Core K F1 (upd H1 L (.lst [])) M1 := ⟨fun b u e => by rw [upd_ne (ne_of_none (c1.same b u e) hL)]; exact c1.same b u e, fun a mo e => by
    obtain ⟨x1, o, x2, x3⟩ := c1.mem a mo e
    exact ⟨x1, o, by rw [upd_ne (ne_of_none x2 hL)]; exact x2, x3⟩⟩
  have fL : Fr F1 H1 M1 F1 (upd H1 L (.lst [])) M1 := fun a o e n => ⟨by rw [upd_ne (ne_of_none e hL)]; exact e, n, fun z => z⟩
  refine ⟨fun i m H' => m = ds.length - i ∧ i ≤ ds.length ∧ ∃ F' M' acc va, Same F1 F' ∧ Fr F1 H1 M1 F' H' M' ∧ Core K F' H' M' ∧ H' L = some (.lst va) ∧ F' L = none ∧ M' L = none ∧ Reps K F' acc va ∧ Pv i acc M',
    ⟨_, rfl, Nat.zero_le _, F1, M1, [], [], Same.refl _, fL, c1', upd_same, n1.1, n1.2, Reps.nil, p0⟩, ?_⟩
  rintro i m H2 ⟨rfl, hle, F2, M2, acc, va, s2, f2, c2, hv, hF, hM, ra, p2⟩
  have kk := hk _ _ _ p2
  by_cases hlt : i < ds.length
  · refine .inr ⟨Y.go s2 c2 kk hlt, fun H' => ∃ F' M' acc va, Same F1 F' ∧ Fr F1 H1 M1 F' H' M' ∧ Core K F' H' M' ∧ H' L = some (.lst va) ∧ F' L = none ∧ M' L = none ∧ Reps K F' acc va ∧ Pv (i + 1) acc M', fun H' z => ⟨_, by omega, rfl, hlt, z⟩, fun x H3 y => ?_⟩
    obtain ⟨d, F3, hd, s3, c3, f3, r3⟩ := Y.yld s2 c2 kk hlt y
    obtain ⟨hv3, _, hF3⟩ := f3 L _ hv hM
    refine tl (((he.mono s1).mono (s2.trans s3)).wipe vs) c3 r3 (turn i d acc M2 hd p2) fun σ' env' hw he' q' => ⟨hw.trans (wipe_idem vs), F3, env', M2, _, he', c3, q', fun b M4 F4 H4 q4 s4 f4 c4 => ?_⟩
    obtain ⟨hv4, hM4, hF4⟩ := f4 L _ hv3 hM
    cases b with
    | false => exact ⟨F4, M4, acc, va, s2.trans (s3.trans s4), f2.trans (f3.trans f4), c4, hv4, hF4 (hF3 hF), hM4, ra.mono (s3.trans s4), q4⟩
    | true =>
      rw [if_pos rfl] at q4 ⊢
      refine ⟨F4, env', M4, _, he'.mono s4, c4, q4, fun z M5 F5 H5 v5 q5 s5 f5 c5 r5 => ?_⟩
      obtain ⟨hv5, hM5, hF5⟩ := f5 L _ hv4 hM4
      have hF' := hF5 (hF4 (hF3 hF))
      have ra5 := ra.mono ((s3.trans s4).trans s5)
      refine ⟨va, hv5, by rw [ra5.len]; exact q5.1, F5, M5, acc ++ [z], va ++ [v5], s2.trans (s3.trans (s4.trans s5)), fun a o e n => ?_, ⟨fun b u e => ?_, fun a mo e => ?_⟩, upd_same, hF', hM5, ra5.app (Reps.one r5), q5.2⟩
      · obtain ⟨x1, x2, x3⟩ := (f2.trans (f3.trans (f4.trans f5))) a o e n
        exact ⟨by rw [upd_ne (ne_of_none e hL)]; exact x1, x2, x3⟩
      · have hb : b ≠ L := fun z => by rw [z, hF'] at e; cases e
        rw [upd_ne hb]; exact c5.same b u e
      · obtain ⟨x1, o, x2, x3⟩ := c5.mem a mo e
        have ha : a ≠ L := fun z => by rw [z, hM5] at e; cases e
        exact ⟨x1, o, by rw [upd_ne ha]; exact x2, x3⟩
  · have e : i = ds.length := by omega
    subst e
    obtain ⟨o, r, c', s', f'⟩ : ∃ F', Core K F' H2 M2 ∧ Same F2 F' ∧ Fr F1 H1 M1 F' H2 M2 ∧ F' L = some (.lst va) := by
      have s' : Same F2 (upd F2 L (.lst va)) := fun b u e => by rw [upd_ne (ne_of_none e hF)]; exact e
      refine ⟨upd F2 L (.lst va), ⟨fun b u e => ?_, fun a mo e => ?_⟩, s', fun a o e n => ?_, upd_same⟩
      · by_cases hb : b = L
        · subst hb; rw [upd_same] at e; cases e; exact hv
        · rw [upd_ne hb] at e; exact c2.same b u e
      · obtain ⟨x1, o, x2, x3⟩ := c2.mem a mo e
        have ha : a ≠ L := fun z => by rw [z, hM] at e; cases e
        exact ⟨by rw [upd_ne ha]; exact x1, o, x2, x3.mono s'⟩
      · obtain ⟨x1, x2, x3⟩ := f2 a o e n
        exact ⟨x1, x2, fun z => by rw [upd_ne (ne_of_none e hL)]; exact x3 z⟩
    exact .inl ⟨Y.stop s2 c2 kk (Nat.le_refl _), hp _ M2 o H2 _ (fin _ _ p2) (s1.trans (s2.trans c')) (f1.trans s') r (by rw [Rep]; exact ⟨L, va, rfl, f', ra.mono c'⟩)⟩
abbrev ForBlk (X : Cx) (scope : Scope) (P : Cx → Prop) : Prop := ∀ (s : Shared) (H : Hp) (C : Addr) (cl : List (Str × Addr)) (fp : List Addr), P (X.blk s H scope (compEnvC scope cl C X.env) fp)
theorem de_lc {elt tg iter : Expr} {ifs : List Expr} {scope : Scope} {own : List (Str × Nat)} {vs : List Nat} {ti : DTI} {g : TG} {dg : DTG} {te : DTE} (hN : X.N.Nodup) (hi : DI X tg iter ti) (ok : BlkOk X.N X.env.scope scope own) (tl : TgL X.K g dg vs)
    (hg : ForBlk X scope fun Y => PG Y tg g) (ht : ForBlk X scope fun Y => PTs Y ifs (lT X.K tt)) (he : ForBlk X scope fun Y => PE Y elt (lE X.K te)) (ho : own.map (·.2) = vs := by rfl) (hc : X.calm = true := by rfl) (hs : ∀ x, foldedSetIterable iter X.env x = pure x := by intro _; rfl) :
    DE X (.ListComp elt [⟨tg, iter, ifs, 0⟩] scope pos) (dLc ti dg tt te vs) := by
  subst ho
  exact PE.imp (pe_lc hc hN hi ok hg ht he hs) (l_lc tl)
theorem ds_setLc {i : Nat} {y : Str} {py spos : Pos} {elt tg iter : Expr} {ifs : List Expr} {scope : Scope} {own : List (Str × Nat)} {vs : List Nat} {ti : DTI} {g : TG} {dg : DTG} {te : DTE} (hN : X.N.Nodup) (hi : DI X tg iter ti) (ok : BlkOk X.N X.env.scope scope own) (tl : TgL X.K g dg vs)
    (hg : ForBlk X scope fun Y => PG Y tg g) (ht : ForBlk X scope fun Y => PTs Y ifs (lT X.K tt)) (he : ForBlk X scope fun Y => PE Y elt (lE X.K te)) (hy : X.N[i]? = some y := by rfl) (hyl : X.env.scope.names.lookup y = some .local := by rfl)
    (hsw : swapsWith (.ListComp elt [⟨tg, iter, ifs, 0⟩] scope pos) (some (.Name y py)) spos.line X.env = pure true := by exact sw_true rfl rfl rfl (by decide +kernel)) (ho : own.map (·.2) = vs := by rfl) (hc : X.calm = true := by rfl) (hs : ∀ x, foldedSetIterable iter X.env x = pure x := by intro _; rfl) :
    DS X (.Assign [.Name y py] (.ListComp elt [⟨tg, iter, ifs, 0⟩] scope pos) spos) (dAsg (dLc ti dg tt te vs) (dgName i)) := by
  subst ho
  exact PS.imp (ps_setLc hc hN hy hyl hsw hi ok hg ht he hs) fun E σ H ⟨F, env, M, D0, he, hc, ht, hp⟩ => l_lc tl σ H _ ⟨F, env, M, _, he, hc, ht, fun d M1 F1 H1 v q s1 f1 c1 r1 => hp.nx _ M1 F1 H1 _ q s1 f1 c1 ((he.mono s1).set i r1)⟩
end
end DL
namespace DL
open PySem PySem.Spec PyProof.Rows L2
section
variable {X : Cx} {K : PySem.W.Frag} {a b c e : Expr} {es : List Expr} {ta tb tc : DTE} {pos : Pos} {tt : DTT} {tr : DTA}
/-! ### calls of built-ins -/
abbrev DC := List D → Mp → DQ → Prop
def LC (K : PySem.W.Frag) (r : List V → Hp → VK → Prop) (rd : DC) : Prop := ∀ {F H : Hp} {M : Mp} {ds : List D} {vs : List V} {Q0 : DQ} {Q : VK}, Core K F H M → Reps K F ds vs → rd ds M Q0 → Post K F H M Q0 Q → r vs H Q
theorem CallR.or {f : Value} {r r' : List V → Hp → VK → Prop} (h : CallR X f r) (h' : CallR X f r') : CallR X f (fun xs H Q => r xs H Q ∨ r' xs H Q) := by
  intro pins s σ H xs us Q I rx q
  rcases q with q | q
  · exact h pins s σ H xs us Q I rx q
  · exact h' pins s σ H xs us Q I rx q
def dCB (rd : DC) (tr : DTA) : DTE := fun env M Q => tr env M fun ds M1 => rd ds M1 Q
theorem l_cb {r : List V → Hp → VK → Prop} {rd : DC} (l : LC K r rd) : ∀ σ H Q, lE K (dCB rd tr) σ H Q → tCB r (lA K tr) σ H Q := fun σ H Q ⟨F, env, M, Q0, he, hc, ht, hp⟩ =>
  ⟨F, env, M, _, he, hc, ht, fun ds M1 F1 H1 vs q s1 f1 c1 r1 => l c1 r1 q (hp.after s1 f1)⟩
theorem de_callB {x : Str} {id : String} {r : List V → Hp → VK → Prop} {rd : DC} {p : Pos} (hc : CallR X (.builtin id) r) (l : LC X.K r rd) (hm : X.mg x = none) (hv : bootBuiltins x = some (.builtin id)) (ha : DA X (e :: es) tr) (hg : Gl X x := by rfl) (hn : x ≠ "__name__" := by decide) (hdb : (x == ("__debug__" : Str)) = false := by decide)
    (na : starEach (e :: es) X.env = (false, eval e X.env) :: starEach es X.env := by rfl) (hpl : (backTo pos (starEach es X.env)).any (·.1) = false := by rfl) : DE X (.Call (.Name x p) (e :: es) [] pos) (dCB rd tr) :=
  PE.imp (by first | exact pe_callB hc hg hm hv ha hn hdb na hpl | exact pe_callB hc hg hm hv ha hn hdb) (l_cb l)
theorem de_callTy {x : Str} {T : String} {r : List V → Hp → VK → Prop} {rd : DC} {p : Pos} (hc : CallR X (.type T) r) (l : LC X.K r rd) (hm : X.mg x = none) (hv : bootBuiltins x = some (.type T)) (ha : DA X (e :: es) tr) (hg : Gl X x := by rfl) (hn : x ≠ "__name__" := by decide) (hdb : (x == ("__debug__" : Str)) = false := by decide)
    (na : starEach (e :: es) X.env = (false, eval e X.env) :: starEach es X.env := by rfl) (hpl : (backTo pos (starEach es X.env)).any (·.1) = false := by rfl) : DE X (.Call (.Name x p) (e :: es) [] pos) (dCB rd tr) :=
  PE.imp (by first | exact pe_callTy hc hg hm hv ha hn hdb na hpl | exact pe_callTy hc hg hm hv ha hn hdb) (l_cb l)
theorem reps1 {F : Hp} {d : D} {vs : List V} (h : Reps K F [d] vs) : ∃ v, vs = [v] ∧ Rep K F d v := by
  simp only [Reps] at h
  obtain ⟨v, r, e1, e2, e3⟩ := h
  subst e3
  exact ⟨v, e1, e2⟩
theorem reps2 {F : Hp} {d d' : D} {vs : List V} (h : Reps K F [d, d'] vs) : ∃ v v', vs = [v, v'] ∧ Rep K F d v ∧ Rep K F d' v' := by
  simp only [Reps] at h
  obtain ⟨v, r, e1, e2, v', r', e3, e4, e5⟩ := h
  subst e5 e3
  exact ⟨v, v', e1, e2, e4⟩
def rLen : DC := fun ds M Q => match ds with
  | [.str z] => z.length ≤ sizeLine ∧ Q (.int z.length) M
  | [.tup xs] => Q (.int xs.length) M
  | [x] => match lstOf M x with | some xs => Q (.int xs.length) M | none => False
  | _ => False
theorem o_len : CallR X (.builtin "len") (fun xs H Q => (∃ p ys, xs = [.ref p] ∧ (SqL X.K H p ys ∨ SqT X.K H p ys) ∧ Q (.int ys.length) H) ∨ (∃ z, xs = [.str z] ∧ z.length ≤ sizeLine ∧ Q (.int z.length) H)) := CallR.or call_len_seq call_len_str
theorem l_len : LC K (fun xs H Q => (∃ p ys, xs = [.ref p] ∧ (SqL K H p ys ∨ SqT K H p ys) ∧ Q (.int ys.length) H) ∨ (∃ z, xs = [.str z] ∧ z.length ≤ sizeLine ∧ Q (.int z.length) H)) rLen := by
  intro F H M ds vs Q0 Q c r h p
  unfold rLen at h
  split at h
  · obtain ⟨v, e1, e2⟩ := reps1 r
    rw [Rep] at e2
    subst e1 e2
    exact .inr ⟨_, rfl, h.1, p.int c h.2⟩
  · obtain ⟨v, e1, e2⟩ := reps1 r
    rw [Rep] at e2
    obtain ⟨a, vs, f1, f2, f3⟩ := e2
    subst e1 f1
    exact .inl ⟨a, vs, rfl, .inr (sameT c.same f2), by rw [f3.len]; exact p.int c h⟩
  · split at h
    · rename_i xs g
      obtain ⟨v, e1, e2⟩ := reps1 r
      obtain ⟨a, vs, f1, f2, f3⟩ := lstOf_ok c e2 g
      subst e1 f1
      exact .inl ⟨a, vs, rfl, .inl f2, by rw [f3.len]; exact p.int c h⟩
    · exact h.elim
  · exact h.elim
theorem de_len {p : Pos} (hm : X.mg "len" = none) (ha : DA X [a] tr) (hg : Gl X "len" := by rfl) (na : starEach [a] X.env = (false, eval a X.env) :: starEach [] X.env := by rfl) : DE X (.Call (.Name "len" p) [a] [] pos) (dCB rLen tr) := de_callB o_len l_len hm PySem.boot_len ha hg (by decide) (by decide) na rfl
def rAbs : DC := fun ds M Q => match ds with | [.int i] => Q (.int (if i < 0 then -i else i)) M | _ => False
theorem l_abs : LC K (fun xs H Q => ∃ i, xs = [.int i] ∧ Q (.int (if i < 0 then -i else i)) H) rAbs := by
  intro F H M ds vs Q0 Q c r h p
  unfold rAbs at h
  split at h
  · obtain ⟨v, e1, e2⟩ := reps1 r
    rw [Rep] at e2
    subst e1 e2
    exact ⟨_, rfl, p.int c h⟩
  · exact h.elim
def rInt : DC := fun ds M Q => match ds with
  | [.int i] => Q (.int i) M
  | [.bl k] => Q (.int (if k then 1 else 0)) M
  | [.str a] => ∃ n, PySem.intText? a = some n ∧ a.length ≤ 640 ∧ Q (.int n) M
  | _ => False
theorem l_toInt : LC K (fun xs H Q => ((∃ i, xs = [.int i] ∧ Q (.int i) H) ∨ ∃ k, xs = [.bl k] ∧ Q (.int (if k then 1 else 0)) H) ∨ (∃ a n, xs = [.str a] ∧ PySem.intText? a = some n ∧ a.length ≤ 640 ∧ Q (.int n) H)) rInt := by
  intro F H M ds vs Q0 Q c r h p
  unfold rInt at h
  split at h
  · obtain ⟨v, e1, e2⟩ := reps1 r
    rw [Rep] at e2
    subst e1 e2
    exact .inl (.inl ⟨_, rfl, p.int c h⟩)
  · obtain ⟨v, e1, e2⟩ := reps1 r
    rw [Rep] at e2
    subst e1 e2
    exact .inl (.inr ⟨_, rfl, p.int c h⟩)
  · obtain ⟨v, e1, e2⟩ := reps1 r
    rw [Rep] at e2
    subst e1 e2
    obtain ⟨n, h1, h2, h3⟩ := h
    exact .inr ⟨_, n, rfl, h1, h2, p.int c h3⟩
  · exact h.elim
theorem o_int : CallR X (.type "int") (fun xs H Q => ((∃ i, xs = [.int i] ∧ Q (.int i) H) ∨ ∃ k, xs = [.bl k] ∧ Q (.int (if k then 1 else 0)) H) ∨ (∃ a n, xs = [.str a] ∧ PySem.intText? a = some n ∧ a.length ≤ 640 ∧ Q (.int n) H)) := CallR.or call_int1 call_int_str
theorem de_toInt {p : Pos} (hm : X.mg "int" = none) (ha : DA X [a] tr) (hg : Gl X "int" := by rfl) (na : starEach [a] X.env = (false, eval a X.env) :: starEach [] X.env := by rfl) : DE X (.Call (.Name "int" p) [a] [] pos) (dCB rInt tr) := de_callTy o_int l_toInt hm (by decide +kernel) ha hg (by decide) (by decide) na rfl
def rToList : DC := fun ds M Q => match ds with
  | [.tup xs] => Q (.lst xs) M
  | [x] => match lstOf M x with | some xs => Q (.lst xs) M | none => False
  | _ => False
def rToListM : DC := fun ds M Q => match ds with
  | [.tup xs] => ∀ p, M p = none → Q (.ptr p) (up M p (.lst xs))
  | [x] => match lstOf M x with | some xs => ∀ p, M p = none → Q (.ptr p) (up M p (.lst xs)) | none => False
  | _ => False
theorem l_toList : LC K (fun xs H Q => ∃ p ys, xs = [.ref p] ∧ (SqL K H p ys ∨ SqT K H p ys) ∧ ∀ l, H l = none → Q (.ref l) (upd H l (.lst ys))) rToList := by
  intro F H M ds vs Q0 Q c r h p
  unfold rToList at h
  split at h
  · obtain ⟨v, e1, e2⟩ := reps1 r
    rw [Rep] at e2
    obtain ⟨a, vs, f1, f2, f3⟩ := e2
    subst e1 f1
    exact ⟨a, vs, rfl, .inr (sameT c.same f2), p.lst c f3 h⟩
  · split at h
    · rename_i xs g
      obtain ⟨v, e1, e2⟩ := reps1 r
      obtain ⟨a, vs, f1, f2, f3⟩ := lstOf_ok c e2 g
      subst e1 f1
      exact ⟨a, vs, rfl, .inl f2, p.lst c f3 h⟩
    · exact h.elim
  · exact h.elim
theorem l_toListM : LC K (fun xs H Q => ∃ p ys, xs = [.ref p] ∧ (SqL K H p ys ∨ SqT K H p ys) ∧ ∀ l, H l = none → Q (.ref l) (upd H l (.lst ys))) rToListM := by
  intro F H M ds vs Q0 Q c r h p
  unfold rToListM at h
  split at h
  · obtain ⟨v, e1, e2⟩ := reps1 r
    rw [Rep] at e2
    obtain ⟨a, vs, f1, f2, f3⟩ := e2
    subst e1 f1
    exact ⟨a, vs, rfl, .inr (sameT c.same f2), p.ptr (mo := .lst _) c ⟨vs, rfl, f3⟩ h⟩
  · split at h
    · rename_i xs g
      obtain ⟨v, e1, e2⟩ := reps1 r
      obtain ⟨a, vs, f1, f2, f3⟩ := lstOf_ok c e2 g
      subst e1 f1
      exact ⟨a, vs, rfl, .inl f2, p.ptr (mo := .lst _) c ⟨vs, rfl, f3⟩ h⟩
    · exact h.elim
  · exact h.elim
def rToTup : DC := fun ds M Q => match ds with
  | [.tup xs] => Q (.tup xs) M
  | [x] => match lstOf M x with | some xs => Q (.tup xs) M | none => False
  | _ => False
theorem l_toTup : LC K (fun xs H Q => ∃ p ys, xs = [.ref p] ∧ ((SqL K H p ys ∧ ∀ l, H l = none → Q (.ref l) (upd H l (.tup ys))) ∨ (SqT K H p ys ∧ Q (.ref p) H))) rToTup := by
  intro F H M ds vs Q0 Q c r h p
  unfold rToTup at h
  split at h
  · obtain ⟨v, e1, e2⟩ := reps1 r
    have e3 := e2
    rw [Rep] at e2
    obtain ⟨a, vs, f1, f2, f3⟩ := e2
    subst e1 f1
    exact ⟨a, vs, rfl, .inr ⟨sameT c.same f2, p.val c h e3⟩⟩
  · split at h
    · rename_i xs g
      obtain ⟨v, e1, e2⟩ := reps1 r
      obtain ⟨a, vs, f1, f2, f3⟩ := lstOf_ok c e2 g
      subst e1 f1
      exact ⟨a, vs, rfl, .inl ⟨f2, p.tup c f3 h⟩⟩
    · exact h.elim
  · exact h.elim
def rSum : DC := fun ds M Q => match ds with | [x] => ∃ ns : List Int, lstOf M x = some (ns.map D.int) ∧ Q (.int ns.sum) M | _ => False
theorem l_sum : LC K (L2.rSum K) rSum := by
  intro F H M ds vs Q0 Q c r h p
  unfold rSum at h
  split at h
  · obtain ⟨v, e1, e2⟩ := reps1 r
    obtain ⟨ns, g, h⟩ := h
    obtain ⟨a, vs, f1, f2, f3⟩ := lstOf_ok c e2 g
    have := f3.ints
    subst e1 f1 this
    exact ⟨a, ns, rfl, f2, p.int c h⟩
  · exact h.elim
def rAll : DC := fun ds M Q => match ds with | [x] => ∃ ns : List Bool, lstOf M x = some (ns.map D.bl) ∧ Q (.bl (ns.all id)) M | _ => False
def rAny : DC := fun ds M Q => match ds with | [x] => ∃ ns : List Bool, lstOf M x = some (ns.map D.bl) ∧ Q (.bl (ns.any id)) M | _ => False
theorem Reps.bls {F : Hp} : ∀ {ys : List Bool} {vs : List V}, Reps K F (ys.map D.bl) vs → vs = ys.map V.bl
  | [], vs, h => by rw [List.map_nil, Reps] at h; subst h; rfl
  | y :: ys, vs, h => by
    rw [List.map_cons, Reps] at h
    obtain ⟨v, r, e1, e2, e3⟩ := h
    rw [Rep] at e2
    subst e1 e2
    rw [Reps.bls e3]; rfl
theorem l_all : LC K (L2.rAll K) rAll := by
  intro F H M ds vs Q0 Q c r h p
  unfold rAll at h
  split at h
  · obtain ⟨v, e1, e2⟩ := reps1 r
    obtain ⟨ns, g, h⟩ := h
    obtain ⟨a, vs, f1, f2, f3⟩ := lstOf_ok c e2 g
    have := f3.bls
    subst e1 f1 this
    exact ⟨a, ns, rfl, f2, p.bl c h⟩
  · exact h.elim
theorem l_any : LC K (L2.rAny K) rAny := by
  intro F H M ds vs Q0 Q c r h p
  unfold rAny at h
  split at h
  · obtain ⟨v, e1, e2⟩ := reps1 r
    obtain ⟨ns, g, h⟩ := h
    obtain ⟨a, vs, f1, f2, f3⟩ := lstOf_ok c e2 g
    have := f3.bls
    subst e1 f1 this
    exact ⟨a, ns, rfl, f2, p.bl c h⟩
  · exact h.elim
def rStrN : DC := fun ds M Q => match ds with | [.int n] => n.natAbs.log2 < 1920 ∧ Q (.str (toString n)) M | _ => False
/-! ### methods of built-in types -/
abbrev DM := D → List D → Mp → DQ → Prop
def LM (K : PySem.W.Frag) (r : V → List V → Hp → VK → Prop) (rd : DM) : Prop := ∀ {F H : Hp} {M : Mp} {d : D} {v : V} {ds : List D} {vs : List V} {Q0 : DQ} {Q : VK}, Core K F H M → Rep K F d v → Reps K F ds vs → rd d ds M Q0 → Post K F H M Q0 Q → r v vs H Q
def tyD (T : String) (d : D) (M : Mp) : Prop := match d with
  | .str _ => T = "str"
  | d => T = "list" ∧ ∃ ds, lstOf M d = some ds
theorem tyD_ok {F H : Hp} {M : Mp} {T : String} {d : D} {v : V} (c : Core K F H M) (r : Rep K F d v) (h : tyD T d M) : tyV K T v H := by
  unfold tyD at h
  split at h
  · rw [Rep] at r; subst r; exact h
  · obtain ⟨e, ds, g⟩ := h
    obtain ⟨a, vs, f1, f2, f3⟩ := lstOf_ok c r g
    subst f1
    exact .inl ⟨e, vs, f2⟩
def dBM (T : String) (rd : DM) (ta : DTE) (tr : DTA) : DTE := fun env M Q => ta env M fun x M1 => tyD T x M1 ∧ tr env M1 fun xs M2 => rd x xs M2 Q
def dBM0 (T : String) (rd : DM) (ta : DTE) : DTE := fun env M Q => ta env M fun x M1 => tyD T x M1 ∧ rd x [] M1 Q
theorem de_bm {T : String} {name : Str} {id : String} {r : V → List V → Hp → VK → Prop} {rd : DM} {apos cpos : Pos} (pa : PlainAttrs T) (slot : Slot T name id) (hty : typeOf (.builtin id) = pure (.type "method_descriptor")) (hm : MtR X id r) (l : LM X.K r rd) (ho : DE X a ta) (ha : DA X (e :: es) tr)
    (hbase : attributeBase a name X.env (eval a X.env) = eval a X.env := by rfl)
    (hfew : ((backTo cpos (starEach (e :: es) X.env)).all (fun x => !x.1) && (backToKw cpos (keywordEach [] X.env)).all (fun x => x.1.isSome)
      && decide ((e :: es).length + ([] : List Keyword).length + (if ([] : List Keyword).isEmpty then 0 else 1) < 30)) = true := by rfl)
    (hline : (apos.endLine == cpos.line) = true := by rfl) (hs : starEach (e :: es) X.env = (false, eval e X.env) :: starEach es X.env := by rfl) (hplain : (backTo cpos (starEach es X.env)).any (·.1) = false := by rfl) :
    DE X (.Call (.Attribute a name apos) (e :: es) [] cpos) (dBM T rd ta tr) := PE.imp (pe_bm pa slot hty hm ho ha hbase hfew hline hs hplain) fun σ H Q ⟨F, env, M, Q0, he, hc, ht, hp⟩ =>
  ⟨F, env, M, _, he, hc, ht, fun d M1 F1 H1 v q s1 f1 c1 r1 => ⟨tyD_ok c1 r1 q.1, F1, env, M1, _, he.mono s1, c1, q.2, fun ds M2 F2 H2 vs q2 s2 f2 c2 r2 => l c2 (r1.mono s2) r2 q2 (hp.after (s1.trans s2) (f1.trans f2))⟩⟩
theorem de_bm0 {T : String} {name : Str} {id : String} {r : V → List V → Hp → VK → Prop} {rd : DM} {apos cpos : Pos} (pa : PlainAttrs T) (slot : Slot T name id) (hty : typeOf (.builtin id) = pure (.type "method_descriptor")) (hm : MtR X id r) (l : LM X.K r rd) (ho : DE X a ta)
    (hbase : attributeBase a name X.env (eval a X.env) = eval a X.env := by rfl) (hline : (apos.endLine == cpos.line) = true := by rfl) : DE X (.Call (.Attribute a name apos) [] [] cpos) (dBM0 T rd ta) :=
  PE.imp (pe_bm0 pa slot hty hm ho hbase hline) fun σ H Q ⟨F, env, M, Q0, he, hc, ht, hp⟩ => ⟨F, env, M, _, he, hc, ht, fun d M1 F1 H1 v q s1 f1 c1 r1 => ⟨tyD_ok c1 r1 q.1, l c1 r1 Reps.nil q.2 (hp.after s1 f1)⟩⟩
def rS0 (C : Str → Prop) (g : Str → D) : DM := fun x xs M Q => match x, xs with | .str a, [] => C a ∧ Q (g a) M | _, _ => False
def rS1 (C : Str → Str → Prop) (g : Str → Str → D) : DM := fun x xs M Q => match x, xs with | .str a, [.str b] => C a b ∧ Q (g a b) M | _, _ => False
theorem l_s0 {C : Str → Prop} {g : Str → D} {h : Str → V} (e : ∀ F a, Rep K F (g a) (h a)) : LM K (fun x xs H Q => ∃ a, x = .str a ∧ xs = [] ∧ C a ∧ Q (h a) H) (rS0 C g) := by
  intro F H M d v ds vs Q0 Q c r rs h p
  unfold rS0 at h
  split at h
  · simp only [Rep, Reps] at r rs
    exact ⟨_, r, rs, h.1, p.val c h.2 (e F _)⟩
  · exact h.elim
theorem l_s1 {C : Str → Str → Prop} {g : Str → Str → D} {h : Str → Str → V} (e : ∀ F a b, Rep K F (g a b) (h a b)) : LM K (fun x xs H Q => ∃ a b, x = .str a ∧ xs = [.str b] ∧ C a b ∧ Q (h a b) H) (rS1 C g) := by
  intro F H M d v ds vs Q0 Q c r rs h p
  unfold rS1 at h
  split at h
  · obtain ⟨w, e1, e2⟩ := reps1 rs
    simp only [Rep] at r e2
    subst e1 e2
    exact ⟨_, _, r, rfl, h.1, p.val c h.2 (e F _ _)⟩
  · exact h.elim
theorem l_s1' {g : Str → Str → D} {h : Str → Str → V} (e : ∀ F a b, Rep K F (g a b) (h a b)) : LM K (fun x xs H Q => ∃ a b, x = .str a ∧ xs = [.str b] ∧ Q (h a b) H) (rS1 (fun _ _ => True) g) := by
  intro F H M d v ds vs Q0 Q c r rs q p
  obtain ⟨a, b, e1, e2, _, e3⟩ := l_s1 (C := fun _ _ => True) (h := h) e c r rs q p
  exact ⟨a, b, e1, e2, e3⟩
theorem de_lower {apos cpos : Pos} (ho : DE X a ta) (hbase : attributeBase a "lower" X.env (eval a X.env) = eval a X.env := by rfl) (hline : (apos.endLine == cpos.line) = true := by rfl) : DE X (.Call (.Attribute a "lower" apos) [] [] cpos) (dBM0 "str" (rS0 (fun a => a.length ≤ 5592405) fun a => .str (Txt.lower a)) ta) :=
  de_bm0 F.plainAttrs_str F.slot_str_lower F.type_str_lower mt_lower (l_s0 fun F a => by rw [Rep]) ho hbase hline
theorem de_upper {apos cpos : Pos} (ho : DE X a ta) (hbase : attributeBase a "upper" X.env (eval a X.env) = eval a X.env := by rfl) (hline : (apos.endLine == cpos.line) = true := by rfl) : DE X (.Call (.Attribute a "upper" apos) [] [] cpos) (dBM0 "str" (rS0 (fun a => a.length ≤ 5592405) fun a => .str (Txt.upper a)) ta) :=
  de_bm0 F.plainAttrs_str F.slot_str_upper F.type_str_upper mt_upper (l_s0 fun F a => by rw [Rep]) ho hbase hline
theorem de_scount {apos cpos : Pos} (ho : DE X a ta) (ha : DA X [b] tr) (hbase : attributeBase a "count" X.env (eval a X.env) = eval a X.env := by rfl) (hline : (apos.endLine == cpos.line) = true := by rfl) (hs : starEach [b] X.env = (false, eval b X.env) :: starEach [] X.env := by rfl) :
    DE X (.Call (.Attribute a "count" apos) [b] [] cpos) (dBM "str" (rS1 (fun _ _ => True) fun a b => .int (Txt.count a b)) ta tr) :=
  de_bm F.plainAttrs_str F.slot_str_count F.type_str_count mt_count (l_s1' fun F a b => by rw [Rep]) ho ha hbase (by rw [hs]; rfl) hline hs rfl
def rJoin : DM := fun x xs M Q => match x, xs with
  | .str a, [.tup ds] => ∃ ys : List Str, ds = ys.map D.str ∧ (ys.map (·.length)).sum + ys.length * a.length ≤ 16777216 ∧ Q (.str (Txt.join a ys)) M
  | .str a, [x] => ∃ ys : List Str, lstOf M x = some (ys.map D.str) ∧ (ys.map (·.length)).sum + ys.length * a.length ≤ 16777216 ∧ Q (.str (Txt.join a ys)) M
  | _, _ => False
theorem l_join : LM K (fun x xs H Q => ∃ a p, ∃ ys : List Str, x = .str a ∧ xs = [.ref p] ∧ (SqL K H p (ys.map V.str) ∨ SqT K H p (ys.map V.str)) ∧ (ys.map (·.length)).sum + ys.length * a.length ≤ 16777216 ∧ Q (.str (Txt.join a ys)) H) rJoin := by
  intro F H M d v ds vs Q0 Q c r rs h p
  unfold rJoin at h
  split at h
  · obtain ⟨w, e1, e2⟩ := reps1 rs
    simp only [Rep] at r e2
    obtain ⟨ys, e, h1, h2⟩ := h
    obtain ⟨x, vs, f1, f2, f3⟩ := e2
    subst e
    have := f3.strs
    subst e1 f1 this
    exact ⟨_, x, ys, r, rfl, .inr (sameT c.same f2), h1, p.str c h2⟩
  · obtain ⟨w, e1, e2⟩ := reps1 rs
    rw [Rep] at r
    obtain ⟨ys, g, h1, h2⟩ := h
    obtain ⟨x, vs, f1, f2, f3⟩ := lstOf_ok c e2 g
    have := f3.strs
    subst e1 f1 this
    exact ⟨_, x, ys, r, rfl, .inl f2, h1, p.str c h2⟩
  · exact h.elim
theorem de_join {apos cpos : Pos} (ho : DE X a ta) (ha : DA X [b] tr) (hbase : attributeBase a "join" X.env (eval a X.env) = eval a X.env := by rfl) (hline : (apos.endLine == cpos.line) = true := by rfl) (hs : starEach [b] X.env = (false, eval b X.env) :: starEach [] X.env := by rfl) :
    DE X (.Call (.Attribute a "join" apos) [b] [] cpos) (dBM "str" rJoin ta tr) :=
  de_bm F.plainAttrs_str F.slot_str_join F.type_str_join mt_join l_join ho ha hbase (by rw [hs]; rfl) hline hs rfl
/-- a list that M holds is written -/
theorem Post.put {F H : Hp} {M : Mp} {Q0 : DQ} {Q : VK} (p : Post K F H M Q0 Q) (c : Core K F H M) {x : Addr} {o : HO} {mo0 mo : MO} (h : M x = some mo0) (r : RepM K F mo o) {d : D} {v : V} (q : Q0 d (up M x mo)) (rd : Rep K F d v) : Q v (upd H x o) := by
  obtain ⟨c1, f1⟩ := c.write h r
  exact p _ _ _ _ _ q (Same.refl F) f1 c1 rd
theorem ptr_lst {F H : Hp} {M : Mp} {x : Addr} {ds : List D} (c : Core K F H M) (h : M x = some (.lst ds)) : ∃ vs, H x = some (.lst vs) ∧ Reps K F ds vs := by
  obtain ⟨_, o, ho, vs, e1, e2⟩ := c.mem x _ h
  subst e1
  exact ⟨vs, ho, e2⟩
def rAppend : DM := fun x xs M Q => match x, xs with
  | .ptr a, [y] => match M a with | some (.lst ds) => ds.length < sizeLine ∧ Q .non (up M a (.lst (ds ++ [y]))) | _ => False
  | _, _ => False
theorem l_append : LM K L2.rAppend rAppend := by
  intro F H M d v ds vs Q0 Q c r rs h p
  unfold rAppend at h
  split at h
  · split at h
    · rename_i xs g
      obtain ⟨w, e1, e2⟩ := reps1 rs
      rw [Rep] at r
      obtain ⟨ws, h1, h2⟩ := ptr_lst c g
      subst e1 r
      exact ⟨_, ws, w, rfl, rfl, h1, by rw [h2.len]; exact h.1, p.put (mo := .lst _) c g ⟨_, rfl, h2.app (Reps.one e2)⟩ h.2 (by rw [Rep])⟩
    · exact h.elim
  · exact h.elim
theorem de_append {apos cpos : Pos} (ho : DE X a ta) (ha : DA X [b] tr) (hbase : attributeBase a "append" X.env (eval a X.env) = eval a X.env := by rfl) (hline : (apos.endLine == cpos.line) = true := by rfl) (hs : starEach [b] X.env = (false, eval b X.env) :: starEach [] X.env := by rfl) :
    DE X (.Call (.Attribute a "append" apos) [b] [] cpos) (dBM "list" rAppend ta tr) :=
  de_bm F.plainAttrs_list F.slot_list_append F.type_list_append mt_append l_append ho ha hbase (by rw [hs]; rfl) hline hs rfl
def rPop : DM := fun x xs M Q => match x, xs with
  | .ptr a, [] => match M a with | some (.lst ds) => ∃ y, ds[ds.length - 1]? = some y ∧ Q y (up M a (.lst ds.dropLast)) | _ => False
  | _, _ => False
theorem l_pop : LM K L2.rPop rPop := by
  intro F H M d v ds vs Q0 Q c r rs h p
  unfold rPop at h
  split at h
  · split at h
    · rename_i xs g
      rw [Rep] at r
      rw [Reps] at rs
      obtain ⟨ws, h1, h2⟩ := ptr_lst c g
      obtain ⟨y, h3, h4⟩ := h
      obtain ⟨w, q1, q2⟩ := h2.get h3
      subst r rs
      exact ⟨_, ws, w, rfl, rfl, h1, by rw [h2.len]; exact q1, p.put (mo := .lst _) c g ⟨_, rfl, h2.dropLast⟩ h4 q2⟩
    · exact h.elim
  · exact h.elim
theorem de_pop {apos cpos : Pos} (ho : DE X a ta) (hbase : attributeBase a "pop" X.env (eval a X.env) = eval a X.env := by rfl) (hline : (apos.endLine == cpos.line) = true := by rfl) : DE X (.Call (.Attribute a "pop" apos) [] [] cpos) (dBM0 "list" rPop ta) :=
  de_bm0 F.plainAttrs_list F.slot_list_pop F.type_list_pop mt_pop l_pop ho hbase hline
/-! ### stores into lists -/
def dgSub (ta tb : DTE) : DTG := fun d env M Q => ta env M fun o M1 => tb env M1 fun i M2 => match o, i with
  | .ptr a, .int k => match M2 a with | some (.lst ds) => ∃ j, ixN ds.length k = some j ∧ Q env (up M2 a (.lst (ds.set j d))) | _ => False
  | _, _ => False
theorem dg_sub (ha : DE X a ta) (hb : DE X b tb) (hs : ∀ v, assign (.Subscript a b pos) X.env v = (do
      let ov ← holding [v] (eval a X.env)
      let iv ← holding [v, ov] (eval b X.env)
      standAt pos
      holding [v, ov, iv] (setItem ov iv v)
      release [v, ov, iv] []) := by intro _; rfl) : DG X (.Subscript a b pos) (dgSub ta tb) :=
  PG.imp (pg_sub ha hb set_list hs) fun v σ H Q ⟨F, env, M, d, Q0, he, hc, r, ht, hp⟩ => ⟨F, env, M, _, he, hc, ht, fun o M1 F1 H1 ov q s1 f1 c1 r1 => ⟨F1, env, M1, _, he.mono s1, c1, q, fun i M2 F2 H2 iv q2 s2 f2 c2 r2 => by
    revert q2
    dsimp only
    split <;> intro q2
    · rename_i a k
      split at q2
      · rename_i ds g
        obtain ⟨j, h1, h2⟩ := q2
        simp only [Rep] at r1 r2
        obtain ⟨ws, g1, g2⟩ := ptr_lst c2 g
        subst r1 r2
        have r0 := (r.mono s1).mono s2
        obtain ⟨c3, f3⟩ := c2.write (o := .lst (ws.set j v)) (mo := .lst (ds.set j d)) g ⟨_, rfl, Reps.set r0 j g2⟩
        exact ⟨a, ws, k, j, rfl, rfl, g1, by rw [g2.len]; exact h1, hp _ _ _ _ _ h2 (s1.trans s2) ((f1.trans f2).trans f3) c3 ((he.mono s1).mono s2)⟩
      · exact q2.elim
    · exact q2.elim⟩⟩
/-! ### name op= e -/
def dAug (i : Nat) (ta : DTE) (rd : D2) : DTS := fun E env M => match env[i]? with
  | some (some x) => ta env M fun y M1 => rd x y M1 fun z M2 => E.nx (env.set i (some z)) M2
  | _ => False
theorem ds_aug {i : Nat} {x : Str} {op : Operator} {r : R2} {rd : D2} {pos' : Pos} (hN : X.N.Nodup) (he : DE X e ta) (ho : OpR X (inplaceOp op) r) (l : LR2 X.K r rd) (hi : X.N[i]? = some x := by rfl) (hx : Loc X.env.scope x := by first | exact Or.inl rfl | exact Or.inr rfl) (hf : X.fn x = true ∨ X.env.scope.names.lookup x = some .local := by first | exact .inl rfl | exact .inr rfl | assumption) :
    DS X (.AugAssign (.Name x pos') op e pos) (dAug i ta rd) := PS.imp (ps_aug (ti := r) hN hi hx he (fun pins s σ H x y v u Q I rx ry q => ho pins s σ H x y v u Q I rx ry q) hf) fun E σ H ⟨F, env, M, D0, he, hc, ht, hp⟩ => by
    unfold dAug at ht
    split at ht
    · rename_i d g
      obtain ⟨v, e1, r1⟩ := he.2 i d g
      exact ⟨v, e1, F, env, M, _, he, hc, ht, fun y M1 F1 H1 w q s1 f1 c1 r2 => l c1 (r1.mono s1) r2 q fun z M2 F2 H2 u q2 s2 f2 c2 r3 => hp.nx _ M2 F2 H2 _ q2 (s1.trans s2) (f1.trans f2) c2 (((he.mono s1).mono s2).set i r3)⟩
    · exact ht.elim
theorem l_iadd : LR2 K (fun x y H Q => (rI0 fun i j => .int (i + j)) x y H Q ∨ rStrs x y H Q) (fun x y M Q => match x, y with | .int i, .int j => Q (.int (i + j)) M | .str i, .str j => i.length + j.length ≤ sizeLine ∧ Q (.str (i ++ j)) M | _, _ => False) := by
  intro F H M d e v w Q0 Q c r1 r2 h p
  split at h
  · simp only [Rep] at r1 r2
    exact .inl ⟨_, _, r1, r2, p.int c h⟩
  · simp only [Rep] at r1 r2
    exact .inr ⟨_, _, r1, r2, h.1, p.str c h.2⟩
  · exact h.elim
theorem o_iadd : OpR X (inplaceOp .Add) (fun x y H Q => (rI0 fun i j => .int (i + j)) x y H Q ∨ rStrs x y H Q) := iop_add.or iop_add_str
end
end DL
namespace DL
open PySem PySem.Spec PyProof.Rows L2
/-- what is wanted of an exception: its class, its fields -/
abbrev DX := Value → List (Str × D) → Mp → Prop
abbrev DSp := List D → Mp → DQ → DX → Prop
def PostX (K : PySem.W.Frag) (F H : Hp) (M : Mp) (Q0 : DX) (Q : XK) : Prop := ∀ c fs M' F' H' dd vs, Q0 c fs M' → Same F F' → Fr F H M F' H' M' → Core K F' H' M' → H' dd = some (.xd vs) → RepF K F' fs vs → Q c (some dd) H'
theorem PostX.after {K : PySem.W.Frag} {F H F1 H1 : Hp} {M M1 : Mp} {Q0 : DX} {Q : XK} (p : PostX K F H M Q0 Q) (s : Same F F1) (f : Fr F H M F1 H1 M1) : PostX K F1 H1 M1 Q0 Q := fun c fs M' F' H' dd vs q s' f' c' h r => p c fs M' F' H' dd vs q (s.trans s') (f.trans f') c' h r
def lSp (K : PySem.W.Frag) (sp : DSp) : Sp := fun vs H Q E => ∃ F M ds Q0 E0, Core K F H M ∧ Reps K F ds vs ∧ sp ds M Q0 E0 ∧ Post K F H M Q0 Q ∧ PostX K F H M E0 E
def noX : DX := fun _ _ _ => False
theorem postX0 {K : PySem.W.Frag} {F H : Hp} {M : Mp} {Q : XK} : PostX K F H M noX Q := fun _ _ _ _ _ _ _ q => q.elim
section
variable {X : Cx} {K : PySem.W.Frag} {a b c e : Expr} {es : List Expr} {ta tb tc : DTE} {pos p : Pos} {tt : DTT} {tr tk : DTA} {k : Nat} {f : Addr} {fd : FuncData} {ps ks : List Str} {sp : DSp} {x : Str}
/-- f(e, ..); nothing is raised out of f -/
def dCall (sp : DSp) (tr : DTA) : DTE := fun env M Q => tr env M fun ds M1 => sp ds M1 Q noX
theorem l_call : ∀ σ H Q, lE K (dCall sp tr) σ H Q → tCall (lSp K sp) [] E0 (lA K tr) σ H Q := fun σ H Q ⟨F, env, M, Q0, he, hc, ht, hp⟩ =>
  ⟨F, env, M, _, he, hc, ht, fun ds M1 F1 H1 vs q s1 f1 c1 r1 => by
    show lSp K sp (vs ++ []) H1 Q E0
    rw [List.append_nil]
    exact ⟨F1, M1, ds, Q0, noX, c1, r1, q, hp.after s1 f1, postX0⟩⟩
theorem de_call (G : FnOk X.prog X.w X.K X.mg X.base CX0 k f fd ps (lSp X.K sp)) (hr : Room k X.A) (hm : X.mg x = some (.ref f)) (hk : PySem.W.keepIn X.K (.ref f) = true) (hb : Binds X.K fd ps []) (ha : DA X (e :: es) tr) (hg : Gl X x := by rfl)
    (hdb : (x == ("__debug__" : Str)) = false := by decide) (he : starEach (e :: es) X.env = (false, eval e X.env) :: starEach es X.env := by rfl) (hpl : (backTo pos (starEach es X.env)).any (·.1) = false := by rfl) : DE X (.Call (.Name x p) (e :: es) [] pos) (dCall sp tr) :=
  PE.imp (pe_call G hr hg hm hk hb .nil pass0 ha hdb he hpl) l_call
theorem de_call0 (G : FnOk X.prog X.w X.K X.mg X.base CX0 k f fd ps (lSp X.K sp)) (hr : Room k X.A) (hm : X.mg x = some (.ref f)) (hk : PySem.W.keepIn X.K (.ref f) = true) (hb : Binds X.K fd ps []) (hg : Gl X x := by rfl)
    (hdb : (x == ("__debug__" : Str)) = false := by decide) : DE X (.Call (.Name x p) [] [] pos) (dCall sp dNil) :=
  PE.imp (pe_call0 G hr hg hm hk hb .nil pass0 hdb) fun σ H Q ⟨F, env, M, Q0, he, hc, ht, hp⟩ => ⟨F, M, [], Q0, noX, hc, Reps.nil, ht, hp, postX0⟩
/-- keywords: gV puts the values in the parameters' order -/
structure GD (gV : List V → List V → List V) (gD : List D → List D → List D) : Prop where
  rep : ∀ {K : PySem.W.Frag} {F : Hp} {ds es : List D} {vs ws : List V}, Reps K F ds vs → Reps K F es ws → Reps K F (gD ds es) (gV vs ws)
def dCallK (sp : DSp) (gD : List D → List D → List D) (tr tk : DTA) : DTE := fun env M Q => tr env M fun ds M1 => tk env M1 fun es M2 => sp (gD ds es) M2 Q noX
abbrev DK (X : Cx) (kws : List Keyword) (t : DTA) : Prop := PK X kws (lA X.K t)
theorem dk_nil : DK X [] dNil := ⟨fun pos pins s σ H Q I ⟨F, env, M, Q0, he, hc, ht, hp⟩ => pk_nil.run pos pins s σ H Q I (hp [] M F H [] ht (Same.refl F) Fr.refl hc Reps.nil)⟩
theorem dk_cons {kws : List Keyword} {nm : Option Str} {kpos : Pos} (ha : DE X e ta) (hr : DK X kws tr) : DK X (⟨nm, e, kpos⟩ :: kws) (dCons ta tr) := ⟨fun pos pins s σ H Q I ⟨F, env, M, Q0, he, hc, ht, hp⟩ =>
  (pk_cons ha hr).run pos pins s σ H Q I ⟨F, env, M, _, he, hc, ht, fun d M1 F1 H1 v q s1 f1 c1 r1 => ⟨F1, env, M1, _, he.mono s1, c1, q, fun ds M2 F2 H2 vs q2 s2 f2 c2 r2 =>
    hp _ M2 F2 H2 _ q2 (s1.trans s2) (f1.trans f2) c2 (Reps.cons (r1.mono s2) r2)⟩⟩⟩
theorem de_callK {kws : List Keyword} {g : List Value → List Value → List Value} {gV : List V → List V → List V} {gD : List D → List D → List D} (G : FnOk X.prog X.w X.K X.mg X.base CX0 k f fd ps (lSp X.K sp)) (hr : Room k X.A) (hm : X.mg x = some (.ref f)) (hk : PySem.W.keepIn X.K (.ref f) = true) (hb : KBinds X.K fd ps ks g gV) (hgd : GD gV gD)
    (ha : DA X (e :: es) tr) (hkw : DK X kws tk) (hg : Gl X x := by rfl) (hall : (backToKw pos (keywordEach kws X.env)).all (·.1.isSome) = true := by rfl) (hks : (backToKw pos (keywordEach kws X.env)).filterMap (·.1) = ks := by rfl)
    (hdb : (x == ("__debug__" : Str)) = false := by decide) (he : starEach (e :: es) X.env = (false, eval e X.env) :: starEach es X.env := by rfl)
    (hpl : ((backTo pos (starEach (e :: es) X.env)).any (·.1) || (backToKw pos (keywordEach kws X.env)).any (·.1.isNone)) = false := by rfl) : DE X (.Call (.Name x p) (e :: es) kws pos) (dCallK sp gD tr tk) :=
  PE.imp (pe_callK G hr hg hm hk hb pass0 ha hkw hall hks hdb he hpl) fun σ H Q ⟨F, env, M, Q0, he, hc, ht, hp⟩ =>
    ⟨F, env, M, _, he, hc, ht, fun ds M1 F1 H1 vs q s1 f1 c1 r1 => ⟨F1, env, M1, _, he.mono s1, c1, q, fun es M2 F2 H2 ws q2 s2 f2 c2 r2 =>
      ⟨F2, M2, _, Q0, noX, c2, hgd.rep (r1.mono s2) r2, q2, (hp.after s1 f1).after s2 f2, postX0⟩⟩⟩
end
/-! ### a def's body -/
def startD (N : List Str) (ds : List D) : DSt := ds.map some ++ List.replicate (N.length - ds.length) none
theorem start_env {K : PySem.W.Frag} {F : Hp} {N : List Str} {ds : List D} {vs : List V} (r : Reps K F ds vs) : EnvR K F (L2.start N vs) (startD N ds) := by
  have hl := r.len
  refine ⟨by simp [L2.start, startD, hl], fun i d h => ?_⟩
  unfold startD at h
  unfold L2.start
  by_cases hi : i < ds.length
  · rw [List.getElem?_append_left (by simpa using hi)] at h
    rw [List.getElem?_append_left (by simpa [hl] using hi)]
    simp only [List.getElem?_map, Option.map_eq_some_iff] at h
    obtain ⟨d', e1, e2⟩ := h
    cases e2
    obtain ⟨v, e3, e4⟩ := r.get e1
    exact ⟨v, by simp [e3], e4⟩
  · rw [List.getElem?_append_right (by simpa using hi)] at h
    rw [List.getElem?_replicate] at h
    split at h <;> cases h
/-- what is told at the end: the frame's own objects are forgotten or frozen -/
def Wk (K : PySem.W.Frag) (d : D) (M : Mp) (d0 : D) (M0 : Mp) : Prop := ∀ {F H : Hp} {v : V}, Core K F H M → Rep K F d v → ∃ F', Same F F' ∧ Core K F' H M0 ∧ Fr F H M F' H M0 ∧ Rep K F' d0 v
def Fin (K : PySem.W.Frag) (Q : DQ) : DQ := fun d M => ∃ d0 M0, Wk K d M d0 M0 ∧ Q d0 M0
def Sub (M0 M : Mp) : Prop := ∀ a mo, M0 a = some mo → M a = some mo
theorem Sub.refl {M : Mp} : Sub M M := fun _ _ h => h
theorem Sub.up {M0 M : Mp} (h : Sub M0 M) {a : Addr} {o : MO} (n : M0 a = none) : Sub M0 (up M a o) := fun b mo e => by
  rw [up_ne fun z => by rw [z, n] at e; cases e]; exact h b mo e
theorem Sub.up2 {M0 M : Mp} (h : Sub M0 M) {a : Addr} {o : MO} : Sub (DL.up M0 a o) (DL.up M a o) := fun b mo e => by
  by_cases hb : b = a
  · subst hb; rw [up_same] at e ⊢; exact e
  · rw [up_ne hb] at e ⊢; exact h b mo e
theorem Sub.rm {M0 M : Mp} (h : Sub M0 M) {a : Addr} (n : M0 a = none) : Sub M0 (rm M a) := fun b mo e => by
  have : b ≠ a := fun z => by rw [z, n] at e; cases e
  simp [DL.rm, this]; exact h b mo e
section
variable {K : PySem.W.Frag} {d : D} {M M0 : Mp} {Q : DQ}
theorem sub_none {M0 M : Mp} (h : Sub M0 M) {a : Addr} (n : M a = none) : M0 a = none := by
  cases e : M0 a with
  | none => rfl
  | some mo => rw [h a mo e] at n; cases n
theorem wk_drop (h : Sub M0 M) : Wk K d M d M0 := fun {F H v} c r => ⟨F, Same.refl F, c.drop h, fun a o e n => ⟨e, sub_none h n, fun z => z⟩, r⟩
theorem Fin.drop (h : Sub M0 M) (q : Q d M0) : Fin K Q d M := ⟨d, M0, wk_drop h, q⟩
theorem Fin.same (q : Q d M) : Fin K Q d M := Fin.drop Sub.refl q
theorem Fin.frz {a : Addr} {ds : List D} (h : M a = some (.lst ds)) (n : M0 a = none) (hs : Sub M0 M) (q : Q (.lst ds) M0) : Fin K Q (.ptr a) M := by
  refine ⟨.lst ds, M0, fun {F H v} c r => ?_, q⟩
  obtain ⟨o, r1, c1, s1, f1⟩ := c.freeze h
  obtain ⟨vs, e1, e2⟩ := r1
  subst e1
  rw [Rep] at r
  exact ⟨_, s1, c1.drop (hs.rm n), fun b o e nb => ⟨e, sub_none hs nb, (f1 b o e nb).2.2⟩, by rw [Rep]; exact ⟨a, vs, r, upd_same, e2.mono s1⟩⟩
theorem Fin.frzI {a C : Addr} {ds : List (Str × D)} (h : M a = some (.ins C ds)) (n : M0 a = none) (hs : Sub M0 M) (q : Q (.obj C ds) M0) : Fin K Q (.ptr a) M := by
  refine ⟨.obj C ds, M0, fun {F H v} c r => ?_, q⟩
  obtain ⟨o, r1, c1, s1, f1⟩ := c.freeze h
  obtain ⟨dx, vs, e1, e2⟩ := r1
  subst e1
  rw [Rep] at r
  exact ⟨_, s1, c1.drop (hs.rm n), fun b o e nb => ⟨e, sub_none hs nb, (f1 b o e nb).2.2⟩, by rw [Rep]; exact ⟨a, dx, vs, r, upd_same, e2.mono s1⟩⟩
end
theorem post_fin {K : PySem.W.Frag} {F H : Hp} {M : Mp} {Q0 : DQ} {Q : VK} (p : Post K F H M Q0 Q) : Post K F H M (Fin K Q0) Q := fun d M' F' H' v ⟨d0, M0, w, q⟩ s f c r => by
  obtain ⟨F2, s2, c2, f2, r2⟩ := w c r
  exact p d0 M0 F2 H' v q (s.trans s2) (f.trans f2) c2 r2
def bodyE (K : PySem.W.Frag) (Q : DQ) : DEnds := { nx := fun _ M => Fin K Q .non M, rt := Fin K Q }
section
variable {P : Program} {w : World} {K : PySem.W.Frag} {mg : Str → Option Value} {base : Heap}
theorem fin_ok {F H : Hp} {M : Mp} {Q0 : DQ} {Q : VK} (p : Post K F H M Q0 Q) : PostS K F H M (bodyE K Q0) { nx := fun _ H' => Q .non H', rt := Q } :=
  ⟨fun env M' F' H' σ q s f c r => post_fin p .non M' F' H' .non q s f c (by rw [Rep]), post_fin p, fun _ _ _ _ _ q => q.elim, fun _ _ _ _ _ q => q.elim⟩
/-- THE RULE for a def that raises nothing -/
theorem dfun {x qual : Str} {st : Stmt} {f : Addr} {fd : FuncData} {N ps : List Str} {k : Nat} {sp : DSp} (F : Fun K x qual st f fd) (S : FnScope N ps (defScope st)) (len : ∀ ds M Q E, sp ds M Q E → ds.length = ps.length)
    (hbody : ∀ (cdv : Value) (A : Around) (outer : List Env) (s : Shared) (H : Hp) (E : XK), Room k (A.deeper (envOfC qual (defScope st) s.heap.objs.size f cdv)) →
      ∃ t, DSs (cxOf CX0 P w K mg base N qual (defScope st) f cdv A outer s H E).nox (defBody st) t ∧ ∀ ds M Q E0, sp ds M Q E0 → t (bodyE K Q) (startD N ds) M) : FnOk P w K mg base CX0 (k + 1) f fd ps (lSp K sp) :=
  F.ok S (fun vs H Q E ⟨F, M, ds, Q0, E0, c, r, h, _⟩ => by rw [r.len]; exact len ds M Q0 E0 h) fun cdv A outer s H vs Q E hr ⟨F, M, ds, Q0, E0, c, r, h, p, _⟩ => by
    obtain ⟨t, h1, h2⟩ := hbody cdv A outer s H E hr
    exact ⟨_, h1, F, startD N ds, M, bodyE K Q0, start_env r, c, h2 ds M Q0 E0 h, fin_ok p⟩
end
end DL
namespace DL
open PySem PySem.Spec PyProof.Rows L2
/-- no name of a built-in is hidden -/
structure NB (mg : Str → Option Value) : Prop where
  len : mg "len" = none
  int : mg "int" = none
  range : mg "range" = none
  list : mg "list" = none
  tuple : mg "tuple" = none
  str : mg "str" = none
  bool : mg "bool" = none
  abs : mg "abs" = none
  sum : mg "sum" = none
  all : mg "all" = none
  any : mg "any" = none
  max : mg "max" = none
  min : mg "min" = none
  sorted : mg "sorted" = none
  zip : mg "zip" = none
  enumerate : mg "enumerate" = none
  isinstance : mg "isinstance" = none
  repr : mg "repr" = none
  dict : mg "dict" = none
  super : mg "super" = none
  type : mg "type" = none
/-- a def that is called: where it stands, its promise -/
structure Cal (P : Program) (w : World) (K : PySem.W.Frag) (mg : Str → Option Value) (base : Heap) (k : Nat) (x : Str) (ps : List Str) (sp : DSp) (f : Addr) (fd : FuncData) : Prop where
  fn : FnOk P w K mg base CX0 k f fd ps (lSp K sp)
  g : mg x = some (.ref f)
  kp : PySem.W.keepIn K (.ref f) = true
  b : Binds K fd ps []
abbrev CMulA (i j : Int) : Prop := CMul i j ∨ CMulW i j
abbrev CDivA (i j : Int) : Prop := CDivN i j ∨ CDivW i j
abbrev rMul : D2 := rInt2 CMulA fun i j => i * j
abbrev rFdiv : D2 := rInt2 CDivA Int.fdiv
abbrev rMod : D2 := rInt2 (fun _ j => j ≠ 0) Int.fmod
abbrev rPow : D2 := rInt2 CPow fun i j => i ^ j.toNat
def rIadd : D2 := fun x y M Q => match x, y with | .int i, .int j => Q (.int (i + j)) M | .str i, .str j => i.length + j.length ≤ sizeLine ∧ Q (.str (i ++ j)) M | _, _ => False
abbrev rLower : DM := rS0 (fun a => a.length ≤ 5592405) fun a => .str (Txt.lower a)
abbrev rUpper : DM := rS0 (fun a => a.length ≤ 5592405) fun a => .str (Txt.upper a)
abbrev rScount : DM := rS1 (fun _ _ => True) fun a b => .int (Txt.count a b)
theorem Room.unitsI {k : Nat} {A : Around} (r : Room k A) : A.units + 65 < cLine := by have := r.un; omega
section
variable {X : Cx} {K : PySem.W.Frag} {a b c e : Expr} {es : List Expr} {ta tb tc : DTE} {pos p : Pos} {tt : DTT} {tr tk : DTA} {k : Nat} {f : Addr} {fd : FuncData} {ps ks : List Str} {sp : DSp} {x : Str}
theorem de_callC (G : Cal X.prog X.w X.K X.mg X.base k x ps sp f fd) (hr : Room k X.A) (ha : DA X (e :: es) tr) (hg : Gl X x := by rfl)
    (hdb : (x == ("__debug__" : Str)) = false := by decide) (he : starEach (e :: es) X.env = (false, eval e X.env) :: starEach es X.env := by rfl) (hpl : (backTo pos (starEach es X.env)).any (·.1) = false := by rfl) : DE X (.Call (.Name x p) (e :: es) [] pos) (dCall sp tr) :=
  de_call G.fn hr G.g G.kp G.b ha hg hdb he hpl
theorem de_callC0 (G : Cal X.prog X.w X.K X.mg X.base k x ps sp f fd) (hr : Room k X.A) (hg : Gl X x := by rfl) (hdb : (x == ("__debug__" : Str)) = false := by decide) : DE X (.Call (.Name x p) [] [] pos) (dCall sp dNil) := de_call0 G.fn hr G.g G.kp G.b hg hdb
theorem o_mulA : OpR X (binaryOp .Mult) (rI CMulA fun i j => .int (i * j)) := by
  intro pins s σ H x y v u Q I rx ry q
  obtain ⟨i, j, e1, e2, h | h, q⟩ := q
  · exact op_mul pins s σ H x y v u Q I rx ry ⟨i, j, e1, e2, h, q⟩
  · exact op_mulW pins s σ H x y v u Q I rx ry ⟨i, j, e1, e2, h, q⟩
theorem o_fdivA : OpR X (binaryOp .FloorDiv) (rI CDivA fun i j => .int (i.fdiv j)) := by
  intro pins s σ H x y v u Q I rx ry q
  obtain ⟨i, j, e1, e2, h | h, q⟩ := q
  · exact op_fdivN pins s σ H x y v u Q I rx ry ⟨i, j, e1, e2, h, q⟩
  · refine op_fdivW pins s σ H x y v u Q I rx ry ⟨i, j, e1, e2, h, ?_⟩
    show Q (.int (i / j)) H
    rw [← Int.fdiv_eq_ediv_of_nonneg i (Int.le_of_lt h.1)]
    exact q
theorem de_mulA (ha : DE X a ta) (hb : DE X b tb) : DE X (.BinOp a .Mult b pos) (dOp rMul ta tb) := de_op o_mulA l_int ha hb
theorem de_fdivA (ha : DE X a ta) (hb : DE X b tb) : DE X (.BinOp a .FloorDiv b pos) (dOp rFdiv ta tb) := de_op o_fdivA l_int ha hb
/-! ### order -/
abbrev rLt : D2 := rOrd (fun i j => decide (i < j)) (fun i j => decide (i.cps.toList < j.cps.toList)) (fun _ _ => false)
abbrev rLe : D2 := rOrd (fun i j => decide (i ≤ j)) (fun i j => !decide (j.cps.toList < i.cps.toList)) (fun _ _ => false)
abbrev rGt : D2 := rOrd (fun i j => decide (j < i)) (fun i j => decide (j.cps.toList < i.cps.toList)) (fun _ _ => false)
abbrev rGe : D2 := rOrd (fun i j => decide (j ≤ i)) (fun i j => !decide (i.cps.toList < j.cps.toList)) (fun _ _ => false)
theorem o_lt : OpR X (compareOp .Lt) (fun x y H Q => (rI0 fun i j => .bl (decide (i < j))) x y H Q ∨ (∃ i j, x = .str i ∧ y = .str j ∧ Q (.bl (decide (i.cps.toList < j.cps.toList))) H)) := op_lt.or op_lt_str
theorem o_le : OpR X (compareOp .LtE) (fun x y H Q => (rI0 fun i j => .bl (decide (i ≤ j))) x y H Q ∨ (∃ i j, x = .str i ∧ y = .str j ∧ Q (.bl (!decide (j.cps.toList < i.cps.toList))) H)) := op_le.or op_le_str
theorem o_gt : OpR X (compareOp .Gt) (fun x y H Q => (rI0 fun i j => .bl (decide (j < i))) x y H Q ∨ (∃ i j, x = .str i ∧ y = .str j ∧ Q (.bl (decide (j.cps.toList < i.cps.toList))) H)) := op_gt.or op_gt_str
theorem o_ge : OpR X (compareOp .GtE) (fun x y H Q => (rI0 fun i j => .bl (decide (j ≤ i))) x y H Q ∨ (∃ i j, x = .str i ∧ y = .str j ∧ Q (.bl (!decide (i.cps.toList < j.cps.toList))) H)) := op_ge.or op_ge_str
theorem l_lt : LR2 K (fun x y H Q => (rI0 fun i j => .bl (decide (i < j))) x y H Q ∨ (∃ i j, x = .str i ∧ y = .str j ∧ Q (.bl (decide (i.cps.toList < j.cps.toList))) H)) rLt := l_ord
theorem l_le : LR2 K (fun x y H Q => (rI0 fun i j => .bl (decide (i ≤ j))) x y H Q ∨ (∃ i j, x = .str i ∧ y = .str j ∧ Q (.bl (!decide (j.cps.toList < i.cps.toList))) H)) rLe := l_ord
theorem l_gt : LR2 K (fun x y H Q => (rI0 fun i j => .bl (decide (j < i))) x y H Q ∨ (∃ i j, x = .str i ∧ y = .str j ∧ Q (.bl (decide (j.cps.toList < i.cps.toList))) H)) rGt := l_ord
theorem l_ge : LR2 K (fun x y H Q => (rI0 fun i j => .bl (decide (j ≤ i))) x y H Q ∨ (∃ i j, x = .str i ∧ y = .str j ∧ Q (.bl (!decide (i.cps.toList < j.cps.toList))) H)) rGe := l_ord
/-! ### in -/
def strIn (s z : Str) : Bool := !(Builtin.Str.occurrences z s 0 z.length 1).isEmpty
theorem strIn_sign (c : Nat) (z : Str) : strIn ⟨#[c]⟩ z = decide (c ∈ z.cps.toList) := PySem.StrLaws.found_one z c
def flatD : D → Bool
  | .non => true
  | .bl _ => true
  | .int _ => true
  | .str _ => true
  | _ => false
def rInD (neg : Bool) : D2 := fun x y M Q => match y with
  | .str z => match x with | .str s => Q (.bl (neg ^^ strIn s z)) M | _ => False
  | .tup ds => (flatD x = true ∧ ds.all flatD = true) ∧ Q (.bl (neg ^^ ds.any fun z => D.eqv z x)) M
  | y => match lstOf M y with
    | some ds => if (flatD x && ds.all flatD) = true then Q (.bl (neg ^^ ds.any fun z => D.eqv z x)) M else (rs M x).ok = true ∧ (D.lst ds).ok = true ∧ Q (.bl (neg ^^ ds.any fun z => D.eqv z (rs M x))) M
    | none => False
theorem flat_v {F : Hp} {d : D} {v : V} (r : Rep K F d v) (h : flatD d = true) : flatV v = true := by
  cases d <;> first | (simp [flatD] at h; done) | (simp only [Rep] at r; subst r; rfl)
theorem flat_eqv {F F' : Hp} {d e : D} {v w : V} (r : Rep K F d v) (r' : Rep K F' e w) (h : flatD d = true) (h' : flatD e = true) : eqV v w = D.eqv d e := by
  cases d <;> first | (simp [flatD] at h; done) | skip
  all_goals cases e <;> first | (simp [flatD] at h'; done) | skip
  all_goals
    simp only [Rep] at r r'
    subst r r'
    simp [eqV, D.eqv, D.py, PyData.eqv]
theorem flat_all {F : Hp} : ∀ {ds : List D} {vs : List V}, Reps K F ds vs → ds.all flatD = true → vs.all flatV = true
  | [], vs, r, _ => by rw [Reps] at r; subst r; rfl
  | d :: ds, vs, r, h => by
    rw [Reps] at r
    obtain ⟨v, w, e1, e2, e3⟩ := r
    subst e1
    rw [List.all_cons, Bool.and_eq_true] at h ⊢
    exact ⟨flat_v e2 h.1, flat_all e3 h.2⟩
theorem flat_any {F F' : Hp} {x : D} {u : V} (rx : Rep K F' x u) (hx : flatD x = true) : ∀ {ds : List D} {vs : List V}, Reps K F ds vs → ds.all flatD = true → inV u vs = ds.any fun z => D.eqv z x
  | [], vs, r, _ => by rw [Reps] at r; subst r; rfl
  | d :: ds, vs, r, h => by
    rw [Reps] at r
    obtain ⟨v, w, e1, e2, e3⟩ := r
    subst e1
    rw [List.all_cons, Bool.and_eq_true] at h
    have ih := flat_any rx hx e3 h.2
    unfold inV at ih ⊢
    rw [List.any_cons, List.any_cons, ih, flat_eqv e2 rx h.1 hx]
theorem pys_map : ∀ ds : List D, D.pys ds = ds.map D.py
  | [] => by rw [D.pys]; rfl
  | d :: ds => by rw [D.pys, pys_map ds]; rfl
abbrev rInA (K : PySem.W.Frag) (neg : Bool) : R2 := fun x y H Q => (∃ i j, x = .str i ∧ y = .str j ∧ Q (.bl (neg ^^ strIn i j)) H) ∨ (rIn K neg x y H Q ∨ (∃ d ds, Dp K H x d ∧ Dp K H y (.list ds) ∧ SeqAt.shaped d = true ∧ SeqAt.shaped (.list ds) = true ∧ Q (.bl (neg ^^ ds.any fun z => PyData.eqv z d)) H))
theorem l_inA {neg : Bool} : LR2 K (rInA K neg) (rInD neg) := by
  intro F H M d e v w Q0 Q c r1 r2 h p
  unfold rInD at h
  have eqb : ∀ b : Bool, (if neg = true then !b else b) = (neg ^^ b) := fun b => by cases neg <;> cases b <;> rfl
  split at h
  · split at h
    · simp only [Rep] at r1 r2
      exact .inl ⟨_, _, r1, r2, p.bl c h⟩
    · exact h.elim
  · rename_i ds
    obtain ⟨⟨h1, h2⟩, h3⟩ := h
    rw [Rep] at r2
    obtain ⟨a, vs, e1, e2, e3⟩ := r2
    subst e1
    refine .inr (.inl ⟨a, vs, rfl, .inr (sameT c.same e2), flat_v r1 h1, flat_all e3 h2, ?_⟩)
    rw [flat_any r1 h1 e3 h2, eqb]
    exact p.bl c h3
  · split at h
    · rename_i ds g
      obtain ⟨a, vs, e1, e2, e3⟩ := lstOf_ok c r2 g
      subst e1
      split at h
      · rename_i hf
        rw [Bool.and_eq_true] at hf
        refine .inr (.inl ⟨a, vs, rfl, .inl e2, flat_v r1 hf.1, flat_all e3 hf.2, ?_⟩)
        rw [flat_any r1 hf.1 e3 hf.2, eqb]
        exact p.bl c h
      · obtain ⟨h1, h2, h3⟩ := h
        obtain ⟨a1, a2⟩ := ok2 h1
        obtain ⟨b1, b2⟩ := ok2 h2
        rw [D.pl] at b1
        rw [D.py] at b2
        refine .inr (.inr ⟨_, _, Rep.dp _ _ (rs_ok c r1) a1, .lst e2 (Reps.dp _ _ (e3.mono c.same) b1), a2, b2, ?_⟩)
        rw [pys_map, List.any_map]
        exact p.bl c h3
    · exact h.elim
theorem l_in : LR2 K (rInA K false) (rInD false) := l_inA
theorem l_nin : LR2 K (rInA K true) (rInD true) := l_inA
theorem OpR.imp {f : Value → Value → Sem Value} {r r' : R2} (h : OpR X f r) (i : ∀ x y H Q, r' x y H Q → r x y H Q) : OpR X f r' := fun pins s σ H x y v u Q I rx ry q => h pins s σ H x y v u Q I rx ry (i x y H Q q)
theorem o_in (hu : X.A.units + 65 < cLine) : OpR X (compareOp .In) (rInA X.K false) := OpR.imp (op_in_str.or (op_in_seq.or (op_inD hu))) fun x y H Q q => by
  rcases q with ⟨i, j, e1, e2, q⟩ | q | ⟨d, ds, e1, e2, e3, e4, q⟩
  · exact .inl ⟨i, j, e1, e2, by rw [Bool.false_xor] at q; exact q⟩
  · exact .inr (.inl q)
  · exact .inr (.inr ⟨d, ds, e1, e2, e3, e4, by rw [Bool.false_xor] at q; exact q⟩)
theorem o_nin (hu : X.A.units + 65 < cLine) : OpR X (compareOp .NotIn) (rInA X.K true) := OpR.imp (op_notIn_str.or (op_notIn_seq.or (op_notInD hu))) fun x y H Q q => by
  rcases q with ⟨i, j, e1, e2, q⟩ | q | ⟨d, ds, e1, e2, e3, e4, q⟩
  · exact .inl ⟨i, j, e1, e2, by rw [Bool.true_xor] at q; exact q⟩
  · exact .inr (.inl q)
  · exact .inr (.inr ⟨d, ds, e1, e2, e3, e4, by rw [Bool.true_xor] at q; exact q⟩)
/-! ### chains -/
def dChain (r r' : D2) (ta tb tc : DTE) : DTE := fun env M Q => ta env M fun x M1 => tb env M1 fun y M2 => r x y M2 fun z M3 => match z with
  | .bl k => if k = true then tc env M3 fun w M4 => r' y w M4 Q else Q (.bl false) M3
  | _ => False
theorem l_chain {r r' : R2} {rd rd' : D2} (l : LR2 K r rd) (l' : LR2 K r' rd') : ∀ σ H Q, lE K (dChain rd rd' ta tb tc) σ H Q → tChain r r' (lE K ta) (lE K tb) (lE K tc) σ H Q := fun σ H Q ⟨F, env, M, Q0, he, hc, ht, hp⟩ =>
  ⟨F, env, M, _, he, hc, ht, fun d M1 F1 H1 v q s1 f1 c1 r1 => ⟨F1, env, M1, _, he.mono s1, c1, q, fun d' M2 F2 H2 v' q2 s2 f2 c2 r2 =>
    l c2 (r1.mono s2) r2 q2 fun z M3 F3 H3 u q3 s3 f3 c3 r3 => by
      revert q3
      split <;> intro q3
      · rename_i k
        rw [Rep] at r3
        refine ⟨k, r3, ?_⟩
        have hp3 := ((hp.after s1 f1).after s2 f2).after s3 f3
        cases k with
        | false => exact hp3.bl c3 q3
        | true =>
          rw [if_pos rfl] at q3 ⊢
          exact ⟨F3, env, M3, _, ((he.mono s1).mono s2).mono s3, c3, q3, fun w' M4 F4 H4 u4 q4 s4 f4 c4 r4 => l' c4 ((r2.mono s3).mono s4) r4 q4 (hp3.after s4 f4)⟩
      · exact q3.elim⟩⟩
theorem de_chain {op op' : CmpOp} {r r' : R2} {rd rd' : D2} (ho : OpR X (compareOp op) r) (l : LR2 X.K r rd) (ho' : OpR X (compareOp op') r') (l' : LR2 X.K r' rd') (ha : DE X a ta) (hb : DE X b tb) (hc : DE X c tc)
    (hm : lastMarks [op, op'] [b, c] = false := by with_unfolding_all rfl) : DE X (.Compare a [op, op'] [b, c] pos) (dChain rd rd' ta tb tc) := PE.imp (pe_chain ho ho' ha hb hc hm) (l_chain l l')
theorem dt_chain {op op' : CmpOp} {r r' : R2} {rd rd' : D2} (ho : OpR X (compareOp op) r) (l : LR2 X.K r rd) (ho' : OpR X (compareOp op') r') (l' : LR2 X.K r' rd') (ha : DE X a ta) (hb : DE X b tb) (hc : DE X c tc)
    (hm : lastMarks [op, op'] [b, c] = false := by with_unfolding_all rfl) : DT X (.Compare a [op, op'] [b, c] pos) (dTB (dChain rd rd' ta tb tc)) := PT.imp (pt_chain ho ho' ha hb hc hm) fun σ H Q ⟨F, env, M, Q0, he, hc, ht, hp⟩ =>
  l_chain l l' σ H _ ⟨F, env, M, _, he, hc, ht, fun d M1 F1 H1 v q s1 f1 c1 r1 => by
    cases d with
    | bl k => rw [Rep] at r1; exact ⟨k, r1, hp k M1 F1 H1 q s1 f1 c1⟩
    | _ => exact False.elim q⟩
/-! ### built-ins by their names -/
theorem de_abs (hm : X.mg "abs" = none) (ha : DA X [a] tr) (hg : Gl X "abs" := by rfl) (na : starEach [a] X.env = (false, eval a X.env) :: starEach [] X.env := by rfl) : DE X (.Call (.Name "abs" p) [a] [] pos) (dCB rAbs tr) := de_callB call_abs l_abs hm (by decide +kernel) ha hg (by decide) (by decide) na rfl
theorem de_sum (hm : X.mg "sum" = none) (ha : DA X [a] tr) (hc : X.calm = true := by rfl) (hg : Gl X "sum" := by rfl) (na : starEach [a] X.env = (false, eval a X.env) :: starEach [] X.env := by rfl) : DE X (.Call (.Name "sum" p) [a] [] pos) (dCB rSum tr) := de_callB (cr_sum hc) l_sum hm (by decide +kernel) ha hg (by decide) (by decide) na rfl
theorem de_all (hm : X.mg "all" = none) (ha : DA X [a] tr) (hc : X.calm = true := by rfl) (hg : Gl X "all" := by rfl) (na : starEach [a] X.env = (false, eval a X.env) :: starEach [] X.env := by rfl) : DE X (.Call (.Name "all" p) [a] [] pos) (dCB rAll tr) := de_callB (cr_all hc) l_all hm (by decide +kernel) ha hg (by decide) (by decide) na rfl
theorem de_any (hm : X.mg "any" = none) (ha : DA X [a] tr) (hc : X.calm = true := by rfl) (hg : Gl X "any" := by rfl) (na : starEach [a] X.env = (false, eval a X.env) :: starEach [] X.env := by rfl) : DE X (.Call (.Name "any" p) [a] [] pos) (dCB rAny tr) := de_callB (cr_any hc) l_any hm (by decide +kernel) ha hg (by decide) (by decide) na rfl
theorem de_toTup (hm : X.mg "tuple" = none) (ha : DA X [a] tr) (hg : Gl X "tuple" := by rfl) (na : starEach [a] X.env = (false, eval a X.env) :: starEach [] X.env := by rfl) : DE X (.Call (.Name "tuple" p) [a] [] pos) (dCB rToTup tr) := de_callTy call_tuple_of l_toTup hm (by decide +kernel) ha hg (by decide) (by decide) na rfl
theorem de_toListM (hm : X.mg "list" = none) (ha : DA X [a] tr) (hg : Gl X "list" := by rfl) (na : starEach [a] X.env = (false, eval a X.env) :: starEach [] X.env := by rfl) : DE X (.Call (.Name "list" p) [a] [] pos) (dCB rToListM tr) := de_callTy call_list_of l_toListM hm (by decide +kernel) ha hg (by decide) (by decide) na rfl
def rMax2 : DC := fun ds M Q => match ds with | [.int i, .int j] => Q (.int (if j > i then j else i)) M | _ => False
def rMin2 : DC := fun ds M Q => match ds with | [.int i, .int j] => Q (.int (if j < i then j else i)) M | _ => False
theorem l_max2 : LC K (fun xs H Q => ∃ i j, xs = [.int i, .int j] ∧ Q (.int (if j > i then j else i)) H) rMax2 := by
  intro F H M ds vs Q0 Q c r h p
  unfold rMax2 at h
  split at h
  · obtain ⟨v, v', e1, e2, e3⟩ := reps2 r
    simp only [Rep] at e2 e3
    subst e1 e2 e3
    exact ⟨_, _, rfl, p.int c h⟩
  · exact h.elim
theorem l_min2 : LC K (fun xs H Q => ∃ i j, xs = [.int i, .int j] ∧ Q (.int (if j < i then j else i)) H) rMin2 := by
  intro F H M ds vs Q0 Q c r h p
  unfold rMin2 at h
  split at h
  · obtain ⟨v, v', e1, e2, e3⟩ := reps2 r
    simp only [Rep] at e2 e3
    subst e1 e2 e3
    exact ⟨_, _, rfl, p.int c h⟩
  · exact h.elim
theorem de_max2 (hm : X.mg "max" = none) (ha : DA X [a, b] tr) (hc : X.calm = true := by rfl) (hg : Gl X "max" := by rfl) (na : starEach [a, b] X.env = (false, eval a X.env) :: starEach [b] X.env := by rfl) (hpl : (backTo pos (starEach [b] X.env)).any (·.1) = false := by rfl) : DE X (.Call (.Name "max" p) [a, b] [] pos) (dCB rMax2 tr) := de_callB (call_max2 hc) l_max2 hm (by decide +kernel) ha hg (by decide) (by decide) na hpl
theorem de_min2 (hm : X.mg "min" = none) (ha : DA X [a, b] tr) (hc : X.calm = true := by rfl) (hg : Gl X "min" := by rfl) (na : starEach [a, b] X.env = (false, eval a X.env) :: starEach [b] X.env := by rfl) (hpl : (backTo pos (starEach [b] X.env)).any (·.1) = false := by rfl) : DE X (.Call (.Name "min" p) [a, b] [] pos) (dCB rMin2 tr) := de_callB (call_min2 hc) l_min2 hm (by decide +kernel) ha hg (by decide) (by decide) na hpl
theorem l_strN : LC K (fun xs H Q => ∃ i, xs = [.int i] ∧ i.natAbs.log2 < 1920 ∧ Q (.str (toString i)) H) rStrN := by
  intro F H M ds vs Q0 Q c r h p
  unfold rStrN at h
  split at h
  · obtain ⟨v, e1, e2⟩ := reps1 r
    rw [Rep] at e2
    subst e1 e2
    exact ⟨_, rfl, h.1, p.str c h.2⟩
  · exact h.elim
theorem de_strN (hm : X.mg "str" = none) (ha : DA X [a] tr) (hg : Gl X "str" := by rfl) (na : starEach [a] X.env = (false, eval a X.env) :: starEach [] X.env := by rfl) : DE X (.Call (.Name "str" p) [a] [] pos) (dCB rStrN tr) := de_callTy call_str_int l_strN hm (by decide +kernel) ha hg (by decide) (by decide) na rfl
/-! ### a, b = x, y -/
theorem ds_par {i j : Nat} {x y : Str} {px py pt : Pos} {kt k2 pt2} (hc : X.calm = true) (hN : X.N.Nodup) (hi : X.N[i]? = some x) (hj : X.N[j]? = some y) (hij : i ≠ j)
    (hx : X.env.scope.names.lookup x = some .local) (hy : X.env.scope.names.lookup y = some .local) (ha : DE X a ta) (hb : DE X b tb) (hw : swappedStores [.Tuple [.Name x px, .Name y py] kt pt] (.Tuple [a, b] k2 pt2) X.env = pure (some [x, y]))
    (na : starEach [a, b] X.env = (false, eval a X.env) :: starEach [b] X.env := by rfl) (nb : starEach [b] X.env = (false, eval b X.env) :: starEach [] X.env := by rfl)
    (hs : swapsWithSole [.Tuple [.Name x px, .Name y py] kt pt] (.Tuple [a, b] k2 pt2) pos.line X.env = pure false := by rfl) :
    DS X (.Assign [.Tuple [.Name x px, .Name y py] kt pt] (.Tuple [a, b] k2 pt2) pos) (dPar i j ta tb) :=
  PS.imp (ps_par hc hN hi hj hij hx hy (pa_cons ha (pa_cons hb pa_nil nb) na) hw hs) fun E σ H ⟨F, env, M, D0, he, hc, ht, hp⟩ =>
    ⟨F, env, M, _, he, hc, ht, fun d M1 F1 H1 v q s1 f1 c1 r1 => ⟨F1, env, M1, _, he.mono s1, c1, q, fun d' M2 F2 H2 v' q2 s2 f2 c2 r2 =>
      ⟨v, v', rfl, hp.nx _ M2 F2 H2 _ q2 (s1.trans s2) (f1.trans f2) c2 ((((he.mono s1).mono s2).set i (r1.mono s2)).set j r2)⟩⟩⟩
/-! ### the built-in types of data -/
def tyN (M : Mp) : D → Option String
  | .non => some "NoneType"
  | .bl _ => some "bool"
  | .int _ => some "int"
  | .str _ => some "str"
  | .tup _ => some "tuple"
  | .lst _ => some "list"
  | .lsx _ => some "list"
  | .ptr a => match M a with | some (.lst _) => some "list" | _ => none
  | _ => none
theorem sq_ty {H : Hp} {a : Addr} {vs : List V} (h : SqL K H a vs) : TyX K H (.ref a) (.type "list") := by
  rcases h with (h | ⟨o, h⟩) | ⟨o, its, n, h1, h2, _⟩
  · exact .base (.lst h)
  · exact .base (.frz h)
  · exact .kList h1 h2
theorem sqt_ty {H : Hp} {a : Addr} {vs : List V} (h : SqT K H a vs) : TyX K H (.ref a) (.type "tuple") := by
  rcases h with (h | ⟨o, h⟩) | ⟨o, its, n, h1, h2, _⟩
  · exact .base (.tup h)
  · exact .fTuple h
  · exact .kTuple h1 h2
theorem tyN_ok {F H : Hp} {M : Mp} {d : D} {v : V} {n : String} (c : Core K F H M) (r : Rep K F d v) (h : tyN M d = some n) : TyX K H v (.type n) := by
  cases d with
  | non => simp only [tyN] at h; cases h; rw [Rep] at r; subst r; exact .base .non
  | bl _ => simp only [tyN] at h; cases h; rw [Rep] at r; subst r; exact .base (.bl _)
  | int _ => simp only [tyN] at h; cases h; rw [Rep] at r; subst r; exact .base (.int _)
  | str _ => simp only [tyN] at h; cases h; rw [Rep] at r; subst r; exact .base (.str _)
  | lst ds =>
    simp only [tyN] at h; cases h
    obtain ⟨a, vs, e1, e2, e3⟩ := lstOf_ok c r rfl
    subst e1
    exact sq_ty e2
  | lsx ds =>
    simp only [tyN] at h; cases h
    obtain ⟨a, vs, e1, e2, e3⟩ := lstOf_ok c r rfl
    subst e1
    exact sq_ty e2
  | tup ds =>
    simp only [tyN] at h; cases h
    obtain ⟨a, vs, e1, e2, e3⟩ := tupOf_ok c r rfl
    subst e1
    exact sqt_ty e2
  | ptr a =>
    simp only [tyN] at h
    split at h
    · rename_i ds g
      cases h
      rw [Rep] at r
      obtain ⟨vs, e1, _⟩ := ptr_lst c g
      subst r
      exact sq_ty (SqL.of e1)
    · cases h
  | ty _ => simp [tyN] at h
  | obj _ _ => simp [tyN] at h
def isT (a b : String) : Bool := a == b || (a == "bool" && b == "int")
def tyNames : List String := ["int", "bool", "str", "list", "tuple", "dict"]
theorem kit_isT {M : Mp} {d : D} {n T : String} (h : tyN M d = some n) (hT : T ∈ tyNames) : PySem.W.kitOne K (.type n) (.type T) = some (isT n T) := by
  have key : ∀ n ∈ ["NoneType", "bool", "int", "str", "tuple", "list"], ∀ T ∈ tyNames, kitB n T = some (isT n T) := by decide +kernel
  refine kit_ty (key n ?_ T hT)
  cases d <;> simp only [tyN] at h <;> first | (cases h; simp; done) | (cases h; done) | (split at h <;> first | (cases h; simp; done) | (cases h; done))
def dIsi (T : String) (ta : DTE) : DTE := fun env M Q => ta env M fun x M1 => match tyN M1 x with | some n => Q (.bl (isT n T)) M1 | none => False
theorem de_isi {T : Str} {Ts : String} {p2 : Pos} (B : NB X.mg) (ha : DE X a ta) (hT : Ts ∈ tyNames := by decide) (hv : bootBuiltins T = some (.type Ts) := by decide +kernel) (hm : X.mg T = none := by first | exact NB.int ‹_› | exact NB.str ‹_› | exact NB.bool ‹_› | exact NB.tuple ‹_› | exact NB.list ‹_›) (hg : Gl X "isinstance" := by rfl) (hgT : Gl X T := by rfl)
    (hn : T ≠ "__name__" := by decide) (hd : (T == ("__debug__" : Str)) = false := by decide)
    (na : starEach [a, .Name T p2] X.env = (false, eval a X.env) :: starEach [.Name T p2] X.env := by rfl) (nb : starEach [.Name T p2] X.env = (false, eval (.Name T p2) X.env) :: starEach [] X.env := by rfl) (hpl : (backTo pos (starEach [.Name T p2] X.env)).any (·.1) = false := by rfl) :
    DE X (.Call (.Name "isinstance" p) [a, .Name T p2] [] pos) (dIsi Ts ta) :=
  PE.imp (pe_callB call_isi hg B.isinstance (by decide +kernel) (pa_cons ha (pa_cons (pe_bltn (v := .ty Ts) hgT hm hv rfl hn hd) pa_nil nb) na) (by decide) (by decide) na hpl) fun σ H Q ⟨F, env, M, Q0, he, hc, ht, hp⟩ =>
    ⟨F, env, M, _, he, hc, ht, fun d M1 F1 H1 v q s1 f1 c1 r1 => by
      revert q
      dsimp only
      split <;> intro q
      · rename_i n g
        exact ⟨v, .ty Ts, _, _, _, rfl, .ty Ts, tyN_ok c1 r1 g, kit_isT g hT, (hp.after s1 f1).bl c1 q⟩
      · exact q.elim⟩
def dIsi2 (T U : String) (ta : DTE) : DTE := fun env M Q => ta env M fun x M1 => match tyN M1 x with | some n => Q (.bl (isT n T || isT n U)) M1 | none => False
theorem de_isi2 {T U : Str} {Ts Us : String} {p2 p3 p4 : Pos} {k4} (B : NB X.mg) (ha : DE X a ta) (hT : Ts ∈ tyNames := by decide) (hU : Us ∈ tyNames := by decide) (hv : bootBuiltins T = some (.type Ts) := by decide +kernel) (hw : bootBuiltins U = some (.type Us) := by decide +kernel)
    (hm : X.mg T = none := by first | exact NB.int ‹_› | exact NB.str ‹_› | exact NB.bool ‹_› | exact NB.tuple ‹_› | exact NB.list ‹_›) (hm2 : X.mg U = none := by first | exact NB.int ‹_› | exact NB.str ‹_› | exact NB.bool ‹_› | exact NB.tuple ‹_› | exact NB.list ‹_›) (hg : Gl X "isinstance" := by rfl) (hgT : Gl X T := by rfl) (hgU : Gl X U := by rfl)
    (hn : T ≠ "__name__" := by decide) (hd : (T == ("__debug__" : Str)) = false := by decide) (hn2 : U ≠ "__name__" := by decide) (hd2 : (U == ("__debug__" : Str)) = false := by decide)
    (na : starEach [a, .Tuple [.Name T p2, .Name U p3] k4 p4] X.env = (false, eval a X.env) :: starEach [.Tuple [.Name T p2, .Name U p3] k4 p4] X.env := by rfl)
    (nb : starEach [.Tuple [.Name T p2, .Name U p3] k4 p4] X.env = (false, eval (.Tuple [.Name T p2, .Name U p3] k4 p4) X.env) :: starEach [] X.env := by rfl) (hpl : (backTo pos (starEach [.Tuple [.Name T p2, .Name U p3] k4 p4] X.env)).any (·.1) = false := by rfl)
    (nc : starEach [.Name T p2, .Name U p3] X.env = (false, eval (.Name T p2) X.env) :: starEach [.Name U p3] X.env := by rfl) (nd : starEach [.Name U p3] X.env = (false, eval (.Name U p3) X.env) :: starEach [] X.env := by rfl) :
    DE X (.Call (.Name "isinstance" p) [a, .Tuple [.Name T p2, .Name U p3] k4 p4] [] pos) (dIsi2 Ts Us ta) :=
  PE.imp (pe_callB call_isiT hg B.isinstance (by decide +kernel) (pa_cons ha (pa_cons (pe_tup (pa_cons (pe_bltn (v := .ty Ts) hgT hm hv rfl hn hd) (pa_cons (pe_bltn (v := .ty Us) hgU hm2 hw rfl hn2 hd2) pa_nil nd) nc)) pa_nil nb) na) (by decide) (by decide) na hpl) fun σ H Q ⟨F, env, M, Q0, he, hc, ht, hp⟩ =>
    ⟨F, env, M, _, he, hc, ht, fun d M1 F1 H1 v q s1 f1 c1 r1 => by
      revert q
      dsimp only
      split <;> intro q
      · rename_i n g
        refine ⟨by show 2 ≤ sizeLine; decide, fun t ht => ?_⟩
        obtain ⟨c2, s2, f2⟩ := c1.new ht (.tup [.ty Ts, .ty Us])
        refine ⟨v, t, [.ty Ts, .ty Us], .type n, [.type Ts, .type Us], _, rfl, upd_same, .cons (.ty Ts) (.cons (.ty Us) .nil), tyN_ok c2 (r1.mono s2) g, ?_, ((hp.after s1 f1).after s2 f2).bl c2 q⟩
        refine kitAny_cons (kit_isT g hT) (fun hb => ?_) (fun hb => by rw [hb]; rfl)
        rw [hb, Bool.false_or]
        exact kitAny_cons (kit_isT g hU) (fun hb => by rw [hb]; rfl) (fun hb => hb)
      · exact q.elim⟩
end
end DL
namespace DL
open PySem PySem.Spec PyProof.Rows L2
/-- the sgs from the end -/
def srev (z : Str) : Str := ⟨z.cps.toList.reverse.toArray⟩
theorem filterMap_rev (l : List Nat) : ∀ (n : Nat), n ≤ l.length → ((List.range n).map fun k => n - 1 - k).filterMap (fun i => l[i]?) = (l.take n).reverse := by
  intro n
  induction n with
  | zero => intro _; simp
  | succ n ih =>
    intro h
    have hn : n < l.length := h
    rw [List.range_succ_eq_map, List.map_cons, List.map_map, List.filterMap_cons]
    have e0 : n + 1 - 1 - 0 = n := by omega
    rw [e0, List.getElem?_eq_getElem hn]
    simp only
    have e1 : ((fun k => n + 1 - 1 - k) ∘ Nat.succ) = fun k => n - 1 - k := by
      funext k
      show n + 1 - 1 - (k + 1) = n - 1 - k
      omega
    rw [e1, ih (by omega)]
    have e2 : List.take (n + 1) l = List.take n l ++ [l[n]] := by rw [List.take_add_one, List.getElem?_eq_getElem hn]; rfl
    rw [e2, List.reverse_append]
    rfl
theorem rev_picked (z : Str) : ((Builtin.Str.strSliceIndices none none (-1) z.length).filterMap (z.cps[·]?)) = z.cps.toList.reverse := by
  have hz : z.cps.toList.length = z.length := by simp [Str.length]
  have e : Builtin.Str.strSliceIndices none none (-1) z.length = (List.range z.length).map fun k => z.length - 1 - k := by
    show sliceRange ((z.length : Int) - 1) (-1) (-1) = _
    unfold sliceRange
    have c1 : ¬ ((-1 : Int) > 0) := by decide
    simp only [if_neg c1]
    have c2 : (if (z.length : Int) - 1 > -1 then ((z.length : Int) - 1 - -1 - -1 - 1) / (- -1) else 0).toNat = z.length := by
      split
      · have : ((z.length : Int) - 1 - -1 - -1 - 1) / (- -1) = z.length := by
          have h1 : (- -1 : Int) = 1 := by decide
          rw [h1, Int.ediv_one]; omega
        rw [this]; omega
      · omega
    rw [c2]
    apply List.map_congr_left
    intro k hk
    have := List.mem_range.mp hk
    omega
  rw [e]
  have := filterMap_rev z.cps.toList z.length (by omega)
  rw [List.take_of_length_le (by omega)] at this
  rw [← this]
  congr 1
  funext i
  simp
section
variable {X : Cx} {K : PySem.W.Frag} {a b c e : Expr} {es : List Expr} {ta tb tc : DTE} {pos p : Pos} {tt : DTT} {tr tk : DTA} {k : Nat} {f : Addr} {fd : FuncData} {ps ks : List Str} {sp : DSp} {x : Str}
/-! ### x[::-1] -/
def tRevA (K : PySem.W.Frag) (te : TE) : TE := fun σ H Q => te σ H fun x H1 => (∃ z, x = .str z ∧ z.length ≤ sizeLine ∧ Q (.str (srev z)) H1) ∨ (∃ a xs, x = .ref a ∧ SqL K H1 a xs ∧ ∀ p, H1 p = none → Q (.ref p) (upd H1 p (.lst xs.reverse)))
theorem pe_revA {te : TE} {kk : Nat} {p1 p2 p3 : Pos} (he : PE X e te) : PE X (.Subscript e (.Slice none none (some (.UnaryOp .USub (.Constant (.int 1) kk p1) p2)) p3) pos) (tRevA X.K te) := by
  refine ⟨fun pins s σ H Q I hh => ?_⟩
  refine Subscript_ (thn (he.run pins s σ H _ I hh) fun vv s1 ⟨xx, H1, I1, rr1, qq1⟩ => ?_)
  have step : PO X (some (.UnaryOp .USub (.Constant (.int 1) kk p1) p2)) (tPart (tUn (rU fun i => .int (-i)) (tC (.int 1)))) := po_some (pe_un un_neg pe_int)
  refine wpAny_Slice (thn (po_none.run pins s1 σ H1 (fun o H2 => o = none ∧ H2 = H1) I1 ⟨rfl, rfl⟩) fun vl s2 ⟨l, H2, I2, pl, el, e2⟩ => ?_)
  subst el e2
  refine thn (po_none.run pins s2 σ H2 (fun o H3 => o = none ∧ H3 = H2) I2 ⟨rfl, rfl⟩) fun vu s3 ⟨u, H3, I3, pu, eu, e3⟩ => ?_
  subst eu e3
  refine thn (step.run pins s3 σ H3 (fun o H4 => o = some (-1) ∧ H4 = H3) I3 ⟨1, rfl, -1, rfl, rfl, rfl⟩) fun w4 s4 ⟨o, H4, I4, ps, eo, e4⟩ => ?_
  subst eo e4
  have J : Inv X pins σ H4 { s4 with heap := s4.heap.push { cls := .type "slice", data := .fields #[vl, vu, w4] } } := I4.kept (t' := s4.toks) fun b ob q => Heap.get?_push_of_some _ q
  rcases qq1 with ⟨z, ez, hz, q⟩ | ⟨a, xs, ea, hx, q⟩
  · subst ez
    obtain ⟨t, rfl⟩ := rr1
    show wpAny (model X.prog X.w) X.A (subscriptTail e (.Slice none none (some (.UnaryOp .USub (.Constant (.int 1) kk p1) p2)) p3) (.str z t) (.ref s4.heap.objs.size)) (EP X pins σ Q) X.xe { s4 with heap := s4.heap.push { cls := .type "slice", data := .fields #[vl, vu, w4] } }
    cases pl
    cases pu
    cases ps with
    | int _ tk =>
    refine tail_any (ops := [.ref s4.heap.objs.size, .str z t]) (typeIs_str _ _ _) F.slot_str_getitem.lookup ?_ (by with_unfolding_all rfl)
    refine wpAny_getItem_str_slice (l := none) (u := none) (st := some (-1, tk)) ⟨_, Heap.get?_push_size _ rfl, rfl, rfl⟩ rfl ?_
    show Made.post (if ((-1 : Int) == 1 && _) = true then Made.val (.str z t) else Made.str ⟨((Builtin.Str.strSliceIndices none none (-1) z.length).filterMap (z.cps[·]?)).toArray⟩) (EP X pins σ Q) _
    have c0 : ((-1 : Int) == 1) = false := by decide
    rw [c0, Bool.false_and, if_neg Bool.false_ne_true, rev_picked]
    refine ⟨?_, .str (srev z), H4, J.tok _, ⟨_, rfl⟩, q⟩
    show z.cps.toList.reverse.toArray.size ≤ sizeLine
    rw [List.size_toArray, List.length_reverse]
    exact hz
  · subst ea
    cases rr1
    obtain ⟨its, r, ht, hz⟩ := J.list hx
    have hlen := r.length
    show wpAny (model X.prog X.w) X.A (subscriptTail e (.Slice none none (some (.UnaryOp .USub (.Constant (.int 1) kk p1) p2)) p3) (.ref a) (.ref s4.heap.objs.size)) (EP X pins σ Q) X.xe { s4 with heap := s4.heap.push { cls := .type "slice", data := .fields #[vl, vu, w4] } }
    refine tail_any (ops := [.ref a, .ref s4.heap.objs.size]) ht.isList.typeIs (PySem.slot_list_getitem.lookup) ?_ (by with_unfolding_all rfl)
    refine wpAny_getItem_list_slice ht.isList (Heap.IsSliceOf.new _ vl vu w4) pl pu ps (by decide) ?_ (by rw [List.size_toArray]; omega)
    rw [PySem.W.krv_pick]
    have nw := J.hok.fresh (Nat.le_refl _)
    refine ⟨.ref _, _, J.laid (t' := s4.toks) (o := .lst xs.reverse) (fun b ob q => Heap.get?_push_of_some _ q) (Nat.le_refl _) ?_, rfl, q _ nw⟩
    refine ⟨by rw [List.length_reverse]; exact hz, its.reverse, 0, r.reverse, ?_⟩
    exact Heap.get?_push_size _ rfl
def dRev (ta : DTE) : DTE := fun env M Q => ta env M fun x M1 => match x with
  | .str z => z.length ≤ sizeLine ∧ Q (.str (srev z)) M1
  | x => match lstOf M1 x with | some ds => Q (.lst ds.reverse) M1 | none => False
theorem de_rev {kk : Nat} {p1 p2 p3 : Pos} (he : DE X e ta) : DE X (.Subscript e (.Slice none none (some (.UnaryOp .USub (.Constant (.int 1) kk p1) p2)) p3) pos) (dRev ta) := PE.imp (pe_revA he) fun σ H Q ⟨F, env, M, Q0, he, hc, ht, hp⟩ =>
  ⟨F, env, M, _, he, hc, ht, fun d M1 F1 H1 v q s1 f1 c1 r1 => by
    revert q
    dsimp only
    split <;> intro q
    · rw [Rep] at r1
      exact .inl ⟨_, r1, q.1, (hp.after s1 f1).str c1 q.2⟩
    · split at q
      · rename_i ds g
        obtain ⟨a, vs, e1, e2, e3⟩ := lstOf_ok c1 r1 g
        exact .inr ⟨a, vs, e1, e2, (hp.after s1 f1).lst c1 e3.reverse q⟩
      · exact q.elim⟩
/-! ### list(x): a list, a tuple, a text -/
def rToListA : DC := fun ds M Q => match ds with
  | [.tup xs] => Q (.lst xs) M
  | [.str z] => z.length ≤ sizeLine ∧ Q (.lst (sgs z)) M
  | [x] => match lstOf M x with | some xs => Q (.lst xs) M | none => False
  | _ => False
theorem call_list_text (hc : X.calm = true) : CallR X (.type "list") (fun xs H Q => ∃ z, xs = [.str z] ∧ z.length ≤ sizeLine ∧ ∀ l, H l = none → Q (.ref l) (upd H l (.lst (z.cps.toList.map fun c => .str ⟨#[c]⟩)))) := by
  intro pins s σ H xs us Q I r hh
  obtain ⟨z, rfl, hz, q⟩ := hh
  obtain ⟨u, rfl, t, rfl⟩ := vals1 r
  refine call_list_str (I.ok.hd hc) z t (fun h' tk acc cc hk ho hi => ?_) hz
  have fresh : H s.heap.objs.size = none := I.hok.fresh (Nat.le_refl _)
  have va : Vals (z.cps.toList.map fun c => V.str ⟨#[c]⟩) acc.toList := by
    have key : ∀ (l : List Nat) (us : List Value), us.length = l.length → (∀ (j : Nat) (v : Value), us[j]? = some v → ∃ c u, l[j]? = some c ∧ v = .str ⟨#[c]⟩ u) → Vals (l.map fun c => V.str ⟨#[c]⟩) us := by
      intro l
      induction l with
      | nil => intro us h0 _; cases us with
        | nil => exact .nil
        | cons _ _ => cases h0
      | cons c l ih =>
        intro us h0 hj
        cases us with
        | nil => cases h0
        | cons v us =>
          obtain ⟨c', u, e1, e2⟩ := hj 0 v rfl
          cases e1
          exact .cons ⟨u, e2⟩ (ih us (by simpa using h0) fun j w hw => hj (j + 1) w (by simpa using hw))
    refine key _ _ (by simpa using hi.1) fun j v hv => ?_
    obtain ⟨c, u, e1, e2⟩ := hi.2 j v (by simpa using hv)
    exact ⟨c, u, by simpa using e1, e2⟩
  refine ⟨.ref s.heap.objs.size, _, I.laid (t' := tk) (a := s.heap.objs.size) (o := .lst (z.cps.toList.map fun c => .str ⟨#[c]⟩)) hk (Nat.le_refl _) ⟨?_, acc.toList, cc, va, ?_⟩, rfl, q _ fresh⟩
  · rw [List.length_map]; simpa [Str.length] using hz
  · simpa using ho
theorem l_toListA : LC K (fun xs H Q => (∃ z, xs = [.str z] ∧ z.length ≤ sizeLine ∧ ∀ l, H l = none → Q (.ref l) (upd H l (.lst (z.cps.toList.map fun c => .str ⟨#[c]⟩)))) ∨ (∃ p ys, xs = [.ref p] ∧ (SqL K H p ys ∨ SqT K H p ys) ∧ ∀ l, H l = none → Q (.ref l) (upd H l (.lst ys)))) rToListA := by
  intro F H M ds vs Q0 Q c r h p
  unfold rToListA at h
  split at h
  · obtain ⟨v, e1, e2⟩ := reps1 r
    rw [Rep] at e2
    obtain ⟨a, vs, f1, f2, f3⟩ := e2
    subst e1 f1
    exact .inr ⟨a, vs, rfl, .inr (sameT c.same f2), p.lst c f3 h⟩
  · rename_i z
    obtain ⟨v, e1, e2⟩ := reps1 r
    rw [Rep] at e2
    subst e1 e2
    refine .inl ⟨z, rfl, h.1, p.lst c ?_ h.2⟩
    have e : (z.cps.toList.map fun c => V.str ⟨#[c]⟩) = (z.cps.toList.map fun c => (⟨#[c]⟩ : Str)).map V.str := by rw [List.map_map]; rfl
    have e' : sgs z = (z.cps.toList.map fun c => (⟨#[c]⟩ : Str)).map D.str := by unfold sgs; rw [List.map_map]; rfl
    rw [e, e']
    exact Reps.of_strs
  · split at h
    · rename_i xs g
      obtain ⟨v, e1, e2⟩ := reps1 r
      obtain ⟨a, vs, f1, f2, f3⟩ := lstOf_ok c e2 g
      subst e1 f1
      exact .inr ⟨a, vs, rfl, .inl f2, p.lst c f3 h⟩
    · exact h.elim
  · exact h.elim
theorem de_toList (hm : X.mg "list" = none) (ha : DA X [a] tr) (hc : X.calm = true := by rfl) (hg : Gl X "list" := by rfl) (na : starEach [a] X.env = (false, eval a X.env) :: starEach [] X.env := by rfl) : DE X (.Call (.Name "list" p) [a] [] pos) (dCB rToListA tr) := de_callTy (CallR.or (call_list_text hc) call_list_of) l_toListA hm (by decide +kernel) ha hg (by decide) (by decide) na rfl
end
end DL
namespace DL
open PySem PySem.Spec PyProof.Rows L2
theorem de_globE {X : Cx} {x : Str} {v : V} {d : D} {pos : Pos} (h : ∃ u, X.mg x = some u ∧ RelV v u) (q : ∀ F, Rep X.K F d v) (hg : Gl X x := by rfl) (hd : (x == ("__debug__" : Str)) = false := by decide) : DE X (.Name x pos) (dC d) := by
  obtain ⟨u, h1, h2⟩ := h
  exact de_glob hg h1 h2 q hd
end DL
namespace DL
open PySem PySem.Spec PyProof.Rows L2
theorem uI {k : Nat} {A : Around} (r : L2.Room k A) : A.units + 65 < cLine := by have := r.un; omega
end DL
namespace DL
open PySem PySem.Spec PyProof.Rows L2
/-! ### what the readings' proofs use: each combinator at work -/
section
variable {env : DSt} {M : Mp} {Q : DQ} {E : DEnds} {i j n : Int} {k l : Bool} {x y : Str} {xs ys : List D} {d : D} {ta tb tc : DTE} {t u : DTS} {tt t1 t2 : DTT} {tr : DTA} {g : DTG} {gs : DTGs}
theorem bodyE_rt {K : PySem.W.Frag} : (bodyE K Q).rt = Fin K Q := rfl
theorem bodyE_nx {K : PySem.W.Frag} : (bodyE K Q).nx env M = Fin K Q .non M := rfl
theorem dVar_ap {m : Nat} : dVar m env M Q = (match env[m]? with | some (some d) => Q d M | _ => False) := rfl
theorem dC_ap : dC d env M Q = Q d M := rfl
theorem dOp_ap {r : D2} : dOp r ta tb env M Q = ta env M fun x M1 => tb env M1 fun y M2 => r x y M2 Q := rfl
theorem dTB_ap {R : Bool → Mp → Prop} : dTB ta env M R = ta env M fun x M' => (match x with | .bl k => R k M' | _ => False) := rfl
theorem dTru_ap {R : Bool → Mp → Prop} : dTru ta env M R = ta env M fun x M' => (match x with
  | .non => R false M' | .bl b => R b M' | .int i => R (i != 0) M' | .str y => y.length ≤ sizeLine ∧ R ((y.length : Int) != 0) M' | .tup ds => R (!ds.isEmpty) M'
  | x => (match lstOf M' x with | some ds => R (!ds.isEmpty) M' | none => False)) := rfl
theorem dAnd_ap {R : Bool → Mp → Prop} : dAnd t1 t2 env M R = t1 env M fun c M1 => if c = true then t2 env M1 R else R false M1 := rfl
theorem dOr_ap {R : Bool → Mp → Prop} : dOr t1 t2 env M R = t1 env M fun c M1 => if c = true then R true M1 else t2 env M1 R := rfl
theorem dNot_ap {R : Bool → Mp → Prop} : dNot t1 env M R = t1 env M fun c M1 => R (!c) M1 := rfl
theorem dNotV_ap : dNotV ta env M Q = ta env M fun x M1 => (match x with | .bl k => Q (.bl (!k)) M1 | _ => False) := rfl
theorem dAndV_ap : dAndV ta tb env M Q = ta env M fun x M1 => (match x with | .bl k => (if k = true then tb env M1 Q else Q (.bl false) M1) | _ => False) := rfl
theorem dOrV_ap : dOrV ta tb env M Q = ta env M fun x M1 => (match x with | .bl k => (if k = true then Q (.bl true) M1 else tb env M1 Q) | _ => False) := rfl
theorem dIf_ap : dIf tt ta tb env M Q = tt env M fun k M1 => if k = true then ta env M1 Q else tb env M1 Q := rfl
theorem dIsN_ap {b : Bool} : dIsN b ta env M Q = ta env M fun x M1 => Q (.bl (b ^^ isNon x)) M1 := rfl
theorem dNext_ap : dNext E env M = E.nx env M := rfl
theorem dSeq_ap : dSeq t u E env M = t { E with nx := u E } env M := rfl
theorem dBreak_ap : dBreak E env M = E.bk env M := rfl
theorem dCont_ap : dCont E env M = E.ct env M := rfl
theorem dDrop_ap : dDrop ta E env M = ta env M fun _ M' => E.nx env M' := rfl
theorem dRet_ap : dRet ta E env M = ta env M E.rt := rfl
theorem dRetN_ap : dRetN E env M = E.rt .non M := rfl
theorem dIfS_ap : dIfS tt t u E env M = tt env M fun k M1 => if k = true then t E env M1 else u E env M1 := rfl
theorem dgName_ap {m : Nat} {R : DSt → Mp → Prop} : dgName m d env M R = R (env.set m (some d)) M := rfl
theorem dgNil_ap {R : DSt → Mp → Prop} : dgNil xs env M R = (xs = [] ∧ R env M) := rfl
theorem dgCons_ap {R : DSt → Mp → Prop} : dgCons g gs (d :: xs) env M R = g d env M fun env' M' => gs xs env' M' R := rfl
theorem dgTup_ap {m : Nat} {R : DSt → Mp → Prop} : dgTup m gs (.tup xs) env M R = (xs.length = m ∧ gs xs env M R) := rfl
theorem dgSub_ap {R : DSt → Mp → Prop} : dgSub ta tb d env M R = ta env M fun o M1 => tb env M1 fun i M2 => (match o, i with
  | .ptr a, .int k => (match M2 a with | some (.lst ds) => ∃ j, ixN ds.length k = some j ∧ R env (up M2 a (.lst (ds.set j d))) | _ => False) | _, _ => False) := rfl
theorem dAsg_ap : dAsg ta g E env M = ta env M fun d M1 => g d env M1 E.nx := rfl
theorem dPar_ap {m m' : Nat} : dPar m m' ta tb E env M = ta env M fun x M1 => tb env M1 fun y M2 => E.nx ((env.set m (some x)).set m' (some y)) M2 := rfl
theorem dAug_ap {m : Nat} {r : D2} : dAug m ta r E env M = (match env[m]? with | some (some x) => ta env M fun y M1 => r x y M1 fun z M2 => E.nx (env.set m (some z)) M2 | _ => False) := rfl
theorem dNil_ap {R : List D → Mp → Prop} : dNil env M R = R [] M := rfl
theorem dCons_ap {R : List D → Mp → Prop} : dCons ta tr env M R = ta env M fun x M1 => tr env M1 fun xs M2 => R (x :: xs) M2 := rfl
theorem dTup_ap : dTup tr env M Q = tr env M fun ds M1 => ds.length ≤ sizeLine ∧ Q (.tup ds) M1 := rfl
theorem dLst_ap : dLst tr env M Q = tr env M fun ds M1 => ds.length ≤ sizeLine ∧ Q (.lst ds) M1 := rfl
theorem dLstM_ap : dLstM tr env M Q = tr env M fun ds M1 => ds.length ≤ sizeLine ∧ ∀ p, M1 p = none → Q (.ptr p) (up M1 p (.lst ds)) := rfl
theorem dCB_ap {r : DC} : dCB r tr env M Q = tr env M fun ds M1 => r ds M1 Q := rfl
theorem dBM_ap {T : String} {r : DM} : dBM T r ta tr env M Q = ta env M fun x M1 => tyD T x M1 ∧ tr env M1 fun xs M2 => r x xs M2 Q := rfl
theorem dBM0_ap {T : String} {r : DM} : dBM0 T r ta env M Q = ta env M fun x M1 => tyD T x M1 ∧ r x [] M1 Q := rfl
theorem dCall_ap {sp : DSp} : dCall sp tr env M Q = tr env M fun ds M1 => sp ds M1 Q noX := rfl
theorem dCallK_ap {sp : DSp} {gD : List D → List D → List D} {tk : DTA} : dCallK sp gD tr tk env M Q = tr env M fun ds M1 => tk env M1 fun es M2 => sp (gD ds es) M2 Q noX := rfl
theorem dRev_s : dRev ta env M Q = ta env M fun x M1 => (match x with | .str z => z.length ≤ sizeLine ∧ Q (.str (srev z)) M1 | x => (match lstOf M1 x with | some ds => Q (.lst ds.reverse) M1 | none => False)) := rfl
theorem dSl_ap {tl th : DTO} : dSl ta tl th env M Q = ta env M fun x M1 => tl env M1 fun l M2 => th env M2 fun u M3 => rSlD x l u M3 Q := rfl
theorem dPart_ap {R : Option Int → Mp → Prop} : dPart ta env M R = ta env M fun x M' => (match x with | .int i => R (some i) M' | _ => False) := rfl
theorem dUn_ap {r : D → Mp → DQ → Prop} : dUn r ta env M Q = ta env M fun x M' => r x M' Q := rfl
theorem dChain_ap {r r' : D2} : dChain r r' ta tb tc env M Q = ta env M fun x M1 => tb env M1 fun y M2 => r x y M2 fun z M3 => (match z with | .bl k => if k = true then tc env M3 fun w M4 => r' y w M4 Q else Q (.bl false) M3 | _ => False) := rfl
theorem dIsi_ap {T : String} : dIsi T ta env M Q = ta env M fun x M1 => (match tyN M1 x with | some n => Q (.bl (isT n T)) M1 | none => False) := rfl
theorem dIsi2_ap {T U : String} : dIsi2 T U ta env M Q = ta env M fun x M1 => (match tyN M1 x with | some n => Q (.bl (isT n T || isT n U)) M1 | none => False) := rfl
theorem dIter_ap {R : List D → (Mp → Prop) → Mp → Prop} : dIter ta env M R = ta env M fun x M1 => (match x with
  | .lst ds => (R ds (fun _ => True) M1)
  | .lsx ds => (R ds (fun _ => True) M1)
  | .ptr a => (match M1 a with
    | some (.lst ds) => (R ds (fun M => M a = some (.lst ds)) M1)
    | _ => False)
  | _ => False) := rfl
theorem dIterT_ap {R : List D → (Mp → Prop) → Mp → Prop} : dIterT ta env M R = ta env M fun x M1 => (match x with
  | .tup ds => (R ds (fun _ => True) M1)
  | _ => False) := rfl
theorem dIterS_ap {R : List D → (Mp → Prop) → Mp → Prop} : dIterS ta env M R = ta env M fun x M1 => (match x with
  | .str z => (R (sgs z) (fun _ => True) M1)
  | _ => False) := rfl
theorem dRng1_ap {R : List D → (Mp → Prop) → Mp → Prop} : dRng1 tr env M R = tr env M fun ds M1 => (match ds with
  | [.int j] => ((-(2 ^ 62) ≤ j ∧ j < 2 ^ 62) ∧ R (rng 0 j.toNat) (fun _ => True) M1)
  | _ => False) := rfl
theorem dRng2_ap {R : List D → (Mp → Prop) → Mp → Prop} : dRng2 tr env M R = tr env M fun ds M1 => (match ds with
  | [.int i, .int j] => ((-(2 ^ 62) ≤ i ∧ i < 2 ^ 62 ∧ -(2 ^ 62) ≤ j ∧ j < 2 ^ 62) ∧ R (rng i (j - i).toNat) (fun _ => True) M1)
  | _ => False) := rfl
/-! operations at data of known kinds -/
theorem rAdd_ii : rAdd (.int i) (.int j) M Q = Q (.int (i + j)) M := rfl
theorem rAdd_ss : rAdd (.str x) (.str y) M Q = (x.length + y.length ≤ sizeLine ∧ Q (.str (x ++ y)) M) := rfl
theorem rAdd_tt : rAdd (.tup xs) (.tup ys) M Q = ((xs ≠ [] ∧ ys ≠ []) ∧ xs.length + ys.length ≤ sizeLine ∧ Q (.tup (xs ++ ys)) M) := rfl
theorem rAdd_ll : rAdd (.lst xs) (.lst ys) M Q = (xs.length + ys.length ≤ sizeLine ∧ Q (.lst (xs ++ ys)) M) := rfl
theorem rSub_ii : rSubI (.int i) (.int j) M Q = Q (.int (i - j)) M := rfl
theorem rInt2_ii {C : Int → Int → Prop} {f : Int → Int → Int} : rInt2 C f (.int i) (.int j) M Q = (C i j ∧ Q (.int (f i j)) M) := rfl
theorem rNeg_i : rNeg (.int i) M Q = Q (.int (-i)) M := rfl
theorem rOrd_ii {fi : Int → Int → Bool} {fs : Str → Str → Bool} {ft : List Int → List Int → Bool} : rOrd fi fs ft (.int i) (.int j) M Q = Q (.bl (fi i j)) M := rfl
theorem rOrd_ss {fi : Int → Int → Bool} {fs : Str → Str → Bool} {ft : List Int → List Int → Bool} : rOrd fi fs ft (.str x) (.str y) M Q = Q (.bl (fs x y)) M := rfl
theorem rIadd_ii : rIadd (.int i) (.int j) M Q = Q (.int (i + j)) M := rfl
theorem rIadd_ss : rIadd (.str x) (.str y) M Q = (x.length + y.length ≤ sizeLine ∧ Q (.str (x ++ y)) M) := rfl
theorem rEqW_ii {b : Bool} : rEqW b (.int i) (.int j) M Q = Q (.bl (b ^^ (i == j))) M := if_pos rfl
theorem rEqW_ss {b : Bool} : rEqW b (.str x) (.str y) M Q = Q (.bl (b ^^ (x == y))) M := if_pos rfl
theorem rEqW_bb {b : Bool} : rEqW b (.bl k) (.bl l) M Q = Q (.bl (b ^^ (k == l))) M := if_pos rfl
theorem rIn_ss {b : Bool} : rInD b (.str x) (.str y) M Q = Q (.bl (b ^^ strIn x y)) M := rfl
theorem rIxD_l : rIxD (.lst xs) (.int i) M Q = ∃ d, atI xs i = some d ∧ Q d M := rfl
theorem rIxD_x : rIxD (.lsx xs) (.int i) M Q = ∃ d, atI xs i = some d ∧ Q d M := rfl
theorem rIxD_t : rIxD (.tup xs) (.int i) M Q = ∃ d, atI xs i = some d ∧ Q d M := rfl
theorem rIxD_s : rIxD (.str x) (.int i) M Q = (x.length ≤ sizeLine ∧ ∃ c, atI x.cps.toList i = some c ∧ Q (.str ⟨#[c]⟩) M) := rfl
theorem rIxD_p {a : Addr} : rIxD (.ptr a) (.int i) M Q = (match lstOf M (.ptr a) with | some ds => ∃ d, atI ds i = some d ∧ Q d M | none => False) := rfl
theorem lstOf_p {a : Addr} : lstOf M (.ptr a) = (match M a with | some (.lst ds) => some ds | _ => none) := rfl
theorem lstOf_l : lstOf M (.lst xs) = some xs := rfl
theorem lstOf_x : lstOf M (.lsx xs) = some xs := rfl
theorem rSlD_s {lo hi : Option Int} : rSlD (.str x) lo hi M Q = (x.length ≤ sizeLine ∧ Q (.str (cutS x lo hi)) M) := rfl
theorem rSlD_t {lo hi : Option Int} : rSlD (.tup xs) lo hi M Q = (¬ (HT.sIx xs.length 0 lo = 0 ∧ HT.sIx xs.length xs.length hi = xs.length) ∧ Q (.tup (cutD xs lo hi)) M) := rfl
theorem rSlD_l {lo hi : Option Int} : rSlD (.lst xs) lo hi M Q = Q (.lst (cutD xs lo hi)) M := rfl
theorem rSlD_x {lo hi : Option Int} : rSlD (.lsx xs) lo hi M Q = Q (.lst (cutD xs lo hi)) M := rfl
theorem rLen_s : rLen [.str x] M Q = (x.length ≤ sizeLine ∧ Q (.int x.length) M) := rfl
theorem rLen_t : rLen [.tup xs] M Q = Q (.int xs.length) M := rfl
theorem rLen_l : rLen [.lst xs] M Q = Q (.int xs.length) M := rfl
theorem rLen_x : rLen [.lsx xs] M Q = Q (.int xs.length) M := rfl
theorem rLen_p {a : Addr} : rLen [.ptr a] M Q = (match lstOf M (.ptr a) with | some xs => Q (.int xs.length) M | none => False) := rfl
theorem rAbs_i : rAbs [.int i] M Q = Q (.int (if i < 0 then -i else i)) M := rfl
theorem rInt_i : rInt [.int i] M Q = Q (.int i) M := rfl
theorem rInt_b : rInt [.bl k] M Q = Q (.int (if k then 1 else 0)) M := rfl
theorem rToListA_t : rToListA [.tup xs] M Q = Q (.lst xs) M := rfl
theorem rToListA_l : rToListA [.lst xs] M Q = Q (.lst xs) M := rfl
theorem rToListA_s : rToListA [.str x] M Q = (x.length ≤ sizeLine ∧ Q (.lst (sgs x)) M) := rfl
theorem rToListM_t : rToListM [.tup xs] M Q = ∀ p, M p = none → Q (.ptr p) (up M p (.lst xs)) := rfl
theorem rToListM_l : rToListM [.lst xs] M Q = ∀ p, M p = none → Q (.ptr p) (up M p (.lst xs)) := rfl
theorem rToTup_t : rToTup [.tup xs] M Q = Q (.tup xs) M := rfl
theorem rToTup_l : rToTup [.lst xs] M Q = Q (.tup xs) M := rfl
theorem rToTup_p {a : Addr} : rToTup [.ptr a] M Q = (match lstOf M (.ptr a) with | some xs => Q (.tup xs) M | none => False) := rfl
theorem rSum_ap : rSum [d] M Q = ∃ ns : List Int, lstOf M d = some (ns.map D.int) ∧ Q (.int ns.sum) M := rfl
theorem rAll_ap : rAll [d] M Q = ∃ ns : List Bool, lstOf M d = some (ns.map D.bl) ∧ Q (.bl (ns.all id)) M := rfl
theorem rAny_ap : rAny [d] M Q = ∃ ns : List Bool, lstOf M d = some (ns.map D.bl) ∧ Q (.bl (ns.any id)) M := rfl
theorem rStrN_i : rStrN [.int n] M Q = (n.natAbs.log2 < 1920 ∧ Q (.str (toString n)) M) := rfl
theorem rMax2_ii : rMax2 [.int i, .int j] M Q = Q (.int (if j > i then j else i)) M := rfl
theorem rMin2_ii : rMin2 [.int i, .int j] M Q = Q (.int (if j < i then j else i)) M := rfl
theorem rS0_ap {C : Str → Prop} {f : Str → D} : rS0 C f (.str x) [] M Q = (C x ∧ Q (f x) M) := rfl
theorem rS1_ap {C : Str → Str → Prop} {f : Str → Str → D} : rS1 C f (.str x) [.str y] M Q = (C x y ∧ Q (f x y) M) := rfl
theorem tyD_s {T : String} : tyD T (.str x) M = (T = "str") := rfl
theorem tyD_p {T : String} {a : Addr} : tyD T (.ptr a) M = (T = "list" ∧ ∃ ds, lstOf M (.ptr a) = some ds) := rfl
theorem tyD_l {T : String} : tyD T (.lst xs) M = (T = "list" ∧ ∃ ds, lstOf M (.lst xs) = some ds) := rfl
theorem rJoin_l : rJoin (.str x) [.lst xs] M Q = ∃ ys : List Str, lstOf M (.lst xs) = some (ys.map D.str) ∧ (ys.map (·.length)).sum + ys.length * x.length ≤ 16777216 ∧ Q (.str (Txt.join x ys)) M := rfl
theorem rJoin_p {a : Addr} : rJoin (.str x) [.ptr a] M Q = ∃ ys : List Str, lstOf M (.ptr a) = some (ys.map D.str) ∧ (ys.map (·.length)).sum + ys.length * x.length ≤ 16777216 ∧ Q (.str (Txt.join x ys)) M := rfl
theorem rAppend_p {a : Addr} : rAppend (.ptr a) [d] M Q = (match M a with | some (.lst ds) => ds.length < sizeLine ∧ Q .non (up M a (.lst (ds ++ [d]))) | _ => False) := rfl
theorem rPop_p {a : Addr} : rPop (.ptr a) [] M Q = (match M a with | some (.lst ds) => ∃ y, ds[ds.length - 1]? = some y ∧ Q y (up M a (.lst ds.dropLast)) | _ => False) := rfl
/-! ### loops by typed data -/
/-- for, by a state that each item moves on -/
theorem for_fold {α β : Type} {ti : DTI} {kp : Mp → Prop} {M1 : Mp} (xs : List α) (enc : α → D) (s0 : β) (step : β → α → β) (inv : β → DSt → Mp → Prop)
    (hi : ∀ R, R (xs.map enc) kp M1 → ti env M R) (h0 : inv s0 env M1) (hk : ∀ s env M, inv s env M → kp M)
    (hs : ∀ s x env M, x ∈ xs → inv s env M → g (enc x) env M fun env' M' => t { E with nx := inv (step s x), ct := inv (step s x), bk := E.nx } env' M')
    (hd : ∀ env M, inv (xs.foldl step s0) env M → E.nx env M) : dFor ti g t E env M := by
  refine hi _ ⟨fun i env M => inv ((xs.take i).foldl step s0) env M, h0, fun i env M => hk _ env M, fun i d env M hx p => ?_, fun env M p => ?_⟩
  · rw [List.getElem?_map] at hx
    cases q : xs[i]? with
    | none => rw [q] at hx; cases hx
    | some x =>
      rw [q] at hx
      cases hx
      have e : (xs.take (i + 1)).foldl step s0 = step ((xs.take i).foldl step s0) x := by rw [List.take_add_one, q]; simp
      dsimp only
      rw [e]
      exact hs _ x env M (List.mem_of_getElem? q) p
  · rw [List.length_map, List.take_length] at p
    exact hd env M p
/-- .. by the part that is done -/
theorem for_pre {α : Type} {ti : DTI} {kp : Mp → Prop} {M1 : Mp} (xs : List α) (enc : α → D) (inv : List α → DSt → Mp → Prop)
    (hi : ∀ R, R (xs.map enc) kp M1 → ti env M R) (h0 : inv [] env M1) (hk : ∀ s env M, inv s env M → kp M)
    (hs : ∀ pre x post env M, xs = pre ++ x :: post → inv pre env M → g (enc x) env M fun env' M' => t { E with nx := inv (pre ++ [x]), ct := inv (pre ++ [x]), bk := E.nx } env' M')
    (hd : ∀ env M, inv xs env M → E.nx env M) : dFor ti g t E env M := by
  refine hi _ ⟨fun i env M => inv (xs.take i) env M, by simpa using h0, fun i env M => hk _ env M, fun i d env M hx p => ?_, fun env M p => ?_⟩
  · rw [List.getElem?_map] at hx
    cases q : xs[i]? with
    | none => rw [q] at hx; cases hx
    | some x =>
      rw [q] at hx
      cases hx
      have hi : i < xs.length := (List.getElem?_eq_some_iff.mp q).1
      have e : xs.take (i + 1) = xs.take i ++ [x] := by rw [List.take_add_one, q]; rfl
      dsimp only
      rw [e]
      refine hs _ x (xs.drop (i + 1)) env M ?_ p
      have e2 : xs.drop i = x :: xs.drop (i + 1) := by
        rw [List.drop_eq_getElem_cons hi]
        congr 1
        exact Option.some.inj ((List.getElem?_eq_getElem hi).symm.trans q)
      rw [← e2, List.take_append_drop]
  · rw [List.length_map, List.take_length] at p
    exact hd env M p
/-- a comprehension whose turns leave M as it is -/
theorem lc_fm {α : Type} {ti : DTI} {dg : DTG} {te : DTE} {vs : List Nat} {kp : Mp → Prop} {M1 : Mp} (xs : List α) (enc f : α → D) (p : α → Bool) (hi : ∀ R, R (xs.map enc) kp M1 → ti env M R) (hk : kp M1) (hz : xs.length ≤ sizeLine)
    (h : ∀ x, x ∈ xs → ∀ (R : DQ) (S : Mp → Prop), (p x = true → R (f x) M1) → (p x = false → S M1) → dg (enc x) (wipeD env vs) M1 fun env2 M2 => tt env2 M2 fun b M3 => if b = true then te env2 M3 R else S M3)
    (q : Q (.lst ((xs.filter p).map f)) M1) : dLc ti dg tt te vs env M Q := by
  refine hi _ ⟨fun i acc M' => M' = M1 ∧ acc = ((xs.take i).filter p).map f ∧ i ≤ xs.length, ⟨rfl, by simp, Nat.zero_le _⟩, fun _ _ _ z => by rw [z.1]; exact hk, fun i d acc M' hd ⟨e1, e2, e3⟩ => ?_, fun acc M' ⟨e1, e2, e3⟩ => ?_⟩
  · subst e1 e2
    rw [List.getElem?_map] at hd
    cases q : xs[i]? with
    | none => rw [q] at hd; cases hd
    | some x =>
      rw [q] at hd
      cases hd
      have hi : i < xs.length := (List.getElem?_eq_some_iff.mp q).1
      have e : xs.take (i + 1) = xs.take i ++ [x] := by rw [List.take_add_one, q]; rfl
      refine h x (List.mem_of_getElem? q) _ _ (fun hp => ⟨?_, rfl, ?_, hi⟩) fun hp => ⟨rfl, ?_, hi⟩
      · have := List.length_filter_le p (xs.take i)
        rw [List.length_take] at this
        rw [List.length_map]
        omega
      · rw [e, List.filter_append, List.map_append]; simp [hp]
      · rw [e, List.filter_append]; simp [hp]
  · rw [List.length_map, List.take_length] at e2
    rw [e1, e2]
    exact q
theorem lc_m {α : Type} {ti : DTI} {dg : DTG} {te : DTE} {vs : List Nat} {kp : Mp → Prop} {M1 : Mp} (xs : List α) (enc f : α → D) (hi : ∀ R, R (xs.map enc) kp M1 → ti env M R) (hk : kp M1) (hz : xs.length ≤ sizeLine)
    (h : ∀ x, x ∈ xs → ∀ R : DQ, R (f x) M1 → dg (enc x) (wipeD env vs) M1 fun env2 M2 => te env2 M2 R)
    (q : Q (.lst (xs.map f)) M1) : dLc ti dg dYes te vs env M Q :=
  lc_fm xs enc f (fun _ => true) hi hk hz (fun x hx R S h1 _ => h x hx R (h1 rfl)) (by rw [List.filter_eq_self.mpr (fun _ _ => rfl)]; exact q)
/-- .. whose turns may change M -/
theorem lc_pre {α : Type} {ti : DTI} {dg : DTG} {te : DTE} {vs : List Nat} {kp : Mp → Prop} {M1 : Mp} (xs : List α) (enc : α → D) (inv : List α → List D → Mp → Prop) (hi : ∀ R, R (xs.map enc) kp M1 → ti env M R) (h0 : inv [] [] M1) (hk : ∀ s acc M, inv s acc M → kp M) (hz : ∀ s acc M, inv s acc M → acc.length < sizeLine)
    (h : ∀ pre x post acc M, xs = pre ++ x :: post → inv pre acc M → dg (enc x) (wipeD env vs) M fun env2 M2 => tt env2 M2 fun b M3 => if b = true then te env2 M3 fun y M4 => inv (pre ++ [x]) (acc ++ [y]) M4 else inv (pre ++ [x]) acc M3)
    (mono : ∀ d env M (R R' : DSt → Mp → Prop), (∀ e m, R e m → R' e m) → dg d env M R → dg d env M R') (monoT : ∀ env M (R R' : Bool → Mp → Prop), (∀ e m, R e m → R' e m) → tt env M R → tt env M R') (monoE : ∀ env M (R R' : DQ), (∀ e m, R e m → R' e m) → te env M R → te env M R')
    (hd : ∀ acc M, inv xs acc M → Q (.lst acc) M) : dLc ti dg tt te vs env M Q := by
  refine hi _ ⟨fun i acc M => inv (xs.take i) acc M, by simpa using h0, fun i acc M => hk _ _ M, fun i d acc M hx p => ?_, fun acc M p => ?_⟩
  · rw [List.getElem?_map] at hx
    cases q : xs[i]? with
    | none => rw [q] at hx; cases hx
    | some x =>
      rw [q] at hx
      cases hx
      have hi : i < xs.length := (List.getElem?_eq_some_iff.mp q).1
      have e : xs.take (i + 1) = xs.take i ++ [x] := by rw [List.take_add_one, q]; rfl
      have e2 : xs.drop i = x :: xs.drop (i + 1) := by
        rw [List.drop_eq_getElem_cons hi]
        congr 1
        exact Option.some.inj ((List.getElem?_eq_getElem hi).symm.trans q)
      dsimp only
      rw [e]
      refine mono _ _ _ _ _ (fun env2 M2 h2 => monoT _ _ _ _ (fun b M3 h3 => ?_) h2) (h _ x (xs.drop (i + 1)) acc M (by rw [← e2, List.take_append_drop]) p)
      cases b with
      | true => exact monoE _ _ _ _ (fun y M4 h4 => ⟨hz _ _ _ p, h4⟩) h3
      | false => exact h3
  · rw [List.length_map, List.take_length] at p
    exact hd acc M p
end
end DL
namespace DL
open PySem PySem.Spec PyProof.Rows L2
/-! ### instances -/
def insOf (M : Mp) : D → Option (Addr × List (Str × D))
  | .ptr a => match M a with | some (.ins C fs) => some (C, fs) | _ => none
  | .obj C fs => some (C, fs)
  | _ => none
section
variable {K : PySem.W.Frag}
theorem insOf_ok {F H : Hp} {M : Mp} {d : D} {v : V} {C : Addr} {fs : List (Str × D)} (c : Core K F H M) (r : Rep K F d v) (h : insOf M d = some (C, fs)) : ∃ a dx vs, v = .ref a ∧ H a = some (.ins C dx vs) ∧ RepF K F fs vs := by
  cases d with
  | ptr a =>
    rw [Rep] at r
    simp only [insOf] at h
    split at h
    · rename_i g
      cases h
      obtain ⟨_, o, ho, dx, vs, e1, e2⟩ := c.mem a _ g
      subst e1
      exact ⟨a, dx, vs, r, ho, e2⟩
    · cases h
  | obj C' gs =>
    simp only [insOf] at h
    cases h
    rw [Rep] at r
    obtain ⟨a, dx, vs, e1, e2, e3⟩ := r
    exact ⟨a, dx, vs, e1, c.same _ _ e2, e3⟩
  | _ => simp [insOf] at h
/-- a class of the text -/
structure Kls (K : PySem.W.Frag) (C : Addr) (fields : List Str) : Prop where
  cls : Cls K C
  no : ∀ f ∈ fields, NoAttr K C f
structure CalM (P : Program) (w : World) (K : PySem.W.Frag) (mg : Str → Option Value) (base : Heap) (k : Nat) (C : Addr) (m : Str) (ps : List Str) (sp : DSp) (f : Addr) (fd : FuncData) : Prop where
  fn : FnOk P w K mg base CX0 k f fd ps (lSp K sp)
  cls : Cls K C
  me : Meth K C m f
  b : Binds K fd ps []
structure CalI (P : Program) (w : World) (K : PySem.W.Frag) (mg : Str → Option Value) (base : Heap) (k : Nat) (x : Str) (C : Addr) (ps : List Str) (sp : DSp) (f : Addr) (fd : FuncData) : Prop where
  fn : FnOk P w K mg base CX0 k f fd ps (lSp K sp)
  mk1 : Mk K C f
  g : mg x = some (.ref C)
  b : Binds K fd ps []
end
section
variable {X : Cx} {K : PySem.W.Frag} {a b c e o : Expr} {es : List Expr} {ta tb tv : DTE} {pos p pos' apos : Pos} {tt : DTT} {tr tk : DTA} {k : Nat} {f C : Addr} {fd : FuncData} {ps ks : List Str} {sp : DSp} {x m n : Str} {fl : List Str}
def dFld (C : Addr) (n : Str) (ta : DTE) : DTE := fun env M Q => ta env M fun x M1 => match insOf M1 x with
  | some (C', fs) => C' = C ∧ ∃ d, fs.lookup n = some d ∧ Q d M1
  | none => False
theorem de_fld (T : Kls X.K C fl) (he : DE X e ta) (hn : n ∈ fl := by decide +kernel) (hb : attributeBase e n X.env (eval e X.env) = eval e X.env := by rfl) : DE X (.Attribute e n pos) (dFld C n ta) :=
  PE.imp (pe_fld he hb) fun σ H Q ⟨F, env, M, Q0, he, hc, ht, hp⟩ => ⟨F, env, M, _, he, hc, ht, fun d M1 F1 H1 v q s1 f1 c1 r1 => by
    revert q
    dsimp only
    split <;> intro q
    · rename_i C' fs g
      obtain ⟨q0, d', q1, q2⟩ := q
      subst q0
      obtain ⟨a, dx, vs, e1, e2, e3⟩ := insOf_ok c1 r1 g
      obtain ⟨u, h1, h2⟩ := e3.look q1
      exact ⟨a, C', dx, vs, u, e1, e2, T.cls, T.no n hn, h1, (hp.after s1 f1).val c1 q2 h2⟩
    · exact q.elim⟩
def dSetF (C : Addr) (n : Str) (ta tv : DTE) : DTS := fun E env M => tv env M fun d M1 => ta env M1 fun x M2 => match x with
  | .ptr a => (match M2 a with
    | some (.ins C' fs) => C' = C ∧ fs.length < 1000 ∧ E.nx env (up M2 a (.ins C (putD n d fs)))
    | _ => False)
  | _ => False
theorem ptr_ins {F H : Hp} {M : Mp} {x C : Addr} {ds : List (Str × D)} (c : Core K F H M) (h : M x = some (.ins C ds)) : ∃ dx vs, H x = some (.ins C dx vs) ∧ RepF K F ds vs := by
  obtain ⟨_, o, ho, dx, vs, e1, e2⟩ := c.mem x _ h
  subst e1
  exact ⟨dx, vs, ho, e2⟩
theorem ds_setF (T : Kls X.K C fl) (ho : DE X o ta) (hv : DE X e tv) (hn : n ∈ fl := by decide +kernel) (hs : swapsWith e (some (.Attribute o n pos')) pos.line X.env = pure false := by rfl) : DS X (.Assign [.Attribute o n pos'] e pos) (dSetF C n ta tv) :=
  PS.imp (ps_fld ho hv hs) fun E σ H ⟨F, env, M, D0, he, hc, ht, hp⟩ => ⟨F, env, M, _, he, hc, ht, fun d M1 F1 H1 v q s1 f1 c1 r1 => ⟨F1, env, M1, _, he.mono s1, c1, q, fun d2 M2 F2 H2 v2 q2 s2 f2 c2 r2 => by
    revert q2
    dsimp only
    split <;> intro q2
    · rename_i a
      split at q2
      · rename_i C' fs g
        obtain ⟨q0, q1, q3⟩ := q2
        subst q0
        rw [Rep] at r2
        obtain ⟨dx, vs, e1, e2⟩ := ptr_ins c2 g
        obtain ⟨c3, f3⟩ := c2.write (o := .ins C' dx (putF n v vs)) (mo := .ins C' (putD n d fs)) g ⟨dx, _, rfl, RepF.put (r1.mono s2) e2⟩
        exact ⟨a, C', dx, vs, r2, e1, T.cls, T.no n hn, by rw [e2.len]; exact q1, hp.nx _ _ _ _ _ q3 (s1.trans s2) ((f1.trans f2).trans f3) c3 ((he.mono s1).mono s2)⟩
      · exact q2.elim
    · exact q2.elim⟩⟩
def dAugF (C : Addr) (n : Str) (ta tv : DTE) (rd : D2) : DTS := fun E env M => ta env M fun x M1 => match x with
  | .ptr a => (match M1 a with
    | some (.ins C' fs) => C' = C ∧ ∃ d, fs.lookup n = some d ∧ tv env M1 fun y M2 => rd d y M2 fun z M3 => (match M3 a with
      | some (.ins C2 fs2) => C2 = C ∧ fs2.length < 1000 ∧ E.nx env (up M3 a (.ins C (putD n z fs2)))
      | _ => False)
    | _ => False)
  | _ => False
theorem ds_augF {op : Operator} {r : R2} {rd : D2} (T : Kls X.K C fl) (ho : DE X o ta) (hv : DE X e tv) (hop : OpR X (inplaceOp op) r) (l : LR2 X.K r rd) (hn : n ∈ fl := by decide +kernel) : DS X (.AugAssign (.Attribute o n pos') op e pos) (dAugF C n ta tv rd) :=
  PS.imp (ps_fldaug (rd := r) ho hv hop) fun E σ H ⟨F, env, M, D0, he, hc, ht, hp⟩ => ⟨F, env, M, _, he, hc, ht, fun d M1 F1 H1 v q s1 f1 c1 r1 => by
    revert q
    dsimp only
    split <;> intro q
    · rename_i a
      split at q
      · rename_i C' fs g
        obtain ⟨q0, d0, q1, q2⟩ := q
        subst q0
        rw [Rep] at r1
        obtain ⟨dx, vs, e1, e2⟩ := ptr_ins c1 g
        obtain ⟨u, h1, h2⟩ := e2.look q1
        refine ⟨a, C', dx, vs, u, r1, e1, T.cls, T.no n hn, h1, F1, env, M1, _, he.mono s1, c1, q2, fun y M2 F2 H2 v2 q3 s2 f2 c2 r2 => l c2 (h2.mono s2) r2 q3 fun z M3 F3 H3 v3 q4 s3 f3 c3 r3 => ?_⟩
        revert q4
        split <;> intro q4
        · rename_i C2 fs2 g2
          obtain ⟨p0, p1, p2⟩ := q4
          subst p0
          obtain ⟨dx2, vs2, k1, k2⟩ := ptr_ins c3 g2
          obtain ⟨c4, f4⟩ := c3.write (o := .ins C2 dx2 (putF n v3 vs2)) (mo := .ins C2 (putD n z fs2)) g2 ⟨dx2, _, rfl, RepF.put r3 k2⟩
          exact ⟨dx2, vs2, k1, by rw [k2.len]; exact p1, hp.nx _ _ _ _ _ p2 ((s1.trans s2).trans s3) (((f1.trans f2).trans f3).trans f4) c4 (((he.mono s1).mono s2).mono s3)⟩
        · exact q4.elim
      · exact q.elim
    · exact q.elim⟩
/-- o.m(..) -/
def dMeth (C : Addr) (m : Str) (sp : DSp) (ta : DTE) (tr : DTA) : DTE := fun env M Q => ta env M fun x M1 => match insOf M1 x with
  | some (C', fs) => C' = C ∧ fs.lookup m = none ∧ tr env M1 fun ds M2 => sp (x :: ds) M2 Q noX
  | none => False
theorem l_meth : ∀ σ H Q, lE K (dMeth C m sp ta tr) σ H Q → tMeth C m (lSp K sp) [] E0 (lE K ta) (lA K tr) σ H Q := fun σ H Q ⟨F, env, M, Q0, he, hc, ht, hp⟩ =>
  ⟨F, env, M, _, he, hc, ht, fun d M1 F1 H1 v q s1 f1 c1 r1 => by
    revert q
    dsimp only
    split <;> intro q
    · rename_i C' fs g
      obtain ⟨q0, q1, q2⟩ := q
      subst q0
      obtain ⟨a, dx, vs, e1, e2, e3⟩ := insOf_ok c1 r1 g
      refine ⟨a, dx, vs, e1, e2, e3.look0 q1, F1, env, M1, _, he.mono s1, c1, q2, fun ds M2 F2 H2 ws q3 s2 f2 c2 r2 => ?_⟩
      show lSp K sp (v :: (ws ++ [])) H2 Q E0
      rw [List.append_nil]
      exact ⟨F2, M2, d :: ds, Q0, noX, c2, Reps.cons (r1.mono s2) r2, q3, (hp.after s1 f1).after s2 f2, postX0⟩
    · exact q.elim⟩
theorem de_meth {pl : Sem Bool} (G : CalM X.prog X.w X.K X.mg X.base k C m ps sp f fd) (hr : Room k X.A) (ho : DE X o ta) (ha : DA X (e :: es) tr)
    (hst : starEach (e :: es) X.env = (false, eval e X.env) :: starEach es X.env := by rfl) (hpl : (backTo pos (starEach es X.env)).any (·.1) = false := by rfl)
    (ht : eval (.Call (.Attribute o m apos) (e :: es) [] pos) X.env = (do
      let ov ← eval o X.env
      standAt apos.atName
      let (f, first) ← holding [ov] (getMethod ov m pl)
      callWith pos f first (backTo pos (starEach (e :: es) X.env)) (backToKw pos (keywordEach [] X.env))) := by rfl) : DE X (.Call (.Attribute o m apos) (e :: es) [] pos) (dMeth C m sp ta tr) :=
  PE.imp (pe_meth ho G.cls G.me G.fn hr G.b .nil pass0 ha hst hpl ht) l_meth
theorem de_meth0 {pl : Sem Bool} (G : CalM X.prog X.w X.K X.mg X.base k C m ps sp f fd) (hr : Room k X.A) (ho : DE X o ta)
    (ht : eval (.Call (.Attribute o m apos) [] [] pos) X.env = (do
      let ov ← eval o X.env
      standAt apos.atName
      let (f, first) ← holding [ov] (getMethod ov m pl)
      callWith pos f first (backTo pos (starEach [] X.env)) (backToKw pos (keywordEach [] X.env))) := by rfl) : DE X (.Call (.Attribute o m apos) [] [] pos) (dMeth C m sp ta dNil) :=
  PE.imp (pe_meth0 ho G.cls G.me G.fn hr G.b .nil pass0 ht) fun σ H Q h => by
    obtain ⟨F, env, M, Q1, he, hc, ht, hp⟩ := l_meth σ H Q h
    refine ⟨F, env, M, Q1, he, hc, ht, fun d M' F' H' v q s f c r => ?_⟩
    obtain ⟨a, dx, fs, e1, e2, e3, F2, env2, M2, Q2, g1, g2, g3, g4⟩ := hp d M' F' H' v q s f c r
    exact ⟨a, dx, fs, e1, e2, e3, g4 [] M2 F2 H' [] g3 (Same.refl _) Fr.refl g2 Reps.nil⟩
/-- C(..) -/
def dMake (C : Addr) (sp : DSp) (tr : DTA) : DTE := fun env M Q => tr env M fun ds M1 => ∀ x, M1 x = none → sp (.ptr x :: ds) (up M1 x (.ins C [])) (fun v M2 => v = .non ∧ Q (.ptr x) M2) noX
theorem l_make : ∀ σ H Q, lE K (dMake C sp tr) σ H Q → tMake C (lSp K sp) [] E0 (lA K tr) σ H Q := fun σ H Q ⟨F, env, M, Q0, he, hc, ht, hp⟩ =>
  ⟨F, env, M, _, he, hc, ht, fun ds M1 F1 H1 vs q s1 f1 c1 r1 x dx hx hdx ne => by
    rw [List.append_nil]
    obtain ⟨n1, n2⟩ := c1.nones hx
    obtain ⟨d1, d2⟩ := c1.nones hdx
    -- the instance's own dict: outside of what is known
    have c2 : Core K F1 (upd H1 dx (.own x)) M1 := ⟨fun b u e => by rw [upd_ne (ne_of_none (c1.same b u e) hdx)]; exact c1.same b u e, fun a mo e => by
      obtain ⟨x1, o, x2, x3⟩ := c1.mem a mo e
      exact ⟨x1, o, by rw [upd_ne (ne_of_none x2 hdx)]; exact x2, x3⟩⟩
    have f2 : Fr F1 H1 M1 F1 (upd H1 dx (.own x)) M1 := fun a o e n => ⟨by rw [upd_ne (ne_of_none e hdx)]; exact e, n, fun z => z⟩
    have hx2 : upd H1 dx (.own x) x = none := by rw [upd_ne (Ne.symm ne)]; exact hx
    obtain ⟨c3, f3⟩ := c2.newM (mo := .ins C []) hx2 (o := .ins C dx []) ⟨dx, [], rfl, by rw [RepF]⟩
    have hp3 := (hp.after s1 f1).after (Same.refl _) (f2.trans f3)
    refine ⟨F1, _, .ptr x :: ds, _, noX, c3, Reps.cons (by rw [Rep]) r1, q x n2, fun d M4 F4 H4 v q4 s4 f4 c4 r4 => ?_, postX0⟩
    obtain ⟨e0, q4⟩ := q4
    subst e0
    rw [Rep] at r4
    exact ⟨r4, hp3 _ M4 F4 H4 _ q4 s4 f4 c4 (by rw [Rep])⟩⟩
theorem de_make (G : CalI X.prog X.w X.K X.mg X.base k x C ps sp f fd) (hr : Room (k + 1) X.A) (ha : DA X (e :: es) tr) (hg : Gl X x := by rfl) (hdb : (x == ("__debug__" : Str)) = false := by decide) (he : starEach (e :: es) X.env = (false, eval e X.env) :: starEach es X.env := by rfl)
    (hpl : (backTo pos (starEach es X.env)).any (·.1) = false := by rfl) : DE X (.Call (.Name x p) (e :: es) [] pos) (dMake C sp tr) :=
  PE.imp (pe_make G.mk1 G.fn hr hg G.g G.b .nil pass0 ha hdb he hpl) l_make
/-- e.f, a property -/
def dProp (C : Addr) (sp : DSp) (ta : DTE) : DTE := fun env M Q => ta env M fun x M1 => match insOf M1 x with
  | some (C', fs) => C' = C ∧ sp [x] M1 Q noX
  | none => False
structure CalP (P : Program) (w : World) (K : PySem.W.Frag) (mg : Str → Option Value) (base : Heap) (k : Nat) (C : Addr) (n : Str) (sp : DSp) (pr f : Addr) (fd : FuncData) : Prop where
  fn : FnOk P w K mg base CX0 k f fd ["self"] (lSp K sp)
  cls : Cls K C
  pr : PropOf K C n pr f
  b : Binds K fd ["self"] []
theorem de_prop {pr : Addr} (G : CalP X.prog X.w X.K X.mg X.base k C n sp pr f fd) (hr : Room (k + 1) X.A) (he : DE X e ta) (hab : attributeBase e n X.env (eval e X.env) = eval e X.env := by rfl) : DE X (.Attribute e n pos) (dProp C sp ta) :=
  PE.imp (pe_prop he G.cls G.pr G.fn hr G.b .nil pass0 hab) fun σ H Q ⟨F, env, M, Q0, he, hc, ht, hp⟩ => ⟨F, env, M, _, he, hc, ht, fun d M1 F1 H1 v q s1 f1 c1 r1 => by
    revert q
    dsimp only
    split <;> intro q
    · rename_i C' fs g
      obtain ⟨q0, q1⟩ := q
      subst q0
      obtain ⟨a, dx, vs, e1, e2, e3⟩ := insOf_ok c1 r1 g
      subst e1
      exact ⟨a, dx, vs, rfl, e2, F1, M1, [d], Q0, noX, c1, Reps.one r1, q1, hp.after s1 f1, postX0⟩
    · exact q.elim⟩
end
end DL
namespace DL
open PySem PySem.Spec PyProof.Rows L2
/-! ### comprehensions of two clauses -/
def dLc2 (ti : DTI) (g : DTG) (tt : DTT) (ti1 : DTI) (g1 : DTG) (tt1 : DTT) (te : DTE) (vs vs1 : List Nat) : DTE := fun env M Q => ti env M fun ds kp M1 => ∃ Pv : Nat → List D → Mp → Prop, Pv 0 [] M1 ∧ (∀ i acc M, Pv i acc M → kp M) ∧
  (∀ i d acc M, ds[i]? = some d → Pv i acc M → g d (wipeD env vs) M fun env2 M2 => tt env2 M2 fun b M3 => if b = true then
    ti1 env2 M3 fun ds1 kp1 M4 => ∃ Pv1 : Nat → List D → Mp → Prop, Pv1 0 acc M4 ∧ (∀ j acc M, Pv1 j acc M → kp1 M) ∧
      (∀ j d1 acc1 M, ds1[j]? = some d1 → Pv1 j acc1 M → g1 d1 (wipeD env2 vs1) M fun env3 M5 => tt1 env3 M5 fun b M6 => if b = true then te env3 M6 fun y M7 => acc1.length < sizeLine ∧ Pv1 (j + 1) (acc1 ++ [y]) M7 else Pv1 (j + 1) acc1 M6) ∧
      ∀ acc1 M, Pv1 ds1.length acc1 M → Pv (i + 1) acc1 M
    else Pv (i + 1) acc M3) ∧
  ∀ acc M, Pv ds.length acc M → Q (.lst acc) M
/-- the state of a comprehension: its list at L -/
def LcS (K : PySem.W.Frag) (F1 H1 : Hp) (M1 : Mp) (L : Addr) (P : List D → Mp → Prop) (H' : Hp) : Prop :=
  ∃ F' M' acc va, Same F1 F' ∧ Fr F1 H1 M1 F' H' M' ∧ Core K F' H' M' ∧ H' L = some (.lst va) ∧ F' L = none ∧ M' L = none ∧ Reps K F' acc va ∧ P acc M'
section
variable {X : Cx} {K : PySem.W.Frag}
theorem lcs_app {F1 H1 F5 H5 : Hp} {M1 M5 : Mp} {L : Addr} {P : List D → Mp → Prop} {acc : List D} {va : List V} {z : D} {v5 : V} (hL : H1 L = none) (s : Same F1 F5) (f : Fr F1 H1 M1 F5 H5 M5) (c5 : Core K F5 H5 M5) (hv5 : H5 L = some (.lst va)) (hF : F5 L = none) (hM : M5 L = none) (ra : Reps K F5 acc va) (r5 : Rep K F5 z v5)
    (p : P (acc ++ [z]) M5) : LcS K F1 H1 M1 L P (upd H5 L (.lst (va ++ [v5]))) := by
  refine ⟨F5, M5, acc ++ [z], va ++ [v5], s, fun a o e n => ?_, ⟨fun b u e => ?_, fun a mo e => ?_⟩, upd_same, hF, hM, ra.app (Reps.one r5), p⟩
  · obtain ⟨x1, x2, x3⟩ := f a o e n
    exact ⟨by rw [upd_ne (ne_of_none e hL)]; exact x1, x2, x3⟩
  · have hb : b ≠ L := fun z => by rw [z, hF] at e; cases e
    rw [upd_ne hb]; exact c5.same b u e
  · obtain ⟨x1, o, x2, x3⟩ := c5.mem a mo e
    have ha : a ≠ L := fun z => by rw [z, hM] at e; cases e
    exact ⟨x1, o, by rw [upd_ne ha]; exact x2, x3⟩
theorem l_lc2 {ti ti1 : DTI} {g g1 : TG} {dg dg1 : DTG} {tt tt1 : DTT} {te : DTE} {vs vs1 : List Nat} (tl : TgL K g dg vs) (tl1 : TgL K g1 dg1 vs1) : ∀ σ H Q, lE K (dLc2 ti dg tt ti1 dg1 tt1 te vs vs1) σ H Q → tLc2 (lI K ti) g (lT K tt) (lI K ti1) g1 (lT K tt1) (lE K te) vs vs1 σ H Q := fun σ H Q ⟨F, env, M, Q0, he, hc, ht, hp⟩ => by
  refine ⟨F, env, M, _, he, hc, ht, fun ds kp M1 F1 H1 J q s1 f1 c1 Y L hL => ?_⟩
  obtain ⟨Pv, p0, hk, turn, fin⟩ := q
  have n1 := c1.nones hL
  have c1' : Core K F1 (upd H1 L (.lst [])) M1 := ⟨fun b u e => by rw [upd_ne (ne_of_none (c1.same b u e) hL)]; exact c1.same b u e, fun a mo e => by
    obtain ⟨x1, o, x2, x3⟩ := c1.mem a mo e
    exact ⟨x1, o, by rw [upd_ne (ne_of_none x2 hL)]; exact x2, x3⟩⟩
  have fL : Fr F1 H1 M1 F1 (upd H1 L (.lst [])) M1 := fun a o e n => ⟨by rw [upd_ne (ne_of_none e hL)]; exact e, n, fun z => z⟩
  refine ⟨fun i m H' => m = ds.length - i ∧ i ≤ ds.length ∧ LcS K F1 H1 M1 L (Pv i) H', ⟨_, rfl, Nat.zero_le _, F1, M1, [], [], Same.refl _, fL, c1', upd_same, n1.1, n1.2, Reps.nil, p0⟩, ?_⟩
  rintro i m H2 ⟨rfl, hle, F2, M2, acc, va, s2, f2, c2, hv, hF, hM, ra, p2⟩
  have kk := hk _ _ _ p2
  by_cases hlt : i < ds.length
  · refine .inr ⟨Y.go s2 c2 kk hlt, LcS K F1 H1 M1 L (Pv (i + 1)), fun H' z => ⟨_, by omega, rfl, hlt, z⟩, fun x H3 y => ?_⟩
    obtain ⟨d, F3, hd, s3, c3, f3, r3⟩ := Y.yld s2 c2 kk hlt y
    obtain ⟨hv3, _, hF3⟩ := f3 L _ hv hM
    refine tl (((he.mono s1).mono (s2.trans s3)).wipe vs) c3 r3 (turn i d acc M2 hd p2) fun σ' env' hw he' q' => ⟨hw.trans (wipe_idem vs), F3, env', M2, _, he', c3, q', fun b M4 F4 H4 q4 s4 f4 c4 => ?_⟩
    obtain ⟨hv4, hM4, hF4⟩ := f4 L _ hv3 hM
    have hF4' := hF4 (hF3 hF)
    have S4 := s2.trans (s3.trans s4)
    have R4 := f2.trans (f3.trans f4)
    have ra4 := ra.mono (s3.trans s4)
    cases b with
    | false => exact ⟨F4, M4, acc, va, S4, R4, c4, hv4, hF4', hM4, ra4, q4⟩
    | true =>
      rw [if_pos rfl] at q4 ⊢
      refine ⟨F4, env', M4, _, he'.mono s4, c4, q4, fun ds1 kp1 M5 F5 H5 J1 q5 s5 f5 c5 Y1 => ?_⟩
      obtain ⟨Pv1, p10, hk1, turn1, fin1⟩ := q5
      obtain ⟨hv5, hM5, hF5⟩ := f5 L _ hv4 hM4
      refine ⟨fun j k H' => k = ds1.length - j ∧ j ≤ ds1.length ∧ ∃ F' M' acc va, Same F5 F' ∧ Same F1 F' ∧ Fr F1 H1 M1 F' H' M' ∧ Core K F' H' M' ∧ H' L = some (.lst va) ∧ F' L = none ∧ M' L = none ∧ Reps K F' acc va ∧ Pv1 j acc M',
        ⟨_, rfl, Nat.zero_le _, F5, M5, acc, va, Same.refl _, S4.trans s5, R4.trans f5, c5, hv5, hF5 hF4', hM5, ra4.mono s5, p10⟩, ?_⟩
      rintro j k H6 ⟨rfl, hle1, F6, M6, acc1, va1, s6, S6, R6, c6, hv6, hF6, hM6, ra6, p6⟩
      have kk1 := hk1 _ _ _ p6
      by_cases hlt1 : j < ds1.length
      · refine .inr ⟨Y1.go s6 c6 kk1 hlt1, fun H' => ∃ F' M' acc va, Same F5 F' ∧ Same F1 F' ∧ Fr F1 H1 M1 F' H' M' ∧ Core K F' H' M' ∧ H' L = some (.lst va) ∧ F' L = none ∧ M' L = none ∧ Reps K F' acc va ∧ Pv1 (j + 1) acc M', fun H' z => ⟨_, by omega, rfl, hlt1, z⟩, fun x1 H7 y1 => ?_⟩
        obtain ⟨d1, F7, hd1, s7, c7, f7, r7⟩ := Y1.yld s6 c6 kk1 hlt1 y1
        obtain ⟨hv7, _, hF7⟩ := f7 L _ hv6 hM6
        refine tl1 (((he'.mono s4).mono (s5.trans (s6.trans s7))).wipe vs1) c7 r7 (turn1 j d1 acc1 M6 hd1 p6) fun σ3 env3 hw3 he3 q3 => ⟨hw3.trans (wipe_idem vs1), F7, env3, M6, _, he3, c7, q3, fun b1 M8 F8 H8 q8 s8 f8 c8 => ?_⟩
        obtain ⟨hv8, hM8, hF8⟩ := f8 L _ hv7 hM6
        have hF8' := hF8 (hF7 hF6)
        have S8 := S6.trans (s7.trans s8)
        have R8 := R6.trans (f7.trans f8)
        have ra8 := ra6.mono (s7.trans s8)
        cases b1 with
        | false => exact ⟨F8, M8, acc1, va1, s6.trans (s7.trans s8), S8, R8, c8, hv8, hF8', hM8, ra8, q8⟩
        | true =>
          rw [if_pos rfl] at q8 ⊢
          refine ⟨F8, env3, M8, _, he3.mono s8, c8, q8, fun z M9 F9 H9 v9 q9 s9 f9 c9 r9 => ?_⟩
          obtain ⟨hv9, hM9, hF9⟩ := f9 L _ hv8 hM8
          have ra9 := ra8.mono s9
          have hF9' := hF9 hF8'
          refine ⟨va1, hv9, by rw [ra9.len]; exact q9.1, F9, M9, acc1 ++ [z], va1 ++ [v9], (s6.trans (s7.trans s8)).trans s9, S8.trans s9, fun a o e n => ?_, ⟨fun b u e => ?_, fun a mo e => ?_⟩, upd_same, hF9', hM9, ra9.app (Reps.one r9), q9.2⟩
          · obtain ⟨y1, y2, y3⟩ := (R8.trans f9) a o e n
            exact ⟨by rw [upd_ne (ne_of_none e hL)]; exact y1, y2, y3⟩
          · have hb : b ≠ L := fun z => by rw [z, hF9'] at e; cases e
            rw [upd_ne hb]; exact c9.same b u e
          · obtain ⟨y1, o, y2, y3⟩ := c9.mem a mo e
            have ha : a ≠ L := fun z => by rw [z, hM9] at e; cases e
            exact ⟨y1, o, by rw [upd_ne ha]; exact y2, y3⟩
      · have e : j = ds1.length := by omega
        subst e
        exact .inl ⟨Y1.stop s6 c6 kk1 (Nat.le_refl _), F6, M6, acc1, va1, S6, R6, c6, hv6, hF6, hM6, ra6, fin1 _ _ p6⟩
  · have e : i = ds.length := by omega
    subst e
    have s' : Same F2 (upd F2 L (.lst va)) := fun b u e => by rw [upd_ne (ne_of_none e hF)]; exact e
    have c' : Core K (upd F2 L (.lst va)) H2 M2 := by
      refine ⟨fun b u e => ?_, fun a mo e => ?_⟩
      · by_cases hb : b = L
        · subst hb; rw [upd_same] at e; cases e; exact hv
        · rw [upd_ne hb] at e; exact c2.same b u e
      · obtain ⟨x1, o, x2, x3⟩ := c2.mem a mo e
        have ha : a ≠ L := fun z => by rw [z, hM] at e; cases e
        exact ⟨by rw [upd_ne ha]; exact x1, o, x2, x3.mono s'⟩
    have f' : Fr F1 H1 M1 (upd F2 L (.lst va)) H2 M2 := fun a o e n => by
      obtain ⟨x1, x2, x3⟩ := f2 a o e n
      exact ⟨x1, x2, fun z => by rw [upd_ne (ne_of_none e hL)]; exact x3 z⟩
    exact .inl ⟨Y.stop s2 c2 kk (Nat.le_refl _), hp _ M2 _ H2 _ (fin _ _ p2) (s1.trans (s2.trans s')) (f1.trans f') c' (by rw [Rep]; exact ⟨L, va, rfl, upd_same, ra.mono s'⟩)⟩
variable {a b c e : Expr} {tt tt1 : DTT} {pos p : Pos} {k : Nat}
theorem de_lc2 {elt tg iter tg1 iter1 : Expr} {ifs ifs1 : List Expr} {scope : Scope} {own : List (Str × Nat)} {vs vs1 : List Nat} {ti ti1 : DTI} {g g1 : TG} {dg dg1 : DTG} {te : DTE} (hN : X.N.Nodup) (hi : DI X tg iter ti) (ok : BlkOk X.N X.env.scope scope own) (tl : TgL X.K g dg vs) (tl1 : TgL X.K g1 dg1 vs1)
    (hg : ForBlk X scope fun Y => PG Y tg g) (ht : ForBlk X scope fun Y => PTs Y ifs (lT X.K tt)) (hi1 : ForBlk X scope fun Y => PI Y tg1 iter1 (lI X.K ti1)) (hg1 : ForBlk X scope fun Y => PG Y tg1 g1) (ht1 : ForBlk X scope fun Y => PTs Y ifs1 (lT X.K tt1)) (he : ForBlk X scope fun Y => PE Y elt (lE X.K te))
    (ho : own.map (·.2) = vs := by rfl) (hv : ∀ i ∈ vs1, i ∈ own.map (·.2) := by decide) (hc : X.calm = true := by rfl) (hs : ∀ x, foldedSetIterable iter X.env x = pure x := by intro _; rfl) (hs1 : ∀ env x, foldedSetIterable iter1 env x = pure x := by intro _ _; rfl) :
    DE X (.ListComp elt [⟨tg, iter, ifs, 0⟩, ⟨tg1, iter1, ifs1, 0⟩] scope pos) (dLc2 ti dg tt ti1 dg1 tt1 te vs vs1) := by
  subst ho
  exact PE.imp (pe_lc2 hc hN hi ok hv hg ht hi1 hg1 ht1 he hs hs1) (l_lc2 tl tl1)
theorem ds_setLc2 {i : Nat} {y : Str} {py spos : Pos} {elt tg iter tg1 iter1 : Expr} {ifs ifs1 : List Expr} {scope : Scope} {own : List (Str × Nat)} {vs vs1 : List Nat} {ti ti1 : DTI} {g g1 : TG} {dg dg1 : DTG} {te : DTE} (hN : X.N.Nodup) (hi : DI X tg iter ti) (ok : BlkOk X.N X.env.scope scope own) (tl : TgL X.K g dg vs) (tl1 : TgL X.K g1 dg1 vs1)
    (hg : ForBlk X scope fun Y => PG Y tg g) (ht : ForBlk X scope fun Y => PTs Y ifs (lT X.K tt)) (hi1 : ForBlk X scope fun Y => PI Y tg1 iter1 (lI X.K ti1)) (hg1 : ForBlk X scope fun Y => PG Y tg1 g1) (ht1 : ForBlk X scope fun Y => PTs Y ifs1 (lT X.K tt1)) (he : ForBlk X scope fun Y => PE Y elt (lE X.K te))
    (hy : X.N[i]? = some y := by rfl) (hyl : X.env.scope.names.lookup y = some .local := by rfl) (hsw : swapsWith (.ListComp elt [⟨tg, iter, ifs, 0⟩, ⟨tg1, iter1, ifs1, 0⟩] scope pos) (some (.Name y py)) spos.line X.env = pure true := by exact sw_true rfl rfl rfl (by decide +kernel))
    (ho : own.map (·.2) = vs := by rfl) (hv : ∀ i ∈ vs1, i ∈ own.map (·.2) := by decide) (hc : X.calm = true := by rfl) (hs : ∀ x, foldedSetIterable iter X.env x = pure x := by intro _; rfl) (hs1 : ∀ env x, foldedSetIterable iter1 env x = pure x := by intro _ _; rfl) :
    DS X (.Assign [.Name y py] (.ListComp elt [⟨tg, iter, ifs, 0⟩, ⟨tg1, iter1, ifs1, 0⟩] scope pos) spos) (dAsg (dLc2 ti dg tt ti1 dg1 tt1 te vs vs1) (dgName i)) := by
  subst ho
  exact PS.imp (ps_setLc2 hc hN hy hyl hsw hi ok hv hg ht hi1 hg1 ht1 he hs hs1) fun E σ H ⟨F, env, M, D0, he, hc, ht, hp⟩ => l_lc2 tl tl1 σ H _ ⟨F, env, M, _, he, hc, ht, fun d M1 F1 H1 v q s1 f1 c1 r1 => hp.nx _ M1 F1 H1 _ q s1 f1 c1 ((he.mono s1).set i r1)⟩
end
end DL
namespace DL
open PySem PySem.Spec PyProof.Rows L2
section
variable {X : Cx} {K : PySem.W.Frag} {a b c e : Expr} {es : List Expr} {ta tb tc : DTE} {pos p : Pos} {tt : DTT} {tr tk : DTA} {k : Nat} {f : Addr} {fd : FuncData} {ps ks : List Str} {sp : DSp} {x : Str}
/-! ### x * n, x a text too -/
def rMulX : D2 := fun x y M Q => match x, y with
  | .int i, .int j => CMulA i j ∧ Q (.int (i * j)) M
  | .str s, .int j => MulOk s j ∧ Q (.str (Txt.mul s j)) M
  | _, _ => False
theorem o_mulStr : OpR X (binaryOp .Mult) (fun x y H Q => ∃ s i, x = .str s ∧ y = .int i ∧ MulOk s i ∧ Q (.str (Txt.mul s i)) H) := by
  intro pins s σ H x y v u Q I rx ry ⟨z, i, e1, e2, hc, q⟩
  subst e1 e2
  obtain ⟨t, rfl⟩ := rx
  obtain ⟨t2, rfl⟩ := ry
  exact PySem.SB.mul hc fun t' k => ⟨.str (Txt.mul z i), H, I.tok k, ⟨t', rfl⟩, q⟩
theorem l_mulX : LR2 K (fun x y H Q => (rI CMulA fun i j => .int (i * j)) x y H Q ∨ (∃ s i, x = .str s ∧ y = .int i ∧ MulOk s i ∧ Q (.str (Txt.mul s i)) H)) rMulX := by
  intro F H M d e v w Q0 Q c r1 r2 h p
  unfold rMulX at h
  split at h
  · simp only [Rep] at r1 r2
    exact .inl ⟨_, _, r1, r2, h.1, p.int c h.2⟩
  · simp only [Rep] at r1 r2
    exact .inr ⟨_, _, r1, r2, h.1, p.str c h.2⟩
  · exact h.elim
theorem de_mulX (ha : DE X a ta) (hb : DE X b tb) : DE X (.BinOp a .Mult b pos) (dOp rMulX ta tb) := de_op (o_mulA.or o_mulStr) l_mulX ha hb
theorem rMulX_ii {i j : Int} {M : Mp} {Q : DQ} : rMulX (.int i) (.int j) M Q = (CMulA i j ∧ Q (.int (i * j)) M) := rfl
theorem rMulX_si {i : Str} {j : Int} {M : Mp} {Q : DQ} : rMulX (.str i) (.int j) M Q = (MulOk i j ∧ Q (.str (Txt.mul i j)) M) := rfl
/-! ### f-strings -/
def fmtD : DQ → DQ := fun Q d M => match d with
  | .str y => y.length ≤ sizeLine ∧ Q (.str y) M
  | .int i => i.natAbs.log2 < 1920 ∧ Q (.str (toString i)) M
  | _ => False
def dFmt (t : DTE) : DTE := fun env M Q => t env M (fmtD Q)
theorem de_fmt (h : DE X e ta) : DE X (.FormattedValue e (-1) none pos) (dFmt ta) := PE.imp (pe_fmt h) fun σ H Q ⟨F, env, M, Q0, he, hc, ht, hp⟩ => by
  refine ⟨F, env, M, _, he, hc, ht, fun d M1 F1 H1 v q s1 f1 c1 r1 => ?_⟩
  unfold fmtD at q
  split at q
  · rw [Rep] at r1
    exact .inl ⟨_, r1, q.1, (hp.after s1 f1).str c1 q.2⟩
  · rw [Rep] at r1
    exact .inr ⟨_, r1, q.1, (hp.after s1 f1).str c1 q.2⟩
  · exact q.elim
def jStep (acc : Str) (r : Str → Mp → Prop) : DQ := fun d M => match d with | .str y => (acc ++ y).length ≤ sizeLine ∧ r (acc ++ y) M | _ => False
def dJs : List DTE → Str → DSt → Mp → DQ → Prop
  | [], acc, _, M, Q => Q (.str acc) M
  | t :: ts, acc, env, M, Q => t env M (jStep acc fun z M1 => dJs ts z env M1 Q)
def dJoined (ts : List DTE) : DTE := fun env M Q => dJs ts Str.empty env M Q
inductive DJ (X : Cx) : List Expr → List DTE → Prop where
  | nil : DJ X [] []
  | cons {e : Expr} {t : DTE} {es : List Expr} {ts : List DTE} (h : DE X e t) (r : DJ X es ts) : DJ X (e :: es) (t :: ts)
theorem dj_nil : DJ X [] [] := .nil
theorem dj_cons {t : DTE} {ts : List DTE} (h : DE X e t) (r : DJ X es ts) : DJ X (e :: es) (t :: ts) := .cons h r
theorem DJ.pj {ts : List DTE} (h : DJ X es ts) : PJ X es (ts.map (lE X.K)) := by
  induction h with
  | nil => exact .nil
  | cons h r ih => exact .cons h ih
theorem l_js : ∀ (ts : List DTE) (acc : Str) {σ : L2.St} {H F : Hp} {env : DSt} {M : Mp} {Q0 : DQ} {Q : VK}, EnvR K F σ env → Core K F H M → dJs ts acc env M Q0 → Post K F H M Q0 Q → tJs (ts.map (lE K)) acc σ H fun out H1 => Q (.str out) H1
  | [], acc, σ, H, F, env, M, Q0, Q, he, hc, ht, hp => hp.str hc ht
  | t :: ts, acc, σ, H, F, env, M, Q0, Q, he, hc, ht, hp => by
    refine ⟨F, env, M, _, he, hc, ht, fun d M1 F1 H1 v q s1 f1 c1 r1 => ?_⟩
    unfold jStep at q
    split at q
    · rw [Rep] at r1
      exact ⟨_, r1, q.1, l_js ts _ (he.mono s1) c1 q.2 (hp.after s1 f1)⟩
    · exact q.elim
theorem de_joined {v1 v2 : Expr} {rest : List Expr} {ts : List DTE} (h : DJ X (v1 :: v2 :: rest) ts) : DE X (.JoinedStr (v1 :: v2 :: rest) pos) (dJoined ts) :=
  PE.imp (pe_joined h.pj) fun σ H Q ⟨F, env, M, Q0, he, hc, ht, hp⟩ => l_js ts _ he hc ht hp
theorem de_joined1 (h : DE X e ta) : DE X (.JoinedStr [e] pos) ta := pe_joined1 h
theorem dFmt_ap {t : DTE} {env : DSt} {M : Mp} {Q : DQ} : dFmt t env M Q = t env M (fmtD Q) := rfl
theorem fmtD_s {s : Str} {M : Mp} {Q : DQ} : fmtD Q (.str s) M = (s.length ≤ sizeLine ∧ Q (.str s) M) := rfl
theorem fmtD_i {s : Int} {M : Mp} {Q : DQ} : fmtD Q (.int s) M = (s.natAbs.log2 < 1920 ∧ Q (.str (toString s)) M) := rfl
theorem dJoined_ap {ts : List DTE} {env : DSt} {M : Mp} {Q : DQ} : dJoined ts env M Q = dJs ts Str.empty env M Q := rfl
theorem dJs_nil {acc : Str} {env : DSt} {M : Mp} {Q : DQ} : dJs [] acc env M Q = Q (.str acc) M := rfl
theorem dJs_cons {t : DTE} {ts : List DTE} {acc : Str} {env : DSt} {M : Mp} {Q : DQ} : dJs (t :: ts) acc env M Q = t env M (jStep acc fun z M1 => dJs ts z env M1 Q) := rfl
theorem jStep_s {acc s : Str} {r : Str → Mp → Prop} {M : Mp} : jStep acc r (.str s) M = ((acc ++ s).length ≤ sizeLine ∧ r (acc ++ s) M) := rfl
/-! ### x.lstrip(signs) -/
abbrev rLstripC : DM := rS1 (fun a _ => a.length ≤ sizeLine) fun a b => .str (Txt.lstripChars a b)
theorem de_lstripC {apos cpos : Pos} (ho : DE X a ta) (ha : DA X [b] tr) (hbase : attributeBase a "lstrip" X.env (eval a X.env) = eval a X.env := by rfl) (hline : (apos.endLine == cpos.line) = true := by rfl) (hs : starEach [b] X.env = (false, eval b X.env) :: starEach [] X.env := by rfl) :
    DE X (.Call (.Attribute a "lstrip" apos) [b] [] cpos) (dBM "str" rLstripC ta tr) :=
  de_bm F.plainAttrs_str F.slot_str_lstrip F.type_str_lstrip mt_lstripChars (l_s1 fun F a b => by rw [Rep]) ho ha hbase (by rw [hs]; rfl) hline hs rfl
/-! ### names only -/
def gKV {α : Type} (m n : Nat) (π : List Nat) (us ws : List α) : List α := if us.length = m ∧ ws.length = n then π.filterMap fun i => (us ++ ws)[i]? else []
theorem gkv_vals {xs ys : List V} {us ws : List Value} {m n : Nat} : ∀ (π : List Nat), Vals xs us → Vals ys ws → Vals (gKV m n π xs ys) (gKV m n π us ws) := by
  intro π r1 r2
  unfold gKV
  rw [r1.length, r2.length]
  split
  · have r := r1.append r2
    induction π with
    | nil => exact .nil
    | cons i π ih =>
      rw [List.filterMap_cons, List.filterMap_cons]
      cases h : (xs ++ ys)[i]? with
      | none => rw [r.none_of h]; exact ih
      | some x => obtain ⟨u, e, g⟩ := r.get h; rw [e]; exact .cons g ih
  · exact .nil
theorem gkv_rep (m n : Nat) (π : List Nat) : GD (gKV m n π) (gKV m n π) := by
  refine ⟨fun {K F ds es vs ws} r1 r2 => ?_⟩
  unfold gKV
  rw [r1.len, r2.len]
  split
  · have r := r1.app r2
    induction π with
    | nil => exact Reps.nil
    | cons i π ih =>
      rw [List.filterMap_cons, List.filterMap_cons]
      cases h : (ds ++ es)[i]? with
      | none =>
        have h2 : (vs ++ ws)[i]? = none := by
          rw [List.getElem?_eq_none_iff] at h ⊢
          rw [r.len]; exact h
        rw [h2]; exact ih
      | some x => obtain ⟨u, e, g⟩ := r.get h; rw [e]; exact Reps.cons g ih
  · exact Reps.nil
theorem kb_of {m n : Nat} {π : List Nat} (hp : ps.length ≠ 0) (h : ∀ us ws : List Value, us.length = m → ws.length = n → bindArgs fd ⟨us, ks.zip ws⟩ = pure (ps.zip (gKV m n π us ws))) : KBinds K fd ps ks (gKV m n π) (gKV m n π) :=
  ⟨fun s us ws _ hl => by
    by_cases e : us.length = m ∧ ws.length = n
    · exact BindsTo.of_eq (h us ws e.1 e.2)
    · unfold gKV at hl; rw [if_neg e] at hl; exact absurd hl.symm hp, fun r1 r2 => gkv_vals π r1 r2⟩
theorem de_callKC {kws : List Keyword} {m n : Nat} {π : List Nat} (G : Cal X.prog X.w X.K X.mg X.base k x ps sp f fd) (hr : Room k X.A) (hb : KBinds X.K fd ps ks (gKV m n π) (gKV m n π)) (ha : DA X (e :: es) tr) (hkw : DK X kws tk) (hg : Gl X x := by rfl)
    (hall : (backToKw pos (keywordEach kws X.env)).all (·.1.isSome) = true := by rfl) (hks : (backToKw pos (keywordEach kws X.env)).filterMap (·.1) = ks := by rfl)
    (hdb : (x == ("__debug__" : Str)) = false := by decide) (he : starEach (e :: es) X.env = (false, eval e X.env) :: starEach es X.env := by rfl)
    (hpl : ((backTo pos (starEach (e :: es) X.env)).any (·.1) || (backToKw pos (keywordEach kws X.env)).any (·.1.isNone)) = false := by rfl) : DE X (.Call (.Name x p) (e :: es) kws pos) (dCallK sp (gKV m n π) tr tk) :=
  de_callK G.fn hr G.g G.kp hb (gkv_rep m n π) ha hkw hg hall hks hdb he hpl
theorem de_callKC0 {kws : List Keyword} {m n : Nat} {π : List Nat} (G : Cal X.prog X.w X.K X.mg X.base k x ps sp f fd) (hr : Room k X.A) (hb : KBinds X.K fd ps ks (gKV m n π) (gKV m n π)) (hkw : DK X kws tk) (hg : Gl X x := by rfl)
    (hall : (backToKw pos (keywordEach kws X.env)).all (·.1.isSome) = true := by rfl) (hks : (backToKw pos (keywordEach kws X.env)).filterMap (·.1) = ks := by rfl)
    (hdb : (x == ("__debug__" : Str)) = false := by decide)
    (hpl : ((backTo pos (starEach [] X.env)).any (·.1) || (backToKw pos (keywordEach kws X.env)).any (·.1.isNone)) = false := by rfl) : DE X (.Call (.Name x p) [] kws pos) (dCallK sp (gKV m n π) dNil tk) := by
  have h : PE X (.Call (.Name x p) [] kws pos) (tCallK (lSp X.K sp) (gKV m n π) (fun _ _ _ => False) tNil (lA X.K tk)) := by
    refine ⟨fun pins s σ H Q I h => ?_⟩
    refine wpAny_Call_Name_kw (ld_glob I hg G.g ?_ hdb)
    refine PySem.W.callWith_KW0 (h₀ := X.base) I.ok.mod.kin G.kp hall (thn (hkw.run pos pins s σ H _ I h) fun ws s2 ⟨zs, H2, I2, rz, q2⟩ => ⟨I2.kIn, ?_⟩) hpl
    rw [hks]
    exact run_fnk (us := []) (vs := []) G.fn hr hb pass0 I2 .nil rz q2
  exact PE.imp h fun σ H Q ⟨F, env, M, Q0, he, hc, ht, hp⟩ => ⟨F, env, M, _, he, hc, ht, fun es M2 F2 H2 ws q2 s2 f2 c2 r2 =>
      ⟨F2, M2, _, Q0, noX, c2, (gkv_rep m n π).rep Reps.nil r2, q2, hp.after s2 f2, postX0⟩⟩
end
end DL
namespace DL
open PySem PySem.Spec PyProof.Rows L2
/-! ### loops, behind their iterables -/
def lcB (g : DTG) (tt : DTT) (te : DTE) (vs : List Nat) (env : DSt) (Q : DQ) : List D → (Mp → Prop) → Mp → Prop := fun ds kp M1 => ∃ Pv : Nat → List D → Mp → Prop, Pv 0 [] M1 ∧ (∀ i acc M, Pv i acc M → kp M) ∧
  (∀ i d acc M, ds[i]? = some d → Pv i acc M → g d (wipeD env vs) M fun env2 M2 => tt env2 M2 fun b M3 => if b = true then te env2 M3 fun y M4 => acc.length < sizeLine ∧ Pv (i + 1) (acc ++ [y]) M4 else Pv (i + 1) acc M3) ∧
  ∀ acc M, Pv ds.length acc M → Q (.lst acc) M
def frB (g : DTG) (t : DTS) (E : DEnds) (env : DSt) : List D → (Mp → Prop) → Mp → Prop := fun ds kp M1 => ∃ Pv : Nat → DSt → Mp → Prop, Pv 0 env M1 ∧ (∀ i env M, Pv i env M → kp M) ∧
  (∀ i d env M, ds[i]? = some d → Pv i env M → g d env M fun env' M' => t { E with nx := Pv (i + 1), ct := Pv (i + 1), bk := E.nx } env' M') ∧ ∀ env M, Pv ds.length env M → E.nx env M
section
variable {env : DSt} {M M1 : Mp} {Q : DQ} {E : DEnds} {te : DTE} {t : DTS} {tt : DTT} {g : DTG} {ti : DTI} {vs : List Nat} {kp : Mp → Prop} {α : Type} {xs : List α}
theorem dLc_un : dLc ti g tt te vs env M Q = ti env M (lcB g tt te vs env Q) := rfl
theorem dFor_un : dFor ti g t E env M = ti env M (frB g t E env) := rfl
theorem lcB_fm (enc f : α → D) (p : α → Bool) (hk : kp M1) (hz : xs.length ≤ sizeLine)
    (h : ∀ x, x ∈ xs → ∀ (R : DQ) (S : Mp → Prop), (p x = true → R (f x) M1) → (p x = false → S M1) → g (enc x) (wipeD env vs) M1 fun env2 M2 => tt env2 M2 fun b M3 => if b = true then te env2 M3 R else S M3)
    (q : Q (.lst ((xs.filter p).map f)) M1) : lcB g tt te vs env Q (xs.map enc) kp M1 :=
  lc_fm (ti := fun _ _ R => R (xs.map enc) kp M1) (M := M1) (M1 := M1) xs enc f p (fun _ r => r) hk hz h q
theorem lcB_m (enc f : α → D) (hk : kp M1) (hz : xs.length ≤ sizeLine)
    (h : ∀ x, x ∈ xs → ∀ R : DQ, R (f x) M1 → g (enc x) (wipeD env vs) M1 fun env2 M2 => te env2 M2 R)
    (q : Q (.lst (xs.map f)) M1) : lcB g dYes te vs env Q (xs.map enc) kp M1 :=
  lc_m (ti := fun _ _ R => R (xs.map enc) kp M1) (M := M1) (M1 := M1) xs enc f (fun _ r => r) hk hz h q
/-- turns that change M -/
theorem lcB_st (enc : α → D) (inv : List α → List D → Mp → Prop) (h0 : inv [] [] M1) (hk : ∀ s acc M, inv s acc M → kp M) (hz : ∀ s acc M, inv s acc M → acc.length < sizeLine)
    (h : ∀ pre x post acc M, xs = pre ++ x :: post → inv pre acc M → ∀ R : DQ, (∀ y M', inv (pre ++ [x]) (acc ++ [y]) M' → R y M') → g (enc x) (wipeD env vs) M fun env2 M2 => te env2 M2 R)
    (q : ∀ acc M, inv xs acc M → Q (.lst acc) M) : lcB g dYes te vs env Q (xs.map enc) kp M1 := by
  refine ⟨fun i acc M => inv (xs.take i) acc M, by simpa using h0, fun i acc M => hk _ _ M, fun i d acc M hx p => ?_, fun acc M p => ?_⟩
  · rw [List.getElem?_map] at hx
    cases q : xs[i]? with
    | none => rw [q] at hx; cases hx
    | some x =>
      rw [q] at hx
      cases hx
      have hi : i < xs.length := (List.getElem?_eq_some_iff.mp q).1
      have e : xs.take (i + 1) = xs.take i ++ [x] := by rw [List.take_add_one, q]; rfl
      have e2 : xs.drop i = x :: xs.drop (i + 1) := by
        rw [List.drop_eq_getElem_cons hi]
        congr 1
        exact Option.some.inj ((List.getElem?_eq_getElem hi).symm.trans q)
      refine h _ x (xs.drop (i + 1)) acc M (by rw [← e2, List.take_append_drop]) p _ fun y M' hy => ?_
      dsimp only
      rw [e]
      exact ⟨hz _ _ _ p, hy⟩
  · rw [List.length_map, List.take_length] at p
    exact q acc M p
theorem frB_pre (enc : α → D) (inv : List α → DSt → Mp → Prop) (h0 : inv [] env M1) (hk : ∀ s env M, inv s env M → kp M)
    (hs : ∀ pre x post env M, xs = pre ++ x :: post → inv pre env M → ∀ R : DSt → Mp → Prop, (∀ env' M', inv (pre ++ [x]) env' M' → R env' M') → g (enc x) env M fun env' M' => t { E with nx := R, ct := R, bk := E.nx } env' M')
    (hd : ∀ env M, inv xs env M → E.nx env M) : frB g t E env (xs.map enc) kp M1 :=
  for_pre (ti := fun _ _ R => R (xs.map enc) kp M1) (M := M1) (M1 := M1) xs enc inv (fun _ r => r) h0 hk (fun pre x post env M e i => hs pre x post env M e i _ fun _ _ h => h) hd
end
end DL
namespace DL
open PySem PySem.Spec PyProof.Rows L2
section
variable {env : DSt} {M M1 : Mp} {Q : DQ} {E : DEnds} {te ta tv : DTE} {t : DTS} {tt : DTT} {g g1 : DTG} {ti : DTI} {tr : DTA} {vs vs1 : List Nat} {kp : Mp → Prop} {α β : Type} {xs : List α} {C : Addr} {n m : Str} {sp : DSp} {fs : List (Str × D)} {a : Addr} {rd : D2}
/-- a statement that is not reached -/
def dNever : DTS := fun _ _ _ => False
theorem ds_never {X : Cx} {st : Stmt} : DS X st dNever := PS.imp ps_never fun D σ H h => by
  obtain ⟨F, env, M, D0, he, hc, ht, hp⟩ := h
  exact ht.elim
theorem dNever_ap : dNever E env M = False := rfl
theorem insOf_p : insOf M (.ptr a) = (match M a with | some (.ins C fs) => some (C, fs) | _ => none) := rfl
theorem insOf_o : insOf M (.obj C fs) = some (C, fs) := rfl
theorem dFld_ap : dFld C n ta env M Q = ta env M fun x M1 => (match insOf M1 x with
  | some (C', fs) => C' = C ∧ ∃ d, fs.lookup n = some d ∧ Q d M1
  | none => False) := rfl
theorem dSetF_ap : dSetF C n ta tv E env M = tv env M fun d M1 => ta env M1 fun x M2 => (match x with
  | .ptr a => (match M2 a with
    | some (.ins C' fs) => C' = C ∧ fs.length < 1000 ∧ E.nx env (up M2 a (.ins C (putD n d fs)))
    | _ => False)
  | _ => False) := rfl
theorem dAugF_ap : dAugF C n ta tv rd E env M = ta env M fun x M1 => (match x with
  | .ptr a => (match M1 a with
    | some (.ins C' fs) => C' = C ∧ ∃ d, fs.lookup n = some d ∧ tv env M1 fun y M2 => rd d y M2 fun z M3 => (match M3 a with
      | some (.ins C2 fs2) => C2 = C ∧ fs2.length < 1000 ∧ E.nx env (up M3 a (.ins C (putD n z fs2)))
      | _ => False)
    | _ => False)
  | _ => False) := rfl
theorem dMeth_ap : dMeth C m sp ta tr env M Q = ta env M fun x M1 => (match insOf M1 x with
  | some (C', fs) => C' = C ∧ fs.lookup m = none ∧ tr env M1 fun ds M2 => sp (x :: ds) M2 Q noX
  | none => False) := rfl
theorem dMake_ap : dMake C sp tr env M Q = tr env M fun ds M1 => ∀ x, M1 x = none → sp (.ptr x :: ds) (up M1 x (.ins C [])) (fun v M2 => v = .non ∧ Q (.ptr x) M2) noX := rfl
theorem dProp_ap : dProp C sp ta env M Q = ta env M fun x M1 => (match insOf M1 x with
  | some (C', fs) => C' = C ∧ sp [x] M1 Q noX
  | none => False) := rfl
/-- a while loop by a measure: Pv tells state and measure -/
theorem wh_of (Pv : Nat → DSt → Mp → Prop) (m : Nat) (h0 : Pv m env M)
    (h : ∀ m env M, Pv m env M → ∀ R : DSt → Mp → Prop, (∀ m' env' M', m' < m → Pv m' env' M' → R env' M') → tt env M fun k M1 => if k = true then t { E with nx := R, ct := R, bk := E.nx } env M1 else E.nx env M1) : dWhile tt t E env M :=
  ⟨Pv, ⟨m, h0⟩, fun m env M p => h m env M p _ fun m' env' M' hm hp => ⟨m', hm, hp⟩⟩
def lc2B (g : DTG) (tt : DTT) (ti1 : DTI) (g1 : DTG) (tt1 : DTT) (te : DTE) (vs vs1 : List Nat) (env : DSt) (Q : DQ) : List D → (Mp → Prop) → Mp → Prop := fun ds kp M1 => ∃ Pv : Nat → List D → Mp → Prop, Pv 0 [] M1 ∧ (∀ i acc M, Pv i acc M → kp M) ∧
  (∀ i d acc M, ds[i]? = some d → Pv i acc M → g d (wipeD env vs) M fun env2 M2 => tt env2 M2 fun b M3 => if b = true then
    ti1 env2 M3 fun ds1 kp1 M4 => ∃ Pv1 : Nat → List D → Mp → Prop, Pv1 0 acc M4 ∧ (∀ j acc M, Pv1 j acc M → kp1 M) ∧
      (∀ j d1 acc1 M, ds1[j]? = some d1 → Pv1 j acc1 M → g1 d1 (wipeD env2 vs1) M fun env3 M5 => tt1 env3 M5 fun b M6 => if b = true then te env3 M6 fun y M7 => acc1.length < sizeLine ∧ Pv1 (j + 1) (acc1 ++ [y]) M7 else Pv1 (j + 1) acc1 M6) ∧
      ∀ acc1 M, Pv1 ds1.length acc1 M → Pv (i + 1) acc1 M
    else Pv (i + 1) acc M3) ∧
  ∀ acc M, Pv ds.length acc M → Q (.lst acc) M
def lc2I (acc : List D) (g1 : DTG) (tt1 : DTT) (te : DTE) (env2 : DSt) (vs1 : List Nat) (Z : List D → Mp → Prop) : List D → (Mp → Prop) → Mp → Prop := fun ds1 kp1 M4 => ∃ Pv1 : Nat → List D → Mp → Prop, Pv1 0 acc M4 ∧ (∀ j acc M, Pv1 j acc M → kp1 M) ∧
      (∀ j d1 acc1 M, ds1[j]? = some d1 → Pv1 j acc1 M → g1 d1 (wipeD env2 vs1) M fun env3 M5 => tt1 env3 M5 fun b M6 => if b = true then te env3 M6 fun y M7 => acc1.length < sizeLine ∧ Pv1 (j + 1) (acc1 ++ [y]) M7 else Pv1 (j + 1) acc1 M6) ∧
      ∀ acc1 M, Pv1 ds1.length acc1 M → Z acc1 M
theorem dLc2_un {ti1 : DTI} {tt1 : DTT} : dLc2 ti g tt ti1 g1 tt1 te vs vs1 env M Q = ti env M (lc2B g tt ti1 g1 tt1 te vs vs1 env Q) := rfl
/-- the inner clause: M unchanged, a map -/
theorem lc2I_m {acc : List D} {Z : List D → Mp → Prop} {ys : List β} (enc f : β → D) (hk : kp M) (hz : acc.length + ys.length ≤ sizeLine)
    (h : ∀ y, y ∈ ys → ∀ R : DQ, R (f y) M → g1 (enc y) (wipeD env vs1) M fun env3 M5 => te env3 M5 R) (q : Z (acc ++ ys.map f) M) : lc2I acc g1 dYes te env vs1 Z (ys.map enc) kp M := by
  refine ⟨fun j a M' => M' = M ∧ a = acc ++ (ys.take j).map f ∧ j ≤ ys.length, ⟨rfl, by simp, Nat.zero_le _⟩, fun _ _ _ z => by rw [z.1]; exact hk, fun j d a M' hd ⟨e1, e2, e3⟩ => ?_, fun a M' ⟨e1, e2, e3⟩ => ?_⟩
  · subst e1 e2
    rw [List.getElem?_map] at hd
    cases q : ys[j]? with
    | none => rw [q] at hd; cases hd
    | some x =>
      rw [q] at hd
      cases hd
      have hi : j < ys.length := (List.getElem?_eq_some_iff.mp q).1
      have e : ys.take (j + 1) = ys.take j ++ [x] := by rw [List.take_add_one, q]; rfl
      refine h x (List.mem_of_getElem? q) (fun y M7 => _ ∧ _) ⟨?_, rfl, ?_, hi⟩
      · rw [List.length_append, List.length_map, List.length_take]; omega
      · rw [e, List.map_append, List.append_assoc]; rfl
  · rw [List.length_map, List.take_length] at e2
    rw [e1, e2]
    exact q
/-- two clauses, M unchanged: one list behind the other -/
theorem lc2B_m {ti1 : DTI} {tt1 : DTT} (enc : α → D) (f : α → List D) (hk : kp M1) (hz : (xs.flatMap f).length ≤ sizeLine)
    (h : ∀ x, x ∈ xs → ∀ (acc : List D) (Z : List D → Mp → Prop), acc.length + (f x).length ≤ sizeLine → Z (acc ++ f x) M1 → g (enc x) (wipeD env vs) M1 fun env2 M2 => ti1 env2 M2 (lc2I acc g1 tt1 te env2 vs1 Z))
    (q : Q (.lst (xs.flatMap f)) M1) : lc2B g dYes ti1 g1 tt1 te vs vs1 env Q (xs.map enc) kp M1 := by
  refine ⟨fun i acc M' => M' = M1 ∧ acc = (xs.take i).flatMap f ∧ i ≤ xs.length, ⟨rfl, by simp, Nat.zero_le _⟩, fun _ _ _ z => by rw [z.1]; exact hk, fun i d acc M' hd ⟨e1, e2, e3⟩ => ?_, fun acc M' ⟨e1, e2, e3⟩ => ?_⟩
  · subst e1 e2
    rw [List.getElem?_map] at hd
    cases q : xs[i]? with
    | none => rw [q] at hd; cases hd
    | some x =>
      rw [q] at hd
      cases hd
      have hi : i < xs.length := (List.getElem?_eq_some_iff.mp q).1
      have e : xs.take (i + 1) = xs.take i ++ [x] := by rw [List.take_add_one, q]; rfl
      have e4 : ((xs.take i).flatMap f).length + (f x).length ≤ (xs.flatMap f).length := by
        have e5 : xs = xs.take (i + 1) ++ xs.drop (i + 1) := (List.take_append_drop _ _).symm
        have := congrArg (fun l => (l.flatMap f).length) e5
        simp only [List.flatMap_append, List.length_append, e, List.flatMap_cons, List.flatMap_nil, List.append_nil] at this
        omega
      exact h x (List.mem_of_getElem? q) _ _ (by omega) ⟨rfl, by rw [e, List.flatMap_append]; simp, hi⟩
  · rw [List.length_map, List.take_length] at e2
    rw [e1, e2]
    exact q
end
end DL
namespace DL
open PySem PySem.Spec PyProof.Rows L2
/-- plain data of a depth -/
def Pl : Nat → D → Bool
  | _, .non => true
  | _, .bl _ => true
  | _, .int _ => true
  | _, .str x => PyData.strOk x
  | n + 1, .lst ds => ds.all (Pl n) && decide (ds.length ≤ 1000000)
  | n + 1, .tup ds => ds.all (Pl n) && decide (ds.length ≤ 1000000)
  | _, _ => false
def ShD (n : Nat) (d : D) : Prop := d.pl = true ∧ d.py.canLay0 = true ∧ d.py.depth ≤ n
theorem shs_of {n : Nat} : ∀ {ds : List D}, (∀ d ∈ ds, ShD n d) → D.pls ds = true ∧ PyData.canLayAll0 (D.pys ds) = true ∧ PyData.depthAll (D.pys ds) ≤ n
  | [], _ => ⟨by rw [D.pls], by rw [D.pys]; rfl, by rw [D.pys]; exact Nat.zero_le _⟩
  | d :: ds, h => by
    obtain ⟨a, b, c⟩ := h d List.mem_cons_self
    obtain ⟨a', b', c'⟩ := shs_of fun e he => h e (List.mem_cons_of_mem _ he)
    rw [D.pls, D.pys]
    refine ⟨by rw [a, a']; rfl, ?_, ?_⟩
    · show (_ && _) = true
      rw [b, b']; rfl
    · exact Nat.max_le.mpr ⟨c, c'⟩
theorem pl_sh : ∀ (n : Nat) (d : D), Pl n d = true → ShD n d
  | n, .non, _ => ⟨by rw [D.pl], by rw [D.py]; rfl, by rw [D.py]; exact Nat.zero_le _⟩
  | n, .bl _, _ => ⟨by rw [D.pl], by rw [D.py]; rfl, by rw [D.py]; exact Nat.zero_le _⟩
  | n, .int _, _ => ⟨by rw [D.pl], by rw [D.py]; rfl, by rw [D.py]; exact Nat.zero_le _⟩
  | n, .str x, h => ⟨by rw [D.pl], by rw [D.py]; cases n <;> exact h, by rw [D.py]; exact Nat.zero_le _⟩
  | n + 1, .lst ds, h => by
    rw [Pl, Bool.and_eq_true] at h
    obtain ⟨a, b, c⟩ := shs_of (n := n) (ds := ds) fun d hd => pl_sh n d (List.all_eq_true.mp h.1 d hd)
    exact ⟨by rw [D.pl]; exact a, by rw [D.py]; exact b, by rw [D.py]; exact Nat.succ_le_succ c⟩
  | n + 1, .tup ds, h => by
    rw [Pl, Bool.and_eq_true] at h
    obtain ⟨a, b, c⟩ := shs_of (n := n) (ds := ds) fun d hd => pl_sh n d (List.all_eq_true.mp h.1 d hd)
    exact ⟨by rw [D.pl]; exact a, by rw [D.py]; exact b, by rw [D.py]; exact Nat.succ_le_succ c⟩
  | 0, .lst _, h => by cases h
  | 0, .tup _, h => by cases h
  | n, .lsx _, h => by cases n <;> cases h
  | n, .ptr _, h => by cases n <;> cases h
  | n, .ty _, h => by cases n <;> cases h
  | n, .obj _ _, h => by cases n <;> cases h
theorem pl_ok {n : Nat} {d : D} (h : Pl n d = true) (hn : n ≤ 64) : d.ok = true := by
  obtain ⟨a, b, c⟩ := pl_sh n d h
  unfold D.ok SeqAt.shaped
  rw [a, b, Bool.true_and, Bool.true_and]
  exact decide_eq_true (Nat.le_trans c hn)
section
variable {M : Mp} {Q : DQ} {x y : D} {b : Bool} {n : Nat} {a : Addr} {ds : List D}
/-- a list of plain data, and [] -/
theorem rEqW_p0 (h : M a = some (.lst ds)) (hp : ∀ d ∈ ds, Pl n d = true) (hz : ds.length ≤ 1000000) (hn : n ≤ 60) : rEqW b (.ptr a) (.lst []) M Q = Q (.bl (b ^^ ds.isEmpty)) M := by
  unfold rEqW
  rw [if_neg (by exact Bool.false_ne_true)]
  have e : rs M (.ptr a) = .lst ds := by show (match M a with | some (.lst ds) => D.lst ds | _ => D.ptr a) = _; rw [h]
  have k : (D.lst ds).ok = true := pl_ok (n := n + 1) (by rw [Pl, Bool.and_eq_true]; exact ⟨List.all_eq_true.mpr hp, decide_eq_true hz⟩) (by omega)
  have e2 : rs M (.lst []) = .lst [] := by unfold rs; rfl
  have k2 : (D.lst []).ok = true := pl_ok (n := 1) rfl (by decide)
  rw [e, e2, k, k2]
  have e3 : D.eqv (.lst ds) (.lst []) = ds.isEmpty := by
    unfold D.eqv
    rw [D.py, D.py]
    cases ds with
    | nil => rfl
    | cons d r => rw [D.pys]; rfl
  rw [e3]
  simp only [and_self, true_and]
end
end DL
namespace DL
open PySem PySem.Spec PyProof.Rows L2
/-- a def of the text, its defaults by values -/
abbrev FnD (K : PySem.W.Frag) (x qual : Str) (st : Stmt) (dvs : List V) (kws : List (Str × V)) (f : Addr) (fd : FuncData) : Prop := FunD K x qual (defArgs st) (defBody st) (defScope st) dvs kws f fd
section
variable {P : Program} {w : World} {K : PySem.W.Frag} {mg : Str → Option Value} {base : Heap} {dvs : List V} {kws : List (Str × V)}
/-- THE RULE for a def that raises nothing -/
theorem dfunD {x qual : Str} {st : Stmt} {f : Addr} {fd : FuncData} {N ps : List Str} {k : Nat} {sp : DSp} (F : FnD K x qual st dvs kws f fd) (S : FnScope N ps (defScope st)) (len : ∀ ds M Q E, sp ds M Q E → ds.length = ps.length)
    (hbody : ∀ (cdv : Value) (A : Around) (outer : List Env) (s : Shared) (H : Hp) (E : XK), Room k (A.deeper (envOfC qual (defScope st) s.heap.objs.size f cdv)) →
      ∃ t, DSs (cxOf CX0 P w K mg base N qual (defScope st) f cdv A outer s H E).nox (defBody st) t ∧ ∀ ds M Q E0, sp ds M Q E0 → t (bodyE K Q) (startD N ds) M) : FnOk P w K mg base CX0 (k + 1) f fd ps (lSp K sp) :=
  FunD.ok F S (fun vs H Q E ⟨F, M, ds, Q0, E0, c, r, h, _⟩ => by rw [r.len]; exact len ds M Q0 E0 h) fun cdv A outer s H vs Q E hr ⟨F, M, ds, Q0, E0, c, r, h, p, _⟩ => by
    obtain ⟨t, h1, h2⟩ := hbody cdv A outer s H E hr
    exact ⟨_, PSs.nox h1, F, startD N ds, M, bodyE K Q0, start_env r, c, h2 ds M Q0 E0 h, fin_ok p⟩
/-- the law's own promise -/
abbrev spLaw : DSp := fun ds M Q _ => ∃ ms : List Int, ds = [.lsx (ms.map D.int)] ∧ ms.length ≤ 63 ∧ Q (.bl true) M
theorem law_in {H : Hp} {a : Addr} {ns : List Int} (hl : ns.length ≤ 63) (hS : SqL K H a (ns.map V.int)) : lSp K spLaw [.ref a] H (fun v _ => v = .bl true) fun _ _ _ => False :=
  ⟨H, fun _ => none, [.lsx (ns.map D.int)], fun d _ => d = .bl true, noX, ⟨Same.refl H, fun _ _ e => by cases e⟩, Reps.one (by rw [Rep]; exact ⟨a, _, rfl, hS, Reps.of_ints⟩), ⟨ns, rfl, hl, rfl⟩,
    fun d M' F' H' v e _ _ _ r => by subst e; rw [Rep] at r; exact r, postX0⟩
/-- an empty promise is kept by every def -/
theorem fn_no {x qual : Str} {st : Stmt} {f : Addr} {fd : FuncData} {N ps : List Str} (F : FnD K x qual st dvs kws f fd) (S : FnScope N ps (defScope st)) {k : Nat} : FnOk P w K mg base CX0 (k + 1) f fd ps (lSp K fun _ _ _ _ => False) :=
  FunD.ok F S (fun vs H Q E ⟨F, M, ds, Q0, E0, c, r, h, _⟩ => h.elim) fun cdv A outer s H vs Q E hr ⟨F, M, ds, Q0, E0, c, r, h, p, _⟩ => h.elim
theorem kbN {x qual : Str} {st : Stmt} {f : Addr} {fd : FuncData} {ps ks : List Str} {m n : Nat} {π : List Nat} (F : FnD K x qual st [] kws f fd) (hp : ps.length ≠ 0)
    (h : ∀ (kV doc pm : Value) (an : Option Addr) (cdv ct : Value) (us ws : List Value), us.length = m → ws.length = n → bindArgs (PySem.W.fnOf x qual (defArgs st) (defBody st) (defScope st) .none kV doc pm an cdv ct) ⟨us, ks.zip ws⟩ = pure (ps.zip (gKV m n π us ws))) : KBinds K fd ps ks (gKV m n π) (gKV m n π) := by
  obtain ⟨oc, od, dV, kV, doc, pm, an, cdv, ct, osl, rfl, lk, hcd, hD, hK⟩ := F.ex
  rcases hD with ⟨_, rfl⟩ | ⟨e, _⟩
  · exact kb_of hp (h kV doc pm an cdv ct)
  · exact absurd rfl e
end
end DL
namespace PRE
open PySem PySem.Spec PyProof.Rows L2 DL
/-! ### the mathematics of words -/
def loC (c : Nat) : Nat := if 65 ≤ c ∧ c ≤ 90 then c + 32 else c
def upC (c : Nat) : Nat := if 97 ≤ c ∧ c ≤ 122 then c - 32 else c
def isLo (c : Nat) : Bool := decide (97 ≤ c ∧ c ≤ 122)
def swC (c : Nat) : Nat := if isLo c = true then upC c else loC c
theorem lo1 {c : Nat} (h : c < 128) : Txt.lower ⟨#[c]⟩ = ⟨#[loC c]⟩ := by
  have : ∀ c < 128, Txt.lower ⟨#[c]⟩ = ⟨#[loC c]⟩ := by decide +kernel
  exact this c h
theorem up1 {c : Nat} (h : c < 128) : Txt.upper ⟨#[c]⟩ = ⟨#[upC c]⟩ := by
  have : ∀ c < 128, Txt.upper ⟨#[c]⟩ = ⟨#[upC c]⟩ := by decide +kernel
  exact this c h
theorem lower_in {c : Nat} : strIn ⟨#[c]⟩ "abcdefghijklmnopqrstuvwxyz" = isLo c := by
  rw [strIn_sign]
  unfold isLo
  have e : (Str.ofString "abcdefghijklmnopqrstuvwxyz").cps.toList = [97,98,99,100,101,102,103,104,105,106,107,108,109,110,111,112,113,114,115,116,117,118,119,120,121,122] := by decide +kernel
  rw [e, decide_eq_decide]
  simp only [List.mem_cons, List.not_mem_nil, or_false]
  omega
theorem line {n : Nat} (h : n ≤ 1000000) : n ≤ sizeLine := by rw [sizeLine_eq]; omega
theorem lineT {n : Nat} (h : n ≤ 1000000) : n < sizeLine := by rw [sizeLine_eq]; omega
theorem len1 (c : Nat) : (⟨#[c]⟩ : Str).length ≤ 5592405 := by show 1 ≤ 5592405; decide
/-- a text by its codes -/
def T (l : List Nat) : Str := ⟨l.toArray⟩
theorem T_cps (l : List Nat) : (T l).cps.toList = l := by simp [T]
theorem T_of (z : Str) : T z.cps.toList = z := by cases z; simp [T]
theorem T_len (l : List Nat) : (T l).length = l.length := by simp [T, Str.length]
theorem T_one (c : Nat) : (⟨#[c]⟩ : Str) = T [c] := rfl
theorem T_app (l m : List Nat) : T l ++ T m = T (l ++ m) := by
  show Str.append (T l) (T m) = T (l ++ m)
  simp [Str.append, T]
theorem T_inj {l m : List Nat} : T l = T m ↔ l = m := ⟨fun e => by rw [← T_cps l, e, T_cps], fun e => by rw [e]⟩
theorem T_beq (l m : List Nat) : (T l == T m) = decide (l = m) := by
  by_cases h : l = m
  · subst h; simp
  · rw [decide_eq_false h]
    exact beq_eq_false_iff_ne.mpr fun e => h (T_inj.mp e)
theorem sgs_T (l : List Nat) : sgs (T l) = l.map fun c => D.str ⟨#[c]⟩ := by unfold sgs; rw [T_cps]
theorem srev_T (l : List Nat) : srev (T l) = T l.reverse := by unfold srev; rw [T_cps]; rfl
theorem join_cps (x : Str) (ys : List Str) : Txt.join x ys = Str.join x ys := by
  exact PySem.StrLaws.glued_eq_join x ys
theorem join_T : ∀ ls : List (List Nat), Txt.join "" (ls.map T) = T ls.flatten
  | [] => by rw [join_cps]; rfl
  | [l] => by rw [join_cps]; show T l = _; simp
  | l :: m :: r => by
    have ih := join_T (m :: r)
    rw [join_cps] at ih ⊢
    show T l ++ "" ++ Str.join "" ((m :: r).map T) = T (l :: m :: r).flatten
    rw [ih]
    have e : (Str.ofString "") = T [] := by decide +kernel
    rw [e, T_app, T_app]
    simp
theorem join_signs (l : List Nat) : Txt.join "" (l.map fun c => (⟨#[c]⟩ : Str)) = T l := by
  have := join_T (l.map fun c => [c])
  rw [List.map_map] at this
  have key : ∀ m : List Nat, (m.map fun c => [c]).flatten = m := by
    intro m
    induction m with
    | nil => rfl
    | cons c r ih => rw [List.map_cons, List.flatten_cons, ih]; rfl
  have e := key l
  rw [e] at this
  exact this
theorem one_sum (l : List Nat) : ((l.map fun c => (⟨#[c]⟩ : Str)).map (·.length)).sum = l.length := by
  rw [List.map_map]
  induction l with
  | nil => rfl
  | cons c r ih => rw [List.map_cons, List.sum_cons, ih]; show 1 + r.length = r.length + 1; omega
theorem strOk_T {l : List Nat} (h : ∀ c ∈ l, c < 1114112) : PyData.strOk (T l) = true := by
  unfold PyData.strOk T
  simpa using h
local macro_rules | `(tactic| walk_at "dl") => `(tactic| simp only [exists_eq', exists_eq, List.take_nil, List.take_succ_cons, List.take_zero, decide_false, decide_true, dFld_ap, dSetF_ap, dAugF_ap, dMeth_ap, dMake_ap, dProp_ap, insOf_p, insOf_o, dNever_ap, bodyE_rt, bodyE_nx, dVar_ap, dC_ap, dOp_ap, dTB_ap, dTru_ap, dAnd_ap, dOr_ap, dNot_ap, dNotV_ap, dAndV_ap, dOrV_ap, dIf_ap, dIsN_ap, dNext_ap, dSeq_ap, dBreak_ap, dCont_ap, dDrop_ap, dRet_ap, dRetN_ap, dIfS_ap, dgName_ap, dgNil_ap, dgCons_ap, dgTup_ap, dgSub_ap, dAsg_ap, dPar_ap, dAug_ap, dNil_ap, dCons_ap, dTup_ap, dLst_ap, dLstM_ap, dCB_ap, dBM_ap, dBM0_ap, dCall_ap, dCallK_ap, dRev_s, dSl_ap, dPart_ap, dUn_ap, dChain_ap, dIsi_ap, dIsi2_ap, dIter_ap, dIterT_ap, dIterS_ap, dRng1_ap, dRng2_ap, rMulX_ii, rMulX_si, dFmt_ap, fmtD_s, fmtD_i, dJoined_ap, dJs_nil, dJs_cons, jStep_s, dCallK_ap, dNil_ap, rAdd_ii, rAdd_ss, rAdd_tt, rAdd_ll, rSub_ii, rInt2_ii, rNeg_i, rOrd_ii, rOrd_ss, rIadd_ii, rIadd_ss, rEqW_ii, rEqW_ss, rEqW_bb, rIn_ss, rIxD_l, rIxD_x, rIxD_t, rIxD_s, rIxD_p, lstOf_p, lstOf_l, lstOf_x, rSlD_s, rSlD_t, rSlD_l, rSlD_x, rLen_s, rLen_t, rLen_l, rLen_x, rLen_p, rAbs_i, rInt_i, rInt_b, rToListA_t, rToListA_l, rToListA_s, rToListM_t, rToListM_l, rToTup_t, rToTup_l, rToTup_p, rSum_ap, rAll_ap, rAny_ap, rStrN_i, rMax2_ii, rMin2_ii, rS0_ap, rS1_ap, tyD_s, tyD_p, tyD_l, rJoin_l, rJoin_p, rAppend_p, rPop_p, startD, wipeD, List.map_cons, List.map_nil, List.cons_append, List.nil_append, List.append_nil, List.length_cons, List.length_nil, List.getElem?_cons_zero, List.getElem?_cons_succ, List.set_cons_zero, List.set_cons_succ, List.replicate, Nat.reduceAdd, Nat.reduceSub, Nat.sub_zero, up_same, up_up, Bool.false_xor, Bool.true_xor, Bool.not_true, Bool.not_false, if_true, if_false, Bool.false_eq_true, and_true, true_and, ite_true, ite_false, reduceIte, reduceCtorEq, Option.some.injEq, exists_eq_left', exists_eq_left])
local macro_rules | `(tactic| walk_at "dlh") => `(tactic| simp only [exists_eq', exists_eq, List.take_nil, List.take_succ_cons, List.take_zero, decide_false, decide_true, dFld_ap, dSetF_ap, dAugF_ap, dMeth_ap, dMake_ap, dProp_ap, insOf_p, insOf_o, dNever_ap, bodyE_rt, bodyE_nx, dVar_ap, dC_ap, dOp_ap, dTB_ap, dTru_ap, dAnd_ap, dOr_ap, dNot_ap, dNotV_ap, dAndV_ap, dOrV_ap, dIf_ap, dIsN_ap, dNext_ap, dSeq_ap, dBreak_ap, dCont_ap, dDrop_ap, dRet_ap, dRetN_ap, dIfS_ap, dgName_ap, dgNil_ap, dgCons_ap, dgTup_ap, dgSub_ap, dAsg_ap, dPar_ap, dAug_ap, dNil_ap, dCons_ap, dTup_ap, dLst_ap, dLstM_ap, dCB_ap, dBM_ap, dBM0_ap, dCall_ap, dCallK_ap, dRev_s, dSl_ap, dPart_ap, dUn_ap, dChain_ap, dIsi_ap, dIsi2_ap, dIter_ap, dIterT_ap, dIterS_ap, dRng1_ap, dRng2_ap, rMulX_ii, rMulX_si, dFmt_ap, fmtD_s, fmtD_i, dJoined_ap, dJs_nil, dJs_cons, jStep_s, dCallK_ap, dNil_ap, rAdd_ii, rAdd_ss, rAdd_tt, rAdd_ll, rSub_ii, rInt2_ii, rNeg_i, rOrd_ii, rOrd_ss, rIadd_ii, rIadd_ss, rEqW_ii, rEqW_ss, rEqW_bb, rIn_ss, rIxD_l, rIxD_x, rIxD_t, rIxD_s, rIxD_p, lstOf_p, lstOf_l, lstOf_x, rSlD_s, rSlD_t, rSlD_l, rSlD_x, rLen_s, rLen_t, rLen_l, rLen_x, rLen_p, rAbs_i, rInt_i, rInt_b, rToListA_t, rToListA_l, rToListA_s, rToListM_t, rToListM_l, rToTup_t, rToTup_l, rToTup_p, rSum_ap, rAll_ap, rAny_ap, rStrN_i, rMax2_ii, rMin2_ii, rS0_ap, rS1_ap, tyD_s, tyD_p, tyD_l, rJoin_l, rJoin_p, rAppend_p, rPop_p, startD, wipeD, List.map_cons, List.map_nil, List.cons_append, List.nil_append, List.append_nil, List.length_cons, List.length_nil, List.getElem?_cons_zero, List.getElem?_cons_succ, List.set_cons_zero, List.set_cons_succ, List.replicate, Nat.reduceAdd, Nat.reduceSub, Nat.sub_zero, up_same, up_up, Bool.false_xor, Bool.true_xor, Bool.not_true, Bool.not_false, if_true, if_false, Bool.false_eq_true, and_true, true_and, ite_true, ite_false, reduceIte, reduceCtorEq, Option.some.injEq, exists_eq_left', exists_eq_left, *])
local macro_rules | `(tactic| walk_at "len") => `(tactic| (intro ds M Q E h; first | (obtain ⟨_, rfl, _⟩ := h; rfl) | (obtain ⟨_, _, rfl, _⟩ := h; rfl) | (obtain ⟨_, _, _, rfl, _⟩ := h; rfl) | (obtain ⟨_, _, _, _, rfl, _⟩ := h; rfl) | (obtain ⟨_, _, _, _, _, rfl, _⟩ := h; rfl) | (obtain ⟨_, _, _, _, _, _, rfl, _⟩ := h; rfl) | (obtain ⟨_, _, _, _, _, _, _, rfl, _⟩ := h; rfl) | (obtain ⟨_, _, _, _, _, _, _, _, rfl, _⟩ := h; rfl) | (obtain ⟨_, _, _, _, _, _, _, _, _, rfl, _⟩ := h; rfl)))
/-! ### the promises -/
abbrev sp_swapped : DSp := fun ds M Q _ => ∃ c : Nat, ds = [.str ⟨#[c]⟩] ∧ c < 128 ∧ Q (.str ⟨#[swC c]⟩) M
/-- the law's box: marks, place, a great number, a seed -/
def BoxOk (mo : MO) : Prop := ∃ (ms : List Int) (i g s : Int), mo = .lst [.lst (ms.map D.int), .int i, .int g, .int s] ∧ ms.length ≤ 63 ∧ 0 ≤ i ∧ 0 ≤ g ∧ 0 ≤ s ∧ s < 2147483647
abbrev sp__law_begin : DSp := fun ds M Q _ => ∃ ms : List Int, ds = [.lsx (ms.map D.int)] ∧ ms.length ≤ 63 ∧ ∀ a mo, M a = none → BoxOk mo → Q (.ptr a) (up M a mo)
abbrev sp__law_draw : DSp := fun ds M Q _ => ∃ (a : Addr) (n : Int) (mo : MO), ds = [.ptr a, .int n] ∧ 1 ≤ n ∧ n < 2 ^ 200 ∧ M a = some mo ∧ BoxOk mo ∧ ∀ r mo', 0 ≤ r → r < n → BoxOk mo' → Q (.int r) (up M a mo')
abbrev sp__law_any : DSp := fun ds M Q _ => ∃ (a : Addr) (xs : List D) (mo : MO), ds = [.ptr a, .lst xs] ∧ 1 ≤ xs.length ∧ xs.length ≤ 1000000 ∧ M a = some mo ∧ BoxOk mo ∧ ∀ d mo', d ∈ xs → BoxOk mo' → Q d (up M a mo')
abbrev sp_opposite : DSp := fun ds M Q _ => ∃ l : List Nat, ds = [.str (T l)] ∧ (∀ x ∈ l, x < 128) ∧ l.length ≤ 10000 ∧ Q (.str (T (l.reverse.map swC))) M
def abm : List Nat := [97, 98, 109, 116, 120, 121, 122]
def Lets (l : List Nat) : Prop := l.Nodup ∧ ∀ c ∈ l, c ∈ abm
theorem Lets.isLo {l : List Nat} (h : Lets l) : ∀ c ∈ l, isLo c = true := fun c hc => by
  have : ∀ c ∈ abm, PRE.isLo c = true := by decide
  exact this c (h.2 c hc)
/-- a letter and its opposite, one behind the other -/
def sgn (l : List Nat) : List Nat := l.flatMap fun c => [c, c - 32]
abbrev sp__law_letters : DSp := fun ds M Q _ => ∃ (a : Addr) (n : Nat) (mo : MO), ds = [.ptr a, .int n] ∧ n ≤ 7 ∧ M a = some mo ∧ BoxOk mo ∧ ∀ l mo', Lets l → l.length = n → BoxOk mo' → Q (.str (T l)) (up M a mo')
abbrev sp__law_signs : DSp := fun ds M Q _ => ∃ l : List Nat, ds = [.str (T l)] ∧ (∀ c ∈ l, isLo c = true) ∧ l.length ≤ 100 ∧ Q (.str (T (sgn l))) M
abbrev sp__law_some_word : DSp := fun ds M Q _ => ∃ (a : Addr) (l : List Nat) (m : Nat) (mo : MO), ds = [.ptr a, .str (T l), .int m] ∧ (∀ c ∈ l, isLo c = true) ∧ 1 ≤ l.length ∧ l.length ≤ 100 ∧ m ≤ 10000 ∧ M a = some mo ∧ BoxOk mo ∧ ∀ w mo', w.length ≤ m → (∀ c ∈ w, c ∈ sgn l) → BoxOk mo' → Q (.str (T w)) (up M a mo')
def t_swapped : DTS :=
  (dRet (dIf (dTB (dOp (rInD false) (dVar 0) (dC (.str "abcdefghijklmnopqrstuvwxyz")))) (dBM0 "str" rUpper (dVar 0)) (dBM0 "str" rLower (dVar 0))))
def t_opposite : DTS :=
  (dRet (dBM "str" rJoin (dC (.str "")) (dCons (dLc (dIterS (dRev (dVar 0))) (dgName 1) dYes (dCall sp_swapped (dCons (dVar 1) dNil)) [1]) dNil)))
def t__law_begin : DTS :=
  (dSeq (dAsg (dLc (dIter (dSl (dVar 0) (fun _ M Q => Q none M) (dPart (dC (.int 63))))) (dgName 3) dYes (dCB rInt (dCons (dVar 3) dNil)) [3]) (dgName 1))
  (dSeq (dAsg (dOp rAdd (dC (.int 3830)) (dOp rMulX (dC (.int 71)) (dCB rLen (dCons (dVar 1) dNil)))) (dgName 2))
  (dSeq (dFor (dIter (dVar 1)) (dgName 3) (dAsg (dOp rMod (dOp rAdd (dOp rAdd (dOp rMulX (dVar 2) (dC (.int 45061))) (dOp rMod (dCB rInt (dCons (dVar 3) dNil)) (dC (.int 2147483579)))) (dC (.int 31))) (dC (.int 2147483647))) (dgName 2)))
  (dRet (dLstM (dCons (dVar 1) (dCons (dC (.int 0)) (dCons (dC (.int 0)) (dCons (dVar 2) dNil)))))))))
def t__law_draw : DTS :=
  (dSeq (dIfS (dAnd (dTB (dOp (rEqW false) (dOp rIxD (dVar 0) (dC (.int 2))) (dC (.int 0)))) (dTB (dOp rLt (dOp rIxD (dVar 0) (dC (.int 1))) (dCB rLen (dCons (dOp rIxD (dVar 0) (dC (.int 0))) dNil))))) (dSeq (dAsg (dOp rIxD (dOp rIxD (dVar 0) (dC (.int 0))) (dOp rIxD (dVar 0) (dC (.int 1)))) (dgName 2))
  (dSeq (dAsg (dOp rAdd (dOp rIxD (dVar 0) (dC (.int 1))) (dC (.int 1))) (dgSub (dVar 0) (dC (.int 1))))
  (dIfS (dTB (dOp rGe (dVar 2) (dOp rPow (dC (.int 10)) (dC (.int 18))))) (dAsg (dVar 2) (dgSub (dVar 0) (dC (.int 2)))) (dAsg (dOp rMod (dOp rAdd (dOp rAdd (dOp rMulX (dOp rIxD (dVar 0) (dC (.int 3))) (dC (.int 40009))) (dOp rMulX (dOp rMod (dCB rInt (dCons (dVar 2) dNil)) (dC (.int 2147483587))) (dC (.int 7919)))) (dC (.int 13))) (dC (.int 2147483647))) (dgSub (dVar 0) (dC (.int 3))))))) dNext)
  (dSeq (dIfS (dTB (dOp rGt (dOp rIxD (dVar 0) (dC (.int 2))) (dC (.int 0)))) (dSeq (dAsg (dOp rMod (dCB rInt (dCons (dOp rIxD (dVar 0) (dC (.int 2))) dNil)) (dVar 1)) (dgName 3))
  (dSeq (dAsg (dOp rFdiv (dOp rIxD (dVar 0) (dC (.int 2))) (dVar 1)) (dgSub (dVar 0) (dC (.int 2))))
  (dRet (dVar 3)))) dNext)
  (dSeq (dAsg (dOp rIxD (dVar 0) (dC (.int 3))) (dgName 4))
  (dSeq (dAsg (dOp rMod (dOp rAdd (dOp rAdd (dOp rMulX (dVar 4) (dVar 4)) (dOp rMulX (dVar 4) (dC (.int 61001)))) (dC (.int 911))) (dC (.int 2147483647))) (dgSub (dVar 0) (dC (.int 3))))
  (dRet (dOp rMod (dOp rAdd (dOp rFdiv (dOp rIxD (dVar 0) (dC (.int 3))) (dC (.int 89))) (dOp rMulX (dOp rMod (dCB rInt (dCons (dOp rIxD (dVar 0) (dC (.int 3))) dNil)) (dC (.int 7907))) (dC (.int 59)))) (dVar 1)))))))
def t__law_any : DTS :=
  (dRet (dOp rIxD (dVar 1) (dCall sp__law_draw (dCons (dVar 0) (dCons (dCB rLen (dCons (dVar 1) dNil)) dNil)))))
def t__law_letters : DTS :=
  (dSeq (dAsg (dC (.str "")) (dgName 2))
  (dSeq (dFor (dRng1 (dCons (dVar 1) dNil)) (dgName 3) (dSeq (dAsg (dLc (dIterS (dC (.str "abmtxyz"))) (dgName 5) (dTB (dOp (rInD true) (dVar 5) (dVar 2))) (dVar 5) [5]) (dgName 4))
  (dAsg (dOp rAdd (dVar 2) (dCall sp__law_any (dCons (dVar 0) (dCons (dVar 4) dNil)))) (dgName 2))))
  (dRet (dVar 2))))
def t__law_signs : DTS :=
  (dRet (dBM "str" rJoin (dC (.str "")) (dCons (dLc (dIterS (dVar 0)) (dgName 1) dYes (dOp rAdd (dVar 1) (dBM0 "str" rUpper (dVar 1))) [1]) dNil)))
def t__law_some_word : DTS :=
  (dSeq (dAsg (dCall sp__law_signs (dCons (dVar 1) dNil)) (dgName 3))
  (dRet (dBM "str" rJoin (dC (.str "")) (dCons (dLc (dRng1 (dCons (dCall sp__law_draw (dCons (dVar 0) (dCons (dOp rAdd (dVar 2) (dC (.int 1))) dNil))) dNil)) (dgName 4) dYes (dCall sp__law_any (dCons (dVar 0) (dCons (dCB rToListA (dCons (dVar 3) dNil)) dNil))) [4]) dNil))))
def t__law_same (r__law_same : DSp) : DTS :=
  (dSeq (dIfS (dTru (dIsi2 "list" "tuple" (dVar 1))) (dSeq (dIfS (dOr (dTB (dOp (rEqW true) (dIsi "list" (dVar 0)) (dIsi "list" (dVar 1)))) (dTB (dOp (rEqW true) (dIsi "tuple" (dVar 0)) (dIsi "tuple" (dVar 1))))) (dRet (dC (.bl false))) dNext)
  (dRet (dAndV (dOp (rEqW false) (dCB rLen (dCons (dVar 0) dNil)) (dCB rLen (dCons (dVar 1) dNil))) (dCB rAll (dCons (dLc (dRng1 (dCons (dCB rLen (dCons (dVar 1) dNil)) dNil)) (dgName 2) dYes (dCall r__law_same (dCons (dOp rIxD (dVar 0) (dVar 2)) (dCons (dOp rIxD (dVar 1) (dVar 2)) dNil))) [2]) dNil))))) dNext)
  (dSeq (dIfS (dOr (dTB (dIsN false (dVar 1))) (dTB (dIsN false (dVar 0)))) (dRet (dAndV (dIsN false (dVar 0)) (dIsN false (dVar 1)))) dNext)
  (dSeq (dIfS (dOr (dTB (dOp (rEqW true) (dIsi "bool" (dVar 1)) (dIsi "bool" (dVar 0)))) (dTB (dOp (rEqW true) (dIsi "int" (dVar 1)) (dIsi "int" (dVar 0))))) (dRet (dC (.bl false))) dNext)
  (dRet (dAndV (dOp (rEqW false) (dIsi "str" (dVar 1)) (dIsi "str" (dVar 0))) (dOp (rEqW false) (dVar 0) (dVar 1)))))))
theorem rd_swapped {K : PySem.W.Frag} : ∀ ds M Q E0, sp_swapped ds M Q E0 → t_swapped (bodyE K Q) (startD ["character"] ds) M := by
  rintro ds M Q E0 ⟨c, rfl, hc, q⟩
  unfold t_swapped
  walk_at "dl"
  rw [lower_in, lo1 hc, up1 hc]
  refine ite2 (fun e => ⟨len1 c, Fin.same ?_⟩) (fun e => ⟨len1 c, Fin.same ?_⟩)
  · rw [show upC c = swC c by simp [swC, e]]; exact q
  · rw [show loC c = swC c by simp [swC, e]]; exact q
theorem fmod_pos {a b : Int} (h : 0 < b) : 0 ≤ a.fmod b ∧ a.fmod b < b := by
  rw [Int.fmod_eq_emod_of_nonneg a (by omega)]
  exact ⟨Int.emod_nonneg a (by omega), Int.emod_lt_of_pos a h⟩
theorem cmulS {i j : Int} (h : -(2 ^ 64) < i ∧ i < 2 ^ 64) : CMulA i j := .inl (.inl h)
theorem cmulR {i j : Int} (h : -(2 ^ 64) < j ∧ j < 2 ^ 64) : CMulA i j := .inl (.inr h)
theorem cdiv {i j : Int} (h : 0 < j) (h2 : j < 2 ^ 200) : CDivA i j := .inr (wide_div (b := 200) h (by omega) (by decide) (by decide))
theorem rd__law_begin {K : PySem.W.Frag} : ∀ ds M Q E0, sp__law_begin ds M Q E0 → t__law_begin (bodyE K Q) (startD ["_law_script", "_law_marks", "_law_seed", "_law_cell"] ds) M := by
  rintro ds M Q E0 ⟨ms, rfl, hz, q⟩
  unfold t__law_begin
  walk_at "dl"
  have cut : DL.cutD (ms.map D.int) none (some 63) = ms.map D.int := by
    unfold DL.cutD
    rw [HT.sIx_none, show HT.sIx (ms.map D.int).length (ms.map D.int).length (some 63) = min 63 (ms.map D.int).length from HT.sIx_nat _ _ 63]
    rw [List.drop_zero, List.take_of_length_le (by rw [List.length_map]; omega)]
  refine lc_m (M1 := M) (kp := fun _ => True) ms D.int D.int (fun R h => ?_) True.intro (line (by omega)) (fun c hc R h => ?_) ?_
  · walk_at "dl"
    rw [cut]
    exact h
  · walk_at "dl"
    exact h
  · walk_at "dl"
    refine ⟨cmulS (by decide), ?_⟩
    refine for_pre (M1 := M) (kp := fun _ => True) ms D.int (fun _ env M' => M' = M ∧ ∃ (s : Int) (d : Option D), 0 ≤ s ∧ s < 2147483647 ∧ env = [some (.lsx (ms.map D.int)), some (.lst (ms.map D.int)), some (.int s), d]) (fun R h => ?_) ?_ (fun _ _ _ _ => True.intro) ?_ ?_
    · walk_at "dl"
      exact h
    · refine ⟨rfl, _, _, ?_, ?_, rfl⟩ <;> simp only [List.length_map] <;> omega
    · rintro pre x post env M' e ⟨rfl, s, d, h0, h1, rfl⟩
      walk_at "dl"
      refine ⟨cmulS (by omega), by decide, by decide, _, _, ?_, ?_, rfl⟩
      · exact (fmod_pos (by decide)).1
      · exact (fmod_pos (a := s * 45061 + x.fmod 2147483579 + 31) (b := 2147483647) (by decide)).2
    · rintro env M' ⟨rfl, s, d, h0, h1, rfl⟩
      walk_at "dl"
      exact ⟨line (by decide), fun p hp => Fin.same (q p _ hp ⟨ms, 0, 0, s, rfl, hz, by decide, by decide, h0, h1⟩)⟩
theorem atI4_0 {a b c d : D} : atI [a, b, c, d] 0 = some a := rfl
theorem atI4_1 {a b c d : D} : atI [a, b, c, d] 1 = some b := rfl
theorem atI4_2 {a b c d : D} : atI [a, b, c, d] 2 = some c := rfl
theorem atI4_3 {a b c d : D} : atI [a, b, c, d] 3 = some d := rfl
theorem set4_1 {a b c d e : D} : ([a, b, c, d] : List D).set 1 e = [a, e, c, d] := rfl
theorem set4_2 {a b c d e : D} : ([a, b, c, d] : List D).set 2 e = [a, b, e, d] := rfl
theorem set4_3 {a b c d e : D} : ([a, b, c, d] : List D).set 3 e = [a, b, c, e] := rfl
theorem draw_tail {K : PySem.W.Frag} {Q : DQ} {M : Mp} {a : Addr} {n : Int} {ms : List Int} (hn : 1 ≤ n) (hn2 : n < 2 ^ 200) (hz : ms.length ≤ 63)
    (q : ∀ (r : Int) (mo' : MO), 0 ≤ r → r < n → BoxOk mo' → Q (D.int r) (up M a mo')) {i g s c1 c2 c3 c4 c5 : Int} (hi : 0 ≤ i) (hg : 0 ≤ g) (h3 : 0 ≤ s) (h4 : s < 2147483647)
    (k3 : 0 < c3) (k3' : c3 < 2 ^ 200) (k4 : 0 < c4) (k4' : c4 < 2 ^ 60) :
    (if decide (0 < g) = true then
      n ≠ 0 ∧ CDivA g n ∧ DL.Fin K Q (D.int (g.fmod n)) (up M a (MO.lst [D.lst (List.map D.int ms), D.int i, D.int (g.fdiv n), D.int s]))
    else
      CMulA s s ∧ CMulA s c1 ∧ (2147483647 : Int) ≠ 0 ∧ CDivA ((s * s + s * c1 + c2).fmod 2147483647) c3 ∧ c4 ≠ 0 ∧
        CMulA (((s * s + s * c1 + c2).fmod 2147483647).fmod c4) c5 ∧ n ≠ 0 ∧
          DL.Fin K Q (D.int ((((s * s + s * c1 + c2).fmod 2147483647).fdiv c3 + ((s * s + s * c1 + c2).fmod 2147483647).fmod c4 * c5).fmod n))
            (up M a (MO.lst [D.lst (List.map D.int ms), D.int i, D.int g, D.int ((s * s + s * c1 + c2).fmod 2147483647)]))) := by
  refine ite2 (fun e => ?_) (fun _ => ?_)
  · have e' : 0 < g := of_decide_eq_true e
    refine ⟨by omega, cdiv (by omega) hn2, Fin.same (q _ _ (fmod_pos (by omega)).1 (fmod_pos (by omega)).2 ⟨ms, i, g.fdiv n, s, rfl, hz, hi, ?_, h3, h4⟩)⟩
    exact Int.fdiv_nonneg (by omega) (by omega)
  · have f := fmod_pos (a := s * s + s * c1 + c2) (b := 2147483647) (by decide)
    have f2 := fmod_pos (a := (s * s + s * c1 + c2).fmod 2147483647) (b := c4) k4
    exact ⟨cmulS (by omega), cmulS (by omega), by decide, cdiv k3 k3', by omega, cmulS (by omega), by omega,
      Fin.same (q _ _ (fmod_pos (by omega)).1 (fmod_pos (by omega)).2 ⟨ms, i, g, _, rfl, hz, hi, hg, f.1, f.2⟩)⟩
theorem cpow18 : CPow 10 18 := ⟨by decide, by decide, by decide⟩
theorem rd__law_draw {K : PySem.W.Frag} : ∀ ds M Q E0, sp__law_draw ds M Q E0 → t__law_draw (bodyE K Q) (startD ["_law_box", "_law_many", "_law_cell", "_law_digit", "_law_seed"] ds) M := by
  rintro ds M Q E0 ⟨a, n, mo, rfl, hn, hn2, hM, ⟨ms, i, g, s, rfl, hz, h1, h2, h3, h4⟩, q⟩
  unfold t__law_draw
  have k2 : ixN 4 2 = some 2 := rfl
  have k1 : ixN 4 1 = some 1 := rfl
  have k3 : ixN 4 3 = some 3 := rfl
  have b0 := @atI4_0
  have b1 := @atI4_1
  have b2 := @atI4_2
  have b3 := @atI4_3
  have c1 := @set4_1
  have c2 := @set4_2
  have c3 := @set4_3
  walk_at "dlh"
  refine ite2 (fun e => ?_) (fun e => ?_)
  · refine ite2 (fun e2 => ?_) (fun e2 => ?_)
    · obtain ⟨k, rfl⟩ : ∃ k : Nat, i = k := ⟨i.toNat, by omega⟩
      have e3 : k < ms.length := by have := of_decide_eq_true e2; rw [List.length_map] at this; omega
      refine ⟨.int ms[k], ?_, ?_⟩
      · exact atI_nat (by rw [List.getElem?_map, List.getElem?_eq_getElem e3]; rfl)
      · walk_at "dlh"
        refine ⟨cpow18, ite2 (fun e4 => ?_) (fun e4 => ?_)⟩
        · have e5 : (10 : Int) ^ 18 ≤ ms[k] := of_decide_eq_true e4
          exact draw_tail hn hn2 hz q (by omega) (by omega) h3 h4 (by decide) (by decide) (by decide) (by decide)
        · have f := fmod_pos (a := ms[k]) (b := 2147483587) (by decide)
          exact ⟨cmulS (by omega), by decide, cmulS (by omega), by decide, draw_tail hn hn2 hz q (by omega) h2 (fmod_pos (by decide)).1 (fmod_pos (by decide)).2 (by decide) (by decide) (by decide) (by decide)⟩
    · exact draw_tail hn hn2 hz q h1 h2 h3 h4 (by decide) (by decide) (by decide) (by decide)
  · exact draw_tail hn hn2 hz q h1 h2 h3 h4 (by decide) (by decide) (by decide) (by decide)
theorem rd__law_any {K : PySem.W.Frag} : ∀ ds M Q E0, sp__law_any ds M Q E0 → t__law_any (bodyE K Q) (startD ["_law_box", "_law_some"] ds) M := by
  rintro ds M Q E0 ⟨a, xs, mo, rfl, hn, hn2, hM, hb, q⟩
  unfold t__law_any
  walk_at "dlh"
  refine ⟨a, xs.length, mo, rfl, by omega, by omega, hM, hb, fun r mo' h0 h1 hb' => ?_⟩
  obtain ⟨k, rfl⟩ : ∃ k : Nat, r = k := ⟨r.toNat, by omega⟩
  have hk : k < xs.length := by omega
  walk_at "dlh"
  exact ⟨xs[k], atI_nat (List.getElem?_eq_getElem hk), Fin.same (q _ _ (List.getElem_mem hk) hb')⟩
end PRE
namespace PRE
open PySem PySem.Spec PyProof.Rows L2 DL
local macro_rules | `(tactic| walk_at "dl") => `(tactic| simp only [exists_eq', exists_eq, List.take_nil, List.take_succ_cons, List.take_zero, decide_false, decide_true, dFld_ap, dSetF_ap, dAugF_ap, dMeth_ap, dMake_ap, dProp_ap, insOf_p, insOf_o, dNever_ap, bodyE_rt, bodyE_nx, dVar_ap, dC_ap, dOp_ap, dTB_ap, dTru_ap, dAnd_ap, dOr_ap, dNot_ap, dNotV_ap, dAndV_ap, dOrV_ap, dIf_ap, dIsN_ap, dNext_ap, dSeq_ap, dBreak_ap, dCont_ap, dDrop_ap, dRet_ap, dRetN_ap, dIfS_ap, dgName_ap, dgNil_ap, dgCons_ap, dgTup_ap, dgSub_ap, dAsg_ap, dPar_ap, dAug_ap, dNil_ap, dCons_ap, dTup_ap, dLst_ap, dLstM_ap, dCB_ap, dBM_ap, dBM0_ap, dCall_ap, dCallK_ap, dRev_s, dSl_ap, dPart_ap, dUn_ap, dChain_ap, dIsi_ap, dIsi2_ap, dIter_ap, dIterT_ap, dIterS_ap, dRng1_ap, dRng2_ap, rMulX_ii, rMulX_si, dFmt_ap, fmtD_s, fmtD_i, dJoined_ap, dJs_nil, dJs_cons, jStep_s, dCallK_ap, dNil_ap, rAdd_ii, rAdd_ss, rAdd_tt, rAdd_ll, rSub_ii, rInt2_ii, rNeg_i, rOrd_ii, rOrd_ss, rIadd_ii, rIadd_ss, rEqW_ii, rEqW_ss, rEqW_bb, rIn_ss, rIxD_l, rIxD_x, rIxD_t, rIxD_s, rIxD_p, lstOf_p, lstOf_l, lstOf_x, rSlD_s, rSlD_t, rSlD_l, rSlD_x, rLen_s, rLen_t, rLen_l, rLen_x, rLen_p, rAbs_i, rInt_i, rInt_b, rToListA_t, rToListA_l, rToListA_s, rToListM_t, rToListM_l, rToTup_t, rToTup_l, rToTup_p, rSum_ap, rAll_ap, rAny_ap, rStrN_i, rMax2_ii, rMin2_ii, rS0_ap, rS1_ap, tyD_s, tyD_p, tyD_l, rJoin_l, rJoin_p, rAppend_p, rPop_p, startD, wipeD, List.map_cons, List.map_nil, List.cons_append, List.nil_append, List.append_nil, List.length_cons, List.length_nil, List.getElem?_cons_zero, List.getElem?_cons_succ, List.set_cons_zero, List.set_cons_succ, List.replicate, Nat.reduceAdd, Nat.reduceSub, Nat.sub_zero, up_same, up_up, Bool.false_xor, Bool.true_xor, Bool.not_true, Bool.not_false, if_true, if_false, Bool.false_eq_true, and_true, true_and, ite_true, ite_false, reduceIte, reduceCtorEq, Option.some.injEq, exists_eq_left', exists_eq_left])
local macro_rules | `(tactic| walk_at "dlh") => `(tactic| simp only [exists_eq', exists_eq, List.take_nil, List.take_succ_cons, List.take_zero, decide_false, decide_true, dFld_ap, dSetF_ap, dAugF_ap, dMeth_ap, dMake_ap, dProp_ap, insOf_p, insOf_o, dNever_ap, bodyE_rt, bodyE_nx, dVar_ap, dC_ap, dOp_ap, dTB_ap, dTru_ap, dAnd_ap, dOr_ap, dNot_ap, dNotV_ap, dAndV_ap, dOrV_ap, dIf_ap, dIsN_ap, dNext_ap, dSeq_ap, dBreak_ap, dCont_ap, dDrop_ap, dRet_ap, dRetN_ap, dIfS_ap, dgName_ap, dgNil_ap, dgCons_ap, dgTup_ap, dgSub_ap, dAsg_ap, dPar_ap, dAug_ap, dNil_ap, dCons_ap, dTup_ap, dLst_ap, dLstM_ap, dCB_ap, dBM_ap, dBM0_ap, dCall_ap, dCallK_ap, dRev_s, dSl_ap, dPart_ap, dUn_ap, dChain_ap, dIsi_ap, dIsi2_ap, dIter_ap, dIterT_ap, dIterS_ap, dRng1_ap, dRng2_ap, rMulX_ii, rMulX_si, dFmt_ap, fmtD_s, fmtD_i, dJoined_ap, dJs_nil, dJs_cons, jStep_s, dCallK_ap, dNil_ap, rAdd_ii, rAdd_ss, rAdd_tt, rAdd_ll, rSub_ii, rInt2_ii, rNeg_i, rOrd_ii, rOrd_ss, rIadd_ii, rIadd_ss, rEqW_ii, rEqW_ss, rEqW_bb, rIn_ss, rIxD_l, rIxD_x, rIxD_t, rIxD_s, rIxD_p, lstOf_p, lstOf_l, lstOf_x, rSlD_s, rSlD_t, rSlD_l, rSlD_x, rLen_s, rLen_t, rLen_l, rLen_x, rLen_p, rAbs_i, rInt_i, rInt_b, rToListA_t, rToListA_l, rToListA_s, rToListM_t, rToListM_l, rToTup_t, rToTup_l, rToTup_p, rSum_ap, rAll_ap, rAny_ap, rStrN_i, rMax2_ii, rMin2_ii, rS0_ap, rS1_ap, tyD_s, tyD_p, tyD_l, rJoin_l, rJoin_p, rAppend_p, rPop_p, startD, wipeD, List.map_cons, List.map_nil, List.cons_append, List.nil_append, List.append_nil, List.length_cons, List.length_nil, List.getElem?_cons_zero, List.getElem?_cons_succ, List.set_cons_zero, List.set_cons_succ, List.replicate, Nat.reduceAdd, Nat.reduceSub, Nat.sub_zero, up_same, up_up, Bool.false_xor, Bool.true_xor, Bool.not_true, Bool.not_false, if_true, if_false, Bool.false_eq_true, and_true, true_and, ite_true, ite_false, reduceIte, reduceCtorEq, Option.some.injEq, exists_eq_left', exists_eq_left, *])
local macro_rules | `(tactic| walk_at "len") => `(tactic| (intro ds M Q E h; first | (obtain ⟨_, rfl, _⟩ := h; rfl) | (obtain ⟨_, _, rfl, _⟩ := h; rfl) | (obtain ⟨_, _, _, rfl, _⟩ := h; rfl) | (obtain ⟨_, _, _, _, rfl, _⟩ := h; rfl) | (obtain ⟨_, _, _, _, _, rfl, _⟩ := h; rfl) | (obtain ⟨_, _, _, _, _, _, rfl, _⟩ := h; rfl) | (obtain ⟨_, _, _, _, _, _, _, rfl, _⟩ := h; rfl) | (obtain ⟨_, _, _, _, _, _, _, _, rfl, _⟩ := h; rfl) | (obtain ⟨_, _, _, _, _, _, _, _, _, rfl, _⟩ := h; rfl)))
theorem strE : Str.ofString "" = T [] := by decide +kernel
theorem abmE : Str.ofString "abmtxyz" = T abm := by decide +kernel
theorem nodup_sub : ∀ (a b : List Nat), a.Nodup → a ⊆ b → a.length ≤ b.length
  | [], _, _, _ => Nat.zero_le _
  | x :: a, b, h, hs => by
    have hx := List.nodup_cons.mp h
    have := nodup_sub a (b.erase x) hx.2 fun y hy => (List.mem_erase_of_ne fun e => by subst e; exact hx.1 hy).mpr (hs (List.mem_cons_of_mem _ hy))
    have hb : x ∈ b := hs List.mem_cons_self
    rw [List.length_erase_of_mem hb] at this
    have := List.length_pos_of_mem hb
    simp only [List.length_cons]
    omega
theorem abm_left {l : List Nat} (h : Lets l) (hz : l.length < 7) : (abm.filter fun c => decide (c ∉ l)) ≠ [] := fun e => by
  have h2 : abm ⊆ l := fun c hc => by
    have := List.filter_eq_nil_iff.mp e c hc
    simpa using this
  have h3 : abm.Nodup := by decide
  have h4 := nodup_sub _ _ h3 h2
  simp only [abm, List.length_cons, List.length_nil] at h4
  omega
theorem rd__law_letters {K : PySem.W.Frag} : ∀ ds M Q E0, sp__law_letters ds M Q E0 → t__law_letters (bodyE K Q) (startD ["_law_box", "_law_many", "_law_found", "_law_k", "_law_left", "_law_letter"] ds) M := by
  rintro ds M Q E0 ⟨a, n, mo, rfl, hn, hM, hb, q⟩
  unfold t__law_letters
  walk_at "dlh"
  refine for_pre (M1 := M) (kp := fun _ => True) (List.range n) (fun i => D.int (0 + (i : Nat))) (fun pre env M' => ∃ l mo' d1 d2 d3, Lets l ∧ l.length = pre.length ∧ BoxOk mo' ∧ M' = up M a mo' ∧ env = [some (.ptr a), some (.int n), some (.str (T l)), d1, d2, d3]) (fun R h => ?_) ?_ (fun _ _ _ _ => True.intro) ?_ ?_
  · walk_at "dl"
    exact ⟨by omega, h⟩
  · exact ⟨[], mo, none, none, none, ⟨List.nodup_nil, fun _ h => absurd h List.not_mem_nil⟩, rfl, hb, (up_id hM).symm, by rw [strE]⟩
  · rintro pre x post env M' e ⟨l, mo', d1, d2, d3, hl, hz, hb', rfl, rfl⟩
    have hz7 : l.length < 7 := by
      have := congrArg List.length e
      simp only [List.length_range, List.length_append, List.length_cons] at this
      omega
    walk_at "dl"
    refine lc_fm (M1 := up M a mo') (kp := fun _ => True) abm (fun c => D.str ⟨#[c]⟩) (fun c => D.str ⟨#[c]⟩) (fun c => decide (c ∉ l)) (fun R h => ?_) True.intro (line (by decide)) (fun c hc R S h1 h2 => ?_) ?_
    · walk_at "dl"
      rw [abmE, sgs_T]
      exact h
    · walk_at "dl"
      rw [strIn_sign, T_cps, ← decide_not]
      by_cases hcl : c ∉ l
      · rw [decide_eq_true hcl] at h1 ⊢; exact h1 rfl
      · rw [decide_eq_false hcl] at h2 ⊢; exact h2 rfl
    · refine ⟨a, _, mo', rfl, ?_, ?_, up_same, hb', fun d mo2 hd hb2 => ?_⟩
      · rw [List.length_map]; exact List.length_pos_iff.mpr (abm_left hl hz7)
      · rw [List.length_map]; exact Nat.le_trans (List.length_filter_le _ _) (by decide)
      · obtain ⟨c, hc, rfl⟩ := List.mem_map.mp hd
        obtain ⟨hc1, hc2⟩ := List.mem_filter.mp hc
        have hc3 : c ∉ l := of_decide_eq_true hc2
        walk_at "dl"
        rw [T_one, T_app]
        refine ⟨by rw [T_len, T_len]; exact line (by simp only [List.length_cons, List.length_nil]; omega), l ++ [c], mo2, _, _, _, ⟨?_, ?_⟩, ?_, hb2, rfl, rfl⟩
        · exact List.nodup_append.mpr ⟨hl.1, by simp, fun x hx y hy => by rw [List.mem_singleton] at hy; subst hy; rintro rfl; exact hc3 hx⟩
        · intro x hx
          rcases List.mem_append.mp hx with hx | hx
          · exact hl.2 x hx
          · rw [List.mem_singleton] at hx; subst hx; exact hc1
        · simp [hz]
  · rintro env M' ⟨l, mo', d1, d2, d3, hl, hz, hb', rfl, rfl⟩
    walk_at "dl"
    exact Fin.same (q l mo' hl (by rw [hz, List.length_range]) hb')
theorem isLo_lt {c : Nat} (h : isLo c = true) : 97 ≤ c ∧ c ≤ 122 := of_decide_eq_true h
theorem up_lo {c : Nat} (h : isLo c = true) : Txt.upper ⟨#[c]⟩ = ⟨#[c - 32]⟩ := by
  have := isLo_lt h
  rw [up1 (by omega)]
  simp [upC, this]
theorem sgn_len (l : List Nat) : (sgn l).length = 2 * l.length := by
  induction l with
  | nil => rfl
  | cons c r ih =>
    unfold sgn at ih ⊢
    rw [List.flatMap_cons, List.length_append, ih]
    simp only [List.length_cons, List.length_nil]; omega
theorem rd__law_signs {K : PySem.W.Frag} : ∀ ds M Q E0, sp__law_signs ds M Q E0 → t__law_signs (bodyE K Q) (startD ["_law_letters_here", "_law_letter"] ds) M := by
  rintro ds M Q E0 ⟨l, rfl, hl, hz, q⟩
  unfold t__law_signs
  walk_at "dlh"
  refine lc_m (M1 := M) (kp := fun _ => True) l (fun c => D.str ⟨#[c]⟩) (fun c => D.str (T [c, c - 32])) (fun R h => ?_) True.intro (line (by omega)) (fun c hc R h => ?_) ?_
  · walk_at "dl"
    rw [sgs_T]
    exact h
  · walk_at "dl"
    refine ⟨len1 c, ?_⟩
    rw [up_lo (hl c hc), T_one, T_one, T_app]
    exact ⟨by rw [T_len, T_len]; exact line (by simp only [List.length_cons, List.length_nil]; omega), h⟩
  · walk_at "dl"
    refine ⟨(l.map fun c => [c, c - 32]).map T, ?_, ?_, ?_⟩
    · rw [List.map_map, List.map_map]; rfl
    · rw [strE, T_len]
      have : (((l.map fun c => [c, c - 32]).map T).map fun x : Str => x.length).sum = 2 * l.length := by
        clear hl hz q
        induction l with
        | nil => rfl
        | cons c r ih => rw [List.map_cons, List.map_cons, List.map_cons, List.sum_cons, ih, List.length_cons, T_len]; simp only [List.length_cons, List.length_nil]; omega
      rw [this]; simp only [List.length_nil]; omega
    · rw [join_T]
      exact Fin.same q
theorem rd__law_some_word {K : PySem.W.Frag} : ∀ ds M Q E0, sp__law_some_word ds M Q E0 → t__law_some_word (bodyE K Q) (startD ["_law_box", "_law_letters_here", "_law_most", "_law_signs_here", "_law_k"] ds) M := by
  rintro ds M Q E0 ⟨a, l, m, mo, rfl, hl, h1, hz, hm, hM, hb, q⟩
  unfold t__law_some_word
  walk_at "dlh"
  refine ⟨l, rfl, hl, hz, ?_⟩
  dsimp only
  rw [dLc_un]
  walk_at "dl"
  refine ⟨a, _, mo, rfl, by omega, by omega, hM, hb, fun r mo' h0 hr hb' => ?_⟩
  obtain ⟨n, rfl⟩ : ∃ n : Nat, r = n := ⟨r.toNat, by omega⟩
  walk_at "dl"
  refine ⟨by omega, ?_⟩
  refine lcB_st (xs := List.range (n : Int).toNat) (fun i => D.int (0 + (i : Nat))) (fun pre acc M' => ∃ (ws : List Nat) (mo' : MO), acc = ws.map (fun c => D.str ⟨#[c]⟩) ∧ ws.length = pre.length ∧ ws.length ≤ m ∧ (∀ c ∈ ws, c ∈ sgn l) ∧ M' = up M a mo' ∧ BoxOk mo') ?_ (fun _ _ _ _ => True.intro) ?_ ?_ ?_
  · exact ⟨[], mo', rfl, rfl, Nat.zero_le _, fun _ h => absurd h List.not_mem_nil, rfl, hb'⟩
  · rintro pre acc M' ⟨ws, mo2, rfl, _, h, _⟩
    rw [List.length_map]; exact lineT (by omega)
  · rintro pre x post acc M' e ⟨ws, mo2, rfl, hw, hwm, hw2, rfl, hb2⟩ R hR
    have hpre : pre.length < n := by
      have := congrArg List.length e
      simp only [List.length_range, List.length_append, List.length_cons] at this
      omega
    walk_at "dl"
    refine ⟨by rw [T_len, sgn_len]; exact line (by omega), a, _, mo2, rfl, ?_, ?_, up_same, hb2, fun d mo3 hd hb3 => ?_⟩
    · rw [sgs_T, List.length_map, sgn_len]; omega
    · rw [sgs_T, List.length_map, sgn_len]; omega
    · rw [sgs_T] at hd
      obtain ⟨c, hc, rfl⟩ := List.mem_map.mp hd
      refine hR _ _ ⟨ws ++ [c], mo3, by simp, by simp [hw], by simp only [List.length_append, List.length_cons, List.length_nil]; omega, ?_, up_up, hb3⟩
      intro x hx
      rcases List.mem_append.mp hx with hx | hx
      · exact hw2 x hx
      · rw [List.mem_singleton] at hx; subst hx; exact hc
  · rintro acc M' ⟨ws, mo2, rfl, hw, hwm, hw2, rfl, hb2⟩
    walk_at "dl"
    refine ⟨ws.map fun c => ⟨#[c]⟩, by rw [List.map_map]; rfl, ?_, ?_⟩
    · rw [one_sum, strE, T_len, List.length_nil]; omega
    · rw [join_signs]
      exact Fin.same (q ws mo2 hwm hw2 hb2)
abbrev sp__law_same (n : Nat) : DSp := fun ds M Q _ => ∃ x, ds = [x, x] ∧ Pl n x = true ∧ Q (.bl true) M
abbrev spNo : DSp := fun _ _ _ _ => False
abbrev sp_sameB : Nat → DSp
  | 0 => spNo
  | n + 1 => sp__law_same n
theorem rd__law_same {K : PySem.W.Frag} (n : Nat) : ∀ ds M Q E0, sp__law_same n ds M Q E0 → t__law_same (sp_sameB n) (bodyE K Q) (startD ["_law_found", "_law_due", "_law_k"] ds) M := by
  rintro ds M Q E0 ⟨x, rfl, hp, q⟩
  unfold t__law_same
  have seq : ∀ (n : Nat) (xs : List D) (T : String) (x : D), xs.all (Pl n) = true → xs.length ≤ 1000000 → (∀ (M : Mp) (Q : DQ), rLen [x] M Q = Q (.int xs.length) M) → (∀ (i : Int) (M : Mp) (Q : DQ), rIxD x (.int i) M Q = ∃ d, atI xs i = some d ∧ Q d M) → Q (.bl true) M →
      (if ((xs.length : Int) == (xs.length : Int)) = true then dLc (dRng1 (dCons (dCB rLen (dCons (dVar 1) dNil)) dNil)) (dgName 2) dYes (dCall (sp__law_same n) (dCons (dOp rIxD (dVar 0) (dVar 2)) (dCons (dOp rIxD (dVar 1) (dVar 2)) dNil))) [2] [some x, some x, none] M fun x M1 =>
        ∃ ns, lstOf M1 x = some (List.map D.bl ns) ∧ DL.Fin K Q (D.bl (ns.all id)) M1 else DL.Fin K Q (D.bl false) M) := by
    intro n xs T x hx hz hl hi q
    rw [show (((xs.length : Int)) == (xs.length : Int)) = true from by simp]
    rw [if_pos rfl]
    rw [dLc_un]
    walk_at "dlh"
    refine ⟨by omega, ?_⟩
    refine lcB_m (xs := List.range (xs.length : Int).toNat) (fun i => D.int (0 + (i : Nat))) (fun _ => D.bl true) True.intro (line (by rw [List.length_range]; omega)) (fun i hi2 R h => ?_) ?_
    · have hi3 : i < xs.length := by have := List.mem_range.mp hi2; omega
      walk_at "dlh"
      refine ⟨xs[i], ?_, xs[i], ?_, xs[i], rfl, ?_, h⟩
      · rw [show (0 + (i : Int)) = (i : Int) by omega]; exact atI_nat (List.getElem?_eq_getElem hi3)
      · rw [show (0 + (i : Int)) = (i : Int) by omega]; exact atI_nat (List.getElem?_eq_getElem hi3)
      · exact List.all_eq_true.mp hx _ (List.getElem_mem hi3)
    · refine ⟨(List.range (xs.length : Int).toNat).map fun _ => true, by rw [lstOf_l, List.map_map]; rfl, ?_⟩
      rw [show ((List.range (xs.length : Int).toNat).map fun _ => true).all id = true by simp]
      exact Fin.same q
  cases x with
  | lst xs =>
    cases n with
    | zero => cases hp
    | succ n =>
      rw [Pl, Bool.and_eq_true, decide_eq_true_eq] at hp
      have := seq n xs "list" (.lst xs) hp.1 hp.2 (fun _ _ => rfl) (fun _ _ _ => rfl) q
      walk_at "dl"
      simp only [tyN]
      rw [if_pos (by decide), if_neg (by decide), if_neg (by decide)]
      exact this
  | tup xs =>
    cases n with
    | zero => cases hp
    | succ n =>
      rw [Pl, Bool.and_eq_true, decide_eq_true_eq] at hp
      have := seq n xs "tuple" (.tup xs) hp.1 hp.2 (fun _ _ => rfl) (fun _ _ _ => rfl) q
      walk_at "dl"
      simp only [tyN]
      rw [if_pos (by decide), if_neg (by decide), if_neg (by decide)]
      exact this
  | non => walk_at "dl"; simp only [tyN]; exact Fin.same q
  | bl k =>
    walk_at "dl"; simp only [tyN]
    rw [if_neg (by decide), if_neg (by exact Bool.false_ne_true), if_neg (by exact Bool.false_ne_true), if_neg (by decide), if_neg (by decide), if_pos (by decide), show (k == k) = true from by simp]
    exact Fin.same q
  | int k =>
    walk_at "dl"; simp only [tyN]
    rw [if_neg (by decide), if_neg (by exact Bool.false_ne_true), if_neg (by exact Bool.false_ne_true), if_neg (by decide), if_neg (by decide), if_pos (by decide), show (k == k) = true from by simp]
    exact Fin.same q
  | str k =>
    walk_at "dl"; simp only [tyN]
    rw [if_neg (by decide), if_neg (by exact Bool.false_ne_true), if_neg (by exact Bool.false_ne_true), if_neg (by decide), if_neg (by decide), if_pos (by decide), show (k == k) = true from by simp]
    exact Fin.same q
  | _ => cases n <;> cases hp
theorem swC_lt {c : Nat} (h : c < 128) : swC c < 128 := by
  have : ∀ c < 128, swC c < 128 := by decide +kernel
  exact this c h
theorem rd_opposite {K : PySem.W.Frag} : ∀ ds M Q E0, sp_opposite ds M Q E0 → t_opposite (bodyE K Q) (startD ["word", "character"] ds) M := by
  rintro ds M Q E0 ⟨l, rfl, hl, hz, q⟩
  unfold t_opposite
  walk_at "dl"
  rw [dLc_un]
  walk_at "dl"
  rw [T_len, srev_T, sgs_T]
  refine ⟨line (by omega), ?_⟩
  refine lcB_m (xs := l.reverse) (fun c => D.str ⟨#[c]⟩) (fun c => D.str ⟨#[swC c]⟩) True.intro (line (by rw [List.length_reverse]; omega)) (fun c hc R h => ?_) ?_
  · walk_at "dl"
    exact ⟨c, rfl, hl c (List.mem_reverse.mp hc), h⟩
  · walk_at "dl"
    refine ⟨(l.reverse.map swC).map fun c => ⟨#[c]⟩, by rw [List.map_map, List.map_map]; rfl, ?_, ?_⟩
    · rw [one_sum, strE, T_len, List.length_nil, List.length_map, List.length_reverse]; omega
    · rw [join_signs]
      exact Fin.same q
end PRE
namespace K09
open PySem PySem.Spec PyProof.Rows L2 DL PRE
structure Ks where
  Reader : Addr
/-! ### the mathematics: texts of words -/
/-- the digits of a small number -/
def dig (n : Nat) : List Nat := (Str.ofString (toString (n : Int))).cps.toList
def loCh (c : Nat) : Nat := loC c
def runTxt (c n : Nat) : List Nat := if isLo c = true then (if n = 1 then [c] else c :: 94 :: dig n) else loC c :: 94 :: 45 :: dig n
def runStep (acc : List (Nat × Nat)) (c : Nat) : List (Nat × Nat) := match acc.getLast? with
  | some (d, k) => if d = c then acc.dropLast ++ [(c, k + 1)] else acc ++ [(c, 1)]
  | none => [(c, 1)]
def runs (w : List Nat) : List (Nat × Nat) := w.foldl runStep []
def joinSp : List (List Nat) → List Nat
  | [] => []
  | [l] => l
  | l :: m :: r => l ++ 32 :: joinSp (m :: r)
def fmt (w : List Nat) : List Nat := if w = [] then [49] else joinSp ((runs w).map fun p => runTxt p.1 p.2)
/-- a token: its atom and its power -/
abbrev Tok1 := List Nat × Int
def numTxt (e : Int) : List Nat := if e < 0 then 45 :: dig (-e).toNat else dig e.toNat
def encTok (t : Tok1) : List Nat := (if t.1 = [] then [49] else t.1) ++ (if t.2 = 1 then [] else 94 :: numTxt t.2)
def TokOk (kn : List D) (t : Tok1) : Prop := (t = ([], 1)) ∨ ∃ c, t.1 = [c] ∧ isLo c = true ∧ D.str ⟨#[c]⟩ ∈ kn ∧ t.2 ≠ 0 ∧ -99 ≤ t.2 ∧ t.2 ≤ 99
def dTok (t : Tok1) : D := .tup [.str (T t.1), .int t.2]
def tokLen (t : Tok1) : Nat := t.1.length * t.2.natAbs
def tokWord (t : Tok1) : List Nat := if t.2 > 0 then (List.replicate t.2.toNat t.1).flatten else (List.replicate (-t.2).toNat (t.1.reverse.map swC)).flatten
def rdM (c : Ks) (L : List Nat) (kn : List D) (p : Nat) : MO := .ins c.Reader [("signs", .str (T L)), ("known", .lst kn), ("at", .int p)]
def chars (l : List Nat) : List D := l.flatMap fun c => [D.str ⟨#[c]⟩, D.str ⟨#[swC c]⟩]
/-! ### the promises -/
abbrev sp_characters (_ : Ks) : DSp := fun ds M Q _ => ∃ l : List Nat, ds = [.str (T l)] ∧ (∀ x ∈ l, x < 128) ∧ l.length ≤ 100 ∧ Q (.lst (chars l)) M
abbrev sp_Reader___init__ (c : Ks) : DSp := fun ds M Q _ => ∃ (a : Addr) (L l : List Nat), ds = [.ptr a, .str (T L), .str (T l)] ∧ M a = some (.ins c.Reader []) ∧ (∀ x ∈ l, x < 128) ∧ l.length ≤ 100 ∧ Q .non (up M a (rdM c L (chars l) 0))
abbrev sp_Reader_here (c : Ks) : DSp := fun ds M Q _ => ∃ (a : Addr) (L : List Nat) (kn : List D) (p : Nat), ds = [.ptr a] ∧ M a = some (rdM c L kn p) ∧ p ≤ 200000 ∧ L.length ≤ 200000 ∧ Q (.str (T ((L.drop p).take 1))) M
abbrev sp_Reader_skip (c : Ks) : DSp := fun ds M Q _ => ∃ (a : Addr) (L : List Nat) (kn : List D) (p k : Nat) (r : List Nat), ds = [.ptr a] ∧ M a = some (rdM c L kn p) ∧ p ≤ 100000 ∧ L.length ≤ 100000 ∧ L.drop p = List.replicate k 32 ++ r ∧ r.head? ≠ some 32 ∧ Q (.str (T (r.take 1))) (up M a (rdM c L kn (p + k)))
abbrev sp_Reader_end_digits (c : Ks) : DSp := fun ds M Q _ => ∃ (a : Addr) (L : List Nat) (kn : List D) (p : Nat), ds = [.ptr a] ∧ M a = some (rdM c L kn p) ∧ p ≤ 100000 ∧ L.length ≤ 100000 ∧ (L.drop p = [] ∨ ∃ r, L.drop p = 32 :: r) ∧ Q .non M
abbrev sp_Reader_exponent (c : Ks) : DSp := fun ds M Q _ => ∃ (a : Addr) (L : List Nat) (kn : List D) (p : Nat) (e : Int) (r : List Nat), ds = [.ptr a] ∧ M a = some (rdM c L kn p) ∧ p ≤ 90000 ∧ L.length ≤ 90000 ∧ L.drop p = 94 :: numTxt e ++ r ∧ e ≠ 0 ∧ -99 ≤ e ∧ e ≤ 99 ∧ (r = [] ∨ ∃ r', r = 32 :: r') ∧ Q (.int e) (up M a (rdM c L kn (p + 1 + (numTxt e).length)))
abbrev sp_Reader_atom (c : Ks) : DSp := fun ds M Q _ => ∃ (a : Addr) (L : List Nat) (kn : List D) (p : Nat) (l r : List Nat), ds = [.ptr a, .int 0] ∧ M a = some (rdM c L kn p) ∧ p ≤ 90000 ∧ L.length ≤ 90000 ∧ kn.all flatD = true ∧
  L.drop p = (if l = [] then [49] else l) ++ r ∧ ((l = [] ∧ (r = [] ∨ ∃ r', r = 32 :: r')) ∨ ∃ ch, l = [ch] ∧ isLo ch = true ∧ D.str ⟨#[ch]⟩ ∈ kn) ∧ Q (.str (T l)) (up M a (rdM c L kn (p + 1)))
abbrev sp_Reader_phrase (c : Ks) : DSp := fun ds M Q _ => ∃ (a : Addr) (L : List Nat) (kn : List D) (ts : List Tok1), ds = [.ptr a, .str "", .int 0] ∧ M a = some (rdM c L kn 0) ∧ kn.all flatD = true ∧ L.length ≤ 80000 ∧ ts ≠ [] ∧ ts.length ≤ 1000 ∧ (∀ t ∈ ts, TokOk kn t) ∧ L = joinSp (ts.map encTok) ∧ Q (.lst (ts.map dTok)) (up M a (rdM c L kn L.length))
abbrev sp_atom_length (_ : Ks) : DSp := fun ds M Q _ => ∃ l : List Nat, ds = [.str (T l)] ∧ l.length ≤ 1000 ∧ Q (.int l.length) M
abbrev Small (ts : List Tok1) : Prop := ts.length ≤ 1000 ∧ (ts.map tokLen).sum ≤ 400 ∧ ∀ t ∈ ts, t.2 ≠ 0 ∧ -99 ≤ t.2 ∧ t.2 ≤ 99 ∧ t.1.length ≤ 1 ∧ ∀ x ∈ t.1, x < 128
abbrev sp_length_of (_ : Ks) : DSp := fun ds M Q _ => ∃ ts : List Tok1, ds = [.lst (ts.map dTok)] ∧ Small ts ∧ Q (.int ((ts.map tokLen).sum : Nat)) M
abbrev sp_atom_word (_ : Ks) : DSp := fun ds M Q _ => ∃ l : List Nat, ds = [.str (T l)] ∧ Q (.str (T l)) M
abbrev sp_word_of_factors (_ : Ks) : DSp := fun ds M Q _ => ∃ ts : List Tok1, ds = [.lst (ts.map dTok)] ∧ Small ts ∧ Q (.str (T (ts.flatMap tokWord))) M
abbrev sp_read_factors (_ : Ks) : DSp := fun ds M Q _ => ∃ (L l : List Nat) (ts : List Tok1), ds = [.str (T L), .str (T l)] ∧ (∀ x ∈ l, x < 128) ∧ l.length ≤ 100 ∧ L.length ≤ 80000 ∧ ts ≠ [] ∧ ts.length ≤ 1000 ∧ (∀ t ∈ ts, TokOk (chars l) t) ∧ L = joinSp (ts.map encTok) ∧ Q (.lst (ts.map dTok)) M
abbrev sp_short_word (_ : Ks) : DSp := fun ds M Q _ => ∃ ts : List Tok1, ds = [.lst (ts.map dTok)] ∧ Small ts ∧ Q (.str (T (ts.flatMap tokWord))) M
abbrev sp_read_word (_ : Ks) : DSp := fun ds M Q _ => ∃ (L l : List Nat) (ts : List Tok1), ds = [.str (T L), .str (T l)] ∧ (∀ x ∈ l, x < 128) ∧ l.length ≤ 100 ∧ L.length ≤ 80000 ∧ ts ≠ [] ∧ ts.length ≤ 1000 ∧ (∀ t ∈ ts, TokOk (chars l) t) ∧ L = joinSp (ts.map encTok) ∧ Small ts ∧ Q (.str (T (ts.flatMap tokWord))) M
abbrev Alpha (c : Nat) : Prop := c < 128
abbrev sp_run_text (_ : Ks) : DSp := fun ds M Q _ => ∃ c n : Nat, ds = [.str ⟨#[c]⟩, .int n] ∧ c < 128 ∧ n ≤ 99 ∧ Q (.str (T (runTxt c n))) M
abbrev sp_format_word (_ : Ks) : DSp := fun ds M Q _ => ∃ w : List Nat, ds = [.str (T w)] ∧ (∀ x ∈ w, x < 128) ∧ w.length ≤ 99 ∧ Q (.str (T (fmt w))) M
abbrev sp__law_text (_ : Ks) : DSp := fun ds M Q _ => ∃ w : List Nat, ds = [.str (T w)] ∧ (∀ x ∈ w, isLo (loC x) = true ∧ x < 128) ∧ w.length ≤ 99 ∧ Q (.str (T (fmt w))) M
abbrev sp_law (_ : Ks) : DSp := spLaw
def topS (i : Nat) : Stmt := PySem.Challenge.pw_roundswap_k09_texts_of_words.main.body.getD i (.Pass ⟨0, 0, 0, 0⟩)
structure Cn (mg : Str → Option Value) : Prop where
  LOWER : ∃ u, mg "LOWER" = some u ∧ RelV (.str "abcdefghijklmnopqrstuvwxyz") u
  DIGITS : ∃ u, mg "DIGITS" = some u ∧ RelV (.str "0123456789") u
  MOST_LENGTH : ∃ u, mg "MOST_LENGTH" = some u ∧ RelV (.int 400) u
  MOST_DEEP : ∃ u, mg "MOST_DEEP" = some u ∧ RelV (.int 6) u
/-! ### swapped -/
abbrev s_swapped : Stmt := topS 6
theorem sc_swapped : FnScope ["character"] ["character"] (defScope s_swapped) := ⟨rfl, rfl, rfl, by decide +kernel, rfl, by decide +kernel, by decide +kernel⟩
theorem dv_swapped {P : Program} {w : World} {K : PySem.W.Frag} {mg : Str → Option Value} {base : Heap} {f : Addr} {cdv : Value} {A : Around} {outer : List Env} {s : Shared} {H : Hp} {E : XK} (c : Ks) (B : NB mg) (T : Cn mg)
    (hr : Room 0 (A.deeper (envOfC "swapped" (defScope s_swapped) s.heap.objs.size f cdv))) : DSs (cxOf CX0 P w K mg base ["character"] "swapped" (defScope s_swapped) f cdv A outer s H E).nox (defBody s_swapped) (t_swapped) :=
  (dss_one (ds_ret (de_if (dt_cmp (o_in (uI hr)) l_in (dv 0) (de_globE T.LOWER (fun _ => by rw [Rep])) (by rfl)) (de_upper (dv 0)) (de_lower (dv 0)))))
theorem ok_swapped {P : Program} {w : World} {K : PySem.W.Frag} {mg : Str → Option Value} {base : Heap} {f : Addr} {fd : FuncData} (c : Ks) (B : NB mg) (T : Cn mg) {dvs : List V} {kws : List (Str × V)} (F : DL.FnD K "swapped" "swapped" s_swapped dvs kws f fd)
    {sp : DSp} (len : ∀ ds M Q E, sp ds M Q E → ds.length = 1) (h : ∀ ds M Q E0, sp ds M Q E0 → t_swapped (bodyE K Q) (startD ["character"] ds) M) : FnOk P w K mg base CX0 1 f fd ["character"] (lSp K sp) :=
  dfunD F sc_swapped len fun cdv A outer s H E hr => ⟨t_swapped, dv_swapped c B T hr, h⟩
/-! ### opposite -/
abbrev s_opposite : Stmt := topS 7
theorem sc_opposite : FnScope ["word", "character"] ["word"] (defScope s_opposite) := ⟨rfl, rfl, rfl, by decide +kernel, rfl, by decide +kernel, by decide +kernel⟩
theorem dv_opposite {P : Program} {w : World} {K : PySem.W.Frag} {mg : Str → Option Value} {base : Heap} {f : Addr} {cdv : Value} {A : Around} {outer : List Env} {s : Shared} {H : Hp} {E : XK} (c : Ks) (B : NB mg) (T : Cn mg) {f_swapped : Addr} {d_swapped : FuncData} (C_swapped : Cal P w K mg base 1 "swapped" ["character"] sp_swapped f_swapped d_swapped)
    (hr : Room 1 (A.deeper (envOfC "opposite" (defScope s_opposite) s.heap.objs.size f cdv))) : DSs (cxOf CX0 P w K mg base ["word", "character"] "opposite" (defScope s_opposite) f cdv A outer s H E).nox (defBody s_opposite) (t_opposite) :=
  (dss_one (ds_ret (de_join de_str (da_cons (de_lc (g := (gName 1)) sc_opposite.nd (di_str (de_rev (dv 0))) (blkOk_by (own := [("character", 1)]) (N := ["word", "character"]) (sc := defScope s_opposite) (by decide +kernel)) (tg_name (i := 1) (by decide)) (fun _ _ _ _ _ => (pg_name (i := 1) sc_opposite.nd rfl (Or.inl rfl))) (fun _ _ _ _ _ => dts_nil) (fun _ _ _ _ _ => (de_callC C_swapped (hr.mono (by omega)) (da_cons (dv 1) da_nil)))) da_nil))))
theorem ok_opposite {P : Program} {w : World} {K : PySem.W.Frag} {mg : Str → Option Value} {base : Heap} {f : Addr} {fd : FuncData} (c : Ks) (B : NB mg) (T : Cn mg) {f_swapped : Addr} {d_swapped : FuncData} (C_swapped : Cal P w K mg base 1 "swapped" ["character"] sp_swapped f_swapped d_swapped) {dvs : List V} {kws : List (Str × V)} (F : DL.FnD K "opposite" "opposite" s_opposite dvs kws f fd)
    {sp : DSp} (len : ∀ ds M Q E, sp ds M Q E → ds.length = 1) (h : ∀ ds M Q E0, sp ds M Q E0 → t_opposite (bodyE K Q) (startD ["word", "character"] ds) M) : FnOk P w K mg base CX0 2 f fd ["word"] (lSp K sp) :=
  dfunD F sc_opposite len fun cdv A outer s H E hr => ⟨t_opposite, dv_opposite c B T C_swapped hr, h⟩
/-! ### characters -/
abbrev s_characters : Stmt := topS 8
theorem sc_characters : FnScope ["letters", "letter", "character"] ["letters"] (defScope s_characters) := ⟨rfl, rfl, rfl, by decide +kernel, rfl, by decide +kernel, by decide +kernel⟩
def t_characters (c : Ks) : DTS :=
  (dRet (dLc2 (dIterS (dVar 0)) (dgName 1) dYes (dIterT (dTup (dCons (dVar 1) (dCons (dCall sp_swapped (dCons (dVar 1) dNil)) dNil)))) (dgName 2) dYes (dVar 2) [1, 2] [2]))
theorem dv_characters {P : Program} {w : World} {K : PySem.W.Frag} {mg : Str → Option Value} {base : Heap} {f : Addr} {cdv : Value} {A : Around} {outer : List Env} {s : Shared} {H : Hp} {E : XK} (c : Ks) (B : NB mg) (T : Cn mg) {f_swapped : Addr} {d_swapped : FuncData} (C_swapped : Cal P w K mg base 1 "swapped" ["character"] sp_swapped f_swapped d_swapped)
    (hr : Room 1 (A.deeper (envOfC "characters" (defScope s_characters) s.heap.objs.size f cdv))) : DSs (cxOf CX0 P w K mg base ["letters", "letter", "character"] "characters" (defScope s_characters) f cdv A outer s H E).nox (defBody s_characters) (t_characters c) :=
  (dss_one (ds_ret (de_lc2 (g := (gName 1)) (g1 := (gName 2)) sc_characters.nd (di_str (dv 0)) (blkOk_by (own := [("letter", 1), ("character", 2)]) (N := ["letters", "letter", "character"]) (sc := defScope s_characters) (by decide +kernel)) (tg_name (i := 1) (by decide)) (tg_name (i := 2) (by decide)) (fun _ _ _ _ _ => (pg_name (i := 1) sc_characters.nd rfl (Or.inl rfl))) (fun _ _ _ _ _ => dts_nil) (fun _ _ _ _ _ => (di_tup (de_tup (da_cons (dv 1) (da_cons (de_callC C_swapped (hr.mono (by omega)) (da_cons (dv 1) da_nil)) da_nil))))) (fun _ _ _ _ _ => (pg_name (i := 2) sc_characters.nd rfl (Or.inl rfl))) (fun _ _ _ _ _ => dts_nil) (fun _ _ _ _ _ => (dv 2)))))
theorem ok_characters {P : Program} {w : World} {K : PySem.W.Frag} {mg : Str → Option Value} {base : Heap} {f : Addr} {fd : FuncData} (c : Ks) (B : NB mg) (T : Cn mg) {f_swapped : Addr} {d_swapped : FuncData} (C_swapped : Cal P w K mg base 1 "swapped" ["character"] sp_swapped f_swapped d_swapped) {dvs : List V} {kws : List (Str × V)} (F : DL.FnD K "characters" "characters" s_characters dvs kws f fd)
    {sp : DSp} (len : ∀ ds M Q E, sp ds M Q E → ds.length = 1) (h : ∀ ds M Q E0, sp ds M Q E0 → t_characters c (bodyE K Q) (startD ["letters", "letter", "character"] ds) M) : FnOk P w K mg base CX0 2 f fd ["letters"] (lSp K sp) :=
  dfunD F sc_characters len fun cdv A outer s H E hr => ⟨t_characters c, dv_characters c B T C_swapped hr, h⟩
/-! ### Reader.__init__ -/
abbrev s_Reader___init__ : Stmt := inClass (topS 13) 0
theorem sc_Reader___init__ : FnScope ["self", "text", "letters"] ["self", "text", "letters"] (defScope s_Reader___init__) := ⟨rfl, rfl, rfl, by decide +kernel, rfl, by decide +kernel, by decide +kernel⟩
def t_Reader___init__ (c : Ks) : DTS :=
  (dSeq (dSetF c.Reader "signs" (dVar 0) (dVar 1))
  (dSeq (dSetF c.Reader "known" (dVar 0) (dCall (sp_characters c) (dCons (dVar 2) dNil)))
  (dSetF c.Reader "at" (dVar 0) (dC (.int 0)))))
theorem dv_Reader___init__ {P : Program} {w : World} {K : PySem.W.Frag} {mg : Str → Option Value} {base : Heap} {f : Addr} {cdv : Value} {A : Around} {outer : List Env} {s : Shared} {H : Hp} {E : XK} (c : Ks) (B : NB mg) (T : Cn mg) (K_Reader : Kls K c.Reader ["signs", "known", "at"]) {f_characters : Addr} {d_characters : FuncData} (C_characters : Cal P w K mg base 2 "characters" ["letters"] (sp_characters c) f_characters d_characters)
    (hr : Room 2 (A.deeper (envOfC "Reader.__init__" (defScope s_Reader___init__) s.heap.objs.size f cdv))) : DSs (cxOf CX0 P w K mg base ["self", "text", "letters"] "Reader.__init__" (defScope s_Reader___init__) f cdv A outer s H E).nox (defBody s_Reader___init__) (t_Reader___init__ c) :=
  (dss_cons (ds_setF (n := "signs") K_Reader (dv 0) (dv 1))
    (dss_cons (ds_setF (n := "known") K_Reader (dv 0) (de_callC C_characters (hr.mono (by omega)) (da_cons (dv 2) da_nil)))
    (dss_one (ds_setF (n := "at") K_Reader (dv 0) de_int))))
theorem ok_Reader___init__ {P : Program} {w : World} {K : PySem.W.Frag} {mg : Str → Option Value} {base : Heap} {f : Addr} {fd : FuncData} (c : Ks) (B : NB mg) (T : Cn mg) (K_Reader : Kls K c.Reader ["signs", "known", "at"]) {f_characters : Addr} {d_characters : FuncData} (C_characters : Cal P w K mg base 2 "characters" ["letters"] (sp_characters c) f_characters d_characters) {dvs : List V} {kws : List (Str × V)} (F : DL.FnD K "__init__" "Reader.__init__" s_Reader___init__ dvs kws f fd)
    {sp : DSp} (len : ∀ ds M Q E, sp ds M Q E → ds.length = 3) (h : ∀ ds M Q E0, sp ds M Q E0 → t_Reader___init__ c (bodyE K Q) (startD ["self", "text", "letters"] ds) M) : FnOk P w K mg base CX0 3 f fd ["self", "text", "letters"] (lSp K sp) :=
  dfunD F sc_Reader___init__ len fun cdv A outer s H E hr => ⟨t_Reader___init__ c, dv_Reader___init__ c B T K_Reader C_characters hr, h⟩
/-! ### Reader.here -/
abbrev s_Reader_here : Stmt := inClass (topS 13) 1
theorem sc_Reader_here : FnScope ["self"] ["self"] (defScope s_Reader_here) := ⟨rfl, rfl, rfl, by decide +kernel, rfl, by decide +kernel, by decide +kernel⟩
def t_Reader_here (c : Ks) : DTS :=
  (dRet (dSl (dFld c.Reader "signs" (dVar 0)) (dPart (dFld c.Reader "at" (dVar 0))) (dPart (dOp rAdd (dFld c.Reader "at" (dVar 0)) (dC (.int 1))))))
theorem dv_Reader_here {P : Program} {w : World} {K : PySem.W.Frag} {mg : Str → Option Value} {base : Heap} {f : Addr} {cdv : Value} {A : Around} {outer : List Env} {s : Shared} {H : Hp} {E : XK} (c : Ks) (B : NB mg) (T : Cn mg) (K_Reader : Kls K c.Reader ["signs", "known", "at"])
    (hr : Room 0 (A.deeper (envOfC "Reader.here" (defScope s_Reader_here) s.heap.objs.size f cdv))) : DSs (cxOf CX0 P w K mg base ["self"] "Reader.here" (defScope s_Reader_here) f cdv A outer s H E).nox (defBody s_Reader_here) (t_Reader_here c) :=
  (dss_one (ds_ret (de_sl (de_fld (n := "signs") K_Reader (dv 0)) (do_some (de_fld (n := "at") K_Reader (dv 0))) (do_some (de_add (de_fld (n := "at") K_Reader (dv 0)) de_int)))))
theorem ok_Reader_here {P : Program} {w : World} {K : PySem.W.Frag} {mg : Str → Option Value} {base : Heap} {f : Addr} {fd : FuncData} (c : Ks) (B : NB mg) (T : Cn mg) (K_Reader : Kls K c.Reader ["signs", "known", "at"]) {dvs : List V} {kws : List (Str × V)} (F : DL.FnD K "here" "Reader.here" s_Reader_here dvs kws f fd)
    {sp : DSp} (len : ∀ ds M Q E, sp ds M Q E → ds.length = 1) (h : ∀ ds M Q E0, sp ds M Q E0 → t_Reader_here c (bodyE K Q) (startD ["self"] ds) M) : FnOk P w K mg base CX0 1 f fd ["self"] (lSp K sp) :=
  dfunD F sc_Reader_here len fun cdv A outer s H E hr => ⟨t_Reader_here c, dv_Reader_here c B T K_Reader hr, h⟩
/-! ### Reader.skip -/
abbrev s_Reader_skip : Stmt := inClass (topS 13) 2
theorem sc_Reader_skip : FnScope ["self"] ["self"] (defScope s_Reader_skip) := ⟨rfl, rfl, rfl, by decide +kernel, rfl, by decide +kernel, by decide +kernel⟩
def t_Reader_skip (c : Ks) : DTS :=
  (dSeq (dWhile (dTB (dOp (rEqW false) (dMeth c.Reader "here" (sp_Reader_here c) (dVar 0) dNil) (dC (.str " ")))) (dAugF c.Reader "at" (dVar 0) (dC (.int 1)) rIadd))
  (dRet (dMeth c.Reader "here" (sp_Reader_here c) (dVar 0) dNil)))
theorem dv_Reader_skip {P : Program} {w : World} {K : PySem.W.Frag} {mg : Str → Option Value} {base : Heap} {f : Addr} {cdv : Value} {A : Around} {outer : List Env} {s : Shared} {H : Hp} {E : XK} (c : Ks) (B : NB mg) (T : Cn mg) (K_Reader : Kls K c.Reader ["signs", "known", "at"]) {f_Reader_here : Addr} {d_Reader_here : FuncData} (C_Reader_here : CalM P w K mg base 1 c.Reader "here" ["self"] (sp_Reader_here c) f_Reader_here d_Reader_here)
    (hr : Room 1 (A.deeper (envOfC "Reader.skip" (defScope s_Reader_skip) s.heap.objs.size f cdv))) : DSs (cxOf CX0 P w K mg base ["self"] "Reader.skip" (defScope s_Reader_skip) f cdv A outer s H E).nox (defBody s_Reader_skip) (t_Reader_skip c) :=
  (dss_cons (ds_while PassesOwn.never (dt_cmp (o_eq hr.units) l_eq (de_meth0 C_Reader_here (hr.mono (by omega)) (dv 0)) de_str (nomark _)) (dss_one (ds_augF (n := "at") K_Reader (dv 0) de_int o_iadd l_iadd)))
    (dss_one (ds_ret (de_meth0 C_Reader_here (hr.mono (by omega)) (dv 0)))))
theorem ok_Reader_skip {P : Program} {w : World} {K : PySem.W.Frag} {mg : Str → Option Value} {base : Heap} {f : Addr} {fd : FuncData} (c : Ks) (B : NB mg) (T : Cn mg) (K_Reader : Kls K c.Reader ["signs", "known", "at"]) {f_Reader_here : Addr} {d_Reader_here : FuncData} (C_Reader_here : CalM P w K mg base 1 c.Reader "here" ["self"] (sp_Reader_here c) f_Reader_here d_Reader_here) {dvs : List V} {kws : List (Str × V)} (F : DL.FnD K "skip" "Reader.skip" s_Reader_skip dvs kws f fd)
    {sp : DSp} (len : ∀ ds M Q E, sp ds M Q E → ds.length = 1) (h : ∀ ds M Q E0, sp ds M Q E0 → t_Reader_skip c (bodyE K Q) (startD ["self"] ds) M) : FnOk P w K mg base CX0 2 f fd ["self"] (lSp K sp) :=
  dfunD F sc_Reader_skip len fun cdv A outer s H E hr => ⟨t_Reader_skip c, dv_Reader_skip c B T K_Reader C_Reader_here hr, h⟩
/-! ### Reader.end_digits -/
abbrev s_Reader_end_digits : Stmt := inClass (topS 13) 7
theorem sc_Reader_end_digits : FnScope ["self"] ["self"] (defScope s_Reader_end_digits) := ⟨rfl, rfl, rfl, by decide +kernel, rfl, by decide +kernel, by decide +kernel⟩
def t_Reader_end_digits (c : Ks) : DTS :=
  (dIfS (dAnd (dTB (dOp (rEqW true) (dMeth c.Reader "here" (sp_Reader_here c) (dVar 0) dNil) (dC (.str "")))) (dTB (dOp (rInD false) (dMeth c.Reader "here" (sp_Reader_here c) (dVar 0) dNil) (dC (.str "0123456789"))))) dNever dNext)
theorem dv_Reader_end_digits {P : Program} {w : World} {K : PySem.W.Frag} {mg : Str → Option Value} {base : Heap} {f : Addr} {cdv : Value} {A : Around} {outer : List Env} {s : Shared} {H : Hp} {E : XK} (c : Ks) (B : NB mg) (T : Cn mg) {f_Reader_here : Addr} {d_Reader_here : FuncData} (C_Reader_here : CalM P w K mg base 1 c.Reader "here" ["self"] (sp_Reader_here c) f_Reader_here d_Reader_here)
    (hr : Room 1 (A.deeper (envOfC "Reader.end_digits" (defScope s_Reader_end_digits) s.heap.objs.size f cdv))) : DSs (cxOf CX0 P w K mg base ["self"] "Reader.end_digits" (defScope s_Reader_end_digits) f cdv A outer s H E).nox (defBody s_Reader_end_digits) (t_Reader_end_digits c) :=
  (dss_one (ds_if (PW.pt (dw_and (dt_cmp (o_ne hr.units) l_ne (de_meth0 C_Reader_here (hr.mono (by omega)) (dv 0)) de_str (nomark _)) (dw_and1 (dt_cmp (o_in (uI hr)) l_in (de_meth0 C_Reader_here (hr.mono (by omega)) (dv 0)) (de_globE T.DIGITS (fun _ => by rw [Rep])) (by rfl))))) (dss_one ds_never) dss_nil))
theorem ok_Reader_end_digits {P : Program} {w : World} {K : PySem.W.Frag} {mg : Str → Option Value} {base : Heap} {f : Addr} {fd : FuncData} (c : Ks) (B : NB mg) (T : Cn mg) {f_Reader_here : Addr} {d_Reader_here : FuncData} (C_Reader_here : CalM P w K mg base 1 c.Reader "here" ["self"] (sp_Reader_here c) f_Reader_here d_Reader_here) {dvs : List V} {kws : List (Str × V)} (F : DL.FnD K "end_digits" "Reader.end_digits" s_Reader_end_digits dvs kws f fd)
    {sp : DSp} (len : ∀ ds M Q E, sp ds M Q E → ds.length = 1) (h : ∀ ds M Q E0, sp ds M Q E0 → t_Reader_end_digits c (bodyE K Q) (startD ["self"] ds) M) : FnOk P w K mg base CX0 2 f fd ["self"] (lSp K sp) :=
  dfunD F sc_Reader_end_digits len fun cdv A outer s H E hr => ⟨t_Reader_end_digits c, dv_Reader_end_digits c B T C_Reader_here hr, h⟩
def t_Reader_exponent_3 (c : Ks) : DTS :=
  (dSeq (dAsg (dMeth c.Reader "here" (sp_Reader_here c) (dVar 0) dNil) (dgName 2))
  (dSeq (dIfS (dOr (dTB (dOp (rEqW false) (dVar 2) (dC (.str "")))) (dOr (dTB (dOp (rInD true) (dVar 2) (dC (.str "0123456789")))) (dAnd (dTB (dOp (rEqW false) (dVar 2) (dC (.str "0")))) (dTB (dOp rLt (dVar 1) (dC (.int 0))))))) dNever dNext)
  (dSeq (dAugF c.Reader "at" (dVar 0) (dC (.int 1)) rIadd)
  (dSeq (dIfS (dAnd (dTB (dOp (rEqW true) (dVar 2) (dC (.str "0")))) (dAnd (dTB (dOp (rEqW true) (dMeth c.Reader "here" (sp_Reader_here c) (dVar 0) dNil) (dC (.str "")))) (dTB (dOp (rInD false) (dMeth c.Reader "here" (sp_Reader_here c) (dVar 0) dNil) (dC (.str "0123456789")))))) (dSeq (dAug 2 (dMeth c.Reader "here" (sp_Reader_here c) (dVar 0) dNil) rIadd)
  (dAugF c.Reader "at" (dVar 0) (dC (.int 1)) rIadd)) dNext)
  (dSeq (dDrop (dMeth c.Reader "end_digits" (sp_Reader_end_digits c) (dVar 0) dNil))
  (dRet (dOp rMulX (dVar 1) (dCB rInt (dCons (dVar 2) dNil)))))))))
/-! ### Reader.exponent -/
abbrev s_Reader_exponent : Stmt := inClass (topS 13) 8
theorem sc_Reader_exponent : FnScope ["self", "sign", "first"] ["self"] (defScope s_Reader_exponent) := ⟨rfl, rfl, rfl, by decide +kernel, rfl, by decide +kernel, by decide +kernel⟩
def t_Reader_exponent (c : Ks) : DTS :=
  (dSeq (dAugF c.Reader "at" (dVar 0) (dC (.int 1)) rIadd)
  (dSeq (dAsg (dC (.int 1)) (dgName 1))
  (dSeq (dIfS (dTB (dOp (rEqW false) (dMeth c.Reader "skip" (sp_Reader_skip c) (dVar 0) dNil) (dC (.str "-")))) (dSeq (dAugF c.Reader "at" (dVar 0) (dC (.int 1)) rIadd)
  (dAsg (dUn rNeg (dC (.int 1))) (dgName 1))) dNext)
  (t_Reader_exponent_3 c))))
theorem dv_Reader_exponent {P : Program} {w : World} {K : PySem.W.Frag} {mg : Str → Option Value} {base : Heap} {f : Addr} {cdv : Value} {A : Around} {outer : List Env} {s : Shared} {H : Hp} {E : XK} (c : Ks) (B : NB mg) (T : Cn mg) (K_Reader : Kls K c.Reader ["signs", "known", "at"]) {f_Reader_end_digits : Addr} {d_Reader_end_digits : FuncData} (C_Reader_end_digits : CalM P w K mg base 2 c.Reader "end_digits" ["self"] (sp_Reader_end_digits c) f_Reader_end_digits d_Reader_end_digits) {f_Reader_here : Addr} {d_Reader_here : FuncData} (C_Reader_here : CalM P w K mg base 1 c.Reader "here" ["self"] (sp_Reader_here c) f_Reader_here d_Reader_here) {f_Reader_skip : Addr} {d_Reader_skip : FuncData} (C_Reader_skip : CalM P w K mg base 2 c.Reader "skip" ["self"] (sp_Reader_skip c) f_Reader_skip d_Reader_skip)
    (hr : Room 2 (A.deeper (envOfC "Reader.exponent" (defScope s_Reader_exponent) s.heap.objs.size f cdv))) : DSs (cxOf CX0 P w K mg base ["self", "sign", "first"] "Reader.exponent" (defScope s_Reader_exponent) f cdv A outer s H E).nox (defBody s_Reader_exponent) (t_Reader_exponent c) :=
  (dss_cons (ds_augF (n := "at") K_Reader (dv 0) de_int o_iadd l_iadd)
    (dss_cons (ds_set (i := 1) sc_Reader_exponent.nd de_int)
    (dss_cons (ds_if (dt_cmp (o_eq hr.units) l_eq (de_meth0 C_Reader_skip (hr.mono (by omega)) (dv 0)) de_str (nomark _)) (dss_cons (ds_augF (n := "at") K_Reader (dv 0) de_int o_iadd l_iadd)
    (dss_one (ds_set (i := 1) sc_Reader_exponent.nd (de_neg de_int)))) dss_nil)
    (dss_cons (ds_set (i := 2) sc_Reader_exponent.nd (de_meth0 C_Reader_here (hr.mono (by omega)) (dv 0)))
    (dss_cons (ds_if (PW.pt (dw_or (dt_cmp (o_eq hr.units) l_eq (dv 2) de_str (nomark _)) (dw_or (dt_cmp (o_nin (uI hr)) l_nin (dv 2) (de_globE T.DIGITS (fun _ => by rw [Rep])) (by rfl)) (dw_or1 (PW.pt (dw_and (dt_cmp (o_eq hr.units) l_eq (dv 2) de_str (nomark _)) (dw_and1 (dt_cmp o_lt l_lt (dv 1) de_int (nomark _))))))))) (dss_one ds_never) dss_nil)
    (dss_cons (ds_augF (n := "at") K_Reader (dv 0) de_int o_iadd l_iadd)
    (dss_cons (ds_if (PW.pt (dw_and (dt_cmp (o_ne hr.units) l_ne (dv 2) de_str (nomark _)) (dw_and (dt_cmp (o_ne hr.units) l_ne (de_meth0 C_Reader_here (hr.mono (by omega)) (dv 0)) de_str (nomark _)) (dw_and1 (dt_cmp (o_in (uI hr)) l_in (de_meth0 C_Reader_here (hr.mono (by omega)) (dv 0)) (de_globE T.DIGITS (fun _ => by rw [Rep])) (by rfl)))))) (dss_cons (ds_aug (i := 2) sc_Reader_exponent.nd (de_meth0 C_Reader_here (hr.mono (by omega)) (dv 0)) o_iadd l_iadd)
    (dss_one (ds_augF (n := "at") K_Reader (dv 0) de_int o_iadd l_iadd))) dss_nil)
    (dss_cons (ds_expr (de_meth0 C_Reader_end_digits (hr.mono (by omega)) (dv 0)))
    (dss_one (ds_ret (de_mulX (dv 1) (de_toInt B.int (da_cons (dv 2) da_nil)))))))))))))
theorem ok_Reader_exponent {P : Program} {w : World} {K : PySem.W.Frag} {mg : Str → Option Value} {base : Heap} {f : Addr} {fd : FuncData} (c : Ks) (B : NB mg) (T : Cn mg) (K_Reader : Kls K c.Reader ["signs", "known", "at"]) {f_Reader_end_digits : Addr} {d_Reader_end_digits : FuncData} (C_Reader_end_digits : CalM P w K mg base 2 c.Reader "end_digits" ["self"] (sp_Reader_end_digits c) f_Reader_end_digits d_Reader_end_digits) {f_Reader_here : Addr} {d_Reader_here : FuncData} (C_Reader_here : CalM P w K mg base 1 c.Reader "here" ["self"] (sp_Reader_here c) f_Reader_here d_Reader_here) {f_Reader_skip : Addr} {d_Reader_skip : FuncData} (C_Reader_skip : CalM P w K mg base 2 c.Reader "skip" ["self"] (sp_Reader_skip c) f_Reader_skip d_Reader_skip) {dvs : List V} {kws : List (Str × V)} (F : DL.FnD K "exponent" "Reader.exponent" s_Reader_exponent dvs kws f fd)
    {sp : DSp} (len : ∀ ds M Q E, sp ds M Q E → ds.length = 1) (h : ∀ ds M Q E0, sp ds M Q E0 → t_Reader_exponent c (bodyE K Q) (startD ["self", "sign", "first"] ds) M) : FnOk P w K mg base CX0 3 f fd ["self"] (lSp K sp) :=
  dfunD F sc_Reader_exponent len fun cdv A outer s H E hr => ⟨t_Reader_exponent c, dv_Reader_exponent c B T K_Reader C_Reader_end_digits C_Reader_here C_Reader_skip hr, h⟩
/-! ### Reader.atom -/
abbrev s_Reader_atom : Stmt := inClass (topS 13) 5
theorem sc_Reader_atom : FnScope ["self", "deep", "first", "left"] ["self", "deep"] (defScope s_Reader_atom) := ⟨rfl, rfl, rfl, by decide +kernel, rfl, by decide +kernel, by decide +kernel⟩
def t_Reader_atom (c : Ks) : DTS :=
  (dSeq (dAsg (dMeth c.Reader "here" (sp_Reader_here c) (dVar 0) dNil) (dgName 2))
  (dSeq (dIfS (dOr (dTB (dOp (rEqW false) (dVar 2) (dC (.str "")))) (dOr (dAnd (dTB (dOp (rInD true) (dVar 2) (dFld c.Reader "known" (dVar 0)))) (dTB (dOp (rInD true) (dVar 2) (dC (.str "1(["))))) (dAnd (dTB (dOp (rInD false) (dVar 2) (dC (.str "([")))) (dTB (dOp (rEqW false) (dVar 1) (dC (.int 6))))))) dNever dNext)
  (dSeq (dAugF c.Reader "at" (dVar 0) (dC (.int 1)) rIadd)
  (dSeq (dIfS (dTB (dOp (rEqW false) (dVar 2) (dC (.str "1")))) (dSeq (dDrop (dMeth c.Reader "end_digits" (sp_Reader_end_digits c) (dVar 0) dNil))
  (dRet (dC (.str "")))) dNext)
  (dSeq (dIfS (dTB (dOp (rEqW false) (dVar 2) (dC (.str "(")))) dNever dNext)
  (dSeq (dIfS (dTB (dOp (rEqW false) (dVar 2) (dC (.str "[")))) (dSeq dNever
  dNever) dNext)
  (dRet (dVar 2))))))))
theorem dv_Reader_atom {P : Program} {w : World} {K : PySem.W.Frag} {mg : Str → Option Value} {base : Heap} {f : Addr} {cdv : Value} {A : Around} {outer : List Env} {s : Shared} {H : Hp} {E : XK} (c : Ks) (B : NB mg) (T : Cn mg) (K_Reader : Kls K c.Reader ["signs", "known", "at"]) {f_Reader_end_digits : Addr} {d_Reader_end_digits : FuncData} (C_Reader_end_digits : CalM P w K mg base 2 c.Reader "end_digits" ["self"] (sp_Reader_end_digits c) f_Reader_end_digits d_Reader_end_digits) {f_Reader_here : Addr} {d_Reader_here : FuncData} (C_Reader_here : CalM P w K mg base 1 c.Reader "here" ["self"] (sp_Reader_here c) f_Reader_here d_Reader_here)
    (hr : Room 2 (A.deeper (envOfC "Reader.atom" (defScope s_Reader_atom) s.heap.objs.size f cdv))) : DSs (cxOf CX0 P w K mg base ["self", "deep", "first", "left"] "Reader.atom" (defScope s_Reader_atom) f cdv A outer s H E).nox (defBody s_Reader_atom) (t_Reader_atom c) :=
  (dss_cons (ds_set (i := 2) sc_Reader_atom.nd (de_meth0 C_Reader_here (hr.mono (by omega)) (dv 0)))
    (dss_cons (ds_if (PW.pt (dw_or (dt_cmp (o_eq hr.units) l_eq (dv 2) de_str (nomark _)) (dw_or (PW.pt (dw_and (dt_cmp (o_nin (uI hr)) l_nin (dv 2) (de_fld (n := "known") K_Reader (dv 0)) (by rfl)) (dw_and1 (dt_cmp (o_nin (uI hr)) l_nin (dv 2) de_str (by rfl))))) (dw_or1 (PW.pt (dw_and (dt_cmp (o_in (uI hr)) l_in (dv 2) de_str (by rfl)) (dw_and1 (dt_cmp (o_eq hr.units) l_eq (dv 1) (de_globE T.MOST_DEEP (fun _ => by rw [Rep])) (nomark _))))))))) (dss_one ds_never) dss_nil)
    (dss_cons (ds_augF (n := "at") K_Reader (dv 0) de_int o_iadd l_iadd)
    (dss_cons (ds_if (dt_cmp (o_eq hr.units) l_eq (dv 2) de_str (nomark _)) (dss_cons (ds_expr (de_meth0 C_Reader_end_digits (hr.mono (by omega)) (dv 0)))
    (dss_one (ds_ret de_str))) dss_nil)
    (dss_cons (ds_if (dt_cmp (o_eq hr.units) l_eq (dv 2) de_str (nomark _)) (dss_one ds_never) dss_nil)
    (dss_cons (ds_if (dt_cmp (o_eq hr.units) l_eq (dv 2) de_str (nomark _)) (dss_cons ds_never
    (dss_one ds_never)) dss_nil)
    (dss_one (ds_ret (dv 2)))))))))
theorem ok_Reader_atom {P : Program} {w : World} {K : PySem.W.Frag} {mg : Str → Option Value} {base : Heap} {f : Addr} {fd : FuncData} (c : Ks) (B : NB mg) (T : Cn mg) (K_Reader : Kls K c.Reader ["signs", "known", "at"]) {f_Reader_end_digits : Addr} {d_Reader_end_digits : FuncData} (C_Reader_end_digits : CalM P w K mg base 2 c.Reader "end_digits" ["self"] (sp_Reader_end_digits c) f_Reader_end_digits d_Reader_end_digits) {f_Reader_here : Addr} {d_Reader_here : FuncData} (C_Reader_here : CalM P w K mg base 1 c.Reader "here" ["self"] (sp_Reader_here c) f_Reader_here d_Reader_here) {dvs : List V} {kws : List (Str × V)} (F : DL.FnD K "atom" "Reader.atom" s_Reader_atom dvs kws f fd)
    {sp : DSp} (len : ∀ ds M Q E, sp ds M Q E → ds.length = 2) (h : ∀ ds M Q E0, sp ds M Q E0 → t_Reader_atom c (bodyE K Q) (startD ["self", "deep", "first", "left"] ds) M) : FnOk P w K mg base CX0 3 f fd ["self", "deep"] (lSp K sp) :=
  dfunD F sc_Reader_atom len fun cdv A outer s H E hr => ⟨t_Reader_atom c, dv_Reader_atom c B T K_Reader C_Reader_end_digits C_Reader_here hr, h⟩
/-! ### Reader.phrase -/
abbrev s_Reader_phrase : Stmt := inClass (topS 13) 4
theorem sc_Reader_phrase : FnScope ["self", "stop", "deep", "factors", "atom"] ["self", "stop", "deep"] (defScope s_Reader_phrase) := ⟨rfl, rfl, rfl, by decide +kernel, rfl, by decide +kernel, by decide +kernel⟩
def t_Reader_phrase (c : Ks) : DTS :=
  (dSeq (dAsg (dLstM dNil) (dgName 3))
  (dSeq (dWhile (dOr (dTB (dOp (rEqW true) (dMeth c.Reader "skip" (sp_Reader_skip c) (dVar 0) dNil) (dVar 1))) (dTB (dOp (rEqW false) (dVar 3) (dLst dNil)))) (dSeq (dAsg (dMeth c.Reader "atom" (sp_Reader_atom c) (dVar 0) (dCons (dVar 2) dNil)) (dgName 4))
  (dDrop (dBM "list" rAppend (dVar 3) (dCons (dTup (dCons (dVar 4) (dCons (dIf (dTB (dOp (rEqW false) (dMeth c.Reader "skip" (sp_Reader_skip c) (dVar 0) dNil) (dC (.str "^")))) (dMeth c.Reader "exponent" (sp_Reader_exponent c) (dVar 0) dNil) (dC (.int 1))) dNil))) dNil)))))
  (dRet (dVar 3))))
theorem dv_Reader_phrase {P : Program} {w : World} {K : PySem.W.Frag} {mg : Str → Option Value} {base : Heap} {f : Addr} {cdv : Value} {A : Around} {outer : List Env} {s : Shared} {H : Hp} {E : XK} (c : Ks) (B : NB mg) (T : Cn mg) {f_Reader_skip : Addr} {d_Reader_skip : FuncData} (C_Reader_skip : CalM P w K mg base 2 c.Reader "skip" ["self"] (sp_Reader_skip c) f_Reader_skip d_Reader_skip) {f_Reader_exponent : Addr} {d_Reader_exponent : FuncData} (C_Reader_exponent : CalM P w K mg base 3 c.Reader "exponent" ["self"] (sp_Reader_exponent c) f_Reader_exponent d_Reader_exponent) {f_Reader_atom : Addr} {d_Reader_atom : FuncData} (C_Reader_atom : CalM P w K mg base 3 c.Reader "atom" ["self", "deep"] (sp_Reader_atom c) f_Reader_atom d_Reader_atom)
    (hr : Room 3 (A.deeper (envOfC "Reader.phrase" (defScope s_Reader_phrase) s.heap.objs.size f cdv))) : DSs (cxOf CX0 P w K mg base ["self", "stop", "deep", "factors", "atom"] "Reader.phrase" (defScope s_Reader_phrase) f cdv A outer s H E).nox (defBody s_Reader_phrase) (t_Reader_phrase c) :=
  (dss_cons (ds_set (i := 3) sc_Reader_phrase.nd (de_lstM da_nil))
    (dss_cons (ds_while PassesOwn.never (PW.pt (dw_or (dt_cmp (o_ne hr.units) l_ne (de_meth0 C_Reader_skip (hr.mono (by omega)) (dv 0)) (dv 1) (nomark _)) (dw_or1 (dt_cmp (o_eq hr.units) l_eq (dv 3) (de_lst da_nil) (nomark _))))) (dss_cons (ds_set (i := 4) sc_Reader_phrase.nd (de_meth C_Reader_atom (hr.mono (by omega)) (dv 0) (da_cons (dv 2) da_nil)))
    (dss_one (ds_expr (de_append (dv 3) (da_cons (de_tup (da_cons (dv 4) (da_cons (de_if (dt_cmp (o_eq hr.units) l_eq (de_meth0 C_Reader_skip (hr.mono (by omega)) (dv 0)) de_str (nomark _)) (de_meth0 C_Reader_exponent (hr.mono (by omega)) (dv 0)) de_int) da_nil))) da_nil))))))
    (dss_one (ds_ret (dv 3)))))
theorem ok_Reader_phrase {P : Program} {w : World} {K : PySem.W.Frag} {mg : Str → Option Value} {base : Heap} {f : Addr} {fd : FuncData} (c : Ks) (B : NB mg) (T : Cn mg) {f_Reader_skip : Addr} {d_Reader_skip : FuncData} (C_Reader_skip : CalM P w K mg base 2 c.Reader "skip" ["self"] (sp_Reader_skip c) f_Reader_skip d_Reader_skip) {f_Reader_exponent : Addr} {d_Reader_exponent : FuncData} (C_Reader_exponent : CalM P w K mg base 3 c.Reader "exponent" ["self"] (sp_Reader_exponent c) f_Reader_exponent d_Reader_exponent) {f_Reader_atom : Addr} {d_Reader_atom : FuncData} (C_Reader_atom : CalM P w K mg base 3 c.Reader "atom" ["self", "deep"] (sp_Reader_atom c) f_Reader_atom d_Reader_atom) {dvs : List V} {kws : List (Str × V)} (F : DL.FnD K "phrase" "Reader.phrase" s_Reader_phrase dvs kws f fd)
    {sp : DSp} (len : ∀ ds M Q E, sp ds M Q E → ds.length = 3) (h : ∀ ds M Q E0, sp ds M Q E0 → t_Reader_phrase c (bodyE K Q) (startD ["self", "stop", "deep", "factors", "atom"] ds) M) : FnOk P w K mg base CX0 4 f fd ["self", "stop", "deep"] (lSp K sp) :=
  dfunD F sc_Reader_phrase len fun cdv A outer s H E hr => ⟨t_Reader_phrase c, dv_Reader_phrase c B T C_Reader_skip C_Reader_exponent C_Reader_atom hr, h⟩
/-! ### atom_length -/
abbrev s_atom_length : Stmt := topS 14
theorem sc_atom_length : FnScope ["atom"] ["atom"] (defScope s_atom_length) := ⟨rfl, rfl, rfl, by decide +kernel, rfl, by decide +kernel, by decide +kernel⟩
def t_atom_length (c : Ks) : DTS :=
  (dSeq (dIfS (dTru (dIsi "str" (dVar 0))) (dRet (dCB rLen (dCons (dVar 0) dNil))) dNext)
  dNever)
theorem dv_atom_length {P : Program} {w : World} {K : PySem.W.Frag} {mg : Str → Option Value} {base : Heap} {f : Addr} {cdv : Value} {A : Around} {outer : List Env} {s : Shared} {H : Hp} {E : XK} (c : Ks) (B : NB mg) (T : Cn mg)
    (hr : Room 0 (A.deeper (envOfC "atom_length" (defScope s_atom_length) s.heap.objs.size f cdv))) : DSs (cxOf CX0 P w K mg base ["atom"] "atom_length" (defScope s_atom_length) f cdv A outer s H E).nox (defBody s_atom_length) (t_atom_length c) :=
  (dss_cons (ds_if (dt_tru (de_isi (Ts := "str") B (dv 0))) (dss_one (ds_ret (de_len B.len (da_cons (dv 0) da_nil)))) dss_nil)
    (dss_one ds_never))
theorem ok_atom_length {P : Program} {w : World} {K : PySem.W.Frag} {mg : Str → Option Value} {base : Heap} {f : Addr} {fd : FuncData} (c : Ks) (B : NB mg) (T : Cn mg) {dvs : List V} {kws : List (Str × V)} (F : DL.FnD K "atom_length" "atom_length" s_atom_length dvs kws f fd)
    {sp : DSp} (len : ∀ ds M Q E, sp ds M Q E → ds.length = 1) (h : ∀ ds M Q E0, sp ds M Q E0 → t_atom_length c (bodyE K Q) (startD ["atom"] ds) M) : FnOk P w K mg base CX0 1 f fd ["atom"] (lSp K sp) :=
  dfunD F sc_atom_length len fun cdv A outer s H E hr => ⟨t_atom_length c, dv_atom_length c B T hr, h⟩
/-! ### length_of -/
abbrev s_length_of : Stmt := topS 15
theorem sc_length_of : FnScope ["factors", "atom", "times"] ["factors"] (defScope s_length_of) := ⟨rfl, rfl, rfl, by decide +kernel, rfl, by decide +kernel, by decide +kernel⟩
def t_length_of (c : Ks) : DTS :=
  (dRet (dCB rSum (dCons (dLc (dIter (dVar 0)) (dgTup 2 (dgCons (dgName 1) (dgCons (dgName 2) dgNil))) (dTB (dOp (rEqW true) (dVar 2) (dC (.int 0)))) (dOp rMulX (dCall (sp_atom_length c) (dCons (dVar 1) dNil)) (dCB rAbs (dCons (dVar 2) dNil))) [1, 2]) dNil)))
theorem dv_length_of {P : Program} {w : World} {K : PySem.W.Frag} {mg : Str → Option Value} {base : Heap} {f : Addr} {cdv : Value} {A : Around} {outer : List Env} {s : Shared} {H : Hp} {E : XK} (c : Ks) (B : NB mg) (T : Cn mg) {f_atom_length : Addr} {d_atom_length : FuncData} (C_atom_length : Cal P w K mg base 1 "atom_length" ["atom"] (sp_atom_length c) f_atom_length d_atom_length)
    (hr : Room 1 (A.deeper (envOfC "length_of" (defScope s_length_of) s.heap.objs.size f cdv))) : DSs (cxOf CX0 P w K mg base ["factors", "atom", "times"] "length_of" (defScope s_length_of) f cdv A outer s H E).nox (defBody s_length_of) (t_length_of c) :=
  (dss_one (ds_ret (de_sum B.sum (da_cons (de_lc (g := (gTup _ 2 (gCons (gName 1) (gCons (gName 2) gNil)))) sc_length_of.nd (di_list (dv 0)) (blkOk_by (own := [("atom", 1), ("times", 2)]) (N := ["factors", "atom", "times"]) (sc := defScope s_length_of) (by decide +kernel)) (tg_tup (tgs_cons (tg_name (i := 1) (by decide)) (tgs_cons (tg_name (i := 2) (by decide)) tgs_nil))) (fun _ _ _ _ _ => (pg_tup rfl (pgs_cons (pg_name (i := 1) sc_length_of.nd rfl (Or.inl rfl)) (pgs_cons (pg_name (i := 2) sc_length_of.nd rfl (Or.inl rfl)) pgs_nil)))) (fun _ _ _ _ _ => (dts_one (dt_cmp (o_ne hr.units) l_ne (dv 2) de_int (nomark _)))) (fun _ _ _ _ _ => (de_mulX (de_callC C_atom_length (hr.mono (by omega)) (da_cons (dv 1) da_nil)) (de_abs B.abs (da_cons (dv 2) da_nil))))) da_nil))))
theorem ok_length_of {P : Program} {w : World} {K : PySem.W.Frag} {mg : Str → Option Value} {base : Heap} {f : Addr} {fd : FuncData} (c : Ks) (B : NB mg) (T : Cn mg) {f_atom_length : Addr} {d_atom_length : FuncData} (C_atom_length : Cal P w K mg base 1 "atom_length" ["atom"] (sp_atom_length c) f_atom_length d_atom_length) {dvs : List V} {kws : List (Str × V)} (F : DL.FnD K "length_of" "length_of" s_length_of dvs kws f fd)
    {sp : DSp} (len : ∀ ds M Q E, sp ds M Q E → ds.length = 1) (h : ∀ ds M Q E0, sp ds M Q E0 → t_length_of c (bodyE K Q) (startD ["factors", "atom", "times"] ds) M) : FnOk P w K mg base CX0 2 f fd ["factors"] (lSp K sp) :=
  dfunD F sc_length_of len fun cdv A outer s H E hr => ⟨t_length_of c, dv_length_of c B T C_atom_length hr, h⟩
/-! ### atom_word -/
abbrev s_atom_word : Stmt := topS 16
theorem sc_atom_word : FnScope ["atom", "left", "right"] ["atom"] (defScope s_atom_word) := ⟨rfl, rfl, rfl, by decide +kernel, rfl, by decide +kernel, by decide +kernel⟩
def t_atom_word (c : Ks) : DTS :=
  (dSeq (dIfS (dTru (dIsi "str" (dVar 0))) (dRet (dVar 0)) dNext)
  (dSeq (dIfS (dTB (dOp (rEqW false) (dCB rLen (dCons (dVar 0) dNil)) (dC (.int 1)))) dNever dNext)
  (dSeq dNever
  dNever)))
theorem dv_atom_word {P : Program} {w : World} {K : PySem.W.Frag} {mg : Str → Option Value} {base : Heap} {f : Addr} {cdv : Value} {A : Around} {outer : List Env} {s : Shared} {H : Hp} {E : XK} (c : Ks) (B : NB mg) (T : Cn mg)
    (hr : Room 0 (A.deeper (envOfC "atom_word" (defScope s_atom_word) s.heap.objs.size f cdv))) : DSs (cxOf CX0 P w K mg base ["atom", "left", "right"] "atom_word" (defScope s_atom_word) f cdv A outer s H E).nox (defBody s_atom_word) (t_atom_word c) :=
  (dss_cons (ds_if (dt_tru (de_isi (Ts := "str") B (dv 0))) (dss_one (ds_ret (dv 0))) dss_nil)
    (dss_cons (ds_if (dt_cmp (o_eq hr.units) l_eq (de_len B.len (da_cons (dv 0) da_nil)) de_int (nomark _)) (dss_one ds_never) dss_nil)
    (dss_cons ds_never
    (dss_one ds_never))))
theorem ok_atom_word {P : Program} {w : World} {K : PySem.W.Frag} {mg : Str → Option Value} {base : Heap} {f : Addr} {fd : FuncData} (c : Ks) (B : NB mg) (T : Cn mg) {dvs : List V} {kws : List (Str × V)} (F : DL.FnD K "atom_word" "atom_word" s_atom_word dvs kws f fd)
    {sp : DSp} (len : ∀ ds M Q E, sp ds M Q E → ds.length = 1) (h : ∀ ds M Q E0, sp ds M Q E0 → t_atom_word c (bodyE K Q) (startD ["atom", "left", "right"] ds) M) : FnOk P w K mg base CX0 1 f fd ["atom"] (lSp K sp) :=
  dfunD F sc_atom_word len fun cdv A outer s H E hr => ⟨t_atom_word c, dv_atom_word c B T hr, h⟩
/-! ### word_of_factors -/
abbrev s_word_of_factors : Stmt := topS 17
theorem sc_word_of_factors : FnScope ["factors", "found", "atom", "times"] ["factors"] (defScope s_word_of_factors) := ⟨rfl, rfl, rfl, by decide +kernel, rfl, by decide +kernel, by decide +kernel⟩
def t_word_of_factors (c : Ks) : DTS :=
  (dSeq (dAsg (dC (.str "")) (dgName 1))
  (dSeq (dFor (dIter (dVar 0)) (dgTup 2 (dgCons (dgName 2) (dgCons (dgName 3) dgNil))) (dIfS (dTB (dOp rGt (dVar 3) (dC (.int 0)))) (dAug 1 (dOp rMulX (dCall (sp_atom_word c) (dCons (dVar 2) dNil)) (dVar 3)) rIadd) (dIfS (dTB (dOp rLt (dVar 3) (dC (.int 0)))) (dAug 1 (dOp rMulX (dCall sp_opposite (dCons (dCall (sp_atom_word c) (dCons (dVar 2) dNil)) dNil)) (dUn rNeg (dVar 3))) rIadd) dNext)))
  (dRet (dVar 1))))
theorem dv_word_of_factors {P : Program} {w : World} {K : PySem.W.Frag} {mg : Str → Option Value} {base : Heap} {f : Addr} {cdv : Value} {A : Around} {outer : List Env} {s : Shared} {H : Hp} {E : XK} (c : Ks) (B : NB mg) (T : Cn mg) {f_atom_word : Addr} {d_atom_word : FuncData} (C_atom_word : Cal P w K mg base 1 "atom_word" ["atom"] (sp_atom_word c) f_atom_word d_atom_word) {f_opposite : Addr} {d_opposite : FuncData} (C_opposite : Cal P w K mg base 2 "opposite" ["word"] sp_opposite f_opposite d_opposite)
    (hr : Room 2 (A.deeper (envOfC "word_of_factors" (defScope s_word_of_factors) s.heap.objs.size f cdv))) : DSs (cxOf CX0 P w K mg base ["factors", "found", "atom", "times"] "word_of_factors" (defScope s_word_of_factors) f cdv A outer s H E).nox (defBody s_word_of_factors) (t_word_of_factors c) :=
  (dss_cons (ds_set (i := 1) sc_word_of_factors.nd de_str)
    (dss_cons (ds_for PassesOwn.never rfl (di_list (dv 0)) (dg_tup rfl (dgs_cons (dg_name (i := 2) sc_word_of_factors.nd) (dgs_cons (dg_name (i := 3) sc_word_of_factors.nd) dgs_nil))) (dss_one (ds_if (dt_cmp o_gt l_gt (dv 3) de_int (nomark _)) (dss_one (ds_aug (i := 1) sc_word_of_factors.nd (de_mulX (de_callC C_atom_word (hr.mono (by omega)) (da_cons (dv 2) da_nil)) (dv 3)) o_iadd l_iadd)) (dss_one (ds_if (dt_cmp o_lt l_lt (dv 3) de_int (nomark _)) (dss_one (ds_aug (i := 1) sc_word_of_factors.nd (de_mulX (de_callC C_opposite (hr.mono (by omega)) (da_cons (de_callC C_atom_word (hr.mono (by omega)) (da_cons (dv 2) da_nil)) da_nil)) (de_neg (dv 3))) o_iadd l_iadd)) dss_nil)))))
    (dss_one (ds_ret (dv 1)))))
theorem ok_word_of_factors {P : Program} {w : World} {K : PySem.W.Frag} {mg : Str → Option Value} {base : Heap} {f : Addr} {fd : FuncData} (c : Ks) (B : NB mg) (T : Cn mg) {f_atom_word : Addr} {d_atom_word : FuncData} (C_atom_word : Cal P w K mg base 1 "atom_word" ["atom"] (sp_atom_word c) f_atom_word d_atom_word) {f_opposite : Addr} {d_opposite : FuncData} (C_opposite : Cal P w K mg base 2 "opposite" ["word"] sp_opposite f_opposite d_opposite) {dvs : List V} {kws : List (Str × V)} (F : DL.FnD K "word_of_factors" "word_of_factors" s_word_of_factors dvs kws f fd)
    {sp : DSp} (len : ∀ ds M Q E, sp ds M Q E → ds.length = 1) (h : ∀ ds M Q E0, sp ds M Q E0 → t_word_of_factors c (bodyE K Q) (startD ["factors", "found", "atom", "times"] ds) M) : FnOk P w K mg base CX0 3 f fd ["factors"] (lSp K sp) :=
  dfunD F sc_word_of_factors len fun cdv A outer s H E hr => ⟨t_word_of_factors c, dv_word_of_factors c B T C_atom_word C_opposite hr, h⟩
/-! ### read_factors -/
abbrev s_read_factors : Stmt := topS 18
theorem sc_read_factors : FnScope ["text", "letters"] ["text", "letters"] (defScope s_read_factors) := ⟨rfl, rfl, rfl, by decide +kernel, rfl, by decide +kernel, by decide +kernel⟩
def t_read_factors (c : Ks) : DTS :=
  (dRet (dMeth c.Reader "phrase" (sp_Reader_phrase c) (dMake c.Reader (sp_Reader___init__ c) (dCons (dVar 0) (dCons (dVar 1) dNil))) (dCons (dC (.str "")) (dCons (dC (.int 0)) dNil))))
theorem dv_read_factors {P : Program} {w : World} {K : PySem.W.Frag} {mg : Str → Option Value} {base : Heap} {f : Addr} {cdv : Value} {A : Around} {outer : List Env} {s : Shared} {H : Hp} {E : XK} (c : Ks) (B : NB mg) (T : Cn mg) {f_Reader_phrase : Addr} {d_Reader_phrase : FuncData} (C_Reader_phrase : CalM P w K mg base 4 c.Reader "phrase" ["self", "stop", "deep"] (sp_Reader_phrase c) f_Reader_phrase d_Reader_phrase) {f_Reader___init__ : Addr} {d_Reader___init__ : FuncData} (C_Reader___init__ : CalI P w K mg base 3 "Reader" c.Reader ["self", "text", "letters"] (sp_Reader___init__ c) f_Reader___init__ d_Reader___init__)
    (hr : Room 4 (A.deeper (envOfC "read_factors" (defScope s_read_factors) s.heap.objs.size f cdv))) : DSs (cxOf CX0 P w K mg base ["text", "letters"] "read_factors" (defScope s_read_factors) f cdv A outer s H E).nox (defBody s_read_factors) (t_read_factors c) :=
  (dss_one (ds_ret (de_meth C_Reader_phrase (hr.mono (by omega)) (de_make C_Reader___init__ (hr.mono (by omega)) (da_cons (dv 0) (da_cons (dv 1) da_nil))) (da_cons de_str (da_cons de_int da_nil)))))
theorem ok_read_factors {P : Program} {w : World} {K : PySem.W.Frag} {mg : Str → Option Value} {base : Heap} {f : Addr} {fd : FuncData} (c : Ks) (B : NB mg) (T : Cn mg) {f_Reader_phrase : Addr} {d_Reader_phrase : FuncData} (C_Reader_phrase : CalM P w K mg base 4 c.Reader "phrase" ["self", "stop", "deep"] (sp_Reader_phrase c) f_Reader_phrase d_Reader_phrase) {f_Reader___init__ : Addr} {d_Reader___init__ : FuncData} (C_Reader___init__ : CalI P w K mg base 3 "Reader" c.Reader ["self", "text", "letters"] (sp_Reader___init__ c) f_Reader___init__ d_Reader___init__) {dvs : List V} {kws : List (Str × V)} (F : DL.FnD K "read_factors" "read_factors" s_read_factors dvs kws f fd)
    {sp : DSp} (len : ∀ ds M Q E, sp ds M Q E → ds.length = 2) (h : ∀ ds M Q E0, sp ds M Q E0 → t_read_factors c (bodyE K Q) (startD ["text", "letters"] ds) M) : FnOk P w K mg base CX0 5 f fd ["text", "letters"] (lSp K sp) :=
  dfunD F sc_read_factors len fun cdv A outer s H E hr => ⟨t_read_factors c, dv_read_factors c B T C_Reader_phrase C_Reader___init__ hr, h⟩
/-! ### short_word -/
abbrev s_short_word : Stmt := topS 19
theorem sc_short_word : FnScope ["factors"] ["factors"] (defScope s_short_word) := ⟨rfl, rfl, rfl, by decide +kernel, rfl, by decide +kernel, by decide +kernel⟩
def t_short_word (c : Ks) : DTS :=
  (dSeq (dIfS (dTB (dOp rGt (dCall (sp_length_of c) (dCons (dVar 0) dNil)) (dC (.int 400)))) dNever dNext)
  (dRet (dCall (sp_word_of_factors c) (dCons (dVar 0) dNil))))
theorem dv_short_word {P : Program} {w : World} {K : PySem.W.Frag} {mg : Str → Option Value} {base : Heap} {f : Addr} {cdv : Value} {A : Around} {outer : List Env} {s : Shared} {H : Hp} {E : XK} (c : Ks) (B : NB mg) (T : Cn mg) {f_word_of_factors : Addr} {d_word_of_factors : FuncData} (C_word_of_factors : Cal P w K mg base 3 "word_of_factors" ["factors"] (sp_word_of_factors c) f_word_of_factors d_word_of_factors) {f_length_of : Addr} {d_length_of : FuncData} (C_length_of : Cal P w K mg base 2 "length_of" ["factors"] (sp_length_of c) f_length_of d_length_of)
    (hr : Room 3 (A.deeper (envOfC "short_word" (defScope s_short_word) s.heap.objs.size f cdv))) : DSs (cxOf CX0 P w K mg base ["factors"] "short_word" (defScope s_short_word) f cdv A outer s H E).nox (defBody s_short_word) (t_short_word c) :=
  (dss_cons (ds_if (dt_cmp o_gt l_gt (de_callC C_length_of (hr.mono (by omega)) (da_cons (dv 0) da_nil)) (de_globE T.MOST_LENGTH (fun _ => by rw [Rep])) (nomark _)) (dss_one ds_never) dss_nil)
    (dss_one (ds_ret (de_callC C_word_of_factors (hr.mono (by omega)) (da_cons (dv 0) da_nil)))))
theorem ok_short_word {P : Program} {w : World} {K : PySem.W.Frag} {mg : Str → Option Value} {base : Heap} {f : Addr} {fd : FuncData} (c : Ks) (B : NB mg) (T : Cn mg) {f_word_of_factors : Addr} {d_word_of_factors : FuncData} (C_word_of_factors : Cal P w K mg base 3 "word_of_factors" ["factors"] (sp_word_of_factors c) f_word_of_factors d_word_of_factors) {f_length_of : Addr} {d_length_of : FuncData} (C_length_of : Cal P w K mg base 2 "length_of" ["factors"] (sp_length_of c) f_length_of d_length_of) {dvs : List V} {kws : List (Str × V)} (F : DL.FnD K "short_word" "short_word" s_short_word dvs kws f fd)
    {sp : DSp} (len : ∀ ds M Q E, sp ds M Q E → ds.length = 1) (h : ∀ ds M Q E0, sp ds M Q E0 → t_short_word c (bodyE K Q) (startD ["factors"] ds) M) : FnOk P w K mg base CX0 4 f fd ["factors"] (lSp K sp) :=
  dfunD F sc_short_word len fun cdv A outer s H E hr => ⟨t_short_word c, dv_short_word c B T C_word_of_factors C_length_of hr, h⟩
/-! ### read_word -/
abbrev s_read_word : Stmt := topS 20
theorem sc_read_word : FnScope ["text", "letters"] ["text", "letters"] (defScope s_read_word) := ⟨rfl, rfl, rfl, by decide +kernel, rfl, by decide +kernel, by decide +kernel⟩
def t_read_word (c : Ks) : DTS :=
  (dRet (dCall (sp_short_word c) (dCons (dCall (sp_read_factors c) (dCons (dVar 0) (dCons (dVar 1) dNil))) dNil)))
theorem dv_read_word {P : Program} {w : World} {K : PySem.W.Frag} {mg : Str → Option Value} {base : Heap} {f : Addr} {cdv : Value} {A : Around} {outer : List Env} {s : Shared} {H : Hp} {E : XK} (c : Ks) (B : NB mg) (T : Cn mg) {f_short_word : Addr} {d_short_word : FuncData} (C_short_word : Cal P w K mg base 4 "short_word" ["factors"] (sp_short_word c) f_short_word d_short_word) {f_read_factors : Addr} {d_read_factors : FuncData} (C_read_factors : Cal P w K mg base 5 "read_factors" ["text", "letters"] (sp_read_factors c) f_read_factors d_read_factors)
    (hr : Room 5 (A.deeper (envOfC "read_word" (defScope s_read_word) s.heap.objs.size f cdv))) : DSs (cxOf CX0 P w K mg base ["text", "letters"] "read_word" (defScope s_read_word) f cdv A outer s H E).nox (defBody s_read_word) (t_read_word c) :=
  (dss_one (ds_ret (de_callC C_short_word (hr.mono (by omega)) (da_cons (de_callC C_read_factors (hr.mono (by omega)) (da_cons (dv 0) (da_cons (dv 1) da_nil))) da_nil))))
theorem ok_read_word {P : Program} {w : World} {K : PySem.W.Frag} {mg : Str → Option Value} {base : Heap} {f : Addr} {fd : FuncData} (c : Ks) (B : NB mg) (T : Cn mg) {f_short_word : Addr} {d_short_word : FuncData} (C_short_word : Cal P w K mg base 4 "short_word" ["factors"] (sp_short_word c) f_short_word d_short_word) {f_read_factors : Addr} {d_read_factors : FuncData} (C_read_factors : Cal P w K mg base 5 "read_factors" ["text", "letters"] (sp_read_factors c) f_read_factors d_read_factors) {dvs : List V} {kws : List (Str × V)} (F : DL.FnD K "read_word" "read_word" s_read_word dvs kws f fd)
    {sp : DSp} (len : ∀ ds M Q E, sp ds M Q E → ds.length = 2) (h : ∀ ds M Q E0, sp ds M Q E0 → t_read_word c (bodyE K Q) (startD ["text", "letters"] ds) M) : FnOk P w K mg base CX0 6 f fd ["text", "letters"] (lSp K sp) :=
  dfunD F sc_read_word len fun cdv A outer s H E hr => ⟨t_read_word c, dv_read_word c B T C_short_word C_read_factors hr, h⟩
/-! ### run_text -/
abbrev s_run_text : Stmt := topS 21
theorem sc_run_text : FnScope ["character", "many"] ["character", "many"] (defScope s_run_text) := ⟨rfl, rfl, rfl, by decide +kernel, rfl, by decide +kernel, by decide +kernel⟩
def t_run_text (c : Ks) : DTS :=
  (dSeq (dIfS (dTB (dOp (rInD false) (dVar 0) (dC (.str "abcdefghijklmnopqrstuvwxyz")))) (dRet (dIf (dTB (dOp (rEqW false) (dVar 1) (dC (.int 1)))) (dVar 0) (dJoined [(dFmt (dVar 0)), (dC (.str "^")), (dFmt (dVar 1))]))) dNext)
  (dRet (dJoined [(dFmt (dBM0 "str" rLower (dVar 0))), (dC (.str "^-")), (dFmt (dVar 1))])))
theorem dv_run_text {P : Program} {w : World} {K : PySem.W.Frag} {mg : Str → Option Value} {base : Heap} {f : Addr} {cdv : Value} {A : Around} {outer : List Env} {s : Shared} {H : Hp} {E : XK} (c : Ks) (B : NB mg) (T : Cn mg)
    (hr : Room 0 (A.deeper (envOfC "run_text" (defScope s_run_text) s.heap.objs.size f cdv))) : DSs (cxOf CX0 P w K mg base ["character", "many"] "run_text" (defScope s_run_text) f cdv A outer s H E).nox (defBody s_run_text) (t_run_text c) :=
  (dss_cons (ds_if (dt_cmp (o_in (uI hr)) l_in (dv 0) (de_globE T.LOWER (fun _ => by rw [Rep])) (by rfl)) (dss_one (ds_ret (de_if (dt_cmp (o_eq hr.units) l_eq (dv 1) de_int (nomark _)) (dv 0) (de_joined (dj_cons (de_fmt (dv 0)) (dj_cons de_str (dj_cons (de_fmt (dv 1)) dj_nil))))))) dss_nil)
    (dss_one (ds_ret (de_joined (dj_cons (de_fmt (de_lower (dv 0))) (dj_cons de_str (dj_cons (de_fmt (dv 1)) dj_nil)))))))
theorem ok_run_text {P : Program} {w : World} {K : PySem.W.Frag} {mg : Str → Option Value} {base : Heap} {f : Addr} {fd : FuncData} (c : Ks) (B : NB mg) (T : Cn mg) {dvs : List V} {kws : List (Str × V)} (F : DL.FnD K "run_text" "run_text" s_run_text dvs kws f fd)
    {sp : DSp} (len : ∀ ds M Q E, sp ds M Q E → ds.length = 2) (h : ∀ ds M Q E0, sp ds M Q E0 → t_run_text c (bodyE K Q) (startD ["character", "many"] ds) M) : FnOk P w K mg base CX0 1 f fd ["character", "many"] (lSp K sp) :=
  dfunD F sc_run_text len fun cdv A outer s H E hr => ⟨t_run_text c, dv_run_text c B T hr, h⟩
/-! ### format_word -/
abbrev s_format_word : Stmt := topS 22
theorem sc_format_word : FnScope ["word", "runs", "character", "many"] ["word"] (defScope s_format_word) := ⟨rfl, rfl, rfl, by decide +kernel, rfl, by decide +kernel, by decide +kernel⟩
def t_format_word (c : Ks) : DTS :=
  (dSeq (dAsg (dLstM dNil) (dgName 1))
  (dSeq (dFor (dIterS (dVar 0)) (dgName 2) (dIfS (dAnd (dTB (dOp (rEqW true) (dVar 1) (dLst dNil))) (dTB (dOp (rEqW false) (dOp rIxD (dOp rIxD (dVar 1) (dUn rNeg (dC (.int 1)))) (dC (.int 0))) (dVar 2)))) (dAsg (dTup (dCons (dVar 2) (dCons (dOp rAdd (dOp rIxD (dOp rIxD (dVar 1) (dUn rNeg (dC (.int 1)))) (dC (.int 1))) (dC (.int 1))) dNil))) (dgSub (dVar 1) (dUn rNeg (dC (.int 1))))) (dDrop (dBM "list" rAppend (dVar 1) (dCons (dTup (dCons (dVar 2) (dCons (dC (.int 1)) dNil))) dNil)))))
  (dRet (dIf (dTB (dOp (rEqW true) (dVar 1) (dLst dNil))) (dBM "str" rJoin (dC (.str " ")) (dCons (dLc (dIter (dVar 1)) (dgTup 2 (dgCons (dgName 2) (dgCons (dgName 3) dgNil))) dYes (dCall (sp_run_text c) (dCons (dVar 2) (dCons (dVar 3) dNil))) [2, 3]) dNil)) (dC (.str "1"))))))
theorem dv_format_word {P : Program} {w : World} {K : PySem.W.Frag} {mg : Str → Option Value} {base : Heap} {f : Addr} {cdv : Value} {A : Around} {outer : List Env} {s : Shared} {H : Hp} {E : XK} (c : Ks) (B : NB mg) (T : Cn mg) {f_run_text : Addr} {d_run_text : FuncData} (C_run_text : Cal P w K mg base 1 "run_text" ["character", "many"] (sp_run_text c) f_run_text d_run_text)
    (hr : Room 1 (A.deeper (envOfC "format_word" (defScope s_format_word) s.heap.objs.size f cdv))) : DSs (cxOf CX0 P w K mg base ["word", "runs", "character", "many"] "format_word" (defScope s_format_word) f cdv A outer s H E).nox (defBody s_format_word) (t_format_word c) :=
  (dss_cons (ds_set (i := 1) sc_format_word.nd (de_lstM da_nil))
    (dss_cons (ds_for PassesOwn.never rfl (di_str (dv 0)) (dg_name (i := 2) sc_format_word.nd) (dss_one (ds_if (PW.pt (dw_and (dt_cmp (o_ne hr.units) l_ne (dv 1) (de_lst da_nil) (nomark _)) (dw_and1 (dt_cmp (o_eq hr.units) l_eq (de_ix (de_ix (dv 1) (de_neg de_int)) de_int) (dv 2) (nomark _))))) (dss_one (ds_asg (de_tup (da_cons (dv 2) (da_cons (de_add (de_ix (de_ix (dv 1) (de_neg de_int)) de_int) de_int) da_nil))) (dg_sub (dv 1) (de_neg de_int)))) (dss_one (ds_expr (de_append (dv 1) (da_cons (de_tup (da_cons (dv 2) (da_cons de_int da_nil))) da_nil)))))))
    (dss_one (ds_ret (de_if (dt_cmp (o_ne hr.units) l_ne (dv 1) (de_lst da_nil) (nomark _)) (de_join de_str (da_cons (de_lc (g := (gTup _ 2 (gCons (gName 2) (gCons (gName 3) gNil)))) sc_format_word.nd (di_list (dv 1)) (blkOk_by (own := [("character", 2), ("many", 3)]) (N := ["word", "runs", "character", "many"]) (sc := defScope s_format_word) (by decide +kernel)) (tg_tup (tgs_cons (tg_name (i := 2) (by decide)) (tgs_cons (tg_name (i := 3) (by decide)) tgs_nil))) (fun _ _ _ _ _ => (pg_tup rfl (pgs_cons (pg_name (i := 2) sc_format_word.nd rfl (Or.inl rfl)) (pgs_cons (pg_name (i := 3) sc_format_word.nd rfl (Or.inl rfl)) pgs_nil)))) (fun _ _ _ _ _ => dts_nil) (fun _ _ _ _ _ => (de_callC C_run_text (hr.mono (by omega)) (da_cons (dv 2) (da_cons (dv 3) da_nil))))) da_nil)) de_str)))))
theorem ok_format_word {P : Program} {w : World} {K : PySem.W.Frag} {mg : Str → Option Value} {base : Heap} {f : Addr} {fd : FuncData} (c : Ks) (B : NB mg) (T : Cn mg) {f_run_text : Addr} {d_run_text : FuncData} (C_run_text : Cal P w K mg base 1 "run_text" ["character", "many"] (sp_run_text c) f_run_text d_run_text) {dvs : List V} {kws : List (Str × V)} (F : DL.FnD K "format_word" "format_word" s_format_word dvs kws f fd)
    {sp : DSp} (len : ∀ ds M Q E, sp ds M Q E → ds.length = 1) (h : ∀ ds M Q E0, sp ds M Q E0 → t_format_word c (bodyE K Q) (startD ["word", "runs", "character", "many"] ds) M) : FnOk P w K mg base CX0 2 f fd ["word"] (lSp K sp) :=
  dfunD F sc_format_word len fun cdv A outer s H E hr => ⟨t_format_word c, dv_format_word c B T C_run_text hr, h⟩
/-! ### _law_begin -/
abbrev s__law_begin : Stmt := topS 24
theorem sc__law_begin : FnScope ["_law_script", "_law_marks", "_law_seed", "_law_cell"] ["_law_script"] (defScope s__law_begin) := ⟨rfl, rfl, rfl, by decide +kernel, rfl, by decide +kernel, by decide +kernel⟩
theorem dv__law_begin {P : Program} {w : World} {K : PySem.W.Frag} {mg : Str → Option Value} {base : Heap} {f : Addr} {cdv : Value} {A : Around} {outer : List Env} {s : Shared} {H : Hp} {E : XK} (c : Ks) (B : NB mg) (T : Cn mg)
    (hr : Room 0 (A.deeper (envOfC "_law_begin" (defScope s__law_begin) s.heap.objs.size f cdv))) : DSs (cxOf CX0 P w K mg base ["_law_script", "_law_marks", "_law_seed", "_law_cell"] "_law_begin" (defScope s__law_begin) f cdv A outer s H E).nox (defBody s__law_begin) (t__law_begin) :=
  (dss_cons (ds_setLc (i := 1) (g := (gName 3)) sc__law_begin.nd (di_list (de_sl (dv 0) do_none (do_some de_int))) (blkOk_by (own := [("_law_cell", 3)]) (N := ["_law_script", "_law_marks", "_law_seed", "_law_cell"]) (sc := defScope s__law_begin) (by decide +kernel)) (tg_name (i := 3) (by decide)) (fun _ _ _ _ _ => (pg_name (i := 3) sc__law_begin.nd rfl (Or.inl rfl))) (fun _ _ _ _ _ => dts_nil) (fun _ _ _ _ _ => (de_toInt B.int (da_cons (dv 3) da_nil))))
    (dss_cons (ds_set (i := 2) sc__law_begin.nd (de_add de_int (de_mulX de_int (de_len B.len (da_cons (dv 1) da_nil)))))
    (dss_cons (ds_for PassesOwn.never rfl (di_list (dv 1)) (dg_name (i := 3) sc__law_begin.nd) (dss_one (ds_set (i := 2) sc__law_begin.nd (de_mod (de_add (de_add (de_mulX (dv 2) de_int) (de_mod (de_toInt B.int (da_cons (dv 3) da_nil)) de_int)) de_int) de_int))))
    (dss_one (ds_ret (de_lstM (da_cons (dv 1) (da_cons de_int (da_cons de_int (da_cons (dv 2) da_nil))))))))))
theorem ok__law_begin {P : Program} {w : World} {K : PySem.W.Frag} {mg : Str → Option Value} {base : Heap} {f : Addr} {fd : FuncData} (c : Ks) (B : NB mg) (T : Cn mg) {dvs : List V} {kws : List (Str × V)} (F : DL.FnD K "_law_begin" "_law_begin" s__law_begin dvs kws f fd)
    {sp : DSp} (len : ∀ ds M Q E, sp ds M Q E → ds.length = 1) (h : ∀ ds M Q E0, sp ds M Q E0 → t__law_begin (bodyE K Q) (startD ["_law_script", "_law_marks", "_law_seed", "_law_cell"] ds) M) : FnOk P w K mg base CX0 1 f fd ["_law_script"] (lSp K sp) :=
  dfunD F sc__law_begin len fun cdv A outer s H E hr => ⟨t__law_begin, dv__law_begin c B T hr, h⟩
/-! ### _law_draw -/
abbrev s__law_draw : Stmt := topS 25
theorem sc__law_draw : FnScope ["_law_box", "_law_many", "_law_cell", "_law_digit", "_law_seed"] ["_law_box", "_law_many"] (defScope s__law_draw) := ⟨rfl, rfl, rfl, by decide +kernel, rfl, by decide +kernel, by decide +kernel⟩
theorem dv__law_draw {P : Program} {w : World} {K : PySem.W.Frag} {mg : Str → Option Value} {base : Heap} {f : Addr} {cdv : Value} {A : Around} {outer : List Env} {s : Shared} {H : Hp} {E : XK} (c : Ks) (B : NB mg) (T : Cn mg)
    (hr : Room 0 (A.deeper (envOfC "_law_draw" (defScope s__law_draw) s.heap.objs.size f cdv))) : DSs (cxOf CX0 P w K mg base ["_law_box", "_law_many", "_law_cell", "_law_digit", "_law_seed"] "_law_draw" (defScope s__law_draw) f cdv A outer s H E).nox (defBody s__law_draw) (t__law_draw) :=
  (dss_cons (ds_if (PW.pt (dw_and (dt_cmp (o_eq hr.units) l_eq (de_ix (dv 0) de_int) de_int (nomark _)) (dw_and1 (dt_cmp o_lt l_lt (de_ix (dv 0) de_int) (de_len B.len (da_cons (de_ix (dv 0) de_int) da_nil)) (nomark _))))) (dss_cons (ds_set (i := 2) sc__law_draw.nd (de_ix (de_ix (dv 0) de_int) (de_ix (dv 0) de_int)))
    (dss_cons (ds_asg (de_add (de_ix (dv 0) de_int) de_int) (dg_sub (dv 0) de_int))
    (dss_one (ds_if (dt_cmp o_ge l_ge (dv 2) (de_pow de_int de_int) (nomark _)) (dss_one (ds_asg (dv 2) (dg_sub (dv 0) de_int))) (dss_one (ds_asg (de_mod (de_add (de_add (de_mulX (de_ix (dv 0) de_int) de_int) (de_mulX (de_mod (de_toInt B.int (da_cons (dv 2) da_nil)) de_int) de_int)) de_int) de_int) (dg_sub (dv 0) de_int))))))) dss_nil)
    (dss_cons (ds_if (dt_cmp o_gt l_gt (de_ix (dv 0) de_int) de_int (nomark _)) (dss_cons (ds_set (i := 3) sc__law_draw.nd (de_mod (de_toInt B.int (da_cons (de_ix (dv 0) de_int) da_nil)) (dv 1)))
    (dss_cons (ds_asg (de_fdivA (de_ix (dv 0) de_int) (dv 1)) (dg_sub (dv 0) de_int))
    (dss_one (ds_ret (dv 3))))) dss_nil)
    (dss_cons (ds_set (i := 4) sc__law_draw.nd (de_ix (dv 0) de_int))
    (dss_cons (ds_asg (de_mod (de_add (de_add (de_mulX (dv 4) (dv 4)) (de_mulX (dv 4) de_int)) de_int) de_int) (dg_sub (dv 0) de_int))
    (dss_one (ds_ret (de_mod (de_add (de_fdivA (de_ix (dv 0) de_int) de_int) (de_mulX (de_mod (de_toInt B.int (da_cons (de_ix (dv 0) de_int) da_nil)) de_int) de_int)) (dv 1))))))))
theorem ok__law_draw {P : Program} {w : World} {K : PySem.W.Frag} {mg : Str → Option Value} {base : Heap} {f : Addr} {fd : FuncData} (c : Ks) (B : NB mg) (T : Cn mg) {dvs : List V} {kws : List (Str × V)} (F : DL.FnD K "_law_draw" "_law_draw" s__law_draw dvs kws f fd)
    {sp : DSp} (len : ∀ ds M Q E, sp ds M Q E → ds.length = 2) (h : ∀ ds M Q E0, sp ds M Q E0 → t__law_draw (bodyE K Q) (startD ["_law_box", "_law_many", "_law_cell", "_law_digit", "_law_seed"] ds) M) : FnOk P w K mg base CX0 1 f fd ["_law_box", "_law_many"] (lSp K sp) :=
  dfunD F sc__law_draw len fun cdv A outer s H E hr => ⟨t__law_draw, dv__law_draw c B T hr, h⟩
/-! ### _law_any -/
abbrev s__law_any : Stmt := topS 26
theorem sc__law_any : FnScope ["_law_box", "_law_some"] ["_law_box", "_law_some"] (defScope s__law_any) := ⟨rfl, rfl, rfl, by decide +kernel, rfl, by decide +kernel, by decide +kernel⟩
theorem dv__law_any {P : Program} {w : World} {K : PySem.W.Frag} {mg : Str → Option Value} {base : Heap} {f : Addr} {cdv : Value} {A : Around} {outer : List Env} {s : Shared} {H : Hp} {E : XK} (c : Ks) (B : NB mg) (T : Cn mg) {f__law_draw : Addr} {d__law_draw : FuncData} (C__law_draw : Cal P w K mg base 1 "_law_draw" ["_law_box", "_law_many"] sp__law_draw f__law_draw d__law_draw)
    (hr : Room 1 (A.deeper (envOfC "_law_any" (defScope s__law_any) s.heap.objs.size f cdv))) : DSs (cxOf CX0 P w K mg base ["_law_box", "_law_some"] "_law_any" (defScope s__law_any) f cdv A outer s H E).nox (defBody s__law_any) (t__law_any) :=
  (dss_one (ds_ret (de_ix (dv 1) (de_callC C__law_draw (hr.mono (by omega)) (da_cons (dv 0) (da_cons (de_len B.len (da_cons (dv 1) da_nil)) da_nil))))))
theorem ok__law_any {P : Program} {w : World} {K : PySem.W.Frag} {mg : Str → Option Value} {base : Heap} {f : Addr} {fd : FuncData} (c : Ks) (B : NB mg) (T : Cn mg) {f__law_draw : Addr} {d__law_draw : FuncData} (C__law_draw : Cal P w K mg base 1 "_law_draw" ["_law_box", "_law_many"] sp__law_draw f__law_draw d__law_draw) {dvs : List V} {kws : List (Str × V)} (F : DL.FnD K "_law_any" "_law_any" s__law_any dvs kws f fd)
    {sp : DSp} (len : ∀ ds M Q E, sp ds M Q E → ds.length = 2) (h : ∀ ds M Q E0, sp ds M Q E0 → t__law_any (bodyE K Q) (startD ["_law_box", "_law_some"] ds) M) : FnOk P w K mg base CX0 2 f fd ["_law_box", "_law_some"] (lSp K sp) :=
  dfunD F sc__law_any len fun cdv A outer s H E hr => ⟨t__law_any, dv__law_any c B T C__law_draw hr, h⟩
/-! ### _law_same -/
abbrev s__law_same : Stmt := topS 27
theorem sc__law_same : FnScope ["_law_found", "_law_due", "_law_k"] ["_law_found", "_law_due"] (defScope s__law_same) := ⟨rfl, rfl, rfl, by decide +kernel, rfl, by decide +kernel, by decide +kernel⟩
theorem dv__law_same {P : Program} {w : World} {K : PySem.W.Frag} {mg : Str → Option Value} {base : Heap} {f : Addr} {cdv : Value} {A : Around} {outer : List Env} {s : Shared} {H : Hp} {E : XK} (c : Ks) {r__law_same : DSp} {n : Nat} (hn : 0 ≤ n) (B : NB mg) (T : Cn mg) {f__law_same : Addr} {d__law_same : FuncData} (C__law_same : Cal P w K mg base n "_law_same" ["_law_found", "_law_due"] r__law_same f__law_same d__law_same)
    (hr : Room n (A.deeper (envOfC "_law_same" (defScope s__law_same) s.heap.objs.size f cdv))) : DSs (cxOf CX0 P w K mg base ["_law_found", "_law_due", "_law_k"] "_law_same" (defScope s__law_same) f cdv A outer s H E).nox (defBody s__law_same) (t__law_same r__law_same) :=
  (dss_cons (ds_if (dt_tru (de_isi2 (Ts := "list") (Us := "tuple") B (dv 1))) (dss_cons (ds_if (PW.pt (dw_or (dt_cmp (o_ne hr.units) l_ne (de_isi (Ts := "list") B (dv 0)) (de_isi (Ts := "list") B (dv 1)) (nomark _)) (dw_or1 (dt_cmp (o_ne hr.units) l_ne (de_isi (Ts := "tuple") B (dv 0)) (de_isi (Ts := "tuple") B (dv 1)) (nomark _))))) (dss_one (ds_ret de_bl)) dss_nil)
    (dss_one (ds_ret (de_and (de_cmp (o_eq hr.units) l_eq (de_len B.len (da_cons (dv 0) da_nil)) (de_len B.len (da_cons (dv 1) da_nil)) (nomark _)) (de_one (de_all B.all (da_cons (de_lc (g := (gName 2)) sc__law_same.nd (di_rng1 B.range (da_cons (de_len B.len (da_cons (dv 1) da_nil)) da_nil)) (blkOk_by (own := [("_law_k", 2)]) (N := ["_law_found", "_law_due", "_law_k"]) (sc := defScope s__law_same) (by decide +kernel)) (tg_name (i := 2) (by decide)) (fun _ _ _ _ _ => (pg_name (i := 2) sc__law_same.nd rfl (Or.inl rfl))) (fun _ _ _ _ _ => dts_nil) (fun _ _ _ _ _ => (de_callC C__law_same (hr.mono (by omega)) (da_cons (de_ix (dv 0) (dv 2)) (da_cons (de_ix (dv 1) (dv 2)) da_nil))))) da_nil))))))) dss_nil)
    (dss_cons (ds_if (PW.pt (dw_or (dt_isN (dv 1)) (dw_or1 (dt_isN (dv 0))))) (dss_one (ds_ret (de_and (de_isN (dv 0)) (de_one (de_isN (dv 1)))))) dss_nil)
    (dss_cons (ds_if (PW.pt (dw_or (dt_cmp (o_ne hr.units) l_ne (de_isi (Ts := "bool") B (dv 1)) (de_isi (Ts := "bool") B (dv 0)) (nomark _)) (dw_or1 (dt_cmp (o_ne hr.units) l_ne (de_isi (Ts := "int") B (dv 1)) (de_isi (Ts := "int") B (dv 0)) (nomark _))))) (dss_one (ds_ret de_bl)) dss_nil)
    (dss_one (ds_ret (de_and (de_cmp (o_eq hr.units) l_eq (de_isi (Ts := "str") B (dv 1)) (de_isi (Ts := "str") B (dv 0)) (nomark _)) (de_one (de_cmp (o_eq hr.units) l_eq (dv 0) (dv 1) (nomark _)))))))))
theorem ok__law_same {P : Program} {w : World} {K : PySem.W.Frag} {mg : Str → Option Value} {base : Heap} {f : Addr} {fd : FuncData} (c : Ks) {r__law_same : DSp} {n : Nat} (hn : 0 ≤ n) (B : NB mg) (T : Cn mg) {f__law_same : Addr} {d__law_same : FuncData} (C__law_same : Cal P w K mg base n "_law_same" ["_law_found", "_law_due"] r__law_same f__law_same d__law_same) {dvs : List V} {kws : List (Str × V)} (F : DL.FnD K "_law_same" "_law_same" s__law_same dvs kws f fd)
    {sp : DSp} (len : ∀ ds M Q E, sp ds M Q E → ds.length = 2) (h : ∀ ds M Q E0, sp ds M Q E0 → t__law_same r__law_same (bodyE K Q) (startD ["_law_found", "_law_due", "_law_k"] ds) M) : FnOk P w K mg base CX0 (n + 1) f fd ["_law_found", "_law_due"] (lSp K sp) :=
  dfunD F sc__law_same len fun cdv A outer s H E hr => ⟨t__law_same r__law_same, dv__law_same c hn B T C__law_same hr, h⟩
/-! ### _law_letters -/
abbrev s__law_letters : Stmt := topS 28
theorem sc__law_letters : FnScope ["_law_box", "_law_many", "_law_found", "_law_k", "_law_left", "_law_letter"] ["_law_box", "_law_many"] (defScope s__law_letters) := ⟨rfl, rfl, rfl, by decide +kernel, rfl, by decide +kernel, by decide +kernel⟩
theorem dv__law_letters {P : Program} {w : World} {K : PySem.W.Frag} {mg : Str → Option Value} {base : Heap} {f : Addr} {cdv : Value} {A : Around} {outer : List Env} {s : Shared} {H : Hp} {E : XK} (c : Ks) (B : NB mg) (T : Cn mg) {f__law_any : Addr} {d__law_any : FuncData} (C__law_any : Cal P w K mg base 2 "_law_any" ["_law_box", "_law_some"] sp__law_any f__law_any d__law_any)
    (hr : Room 2 (A.deeper (envOfC "_law_letters" (defScope s__law_letters) s.heap.objs.size f cdv))) : DSs (cxOf CX0 P w K mg base ["_law_box", "_law_many", "_law_found", "_law_k", "_law_left", "_law_letter"] "_law_letters" (defScope s__law_letters) f cdv A outer s H E).nox (defBody s__law_letters) (t__law_letters) :=
  (dss_cons (ds_set (i := 2) sc__law_letters.nd de_str)
    (dss_cons (ds_for PassesOwn.never rfl (di_rng1 B.range (da_cons (dv 1) da_nil)) (dg_name (i := 3) sc__law_letters.nd) (dss_cons (ds_setLc (i := 4) (g := (gName 5)) sc__law_letters.nd (di_str de_str) (blkOk_by (own := [("_law_letter", 5)]) (N := ["_law_box", "_law_many", "_law_found", "_law_k", "_law_left", "_law_letter"]) (sc := defScope s__law_letters) (by decide +kernel)) (tg_name (i := 5) (by decide)) (fun _ _ _ _ _ => (pg_name (i := 5) sc__law_letters.nd rfl (Or.inl rfl))) (fun _ _ _ _ _ => (dts_one (dt_cmp (o_nin (uI hr)) l_nin (dv 5) (dv 2) (by rfl)))) (fun _ _ _ _ _ => (dv 5)))
    (dss_one (ds_set (i := 2) sc__law_letters.nd (de_add (dv 2) (de_callC C__law_any (hr.mono (by omega)) (da_cons (dv 0) (da_cons (dv 4) da_nil))))))))
    (dss_one (ds_ret (dv 2)))))
theorem ok__law_letters {P : Program} {w : World} {K : PySem.W.Frag} {mg : Str → Option Value} {base : Heap} {f : Addr} {fd : FuncData} (c : Ks) (B : NB mg) (T : Cn mg) {f__law_any : Addr} {d__law_any : FuncData} (C__law_any : Cal P w K mg base 2 "_law_any" ["_law_box", "_law_some"] sp__law_any f__law_any d__law_any) {dvs : List V} {kws : List (Str × V)} (F : DL.FnD K "_law_letters" "_law_letters" s__law_letters dvs kws f fd)
    {sp : DSp} (len : ∀ ds M Q E, sp ds M Q E → ds.length = 2) (h : ∀ ds M Q E0, sp ds M Q E0 → t__law_letters (bodyE K Q) (startD ["_law_box", "_law_many", "_law_found", "_law_k", "_law_left", "_law_letter"] ds) M) : FnOk P w K mg base CX0 3 f fd ["_law_box", "_law_many"] (lSp K sp) :=
  dfunD F sc__law_letters len fun cdv A outer s H E hr => ⟨t__law_letters, dv__law_letters c B T C__law_any hr, h⟩
/-! ### _law_signs -/
abbrev s__law_signs : Stmt := topS 29
theorem sc__law_signs : FnScope ["_law_letters_here", "_law_letter"] ["_law_letters_here"] (defScope s__law_signs) := ⟨rfl, rfl, rfl, by decide +kernel, rfl, by decide +kernel, by decide +kernel⟩
theorem dv__law_signs {P : Program} {w : World} {K : PySem.W.Frag} {mg : Str → Option Value} {base : Heap} {f : Addr} {cdv : Value} {A : Around} {outer : List Env} {s : Shared} {H : Hp} {E : XK} (c : Ks) (B : NB mg) (T : Cn mg)
    (hr : Room 0 (A.deeper (envOfC "_law_signs" (defScope s__law_signs) s.heap.objs.size f cdv))) : DSs (cxOf CX0 P w K mg base ["_law_letters_here", "_law_letter"] "_law_signs" (defScope s__law_signs) f cdv A outer s H E).nox (defBody s__law_signs) (t__law_signs) :=
  (dss_one (ds_ret (de_join de_str (da_cons (de_lc (g := (gName 1)) sc__law_signs.nd (di_str (dv 0)) (blkOk_by (own := [("_law_letter", 1)]) (N := ["_law_letters_here", "_law_letter"]) (sc := defScope s__law_signs) (by decide +kernel)) (tg_name (i := 1) (by decide)) (fun _ _ _ _ _ => (pg_name (i := 1) sc__law_signs.nd rfl (Or.inl rfl))) (fun _ _ _ _ _ => dts_nil) (fun _ _ _ _ _ => (de_add (dv 1) (de_upper (dv 1))))) da_nil))))
theorem ok__law_signs {P : Program} {w : World} {K : PySem.W.Frag} {mg : Str → Option Value} {base : Heap} {f : Addr} {fd : FuncData} (c : Ks) (B : NB mg) (T : Cn mg) {dvs : List V} {kws : List (Str × V)} (F : DL.FnD K "_law_signs" "_law_signs" s__law_signs dvs kws f fd)
    {sp : DSp} (len : ∀ ds M Q E, sp ds M Q E → ds.length = 1) (h : ∀ ds M Q E0, sp ds M Q E0 → t__law_signs (bodyE K Q) (startD ["_law_letters_here", "_law_letter"] ds) M) : FnOk P w K mg base CX0 1 f fd ["_law_letters_here"] (lSp K sp) :=
  dfunD F sc__law_signs len fun cdv A outer s H E hr => ⟨t__law_signs, dv__law_signs c B T hr, h⟩
/-! ### _law_some_word -/
abbrev s__law_some_word : Stmt := topS 30
theorem sc__law_some_word : FnScope ["_law_box", "_law_letters_here", "_law_most", "_law_signs_here", "_law_k"] ["_law_box", "_law_letters_here", "_law_most"] (defScope s__law_some_word) := ⟨rfl, rfl, rfl, by decide +kernel, rfl, by decide +kernel, by decide +kernel⟩
theorem dv__law_some_word {P : Program} {w : World} {K : PySem.W.Frag} {mg : Str → Option Value} {base : Heap} {f : Addr} {cdv : Value} {A : Around} {outer : List Env} {s : Shared} {H : Hp} {E : XK} (c : Ks) (B : NB mg) (T : Cn mg) {f__law_draw : Addr} {d__law_draw : FuncData} (C__law_draw : Cal P w K mg base 1 "_law_draw" ["_law_box", "_law_many"] sp__law_draw f__law_draw d__law_draw) {f__law_any : Addr} {d__law_any : FuncData} (C__law_any : Cal P w K mg base 2 "_law_any" ["_law_box", "_law_some"] sp__law_any f__law_any d__law_any) {f__law_signs : Addr} {d__law_signs : FuncData} (C__law_signs : Cal P w K mg base 1 "_law_signs" ["_law_letters_here"] sp__law_signs f__law_signs d__law_signs)
    (hr : Room 2 (A.deeper (envOfC "_law_some_word" (defScope s__law_some_word) s.heap.objs.size f cdv))) : DSs (cxOf CX0 P w K mg base ["_law_box", "_law_letters_here", "_law_most", "_law_signs_here", "_law_k"] "_law_some_word" (defScope s__law_some_word) f cdv A outer s H E).nox (defBody s__law_some_word) (t__law_some_word) :=
  (dss_cons (ds_set (i := 3) sc__law_some_word.nd (de_callC C__law_signs (hr.mono (by omega)) (da_cons (dv 1) da_nil)))
    (dss_one (ds_ret (de_join de_str (da_cons (de_lc (g := (gName 4)) sc__law_some_word.nd (di_rng1 B.range (da_cons (de_callC C__law_draw (hr.mono (by omega)) (da_cons (dv 0) (da_cons (de_add (dv 2) de_int) da_nil))) da_nil)) (blkOk_by (own := [("_law_k", 4)]) (N := ["_law_box", "_law_letters_here", "_law_most", "_law_signs_here", "_law_k"]) (sc := defScope s__law_some_word) (by decide +kernel)) (tg_name (i := 4) (by decide)) (fun _ _ _ _ _ => (pg_name (i := 4) sc__law_some_word.nd rfl (Or.inl rfl))) (fun _ _ _ _ _ => dts_nil) (fun _ _ _ _ _ => (de_callC C__law_any (hr.mono (by omega)) (da_cons (dv 0) (da_cons (de_toList B.list (da_cons (dv 3) da_nil)) da_nil))))) da_nil)))))
theorem ok__law_some_word {P : Program} {w : World} {K : PySem.W.Frag} {mg : Str → Option Value} {base : Heap} {f : Addr} {fd : FuncData} (c : Ks) (B : NB mg) (T : Cn mg) {f__law_draw : Addr} {d__law_draw : FuncData} (C__law_draw : Cal P w K mg base 1 "_law_draw" ["_law_box", "_law_many"] sp__law_draw f__law_draw d__law_draw) {f__law_any : Addr} {d__law_any : FuncData} (C__law_any : Cal P w K mg base 2 "_law_any" ["_law_box", "_law_some"] sp__law_any f__law_any d__law_any) {f__law_signs : Addr} {d__law_signs : FuncData} (C__law_signs : Cal P w K mg base 1 "_law_signs" ["_law_letters_here"] sp__law_signs f__law_signs d__law_signs) {dvs : List V} {kws : List (Str × V)} (F : DL.FnD K "_law_some_word" "_law_some_word" s__law_some_word dvs kws f fd)
    {sp : DSp} (len : ∀ ds M Q E, sp ds M Q E → ds.length = 3) (h : ∀ ds M Q E0, sp ds M Q E0 → t__law_some_word (bodyE K Q) (startD ["_law_box", "_law_letters_here", "_law_most", "_law_signs_here", "_law_k"] ds) M) : FnOk P w K mg base CX0 3 f fd ["_law_box", "_law_letters_here", "_law_most"] (lSp K sp) :=
  dfunD F sc__law_some_word len fun cdv A outer s H E hr => ⟨t__law_some_word, dv__law_some_word c B T C__law_draw C__law_any C__law_signs hr, h⟩
/-! ### _law_text -/
abbrev s__law_text : Stmt := topS 31
theorem sc__law_text : FnScope ["_law_one", "_law_parts", "_law_at", "_law_size", "_law_letter", "_law_text_here"] ["_law_one"] (defScope s__law_text) := ⟨rfl, rfl, rfl, by decide +kernel, rfl, by decide +kernel, by decide +kernel⟩
def t__law_text (c : Ks) : DTS :=
  (dSeq (dPar 1 2 (dLstM dNil) (dC (.int 0)))
  (dSeq (dWhile (dTB (dOp rLt (dVar 2) (dCB rLen (dCons (dVar 0) dNil)))) (dSeq (dAsg (dOp rSubI (dCB rLen (dCons (dSl (dVar 0) (dPart (dVar 2)) (fun _ M Q => Q none M)) dNil)) (dCB rLen (dCons (dBM "str" rLstripC (dSl (dVar 0) (dPart (dVar 2)) (fun _ M Q => Q none M)) (dCons (dOp rIxD (dVar 0) (dVar 2)) dNil)) dNil))) (dgName 3))
  (dSeq (dPar 4 5 (dBM0 "str" rLower (dOp rIxD (dVar 0) (dVar 2))) (dOp rAdd (dC (.str "^")) (dCB rStrN (dCons (dVar 3) dNil))))
  (dSeq (dIfS (dTB (dOp (rEqW true) (dOp rIxD (dVar 0) (dVar 2)) (dVar 4))) (dAsg (dOp rAdd (dC (.str "^-")) (dCB rStrN (dCons (dVar 3) dNil))) (dgName 5)) (dIfS (dTB (dOp (rEqW false) (dVar 3) (dC (.int 1)))) (dAsg (dC (.str "")) (dgName 5)) dNext))
  (dSeq (dDrop (dBM "list" rAppend (dVar 1) (dCons (dOp rAdd (dVar 4) (dVar 5)) dNil)))
  (dAsg (dOp rAdd (dVar 2) (dVar 3)) (dgName 2)))))))
  (dRet (dIf (dTB (dOp (rEqW true) (dVar 1) (dLst dNil))) (dBM "str" rJoin (dC (.str " ")) (dCons (dVar 1) dNil)) (dC (.str "1"))))))
theorem dv__law_text {P : Program} {w : World} {K : PySem.W.Frag} {mg : Str → Option Value} {base : Heap} {f : Addr} {cdv : Value} {A : Around} {outer : List Env} {s : Shared} {H : Hp} {E : XK} (c : Ks) (B : NB mg) (T : Cn mg)
    (hr : Room 0 (A.deeper (envOfC "_law_text" (defScope s__law_text) s.heap.objs.size f cdv))) : DSs (cxOf CX0 P w K mg base ["_law_one", "_law_parts", "_law_at", "_law_size", "_law_letter", "_law_text_here"] "_law_text" (defScope s__law_text) f cdv A outer s H E).nox (defBody s__law_text) (t__law_text c) :=
  (dss_cons (ds_par (i := 1) (j := 2) rfl sc__law_text.nd rfl rfl (by decide) rfl rfl (de_lstM da_nil) de_int (by rfl))
    (dss_cons (ds_while PassesOwn.never (dt_cmp o_lt l_lt (dv 2) (de_len B.len (da_cons (dv 0) da_nil)) (nomark _)) (dss_cons (ds_set (i := 3) sc__law_text.nd (de_sub (de_len B.len (da_cons (de_sl (dv 0) (do_some (dv 2)) do_none) da_nil)) (de_len B.len (da_cons (de_lstripC (de_sl (dv 0) (do_some (dv 2)) do_none) (da_cons (de_ix (dv 0) (dv 2)) da_nil)) da_nil))))
    (dss_cons (ds_par (i := 4) (j := 5) rfl sc__law_text.nd rfl rfl (by decide) rfl rfl (de_lower (de_ix (dv 0) (dv 2))) (de_add de_str (de_strN B.str (da_cons (dv 3) da_nil))) (by rfl))
    (dss_cons (ds_if (dt_cmp (o_ne hr.units) l_ne (de_ix (dv 0) (dv 2)) (dv 4) (nomark _)) (dss_one (ds_set (i := 5) sc__law_text.nd (de_add de_str (de_strN B.str (da_cons (dv 3) da_nil))))) (dss_one (ds_if (dt_cmp (o_eq hr.units) l_eq (dv 3) de_int (nomark _)) (dss_one (ds_set (i := 5) sc__law_text.nd de_str)) dss_nil)))
    (dss_cons (ds_expr (de_append (dv 1) (da_cons (de_add (dv 4) (dv 5)) da_nil)))
    (dss_one (ds_set (i := 2) sc__law_text.nd (de_add (dv 2) (dv 3)))))))))
    (dss_one (ds_ret (de_if (dt_cmp (o_ne hr.units) l_ne (dv 1) (de_lst da_nil) (nomark _)) (de_join de_str (da_cons (dv 1) da_nil)) de_str)))))
theorem ok__law_text {P : Program} {w : World} {K : PySem.W.Frag} {mg : Str → Option Value} {base : Heap} {f : Addr} {fd : FuncData} (c : Ks) (B : NB mg) (T : Cn mg) {dvs : List V} {kws : List (Str × V)} (F : DL.FnD K "_law_text" "_law_text" s__law_text dvs kws f fd)
    {sp : DSp} (len : ∀ ds M Q E, sp ds M Q E → ds.length = 1) (h : ∀ ds M Q E0, sp ds M Q E0 → t__law_text c (bodyE K Q) (startD ["_law_one", "_law_parts", "_law_at", "_law_size", "_law_letter", "_law_text_here"] ds) M) : FnOk P w K mg base CX0 1 f fd ["_law_one"] (lSp K sp) :=
  dfunD F sc__law_text len fun cdv A outer s H E hr => ⟨t__law_text c, dv__law_text c B T hr, h⟩
/-! ### law -/
abbrev s_law : Stmt := topS 32
theorem sc_law : FnScope ["_law_script", "_law_box", "_law_turn", "_law_letters_here", "_law_first", "_law_one", "_law_sign"] ["_law_script"] (defScope s_law) := ⟨rfl, rfl, rfl, by decide +kernel, rfl, by decide +kernel, by decide +kernel⟩
def t_law (c : Ks) : DTS :=
  (dSeq (dAsg (dCall sp__law_begin (dCons (dVar 0) dNil)) (dgName 1))
  (dSeq (dFor (dRng1 (dCons (dC (.int 5)) dNil)) (dgName 2) (dSeq (dAsg (dCall sp__law_letters (dCons (dVar 1) (dCons (dOp rAdd (dC (.int 1)) (dCall sp__law_draw (dCons (dVar 1) (dCons (dC (.int 3)) dNil)))) dNil))) (dgName 3))
  (dSeq (dAsg (dCall sp__law_some_word (dCons (dVar 1) (dCons (dVar 3) (dCons (dC (.int 5)) dNil)))) (dgName 4))
  (dSeq (dAsg (dBM "str" rJoin (dC (.str "")) (dCons (dLc (dIterS (dVar 4)) (dgName 6) dYes (dOp rMulX (dVar 6) (dCall sp__law_any (dCons (dVar 1) (dCons (dLst (dCons (dC (.int 1)) (dCons (dC (.int 1)) (dCons (dC (.int 2)) (dCons (dC (.int 12)) dNil))))) dNil)))) [6]) dNil)) (dgName 5))
  (dIfS (dNot (dTru (dCall (sp__law_same 3) (dCons (dLst (dCons (dCall (sp_format_word c) (dCons (dVar 5) dNil)) (dCons (dCall (sp_read_word c) (dCons (dCall (sp_format_word c) (dCons (dVar 5) dNil)) (dCons (dVar 3) dNil))) dNil))) (dCons (dLst (dCons (dCall (sp__law_text c) (dCons (dVar 5) dNil)) (dCons (dVar 5) dNil))) dNil))))) (dRet (dC (.bl false))) dNext)))))
  (dRet (dAndV (dOp (rEqW false) (dCall (sp_format_word c) (dCons (dC (.str "aaBBBa")) dNil)) (dC (.str "a^2 b^-3 a"))) (dOp (rEqW false) (dCallK (sp_format_word c) (gKV 0 1 [0]) dNil (dCons (dC (.str "")) dNil)) (dC (.str "1")))))))
theorem dv_law {P : Program} {w : World} {K : PySem.W.Frag} {mg : Str → Option Value} {base : Heap} {f : Addr} {cdv : Value} {A : Around} {outer : List Env} {s : Shared} {H : Hp} {E : XK} (c : Ks) (B : NB mg) (T : Cn mg) {f_format_word : Addr} {d_format_word : FuncData} (C_format_word : Cal P w K mg base 2 "format_word" ["word"] (sp_format_word c) f_format_word d_format_word) {f__law_same : Addr} {d__law_same : FuncData} (C__law_same : Cal P w K mg base 5 "_law_same" ["_law_found", "_law_due"] (sp__law_same 3) f__law_same d__law_same) {f__law_text : Addr} {d__law_text : FuncData} (C__law_text : Cal P w K mg base 1 "_law_text" ["_law_one"] (sp__law_text c) f__law_text d__law_text) {f_read_word : Addr} {d_read_word : FuncData} (C_read_word : Cal P w K mg base 6 "read_word" ["text", "letters"] (sp_read_word c) f_read_word d_read_word) {f__law_any : Addr} {d__law_any : FuncData} (C__law_any : Cal P w K mg base 2 "_law_any" ["_law_box", "_law_some"] sp__law_any f__law_any d__law_any) {f__law_some_word : Addr} {d__law_some_word : FuncData} (C__law_some_word : Cal P w K mg base 3 "_law_some_word" ["_law_box", "_law_letters_here", "_law_most"] sp__law_some_word f__law_some_word d__law_some_word) {f__law_letters : Addr} {d__law_letters : FuncData} (C__law_letters : Cal P w K mg base 3 "_law_letters" ["_law_box", "_law_many"] sp__law_letters f__law_letters d__law_letters) {f__law_draw : Addr} {d__law_draw : FuncData} (C__law_draw : Cal P w K mg base 1 "_law_draw" ["_law_box", "_law_many"] sp__law_draw f__law_draw d__law_draw) {f__law_begin : Addr} {d__law_begin : FuncData} (C__law_begin : Cal P w K mg base 1 "_law_begin" ["_law_script"] sp__law_begin f__law_begin d__law_begin) (KB_format_word_0_word : KBinds K d_format_word ["word"] ["word"] (gKV 0 1 [0]) (gKV 0 1 [0]))
    (hr : Room 6 (A.deeper (envOfC "law" (defScope s_law) s.heap.objs.size f cdv))) : DSs (cxOf CX0 P w K mg base ["_law_script", "_law_box", "_law_turn", "_law_letters_here", "_law_first", "_law_one", "_law_sign"] "law" (defScope s_law) f cdv A outer s H E).nox (defBody s_law) (t_law c) :=
  (dss_cons (ds_set (i := 1) sc_law.nd (de_callC C__law_begin (hr.mono (by omega)) (da_cons (dv 0) da_nil)))
    (dss_cons (ds_for PassesOwn.never rfl (di_rng1 B.range (da_cons de_int da_nil)) (dg_name (i := 2) sc_law.nd) (dss_cons (ds_set (i := 3) sc_law.nd (de_callC C__law_letters (hr.mono (by omega)) (da_cons (dv 1) (da_cons (de_add de_int (de_callC C__law_draw (hr.mono (by omega)) (da_cons (dv 1) (da_cons de_int da_nil)))) da_nil))))
    (dss_cons (ds_set (i := 4) sc_law.nd (de_callC C__law_some_word (hr.mono (by omega)) (da_cons (dv 1) (da_cons (dv 3) (da_cons de_int da_nil)))))
    (dss_cons (ds_set (i := 5) sc_law.nd (de_join de_str (da_cons (de_lc (g := (gName 6)) sc_law.nd (di_str (dv 4)) (blkOk_by (own := [("_law_sign", 6)]) (N := ["_law_script", "_law_box", "_law_turn", "_law_letters_here", "_law_first", "_law_one", "_law_sign"]) (sc := defScope s_law) (by decide +kernel)) (tg_name (i := 6) (by decide)) (fun _ _ _ _ _ => (pg_name (i := 6) sc_law.nd rfl (Or.inl rfl))) (fun _ _ _ _ _ => dts_nil) (fun _ _ _ _ _ => (de_mulX (dv 6) (de_callC C__law_any (hr.mono (by omega)) (da_cons (dv 1) (da_cons (de_lst (da_cons de_int (da_cons de_int (da_cons de_int (da_cons de_int da_nil))))) da_nil)))))) da_nil)))
    (dss_one (ds_if (dt_not (dt_tru (de_callC C__law_same (hr.mono (by omega)) (da_cons (de_lst (da_cons (de_callC C_format_word (hr.mono (by omega)) (da_cons (dv 5) da_nil)) (da_cons (de_callC C_read_word (hr.mono (by omega)) (da_cons (de_callC C_format_word (hr.mono (by omega)) (da_cons (dv 5) da_nil)) (da_cons (dv 3) da_nil))) da_nil))) (da_cons (de_lst (da_cons (de_callC C__law_text (hr.mono (by omega)) (da_cons (dv 5) da_nil)) (da_cons (dv 5) da_nil))) da_nil))))) (dss_one (ds_ret de_bl)) dss_nil))))))
    (dss_one (ds_ret (de_and (de_cmp (o_eq hr.units) l_eq (de_callC C_format_word (hr.mono (by omega)) (da_cons de_str da_nil)) de_str (nomark _)) (de_one (de_cmp (o_eq hr.units) l_eq (de_callKC0 C_format_word (hr.mono (by omega)) KB_format_word_0_word (dk_cons de_str dk_nil)) de_str (nomark _))))))))
theorem ok_law {P : Program} {w : World} {K : PySem.W.Frag} {mg : Str → Option Value} {base : Heap} {f : Addr} {fd : FuncData} (c : Ks) (B : NB mg) (T : Cn mg) {f_format_word : Addr} {d_format_word : FuncData} (C_format_word : Cal P w K mg base 2 "format_word" ["word"] (sp_format_word c) f_format_word d_format_word) {f__law_same : Addr} {d__law_same : FuncData} (C__law_same : Cal P w K mg base 5 "_law_same" ["_law_found", "_law_due"] (sp__law_same 3) f__law_same d__law_same) {f__law_text : Addr} {d__law_text : FuncData} (C__law_text : Cal P w K mg base 1 "_law_text" ["_law_one"] (sp__law_text c) f__law_text d__law_text) {f_read_word : Addr} {d_read_word : FuncData} (C_read_word : Cal P w K mg base 6 "read_word" ["text", "letters"] (sp_read_word c) f_read_word d_read_word) {f__law_any : Addr} {d__law_any : FuncData} (C__law_any : Cal P w K mg base 2 "_law_any" ["_law_box", "_law_some"] sp__law_any f__law_any d__law_any) {f__law_some_word : Addr} {d__law_some_word : FuncData} (C__law_some_word : Cal P w K mg base 3 "_law_some_word" ["_law_box", "_law_letters_here", "_law_most"] sp__law_some_word f__law_some_word d__law_some_word) {f__law_letters : Addr} {d__law_letters : FuncData} (C__law_letters : Cal P w K mg base 3 "_law_letters" ["_law_box", "_law_many"] sp__law_letters f__law_letters d__law_letters) {f__law_draw : Addr} {d__law_draw : FuncData} (C__law_draw : Cal P w K mg base 1 "_law_draw" ["_law_box", "_law_many"] sp__law_draw f__law_draw d__law_draw) {f__law_begin : Addr} {d__law_begin : FuncData} (C__law_begin : Cal P w K mg base 1 "_law_begin" ["_law_script"] sp__law_begin f__law_begin d__law_begin) (KB_format_word_0_word : KBinds K d_format_word ["word"] ["word"] (gKV 0 1 [0]) (gKV 0 1 [0])) {dvs : List V} {kws : List (Str × V)} (F : DL.FnD K "law" "law" s_law dvs kws f fd)
    {sp : DSp} (len : ∀ ds M Q E, sp ds M Q E → ds.length = 1) (h : ∀ ds M Q E0, sp ds M Q E0 → t_law c (bodyE K Q) (startD ["_law_script", "_law_box", "_law_turn", "_law_letters_here", "_law_first", "_law_one", "_law_sign"] ds) M) : FnOk P w K mg base CX0 7 f fd ["_law_script"] (lSp K sp) :=
  dfunD F sc_law len fun cdv A outer s H E hr => ⟨t_law c, dv_law c B T C_format_word C__law_same C__law_text C_read_word C__law_any C__law_some_word C__law_letters C__law_draw C__law_begin KB_format_word_0_word hr, h⟩
end K09
namespace K09
open PySem PySem.Spec PyProof.Rows L2 DL PRE
section
variable {a b d e : D}
theorem fldS : List.lookup (Str.ofString "signs") [((Str.ofString "signs"), a), ((Str.ofString "known"), b), ((Str.ofString "at"), d)] = some a := rfl
theorem fldK : List.lookup (Str.ofString "known") [((Str.ofString "signs"), a), ((Str.ofString "known"), b), ((Str.ofString "at"), d)] = some b := rfl
theorem fldA : List.lookup (Str.ofString "at") [((Str.ofString "signs"), a), ((Str.ofString "known"), b), ((Str.ofString "at"), d)] = some d := rfl
theorem putA : putD (Str.ofString "at") e [((Str.ofString "signs"), a), ((Str.ofString "known"), b), ((Str.ofString "at"), d)] = [((Str.ofString "signs"), a), ((Str.ofString "known"), b), ((Str.ofString "at"), e)] := rfl
theorem lkH1 : List.lookup (Str.ofString "here") [((Str.ofString "signs"), a), ((Str.ofString "known"), b), ((Str.ofString "at"), d)] = none := rfl
theorem lkH2 : List.lookup (Str.ofString "skip") [((Str.ofString "signs"), a), ((Str.ofString "known"), b), ((Str.ofString "at"), d)] = none := rfl
theorem lkH3 : List.lookup (Str.ofString "atom") [((Str.ofString "signs"), a), ((Str.ofString "known"), b), ((Str.ofString "at"), d)] = none := rfl
theorem lkH4 : List.lookup (Str.ofString "exponent") [((Str.ofString "signs"), a), ((Str.ofString "known"), b), ((Str.ofString "at"), d)] = none := rfl
theorem lkH5 : List.lookup (Str.ofString "end_digits") [((Str.ofString "signs"), a), ((Str.ofString "known"), b), ((Str.ofString "at"), d)] = none := rfl
theorem lkH6 : List.lookup (Str.ofString "phrase") [((Str.ofString "signs"), a), ((Str.ofString "known"), b), ((Str.ofString "at"), d)] = none := rfl
theorem put0 : putD (Str.ofString "signs") a [] = [((Str.ofString "signs"), a)] := rfl
theorem put1 : putD (Str.ofString "known") b [((Str.ofString "signs"), a)] = [((Str.ofString "signs"), a), ((Str.ofString "known"), b)] := rfl
theorem put2 : putD (Str.ofString "at") d [((Str.ofString "signs"), a), ((Str.ofString "known"), b)] = [((Str.ofString "signs"), a), ((Str.ofString "known"), b), ((Str.ofString "at"), d)] := rfl
end
theorem x32 : Str.ofString " " = T [32] := by decide +kernel
theorem x45 : Str.ofString "-" = T [45] := by decide +kernel
theorem x48 : Str.ofString "0" = T [48] := by decide +kernel
theorem x49 : Str.ofString "1" = T [49] := by decide +kernel
theorem x40 : Str.ofString "(" = T [40] := by decide +kernel
theorem x91 : Str.ofString "[" = T [91] := by decide +kernel
theorem x94 : Str.ofString "^" = T [94] := by decide +kernel
theorem x9445 : Str.ofString "^-" = T [94, 45] := by decide +kernel
theorem x0 : Str.ofString "" = T [] := by decide +kernel
theorem xE : Str.empty = T [] := by decide +kernel
theorem cutS_T (L : List Nat) {p q : Nat} (h : p ≤ q) : cutS (T L) (some (p : Int)) (some (q : Int)) = T ((L.drop p).take (q - p)) := by
  unfold cutS
  rw [HT.sIx_nat, HT.sIx_nat, T_cps, T_len]
  show T _ = T _
  congr 1
  by_cases hp : p ≤ L.length
  · rw [Nat.min_eq_left hp, List.take_eq_take_iff, List.length_drop]
    omega
  · rw [List.drop_of_length_le (by omega), List.drop_of_length_le (by omega), List.take_nil, List.take_nil]
theorem cutS_F (L : List Nat) {p : Nat} (h : p ≤ L.length) : cutS (T L) (some (p : Int)) none = T (L.drop p) := by
  unfold cutS
  rw [HT.sIx_nat, HT.sIx_none, T_cps, T_len, Nat.min_eq_left h]
  show T _ = T _
  congr 1
  exact List.take_of_length_le (by rw [List.length_drop]; omega)
local macro_rules | `(tactic| walk_at "dl") => `(tactic| simp only [exists_eq', exists_eq, List.take_nil, List.take_succ_cons, List.take_zero, decide_false, decide_true, dFld_ap, dSetF_ap, dAugF_ap, dMeth_ap, dMake_ap, dProp_ap, insOf_p, insOf_o, dNever_ap, bodyE_rt, bodyE_nx, dVar_ap, dC_ap, dOp_ap, dTB_ap, dTru_ap, dAnd_ap, dOr_ap, dNot_ap, dNotV_ap, dAndV_ap, dOrV_ap, dIf_ap, dIsN_ap, dNext_ap, dSeq_ap, dBreak_ap, dCont_ap, dDrop_ap, dRet_ap, dRetN_ap, dIfS_ap, dgName_ap, dgNil_ap, dgCons_ap, dgTup_ap, dgSub_ap, dAsg_ap, dPar_ap, dAug_ap, dNil_ap, dCons_ap, dTup_ap, dLst_ap, dLstM_ap, dCB_ap, dBM_ap, dBM0_ap, dCall_ap, dCallK_ap, dRev_s, dSl_ap, dPart_ap, dUn_ap, dChain_ap, dIsi_ap, dIsi2_ap, dIter_ap, dIterT_ap, dIterS_ap, dRng1_ap, dRng2_ap, rMulX_ii, rMulX_si, dFmt_ap, fmtD_s, fmtD_i, dJoined_ap, dJs_nil, dJs_cons, jStep_s, dCallK_ap, dNil_ap, rAdd_ii, rAdd_ss, rAdd_tt, rAdd_ll, rSub_ii, rInt2_ii, rNeg_i, rOrd_ii, rOrd_ss, rIadd_ii, rIadd_ss, rEqW_ii, rEqW_ss, rEqW_bb, rIn_ss, rIxD_l, rIxD_x, rIxD_t, rIxD_s, rIxD_p, lstOf_p, lstOf_l, lstOf_x, rSlD_s, rSlD_t, rSlD_l, rSlD_x, rLen_s, rLen_t, rLen_l, rLen_x, rLen_p, rAbs_i, rInt_i, rInt_b, rToListA_t, rToListA_l, rToListA_s, rToListM_t, rToListM_l, rToTup_t, rToTup_l, rToTup_p, rSum_ap, rAll_ap, rAny_ap, rStrN_i, rMax2_ii, rMin2_ii, rS0_ap, rS1_ap, tyD_s, tyD_p, tyD_l, rJoin_l, rJoin_p, rAppend_p, rPop_p, startD, wipeD, List.map_cons, List.map_nil, List.cons_append, List.nil_append, List.append_nil, List.length_cons, List.length_nil, List.getElem?_cons_zero, List.getElem?_cons_succ, List.set_cons_zero, List.set_cons_succ, List.replicate, Nat.reduceAdd, Nat.reduceSub, Nat.sub_zero, up_same, up_up, Bool.false_xor, Bool.true_xor, Bool.not_true, Bool.not_false, if_true, if_false, Bool.false_eq_true, and_true, true_and, ite_true, ite_false, reduceIte, reduceCtorEq, Option.some.injEq, exists_eq_left', exists_eq_left, rdM, fldS, fldK, fldA, putA, lkH1, lkH2, lkH3, lkH4, lkH5, lkH6, put0, put1, put2, x32, x45, x48, x49, x40, x91, x94, x9445, x0, xE, T_beq, T_app])
local macro_rules | `(tactic| walk_at "dlh") => `(tactic| simp only [exists_eq', exists_eq, List.take_nil, List.take_succ_cons, List.take_zero, decide_false, decide_true, dFld_ap, dSetF_ap, dAugF_ap, dMeth_ap, dMake_ap, dProp_ap, insOf_p, insOf_o, dNever_ap, bodyE_rt, bodyE_nx, dVar_ap, dC_ap, dOp_ap, dTB_ap, dTru_ap, dAnd_ap, dOr_ap, dNot_ap, dNotV_ap, dAndV_ap, dOrV_ap, dIf_ap, dIsN_ap, dNext_ap, dSeq_ap, dBreak_ap, dCont_ap, dDrop_ap, dRet_ap, dRetN_ap, dIfS_ap, dgName_ap, dgNil_ap, dgCons_ap, dgTup_ap, dgSub_ap, dAsg_ap, dPar_ap, dAug_ap, dNil_ap, dCons_ap, dTup_ap, dLst_ap, dLstM_ap, dCB_ap, dBM_ap, dBM0_ap, dCall_ap, dCallK_ap, dRev_s, dSl_ap, dPart_ap, dUn_ap, dChain_ap, dIsi_ap, dIsi2_ap, dIter_ap, dIterT_ap, dIterS_ap, dRng1_ap, dRng2_ap, rMulX_ii, rMulX_si, dFmt_ap, fmtD_s, fmtD_i, dJoined_ap, dJs_nil, dJs_cons, jStep_s, dCallK_ap, dNil_ap, rAdd_ii, rAdd_ss, rAdd_tt, rAdd_ll, rSub_ii, rInt2_ii, rNeg_i, rOrd_ii, rOrd_ss, rIadd_ii, rIadd_ss, rEqW_ii, rEqW_ss, rEqW_bb, rIn_ss, rIxD_l, rIxD_x, rIxD_t, rIxD_s, rIxD_p, lstOf_p, lstOf_l, lstOf_x, rSlD_s, rSlD_t, rSlD_l, rSlD_x, rLen_s, rLen_t, rLen_l, rLen_x, rLen_p, rAbs_i, rInt_i, rInt_b, rToListA_t, rToListA_l, rToListA_s, rToListM_t, rToListM_l, rToTup_t, rToTup_l, rToTup_p, rSum_ap, rAll_ap, rAny_ap, rStrN_i, rMax2_ii, rMin2_ii, rS0_ap, rS1_ap, tyD_s, tyD_p, tyD_l, rJoin_l, rJoin_p, rAppend_p, rPop_p, startD, wipeD, List.map_cons, List.map_nil, List.cons_append, List.nil_append, List.append_nil, List.length_cons, List.length_nil, List.getElem?_cons_zero, List.getElem?_cons_succ, List.set_cons_zero, List.set_cons_succ, List.replicate, Nat.reduceAdd, Nat.reduceSub, Nat.sub_zero, up_same, up_up, Bool.false_xor, Bool.true_xor, Bool.not_true, Bool.not_false, if_true, if_false, Bool.false_eq_true, and_true, true_and, ite_true, ite_false, reduceIte, reduceCtorEq, Option.some.injEq, exists_eq_left', exists_eq_left, rdM, fldS, fldK, fldA, putA, lkH1, lkH2, lkH3, lkH4, lkH5, lkH6, put0, put1, put2, x32, x45, x48, x49, x40, x91, x94, x9445, x0, xE, T_beq, T_app, *])
local macro_rules | `(tactic| walk_at "len") => `(tactic| (intro ds M Q E h; first | (obtain ⟨_, h1, _⟩ := h; subst h1; rfl) | (obtain ⟨_, _, h1, _⟩ := h; subst h1; rfl) | (obtain ⟨_, _, _, h1, _⟩ := h; subst h1; rfl) | (obtain ⟨_, _, _, _, h1, _⟩ := h; subst h1; rfl) | (obtain ⟨_, _, _, _, _, h1, _⟩ := h; subst h1; rfl) | (obtain ⟨_, _, _, _, _, _, h1, _⟩ := h; subst h1; rfl) | (obtain ⟨_, _, _, _, _, _, _, h1, _⟩ := h; subst h1; rfl) | (obtain ⟨_, _, _, _, _, _, _, _, h1, _⟩ := h; subst h1; rfl) | (obtain ⟨_, _, _, _, _, _, _, _, _, h1, _⟩ := h; subst h1; rfl)))
section
variable {K : PySem.W.Frag} {c : Ks}
theorem chars_len (l : List Nat) : (chars l).length = 2 * l.length := by
  induction l with
  | nil => rfl
  | cons c r ih =>
    unfold chars at ih ⊢
    rw [List.flatMap_cons, List.length_append, ih]
    simp only [List.length_cons, List.length_nil]; omega
theorem rd_characters : ∀ ds M Q E0, sp_characters c ds M Q E0 → t_characters c (bodyE K Q) (startD ["letters", "letter", "character"] ds) M := by
  rintro ds M Q E0 ⟨l, rfl, hl, hz, q⟩
  unfold t_characters
  walk_at "dl"
  rw [dLc2_un]
  walk_at "dl"
  rw [sgs_T]
  refine lc2B_m (xs := l) (fun c => D.str ⟨#[c]⟩) (fun c => [D.str ⟨#[c]⟩, D.str ⟨#[swC c]⟩]) True.intro (line (by have := chars_len l; unfold chars at this; rw [this]; omega)) (fun x hx acc Z hz2 hZ => ?_) (Fin.same q)
  walk_at "dl"
  refine ⟨x, rfl, hl x hx, ?_⟩
  refine ⟨line (by decide), ?_⟩
  refine lc2I_m (kp := fun _ => True) (ys := [D.str ⟨#[x]⟩, D.str ⟨#[swC x]⟩]) id id True.intro hz2 (fun y hy R h => ?_) hZ
  walk_at "dl"
  exact h
theorem rd_Reader___init__ : ∀ ds M Q E0, sp_Reader___init__ c ds M Q E0 → t_Reader___init__ c (bodyE K Q) (startD ["self", "text", "letters"] ds) M := by
  rintro ds M Q E0 ⟨a, L, l, rfl, hM, hl, hz, q⟩
  unfold t_Reader___init__
  walk_at "dlh"
  refine ⟨by decide, l, rfl, hl, hz, ?_⟩
  walk_at "dl"
  exact ⟨by decide, by decide, Fin.same q⟩
theorem rd_Reader_here : ∀ ds M Q E0, sp_Reader_here c ds M Q E0 → t_Reader_here c (bodyE K Q) (startD ["self"] ds) M := by
  rintro ds M Q E0 ⟨a, L, kn, p, rfl, hM, hp, hL, q⟩
  unfold t_Reader_here
  walk_at "dlh"
  refine ⟨by rw [T_len]; exact line (by omega), ?_⟩
  rw [show ((p : Int) + 1) = ((p + 1 : Nat) : Int) by omega, cutS_T L (by omega), show p + 1 - p = 1 by omega]
  exact Fin.same q
theorem drop_add {L r : List Nat} {p k j : Nat} {x : Nat} (h : L.drop p = List.replicate k x ++ r) (hj : j ≤ k) : L.drop (p + j) = List.replicate (k - j) x ++ r := by
  rw [← List.drop_drop, h, List.drop_append_of_le_length (by rw [List.length_replicate]; exact hj), List.drop_replicate]
theorem rd_Reader_skip : ∀ ds M Q E0, sp_Reader_skip c ds M Q E0 → t_Reader_skip c (bodyE K Q) (startD ["self"] ds) M := by
  rintro ds M Q E0 ⟨a, L, kn, p, k, r, rfl, hM, hp, hL, hd, hr, q⟩
  have hk : p + k ≤ p + L.length := by
    have := congrArg List.length hd
    rw [List.length_append, List.length_replicate, List.length_drop] at this
    omega
  unfold t_Reader_skip
  walk_at "dl"
  refine wh_of (fun m env M' => ∃ j, j + m = k ∧ env = [some (.ptr a)] ∧ M' = up M a (rdM c L kn (p + j))) k ⟨0, by omega, rfl, (up_id hM).symm⟩ ?_
  rintro m env M' ⟨j, hj, rfl, rfl⟩ R hR
  have e0 := drop_add hd (j := j) (by omega)
  walk_at "dl"
  refine ⟨a, L, kn, p + j, rfl, up_same, by omega, by omega, ?_⟩
  walk_at "dl"
  rw [e0]
  refine ite2 (fun e => ?_) (fun e => ?_)
  · have e1 := of_decide_eq_true e
    cases m with
    | zero =>
      rw [show k - j = 0 by omega, List.replicate_zero, List.nil_append] at e1
      cases r with
      | nil => cases e1
      | cons x r => rw [List.take_succ_cons, List.take_zero] at e1; cases e1; exact absurd rfl hr
    | succ m => exact ⟨by decide, hR m _ _ (by omega) ⟨j + 1, by omega, rfl, by unfold rdM; rw [show ((p + j : Nat) : Int) + 1 = ((p + (j + 1) : Nat) : Int) by omega]⟩⟩
  · cases m with
    | succ m =>
      refine absurd ?_ e
      rw [show k - j = (k - j - 1) + 1 by omega, List.replicate_succ, List.cons_append, List.take_succ_cons, List.take_zero]
      exact decide_eq_true rfl
    | zero =>
      have ej : j = k := by omega
      subst ej
      refine ⟨a, L, kn, p + j, rfl, up_same, by omega, by omega, ?_⟩
      rw [e0, Nat.sub_self, List.replicate_zero, List.nil_append]
      exact Fin.same q
theorem digits_in {x : Nat} : strIn ⟨#[x]⟩ (Str.ofString "0123456789") = decide (48 ≤ x ∧ x ≤ 57) := by
  rw [strIn_sign]
  have e : (Str.ofString "0123456789").cps.toList = [48,49,50,51,52,53,54,55,56,57] := by decide +kernel
  rw [e, decide_eq_decide]
  simp only [List.mem_cons, List.not_mem_nil, or_false]
  omega
theorem rd_Reader_end_digits : ∀ ds M Q E0, sp_Reader_end_digits c ds M Q E0 → t_Reader_end_digits c (bodyE K Q) (startD ["self"] ds) M := by
  rintro ds M Q E0 ⟨a, L, kn, p, rfl, hM, hp, hL, hd, q⟩
  unfold t_Reader_end_digits
  walk_at "dlh"
  refine ⟨a, L, kn, p, rfl, hM, by omega, by omega, ?_⟩
  walk_at "dl"
  rcases hd with hd | ⟨r, hd⟩
  · rw [hd, List.take_nil, decide_eq_true rfl]
    exact Fin.same q
  · rw [hd, List.take_succ_cons, List.take_zero, decide_eq_false (by decide)]
    rw [if_pos (by decide)]
    walk_at "dlh"
    refine ⟨a, L, kn, p, rfl, hM, by omega, by omega, ?_⟩
    rw [hd, List.take_succ_cons, List.take_zero]
    walk_at "dl"
    rw [show T [32] = ⟨#[32]⟩ from rfl, digits_in, if_neg (by decide)]
    exact Fin.same q
def okDig (n : Nat) : Bool := (match dig n with
  | [d] => decide (49 ≤ d ∧ d ≤ 57)
  | [d, d2] => decide (49 ≤ d ∧ d ≤ 57 ∧ 48 ≤ d2 ∧ d2 ≤ 57)
  | _ => false) && (PySem.intText? (T (dig n)) == some (n : Int))
theorem dig_ok {n : Nat} (h : 1 ≤ n) (h2 : n ≤ 99) : ((∃ d, dig n = [d] ∧ 49 ≤ d ∧ d ≤ 57) ∨ (∃ d d2, dig n = [d, d2] ∧ 49 ≤ d ∧ d ≤ 57 ∧ 48 ≤ d2 ∧ d2 ≤ 57)) ∧ PySem.intText? (T (dig n)) = some (n : Int) := by
  have key : ∀ n < 100, 1 ≤ n → okDig n = true := by decide +kernel
  have := key n (by omega) h
  unfold okDig at this
  rw [Bool.and_eq_true] at this
  refine ⟨?_, by simpa using this.2⟩
  have h3 := this.1
  split at h3
  · rename_i d e; exact .inl ⟨d, e, of_decide_eq_true h3⟩
  · rename_i d d2 e; exact .inr ⟨d, d2, e, of_decide_eq_true h3⟩
  · cases h3
theorem exp_tail {Q : DQ} {M : Mp} {a : Addr} {L r : List Nat} {kn : List D} {p n : Nat} {s : Int} (hp : p ≤ 95000) (hL : L.length ≤ 90000) (hd : L.drop p = dig n ++ r) (h1 : 1 ≤ n) (h2 : n ≤ 99) (hr : r = [] ∨ ∃ r', r = 32 :: r') (hs : s = 1 ∨ s = -1)
    (q : Q (.int (s * n)) (up M a (rdM c L kn (p + (dig n).length)))) : t_Reader_exponent_3 c (bodyE K Q) [some (.ptr a), some (.int s), none] (up M a (rdM c L kn p)) := by
  unfold t_Reader_exponent_3
  obtain ⟨hdig, hint⟩ := dig_ok h1 h2
  have b1 : ∀ d : Nat, decide ([d] = ([] : List Nat)) = false := fun d => decide_eq_false (by simp)
  have b2 : ∀ d : Nat, 49 ≤ d → decide ([d] = [48]) = false := fun d h => decide_eq_false (by simp; omega)
  have b3 : ∀ d : Nat, 48 ≤ d → d ≤ 57 → strIn (T [d]) (Str.ofString "0123456789") = true := fun d h h' => by rw [← T_one, digits_in]; exact decide_eq_true ⟨h, h'⟩
  have b4 : strIn (T [32]) (Str.ofString "0123456789") = false := by rw [← T_one, digits_in]; exact decide_eq_false (by omega)
  have hlen : p + (dig n).length ≤ p + L.length := by
    have := congrArg List.length hd
    rw [List.length_append, List.length_drop] at this
    omega
  have fin : ∀ M', Q (.int (s * n)) M' → rInt [D.str (T (dig n))] M' fun y M2 => rMulX (D.int s) y M2 (DL.Fin K Q) := fun M' q' => by
    refine ⟨n, hint, ?_, cmulS (by rcases hs with rfl | rfl <;> decide), Fin.same q'⟩
    rw [T_len]; rcases hdig with ⟨d, e, _⟩ | ⟨d, d2, e, _⟩ <;> rw [e] <;> simp only [List.length_cons, List.length_nil] <;> omega
  rcases hdig with ⟨d, e, g1, g2⟩ | ⟨d, d2, e, g1, g2, g3, g4⟩
  · rw [e] at hd hlen q fin
    have hd1 : L.drop (p + 1) = r := by rw [← List.drop_drop, hd]; rfl
    have b5 := b2 d g1
    have b6 := b3 d (by omega) g2
    simp only [List.length_cons, List.length_nil] at hlen q
    walk_at "dl"
    refine ⟨a, L, kn, p, rfl, up_same, by omega, by omega, ?_⟩
    rw [hd, List.singleton_append, List.take_succ_cons, List.take_zero]
    walk_at "dlh"
    refine ⟨by decide, ?_⟩
    rw [show ((p : Int) + 1) = ((p + 1 : Nat) : Int) by omega]
    refine ⟨a, L, kn, p + 1, rfl, up_same, by omega, by omega, ?_⟩
    have enddig : sp_Reader_end_digits c [D.ptr a] (up M a (MO.ins c.Reader [(Str.ofString "signs", D.str (T L)), (Str.ofString "known", D.lst kn), (Str.ofString "at", D.int ((p + 1 : Nat) : Int))])) (fun x M' => rInt [D.str (T [d])] M' fun y M2 => rMulX (D.int s) y M2 (DL.Fin K Q)) noX :=
      ⟨a, L, kn, p + 1, rfl, up_same, by omega, by omega, by rw [hd1]; exact hr, fin _ q⟩
    rw [hd1]
    rcases hr with rfl | ⟨r', rfl⟩
    · walk_at "dlh"
    · rw [List.take_succ_cons, List.take_zero]
      walk_at "dlh"
      refine ⟨a, L, kn, p + 1, rfl, up_same, by omega, by omega, ?_⟩
      rw [hd1, List.take_succ_cons, List.take_zero]
      walk_at "dlh"
  · rw [e] at hd hlen q fin
    have hd1 : L.drop (p + 1) = d2 :: r := by rw [← List.drop_drop, hd]; rfl
    have hd2 : L.drop (p + 2) = r := by rw [← List.drop_drop, hd]; rfl
    have b5 := b2 d g1
    have b6 := b3 d (by omega) g2
    have b7 := b3 d2 g3 g4
    simp only [List.length_cons, List.length_nil] at hlen q
    walk_at "dl"
    refine ⟨a, L, kn, p, rfl, up_same, by omega, by omega, ?_⟩
    rw [hd, List.cons_append, List.take_succ_cons, List.take_zero]
    walk_at "dlh"
    refine ⟨by decide, ?_⟩
    rw [show ((p : Int) + 1) = ((p + 1 : Nat) : Int) by omega]
    refine ⟨a, L, kn, p + 1, rfl, up_same, by omega, by omega, ?_⟩
    rw [hd1, List.take_succ_cons, List.take_zero]
    walk_at "dlh"
    refine ⟨a, L, kn, p + 1, rfl, up_same, by omega, by omega, ?_⟩
    rw [hd1, List.take_succ_cons, List.take_zero]
    walk_at "dlh"
    refine ⟨a, L, kn, p + 1, rfl, up_same, by omega, by omega, ?_⟩
    rw [hd1, List.take_succ_cons, List.take_zero]
    walk_at "dlh"
    rw [T_len, T_len]
    refine ⟨line (by simp only [List.length_cons, List.length_nil]; omega), by decide, ?_⟩
    rw [show (((p + 1 : Nat) : Int) + 1) = ((p + 2 : Nat) : Int) by omega]
    exact ⟨a, L, kn, p + 2, rfl, up_same, by omega, by omega, by rw [hd2]; exact hr, fin _ q⟩
theorem dig_head {n : Nat} (h : 1 ≤ n) (h2 : n ≤ 99) : ∃ d l, dig n = d :: l ∧ 49 ≤ d ∧ d ≤ 57 := by
  rcases (dig_ok h h2).1 with ⟨d, e, g1, g2⟩ | ⟨d, d2, e, g1, g2, _⟩
  · exact ⟨d, [], e, g1, g2⟩
  · exact ⟨d, [d2], e, g1, g2⟩
theorem rd_Reader_exponent : ∀ ds M Q E0, sp_Reader_exponent c ds M Q E0 → t_Reader_exponent c (bodyE K Q) (startD ["self", "sign", "first"] ds) M := by
  rintro ds M Q E0 ⟨a, L, kn, p, e, r, rfl, hM, hp, hL, hd, he, h1, h2, hr, q⟩
  unfold t_Reader_exponent
  walk_at "dlh"
  refine ⟨by decide, ?_⟩
  rw [show ((p : Int) + 1) = ((p + 1 : Nat) : Int) by omega]
  have hd1 : L.drop (p + 1) = numTxt e ++ r := by rw [← List.drop_drop, hd]; rfl
  by_cases hneg : e < 0
  · obtain ⟨n, rfl⟩ : ∃ n : Nat, e = -(n : Int) := ⟨(-e).toNat, by omega⟩
    have e1 : numTxt (-(n : Int)) = 45 :: dig n := by unfold numTxt; rw [if_pos hneg]; congr 2; omega
    rw [e1] at hd1 q
    have hd2 : L.drop (p + 2) = dig n ++ r := by rw [← List.drop_drop, hd, e1]; rfl
    refine ⟨a, L, kn, p + 1, 0, _, rfl, up_same, by omega, by omega, by rw [hd1, List.replicate_zero, List.nil_append], by simp, ?_⟩
    rw [List.cons_append, List.take_succ_cons, List.take_zero]
    walk_at "dlh"
    refine ⟨by decide, ?_⟩
    rw [show (((p + 1 + 0 : Nat) : Int) + 1) = ((p + 2 : Nat) : Int) by omega]
    refine exp_tail (n := n) (r := r) (by omega) hL hd2 (by omega) (by omega) hr (.inr rfl) ?_
    rw [show (-1 : Int) * n = -n by omega]
    rw [List.length_cons, show p + 1 + ((dig n).length + 1) = p + 2 + (dig n).length by omega] at q
    exact q
  · obtain ⟨n, rfl⟩ : ∃ n : Nat, e = (n : Int) := ⟨e.toNat, by omega⟩
    have e1 : numTxt (n : Int) = dig n := by unfold numTxt; rw [if_neg hneg]; rfl
    rw [e1] at hd1 q
    obtain ⟨d, l, ed, g1, g2⟩ := dig_head (n := n) (by omega) (by omega)
    refine ⟨a, L, kn, p + 1, 0, _, rfl, up_same, by omega, by omega, by rw [hd1, List.replicate_zero, List.nil_append], by rw [ed]; simp; omega, ?_⟩
    have b1 : decide ([d] = [45]) = false := decide_eq_false (by simp; omega)
    have tl := exp_tail (c := c) (K := K) (Q := Q) (M := M) (a := a) (L := L) (kn := kn) (n := n) (r := r) (p := p + 1) (s := 1) (by omega) hL hd1 (by omega) (by omega) hr (.inl rfl) (by rw [Int.one_mul]; exact q)
    rw [ed, List.cons_append, List.take_succ_cons, List.take_zero]
    walk_at "dlh"
    exact tl
theorem rIn_l {b : Bool} {x : D} {xs : List D} {M : Mp} {Q : DQ} (h : flatD x = true) (h2 : xs.all flatD = true) : rInD b x (.lst xs) M Q = Q (.bl (b ^^ xs.any fun z => D.eqv z x)) M := by
  show (if (flatD x && xs.all flatD) = true then _ else _) = _
  rw [h, h2]; rfl
theorem rd_Reader_atom : ∀ ds M Q E0, sp_Reader_atom c ds M Q E0 → t_Reader_atom c (bodyE K Q) (startD ["self", "deep", "first", "left"] ds) M := by
  rintro ds M Q E0 ⟨a, L, kn, p, l, r, rfl, hM, hp, hL, hkn, hd, hl, q⟩
  unfold t_Reader_atom
  walk_at "dlh"
  refine ⟨a, L, kn, p, rfl, hM, by omega, by omega, ?_⟩
  have rin := fun (x : Nat) (b : Bool) (M : Mp) (Q : DQ) => rIn_l (b := b) (M := M) (Q := Q) (x := D.str (T [x])) rfl hkn
  rcases hl with ⟨rfl, hr⟩ | ⟨ch, rfl, hlo, hmem⟩
  · rw [if_pos rfl] at hd
    rw [hd, List.singleton_append, List.take_succ_cons, List.take_zero]
    have s1 : strIn (T [49]) (Str.ofString "1([") = true := by decide +kernel
    have s2 : strIn (T [49]) (Str.ofString "([") = false := by decide +kernel
    have s3 : decide ([49] = [49]) = true := by decide
    have hd1 : L.drop (p + 1) = r := by rw [← List.drop_drop, hd]; rfl
    have fin : sp_Reader_end_digits c [D.ptr a] (up M a (rdM c L kn (p + 1))) (fun x M' => DL.Fin K Q (D.str (T [])) M') noX := ⟨a, L, kn, p + 1, rfl, up_same, by omega, by omega, by rw [hd1]; exact hr, Fin.same q⟩
    walk_at "dlh"
    refine ite2 (fun e => ?_) (fun e => ?_) <;> exact ⟨by decide, fin⟩
  · rw [if_neg (by simp)] at hd
    have g := isLo_lt hlo
    have f1 : decide ([ch] = [49]) = false := decide_eq_false (by simp; omega)
    have f2 : decide ([ch] = [40]) = false := decide_eq_false (by simp; omega)
    have f3 : decide ([ch] = [91]) = false := decide_eq_false (by simp; omega)
    have f0 : decide ([ch] = ([] : List Nat)) = false := decide_eq_false (by simp)
    have s2 : strIn (T [ch]) (Str.ofString "([") = false := by
      rw [← T_one, strIn_sign, show (Str.ofString "([").cps.toList = [40, 91] by decide +kernel]
      exact decide_eq_false (by simp; omega)
    have s4 : (kn.any fun z => D.eqv z (D.str (T [ch]))) = true := List.any_eq_true.mpr ⟨_, hmem, by rw [T_one]; simp [D.eqv, D.py, PyData.eqv]⟩
    rw [hd, List.singleton_append, List.take_succ_cons, List.take_zero]
    walk_at "dlh"
    exact ⟨by decide, Fin.same q⟩
def tl : List (List Nat) → List Nat
  | [] => []
  | x :: r => 32 :: joinSp (x :: r)
theorem join_cons (x : List Nat) (r : List (List Nat)) : joinSp (x :: r) = x ++ tl r := by
  cases r with
  | nil => simp [joinSp, tl]
  | cons y r => rfl
theorem enc_head {kn : List D} {t : Tok1} (h : TokOk kn t) : ∃ x l, encTok t = x :: l ∧ x ≠ 32 ∧ x ≠ 94 := by
  rcases h with rfl | ⟨ch, e, hlo, _⟩
  · exact ⟨49, [], rfl, by decide, by decide⟩
  · have := isLo_lt hlo
    refine ⟨ch, _, by unfold encTok; rw [e, if_neg (by simp)]; rfl, by omega, by omega⟩
theorem tl_form {kn : List D} {ts : List Tok1} (h : ∀ t ∈ ts, TokOk kn t) : ∃ k, k ≤ 1 ∧ tl (ts.map encTok) = List.replicate k 32 ++ joinSp (ts.map encTok) ∧ (ts = [] → k = 0) := by
  cases ts with
  | nil => exact ⟨0, by omega, rfl, fun _ => rfl⟩
  | cons t r => exact ⟨1, by omega, rfl, fun e => by cases e⟩
theorem join_nh {kn : List D} {ts : List Tok1} (h : ∀ t ∈ ts, TokOk kn t) : (joinSp (ts.map encTok)).head? ≠ some 32 ∧ (joinSp (ts.map encTok)).head? ≠ some 94 := by
  cases ts with
  | nil => exact ⟨by simp [joinSp], by simp [joinSp]⟩
  | cons t r =>
    obtain ⟨x, l, e, h1, h2⟩ := enc_head (h t List.mem_cons_self)
    rw [List.map_cons, join_cons, e]
    exact ⟨by simpa using h1, by simpa using h2⟩
theorem take1_ne {l : List Nat} {x : Nat} (h : l.head? ≠ some x) : decide (l.take 1 = [x]) = false := by
  cases l with
  | nil => exact decide_eq_false (by simp)
  | cons y r =>
    refine decide_eq_false fun e => h ?_
    rw [List.take_succ_cons, List.take_zero] at e
    cases e; rfl
theorem tl_cases (ls : List (List Nat)) : tl ls = [] ∨ ∃ r', tl ls = 32 :: r' := by
  cases ls with
  | nil => exact .inl rfl
  | cons x r => exact .inr ⟨_, rfl⟩
def pow (t : Tok1) : List Nat := if t.2 = 1 then [] else 94 :: numTxt t.2
def atm (t : Tok1) : List Nat := if t.1 = [] then [49] else t.1
theorem atm_len {kn : List D} {t : Tok1} (h : TokOk kn t) : (atm t).length = 1 := by
  rcases h with rfl | ⟨ch, e, _⟩
  · rfl
  · unfold atm; rw [e]; rfl
theorem dTok_pl {kn : List D} {t : Tok1} (h : TokOk kn t) : Pl 1 (dTok t) = true := by
  have hc : ∀ c ∈ t.1, c < 1114112 := by
    rcases h with rfl | ⟨ch, e, hlo, _⟩
    · intro c hc; cases hc
    · rw [e]; intro c hc; rw [List.mem_singleton] at hc; subst hc; have := isLo_lt hlo; omega
  unfold dTok
  rw [Pl]
  simp [Pl, strOk_T hc]
theorem rd_Reader_phrase : ∀ ds M Q E0, sp_Reader_phrase c ds M Q E0 → t_Reader_phrase c (bodyE K Q) (startD ["self", "stop", "deep", "factors", "atom"] ds) M := by
  rintro ds M Q E0 ⟨a, L, kn, ts, rfl, hM, hkn, hL, hne, hlen, hts, hLe, q⟩
  unfold t_Reader_phrase
  walk_at "dlh"
  refine ⟨Nat.zero_le _, fun f hf => ?_⟩
  have haf : a ≠ f := fun e => by rw [← e, hM] at hf; cases hf
  have u1 : ∀ X Y, up (up M a X) f Y a = some X := fun X Y => by rw [up_ne haf]; exact up_same
  have u2 : ∀ X Y X', up (up (up M a X) f Y) a X' = up (up M a X') f Y := fun X Y X' => by rw [up_comm haf.symm, up_up]
  refine wh_of (fun m env M' => ∃ pre post p k d, ts = pre ++ post ∧ m = post.length ∧ L.drop p = List.replicate k 32 ++ joinSp (post.map encTok) ∧ p ≤ L.length ∧ k ≤ 1 ∧ (post = [] → k = 0) ∧
      env = [some (.ptr a), some (.str (T [])), some (.int 0), some (.ptr f), d] ∧ M' = up (up M a (rdM c L kn p)) f (.lst (pre.map dTok))) ts.length
    ⟨[], ts, 0, 0, none, rfl, rfl, by rw [List.drop_zero, List.replicate_zero, List.nil_append]; exact hLe, Nat.zero_le _, by omega, fun _ => rfl, rfl, by rw [List.map_nil, up_id hM]⟩ ?_
  rintro m env M' ⟨pre, post, p, k, d, rfl, rfl, hd, hp, hk, hk0, rfl, rfl⟩ R hR
  have hpost : ∀ t ∈ post, TokOk kn t := fun t ht => hts t (List.mem_append_right _ ht)
  have hpre : ∀ t ∈ pre, TokOk kn t := fun t ht => hts t (List.mem_append_left _ ht)
  have hpl : pre.length + post.length ≤ 1000 := by rw [List.length_append] at hlen; exact hlen
  have hdl : p + k + (joinSp (post.map encTok)).length = L.length := by
    have := congrArg List.length hd
    rw [List.length_append, List.length_replicate, List.length_drop] at this
    omega
  clear hLe
  walk_at "dlh"
  refine ⟨a, L, kn, p, k, _, rfl, u1 _ _, by omega, by omega, hd, (join_nh hpost).1, ?_⟩
  rw [u2]
  have hd1 : L.drop (p + k) = joinSp (post.map encTok) := by
    have := drop_add hd (Nat.le_refl k)
    rw [Nat.sub_self] at this
    exact this
  cases post with
  | nil =>
    have ek := hk0 rfl
    subst ek
    walk_at "dlh"
    have hpl0 : ∀ d ∈ pre.map dTok, Pl 1 d = true := fun d hd => by obtain ⟨t, ht, rfl⟩ := List.mem_map.mp hd; exact dTok_pl (hpre t ht)
    rw [show joinSp [] = [] from rfl]
    walk_at "dlh"
    refine ⟨Nat.zero_le _, ?_⟩
    rw [rEqW_p0 (n := 1) up_same hpl0 (by rw [List.length_map]; omega) (by decide)]
    have hpn : (pre.map dTok).isEmpty = false := by
      cases pre with
      | nil => exact absurd rfl hne
      | cons x r => rfl
    rw [hpn]
    walk_at "dl"
    have ep : p = L.length := by
      have := congrArg List.length hd1
      rw [List.length_drop] at this
      have e0 : (joinSp (List.map encTok [])).length = 0 := rfl
      omega
    rw [List.append_nil] at q
    subst ep
    refine Fin.frz (M0 := up M a (rdM c L kn L.length)) up_same ?_ ?_ q
    · rw [up_ne haf.symm]; exact hf
    · exact Sub.up Sub.refl (by rw [up_ne haf.symm]; exact hf)
  | cons t post =>
    have ht := hpost t List.mem_cons_self
    have hpost2 : ∀ t ∈ post, TokOk kn t := fun u hu => hpost u (List.mem_cons_of_mem _ hu)
    obtain ⟨x0, l0, e0, n1, n2⟩ := enc_head ht
    have f0 : decide ([x0] = ([] : List Nat)) = false := decide_eq_false (by simp)
    rw [List.map_cons, join_cons] at hd1 hdl ⊢
    rw [e0, List.cons_append, List.take_succ_cons, List.take_zero]
    walk_at "dlh"
    have henc : encTok t = atm t ++ pow t := rfl
    have hal := atm_len ht
    rw [henc] at hd1 hdl
    simp only [List.length_append] at hdl
    have hd2 : L.drop (p + k + 1) = pow t ++ tl (post.map encTok) := by
      rw [← List.drop_drop, hd1, List.append_assoc, ← hal, List.drop_left]
    obtain ⟨k', hk1, htl, hk0'⟩ := tl_form hpost2
    have hds : (pre.map dTok).length < sizeLine := lineT (by rw [List.length_map]; omega)
    have last : ∀ p' k', p' ≤ L.length → L.drop p' = List.replicate k' 32 ++ joinSp (post.map encTok) → k' ≤ 1 → (post = [] → k' = 0) → ∀ d', R [some (.ptr a), some (.str (T [])), some (.int 0), some (.ptr f), d'] (up (up M a (rdM c L kn p')) f (.lst (pre.map dTok ++ [dTok t]))) := fun p' k' hp' hd' hk1 hk2 d' => by
      refine hR post.length _ _ (by simp) ⟨pre ++ [t], post, p', k', d', by simp, rfl, hd', hp', hk1, hk2, rfl, by rw [List.map_append]; rfl⟩
    refine ⟨a, L, kn, p + k, t.1, pow t ++ tl (post.map encTok), rfl, u1 _ _, by omega, by omega, hkn, by rw [hd1, List.append_assoc]; rfl, ?_, ?_⟩
    · rcases ht with rfl | ⟨ch, e, hlo, hm, _⟩
      · exact .inl ⟨rfl, tl_cases _⟩
      · exact .inr ⟨ch, e, hlo, hm⟩
    · rw [u2]
      by_cases he1 : t.2 = 1
      · have hpw : pow t = [] := if_pos he1
        rw [hpw, List.nil_append] at hd2
        rw [hpw, List.length_nil] at hdl
        have hl2 := congrArg List.length htl
        rw [List.length_append, List.length_replicate] at hl2
        have f1 := take1_ne (join_nh hpost2).2
        walk_at "dlh"
        refine ⟨a, L, kn, p + k + 1, k', _, rfl, u1 _ _, by omega, by omega, by rw [hd2, htl], (join_nh hpost2).1, ?_⟩
        rw [u2]
        have := last (p + k + 1 + k') 0 (by omega) (by have := drop_add (hd2.trans htl) (Nat.le_refl k'); rw [Nat.sub_self] at this; exact this) (by omega) (fun _ => rfl)
        walk_at "dlh"
        refine ⟨line (by decide), ?_⟩
        unfold dTok at this
        rw [he1] at this
        exact this _
      · have hpw : pow t = 94 :: numTxt t.2 := if_neg he1
        rw [hpw] at hd2
        rw [hpw, List.length_cons] at hdl
        have hl2 := congrArg List.length htl
        rw [List.length_append, List.length_replicate] at hl2
        have hb : t.2 ≠ 0 ∧ -99 ≤ t.2 ∧ t.2 ≤ 99 := by
          rcases ht with rfl | ⟨ch, e, hlo, hm, h⟩
          · exact absurd rfl he1
          · exact h
        walk_at "dlh"
        refine ⟨a, L, kn, p + k + 1, 0, _, rfl, u1 _ _, by omega, by omega, by rw [hd2, List.replicate_zero, List.nil_append], by simp, ?_⟩
        rw [u2, List.cons_append, List.take_succ_cons, List.take_zero]
        walk_at "dlh"
        refine ⟨a, L, kn, p + k + 1 + 0, t.2, tl (post.map encTok), rfl, u1 _ _, by omega, by omega, hd2, hb.1, hb.2.1, hb.2.2, tl_cases _, ?_⟩
        rw [u2]
        have := last (p + k + 1 + 0 + 1 + (numTxt t.2).length) k' (by omega) (by
          have e1 : p + k + 1 + 0 + 1 + (numTxt t.2).length = (p + k + 1) + (94 :: numTxt t.2).length := by rw [List.length_cons]; omega
          rw [e1, ← List.drop_drop, hd2, List.drop_left]
          exact htl) hk1 hk0'
        walk_at "dlh"
        refine ⟨line (by decide), ?_⟩
        unfold dTok at this
        exact this _
end
end K09
namespace K09
open PySem PySem.Spec PyProof.Rows L2 DL PRE
local macro_rules | `(tactic| walk_at "dl") => `(tactic| simp only [exists_eq', exists_eq, List.take_nil, List.take_succ_cons, List.take_zero, decide_false, decide_true, dFld_ap, dSetF_ap, dAugF_ap, dMeth_ap, dMake_ap, dProp_ap, insOf_p, insOf_o, dNever_ap, bodyE_rt, bodyE_nx, dVar_ap, dC_ap, dOp_ap, dTB_ap, dTru_ap, dAnd_ap, dOr_ap, dNot_ap, dNotV_ap, dAndV_ap, dOrV_ap, dIf_ap, dIsN_ap, dNext_ap, dSeq_ap, dBreak_ap, dCont_ap, dDrop_ap, dRet_ap, dRetN_ap, dIfS_ap, dgName_ap, dgNil_ap, dgCons_ap, dgTup_ap, dgSub_ap, dAsg_ap, dPar_ap, dAug_ap, dNil_ap, dCons_ap, dTup_ap, dLst_ap, dLstM_ap, dCB_ap, dBM_ap, dBM0_ap, dCall_ap, dCallK_ap, dRev_s, dSl_ap, dPart_ap, dUn_ap, dChain_ap, dIsi_ap, dIsi2_ap, dIter_ap, dIterT_ap, dIterS_ap, dRng1_ap, dRng2_ap, rMulX_ii, rMulX_si, dFmt_ap, fmtD_s, fmtD_i, dJoined_ap, dJs_nil, dJs_cons, jStep_s, dCallK_ap, dNil_ap, rAdd_ii, rAdd_ss, rAdd_tt, rAdd_ll, rSub_ii, rInt2_ii, rNeg_i, rOrd_ii, rOrd_ss, rIadd_ii, rIadd_ss, rEqW_ii, rEqW_ss, rEqW_bb, rIn_ss, rIxD_l, rIxD_x, rIxD_t, rIxD_s, rIxD_p, lstOf_p, lstOf_l, lstOf_x, rSlD_s, rSlD_t, rSlD_l, rSlD_x, rLen_s, rLen_t, rLen_l, rLen_x, rLen_p, rAbs_i, rInt_i, rInt_b, rToListA_t, rToListA_l, rToListA_s, rToListM_t, rToListM_l, rToTup_t, rToTup_l, rToTup_p, rSum_ap, rAll_ap, rAny_ap, rStrN_i, rMax2_ii, rMin2_ii, rS0_ap, rS1_ap, tyD_s, tyD_p, tyD_l, rJoin_l, rJoin_p, rAppend_p, rPop_p, startD, wipeD, List.map_cons, List.map_nil, List.cons_append, List.nil_append, List.append_nil, List.length_cons, List.length_nil, List.getElem?_cons_zero, List.getElem?_cons_succ, List.set_cons_zero, List.set_cons_succ, List.replicate, Nat.reduceAdd, Nat.reduceSub, Nat.sub_zero, up_same, up_up, Bool.false_xor, Bool.true_xor, Bool.not_true, Bool.not_false, if_true, if_false, Bool.false_eq_true, and_true, true_and, ite_true, ite_false, reduceIte, reduceCtorEq, Option.some.injEq, exists_eq_left', exists_eq_left, rdM, fldS, fldK, fldA, putA, lkH1, lkH2, lkH3, lkH4, lkH5, lkH6, put0, put1, put2, x32, x45, x48, x49, x40, x91, x94, x9445, x0, xE, T_beq, T_app])
local macro_rules | `(tactic| walk_at "dlh") => `(tactic| simp only [exists_eq', exists_eq, List.take_nil, List.take_succ_cons, List.take_zero, decide_false, decide_true, dFld_ap, dSetF_ap, dAugF_ap, dMeth_ap, dMake_ap, dProp_ap, insOf_p, insOf_o, dNever_ap, bodyE_rt, bodyE_nx, dVar_ap, dC_ap, dOp_ap, dTB_ap, dTru_ap, dAnd_ap, dOr_ap, dNot_ap, dNotV_ap, dAndV_ap, dOrV_ap, dIf_ap, dIsN_ap, dNext_ap, dSeq_ap, dBreak_ap, dCont_ap, dDrop_ap, dRet_ap, dRetN_ap, dIfS_ap, dgName_ap, dgNil_ap, dgCons_ap, dgTup_ap, dgSub_ap, dAsg_ap, dPar_ap, dAug_ap, dNil_ap, dCons_ap, dTup_ap, dLst_ap, dLstM_ap, dCB_ap, dBM_ap, dBM0_ap, dCall_ap, dCallK_ap, dRev_s, dSl_ap, dPart_ap, dUn_ap, dChain_ap, dIsi_ap, dIsi2_ap, dIter_ap, dIterT_ap, dIterS_ap, dRng1_ap, dRng2_ap, rMulX_ii, rMulX_si, dFmt_ap, fmtD_s, fmtD_i, dJoined_ap, dJs_nil, dJs_cons, jStep_s, dCallK_ap, dNil_ap, rAdd_ii, rAdd_ss, rAdd_tt, rAdd_ll, rSub_ii, rInt2_ii, rNeg_i, rOrd_ii, rOrd_ss, rIadd_ii, rIadd_ss, rEqW_ii, rEqW_ss, rEqW_bb, rIn_ss, rIxD_l, rIxD_x, rIxD_t, rIxD_s, rIxD_p, lstOf_p, lstOf_l, lstOf_x, rSlD_s, rSlD_t, rSlD_l, rSlD_x, rLen_s, rLen_t, rLen_l, rLen_x, rLen_p, rAbs_i, rInt_i, rInt_b, rToListA_t, rToListA_l, rToListA_s, rToListM_t, rToListM_l, rToTup_t, rToTup_l, rToTup_p, rSum_ap, rAll_ap, rAny_ap, rStrN_i, rMax2_ii, rMin2_ii, rS0_ap, rS1_ap, tyD_s, tyD_p, tyD_l, rJoin_l, rJoin_p, rAppend_p, rPop_p, startD, wipeD, List.map_cons, List.map_nil, List.cons_append, List.nil_append, List.append_nil, List.length_cons, List.length_nil, List.getElem?_cons_zero, List.getElem?_cons_succ, List.set_cons_zero, List.set_cons_succ, List.replicate, Nat.reduceAdd, Nat.reduceSub, Nat.sub_zero, up_same, up_up, Bool.false_xor, Bool.true_xor, Bool.not_true, Bool.not_false, if_true, if_false, Bool.false_eq_true, and_true, true_and, ite_true, ite_false, reduceIte, reduceCtorEq, Option.some.injEq, exists_eq_left', exists_eq_left, rdM, fldS, fldK, fldA, putA, lkH1, lkH2, lkH3, lkH4, lkH5, lkH6, put0, put1, put2, x32, x45, x48, x49, x40, x91, x94, x9445, x0, xE, T_beq, T_app, *])
local macro_rules | `(tactic| walk_at "len") => `(tactic| (intro ds M Q E h; first | (obtain ⟨_, h1, _⟩ := h; subst h1; rfl) | (obtain ⟨_, _, h1, _⟩ := h; subst h1; rfl) | (obtain ⟨_, _, _, h1, _⟩ := h; subst h1; rfl) | (obtain ⟨_, _, _, _, h1, _⟩ := h; subst h1; rfl) | (obtain ⟨_, _, _, _, _, h1, _⟩ := h; subst h1; rfl) | (obtain ⟨_, _, _, _, _, _, h1, _⟩ := h; subst h1; rfl) | (obtain ⟨_, _, _, _, _, _, _, h1, _⟩ := h; subst h1; rfl) | (obtain ⟨_, _, _, _, _, _, _, _, h1, _⟩ := h; subst h1; rfl) | (obtain ⟨_, _, _, _, _, _, _, _, _, h1, _⟩ := h; subst h1; rfl)))
section
variable {K : PySem.W.Frag} {c : Ks}
theorem fold_rep (a : List Nat) : ∀ (k : Nat) (acc : Array Nat), (List.replicate k a.toArray).foldl (· ++ ·) acc = acc ++ ((List.replicate k a).flatten).toArray
  | 0, acc => by simp
  | k + 1, acc => by
    rw [List.replicate_succ, List.foldl_cons, fold_rep a k, List.replicate_succ, List.flatten_cons]
    simp
theorem mul_T (l : List Nat) {n : Int} : Txt.mul (T l) n = T (List.replicate n.toNat l).flatten := by
  unfold Txt.mul
  by_cases h : n < 1
  · rw [if_pos h, show n.toNat = 0 by omega]; rfl
  · rw [if_neg h]
    by_cases h2 : (n == 1 || (T l).length == 0) = true
    · rw [if_pos h2]
      rw [Bool.or_eq_true] at h2
      rcases h2 with h2 | h2
      · have : n = 1 := by simpa using h2
        subst this
        simp
      · rw [T_len] at h2
        have : l = [] := by simpa using h2
        subst this
        congr 1
        generalize n.toNat = k
        induction k with
        | zero => rfl
        | succ k ih => rw [List.replicate_succ, List.flatten_cons, ← ih]; rfl
    · rw [if_neg h2]
      show (⟨_⟩ : Str) = ⟨_⟩
      congr 1
      have := fold_rep l n.toNat #[]
      show (List.replicate n.toNat l.toArray).foldl (· ++ ·) #[] = (List.replicate n.toNat l).flatten.toArray
      rw [this]
      simp
theorem mulOk_T {l : List Nat} {n : Int} (h : -1000000 ≤ n) (h2 : n ≤ 1000000) (hz : l.length ≤ 1000000) (hz2 : l.length * n.toNat ≤ 1000000) : MulOk (T l) n := by
  refine ⟨?_, fun h1 _ => ?_, fun h1 _ => ?_⟩
  · rw [Bool.or_eq_false_iff]; exact ⟨decide_eq_false (by omega), decide_eq_false (by omega)⟩
  · rw [T_len]
    have : (1000000 : Int) ≤ (2 ^ 63 - 1) / n := by
      rw [Int.le_ediv_iff_mul_le (by omega)]
      omega
    omega
  · rw [T_len]; exact decide_eq_false (by have := line hz2; omega)
theorem rd_atom_length : ∀ ds M Q E0, sp_atom_length c ds M Q E0 → t_atom_length c (bodyE K Q) (startD ["atom"] ds) M := by
  rintro ds M Q E0 ⟨l, rfl, hz, q⟩
  unfold t_atom_length
  walk_at "dl"
  simp only [tyN]
  rw [if_pos (by decide), T_len]
  exact ⟨line (by omega), Fin.same q⟩
theorem rd_length_of : ∀ ds M Q E0, sp_length_of c ds M Q E0 → t_length_of c (bodyE K Q) (startD ["factors", "atom", "times"] ds) M := by
  rintro ds M Q E0 ⟨ts, rfl, hs, q⟩
  unfold t_length_of
  walk_at "dl"
  rw [dLc_un]
  walk_at "dl"
  refine lcB_fm (xs := ts) dTok (fun t => .int (tokLen t : Nat)) (fun _ => true) True.intro (line (by have := hs.1; omega)) (fun t ht R S h1 h2 => ?_) ?_
  · have hb := hs.2.2 t ht
    unfold dTok
    walk_at "dl"
    rw [show (!t.2 == 0) = true by simpa using hb.1, if_pos rfl]
    refine ⟨t.1, rfl, by omega, ?_⟩
    walk_at "dl"
    refine ⟨cmulR (by split <;> omega), ?_⟩
    have e : ((t.1.length : Nat) : Int) * (if t.2 < 0 then -t.2 else t.2) = ((tokLen t : Nat) : Int) := by
      unfold tokLen
      rw [Int.natCast_mul]
      congr 1
      split <;> omega
    rw [e]
    exact h1 rfl
  · walk_at "dl"
    rw [List.filter_eq_self.mpr (fun _ _ => rfl)]
    refine ⟨ts.map fun t => (tokLen t : Int), by rw [List.map_map]; rfl, ?_⟩
    have : (ts.map fun t => (tokLen t : Int)).sum = (((ts.map tokLen).sum : Nat) : Int) := by
      clear hs q
      induction ts with
      | nil => rfl
      | cons t r ih => rw [List.map_cons, List.sum_cons, ih, List.map_cons, List.sum_cons]; omega
    rw [this]
    exact Fin.same q
theorem rd_atom_word : ∀ ds M Q E0, sp_atom_word c ds M Q E0 → t_atom_word c (bodyE K Q) (startD ["atom", "left", "right"] ds) M := by
  rintro ds M Q E0 ⟨l, rfl, q⟩
  unfold t_atom_word
  walk_at "dl"
  simp only [tyN]
  rw [if_pos (by decide)]
  exact Fin.same q
theorem flat_rep_len (l : List Nat) : ∀ k : Nat, (List.replicate k l).flatten.length = l.length * k
  | 0 => rfl
  | k + 1 => by rw [List.replicate_succ, List.flatten_cons, List.length_append, flat_rep_len l k, Nat.mul_succ]; omega
theorem tokWord_len (t : Tok1) : (tokWord t).length = tokLen t := by
  unfold tokWord tokLen
  split
  · rw [flat_rep_len]; congr 1; omega
  · rw [flat_rep_len, List.length_map, List.length_reverse]; congr 1; omega
theorem words_len (ts : List Tok1) : (ts.flatMap tokWord).length = (ts.map tokLen).sum := by
  induction ts with
  | nil => rfl
  | cons t r ih => rw [List.flatMap_cons, List.length_append, ih, tokWord_len, List.map_cons, List.sum_cons]
theorem rd_word_of_factors : ∀ ds M Q E0, sp_word_of_factors c ds M Q E0 → t_word_of_factors c (bodyE K Q) (startD ["factors", "found", "atom", "times"] ds) M := by
  rintro ds M Q E0 ⟨ts, rfl, hs, q⟩
  unfold t_word_of_factors
  walk_at "dl"
  rw [dFor_un]
  walk_at "dl"
  refine frB_pre (xs := ts) dTok (fun pre env M' => M' = M ∧ ∃ d1 d2, env = [some (.lst (ts.map dTok)), some (.str (T (pre.flatMap tokWord))), d1, d2]) ⟨rfl, _, _, rfl⟩ (fun _ _ _ _ => True.intro) ?_ ?_
  · rintro pre t post env M' e ⟨rfl, d1, d2, rfl⟩ R hR
    have hb := hs.2.2 t (by rw [e]; simp)
    have hsum : (pre.flatMap tokWord).length + tokLen t ≤ 400 := by
      have h := hs.2.1
      rw [e, List.map_append, List.sum_append, List.map_cons, List.sum_cons] at h
      rw [words_len]
      omega
    have htl := tokWord_len t
    have hR2 : ∀ d1 d2, R [some (.lst (ts.map dTok)), some (.str (T (pre.flatMap tokWord ++ tokWord t))), d1, d2] M' := fun d1 d2 => by
      refine hR _ _ ⟨rfl, d1, d2, ?_⟩
      rw [List.flatMap_append]; simp
    have hmul : ∀ l : List Nat, l.length ≤ 1 → ∀ n : Int, -100 ≤ n → n ≤ 100 → MulOk (T l) n := fun l hl n h1 h2 => mulOk_T (by omega) (by omega) (by omega) (by
      have : l.length * n.toNat ≤ 1 * n.toNat := Nat.mul_le_mul_right _ hl
      omega)
    unfold dTok
    walk_at "dl"
    refine ite2 (fun e1 => ?_) (fun e1 => ?_)
    · have e2 : 0 < t.2 := of_decide_eq_true e1
      have ew : tokWord t = (List.replicate t.2.toNat t.1).flatten := if_pos e2
      refine ⟨t.1, rfl, ?_⟩
      walk_at "dl"
      refine ⟨hmul _ hb.2.2.2.1 _ (by omega) (by omega), ?_⟩
      rw [mul_T, ← ew]
      walk_at "dl"
      rw [T_len, T_len, htl]
      exact ⟨line (by omega), hR2 _ _⟩
    · have e2 : ¬ 0 < t.2 := fun h => e1 (decide_eq_true h)
      have ew : tokWord t = (List.replicate (-t.2).toNat (t.1.reverse.map swC)).flatten := if_neg e2
      rw [if_pos (decide_eq_true (by omega))]
      refine ⟨t.1, rfl, t.1, rfl, hb.2.2.2.2, by omega, ?_⟩
      walk_at "dl"
      refine ⟨hmul _ (by rw [List.length_map, List.length_reverse]; exact hb.2.2.2.1) _ (by omega) (by omega), ?_⟩
      rw [mul_T, ← ew]
      walk_at "dl"
      rw [T_len, T_len, htl]
      exact ⟨line (by omega), hR2 _ _⟩
  · rintro env M' ⟨rfl, d1, d2, rfl⟩
    walk_at "dl"
    exact Fin.same q
theorem rd_read_factors : ∀ ds M Q E0, sp_read_factors c ds M Q E0 → t_read_factors c (bodyE K Q) (startD ["text", "letters"] ds) M := by
  rintro ds M Q E0 ⟨L, l, ts, rfl, h1, h2, h3, h4, h5, h6, h7, q⟩
  unfold t_read_factors
  walk_at "dl"
  intro x hx
  refine ⟨x, L, l, rfl, up_same, h1, h2, rfl, ?_⟩
  walk_at "dl"
  refine ⟨x, L, chars l, ts, rfl, up_same, ?_, h3, h4, h5, h6, h7, ?_⟩
  · rw [List.all_eq_true]
    intro d hd
    obtain ⟨y, _, hd⟩ := List.mem_flatMap.mp hd
    rcases List.mem_cons.mp hd with rfl | hd
    · rfl
    · rw [List.mem_singleton] at hd; subst hd; rfl
  · rw [up_up]
    exact Fin.drop (Sub.up Sub.refl hx) q
theorem rd_short_word : ∀ ds M Q E0, sp_short_word c ds M Q E0 → t_short_word c (bodyE K Q) (startD ["factors"] ds) M := by
  rintro ds M Q E0 ⟨ts, rfl, hs, q⟩
  unfold t_short_word
  walk_at "dl"
  refine ⟨ts, rfl, hs, ?_⟩
  walk_at "dl"
  have := hs.2.1
  rw [decide_eq_false (by omega)]
  exact ⟨ts, rfl, hs, Fin.same q⟩
theorem rd_read_word : ∀ ds M Q E0, sp_read_word c ds M Q E0 → t_read_word c (bodyE K Q) (startD ["text", "letters"] ds) M := by
  rintro ds M Q E0 ⟨L, l, ts, rfl, h1, h2, h3, h4, h5, h6, h7, hs, q⟩
  unfold t_read_word
  walk_at "dl"
  exact ⟨L, l, ts, rfl, h1, h2, h3, h4, h5, h6, h7, ts, rfl, hs, Fin.same q⟩
theorem rd_run_text : ∀ ds M Q E0, sp_run_text c ds M Q E0 → t_run_text c (bodyE K Q) (startD ["character", "many"] ds) M := by
  rintro ds M Q E0 ⟨ch, n, rfl, h1, h2, q⟩
  unfold t_run_text
  walk_at "dl"
  have ed : Str.ofString (toString (n : Int)) = T (dig n) := by unfold dig; rw [T_of]
  have hdl : (dig n).length ≤ 2 := by
    have : ∀ n < 100, (dig n).length ≤ 2 := by decide +kernel
    exact this n (by omega)
  have hlog : ((n : Int)).natAbs.log2 < 1920 := by
    have : ∀ n : Nat, n < 100 → ((n : Int)).natAbs.log2 < 1920 := by decide +kernel
    exact this n (by omega)
  rw [lower_in, ed, lo1 h1, T_one, T_one, T_app, T_app, T_app, T_app, T_app, T_app]
  simp only [T_len, List.length_append, List.length_cons, List.length_nil, List.nil_append]
  refine ite2 (fun e => ?_) (fun e => ?_)
  · refine ite2 (fun e2 => ?_) (fun e2 => ?_)
    · refine Fin.same ?_
      unfold runTxt at q
      rw [if_pos e, if_pos (by have : (n : Int) = 1 := by simpa using e2
                               omega)] at q
      exact q
    · refine ⟨line (by omega), line (by omega), line (by omega), hlog, line (by omega), Fin.same ?_⟩
      unfold runTxt at q
      rw [if_pos e, if_neg (by have : ¬ (n : Int) = 1 := by simpa using e2
                               omega)] at q
      exact q
  · refine ⟨by omega, line (by omega), line (by omega), line (by omega), hlog, line (by omega), Fin.same ?_⟩
    unfold runTxt at q
    rw [if_neg e] at q
    exact q
end
end K09
namespace K09
open PySem PySem.Spec PyProof.Rows L2 DL PRE
local macro_rules | `(tactic| walk_at "dl") => `(tactic| simp only [exists_eq', exists_eq, List.take_nil, List.take_succ_cons, List.take_zero, decide_false, decide_true, dFld_ap, dSetF_ap, dAugF_ap, dMeth_ap, dMake_ap, dProp_ap, insOf_p, insOf_o, dNever_ap, bodyE_rt, bodyE_nx, dVar_ap, dC_ap, dOp_ap, dTB_ap, dTru_ap, dAnd_ap, dOr_ap, dNot_ap, dNotV_ap, dAndV_ap, dOrV_ap, dIf_ap, dIsN_ap, dNext_ap, dSeq_ap, dBreak_ap, dCont_ap, dDrop_ap, dRet_ap, dRetN_ap, dIfS_ap, dgName_ap, dgNil_ap, dgCons_ap, dgTup_ap, dgSub_ap, dAsg_ap, dPar_ap, dAug_ap, dNil_ap, dCons_ap, dTup_ap, dLst_ap, dLstM_ap, dCB_ap, dBM_ap, dBM0_ap, dCall_ap, dCallK_ap, dRev_s, dSl_ap, dPart_ap, dUn_ap, dChain_ap, dIsi_ap, dIsi2_ap, dIter_ap, dIterT_ap, dIterS_ap, dRng1_ap, dRng2_ap, rMulX_ii, rMulX_si, dFmt_ap, fmtD_s, fmtD_i, dJoined_ap, dJs_nil, dJs_cons, jStep_s, dCallK_ap, dNil_ap, rAdd_ii, rAdd_ss, rAdd_tt, rAdd_ll, rSub_ii, rInt2_ii, rNeg_i, rOrd_ii, rOrd_ss, rIadd_ii, rIadd_ss, rEqW_ii, rEqW_ss, rEqW_bb, rIn_ss, rIxD_l, rIxD_x, rIxD_t, rIxD_s, rIxD_p, lstOf_p, lstOf_l, lstOf_x, rSlD_s, rSlD_t, rSlD_l, rSlD_x, rLen_s, rLen_t, rLen_l, rLen_x, rLen_p, rAbs_i, rInt_i, rInt_b, rToListA_t, rToListA_l, rToListA_s, rToListM_t, rToListM_l, rToTup_t, rToTup_l, rToTup_p, rSum_ap, rAll_ap, rAny_ap, rStrN_i, rMax2_ii, rMin2_ii, rS0_ap, rS1_ap, tyD_s, tyD_p, tyD_l, rJoin_l, rJoin_p, rAppend_p, rPop_p, startD, wipeD, List.map_cons, List.map_nil, List.cons_append, List.nil_append, List.append_nil, List.length_cons, List.length_nil, List.getElem?_cons_zero, List.getElem?_cons_succ, List.set_cons_zero, List.set_cons_succ, List.replicate, Nat.reduceAdd, Nat.reduceSub, Nat.sub_zero, up_same, up_up, Bool.false_xor, Bool.true_xor, Bool.not_true, Bool.not_false, if_true, if_false, Bool.false_eq_true, and_true, true_and, ite_true, ite_false, reduceIte, reduceCtorEq, Option.some.injEq, exists_eq_left', exists_eq_left, rdM, fldS, fldK, fldA, putA, lkH1, lkH2, lkH3, lkH4, lkH5, lkH6, put0, put1, put2, x32, x45, x48, x49, x40, x91, x94, x9445, x0, xE, T_beq, T_app])
local macro_rules | `(tactic| walk_at "dlh") => `(tactic| simp only [exists_eq', exists_eq, List.take_nil, List.take_succ_cons, List.take_zero, decide_false, decide_true, dFld_ap, dSetF_ap, dAugF_ap, dMeth_ap, dMake_ap, dProp_ap, insOf_p, insOf_o, dNever_ap, bodyE_rt, bodyE_nx, dVar_ap, dC_ap, dOp_ap, dTB_ap, dTru_ap, dAnd_ap, dOr_ap, dNot_ap, dNotV_ap, dAndV_ap, dOrV_ap, dIf_ap, dIsN_ap, dNext_ap, dSeq_ap, dBreak_ap, dCont_ap, dDrop_ap, dRet_ap, dRetN_ap, dIfS_ap, dgName_ap, dgNil_ap, dgCons_ap, dgTup_ap, dgSub_ap, dAsg_ap, dPar_ap, dAug_ap, dNil_ap, dCons_ap, dTup_ap, dLst_ap, dLstM_ap, dCB_ap, dBM_ap, dBM0_ap, dCall_ap, dCallK_ap, dRev_s, dSl_ap, dPart_ap, dUn_ap, dChain_ap, dIsi_ap, dIsi2_ap, dIter_ap, dIterT_ap, dIterS_ap, dRng1_ap, dRng2_ap, rMulX_ii, rMulX_si, dFmt_ap, fmtD_s, fmtD_i, dJoined_ap, dJs_nil, dJs_cons, jStep_s, dCallK_ap, dNil_ap, rAdd_ii, rAdd_ss, rAdd_tt, rAdd_ll, rSub_ii, rInt2_ii, rNeg_i, rOrd_ii, rOrd_ss, rIadd_ii, rIadd_ss, rEqW_ii, rEqW_ss, rEqW_bb, rIn_ss, rIxD_l, rIxD_x, rIxD_t, rIxD_s, rIxD_p, lstOf_p, lstOf_l, lstOf_x, rSlD_s, rSlD_t, rSlD_l, rSlD_x, rLen_s, rLen_t, rLen_l, rLen_x, rLen_p, rAbs_i, rInt_i, rInt_b, rToListA_t, rToListA_l, rToListA_s, rToListM_t, rToListM_l, rToTup_t, rToTup_l, rToTup_p, rSum_ap, rAll_ap, rAny_ap, rStrN_i, rMax2_ii, rMin2_ii, rS0_ap, rS1_ap, tyD_s, tyD_p, tyD_l, rJoin_l, rJoin_p, rAppend_p, rPop_p, startD, wipeD, List.map_cons, List.map_nil, List.cons_append, List.nil_append, List.append_nil, List.length_cons, List.length_nil, List.getElem?_cons_zero, List.getElem?_cons_succ, List.set_cons_zero, List.set_cons_succ, List.replicate, Nat.reduceAdd, Nat.reduceSub, Nat.sub_zero, up_same, up_up, Bool.false_xor, Bool.true_xor, Bool.not_true, Bool.not_false, if_true, if_false, Bool.false_eq_true, and_true, true_and, ite_true, ite_false, reduceIte, reduceCtorEq, Option.some.injEq, exists_eq_left', exists_eq_left, rdM, fldS, fldK, fldA, putA, lkH1, lkH2, lkH3, lkH4, lkH5, lkH6, put0, put1, put2, x32, x45, x48, x49, x40, x91, x94, x9445, x0, xE, T_beq, T_app, *])
local macro_rules | `(tactic| walk_at "len") => `(tactic| (intro ds M Q E h; first | (obtain ⟨_, h1, _⟩ := h; subst h1; rfl) | (obtain ⟨_, _, h1, _⟩ := h; subst h1; rfl) | (obtain ⟨_, _, _, h1, _⟩ := h; subst h1; rfl) | (obtain ⟨_, _, _, _, h1, _⟩ := h; subst h1; rfl) | (obtain ⟨_, _, _, _, _, h1, _⟩ := h; subst h1; rfl) | (obtain ⟨_, _, _, _, _, _, h1, _⟩ := h; subst h1; rfl) | (obtain ⟨_, _, _, _, _, _, _, h1, _⟩ := h; subst h1; rfl) | (obtain ⟨_, _, _, _, _, _, _, _, h1, _⟩ := h; subst h1; rfl) | (obtain ⟨_, _, _, _, _, _, _, _, _, h1, _⟩ := h; subst h1; rfl)))
section
theorem snoc_ind {P : List Nat → Prop} (h0 : P []) (h1 : ∀ l x, P l → P (l ++ [x])) (l : List Nat) : P l := by
  rw [← List.reverse_reverse l]
  induction l.reverse with
  | nil => exact h0
  | cons x r ih => rw [List.reverse_cons]; exact h1 _ _ ih
theorem runs_snoc (l : List Nat) (x : Nat) : runs (l ++ [x]) = runStep (runs l) x := by
  unfold runs
  rw [List.foldl_append]; rfl
theorem runStep_nil (x : Nat) : runStep [] x = [(x, 1)] := rfl
theorem runStep_last (acc : List (Nat × Nat)) (d k x : Nat) : runStep (acc ++ [(d, k)]) x = if d = x then acc ++ [(x, k + 1)] else acc ++ [(d, k)] ++ [(x, 1)] := by
  unfold runStep
  rw [List.getLast?_concat]
  simp only [List.dropLast_concat]
theorem list_last {α : Type} (l : List α) : l = [] ∨ ∃ a x, l = a ++ [x] := by
  rcases List.eq_nil_or_concat l with h | ⟨a, x, h⟩
  · exact .inl h
  · exact .inr ⟨a, x, by rw [h, List.concat_eq_append]⟩
theorem runs_spec (w : List Nat) : (runs w).length ≤ w.length ∧ (∀ p ∈ runs w, p.1 ∈ w ∧ 1 ≤ p.2 ∧ p.2 ≤ w.length) ∧ (runs w).getLast?.map Prod.fst = w.getLast? := by
  induction w using snoc_ind with
  | h0 => exact ⟨Nat.le_refl _, fun _ h => absurd h List.not_mem_nil, rfl⟩
  | h1 l x ih =>
    obtain ⟨i1, i2, i3⟩ := ih
    rw [runs_snoc, List.getLast?_concat, List.length_append, List.length_singleton]
    rcases list_last (runs l) with e | ⟨acc, ⟨d, k⟩, e⟩
    · rw [e, runStep_nil]
      refine ⟨by simp, fun p hp => ?_, rfl⟩
      rw [List.mem_singleton] at hp; subst hp
      exact ⟨by simp, Nat.le_refl _, by omega⟩
    · rw [e] at i1 i2 i3
      rw [e, runStep_last]
      rw [List.length_append, List.length_singleton] at i1
      have hd := i2 (d, k) (by simp)
      split
      · rename_i hdx
        subst hdx
        refine ⟨by rw [List.length_append, List.length_singleton]; omega, fun p hp => ?_, by rw [List.getLast?_concat]; rfl⟩
        rcases List.mem_append.mp hp with hp | hp
        · have := i2 p (List.mem_append_left _ hp)
          exact ⟨List.mem_append_left _ this.1, this.2.1, by omega⟩
        · rw [List.mem_singleton] at hp; subst hp
          exact ⟨by simp, by simp, by simp; omega⟩
      · refine ⟨by rw [List.length_append, List.length_append, List.length_singleton]; simp; omega, fun p hp => ?_, by rw [List.getLast?_concat]; rfl⟩
        rcases List.mem_append.mp hp with hp | hp
        · have := i2 p hp
          exact ⟨List.mem_append_left _ this.1, this.2.1, by omega⟩
        · rw [List.mem_singleton] at hp; subst hp
          exact ⟨by simp, Nat.le_refl _, by simp⟩
theorem runs_ne {w : List Nat} (h : w ≠ []) : runs w ≠ [] := fun e => by
  have := (runs_spec w).2.2
  rw [e] at this
  rcases list_last w with h2 | ⟨a, x, h2⟩
  · exact h h2
  · rw [h2, List.getLast?_concat] at this; cases this
theorem runs_rep {l : List Nat} {x : Nat} (h : l.getLast? ≠ some x) : ∀ k : Nat, runs (l ++ List.replicate (k + 1) x) = runs l ++ [(x, k + 1)]
  | 0 => by
    show runs (l ++ [x]) = _
    rw [runs_snoc]
    have h3 := (runs_spec l).2.2
    rcases list_last (runs l) with e | ⟨acc, ⟨d, k⟩, e⟩
    · rw [e, runStep_nil]; rfl
    · rw [e, List.getLast?_concat] at h3
      rw [e, runStep_last, if_neg fun hdx => h (by rw [← h3, hdx]; rfl)]
  | k + 1 => by
    have e : l ++ List.replicate (k + 1 + 1) x = (l ++ List.replicate (k + 1) x) ++ [x] := by rw [List.append_assoc, List.replicate_succ' (n := k + 1)]
    rw [e, runs_snoc, runs_rep h k, runStep_last, if_pos rfl]
theorem join_sp : ∀ ls : List (List Nat), Txt.join (T [32]) (ls.map T) = T (joinSp ls)
  | [] => by rw [join_cps]; rfl
  | [l] => by rw [join_cps]; rfl
  | l :: m :: r => by
    have ih := join_sp (m :: r)
    rw [join_cps] at ih ⊢
    show T l ++ T [32] ++ Str.join (T [32]) ((m :: r).map T) = T (l ++ 32 :: joinSp (m :: r))
    rw [ih, T_app, T_app, List.append_assoc]; rfl
theorem runTxt_len {x n : Nat} (h : n ≤ 99) : (runTxt x n).length ≤ 5 := by
  have hdl : (dig n).length ≤ 2 := by
    have : ∀ n < 100, (dig n).length ≤ 2 := by decide +kernel
    exact this n (by omega)
  unfold runTxt
  split
  · split
    · simp
    · simp only [List.length_cons]; omega
  · simp only [List.length_cons]; omega
def dRun (p : Nat × Nat) : D := .tup [.str ⟨#[p.1]⟩, .int p.2]
theorem dRun_pl {w : List Nat} (h : ∀ x ∈ w, x < 128) : ∀ d ∈ (runs w).map dRun, Pl 1 d = true := fun d hd => by
  obtain ⟨p, hp, rfl⟩ := List.mem_map.mp hd
  have := h _ ((runs_spec w).2.1 p hp).1
  unfold dRun
  rw [Pl, T_one]
  simp [Pl, strOk_T (l := [p.1]) (by intro c hc; rw [List.mem_singleton] at hc; subst hc; omega)]
theorem sum_le_of {l : List Nat} {b : Nat} (h : ∀ x ∈ l, x ≤ b) : l.sum ≤ l.length * b := by
  induction l with
  | nil => simp
  | cons x r ih =>
    have h1 := h x List.mem_cons_self
    have h2 := ih fun y hy => h y (List.mem_cons_of_mem _ hy)
    rw [List.sum_cons, List.length_cons, Nat.add_mul]; omega
variable {K : PySem.W.Frag} {c : Ks}
theorem ixN_last (n : Nat) : ixN (n + 1) (-1) = some n := by
  unfold ixN
  rw [if_neg (by decide), if_pos (by omega)]
  congr 1
  omega
theorem at2_0 {a b : D} : atI [a, b] 0 = some a := rfl
theorem at2_1 {a b : D} : atI [a, b] 1 = some b := rfl
theorem rd_format_word : ∀ ds M Q E0, sp_format_word c ds M Q E0 → t_format_word c (bodyE K Q) (startD ["word", "runs", "character", "many"] ds) M := by
  rintro ds M Q E0 ⟨w, rfl, hw, hz, q⟩
  unfold t_format_word
  walk_at "dl"
  refine ⟨Nat.zero_le _, fun f hf => ?_⟩
  rw [dFor_un]
  walk_at "dl"
  rw [sgs_T]
  refine frB_pre (xs := w) (fun c => D.str ⟨#[c]⟩) (fun pre env M' => ∃ d1, M' = up M f (.lst ((runs pre).map dRun)) ∧ env = [some (.str (T w)), some (.ptr f), d1, none]) ⟨none, rfl, rfl⟩ (fun _ _ _ _ => True.intro) ?_ ?_
  · rintro pre x post env M' e ⟨d1, rfl, rfl⟩ R hR
    have hwp : ∀ y ∈ pre, y < 128 := fun y hy => hw y (by rw [e]; exact List.mem_append_left _ hy)
    have hpz : pre.length < 99 := by
      have := congrArg List.length e
      rw [List.length_append, List.length_cons] at this; omega
    have hs := runs_spec pre
    walk_at "dl"
    refine ⟨Nat.zero_le _, ?_⟩
    rw [rEqW_p0 (n := 1) up_same (dRun_pl hwp) (by rw [List.length_map]; omega) (by decide)]
    walk_at "dl"
    have hR2 := hR [some (.str (T w)), some (.ptr f), some (.str ⟨#[x]⟩), none] (up M f (.lst ((runs (pre ++ [x])).map dRun))) ⟨_, rfl, rfl⟩
    rw [runs_snoc] at hR2
    rcases list_last (runs pre) with e2 | ⟨acc, ⟨d, k⟩, e2⟩
    · rw [e2, runStep_nil] at hR2
      rw [e2, List.map_nil]
      rw [show (!([] : List D).isEmpty) = false from rfl]
      walk_at "dl"
      exact ⟨line (by decide), lineT (by decide), hR2⟩
    · rw [e2, runStep_last] at hR2
      rw [e2] at hs ⊢
      rw [show (!(List.map dRun (acc ++ [(d, k)])).isEmpty) = true by simp]
      have hlast : atI ((acc ++ [(d, k)]).map dRun) (-1) = some (dRun (d, k)) := by rw [List.map_append]; exact atI_last _ _
      walk_at "dl"
      refine ⟨_, hlast, ?_⟩
      unfold dRun
      walk_at "dl"
      refine ⟨_, at2_0, ?_⟩
      rw [T_one, T_one]
      walk_at "dl"
      have hz2 : ((acc ++ [(d, k)]).map dRun).length = acc.length + 1 := by simp
      have hk := hs.2.1 (d, k) (by simp)
      refine ite2 (fun e3 => ?_) (fun e3 => ?_)
      · have e4 : d = x := by have := of_decide_eq_true e3; simpa using this
        subst e4
        rw [if_pos rfl] at hR2
        refine ⟨_, hlast, ?_⟩
        unfold dRun
        walk_at "dl"
        refine ⟨_, at2_1, ?_⟩
        walk_at "dl"
        refine ⟨line (by decide), acc.length, ?_, ?_⟩
        · show ixN ((acc ++ [(d, k)]).map dRun).length (-1) = some acc.length
          rw [hz2, ixN_last]
        · have e5 : ((acc ++ [(d, k)]).map dRun).set acc.length (.tup [.str (T [d]), .int ((k : Int) + 1)]) = (acc ++ [(d, k + 1)]).map dRun := by
            rw [List.map_append, List.map_append, List.set_append_right _ _ (by simp), List.length_map, Nat.sub_self]
            rfl
          rw [show ((acc ++ [(d, k)]).map fun p => D.tup [D.str ⟨#[p.1]⟩, D.int p.2]) = (acc ++ [(d, k)]).map dRun from rfl, e5]
          exact hR2
      · have e4 : ¬ d = x := fun h => e3 (by subst h; exact decide_eq_true rfl)
        rw [if_neg e4] at hR2
        have hlt : ((acc ++ [(d, k)]).map dRun).length < sizeLine := lineT (by rw [List.length_map]; omega)
        refine ⟨line (by decide), hlt, ?_⟩
        rw [List.map_append (l₂ := [(x, 1)])] at hR2
        exact hR2
  · rintro env M' ⟨d1, rfl, rfl⟩
    walk_at "dl"
    refine ⟨Nat.zero_le _, ?_⟩
    rw [rEqW_p0 (n := 1) up_same (dRun_pl hw) (by rw [List.length_map]; have := (runs_spec w).1; omega) (by decide)]
    walk_at "dl"
    have hs := runs_spec w
    have frz : ∀ z : Str, z = T (fmt w) → DL.Fin K Q (.str z) (up M f (.lst ((runs w).map dRun))) := fun z e => by
      rw [e]; exact Fin.drop (Sub.up Sub.refl hf) q
    by_cases hw0 : w = []
    · subst hw0
      exact frz _ rfl
    · rw [show (!((runs w).map dRun).isEmpty) = true by simp [runs_ne hw0], if_pos rfl, dLc_un]
      walk_at "dl"
      refine lcB_m (xs := runs w) dRun (fun p => .str (T (runTxt p.1 p.2))) up_same (line (by omega)) (fun p hp R h => ?_) ?_
      · have := hs.2.1 p hp
        unfold dRun
        walk_at "dl"
        exact ⟨p.1, p.2, rfl, hw _ this.1, by omega, h⟩
      · walk_at "dl"
        refine ⟨((runs w).map fun p => runTxt p.1 p.2).map T, by rw [List.map_map, List.map_map]; rfl, ?_, ?_⟩
        · have h1 := sum_le_of (l := (((runs w).map fun p => runTxt p.1 p.2).map T).map (·.length)) (b := 5) (fun z hz => by
            obtain ⟨y, hy, rfl⟩ := List.mem_map.mp hz
            obtain ⟨y2, hy2, rfl⟩ := List.mem_map.mp hy
            obtain ⟨p, hp, rfl⟩ := List.mem_map.mp hy2
            rw [T_len]
            exact runTxt_len (by have := hs.2.1 p hp; omega))
          simp only [List.length_map] at h1 ⊢
          rw [T_len, List.length_singleton]
          omega
        · rw [join_sp]
          exact frz _ (by unfold fmt; rw [if_neg hw0])
end
end K09
namespace K09
open PySem PySem.Spec PyProof.Rows L2 DL PRE
local macro_rules | `(tactic| walk_at "dl") => `(tactic| simp only [exists_eq', exists_eq, List.take_nil, List.take_succ_cons, List.take_zero, decide_false, decide_true, dFld_ap, dSetF_ap, dAugF_ap, dMeth_ap, dMake_ap, dProp_ap, insOf_p, insOf_o, dNever_ap, bodyE_rt, bodyE_nx, dVar_ap, dC_ap, dOp_ap, dTB_ap, dTru_ap, dAnd_ap, dOr_ap, dNot_ap, dNotV_ap, dAndV_ap, dOrV_ap, dIf_ap, dIsN_ap, dNext_ap, dSeq_ap, dBreak_ap, dCont_ap, dDrop_ap, dRet_ap, dRetN_ap, dIfS_ap, dgName_ap, dgNil_ap, dgCons_ap, dgTup_ap, dgSub_ap, dAsg_ap, dPar_ap, dAug_ap, dNil_ap, dCons_ap, dTup_ap, dLst_ap, dLstM_ap, dCB_ap, dBM_ap, dBM0_ap, dCall_ap, dCallK_ap, dRev_s, dSl_ap, dPart_ap, dUn_ap, dChain_ap, dIsi_ap, dIsi2_ap, dIter_ap, dIterT_ap, dIterS_ap, dRng1_ap, dRng2_ap, rMulX_ii, rMulX_si, dFmt_ap, fmtD_s, fmtD_i, dJoined_ap, dJs_nil, dJs_cons, jStep_s, dCallK_ap, dNil_ap, rAdd_ii, rAdd_ss, rAdd_tt, rAdd_ll, rSub_ii, rInt2_ii, rNeg_i, rOrd_ii, rOrd_ss, rIadd_ii, rIadd_ss, rEqW_ii, rEqW_ss, rEqW_bb, rIn_ss, rIxD_l, rIxD_x, rIxD_t, rIxD_s, rIxD_p, lstOf_p, lstOf_l, lstOf_x, rSlD_s, rSlD_t, rSlD_l, rSlD_x, rLen_s, rLen_t, rLen_l, rLen_x, rLen_p, rAbs_i, rInt_i, rInt_b, rToListA_t, rToListA_l, rToListA_s, rToListM_t, rToListM_l, rToTup_t, rToTup_l, rToTup_p, rSum_ap, rAll_ap, rAny_ap, rStrN_i, rMax2_ii, rMin2_ii, rS0_ap, rS1_ap, tyD_s, tyD_p, tyD_l, rJoin_l, rJoin_p, rAppend_p, rPop_p, startD, wipeD, List.map_cons, List.map_nil, List.cons_append, List.nil_append, List.append_nil, List.length_cons, List.length_nil, List.getElem?_cons_zero, List.getElem?_cons_succ, List.set_cons_zero, List.set_cons_succ, List.replicate, Nat.reduceAdd, Nat.reduceSub, Nat.sub_zero, up_same, up_up, Bool.false_xor, Bool.true_xor, Bool.not_true, Bool.not_false, if_true, if_false, Bool.false_eq_true, and_true, true_and, ite_true, ite_false, reduceIte, reduceCtorEq, Option.some.injEq, exists_eq_left', exists_eq_left, rdM, fldS, fldK, fldA, putA, lkH1, lkH2, lkH3, lkH4, lkH5, lkH6, put0, put1, put2, x32, x45, x48, x49, x40, x91, x94, x9445, x0, xE, T_beq, T_app])
local macro_rules | `(tactic| walk_at "dlh") => `(tactic| simp only [exists_eq', exists_eq, List.take_nil, List.take_succ_cons, List.take_zero, decide_false, decide_true, dFld_ap, dSetF_ap, dAugF_ap, dMeth_ap, dMake_ap, dProp_ap, insOf_p, insOf_o, dNever_ap, bodyE_rt, bodyE_nx, dVar_ap, dC_ap, dOp_ap, dTB_ap, dTru_ap, dAnd_ap, dOr_ap, dNot_ap, dNotV_ap, dAndV_ap, dOrV_ap, dIf_ap, dIsN_ap, dNext_ap, dSeq_ap, dBreak_ap, dCont_ap, dDrop_ap, dRet_ap, dRetN_ap, dIfS_ap, dgName_ap, dgNil_ap, dgCons_ap, dgTup_ap, dgSub_ap, dAsg_ap, dPar_ap, dAug_ap, dNil_ap, dCons_ap, dTup_ap, dLst_ap, dLstM_ap, dCB_ap, dBM_ap, dBM0_ap, dCall_ap, dCallK_ap, dRev_s, dSl_ap, dPart_ap, dUn_ap, dChain_ap, dIsi_ap, dIsi2_ap, dIter_ap, dIterT_ap, dIterS_ap, dRng1_ap, dRng2_ap, rMulX_ii, rMulX_si, dFmt_ap, fmtD_s, fmtD_i, dJoined_ap, dJs_nil, dJs_cons, jStep_s, dCallK_ap, dNil_ap, rAdd_ii, rAdd_ss, rAdd_tt, rAdd_ll, rSub_ii, rInt2_ii, rNeg_i, rOrd_ii, rOrd_ss, rIadd_ii, rIadd_ss, rEqW_ii, rEqW_ss, rEqW_bb, rIn_ss, rIxD_l, rIxD_x, rIxD_t, rIxD_s, rIxD_p, lstOf_p, lstOf_l, lstOf_x, rSlD_s, rSlD_t, rSlD_l, rSlD_x, rLen_s, rLen_t, rLen_l, rLen_x, rLen_p, rAbs_i, rInt_i, rInt_b, rToListA_t, rToListA_l, rToListA_s, rToListM_t, rToListM_l, rToTup_t, rToTup_l, rToTup_p, rSum_ap, rAll_ap, rAny_ap, rStrN_i, rMax2_ii, rMin2_ii, rS0_ap, rS1_ap, tyD_s, tyD_p, tyD_l, rJoin_l, rJoin_p, rAppend_p, rPop_p, startD, wipeD, List.map_cons, List.map_nil, List.cons_append, List.nil_append, List.append_nil, List.length_cons, List.length_nil, List.getElem?_cons_zero, List.getElem?_cons_succ, List.set_cons_zero, List.set_cons_succ, List.replicate, Nat.reduceAdd, Nat.reduceSub, Nat.sub_zero, up_same, up_up, Bool.false_xor, Bool.true_xor, Bool.not_true, Bool.not_false, if_true, if_false, Bool.false_eq_true, and_true, true_and, ite_true, ite_false, reduceIte, reduceCtorEq, Option.some.injEq, exists_eq_left', exists_eq_left, rdM, fldS, fldK, fldA, putA, lkH1, lkH2, lkH3, lkH4, lkH5, lkH6, put0, put1, put2, x32, x45, x48, x49, x40, x91, x94, x9445, x0, xE, T_beq, T_app, *])
local macro_rules | `(tactic| walk_at "len") => `(tactic| (intro ds M Q E h; first | (obtain ⟨_, h1, _⟩ := h; subst h1; rfl) | (obtain ⟨_, _, h1, _⟩ := h; subst h1; rfl) | (obtain ⟨_, _, _, h1, _⟩ := h; subst h1; rfl) | (obtain ⟨_, _, _, _, h1, _⟩ := h; subst h1; rfl) | (obtain ⟨_, _, _, _, _, h1, _⟩ := h; subst h1; rfl) | (obtain ⟨_, _, _, _, _, _, h1, _⟩ := h; subst h1; rfl) | (obtain ⟨_, _, _, _, _, _, _, h1, _⟩ := h; subst h1; rfl) | (obtain ⟨_, _, _, _, _, _, _, _, h1, _⟩ := h; subst h1; rfl) | (obtain ⟨_, _, _, _, _, _, _, _, _, h1, _⟩ := h; subst h1; rfl)))
section
theorem lstrip_len (l : List Nat) (x : Nat) : (Txt.lstripChars (T l) (T [x])).length = l.length - (l.takeWhile fun y => decide (y = x)).length := by
  have hg : (T [x]).cps.contains = fun y => decide (y = x) := by
    funext y
    simp [T]
  unfold Txt.lstripChars Txt.stripBy
  rw [hg]
  have hlo : stripLo (fun y => decide (y = x)) true (T l) = (l.takeWhile fun y => decide (y = x)).length := by unfold stripLo; rw [T_cps]; rfl
  split
  · rename_i h
    unfold stripSame at h
    rw [hlo, Bool.and_eq_true] at h
    have : (l.takeWhile fun y => decide (y = x)).length = 0 := by simpa using h.1
    rw [this, T_len]; rfl
  · unfold stripped
    rw [hlo]
    show (Builtin.Str.strSub (T l) _ (T l).length).length = _
    rw [size_strSub _ _ _ (Nat.le_refl _), T_len]
theorem split_run (x : Nat) : ∀ l : List Nat, ∃ n r, l = List.replicate n x ++ r ∧ (l.takeWhile fun y => decide (y = x)).length = n ∧ r.head? ≠ some x
  | [] => ⟨0, [], rfl, rfl, by simp⟩
  | y :: l => by
    by_cases h : y = x
    · subst h
      obtain ⟨n, r, h1, h2, h3⟩ := split_run y l
      refine ⟨n + 1, r, by rw [List.replicate_succ, List.cons_append, ← h1], ?_, h3⟩
      rw [List.takeWhile_cons_of_pos (by simp), List.length_cons, h2]
    · refine ⟨0, y :: l, rfl, ?_, by simpa using h⟩
      rw [List.takeWhile_cons_of_neg (by simpa using h)]; rfl
variable {K : PySem.W.Frag} {c : Ks}
theorem rd__law_text : ∀ ds M Q E0, sp__law_text c ds M Q E0 → t__law_text c (bodyE K Q) (startD ["_law_one", "_law_parts", "_law_at", "_law_size", "_law_letter", "_law_text_here"] ds) M := by
  rintro ds M Q E0 ⟨w, rfl, hw, hz, q⟩
  unfold t__law_text
  walk_at "dl"
  refine ⟨Nat.zero_le _, fun f hf => ?_⟩
  refine wh_of (fun m env M' => ∃ p d1 d2 d3, p ≤ w.length ∧ m = w.length - p ∧ (∀ x, w[p]? = some x → (w.take p).getLast? ≠ some x) ∧ env = [some (.str (T w)), some (.ptr f), some (.int p), d1, d2, d3] ∧ M' = up M f (.lst (((runs (w.take p)).map fun r => runTxt r.1 r.2).map fun z => .str (T z)))) w.length
    ⟨0, none, none, none, Nat.zero_le _, rfl, fun x _ => by simp, rfl, rfl⟩ ?_
  rintro m env M' ⟨p, d1, d2, d3, hp, rfl, hx, rfl, rfl⟩ R hR
  walk_at "dl"
  rw [T_len]
  refine ⟨line (by omega), ?_⟩
  refine ite2 (fun e => ?_) (fun e => ?_)
  · have hlt : p < w.length := by have := of_decide_eq_true e; omega
    obtain ⟨x, hx0⟩ : ∃ x, w[p]? = some x := ⟨w[p], List.getElem?_eq_getElem hlt⟩
    have hxw : x ∈ w := List.mem_of_getElem? hx0
    obtain ⟨hx1, hx2⟩ := hw x hxw
    obtain ⟨n, r, h1, h2, h3⟩ := split_run x (w.drop p)
    have hn : n ≠ 0 := fun e0 => by
      subst e0
      rw [List.replicate_zero, List.nil_append] at h1
      rw [← h1, List.head?_drop] at h3
      exact h3 hx0
    have hnl : p + n ≤ w.length := by
      have := congrArg List.length h1
      rw [List.length_append, List.length_replicate, List.length_drop] at this
      omega
    have hat : atI (T w).cps.toList (p : Int) = some x := by rw [T_cps]; exact atI_nat hx0
    have esz : ((T (w.drop p)).length : Int) - ((Txt.lstripChars (T (w.drop p)) (T [x])).length : Nat) = (n : Int) := by
      rw [lstrip_len, T_len, h2]
      have := congrArg List.length h1
      rw [List.length_append, List.length_replicate] at this
      omega
    have elen : (Txt.lstripChars (T (w.drop p)) (T [x])).length ≤ w.length := by rw [lstrip_len, List.length_drop]; omega
    have ed : Str.ofString (toString (n : Int)) = T (dig n) := by unfold dig; rw [T_of]
    have hdl : (dig n).length ≤ 2 := by
      have : ∀ n < 100, (dig n).length ≤ 2 := by decide +kernel
      exact this n (by omega)
    have hlog : ((n : Int)).natAbs.log2 < 1920 := by
      have : ∀ n : Nat, n < 100 → ((n : Int)).natAbs.log2 < 1920 := by decide +kernel
      exact this n (by omega)
    obtain ⟨k, rfl⟩ : ∃ k, n = k + 1 := ⟨n - 1, by omega⟩
    have etk : w.take (p + (k + 1)) = w.take p ++ List.replicate (k + 1) x := by
      rw [List.take_add, h1]
      congr 1
      exact List.take_left' (by simp)
    have hR2 : ∀ d1 d2 d3 z, z = runTxt x (k + 1) → R [some (.str (T w)), some (.ptr f), some (.int ((p : Int) + ((k + 1 : Nat) : Int))), d1, d2, d3]
        (up M f (.lst ((((runs (w.take p)).map fun r => runTxt r.1 r.2).map fun z => D.str (T z)) ++ [.str (T z)]))) := fun d1 d2 d3 z ez => by
      refine hR (w.length - (p + (k + 1))) _ _ (by omega) ⟨p + (k + 1), d1, d2, d3, hnl, rfl, fun y hy => ?_, rfl, ?_⟩
      · rw [etk, List.replicate_succ', ← List.append_assoc, List.getLast?_concat]
        intro e0
        have e1 : x = y := Option.some.inj e0
        subst e1
        apply h3
        rw [← List.getElem?_drop, h1, List.getElem?_append_right (by simp), List.length_replicate, Nat.sub_self] at hy
        rw [List.head?_eq_getElem?]; exact hy
      · rw [etk, runs_rep (hx x hx0), List.map_append, List.map_append, ez]; rfl
    have hruns : (((runs (w.take p)).map fun r => runTxt r.1 r.2).map fun z => D.str (T z)).length < sizeLine := by
      rw [List.length_map, List.length_map]
      have := (runs_spec (w.take p)).1
      rw [List.length_take] at this
      exact lineT (by omega)
    rw [cutS_F w hp]
    refine ⟨line (by omega), by rw [T_len, List.length_drop]; exact line (by omega), line (by omega), line (by omega), x, hat, by rw [T_len, List.length_drop]; exact line (by omega), ?_⟩
    rw [T_one, esz, ed]
    refine ⟨line (by omega), line (by omega), x, hat, ?_⟩
    rw [lo1 hx2, T_one, T_one]
    refine ⟨by rw [T_len]; simp, hlog, by rw [T_len, T_len]; exact line (by simp only [List.length_singleton]; omega), line (by omega), x, hat, ?_⟩
    simp only [T_one, T_beq, T_app, T_len, List.cons_append, List.nil_append, List.append_nil, List.length_cons, List.length_nil]
    refine ite2 (fun e1 => ?_) (fun e1 => ?_)
    · have hne : ¬ [x] = [loC x] := by simpa using e1
      have hlo : ¬ isLo x = true := fun h => hne (by
        have := isLo_lt h
        unfold loC; rw [if_neg (by omega)])
      refine ⟨hlog, line (by omega), line (by omega), hruns, hR2 _ _ _ _ ?_⟩
      unfold runTxt; rw [if_neg hlo]
    · have heq : [x] = [loC x] := by
        have : ¬ (!decide ([x] = [loC x])) = true := e1
        simpa using this
      have hlx : loC x = x := (List.cons.inj heq).1.symm
      have hlo : isLo x = true := by rw [← hlx]; exact hx1
      rw [hlx]
      refine ite2 (fun e2 => ?_) (fun e2 => ?_)
      · have hk : k + 1 = 1 := by
          have : ((k + 1 : Nat) : Int) = 1 := by simpa using e2
          omega
        refine ⟨line (by omega), hruns, hR2 _ _ _ _ ?_⟩
        unfold runTxt; rw [if_pos hlo, if_pos hk]
      · have hk : ¬ k + 1 = 1 := fun h => e2 (by rw [h]; rfl)
        refine ⟨line (by omega), hruns, hR2 _ _ _ _ ?_⟩
        unfold runTxt; rw [if_pos hlo, if_neg hk]
  · have hpe : p = w.length := by
      have : ¬ ((p : Int) < (w.length : Int)) := fun h => e (decide_eq_true h)
      omega
    subst hpe
    rw [List.take_length]
    have hs := runs_spec w
    have hw2 : ∀ x ∈ w, x < 128 := fun x hx => (hw x hx).2
    have hT : ∀ r ∈ runs w, ∀ y ∈ runTxt r.1 r.2, y < 1114112 := fun r hr y hy => by
      have h1 := hs.2.1 r hr
      have h2 := hw2 _ h1.1
      have key : ∀ a < 128, ∀ b < 100, ∀ y ∈ runTxt a b, y < 1114112 := by decide +kernel
      exact key _ h2 _ (by omega) y hy
    refine ⟨Nat.zero_le _, ?_⟩
    rw [rEqW_p0 (n := 1) up_same (fun d hd => by
      obtain ⟨z, hz, rfl⟩ := List.mem_map.mp hd
      obtain ⟨r, hr, rfl⟩ := List.mem_map.mp hz
      rw [Pl]; exact strOk_T (hT r hr)) (by rw [List.length_map, List.length_map]; omega) (by decide)]
    walk_at "dl"
    have frz : ∀ z : Str, z = T (fmt w) → DL.Fin K Q (.str z) (up M f (.lst (((runs w).map fun r => runTxt r.1 r.2).map fun z => .str (T z)))) := fun z e => by
      rw [e]; exact Fin.drop (Sub.up Sub.refl hf) q
    by_cases hw0 : w = []
    · subst hw0
      exact frz _ rfl
    · rw [show (!(((runs w).map fun r => runTxt r.1 r.2).map fun z => D.str (T z)).isEmpty) = true by simp [runs_ne hw0], if_pos rfl]
      refine ⟨((runs w).map fun p => runTxt p.1 p.2).map T, by rw [List.map_map (f := T)]; rfl, ?_, ?_⟩
      · have h1 := sum_le_of (l := (((runs w).map fun p => runTxt p.1 p.2).map T).map (·.length)) (b := 5) (fun z hz => by
          obtain ⟨y, hy, rfl⟩ := List.mem_map.mp hz
          obtain ⟨y2, hy2, rfl⟩ := List.mem_map.mp hy
          obtain ⟨p, hp, rfl⟩ := List.mem_map.mp hy2
          rw [T_len]
          exact runTxt_len (by have := hs.2.1 p hp; omega))
        simp only [List.length_map] at h1 ⊢
        rw [T_len, List.length_singleton]
        omega
      · rw [join_sp]
        exact frz _ (by unfold fmt; rw [if_neg hw0])
end
end K09
namespace K09
open PySem PySem.Spec PyProof.Rows L2 DL PRE
local macro_rules | `(tactic| walk_at "dl") => `(tactic| simp only [exists_eq', exists_eq, List.take_nil, List.take_succ_cons, List.take_zero, decide_false, decide_true, dFld_ap, dSetF_ap, dAugF_ap, dMeth_ap, dMake_ap, dProp_ap, insOf_p, insOf_o, dNever_ap, bodyE_rt, bodyE_nx, dVar_ap, dC_ap, dOp_ap, dTB_ap, dTru_ap, dAnd_ap, dOr_ap, dNot_ap, dNotV_ap, dAndV_ap, dOrV_ap, dIf_ap, dIsN_ap, dNext_ap, dSeq_ap, dBreak_ap, dCont_ap, dDrop_ap, dRet_ap, dRetN_ap, dIfS_ap, dgName_ap, dgNil_ap, dgCons_ap, dgTup_ap, dgSub_ap, dAsg_ap, dPar_ap, dAug_ap, dNil_ap, dCons_ap, dTup_ap, dLst_ap, dLstM_ap, dCB_ap, dBM_ap, dBM0_ap, dCall_ap, dCallK_ap, dRev_s, dSl_ap, dPart_ap, dUn_ap, dChain_ap, dIsi_ap, dIsi2_ap, dIter_ap, dIterT_ap, dIterS_ap, dRng1_ap, dRng2_ap, rMulX_ii, rMulX_si, dFmt_ap, fmtD_s, fmtD_i, dJoined_ap, dJs_nil, dJs_cons, jStep_s, dCallK_ap, dNil_ap, rAdd_ii, rAdd_ss, rAdd_tt, rAdd_ll, rSub_ii, rInt2_ii, rNeg_i, rOrd_ii, rOrd_ss, rIadd_ii, rIadd_ss, rEqW_ii, rEqW_ss, rEqW_bb, rIn_ss, rIxD_l, rIxD_x, rIxD_t, rIxD_s, rIxD_p, lstOf_p, lstOf_l, lstOf_x, rSlD_s, rSlD_t, rSlD_l, rSlD_x, rLen_s, rLen_t, rLen_l, rLen_x, rLen_p, rAbs_i, rInt_i, rInt_b, rToListA_t, rToListA_l, rToListA_s, rToListM_t, rToListM_l, rToTup_t, rToTup_l, rToTup_p, rSum_ap, rAll_ap, rAny_ap, rStrN_i, rMax2_ii, rMin2_ii, rS0_ap, rS1_ap, tyD_s, tyD_p, tyD_l, rJoin_l, rJoin_p, rAppend_p, rPop_p, startD, wipeD, List.map_cons, List.map_nil, List.cons_append, List.nil_append, List.append_nil, List.length_cons, List.length_nil, List.getElem?_cons_zero, List.getElem?_cons_succ, List.set_cons_zero, List.set_cons_succ, List.replicate, Nat.reduceAdd, Nat.reduceSub, Nat.sub_zero, up_same, up_up, Bool.false_xor, Bool.true_xor, Bool.not_true, Bool.not_false, if_true, if_false, Bool.false_eq_true, and_true, true_and, ite_true, ite_false, reduceIte, reduceCtorEq, Option.some.injEq, exists_eq_left', exists_eq_left, rdM, fldS, fldK, fldA, putA, lkH1, lkH2, lkH3, lkH4, lkH5, lkH6, put0, put1, put2, x32, x45, x48, x49, x40, x91, x94, x9445, x0, xE, T_beq, T_app])
local macro_rules | `(tactic| walk_at "dlh") => `(tactic| simp only [exists_eq', exists_eq, List.take_nil, List.take_succ_cons, List.take_zero, decide_false, decide_true, dFld_ap, dSetF_ap, dAugF_ap, dMeth_ap, dMake_ap, dProp_ap, insOf_p, insOf_o, dNever_ap, bodyE_rt, bodyE_nx, dVar_ap, dC_ap, dOp_ap, dTB_ap, dTru_ap, dAnd_ap, dOr_ap, dNot_ap, dNotV_ap, dAndV_ap, dOrV_ap, dIf_ap, dIsN_ap, dNext_ap, dSeq_ap, dBreak_ap, dCont_ap, dDrop_ap, dRet_ap, dRetN_ap, dIfS_ap, dgName_ap, dgNil_ap, dgCons_ap, dgTup_ap, dgSub_ap, dAsg_ap, dPar_ap, dAug_ap, dNil_ap, dCons_ap, dTup_ap, dLst_ap, dLstM_ap, dCB_ap, dBM_ap, dBM0_ap, dCall_ap, dCallK_ap, dRev_s, dSl_ap, dPart_ap, dUn_ap, dChain_ap, dIsi_ap, dIsi2_ap, dIter_ap, dIterT_ap, dIterS_ap, dRng1_ap, dRng2_ap, rMulX_ii, rMulX_si, dFmt_ap, fmtD_s, fmtD_i, dJoined_ap, dJs_nil, dJs_cons, jStep_s, dCallK_ap, dNil_ap, rAdd_ii, rAdd_ss, rAdd_tt, rAdd_ll, rSub_ii, rInt2_ii, rNeg_i, rOrd_ii, rOrd_ss, rIadd_ii, rIadd_ss, rEqW_ii, rEqW_ss, rEqW_bb, rIn_ss, rIxD_l, rIxD_x, rIxD_t, rIxD_s, rIxD_p, lstOf_p, lstOf_l, lstOf_x, rSlD_s, rSlD_t, rSlD_l, rSlD_x, rLen_s, rLen_t, rLen_l, rLen_x, rLen_p, rAbs_i, rInt_i, rInt_b, rToListA_t, rToListA_l, rToListA_s, rToListM_t, rToListM_l, rToTup_t, rToTup_l, rToTup_p, rSum_ap, rAll_ap, rAny_ap, rStrN_i, rMax2_ii, rMin2_ii, rS0_ap, rS1_ap, tyD_s, tyD_p, tyD_l, rJoin_l, rJoin_p, rAppend_p, rPop_p, startD, wipeD, List.map_cons, List.map_nil, List.cons_append, List.nil_append, List.append_nil, List.length_cons, List.length_nil, List.getElem?_cons_zero, List.getElem?_cons_succ, List.set_cons_zero, List.set_cons_succ, List.replicate, Nat.reduceAdd, Nat.reduceSub, Nat.sub_zero, up_same, up_up, Bool.false_xor, Bool.true_xor, Bool.not_true, Bool.not_false, if_true, if_false, Bool.false_eq_true, and_true, true_and, ite_true, ite_false, reduceIte, reduceCtorEq, Option.some.injEq, exists_eq_left', exists_eq_left, rdM, fldS, fldK, fldA, putA, lkH1, lkH2, lkH3, lkH4, lkH5, lkH6, put0, put1, put2, x32, x45, x48, x49, x40, x91, x94, x9445, x0, xE, T_beq, T_app, *])
local macro_rules | `(tactic| walk_at "len") => `(tactic| (intro ds M Q E h; first | (obtain ⟨_, h1, _⟩ := h; subst h1; rfl) | (obtain ⟨_, _, h1, _⟩ := h; subst h1; rfl) | (obtain ⟨_, _, _, h1, _⟩ := h; subst h1; rfl) | (obtain ⟨_, _, _, _, h1, _⟩ := h; subst h1; rfl) | (obtain ⟨_, _, _, _, _, h1, _⟩ := h; subst h1; rfl) | (obtain ⟨_, _, _, _, _, _, h1, _⟩ := h; subst h1; rfl) | (obtain ⟨_, _, _, _, _, _, _, h1, _⟩ := h; subst h1; rfl) | (obtain ⟨_, _, _, _, _, _, _, _, h1, _⟩ := h; subst h1; rfl) | (obtain ⟨_, _, _, _, _, _, _, _, _, h1, _⟩ := h; subst h1; rfl)))
section
def toks (w : List Nat) : List Tok1 := if w = [] then [([], 1)] else (runs w).map fun p => ([loC p.1], if isLo p.1 = true then (p.2 : Int) else -(p.2 : Int))
abbrev Let (l w : List Nat) : Prop := ∀ x ∈ w, x < 128 ∧ isLo (loC x) = true ∧ swC (loC x) = (if isLo x = true then swC x else x) ∧ loC x ∈ l
theorem enc_run {x n : Nat} (h : isLo (loC x) = true) (hn : 1 ≤ n) : encTok ([loC x], if isLo x = true then (n : Int) else -(n : Int)) = runTxt x n := by
  unfold encTok runTxt numTxt
  rw [if_neg (by simp)]
  by_cases hl : isLo x = true
  · have hx : loC x = x := by have := isLo_lt hl; unfold loC; rw [if_neg (by omega)]
    simp only [hl, if_true, hx]
    by_cases h1 : n = 1
    · subst h1; simp
    · rw [if_neg (by omega), if_neg h1, if_neg (by omega)]; simp
  · simp only [hl, if_false, Bool.false_eq_true]
    rw [if_neg (by omega), if_pos (by omega)]
    rw [show (-(-(n : Int))).toNat = n by omega]; rfl
theorem fmt_toks {l w : List Nat} (h : Let l w) : fmt w = joinSp ((toks w).map encTok) := by
  unfold fmt toks
  split
  · rfl
  · rw [List.map_map]
    congr 1
    apply List.map_congr_left
    intro p hp
    have h1 := (runs_spec w).2.1 p hp
    exact (enc_run (h p.1 h1.1).2.1 h1.2.1).symm
theorem runs_back (w : List Nat) : (runs w).flatMap (fun p => List.replicate p.2 p.1) = w := by
  induction w using snoc_ind with
  | h0 => rfl
  | h1 l x ih =>
    rw [runs_snoc]
    rcases list_last (runs l) with e | ⟨acc, ⟨d, k⟩, e⟩
    · rw [e] at ih ⊢
      rw [runStep_nil, ← ih]; rfl
    · rw [e] at ih ⊢
      rw [List.flatMap_append] at ih
      rw [runStep_last]
      split
      · rename_i hd
        subst hd
        rw [List.flatMap_append]
        simp only [List.flatMap_cons, List.flatMap_nil, List.append_nil] at ih ⊢
        rw [List.replicate_succ', ← List.append_assoc, ih]
      · rw [List.flatMap_append, List.flatMap_append, ih]; rfl
theorem rep_flat (x : Nat) : ∀ n : Nat, (List.replicate n [x]).flatten = List.replicate n x
  | 0 => rfl
  | n + 1 => by rw [List.replicate_succ, List.flatten_cons, rep_flat x n]; rfl
theorem toks_back {l w : List Nat} (h : Let l w) : (toks w).flatMap tokWord = w := by
  unfold toks
  split
  · rename_i e; rw [e]; rfl
  · rw [List.flatMap_map]
    refine Eq.trans ?_ (runs_back w)
    have key : ∀ p ∈ runs w, tokWord ([loC p.1], if isLo p.1 = true then (p.2 : Int) else -(p.2 : Int)) = List.replicate p.2 p.1 := by
      intro p hp
      have h1 := (runs_spec w).2.1 p hp
      have h2 := h p.1 h1.1
      unfold tokWord
      by_cases hl : isLo p.1 = true
      · have hx : loC p.1 = p.1 := by have := isLo_lt hl; unfold loC; rw [if_neg (by omega)]
        simp only [hl, if_true, hx]
        rw [if_pos (by omega), show ((p.2 : Int)).toNat = p.2 by omega, rep_flat]
      · simp only [hl, if_false, Bool.false_eq_true]
        rw [if_neg (by omega), show (-(-(p.2 : Int))).toNat = p.2 by omega]
        have h3 := h2.2.2.1
        rw [if_neg hl] at h3
        show (List.replicate p.2 [swC (loC p.1)]).flatten = _
        rw [h3, rep_flat]
    clear h
    generalize runs w = rs at key
    induction rs with
    | nil => rfl
    | cons p r ih => rw [List.flatMap_cons, List.flatMap_cons, key p List.mem_cons_self, ih fun q hq => key q (List.mem_cons_of_mem _ hq)]
theorem toks_ok {l w : List Nat} (h : Let l w) (hz : w.length ≤ 99) : ∀ t ∈ toks w, TokOk (chars l) t := by
  intro t ht
  unfold toks at ht
  split at ht
  · rw [List.mem_singleton] at ht; exact .inl ht
  · obtain ⟨p, hp, rfl⟩ := List.mem_map.mp ht
    have h1 := (runs_spec w).2.1 p hp
    have h2 := h p.1 h1.1
    refine .inr ⟨loC p.1, rfl, h2.2.1, List.mem_flatMap.mpr ⟨loC p.1, h2.2.2.2, by simp⟩, ?_, ?_, ?_⟩ <;> dsimp only <;> split <;> omega
theorem toks_small {l w : List Nat} (h : Let l w) (hz : w.length ≤ 99) : Small (toks w) := by
  refine ⟨?_, ?_, ?_⟩
  · unfold toks
    split
    · decide
    · rw [List.length_map]; have := (runs_spec w).1; omega
  · rw [← words_len, toks_back h]; omega
  · intro t ht
    unfold toks at ht
    split at ht
    · rw [List.mem_singleton] at ht; subst ht; exact ⟨by decide, by decide, by decide, by decide, fun _ h => absurd h List.not_mem_nil⟩
    · obtain ⟨p, hp, rfl⟩ := List.mem_map.mp ht
      have h1 := (runs_spec w).2.1 p hp
      have h2 := h p.1 h1.1
      have h3 := isLo_lt h2.2.1
      refine ⟨?_, ?_, ?_, by simp, fun x hx => ?_⟩
      · dsimp only; split <;> omega
      · dsimp only; split <;> omega
      · dsimp only; split <;> omega
      · have : x = loC p.1 := by simpa using hx
        omega
theorem sgn_let {l w : List Nat} (hl : ∀ c ∈ l, isLo c = true) (hw : ∀ c ∈ w, c ∈ sgn l) : Let l w := fun x hx => by
  obtain ⟨c, hc, hx2⟩ := List.mem_flatMap.mp (hw x hx)
  have hb := isLo_lt (hl c hc)
  have key : ∀ c < 123, 97 ≤ c → (loC c = c ∧ loC (c - 32) = c ∧ isLo c = true ∧ isLo (c - 32) = false ∧ swC c = c - 32) := by decide +kernel
  obtain ⟨k1, k2, k3, k4, k5⟩ := key c (by omega) hb.1
  rcases List.mem_cons.mp hx2 with rfl | hx2
  · exact ⟨by omega, by rw [k1]; exact k3, by rw [k1, if_pos k3], by rw [k1]; exact hc⟩
  · rw [List.mem_singleton] at hx2
    subst hx2
    exact ⟨by omega, by rw [k2]; exact k3, by rw [k2, k5, if_neg (by rw [k4]; exact Bool.false_ne_true)], by rw [k2]; exact hc⟩
theorem fmt_lt {l w : List Nat} (h : Let l w) (hz : w.length ≤ 99) : ∀ y ∈ fmt w, y < 1114112 := by
  have key : ∀ a < 128, ∀ b < 100, ∀ y ∈ runTxt a b, y < 1114112 := by decide +kernel
  have hj : ∀ ls : List (List Nat), (∀ l ∈ ls, ∀ y ∈ l, y < 1114112) → ∀ y ∈ joinSp ls, y < 1114112 := by
    intro ls
    induction ls with
    | nil => intro _ y hy; cases hy
    | cons l r ih =>
      intro hl y hy
      cases r with
      | nil => exact hl l List.mem_cons_self y hy
      | cons m r =>
        rcases List.mem_append.mp (show y ∈ l ++ 32 :: joinSp (m :: r) from hy) with hy | hy
        · exact hl l List.mem_cons_self y hy
        · rcases List.mem_cons.mp hy with rfl | hy
          · decide
          · exact ih (fun l' hl' => hl l' (List.mem_cons_of_mem _ hl')) y hy
  unfold fmt
  split
  · intro y hy; rw [List.mem_singleton] at hy; subst hy; decide
  · refine hj _ fun z hz2 => ?_
    obtain ⟨p, hp, rfl⟩ := List.mem_map.mp hz2
    have h1 := (runs_spec w).2.1 p hp
    exact key _ (h p.1 h1.1).1 _ (by omega)
theorem fmt_len {w : List Nat} (hz : w.length ≤ 99) : (fmt w).length ≤ 80000 := by
  have hj : ∀ ls : List (List Nat), (∀ l ∈ ls, l.length ≤ 5) → (joinSp ls).length ≤ 6 * ls.length := by
    intro ls
    induction ls with
    | nil => intro _; exact Nat.le_refl _
    | cons l r ih =>
      intro hl
      have h1 := hl l List.mem_cons_self
      have h2 := ih fun l' hl' => hl l' (List.mem_cons_of_mem _ hl')
      cases r with
      | nil => show l.length ≤ _; simp only [List.length_cons, List.length_nil]; omega
      | cons m r =>
        show (l ++ 32 :: joinSp (m :: r)).length ≤ _
        rw [List.length_append, List.length_cons, List.length_cons (a := l)]
        omega
  unfold fmt
  split
  · decide
  · have h0 := runs_spec w
    have := hj ((runs w).map fun p => runTxt p.1 p.2) fun z hz2 => by
      obtain ⟨p, hp, rfl⟩ := List.mem_map.mp hz2
      exact runTxt_len (by have := h0.2.1 p hp; omega)
    rw [List.length_map] at this
    have := h0.1
    omega
variable {K : PySem.W.Frag} {c : Ks}
theorem rd_law : ∀ ds M Q E0, sp_law c ds M Q E0 → t_law c (bodyE K Q) (startD ["_law_script", "_law_box", "_law_turn", "_law_letters_here", "_law_first", "_law_one", "_law_sign"] ds) M := by
  rintro ds M Q E0 ⟨ms, rfl, hz, q⟩
  unfold t_law
  walk_at "dl"
  refine ⟨ms, rfl, hz, fun a mo ha hmo => ?_⟩
  dsimp only
  rw [dFor_un]
  walk_at "dl"
  refine ⟨by decide, ?_⟩
  refine frB_pre (xs := List.range (5 : Int).toNat) (fun i => D.int (0 + (i : Nat))) (fun _ env M' => ∃ mo' d2 d3 d4 d5 d6, BoxOk mo' ∧ M' = up M a mo' ∧ env = [some (.lsx (ms.map D.int)), some (.ptr a), d2, d3, d4, d5, d6]) ⟨mo, _, _, _, _, _, hmo, rfl, rfl⟩ (fun _ _ _ _ => True.intro) ?_ ?_
  · rintro pre x post env M' e ⟨mo', d2, d3, d4, d5, d6, hb, rfl, rfl⟩ R hR
    walk_at "dl"
    refine ⟨a, 3, mo', rfl, by decide, by decide, up_same, hb, fun r mo2 hr0 hr1 hb2 => ?_⟩
    obtain ⟨n, rfl⟩ : ∃ n : Nat, r = n := ⟨r.toNat, by omega⟩
    walk_at "dl"
    refine ⟨a, 1 + n, mo2, by simp, by omega, up_same, hb2, fun l mo3 hl hln hb3 => ?_⟩
    walk_at "dl"
    refine ⟨a, l, 5, mo3, rfl, hl.isLo, by omega, by omega, by decide, up_same, hb3, fun w0 mo4 hw1 hw2 hb4 => ?_⟩
    walk_at "dl"
    rw [dLc_un]
    walk_at "dl"
    rw [sgs_T]
    refine lcB_st (xs := w0) (fun c => D.str ⟨#[c]⟩) (fun pre acc M' => ∃ (ps : List (List Nat)) (mo5 : MO), acc = ps.map (fun z => D.str (T z)) ∧ ps.length = pre.length ∧ ps.length ≤ 5 ∧ (∀ z ∈ ps, z.length ≤ 12 ∧ ∀ c ∈ z, c ∈ sgn l) ∧ M' = up M a mo5 ∧ BoxOk mo5) ?_ (fun _ _ _ _ => True.intro) ?_ ?_ ?_
    · exact ⟨[], mo4, rfl, rfl, by decide, fun _ h => absurd h List.not_mem_nil, rfl, hb4⟩
    · rintro pre acc M' ⟨ps, mo5, rfl, _, h, _⟩
      rw [List.length_map]; exact lineT (by omega)
    · rintro pre x post acc M' e ⟨ps, mo5, rfl, h1, h2, h3, rfl, hb5⟩ R hR
      have hpre : pre.length < 5 := by
        have := congrArg List.length e
        rw [List.length_append, List.length_cons] at this; omega
      have hx : x ∈ sgn l := hw2 x (by rw [e]; simp)
      walk_at "dl"
      refine ⟨line (by decide), a, _, mo5, rfl, by decide, by decide, up_same, hb5, fun d mo6 hd hb6 => ?_⟩
      have hd2 : ∃ k : Nat, k ≤ 12 ∧ d = .int k := by
        simp only [List.mem_cons, List.not_mem_nil, or_false] at hd
        rcases hd with rfl | rfl | rfl | rfl
        · exact ⟨1, by decide, rfl⟩
        · exact ⟨1, by decide, rfl⟩
        · exact ⟨2, by decide, rfl⟩
        · exact ⟨12, by decide, rfl⟩
      obtain ⟨k, hk, rfl⟩ := hd2
      rw [T_one]
      walk_at "dl"
      refine ⟨mulOk_T (by omega) (by omega) (by simp) (by simp; omega), ?_⟩
      rw [mul_T, show ((k : Int)).toNat = k by omega, rep_flat]
      refine hR _ _ ⟨ps ++ [List.replicate k x], mo6, by simp, by simp [h1], by simp; omega, ?_, rfl, hb6⟩
      intro z hz
      rcases List.mem_append.mp hz with hz | hz
      · exact h3 z hz
      · rw [List.mem_singleton] at hz; subst hz
        refine ⟨by simp; omega, fun c hc => ?_⟩
        rw [List.mem_replicate] at hc
        rw [hc.2]; exact hx
    · rintro acc M' ⟨ps, mo5, rfl, h1, h2, h3, rfl, hb5⟩
      walk_at "dl"
      have hsum := sum_le_of (l := (ps.map T).map (·.length)) (b := 12) (fun z hz => by
        obtain ⟨y, hy, rfl⟩ := List.mem_map.mp hz
        obtain ⟨y2, hy2, rfl⟩ := List.mem_map.mp hy
        rw [T_len]; exact (h3 y2 hy2).1)
      simp only [List.length_map] at hsum
      refine ⟨ps.map T, by rw [List.map_map]; rfl, by rw [List.length_map, T_len, List.length_nil]; omega, ?_⟩
      have hjoin : Txt.join (T []) (ps.map T) = T ps.flatten := by rw [← x0]; exact join_T ps
      rw [hjoin]
      have hwl : ps.flatten.length ≤ 99 := by
        rw [List.length_flatten]
        have e5 : (ps.map List.length) = (ps.map T).map (·.length) := by rw [List.map_map]; exact List.map_congr_left fun z _ => (T_len z).symm
        rw [e5]; omega
      have hwm : ∀ c ∈ ps.flatten, c ∈ sgn l := fun c hc => by
        obtain ⟨z, hz, hc⟩ := List.mem_flatten.mp hc
        exact (h3 z hz).2 c hc
      generalize ps.flatten = w at hwl hwm ⊢
      have hlet := sgn_let hl.isLo hwm
      have hll : ∀ x ∈ l, x < 128 := fun x hx => by have := isLo_lt (hl.isLo x hx); omega
      refine ⟨w, rfl, fun x hx => (hlet x hx).1, hwl, w, rfl, fun x hx => (hlet x hx).1, hwl, ?_⟩
      refine ⟨fmt w, l, toks w, rfl, hll, by omega, fmt_len hwl, ?_, Nat.le_trans (toks_small hlet hwl).1 (by decide), toks_ok hlet hwl, fmt_toks hlet, toks_small hlet hwl, ?_⟩
      · unfold toks
        split
        · simp
        · rename_i hne; simpa using runs_ne hne
      rw [toks_back hlet]
      refine ⟨line (by decide), w, rfl, fun x hx => ⟨(hlet x hx).2.1, (hlet x hx).1⟩, hwl, line (by decide), _, rfl, ?_, ?_⟩
      · simp [Pl, strOk_T (fmt_lt hlet hwl), strOk_T (l := w) (fun x hx => by have := (hlet x hx).1; omega)]
      · exact hR _ _ ⟨mo5, _, _, _, _, _, hb5, rfl, rfl⟩
  · rintro env M' ⟨mo', d2, d3, d4, d5, d6, hb, rfl, rfl⟩
    walk_at "dl"
    have f1 : T (fmt [97, 97, 66, 66, 66, 97]) = Str.ofString "a^2 b^-3 a" := by decide +kernel
    refine ⟨[97, 97, 66, 66, 66, 97], by rw [show Str.ofString "aaBBBa" = T [97, 97, 66, 66, 66, 97] by decide +kernel], by decide, by decide, ?_⟩
    rw [f1]
    walk_at "dl"
    rw [show (Str.ofString "a^2 b^-3 a" == Str.ofString "a^2 b^-3 a") = true by simp, if_pos rfl]
    refine ⟨[], rfl, by decide, by decide, ?_⟩
    walk_at "dl"
    exact Fin.drop (Sub.up Sub.refl ha) q
end
end K09
namespace K09
open PySem PySem.Spec PyProof.Rows L2 DL PRE
local macro_rules | `(tactic| walk_at "dl") => `(tactic| simp only [exists_eq', exists_eq, List.take_nil, List.take_succ_cons, List.take_zero, decide_false, decide_true, dFld_ap, dSetF_ap, dAugF_ap, dMeth_ap, dMake_ap, dProp_ap, insOf_p, insOf_o, dNever_ap, bodyE_rt, bodyE_nx, dVar_ap, dC_ap, dOp_ap, dTB_ap, dTru_ap, dAnd_ap, dOr_ap, dNot_ap, dNotV_ap, dAndV_ap, dOrV_ap, dIf_ap, dIsN_ap, dNext_ap, dSeq_ap, dBreak_ap, dCont_ap, dDrop_ap, dRet_ap, dRetN_ap, dIfS_ap, dgName_ap, dgNil_ap, dgCons_ap, dgTup_ap, dgSub_ap, dAsg_ap, dPar_ap, dAug_ap, dNil_ap, dCons_ap, dTup_ap, dLst_ap, dLstM_ap, dCB_ap, dBM_ap, dBM0_ap, dCall_ap, dCallK_ap, dRev_s, dSl_ap, dPart_ap, dUn_ap, dChain_ap, dIsi_ap, dIsi2_ap, dIter_ap, dIterT_ap, dIterS_ap, dRng1_ap, dRng2_ap, rMulX_ii, rMulX_si, dFmt_ap, fmtD_s, fmtD_i, dJoined_ap, dJs_nil, dJs_cons, jStep_s, dCallK_ap, dNil_ap, rAdd_ii, rAdd_ss, rAdd_tt, rAdd_ll, rSub_ii, rInt2_ii, rNeg_i, rOrd_ii, rOrd_ss, rIadd_ii, rIadd_ss, rEqW_ii, rEqW_ss, rEqW_bb, rIn_ss, rIxD_l, rIxD_x, rIxD_t, rIxD_s, rIxD_p, lstOf_p, lstOf_l, lstOf_x, rSlD_s, rSlD_t, rSlD_l, rSlD_x, rLen_s, rLen_t, rLen_l, rLen_x, rLen_p, rAbs_i, rInt_i, rInt_b, rToListA_t, rToListA_l, rToListA_s, rToListM_t, rToListM_l, rToTup_t, rToTup_l, rToTup_p, rSum_ap, rAll_ap, rAny_ap, rStrN_i, rMax2_ii, rMin2_ii, rS0_ap, rS1_ap, tyD_s, tyD_p, tyD_l, rJoin_l, rJoin_p, rAppend_p, rPop_p, startD, wipeD, List.map_cons, List.map_nil, List.cons_append, List.nil_append, List.append_nil, List.length_cons, List.length_nil, List.getElem?_cons_zero, List.getElem?_cons_succ, List.set_cons_zero, List.set_cons_succ, List.replicate, Nat.reduceAdd, Nat.reduceSub, Nat.sub_zero, up_same, up_up, Bool.false_xor, Bool.true_xor, Bool.not_true, Bool.not_false, if_true, if_false, Bool.false_eq_true, and_true, true_and, ite_true, ite_false, reduceIte, reduceCtorEq, Option.some.injEq, exists_eq_left', exists_eq_left, rdM, fldS, fldK, fldA, putA, lkH1, lkH2, lkH3, lkH4, lkH5, lkH6, put0, put1, put2, x32, x45, x48, x49, x40, x91, x94, x9445, x0, xE, T_beq, T_app])
local macro_rules | `(tactic| walk_at "dlh") => `(tactic| simp only [exists_eq', exists_eq, List.take_nil, List.take_succ_cons, List.take_zero, decide_false, decide_true, dFld_ap, dSetF_ap, dAugF_ap, dMeth_ap, dMake_ap, dProp_ap, insOf_p, insOf_o, dNever_ap, bodyE_rt, bodyE_nx, dVar_ap, dC_ap, dOp_ap, dTB_ap, dTru_ap, dAnd_ap, dOr_ap, dNot_ap, dNotV_ap, dAndV_ap, dOrV_ap, dIf_ap, dIsN_ap, dNext_ap, dSeq_ap, dBreak_ap, dCont_ap, dDrop_ap, dRet_ap, dRetN_ap, dIfS_ap, dgName_ap, dgNil_ap, dgCons_ap, dgTup_ap, dgSub_ap, dAsg_ap, dPar_ap, dAug_ap, dNil_ap, dCons_ap, dTup_ap, dLst_ap, dLstM_ap, dCB_ap, dBM_ap, dBM0_ap, dCall_ap, dCallK_ap, dRev_s, dSl_ap, dPart_ap, dUn_ap, dChain_ap, dIsi_ap, dIsi2_ap, dIter_ap, dIterT_ap, dIterS_ap, dRng1_ap, dRng2_ap, rMulX_ii, rMulX_si, dFmt_ap, fmtD_s, fmtD_i, dJoined_ap, dJs_nil, dJs_cons, jStep_s, dCallK_ap, dNil_ap, rAdd_ii, rAdd_ss, rAdd_tt, rAdd_ll, rSub_ii, rInt2_ii, rNeg_i, rOrd_ii, rOrd_ss, rIadd_ii, rIadd_ss, rEqW_ii, rEqW_ss, rEqW_bb, rIn_ss, rIxD_l, rIxD_x, rIxD_t, rIxD_s, rIxD_p, lstOf_p, lstOf_l, lstOf_x, rSlD_s, rSlD_t, rSlD_l, rSlD_x, rLen_s, rLen_t, rLen_l, rLen_x, rLen_p, rAbs_i, rInt_i, rInt_b, rToListA_t, rToListA_l, rToListA_s, rToListM_t, rToListM_l, rToTup_t, rToTup_l, rToTup_p, rSum_ap, rAll_ap, rAny_ap, rStrN_i, rMax2_ii, rMin2_ii, rS0_ap, rS1_ap, tyD_s, tyD_p, tyD_l, rJoin_l, rJoin_p, rAppend_p, rPop_p, startD, wipeD, List.map_cons, List.map_nil, List.cons_append, List.nil_append, List.append_nil, List.length_cons, List.length_nil, List.getElem?_cons_zero, List.getElem?_cons_succ, List.set_cons_zero, List.set_cons_succ, List.replicate, Nat.reduceAdd, Nat.reduceSub, Nat.sub_zero, up_same, up_up, Bool.false_xor, Bool.true_xor, Bool.not_true, Bool.not_false, if_true, if_false, Bool.false_eq_true, and_true, true_and, ite_true, ite_false, reduceIte, reduceCtorEq, Option.some.injEq, exists_eq_left', exists_eq_left, rdM, fldS, fldK, fldA, putA, lkH1, lkH2, lkH3, lkH4, lkH5, lkH6, put0, put1, put2, x32, x45, x48, x49, x40, x91, x94, x9445, x0, xE, T_beq, T_app, *])
local macro_rules | `(tactic| walk_at "len") => `(tactic| (intro ds M Q E h; first | (obtain ⟨_, h1, _⟩ := h; subst h1; rfl) | (obtain ⟨_, _, h1, _⟩ := h; subst h1; rfl) | (obtain ⟨_, _, _, h1, _⟩ := h; subst h1; rfl) | (obtain ⟨_, _, _, _, h1, _⟩ := h; subst h1; rfl) | (obtain ⟨_, _, _, _, _, h1, _⟩ := h; subst h1; rfl) | (obtain ⟨_, _, _, _, _, _, h1, _⟩ := h; subst h1; rfl) | (obtain ⟨_, _, _, _, _, _, _, h1, _⟩ := h; subst h1; rfl) | (obtain ⟨_, _, _, _, _, _, _, _, h1, _⟩ := h; subst h1; rfl) | (obtain ⟨_, _, _, _, _, _, _, _, _, h1, _⟩ := h; subst h1; rfl)))
def D_swapped : He.DefD := ⟨("swapped", none), "swapped", "swapped", defArgs s_swapped, defBody s_swapped, defScope s_swapped, [], []⟩
def D_opposite : He.DefD := ⟨("opposite", none), "opposite", "opposite", defArgs s_opposite, defBody s_opposite, defScope s_opposite, [], []⟩
def D_characters : He.DefD := ⟨("characters", none), "characters", "characters", defArgs s_characters, defBody s_characters, defScope s_characters, [], []⟩
def D_Reader___init__ : He.DefD := ⟨("Reader", some "__init__"), "__init__", "Reader.__init__", defArgs s_Reader___init__, defBody s_Reader___init__, defScope s_Reader___init__, [], []⟩
def D_Reader_here : He.DefD := ⟨("Reader", some "here"), "here", "Reader.here", defArgs s_Reader_here, defBody s_Reader_here, defScope s_Reader_here, [], []⟩
def D_Reader_skip : He.DefD := ⟨("Reader", some "skip"), "skip", "Reader.skip", defArgs s_Reader_skip, defBody s_Reader_skip, defScope s_Reader_skip, [], []⟩
def D_Reader_end_digits : He.DefD := ⟨("Reader", some "end_digits"), "end_digits", "Reader.end_digits", defArgs s_Reader_end_digits, defBody s_Reader_end_digits, defScope s_Reader_end_digits, [], []⟩
def D_Reader_exponent : He.DefD := ⟨("Reader", some "exponent"), "exponent", "Reader.exponent", defArgs s_Reader_exponent, defBody s_Reader_exponent, defScope s_Reader_exponent, [], []⟩
def D_Reader_atom : He.DefD := ⟨("Reader", some "atom"), "atom", "Reader.atom", defArgs s_Reader_atom, defBody s_Reader_atom, defScope s_Reader_atom, [], []⟩
def D_Reader_phrase : He.DefD := ⟨("Reader", some "phrase"), "phrase", "Reader.phrase", defArgs s_Reader_phrase, defBody s_Reader_phrase, defScope s_Reader_phrase, [], []⟩
def D_atom_length : He.DefD := ⟨("atom_length", none), "atom_length", "atom_length", defArgs s_atom_length, defBody s_atom_length, defScope s_atom_length, [], []⟩
def D_length_of : He.DefD := ⟨("length_of", none), "length_of", "length_of", defArgs s_length_of, defBody s_length_of, defScope s_length_of, [], []⟩
def D_atom_word : He.DefD := ⟨("atom_word", none), "atom_word", "atom_word", defArgs s_atom_word, defBody s_atom_word, defScope s_atom_word, [], []⟩
def D_word_of_factors : He.DefD := ⟨("word_of_factors", none), "word_of_factors", "word_of_factors", defArgs s_word_of_factors, defBody s_word_of_factors, defScope s_word_of_factors, [], []⟩
def D_read_factors : He.DefD := ⟨("read_factors", none), "read_factors", "read_factors", defArgs s_read_factors, defBody s_read_factors, defScope s_read_factors, [], []⟩
def D_short_word : He.DefD := ⟨("short_word", none), "short_word", "short_word", defArgs s_short_word, defBody s_short_word, defScope s_short_word, [], []⟩
def D_read_word : He.DefD := ⟨("read_word", none), "read_word", "read_word", defArgs s_read_word, defBody s_read_word, defScope s_read_word, [], []⟩
def D_run_text : He.DefD := ⟨("run_text", none), "run_text", "run_text", defArgs s_run_text, defBody s_run_text, defScope s_run_text, [], []⟩
def D_format_word : He.DefD := ⟨("format_word", none), "format_word", "format_word", defArgs s_format_word, defBody s_format_word, defScope s_format_word, [], []⟩
def D__law_begin : He.DefD := ⟨("_law_begin", none), "_law_begin", "_law_begin", defArgs s__law_begin, defBody s__law_begin, defScope s__law_begin, [], []⟩
def D__law_draw : He.DefD := ⟨("_law_draw", none), "_law_draw", "_law_draw", defArgs s__law_draw, defBody s__law_draw, defScope s__law_draw, [], []⟩
def D__law_any : He.DefD := ⟨("_law_any", none), "_law_any", "_law_any", defArgs s__law_any, defBody s__law_any, defScope s__law_any, [], []⟩
def D__law_same : He.DefD := ⟨("_law_same", none), "_law_same", "_law_same", defArgs s__law_same, defBody s__law_same, defScope s__law_same, [], []⟩
def D__law_letters : He.DefD := ⟨("_law_letters", none), "_law_letters", "_law_letters", defArgs s__law_letters, defBody s__law_letters, defScope s__law_letters, [], []⟩
def D__law_signs : He.DefD := ⟨("_law_signs", none), "_law_signs", "_law_signs", defArgs s__law_signs, defBody s__law_signs, defScope s__law_signs, [], []⟩
def D__law_some_word : He.DefD := ⟨("_law_some_word", none), "_law_some_word", "_law_some_word", defArgs s__law_some_word, defBody s__law_some_word, defScope s__law_some_word, [], []⟩
def D__law_text : He.DefD := ⟨("_law_text", none), "_law_text", "_law_text", defArgs s__law_text, defBody s__law_text, defScope s__law_text, [], []⟩
def D_law : He.DefD := ⟨("law", none), "law", "law", defArgs s_law, defBody s_law, defScope s_law, [], []⟩
def fns : List He.DefD := [D_swapped, D_opposite, D_characters, D_Reader___init__, D_Reader_here, D_Reader_skip, D_Reader_end_digits, D_Reader_exponent, D_Reader_atom, D_Reader_phrase, D_atom_length, D_length_of, D_atom_word, D_word_of_factors, D_read_factors, D_short_word, D_read_word, D_run_text, D_format_word, D__law_begin, D__law_draw, D__law_any, D__law_same, D__law_letters, D__law_signs, D__law_some_word, D__law_text, D_law]
def nms0 : List Str := ["TownError", "ParseError", "TooLong", "LOWER", "swapped", "opposite", "characters", "MOST_LENGTH", "MOST_DEEP", "DIGITS", "Reader", "atom_length", "length_of", "atom_word", "word_of_factors", "read_factors", "short_word", "read_word", "run_text", "format_word", "_law_begin", "_law_draw", "_law_any", "_law_same", "_law_letters", "_law_signs", "_law_some_word", "_law_text"]
def nms : List Str := nms0
abbrev ks (K : PySem.W.Frag) : Ks := ⟨He.ga K "Reader"⟩
def fas0 : List He.Fa := [.free "len", .free "int", .free "range", .free "list", .free "tuple", .free "str", .free "bool", .free "abs", .free "sum", .free "all", .free "any", .free "max", .free "min", .free "sorted", .free "zip", .free "enumerate", .free "isinstance", .free "repr", .free "dict", .free "super", .free "type", .str "LOWER" "abcdefghijklmnopqrstuvwxyz", .str "DIGITS" "0123456789", .int "MOST_LENGTH" 400, .int "MOST_DEEP" 6]
def fas1 : List He.Fa := [.noat "Reader" "at", .noat "Reader" "known", .noat "Reader" "signs", .cls "Reader", .glo "swapped", .glo "opposite", .glo "characters", .mkr "Reader", .glo "Reader", .meth "Reader" "here", .meth "Reader" "skip", .meth "Reader" "end_digits", .meth "Reader" "exponent", .meth "Reader" "atom", .meth "Reader" "phrase", .glo "atom_length", .glo "length_of", .glo "atom_word", .glo "word_of_factors", .glo "read_factors", .glo "short_word", .glo "read_word", .glo "run_text", .glo "format_word", .glo "_law_begin"]
def fas2 : List He.Fa := [.glo "_law_draw", .glo "_law_any", .glo "_law_same", .glo "_law_letters", .glo "_law_signs", .glo "_law_some_word", .glo "_law_text", .glo "law"]
def fas : List He.Fa := fas0 ++ fas1 ++ fas2
abbrev Rw : PySem.W.OpenRow := PySem.W.OpenLaw.row PySem.Challenge.rw_roundswap_k09_texts_of_words
abbrev hk : PySem.W.Hook := He.hookD 5 fas fns
def ob (s : PySem.W.SharedT) : He.AlD := He.obsDG 5 fas fns (HandSHeadRun.getT s)
theorem ob_eq (s : PySem.W.SharedT) : ob s = hk.obs s.abs := He.obsDG_eq (HandSHeadRun.getT_eq s)
theorem run (w : World) : HandSHeadRun.RunEq Rw (PySem.W.view Rw.prog [32]) hk ob 20000 nms w := by
  intro os
  kernel_rfl
theorem facts {P : Program} {w : World} {K : PySem.W.Frag} {h : Heap} {mg : Str → Option Value} {f : Addr} (X : K.In h) (G : h.Ns mainGlobals mg) (hfa : mg ("law" : Str) = some (.ref f)) (c : He.SaysD fas fns K) :
    ∃ fd : FuncData, (∀ (s : Shared) (v : Value), BindsTo s fd ⟨[v], []⟩ [("_law_script", v)]) ∧ ∀ base : Heap, K.In base → base.Ns mainGlobals mg → FnOk P w K mg base CX0 7 f fd ["_law_script"] (lSp K (sp_law (ks K))) := by
  obtain ⟨fd0, F0⟩ := c.def_ 27 (d := D_law) rfl
  have e := hfa.symm.trans (He.glo_ok X G (c.fact 57 (f := .glo "law") rfl))
  cases e
  have b := FunD.bindsA (ps := ["_law_script"]) F0 fun _ _ _ _ _ _ us hl => match us, hl with | [_], _ => rfl
  refine ⟨fd0, fun s v => b s [v] rfl, fun base _ _ => ?_⟩
  have B : NB mg := ⟨He.free_ok X G (c.fact 0 (f := .free "len") rfl), He.free_ok X G (c.fact 1 (f := .free "int") rfl), He.free_ok X G (c.fact 2 (f := .free "range") rfl), He.free_ok X G (c.fact 3 (f := .free "list") rfl), He.free_ok X G (c.fact 4 (f := .free "tuple") rfl), He.free_ok X G (c.fact 5 (f := .free "str") rfl), He.free_ok X G (c.fact 6 (f := .free "bool") rfl), He.free_ok X G (c.fact 7 (f := .free "abs") rfl), He.free_ok X G (c.fact 8 (f := .free "sum") rfl), He.free_ok X G (c.fact 9 (f := .free "all") rfl), He.free_ok X G (c.fact 10 (f := .free "any") rfl), He.free_ok X G (c.fact 11 (f := .free "max") rfl), He.free_ok X G (c.fact 12 (f := .free "min") rfl), He.free_ok X G (c.fact 13 (f := .free "sorted") rfl), He.free_ok X G (c.fact 14 (f := .free "zip") rfl), He.free_ok X G (c.fact 15 (f := .free "enumerate") rfl), He.free_ok X G (c.fact 16 (f := .free "isinstance") rfl), He.free_ok X G (c.fact 17 (f := .free "repr") rfl), He.free_ok X G (c.fact 18 (f := .free "dict") rfl), He.free_ok X G (c.fact 19 (f := .free "super") rfl), He.free_ok X G (c.fact 20 (f := .free "type") rfl)⟩
  have T : Cn mg := ⟨(let ⟨t, h⟩ := He.str_ok X G (c.fact 21 (f := .str "LOWER" "abcdefghijklmnopqrstuvwxyz") rfl); ⟨_, h, t, rfl⟩), (let ⟨t, h⟩ := He.str_ok X G (c.fact 22 (f := .str "DIGITS" "0123456789") rfl); ⟨_, h, t, rfl⟩), (let ⟨t, h⟩ := He.int_ok X G (c.fact 23 (f := .int "MOST_LENGTH" 400) rfl); ⟨_, h, t, rfl⟩), (let ⟨t, h⟩ := He.int_ok X G (c.fact 24 (f := .int "MOST_DEEP" 6) rfl); ⟨_, h, t, rfl⟩)⟩
  have K_Reader : Kls K (ks K).Reader ["signs", "known", "at"] := ⟨He.cls_ok (c.fact 28 (f := .cls "Reader") rfl), List.forall_mem_cons.mpr ⟨He.noat_ok (c.fact 27 (f := .noat "Reader" "signs") rfl), List.forall_mem_cons.mpr ⟨He.noat_ok (c.fact 26 (f := .noat "Reader" "known") rfl), List.forall_mem_cons.mpr ⟨He.noat_ok (c.fact 25 (f := .noat "Reader" "at") rfl), fun _ h => absurd h List.not_mem_nil⟩⟩⟩⟩
  obtain ⟨fd_swapped, F_swapped⟩ := c.def_ 0 (d := D_swapped) rfl
  have b_swapped := FunD.bindsN (ps := ["character"]) F_swapped fun _ _ _ _ _ _ us hl => match us, hl with | [_], _ => rfl
  have C_swapped : Cal P w K mg base 1 "swapped" ["character"] (sp_swapped) (He.fAd K D_swapped.at_) fd_swapped := ⟨ok_swapped (ks K) B T F_swapped (by walk_at "len") rd_swapped, He.glo_ok X G (c.fact 29 (f := .glo "swapped") rfl), F_swapped.kp, b_swapped⟩
  obtain ⟨fd_opposite, F_opposite⟩ := c.def_ 1 (d := D_opposite) rfl
  have b_opposite := FunD.bindsN (ps := ["word"]) F_opposite fun _ _ _ _ _ _ us hl => match us, hl with | [_], _ => rfl
  have C_opposite : Cal P w K mg base 2 "opposite" ["word"] (sp_opposite) (He.fAd K D_opposite.at_) fd_opposite := ⟨ok_opposite (ks K) B T C_swapped F_opposite (by walk_at "len") rd_opposite, He.glo_ok X G (c.fact 30 (f := .glo "opposite") rfl), F_opposite.kp, b_opposite⟩
  obtain ⟨fd_characters, F_characters⟩ := c.def_ 2 (d := D_characters) rfl
  have b_characters := FunD.bindsN (ps := ["letters"]) F_characters fun _ _ _ _ _ _ us hl => match us, hl with | [_], _ => rfl
  have C_characters : Cal P w K mg base 2 "characters" ["letters"] (sp_characters (ks K)) (He.fAd K D_characters.at_) fd_characters := ⟨ok_characters (ks K) B T C_swapped F_characters (by walk_at "len") rd_characters, He.glo_ok X G (c.fact 31 (f := .glo "characters") rfl), F_characters.kp, b_characters⟩
  obtain ⟨fd_Reader___init__, F_Reader___init__⟩ := c.def_ 3 (d := D_Reader___init__) rfl
  have b_Reader___init__ := FunD.bindsN (ps := ["self", "text", "letters"]) F_Reader___init__ fun _ _ _ _ _ _ us hl => match us, hl with | [_, _, _], _ => rfl
  have C_Reader___init__ : CalI P w K mg base 3 "Reader" (ks K).Reader ["self", "text", "letters"] (sp_Reader___init__ (ks K)) (He.fAd K D_Reader___init__.at_) fd_Reader___init__ := ⟨ok_Reader___init__ (ks K) B T K_Reader C_characters F_Reader___init__ (by walk_at "len") rd_Reader___init__, He.mkr_ok (c.fact 32 (f := .mkr "Reader") rfl), He.glo_ok X G (c.fact 33 (f := .glo "Reader") rfl), b_Reader___init__⟩
  obtain ⟨fd_Reader_here, F_Reader_here⟩ := c.def_ 4 (d := D_Reader_here) rfl
  have b_Reader_here := FunD.bindsN (ps := ["self"]) F_Reader_here fun _ _ _ _ _ _ us hl => match us, hl with | [_], _ => rfl
  have C_Reader_here : CalM P w K mg base 1 (ks K).Reader "here" ["self"] (sp_Reader_here (ks K)) (He.fAd K D_Reader_here.at_) fd_Reader_here := ⟨ok_Reader_here (ks K) B T K_Reader F_Reader_here (by walk_at "len") rd_Reader_here, K_Reader.cls, He.meth_ok (c.fact 34 (f := .meth "Reader" "here") rfl), b_Reader_here⟩
  obtain ⟨fd_Reader_skip, F_Reader_skip⟩ := c.def_ 5 (d := D_Reader_skip) rfl
  have b_Reader_skip := FunD.bindsN (ps := ["self"]) F_Reader_skip fun _ _ _ _ _ _ us hl => match us, hl with | [_], _ => rfl
  have C_Reader_skip : CalM P w K mg base 2 (ks K).Reader "skip" ["self"] (sp_Reader_skip (ks K)) (He.fAd K D_Reader_skip.at_) fd_Reader_skip := ⟨ok_Reader_skip (ks K) B T K_Reader C_Reader_here F_Reader_skip (by walk_at "len") rd_Reader_skip, K_Reader.cls, He.meth_ok (c.fact 35 (f := .meth "Reader" "skip") rfl), b_Reader_skip⟩
  obtain ⟨fd_Reader_end_digits, F_Reader_end_digits⟩ := c.def_ 6 (d := D_Reader_end_digits) rfl
  have b_Reader_end_digits := FunD.bindsN (ps := ["self"]) F_Reader_end_digits fun _ _ _ _ _ _ us hl => match us, hl with | [_], _ => rfl
  have C_Reader_end_digits : CalM P w K mg base 2 (ks K).Reader "end_digits" ["self"] (sp_Reader_end_digits (ks K)) (He.fAd K D_Reader_end_digits.at_) fd_Reader_end_digits := ⟨ok_Reader_end_digits (ks K) B T C_Reader_here F_Reader_end_digits (by walk_at "len") rd_Reader_end_digits, K_Reader.cls, He.meth_ok (c.fact 36 (f := .meth "Reader" "end_digits") rfl), b_Reader_end_digits⟩
  obtain ⟨fd_Reader_exponent, F_Reader_exponent⟩ := c.def_ 7 (d := D_Reader_exponent) rfl
  have b_Reader_exponent := FunD.bindsN (ps := ["self"]) F_Reader_exponent fun _ _ _ _ _ _ us hl => match us, hl with | [_], _ => rfl
  have C_Reader_exponent : CalM P w K mg base 3 (ks K).Reader "exponent" ["self"] (sp_Reader_exponent (ks K)) (He.fAd K D_Reader_exponent.at_) fd_Reader_exponent := ⟨ok_Reader_exponent (ks K) B T K_Reader C_Reader_end_digits C_Reader_here C_Reader_skip F_Reader_exponent (by walk_at "len") rd_Reader_exponent, K_Reader.cls, He.meth_ok (c.fact 37 (f := .meth "Reader" "exponent") rfl), b_Reader_exponent⟩
  obtain ⟨fd_Reader_atom, F_Reader_atom⟩ := c.def_ 8 (d := D_Reader_atom) rfl
  have b_Reader_atom := FunD.bindsN (ps := ["self", "deep"]) F_Reader_atom fun _ _ _ _ _ _ us hl => match us, hl with | [_, _], _ => rfl
  have C_Reader_atom : CalM P w K mg base 3 (ks K).Reader "atom" ["self", "deep"] (sp_Reader_atom (ks K)) (He.fAd K D_Reader_atom.at_) fd_Reader_atom := ⟨ok_Reader_atom (ks K) B T K_Reader C_Reader_end_digits C_Reader_here F_Reader_atom (by walk_at "len") rd_Reader_atom, K_Reader.cls, He.meth_ok (c.fact 38 (f := .meth "Reader" "atom") rfl), b_Reader_atom⟩
  obtain ⟨fd_Reader_phrase, F_Reader_phrase⟩ := c.def_ 9 (d := D_Reader_phrase) rfl
  have b_Reader_phrase := FunD.bindsN (ps := ["self", "stop", "deep"]) F_Reader_phrase fun _ _ _ _ _ _ us hl => match us, hl with | [_, _, _], _ => rfl
  have C_Reader_phrase : CalM P w K mg base 4 (ks K).Reader "phrase" ["self", "stop", "deep"] (sp_Reader_phrase (ks K)) (He.fAd K D_Reader_phrase.at_) fd_Reader_phrase := ⟨ok_Reader_phrase (ks K) B T C_Reader_skip C_Reader_exponent C_Reader_atom F_Reader_phrase (by walk_at "len") rd_Reader_phrase, K_Reader.cls, He.meth_ok (c.fact 39 (f := .meth "Reader" "phrase") rfl), b_Reader_phrase⟩
  obtain ⟨fd_atom_length, F_atom_length⟩ := c.def_ 10 (d := D_atom_length) rfl
  have b_atom_length := FunD.bindsN (ps := ["atom"]) F_atom_length fun _ _ _ _ _ _ us hl => match us, hl with | [_], _ => rfl
  have C_atom_length : Cal P w K mg base 1 "atom_length" ["atom"] (sp_atom_length (ks K)) (He.fAd K D_atom_length.at_) fd_atom_length := ⟨ok_atom_length (ks K) B T F_atom_length (by walk_at "len") rd_atom_length, He.glo_ok X G (c.fact 40 (f := .glo "atom_length") rfl), F_atom_length.kp, b_atom_length⟩
  obtain ⟨fd_length_of, F_length_of⟩ := c.def_ 11 (d := D_length_of) rfl
  have b_length_of := FunD.bindsN (ps := ["factors"]) F_length_of fun _ _ _ _ _ _ us hl => match us, hl with | [_], _ => rfl
  have C_length_of : Cal P w K mg base 2 "length_of" ["factors"] (sp_length_of (ks K)) (He.fAd K D_length_of.at_) fd_length_of := ⟨ok_length_of (ks K) B T C_atom_length F_length_of (by walk_at "len") rd_length_of, He.glo_ok X G (c.fact 41 (f := .glo "length_of") rfl), F_length_of.kp, b_length_of⟩
  obtain ⟨fd_atom_word, F_atom_word⟩ := c.def_ 12 (d := D_atom_word) rfl
  have b_atom_word := FunD.bindsN (ps := ["atom"]) F_atom_word fun _ _ _ _ _ _ us hl => match us, hl with | [_], _ => rfl
  have C_atom_word : Cal P w K mg base 1 "atom_word" ["atom"] (sp_atom_word (ks K)) (He.fAd K D_atom_word.at_) fd_atom_word := ⟨ok_atom_word (ks K) B T F_atom_word (by walk_at "len") rd_atom_word, He.glo_ok X G (c.fact 42 (f := .glo "atom_word") rfl), F_atom_word.kp, b_atom_word⟩
  obtain ⟨fd_word_of_factors, F_word_of_factors⟩ := c.def_ 13 (d := D_word_of_factors) rfl
  have b_word_of_factors := FunD.bindsN (ps := ["factors"]) F_word_of_factors fun _ _ _ _ _ _ us hl => match us, hl with | [_], _ => rfl
  have C_word_of_factors : Cal P w K mg base 3 "word_of_factors" ["factors"] (sp_word_of_factors (ks K)) (He.fAd K D_word_of_factors.at_) fd_word_of_factors := ⟨ok_word_of_factors (ks K) B T C_atom_word C_opposite F_word_of_factors (by walk_at "len") rd_word_of_factors, He.glo_ok X G (c.fact 43 (f := .glo "word_of_factors") rfl), F_word_of_factors.kp, b_word_of_factors⟩
  obtain ⟨fd_read_factors, F_read_factors⟩ := c.def_ 14 (d := D_read_factors) rfl
  have b_read_factors := FunD.bindsN (ps := ["text", "letters"]) F_read_factors fun _ _ _ _ _ _ us hl => match us, hl with | [_, _], _ => rfl
  have C_read_factors : Cal P w K mg base 5 "read_factors" ["text", "letters"] (sp_read_factors (ks K)) (He.fAd K D_read_factors.at_) fd_read_factors := ⟨ok_read_factors (ks K) B T C_Reader_phrase C_Reader___init__ F_read_factors (by walk_at "len") rd_read_factors, He.glo_ok X G (c.fact 44 (f := .glo "read_factors") rfl), F_read_factors.kp, b_read_factors⟩
  obtain ⟨fd_short_word, F_short_word⟩ := c.def_ 15 (d := D_short_word) rfl
  have b_short_word := FunD.bindsN (ps := ["factors"]) F_short_word fun _ _ _ _ _ _ us hl => match us, hl with | [_], _ => rfl
  have C_short_word : Cal P w K mg base 4 "short_word" ["factors"] (sp_short_word (ks K)) (He.fAd K D_short_word.at_) fd_short_word := ⟨ok_short_word (ks K) B T C_word_of_factors C_length_of F_short_word (by walk_at "len") rd_short_word, He.glo_ok X G (c.fact 45 (f := .glo "short_word") rfl), F_short_word.kp, b_short_word⟩
  obtain ⟨fd_read_word, F_read_word⟩ := c.def_ 16 (d := D_read_word) rfl
  have b_read_word := FunD.bindsN (ps := ["text", "letters"]) F_read_word fun _ _ _ _ _ _ us hl => match us, hl with | [_, _], _ => rfl
  have C_read_word : Cal P w K mg base 6 "read_word" ["text", "letters"] (sp_read_word (ks K)) (He.fAd K D_read_word.at_) fd_read_word := ⟨ok_read_word (ks K) B T C_short_word C_read_factors F_read_word (by walk_at "len") rd_read_word, He.glo_ok X G (c.fact 46 (f := .glo "read_word") rfl), F_read_word.kp, b_read_word⟩
  obtain ⟨fd_run_text, F_run_text⟩ := c.def_ 17 (d := D_run_text) rfl
  have b_run_text := FunD.bindsN (ps := ["character", "many"]) F_run_text fun _ _ _ _ _ _ us hl => match us, hl with | [_, _], _ => rfl
  have C_run_text : Cal P w K mg base 1 "run_text" ["character", "many"] (sp_run_text (ks K)) (He.fAd K D_run_text.at_) fd_run_text := ⟨ok_run_text (ks K) B T F_run_text (by walk_at "len") rd_run_text, He.glo_ok X G (c.fact 47 (f := .glo "run_text") rfl), F_run_text.kp, b_run_text⟩
  obtain ⟨fd_format_word, F_format_word⟩ := c.def_ 18 (d := D_format_word) rfl
  have b_format_word := FunD.bindsN (ps := ["word"]) F_format_word fun _ _ _ _ _ _ us hl => match us, hl with | [_], _ => rfl
  have C_format_word : Cal P w K mg base 2 "format_word" ["word"] (sp_format_word (ks K)) (He.fAd K D_format_word.at_) fd_format_word := ⟨ok_format_word (ks K) B T C_run_text F_format_word (by walk_at "len") rd_format_word, He.glo_ok X G (c.fact 48 (f := .glo "format_word") rfl), F_format_word.kp, b_format_word⟩
  obtain ⟨fd__law_begin, F__law_begin⟩ := c.def_ 19 (d := D__law_begin) rfl
  have b__law_begin := FunD.bindsN (ps := ["_law_script"]) F__law_begin fun _ _ _ _ _ _ us hl => match us, hl with | [_], _ => rfl
  have C__law_begin : Cal P w K mg base 1 "_law_begin" ["_law_script"] (sp__law_begin) (He.fAd K D__law_begin.at_) fd__law_begin := ⟨ok__law_begin (ks K) B T F__law_begin (by walk_at "len") rd__law_begin, He.glo_ok X G (c.fact 49 (f := .glo "_law_begin") rfl), F__law_begin.kp, b__law_begin⟩
  obtain ⟨fd__law_draw, F__law_draw⟩ := c.def_ 20 (d := D__law_draw) rfl
  have b__law_draw := FunD.bindsN (ps := ["_law_box", "_law_many"]) F__law_draw fun _ _ _ _ _ _ us hl => match us, hl with | [_, _], _ => rfl
  have C__law_draw : Cal P w K mg base 1 "_law_draw" ["_law_box", "_law_many"] (sp__law_draw) (He.fAd K D__law_draw.at_) fd__law_draw := ⟨ok__law_draw (ks K) B T F__law_draw (by walk_at "len") rd__law_draw, He.glo_ok X G (c.fact 50 (f := .glo "_law_draw") rfl), F__law_draw.kp, b__law_draw⟩
  obtain ⟨fd__law_any, F__law_any⟩ := c.def_ 21 (d := D__law_any) rfl
  have b__law_any := FunD.bindsN (ps := ["_law_box", "_law_some"]) F__law_any fun _ _ _ _ _ _ us hl => match us, hl with | [_, _], _ => rfl
  have C__law_any : Cal P w K mg base 2 "_law_any" ["_law_box", "_law_some"] (sp__law_any) (He.fAd K D__law_any.at_) fd__law_any := ⟨ok__law_any (ks K) B T C__law_draw F__law_any (by walk_at "len") rd__law_any, He.glo_ok X G (c.fact 51 (f := .glo "_law_any") rfl), F__law_any.kp, b__law_any⟩
  obtain ⟨fd__law_same, F__law_same⟩ := c.def_ 22 (d := D__law_same) rfl
  have b__law_same := FunD.bindsN (ps := ["_law_found", "_law_due"]) F__law_same fun _ _ _ _ _ _ us hl => match us, hl with | [_, _], _ => rfl
  have C__law_same_0 : Cal P w K mg base 1 "_law_same" ["_law_found", "_law_due"] (sp_sameB 0) (He.fAd K D__law_same.at_) fd__law_same := ⟨fn_no F__law_same sc__law_same, He.glo_ok X G (c.fact 52 (f := .glo "_law_same") rfl), F__law_same.kp, b__law_same⟩
  have C__law_same_1 : Cal P w K mg base 2 "_law_same" ["_law_found", "_law_due"] (sp_sameB 1) (He.fAd K D__law_same.at_) fd__law_same := ⟨ok__law_same (ks K) (n := 1) (by decide) B T C__law_same_0 F__law_same (by walk_at "len") (rd__law_same 0), He.glo_ok X G (c.fact 52 (f := .glo "_law_same") rfl), F__law_same.kp, b__law_same⟩
  have C__law_same_2 : Cal P w K mg base 3 "_law_same" ["_law_found", "_law_due"] (sp_sameB 2) (He.fAd K D__law_same.at_) fd__law_same := ⟨ok__law_same (ks K) (n := 2) (by decide) B T C__law_same_1 F__law_same (by walk_at "len") (rd__law_same 1), He.glo_ok X G (c.fact 52 (f := .glo "_law_same") rfl), F__law_same.kp, b__law_same⟩
  have C__law_same_3 : Cal P w K mg base 4 "_law_same" ["_law_found", "_law_due"] (sp_sameB 3) (He.fAd K D__law_same.at_) fd__law_same := ⟨ok__law_same (ks K) (n := 3) (by decide) B T C__law_same_2 F__law_same (by walk_at "len") (rd__law_same 2), He.glo_ok X G (c.fact 52 (f := .glo "_law_same") rfl), F__law_same.kp, b__law_same⟩
  have C__law_same : Cal P w K mg base 5 "_law_same" ["_law_found", "_law_due"] (sp__law_same 3) (He.fAd K D__law_same.at_) fd__law_same := ⟨ok__law_same (ks K) (n := 4) (by decide) B T C__law_same_3 F__law_same (by walk_at "len") (rd__law_same 3), He.glo_ok X G (c.fact 52 (f := .glo "_law_same") rfl), F__law_same.kp, b__law_same⟩
  obtain ⟨fd__law_letters, F__law_letters⟩ := c.def_ 23 (d := D__law_letters) rfl
  have b__law_letters := FunD.bindsN (ps := ["_law_box", "_law_many"]) F__law_letters fun _ _ _ _ _ _ us hl => match us, hl with | [_, _], _ => rfl
  have C__law_letters : Cal P w K mg base 3 "_law_letters" ["_law_box", "_law_many"] (sp__law_letters) (He.fAd K D__law_letters.at_) fd__law_letters := ⟨ok__law_letters (ks K) B T C__law_any F__law_letters (by walk_at "len") rd__law_letters, He.glo_ok X G (c.fact 53 (f := .glo "_law_letters") rfl), F__law_letters.kp, b__law_letters⟩
  obtain ⟨fd__law_signs, F__law_signs⟩ := c.def_ 24 (d := D__law_signs) rfl
  have b__law_signs := FunD.bindsN (ps := ["_law_letters_here"]) F__law_signs fun _ _ _ _ _ _ us hl => match us, hl with | [_], _ => rfl
  have C__law_signs : Cal P w K mg base 1 "_law_signs" ["_law_letters_here"] (sp__law_signs) (He.fAd K D__law_signs.at_) fd__law_signs := ⟨ok__law_signs (ks K) B T F__law_signs (by walk_at "len") rd__law_signs, He.glo_ok X G (c.fact 54 (f := .glo "_law_signs") rfl), F__law_signs.kp, b__law_signs⟩
  obtain ⟨fd__law_some_word, F__law_some_word⟩ := c.def_ 25 (d := D__law_some_word) rfl
  have b__law_some_word := FunD.bindsN (ps := ["_law_box", "_law_letters_here", "_law_most"]) F__law_some_word fun _ _ _ _ _ _ us hl => match us, hl with | [_, _, _], _ => rfl
  have C__law_some_word : Cal P w K mg base 3 "_law_some_word" ["_law_box", "_law_letters_here", "_law_most"] (sp__law_some_word) (He.fAd K D__law_some_word.at_) fd__law_some_word := ⟨ok__law_some_word (ks K) B T C__law_draw C__law_any C__law_signs F__law_some_word (by walk_at "len") rd__law_some_word, He.glo_ok X G (c.fact 55 (f := .glo "_law_some_word") rfl), F__law_some_word.kp, b__law_some_word⟩
  obtain ⟨fd__law_text, F__law_text⟩ := c.def_ 26 (d := D__law_text) rfl
  have b__law_text := FunD.bindsN (ps := ["_law_one"]) F__law_text fun _ _ _ _ _ _ us hl => match us, hl with | [_], _ => rfl
  have C__law_text : Cal P w K mg base 1 "_law_text" ["_law_one"] (sp__law_text (ks K)) (He.fAd K D__law_text.at_) fd__law_text := ⟨ok__law_text (ks K) B T F__law_text (by walk_at "len") rd__law_text, He.glo_ok X G (c.fact 56 (f := .glo "_law_text") rfl), F__law_text.kp, b__law_text⟩
  have F_law := F0
  have b_law := FunD.bindsN (ps := ["_law_script"]) F_law fun _ _ _ _ _ _ us hl => match us, hl with | [_], _ => rfl
  have KB_format_word_0_word : KBinds K fd_format_word ["word"] ["word"] (gKV 0 1 [0]) (gKV 0 1 [0]) := kbN (x := "format_word") (qual := "format_word") (st := s_format_word) F_format_word (by decide) fun _ _ _ _ _ _ us ws h1 h2 => match us, ws, h1, h2 with | [], [_], _, _ => rfl
  exact ok_law (ks K) B T C_format_word C__law_same C__law_text C_read_word C__law_any C__law_some_word C__law_letters C__law_draw C__law_begin KB_format_word_0_word F_law (by walk_at "len") rd_law
end K09
open PySem PySem.W PySem.Calls PyProof.Rows
set_option maxHeartbeats 0 in
theorem PySem.Challenge.cw_roundswap_k09_texts_of_words_holds : PySem.Challenge.rw_roundswap_k09_texts_of_words.Holds := by
  w_on; o_law
  refine HandSHeadRun.head_any (r := OpenLaw.row PySem.Challenge.rw_roundswap_k09_texts_of_words) (q := view (OpenLaw.row PySem.Challenge.rw_roundswap_k09_texts_of_words).prog [32]) (H := K09.hk) (ob := K09.ob) (M := 20000) (loose := K09.nms) (d := HandSHeadRun.topDef (OpenLaw.row PySem.Challenge.rw_roundswap_k09_texts_of_words).prog 32) (kwd := []) K09.ob_eq
    (by kernel_rfl) (fun s => by kernel_rfl) K09.run (by kernel_rfl) (by kernel_rfl) (by kernel_rfl) (by rfl) (by first | assumption | decide +kernel) (by decide +kernel) ⟨rfl, rfl, rfl, rfl, rfl, by decide +kernel⟩ ?hw ?hc
  case hw => w_witness2
  case hc =>
    refine L2.walk_ofE (l := PySem.Challenge.rw_roundswap_k09_texts_of_words) (n := 63) (k := 7) (x := "_law_script") (CX := L2.CX0) rfl (by decide) (by kernel_rfl) ⟨rfl, by decide, by decide⟩ ?F (fun _ _ _ _ z => z)
    intro w mg fa h Y G hmg0
    obtain ⟨K, KX, c⟩ := Y
    have hmg : mg ("law" : PySem.Str) = some (.ref fa) := by
      have e : (HandSHeadRun.topDef (OpenLaw.row PySem.Challenge.rw_roundswap_k09_texts_of_words).prog 32).name = ("law" : PySem.Str) := by kernel_rfl
      rw [← e]
      exact hmg0
    obtain ⟨fd, hb, hF⟩ := K09.facts (P := (PySem.Challenge.rw_roundswap_k09_texts_of_words).prog) (w := w) KX G hmg c
    exact ⟨K, fd, (DL.lSp K (K09.sp_law (K09.ks K))), KX, hb, fun H a ns hl _ hS => DL.law_in hl hS, hF⟩
