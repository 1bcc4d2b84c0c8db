import PyProof.Rows.All
import Wide.All
import OpenK.AllK
import Wide.FinOn
import HandS.Base
import HandS.Call
import HandS.List
import HandS.Comp
import HandS.Exc
import HandS.WordsExc
import HandS.ExcOwn
import HandS.TryOnly
import HandS.Defaults
import HandS.TupAny
import HandS.TupMul
import HandS.Wide
import HandS.Style
import HandS.IsInst
import HandS.RaiseMore
import HandS.Iter
import HandS.Zip
import KE.GoesMore
import KE.GoesEnum
import HandS.Head0
import HandS.Head1
import HandS.Head2
import HandS.HeadEnd
import HandS.HeadHook1
import HandS.HeadHook2
import HandS.HeadHook4
import HandS.Ends
import PySem.Challenge.RW_streamwebs_k70_polynomials
set_option Elab.async false
set_option linter.all false
set_option maxRecDepth 100000
set_option maxHeartbeats 0
/-! PI, part a: abstract values, how they lie in the abstract heap. -/
namespace PI
open PySem PySem.Spec PyProof.Rows L2

/-- an abstract value: tuples and frozen lists inline, tracked objects by their number -/
inductive AV where
  | non
  | bl (b : Bool)
  | int (i : Int)
  | str (cs : List Nat)
  | tup (xs : List AV)
  | frl (xs : List AV)
  | scr (xs : List AV)
  | ref (i : Nat)
  | fn (k : Nat)
  deriving Inhabited

/-- a tracked object -/
inductive AO where
  | lst (xs : List AV)
  deriving Inhabited

abbrev Mem := List AO

def toStr (cs : List Nat) : Str := ⟨cs.toArray⟩

section
/-- neither tracked nor set aside -/
def Un (r : Nat → Addr) (n : Nat) (B : List Addr) (a : Addr) : Prop := (∀ i, i < n → r i ≠ a) ∧ a ∉ B
variable (K : PySem.W.Frag) (ft : Nat → Addr) (r : Nat → Addr) (n : Nat) (B : List Addr) (H : Hp)
mutual
/-- how an abstract value lies: r: where the tracked objects 0 .. n - 1 lie -/
inductive Rep : AV → V → Prop
  | non : Rep .non .non
  | bl (b : Bool) : Rep (.bl b) (.bl b)
  | int (i : Int) : Rep (.int i) (.int i)
  | str (cs : List Nat) : Rep (.str cs) (.str (toStr cs))
  | tup {a : Addr} {xs : List AV} {vs : List V} : SqT K H a vs → Un r n B a → RepL xs vs → Rep (.tup xs) (.ref a)
  | frl {a : Addr} {xs : List AV} {vs : List V} : H a = some (.lst vs) → Un r n B a → RepL xs vs → Rep (.frl xs) (.ref a)
  | scr {a : Addr} {xs : List AV} {vs : List V} : SqL K H a vs → Un r n B a → RepL xs vs → Rep (.scr xs) (.ref a)
  | ref {i : Nat} : i < n → Rep (.ref i) (.ref (r i))
  | fn (k : Nat) : Rep (.fn k) (.ref (ft k))
inductive RepL : List AV → List V → Prop
  | nil : RepL [] []
  | cons {x : AV} {xs : List AV} {v : V} {vs : List V} : Rep x v → RepL xs vs → RepL (x :: xs) (v :: vs)
end
/-- how a tracked object lies -/
def ObjR : AO → Addr → Prop
  | .lst xs, a => ∃ vs, H a = some (.lst vs) ∧ RepL K ft r n B H xs vs
end

section
variable {K : PySem.W.Frag} {ft : Nat → Addr} {r r' r'' : Nat → Addr} {n n' n'' : Nat} {B : List Addr} {H H' H'' : Hp}

theorem RepL.length {xs : List AV} {vs : List V} : RepL K ft r n B H xs vs → xs.length = vs.length := by
  intro h
  induction xs generalizing vs with
  | nil => cases h; rfl
  | cons x xs ih =>
    cases h with
    | cons a b => simp [ih b]
theorem RepL.get {xs : List AV} {vs : List V} (h : RepL K ft r n B H xs vs) {i : Nat} {x : AV} (e : xs[i]? = some x) : ∃ v, vs[i]? = some v ∧ Rep K ft r n B H x v := by
  induction xs generalizing vs i with
  | nil => simp at e
  | cons y ys ih =>
    cases h with
    | cons a b =>
      cases i with
      | zero => simp at e; subst e; exact ⟨_, rfl, a⟩
      | succ i => simp at e; obtain ⟨v, h1, h2⟩ := ih b e; exact ⟨v, by simpa using h1, h2⟩
theorem RepL.get' {xs : List AV} {vs : List V} (h : RepL K ft r n B H xs vs) {i : Nat} {v : V} (e : vs[i]? = some v) : ∃ x, xs[i]? = some x ∧ Rep K ft r n B H x v := by
  have hl := h.length
  have hi : i < xs.length := by rw [hl]; exact (List.getElem?_eq_some_iff.mp e).1
  obtain ⟨w, h1, h2⟩ := h.get (i := i) (x := xs[i]) (by simp [hi])
  rw [e] at h1; cases h1
  exact ⟨_, by simp [hi], h2⟩
theorem RepL.append {xs ys : List AV} {vs ws : List V} (h : RepL K ft r n B H xs vs) (g : RepL K ft r n B H ys ws) : RepL K ft r n B H (xs ++ ys) (vs ++ ws) := by
  induction xs generalizing vs with
  | nil => cases h; exact g
  | cons x xs ih =>
    cases h with
    | cons a b => exact .cons a (ih b)
theorem RepL.drop {xs : List AV} {vs : List V} (h : RepL K ft r n B H xs vs) (k : Nat) : RepL K ft r n B H (xs.drop k) (vs.drop k) := by
  induction k generalizing xs vs with
  | zero => simpa using h
  | succ k ih =>
    cases h with
    | nil => simpa using RepL.nil
    | cons a b => simpa using ih b
theorem RepL.take {xs : List AV} {vs : List V} (h : RepL K ft r n B H xs vs) (k : Nat) : RepL K ft r n B H (xs.take k) (vs.take k) := by
  induction k generalizing xs vs with
  | zero => simpa using RepL.nil
  | succ k ih =>
    cases h with
    | nil => simpa using RepL.nil
    | cons a b => simpa using RepL.cons a (ih b)
theorem RepL.set {xs : List AV} {vs : List V} {x : AV} {v : V} (h : RepL K ft r n B H xs vs) (g : Rep K ft r n B H x v) (k : Nat) : RepL K ft r n B H (xs.set k x) (vs.set k v) := by
  induction k generalizing xs vs with
  | zero =>
    cases h with
    | nil => exact .nil
    | cons a b => exact .cons g b
  | succ k ih =>
    cases h with
    | nil => exact .nil
    | cons a b => exact .cons a (ih b)
theorem RepL.reverse {xs : List AV} {vs : List V} (h : RepL K ft r n B H xs vs) : RepL K ft r n B H xs.reverse vs.reverse := by
  induction xs generalizing vs with
  | nil => cases h; exact .nil
  | cons x xs ih =>
    cases h with
    | cons a b =>
      rw [List.reverse_cons, List.reverse_cons]
      exact (ih b).append (.cons a .nil)
theorem RepL.rep {xs : List AV} {vs : List V} (h : RepL K ft r n B H xs vs) : ∀ k : Nat, RepL K ft r n B H (List.replicate k xs).flatten (List.replicate k vs).flatten
  | 0 => .nil
  | k + 1 => by
    rw [List.replicate_succ, List.replicate_succ, List.flatten_cons, List.flatten_cons]
    exact h.append (RepL.rep h k)
theorem RepL.dropLast {xs : List AV} {vs : List V} (h : RepL K ft r n B H xs vs) : RepL K ft r n B H xs.dropLast vs.dropLast := by
  rw [List.dropLast_eq_take, List.dropLast_eq_take, h.length]
  exact h.take _

/-- behind a run: what was tracked lies where it lay, what was not tracked is as it was, what is tracked newly is new -/
structure Ext (r : Nat → Addr) (n : Nat) (H : Hp) (r' : Nat → Addr) (n' : Nat) (H' : Hp) : Prop where
  len : n ≤ n'
  agr : ∀ i, i < n → r' i = r i
  frm : ∀ a o, H a = some o → (∀ i, i < n → r i ≠ a) → H' a = some o
  new : ∀ i, n ≤ i → i < n' → H (r' i) = none
  liv : ∀ i, i < n' → H' (r' i) ≠ none

/-- the written part is not tracked -/
def NK (K : PySem.W.Frag) (H : Hp) : Prop := ∀ b o, K.lookup b = some o → H b = none

structure Ab (K : PySem.W.Frag) (ft : Nat → Addr) (r : Nat → Addr) (m : Mem) (B : List Addr) (H : Hp) : Prop where
  inj : ∀ i j, i < m.length → j < m.length → r i = r j → i = j
  obj : ∀ i o, m[i]? = some o → ObjR K ft r m.length B H o (r i)
  blk : ∀ b ∈ B, H b ≠ none ∧ ∀ i, i < m.length → r i ≠ b
theorem ObjR.live {o : AO} {a : Addr} (h : ObjR K ft r n B H o a) : ∃ u, H a = some u ∧ (∀ xs, u ≠ .tup xs) := by
  cases o with
  | lst xs => obtain ⟨vs, e, _⟩ := h; exact ⟨_, e, fun _ z => by cases z⟩
theorem Ab.live {m : Mem} (A : Ab K ft r m B H) {i : Nat} (h : i < m.length) : ∃ u, H (r i) = some u ∧ (∀ xs, u ≠ .tup xs) :=
  (A.obj i m[i] (by simp [h])).live
theorem Ab.liveN {m : Mem} (A : Ab K ft r m B H) {i : Nat} (h : i < m.length) : H (r i) ≠ none := by
  obtain ⟨u, e, _⟩ := A.live h
  rw [e]; exact fun z => by cases z
theorem Ext.refl (l : ∀ i, i < n → H (r i) ≠ none) : Ext r n H r n H := ⟨Nat.le_refl _, fun _ _ => rfl, fun _ _ h _ => h, fun i h1 h2 => absurd h2 (Nat.not_lt.mpr h1), l⟩
theorem Ab.ext {m : Mem} (A : Ab K ft r m B H) : Ext r m.length H r m.length H := Ext.refl fun _ h => A.liveN h

theorem Ext.trans (a : Ext r n H r' n' H') (b : Ext r' n' H' r'' n'' H'') : Ext r n H r'' n'' H'' where
  len := Nat.le_trans a.len b.len
  agr := fun i h => (b.agr i (Nat.lt_of_lt_of_le h a.len)).trans (a.agr i h)
  frm := fun c o e u => by
    refine b.frm c o (a.frm c o e u) fun i hi z => ?_
    by_cases hn : i < n
    · exact u i hn ((a.agr i hn).symm.trans z)
    · have := a.new i (Nat.not_lt.mp hn) hi
      rw [z, e] at this; cases this
  new := fun i h1 h2 => by
    by_cases hn : i < n'
    · rw [b.agr i hn]; exact a.new i h1 hn
    · have h3 := b.new i (Nat.not_lt.mp hn) h2
      cases q : H (r'' i) with
      | none => rfl
      | some u =>
        by_cases hu : ∀ j, j < n → r j ≠ r'' i
        · rw [a.frm _ _ q hu] at h3; cases h3
        · exfalso
          refine hu fun j hj z => ?_
          have l := a.liv j (Nat.lt_of_lt_of_le hj a.len)
          rw [a.agr j hj, z] at l
          exact l h3
  liv := b.liv
/-- what is new at a later place was new ahead of it -/
theorem Ext.none_of (a : Ext r n H r' n' H') {c : Addr} (h : H' c = none) : H c = none := by
  cases q : H c with
  | none => rfl
  | some u =>
    by_cases hu : ∀ j, j < n → r j ≠ c
    · rw [a.frm _ _ q hu] at h; cases h
    · exfalso
      refine hu fun j hj z => ?_
      have l := a.liv j (Nat.lt_of_lt_of_le hj a.len)
      rw [a.agr j hj, z] at l
      exact l h
theorem Ext.cut (a : Ext r n H r' n' H') {k : Nat} (h1 : n ≤ k) (h2 : k ≤ n') : Ext r n H r' k H' :=
  ⟨h1, a.agr, a.frm, fun i h3 h4 => a.new i h3 (Nat.lt_of_lt_of_le h4 h2), fun i h => a.liv i (Nat.lt_of_lt_of_le h h2)⟩

theorem rd_mono {a : Addr} {u : HO} (x : Ext r n H r' n' H') (h : Rd H a u) (un : ∀ i, i < n → r i ≠ a) : Rd H' a u := by
  rcases h with h | ⟨o, h⟩
  · exact .inl (x.frm _ _ h un)
  · exact .inr ⟨o, x.frm _ _ h un⟩
theorem rd_ne {a : Addr} {u : HO} (h : Rd H a u) : H a ≠ none := by
  rcases h with h | ⟨o, h⟩ <;> (rw [h]; exact fun z => by cases z)
theorem un_mono {a : Addr} (x : Ext r n H r' n' H') (nk : NK K H') (h : H a ≠ none ∨ ∃ o, K.lookup a = some o) (un : Un r n B a) : Un r' n' B a := ⟨fun i hi z => by
  by_cases hn : i < n
  · exact un.1 i hn ((x.agr i hn).symm.trans z)
  · have h1 := x.new i (Nat.not_lt.mp hn) hi
    rw [z] at h1
    rcases h with h | ⟨o, h⟩
    · exact h h1
    · have := x.liv i hi
      rw [z, nk _ _ h] at this
      exact this rfl, un.2⟩
theorem sqT_mono {a : Addr} {vs : List V} (x : Ext r n H r' n' H') (nk : NK K H') (h : SqT K H a vs) (un : Un r n B a) : SqT K H' a vs ∧ Un r' n' B a := by
  rcases h with h | ⟨o, its, k, e, q⟩
  · exact ⟨.inl (rd_mono x h un.1), un_mono x nk (.inl (rd_ne h)) un⟩
  · exact ⟨.inr ⟨o, its, k, e, q⟩, un_mono x nk (.inr ⟨o, e⟩) un⟩
theorem sqL_mono {a : Addr} {vs : List V} (x : Ext r n H r' n' H') (nk : NK K H') (h : SqL K H a vs) (un : Un r n B a) : SqL K H' a vs ∧ Un r' n' B a := by
  rcases h with h | ⟨o, its, k, e, q⟩
  · exact ⟨.inl (rd_mono x h un.1), un_mono x nk (.inl (rd_ne h)) un⟩
  · exact ⟨.inr ⟨o, its, k, e, q⟩, un_mono x nk (.inr ⟨o, e⟩) un⟩
mutual
theorem Rep.mono (x : Ext r n H r' n' H') (nk : NK K H') : ∀ {v : AV} {u : V}, Rep K ft r n B H v u → Rep K ft r' n' B H' v u
  | _, _, .non => .non
  | _, _, .bl b => .bl b
  | _, _, .int i => .int i
  | _, _, .str cs => .str cs
  | _, _, .tup h1 h2 h3 => .tup (sqT_mono x nk h1 h2).1 (sqT_mono x nk h1 h2).2 (RepL.mono x nk h3)
  | _, _, .frl h1 h2 h3 => .frl (x.frm _ _ h1 h2.1) (un_mono x nk (.inl (by rw [h1]; exact fun z => by cases z)) h2) (RepL.mono x nk h3)
  | _, _, .scr h1 h2 h3 => .scr (sqL_mono x nk h1 h2).1 (sqL_mono x nk h1 h2).2 (RepL.mono x nk h3)
  | _, _, .ref (i := i) h => by
    have := Rep.ref (K := K) (ft := ft) (r := r') (B := B) (H := H') (Nat.lt_of_lt_of_le h x.len)
    rw [x.agr i h] at this
    exact this
  | _, _, .fn k => .fn k
theorem RepL.mono (x : Ext r n H r' n' H') (nk : NK K H') : ∀ {v : List AV} {u : List V}, RepL K ft r n B H v u → RepL K ft r' n' B H' v u
  | _, _, .nil => .nil
  | _, _, .cons a b => .cons (Rep.mono x nk a) (RepL.mono x nk b)
end

/-- the slots -/
def EnvR (K : PySem.W.Frag) (ft : Nat → Addr) (r : Nat → Addr) (n : Nat) (B : List Addr) (H : Hp) (env : List (Option AV)) (σ : L2.St) : Prop :=
  env.length = σ.length ∧ ∀ (i : Nat) (x : AV), env[i]? = some (some x) → ∃ v, σ[i]? = some (some v) ∧ Rep K ft r n B H x v
theorem EnvR.mono {env : List (Option AV)} {σ : L2.St} (x : Ext r n H r' n' H') (nk : NK K H') (h : EnvR K ft r n B H env σ) : EnvR K ft r' n' B H' env σ :=
  ⟨h.1, fun i y e => let ⟨v, h1, h2⟩ := h.2 i y e; ⟨v, h1, h2.mono x nk⟩⟩
theorem EnvR.set {env : List (Option AV)} {σ : L2.St} (h : EnvR K ft r n B H env σ) {x : AV} {v : V} (g : Rep K ft r n B H x v) (i : Nat) : EnvR K ft r n B H (env.set i (some x)) (σ.set i (some v)) := by
  refine ⟨by simp [h.1], fun j y e => ?_⟩
  by_cases hj : i = j
  · subst hj
    by_cases hl : i < env.length
    · rw [List.getElem?_set_self hl] at e
      cases e
      exact ⟨v, by rw [List.getElem?_set_self (by rw [← h.1]; exact hl)], g⟩
    · rw [List.getElem?_eq_none (by simpa using hl)] at e; cases e
  · rw [List.getElem?_set_ne hj] at e
    obtain ⟨w, h1, h2⟩ := h.2 j y e
    exact ⟨w, by rw [List.getElem?_set_ne hj]; exact h1, h2⟩
/-- forgetting slots -/
def wipeE (env : List (Option AV)) : List Nat → List (Option AV)
  | [] => env
  | v :: vs => (wipeE env vs).set v none
theorem EnvR.wipe {env : List (Option AV)} {σ : L2.St} (h : EnvR K ft r n B H env σ) : ∀ vs : List Nat, EnvR K ft r n B H (wipeE env vs) (L2.wipe σ vs)
  | [] => h
  | v :: vs => by
    obtain ⟨h1, h2⟩ := EnvR.wipe h vs
    refine ⟨by simp [wipeE, L2.wipe, h1], fun j y e => ?_⟩
    unfold wipeE at e
    by_cases hj : v = j
    · subst hj
      by_cases hl : v < (wipeE env vs).length
      · rw [List.getElem?_set_self hl] at e; cases e
      · rw [List.getElem?_eq_none (by simpa using hl)] at e; cases e
    · rw [List.getElem?_set_ne hj] at e
      obtain ⟨w, h3, h4⟩ := h2 j y e
      exact ⟨w, by unfold L2.wipe; rw [List.getElem?_set_ne hj]; exact h3, h4⟩

/-- a new tracked object at a -/
def setR (r : Nat → Addr) (n : Nat) (a : Addr) : Nat → Addr := fun i => if i = n then a else r i
theorem setR_lt {a : Addr} {i : Nat} (h : i < n) : setR r n a i = r i := if_neg (Nat.ne_of_lt h)
theorem setR_eq {a : Addr} : setR r n a n = a := if_pos rfl
/-- an untracked object is tracked from now on, the heap staying -/
theorem Ext.track {a : Addr} (x : Ext r n H r' n' H') (ha : H a = none) (hl : H' a ≠ none) : Ext r n H (setR r' n' a) (n' + 1) H' where
  len := Nat.le_succ_of_le x.len
  agr := fun i h => (setR_lt (Nat.lt_of_lt_of_le h x.len)).trans (x.agr i h)
  frm := x.frm
  new := fun i h1 h2 => by
    by_cases h : i < n'
    · rw [setR_lt h]; exact x.new i h1 h
    · have : i = n' := by omega
      subst this
      rw [setR_eq]; exact ha
  liv := fun i h => by
    by_cases h3 : i < n'
    · rw [setR_lt h3]; exact x.liv i h3
    · have : i = n' := by omega
      subst this
      rw [setR_eq]; exact hl

/-! ### set aside, tracked -/
theorem Un.less {B' : List Addr} {a : Addr} (h : Un r n B a) (s : ∀ b ∈ B', b ∈ B) : Un r n B' a := ⟨h.1, fun q => h.2 (s _ q)⟩
mutual
theorem Rep.less {B' : List Addr} (s : ∀ b ∈ B', b ∈ B) : ∀ {v : AV} {u : V}, Rep K ft r n B H v u → Rep K ft r n B' H v u
  | _, _, .non => .non
  | _, _, .bl b => .bl b
  | _, _, .int i => .int i
  | _, _, .str cs => .str cs
  | _, _, .tup h1 h2 h3 => .tup h1 (h2.less s) (RepL.less s h3)
  | _, _, .frl h1 h2 h3 => .frl h1 (h2.less s) (RepL.less s h3)
  | _, _, .scr h1 h2 h3 => .scr h1 (h2.less s) (RepL.less s h3)
  | _, _, .ref h => .ref h
  | _, _, .fn k => .fn k
theorem RepL.less {B' : List Addr} (s : ∀ b ∈ B', b ∈ B) : ∀ {v : List AV} {u : List V}, RepL K ft r n B H v u → RepL K ft r n B' H v u
  | _, _, .nil => .nil
  | _, _, .cons a b => .cons (Rep.less s a) (RepL.less s b)
end
theorem Un.avoid {a p : Addr} (h : Un r n B a) (l : H a ≠ none ∨ ∃ o, K.lookup a = some o) (hp : H p = none) (kp : K.lookup p = none) : Un r n (p :: B) a := ⟨h.1, fun q => by
  rcases List.mem_cons.mp q with q | q
  · subst q
    rcases l with l | ⟨o, l⟩
    · exact l hp
    · rw [kp] at l; cases l
  · exact h.2 q⟩
theorem sqT_live {a : Addr} {vs : List V} (h : SqT K H a vs) : H a ≠ none ∨ ∃ o, K.lookup a = some o := by
  rcases h with h | ⟨o, its, k, e, q⟩
  · exact .inl (rd_ne h)
  · exact .inr ⟨o, e⟩
theorem sqL_live {a : Addr} {vs : List V} (h : SqL K H a vs) : H a ≠ none ∨ ∃ o, K.lookup a = some o := by
  rcases h with h | ⟨o, its, k, e, q⟩
  · exact .inl (rd_ne h)
  · exact .inr ⟨o, e⟩
mutual
theorem Rep.avoid {p : Addr} (hp : H p = none) (kp : K.lookup p = none) : ∀ {v : AV} {u : V}, Rep K ft r n B H v u → Rep K ft r n (p :: B) H v u
  | _, _, .non => .non
  | _, _, .bl b => .bl b
  | _, _, .int i => .int i
  | _, _, .str cs => .str cs
  | _, _, .tup h1 h2 h3 => .tup h1 (h2.avoid (sqT_live h1) hp kp) (RepL.avoid hp kp h3)
  | _, _, .frl h1 h2 h3 => .frl h1 (h2.avoid (K := K) (.inl (by rw [h1]; exact fun z => by cases z)) hp kp) (RepL.avoid hp kp h3)
  | _, _, .scr h1 h2 h3 => .scr h1 (h2.avoid (sqL_live h1) hp kp) (RepL.avoid hp kp h3)
  | _, _, .ref h => .ref h
  | _, _, .fn k => .fn k
theorem RepL.avoid {p : Addr} (hp : H p = none) (kp : K.lookup p = none) : ∀ {v : List AV} {u : List V}, RepL K ft r n B H v u → RepL K ft r n (p :: B) H v u
  | _, _, .nil => .nil
  | _, _, .cons a b => .cons (Rep.avoid hp kp a) (RepL.avoid hp kp b)
end
theorem Un.track {a q : Addr} (h : Un r n (q :: B) a) : Un (setR r n q) (n + 1) B a := ⟨fun i hi => by
  by_cases h3 : i < n
  · rw [setR_lt h3]; exact h.1 i h3
  · have : i = n := by omega
    subst this
    rw [setR_eq]
    exact fun e => h.2 (by rw [e]; simp), fun z => h.2 (by simp [z])⟩
mutual
theorem Rep.track {q : Addr} : ∀ {v : AV} {u : V}, Rep K ft r n (q :: B) H v u → Rep K ft (setR r n q) (n + 1) B H v u
  | _, _, .non => .non
  | _, _, .bl b => .bl b
  | _, _, .int i => .int i
  | _, _, .str cs => .str cs
  | _, _, .tup h1 h2 h3 => .tup h1 h2.track (RepL.track h3)
  | _, _, .frl h1 h2 h3 => .frl h1 h2.track (RepL.track h3)
  | _, _, .scr h1 h2 h3 => .scr h1 h2.track (RepL.track h3)
  | _, _, .ref (i := i) h => by
    have := Rep.ref (K := K) (ft := ft) (r := setR r n q) (B := B) (H := H) (Nat.lt_succ_of_lt h)
    rw [setR_lt h] at this
    exact this
  | _, _, .fn k => .fn k
theorem RepL.track {q : Addr} : ∀ {v : List AV} {u : List V}, RepL K ft r n (q :: B) H v u → RepL K ft (setR r n q) (n + 1) B H v u
  | _, _, .nil => .nil
  | _, _, .cons a b => .cons (Rep.track a) (RepL.track b)
end
theorem Ab.less {B' : List Addr} {m : Mem} (A : Ab K ft r m B H) (s : ∀ b ∈ B', b ∈ B) : Ab K ft r m B' H :=
  ⟨A.inj, fun i o e => by
    have h := A.obj i o e
    cases o with
    | lst xs => obtain ⟨vs, h1, h2⟩ := h; exact ⟨vs, h1, h2.less s⟩, fun b hb => A.blk b (s b hb)⟩
theorem Ab.track {m : Mem} {q : Addr} {xs : List AV} {vs : List V} (A : Ab K ft r m (q :: B) H) (hq : H q = some (.lst vs)) (l : RepL K ft r m.length (q :: B) H xs vs) (qB : q ∉ B) : Ab K ft (setR r m.length q) (m ++ [.lst xs]) B H := by
  have dis := (A.blk q (by simp)).2
  refine ⟨fun i j hi hj e => ?_, fun i o e => ?_, fun b hb => ⟨(A.blk b (by simp [hb])).1, fun i hi => ?_⟩⟩
  · rw [List.length_append, List.length_singleton] at hi hj
    by_cases h1 : i < m.length
    · by_cases h2 : j < m.length
      · rw [setR_lt h1, setR_lt h2] at e
        exact A.inj i j h1 h2 e
      · have : j = m.length := by omega
        subst this
        rw [setR_lt h1, setR_eq] at e
        exact absurd e (dis i h1)
    · have : i = m.length := by omega
      subst this
      by_cases h2 : j < m.length
      · rw [setR_lt h2, setR_eq] at e
        exact absurd e.symm (dis j h2)
      · omega
  · rw [List.length_append, List.length_singleton]
    by_cases h1 : i < m.length
    · rw [List.getElem?_append_left h1] at e
      have h := A.obj i o e
      cases o with
      | lst ys =>
        obtain ⟨ws, h3, h4⟩ := h
        exact ⟨ws, by rw [setR_lt h1]; exact h3, h4.track⟩
    · have hi : i = m.length := by
        have := (List.getElem?_eq_some_iff.mp e).1
        rw [List.length_append, List.length_singleton] at this
        omega
      subst hi
      rw [List.getElem?_append_right (Nat.le_refl _), Nat.sub_self] at e
      cases e
      exact ⟨vs, by rw [setR_eq]; exact hq, l.track⟩
  · rw [List.length_append, List.length_singleton] at hi
    by_cases h1 : i < m.length
    · rw [setR_lt h1]; exact (A.blk b (by simp [hb])).2 i h1
    · have : i = m.length := by omega
      subst this
      rw [setR_eq]
      intro z
      exact qB (by rw [z]; exact hb)
end
end PI
/-! PI, part b: the small language and its evaluator. -/
namespace PI
open PySem PySem.Spec PyProof.Rows L2

/-- what a run gives -/
inductive Res (α : Type) where
  | ok (a : α) (m : Mem)
  | exc (c : Nat) (d : List (Str × AV)) (m : Mem)
  | bad
  deriving Inhabited
@[inline] def Res.bind {α β : Type} (x : Res α) (f : α → Mem → Res β) : Res β := match x with
  | .ok a m => f a m
  | .exc c d m => .exc c d m
  | .bad => .bad

inductive Bop where | add | sub | mul | fdiv | mod | pow
  deriving DecidableEq
inductive Cop where | eq | ne | lt | le | gt | ge | isN | notN | isIn | notIn
  deriving DecidableEq
/-- built-ins -/
inductive Bi where | len | abs | max | min | tuple | list | int | sum | all | any | repr | str
  deriving DecidableEq
/-- built-in types, for isinstance -/
inductive Ty where | int | bool | str | tuple | list
  deriving DecidableEq
inductive Me where | append | extend | pop
  deriving DecidableEq

inductive Tg where
  | nm (i : Nat)
  | tu (ts : List Nat)
  deriving Inhabited

inductive Ex where
  | non | bl (b : Bool) | int (i : Int) | str (cs : List Nat)
  | v (i : Nat)
  | g (k : Nat)
  | f (k : Nat)
  | tup (es : List Ex)
  | lst (es : List Ex)
  | mk (e : Ex)
  | bin (o : Bop) (a b : Ex)
  | neg (a : Ex)
  | not (a : Ex)
  | cmp (o : Cop) (a b : Ex)
  | chn (o o' : Cop) (a b c : Ex)
  | and (es : List Ex)
  | or (es : List Ex)
  | ite (c a b : Ex)
  | sub (a i : Ex)
  | slc (a : Ex) (lo hi : Option Ex)
  | rev (a : Ex)
  | call (k : Nat) (es : List Ex)
  | calv (i : Nat) (es : List Ex)
  | bi (b : Bi) (es : List Ex)
  | isi (a : Ex) (t : Ty)
  | meth (f : Me) (o : Ex) (es : List Ex)
  | lc (elt : Ex) (own : List Nat) (tg : Tg) (it : Nat) (src : List Ex) (cond : Option Ex)
  deriving Inhabited
/-- what a loop goes over: 0: the thing itself; 1: range; 2: enumerate; 3: zip -/
abbrev ItK := Nat

abbrev Env' := List (Option AV)

/-! ### values -/
/-- a list's items -/
def lstOf (m : Mem) : AV → Option (List AV)
  | .frl xs => some xs
  | .scr xs => some xs
  | .ref i => match m[i]? with
    | some (.lst xs) => some xs
    | none => none
  | _ => none
/-- .. of one of the run's own -/
def lstW (m : Mem) : AV → Option (List AV)
  | .frl xs => some xs
  | .ref i => match m[i]? with
    | some (.lst xs) => some xs
    | none => none
  | _ => none
section
variable (rf : Nat → Option PyData)
mutual
/-- as data; rf: what the tracked objects are -/
def pD : AV → Option PyData
  | .non => some .none
  | .bl b => some (.bool b)
  | .int i => some (.int i)
  | .str cs => some (.str (toStr cs))
  | .tup xs => (pDs xs).map .tuple
  | .frl xs => (pDs xs).map .list
  | .scr xs => (pDs xs).map .list
  | .ref i => rf i
  | .fn _ => none
def pDs : List AV → Option (List PyData)
  | [] => some []
  | x :: xs => match pD x, pDs xs with
    | some d, some ds => some (d :: ds)
    | _, _ => none
end
end
def rfK (m : Mem) : Nat → Nat → Option PyData
  | 0, _ => none
  | k + 1, i => match m[i]? with
    | some (.lst xs) => (pDs (rfK m k) xs).map .list
    | none => none
def toD (m : Mem) (a : AV) : Option PyData := pD (rfK m 8) a
def eqE (m : Mem) (a b : AV) : Option Bool := match toD m a, toD m b with
  | some d, some e => if SeqAt.shaped d && SeqAt.shaped e then some (PyData.eqv d e) else none
  | _, _ => none

def mulOk (i j : Int) : Bool := decide (i.natAbs.log2 + j.natAbs.log2 < 1000000)
def divOk (i j : Int) : Bool := decide (j ≠ 0) && !(Builtin.divisionGoesByPylong i j)
def okLen (n : Nat) : Bool := decide (n ≤ sizeLine)

def repL (xs : List AV) (k : Nat) : List AV := (List.replicate k xs).flatten

def addE (m : Mem) : AV → AV → Option AV
  | .int i, .int j => some (.int (i + j))
  | .str x, .str y => if okLen (x.length + y.length) then some (.str (x ++ y)) else none
  | .tup xs, .tup ys => if okLen (xs.length + ys.length) then some (.tup (xs ++ ys)) else none
  | x, y => match lstW m x with
    | some xs => match lstW m y with
      | some ys => if okLen (xs.length + ys.length) then some (.frl (xs ++ ys)) else none
      | none => none
    | none => none
def mulE (m : Mem) : AV → AV → Option AV
  | .int i, .int j => if mulOk i j then some (.int (i * j)) else none
  | .tup xs, .int k => if decide (-1000 ≤ k ∧ k ≤ 1000 ∧ xs.length ≤ 1000) then some (.tup (repL xs k.toNat)) else none
  | x, .int k => match lstW m x with
    | some xs => if decide (-(2 ^ 63) ≤ k ∧ k < 2 ^ 63 ∧ xs.length * k.toNat ≤ sizeLine) then some (.frl (repL xs k.toNat)) else none
    | none => none
  | _, _ => none
def int2 (f : Int → Int → Option Int) : AV → AV → Option AV
  | .int i, .int j => (f i j).map .int
  | _, _ => none
def binE (m : Mem) : Bop → AV → AV → Option AV
  | .add => addE m
  | .sub => int2 fun i j => some (i - j)
  | .mul => mulE m
  | .fdiv => int2 fun i j => if divOk i j then some (i.fdiv j) else none
  | .mod => int2 fun i j => if decide (j ≠ 0) then some (i.fmod j) else none
  | .pow => int2 fun i j => if decide (0 ≤ j ∧ j ≤ 1000000 ∧ i.natAbs < 2 ^ 64) then some (i ^ j.toNat) else none

def cmpE (m : Mem) : Cop → AV → AV → Option Bool
  | .eq, a, b => eqE m a b
  | .ne, a, b => (eqE m a b).map (!·)
  | .lt, .int i, .int j => some (decide (i < j))
  | .le, .int i, .int j => some (decide (i ≤ j))
  | .gt, .int i, .int j => some (decide (j < i))
  | .ge, .int i, .int j => some (decide (j ≤ i))
  | .isN, .non, .non => some true
  | .isN, _, .non => some false
  | .notN, .non, .non => some false
  | .notN, _, .non => some true
  | _, _, _ => none

def cutA (xs : List AV) (lo hi : Option Int) : List AV := (xs.drop (HT.sIx xs.length 0 lo)).take (HT.sIx xs.length xs.length hi - HT.sIx xs.length 0 lo)

def subE (m : Mem) (a : AV) (i : Int) : Option AV := match a with
  | .tup xs => atI xs i
  | .str cs => if okLen cs.length then (atI cs i).map fun c => .str [c] else none
  | a => match lstOf m a with
    | some xs => atI xs i
    | none => none
def slcE (m : Mem) (a : AV) (lo hi : Option Int) : Option AV := match a with
  | .tup xs => some (.tup (cutA xs lo hi))
  | a => match lstOf m a with
    | some xs => some (.frl (cutA xs lo hi))
    | none => none
def revE (m : Mem) (a : AV) : Option AV := match a with
  | .tup xs => some (.tup xs.reverse)
  | a => match lstOf m a with
    | some xs => some (.frl xs.reverse)
    | none => none
def intsOf : List AV → Option (List Int)
  | [] => some []
  | .int i :: r => (intsOf r).map (i :: ·)
  | _ => none
def blsOf : List AV → Option (List Bool)
  | [] => some []
  | .bl b :: r => (blsOf r).map (b :: ·)
  | _ => none
def maxI : List Int → Option Int
  | [] => none
  | x :: xs => some (xs.foldl (fun a b => if b > a then b else a) x)
def minI : List Int → Option Int
  | [] => none
  | x :: xs => some (xs.foldl (fun a b => if b < a then b else a) x)
mutual
/-- how long a text shows data at most -/
def shB : PyData → Nat
  | .none => 4
  | .bool _ => 5
  | .int _ => 600
  | .str x => 12 * x.length + 2
  | .list xs => shBs xs + 2
  | .tuple xs => shBs xs + 3
  | .dict _ => 0
def shBs : List PyData → Nat
  | [] => 0
  | x :: xs => shB x + 2 + shBs xs
end
def isSeqD : PyData → Bool
  | .list _ | .tuple _ => true
  | _ => false
def reprE (m : Mem) (a : AV) : Option AV := match toD m a with
  | some d => if isSeqD d && PyData.showable d && decide (d.depth ≤ 64) && okLen (PyData.shown d).length then some (.str (PyData.shown d).cps.toList) else none
  | none => none

def biE (m : Mem) : Bi → List AV → Option AV
  | .len, [.tup xs] => some (.int xs.length)
  | .len, [.str cs] => if okLen cs.length then some (.int cs.length) else none
  | .len, [a] => (lstOf m a).map fun xs => .int xs.length
  | .abs, [.int i] => some (.int (if i < 0 then -i else i))
  | .max, [.int i, .int j] => some (.int (if j > i then j else i))
  | .min, [.int i, .int j] => some (.int (if j < i then j else i))
  | .max, [a] => ((lstOf m a).bind intsOf).bind fun ns => (maxI ns).map .int
  | .min, [a] => ((lstOf m a).bind intsOf).bind fun ns => (minI ns).map .int
  | .tuple, [.tup xs] => some (.tup xs)
  | .tuple, [a] => (lstOf m a).map .tup
  | .list, [.tup xs] => some (.frl xs)
  | .list, [a] => (lstOf m a).map .frl
  | .int, [.int i] => some (.int i)
  | .int, [.bl b] => some (.int (if b then 1 else 0))
  | .sum, [a] => ((lstOf m a).bind intsOf).map fun ns => .int ns.sum
  | .all, [a] => ((lstOf m a).bind blsOf).map fun bs => .bl (bs.all id)
  | .any, [a] => ((lstOf m a).bind blsOf).map fun bs => .bl (bs.any id)
  | .repr, [a] => reprE m a
  | _, _ => none
def isiE : AV → Ty → Option Bool
  | .int _, .int => some true
  | .bl _, .int => some true
  | .bl _, .bool => some true
  | .str _, .str => some true
  | .tup _, .tuple => some true
  | .frl _, .list => some true
  | .scr _, _ => none
  | .ref _, _ => none
  | .fn _, _ => none
  | _, _ => some false
def methE (m : Mem) : Me → AV → List AV → Option (AV × Mem)
  | .append, .ref i, [x] => match m[i]? with
    | some (.lst xs) => if decide (xs.length < sizeLine) then some (.non, m.set i (.lst (xs ++ [x]))) else none
    | none => none
  | .extend, .ref i, [x] => match m[i]?, lstW m x with
    | some (.lst xs), some ys => if okLen (xs.length + ys.length) then some (.non, m.set i (.lst (xs ++ ys))) else none
    | _, _ => none
  | .pop, .ref i, [] => match m[i]? with
    | some (.lst xs) => match xs[xs.length - 1]? with
      | some y => some (y, m.set i (.lst xs.dropLast))
      | none => none
    | none => none
  | _, _, _ => none
/-- a fresh list comes out of such an expression -/
def fresh : Ex → Bool
  | .lst _ | .lc .. => true
  | .bi .list _ => true
  | .bin .add a b => fresh a || fresh b
  | .bin .mul a _ => fresh a
  | _ => false

def setTg (env : Env') : Tg → AV → Option Env'
  | .nm i, x => some (env.set i (some x))
  | .tu ts, .tup xs => if ts.length = xs.length then some ((ts.zip xs).foldl (fun e p => e.set p.1 (some p.2)) env) else none
  | .tu _, _ => none

def inR (i : Int) : Bool := decide (-(2 ^ 62) ≤ i ∧ i < 2 ^ 62)
def seqOf (m : Mem) : AV → Option (List AV)
  | .tup xs => some xs
  | .frl xs => some xs
  | .scr xs => some xs
  | _ => none
def seqL : AV → Option (List AV)
  | .frl xs => some xs
  | .scr xs => some xs
  | _ => none
def enumA (k : Nat) : List AV → List AV
  | [] => []
  | x :: xs => .tup [.int k, x] :: enumA (k + 1) xs
/-- the items that a loop goes over, where these can't change -/
def itE (m : Mem) : ItK → List AV → Option (List AV)
  | 0, [a] => seqOf m a
  | 1, [.int j] => if inR j then some ((List.range j.toNat).map fun (k : Nat) => .int (0 + (k : Int))) else none
  | 1, [.int i, .int j] => if inR i && inR j then some ((List.range (j - i).toNat).map fun (k : Nat) => .int (i + (k : Int))) else none
  | 1, [.int i, .int j, .int st] => if inR i && inR j && decide (st = -1) then some ((List.range (i - j).toNat).map fun (k : Nat) => .int (i - (k : Int))) else none
  | 2, [a] => (seqOf m a).map (enumA 0)
  | 3, [.tup xs, .tup ys] => some ((xs.zip ys).map fun p => .tup [p.1, p.2])
  | 3, [a, b] => match seqL a, seqL b with
    | some xs, some ys => some ((xs.zip ys).map fun p => .tup [p.1, p.2])
    | _, _ => none
  | _, _ => none

def optR {α : Type} (m : Mem) : Option α → Res α
  | some a => .ok a m
  | none => .bad

section
variable (F : Nat → List AV → Mem → Res AV) (gv : Nat → AV)
/-- a comprehension's turns -/
def lcLoop (step : AV → Mem → Res (Option AV)) : List AV → List AV → Mem → Res (List AV)
  | [], acc, m => .ok acc m
  | x :: xs, acc, m => match step x m with
    | .ok none m' => lcLoop step xs acc m'
    | .ok (some y) m' => if decide (acc.length < sizeLine) then lcLoop step xs (acc ++ [y]) m' else .bad
    | _ => .bad
mutual
def evE : Ex → Env' → Mem → Res AV
  | .non, _, m => .ok .non m
  | .bl b, _, m => .ok (.bl b) m
  | .int i, _, m => .ok (.int i) m
  | .str cs, _, m => .ok (.str cs) m
  | .v i, env, m => match env[i]? with
    | some (some x) => .ok x m
    | _ => .bad
  | .g k, _, m => .ok (gv k) m
  | .f k, _, m => .ok (.fn k) m
  | .tup es, env, m => (evEs es env m).bind fun xs m => if okLen xs.length then .ok (.tup xs) m else .bad
  | .lst es, env, m => (evEs es env m).bind fun xs m => if okLen xs.length then .ok (.frl xs) m else .bad
  | .mk e, env, m => if fresh e then (evE e env m).bind fun x m => match x with
      | .frl xs => .ok (.ref m.length) (m ++ [.lst xs])
      | _ => .bad
    else .bad
  | .bin o a b, env, m => (evE a env m).bind fun x m => (evE b env m).bind fun y m => optR m (binE m o x y)
  | .neg a, env, m => (evE a env m).bind fun x m => match x with
    | .int i => .ok (.int (-i)) m
    | _ => .bad
  | .not a, env, m => (evE a env m).bind fun x m => match x with
    | .bl b => .ok (.bl (!b)) m
    | _ => .bad
  | .cmp o a b, env, m => (evE a env m).bind fun x m => (evE b env m).bind fun y m => optR m ((cmpE m o x y).map .bl)
  | .chn o o' a b c, env, m => (evE a env m).bind fun x m => (evE b env m).bind fun y m => match cmpE m o x y with
    | some true => (evE c env m).bind fun z m => optR m ((cmpE m o' y z).map .bl)
    | some false => .ok (.bl false) m
    | none => .bad
  | .and es, env, m => evAnd es env m
  | .or es, env, m => evOr es env m
  | .ite c a b, env, m => (evE c env m).bind fun x m => match x with
    | .bl true => evE a env m
    | .bl false => evE b env m
    | _ => .bad
  | .sub a i, env, m => (evE a env m).bind fun x m => (evE i env m).bind fun y m => match y with
    | .int i => optR m (subE m x i)
    | _ => .bad
  | .slc a lo hi, env, m => (evE a env m).bind fun x m => (evO lo env m).bind fun l m => (evO hi env m).bind fun h m => optR m (slcE m x l h)
  | .rev a, env, m => (evE a env m).bind fun x m => optR m (revE m x)
  | .call k es, env, m => (evEs es env m).bind fun xs m => F k xs m
  | .calv i es, env, m => match env[i]? with
    | some (some (.fn k)) => (evEs es env m).bind fun xs m => F k xs m
    | _ => .bad
  | .bi b es, env, m => (evEs es env m).bind fun xs m => optR m (biE m b xs)
  | .isi a t, env, m => (evE a env m).bind fun x m => optR m ((isiE x t).map .bl)
  | .meth f o es, env, m => (evE o env m).bind fun x m => match x with
    | .ref i => (evEs es env m).bind fun xs m => match methE m f (.ref i) xs with
      | some (y, m) => .ok y m
      | none => .bad
    | _ => .bad
  | .lc elt own tg it src cond, env, m => (evEs src env m).bind fun ss m => match itE m it ss with
    | some xs => (lcLoop (fun x m => match setTg (wipeE env own) tg x with
        | some e2 => match evC cond e2 m with
          | .ok true m => (evE elt e2 m).bind fun y m => .ok (some y) m
          | .ok false m => .ok none m
          | _ => .bad
        | none => .bad) xs [] m).bind fun ys m => .ok (.frl ys) m
    | none => .bad
def evEs : List Ex → Env' → Mem → Res (List AV)
  | [], _, m => .ok [] m
  | e :: es, env, m => (evE e env m).bind fun x m => (evEs es env m).bind fun xs m => .ok (x :: xs) m
def evO : Option Ex → Env' → Mem → Res (Option Int)
  | none, _, m => .ok none m
  | some e, env, m => (evE e env m).bind fun x m => match x with
    | .int i => .ok (some i) m
    | _ => .bad
def evC : Option Ex → Env' → Mem → Res Bool
  | none, _, m => .ok true m
  | some e, env, m => (evE e env m).bind fun x m => match x with
    | .bl b => .ok b m
    | _ => .bad
def evAnd : List Ex → Env' → Mem → Res AV
  | [], _, m => .bad
  | [e], env, m => evE e env m
  | e :: es, env, m => (evE e env m).bind fun x m => match x with
    | .bl true => evAnd es env m
    | .bl false => .ok (.bl false) m
    | _ => .bad
def evOr : List Ex → Env' → Mem → Res AV
  | [], _, m => .bad
  | [e], env, m => evE e env m
  | e :: es, env, m => (evE e env m).bind fun x m => match x with
    | .bl true => .ok (.bl true) m
    | .bl false => evOr es env m
    | _ => .bad
end
end

example (F : Nat → List AV → Mem → Res AV) (gv : Nat → AV) : evE F gv (.bin .add (.int 3) (.tup [.v 0])) [some .non] [] = .bad := rfl
example (F : Nat → List AV → Mem → Res AV) (gv : Nat → AV) (i : Int) : evE F gv (.bin .add (.int 3) (.v 0)) [some (.int i)] [] = .ok (.int (3 + i)) [] := rfl
end PI
/-! PI, part c: statements, defs, the program. -/
namespace PI
open PySem PySem.Spec PyProof.Rows L2

inductive SRes where
  | nx (e : Env') (m : Mem)
  | rt (v : AV) (m : Mem)
  | bk (e : Env') (m : Mem)
  | ct (e : Env') (m : Mem)
  | exc (c : Nat) (d : List (Str × AV)) (e : Env') (m : Mem)
  | bad
  deriving Inhabited

inductive Sm where
  | set (i : Nat) (e : Ex)
  | setT (ts : List Nat) (e : Ex)
  | par (i j : Nat) (a b : Ex)
  | par3 (i j k : Nat) (a b c : Ex)
  | subs (o i e : Ex)
  | aug (i : Nat) (o : Bop) (e : Ex)
  | augs (o i : Ex) (p : Bop) (e : Ex)
  | ex (e : Ex)
  | ite (c : Ex) (t e : List Sm)
  | wh (c : Ex) (b : List Sm)
  | for_ (tg : Tg) (it : ItK) (src : List Ex) (b : List Sm)
  | ret (e : Ex)
  | retN
  | rais (c : Nat)
  | tryc (b : List Sm) (c : Nat) (h : List Sm)
  | pass | brk | cont
  deriving Inhabited

/-- an expression, then -/
@[inline] def Res.thenS {α : Type} (x : Res α) (env : Env') (f : α → Mem → SRes) : SRes := match x with
  | .ok a m => f a m
  | .exc c d m => .exc c d env m
  | .bad => .bad
/-- a loop's turn, then the rest -/
@[inline] def SRes.turn (x : SRes) (f : Env' → Mem → SRes) : SRes := match x with
  | .nx e m => f e m
  | .ct e m => f e m
  | .bk e m => .nx e m
  | .rt v m => .rt v m
  | .exc c d e m => .exc c d e m
  | .bad => .bad
@[inline] def SRes.seq (x : SRes) (f : Env' → Mem → SRes) : SRes := match x with
  | .nx e m => f e m
  | .ct e m => .ct e m
  | .bk e m => .bk e m
  | .rt v m => .rt v m
  | .exc c d e m => .exc c d e m
  | .bad => .bad
def whLoop (c : Env' → Mem → Res AV) (b : Env' → Mem → SRes) : Nat → Env' → Mem → SRes
  | 0, _, _ => .bad
  | n + 1, env, m => (c env m).thenS env fun x m => match x with
    | .bl true => (b env m).turn (whLoop c b n)
    | .bl false => .nx env m
    | _ => .bad
def forLoop (tg : Tg) (b : Env' → Mem → SRes) : List AV → Env' → Mem → SRes
  | [], env, m => .nx env m
  | x :: xs, env, m => match setTg env tg x with
    | some e2 => (b e2 m).turn (forLoop tg b xs)
    | none => .bad
def setItE (m : Mem) (o : AV) (i : AV) (x : AV) : Option Mem := match o, i with
  | .ref p, .int k => match m[p]? with
    | some (.lst xs) => match ixN xs.length k with
      | some j => some (m.set p (.lst (xs.set j x)))
      | none => none
    | none => none
  | _, _ => none
/-- so many turns a while may take -/
def loopK : Nat := 1000000000000
/-- an error, handled -/
def tryR (sb : Nat → Nat → Option Bool) (c : Nat) (h : Env' → Mem → SRes) : SRes → SRes
  | .exc c' d env m => match sb c' c with
    | some true => h env m
    | some false => .exc c' d env m
    | none => .bad
  | r => r
/-- name op= .. -/
def augE : Bop → AV → AV → Option AV
  | .add, .int i, .int j => some (.int (i + j))
  | .sub, .int i, .int j => some (.int (i - j))
  | .mul, .int i, .int j => if mulOk i j then some (.int (i * j)) else none
  | .fdiv, .int i, .int j => if divOk i j then some (.int (i.fdiv j)) else none
  | _, _, _ => none
section
variable (F : Nat → List AV → Mem → Res AV) (gv : Nat → AV) (sb : Nat → Nat → Option Bool)
mutual
def evS : Sm → Env' → Mem → SRes
  | .set i e, env, m => (evE F gv e env m).thenS env fun x m => .nx (env.set i (some x)) m
  | .setT ts e, env, m => (evE F gv e env m).thenS env fun x m => match setTg env (.tu ts) x with
    | some e2 => .nx e2 m
    | none => .bad
  | .par i j a b, env, m => (evE F gv a env m).thenS env fun x m => (evE F gv b env m).thenS env fun y m => .nx ((env.set i (some x)).set j (some y)) m
  | .par3 i j k a b c, env, m => (evE F gv a env m).thenS env fun x m => (evE F gv b env m).thenS env fun y m => (evE F gv c env m).thenS env fun z m => .nx (((env.set i (some x)).set j (some y)).set k (some z)) m
  | .subs o i e, env, m => (evE F gv e env m).thenS env fun x m => (evE F gv o env m).thenS env fun p m => (evE F gv i env m).thenS env fun k m => match setItE m p k x with
    | some m => .nx env m
    | none => .bad
  | .aug i o e, env, m => match env[i]? with
    | some (some x) => (evE F gv e env m).thenS env fun y m => match augE o x y with
      | some z => .nx (env.set i (some z)) m
      | none => .bad
    | _ => .bad
  | .augs o i p e, env, m => (evE F gv o env m).thenS env fun x m => (evE F gv i env m).thenS env fun k m => match x, k with
    | .ref q, .int j => match subE m (.ref q) j with
      | some old => (evE F gv e env m).thenS env fun y m => match augE p old y with
        | some z => match setItE m (.ref q) (.int j) z with
          | some m => .nx env m
          | none => .bad
        | none => .bad
      | none => .bad
    | _, _ => .bad
  | .ex e, env, m => (evE F gv e env m).thenS env fun _ m => .nx env m
  | .ite c t e, env, m => (evE F gv c env m).thenS env fun x m => match x with
    | .bl true => evSs t env m
    | .bl false => evSs e env m
    | _ => .bad
  | .wh c b, env, m => whLoop (fun env m => evE F gv c env m) (fun env m => evSs b env m) loopK env m
  | .for_ tg it src b, env, m => (evEs F gv src env m).thenS env fun ss m => match itE m it ss with
    | some xs => forLoop tg (fun env m => evSs b env m) xs env m
    | none => .bad
  | .ret e, env, m => (evE F gv e env m).thenS env fun x m => .rt x m
  | .retN, _, m => .rt .non m
  | .rais c, env, m => .exc c [] env m
  | .tryc b c h, env, m => tryR sb c (fun env m => evSs h env m) (evSs b env m)
  | .pass, env, m => .nx env m
  | .brk, env, m => .bk env m
  | .cont, env, m => .ct env m
def evSs : List Sm → Env' → Mem → SRes
  | [], env, m => .nx env m
  | s :: ss, env, m => (evS s env m).seq (evSs ss)
end
end

mutual
/-- it names no tracked object from k on -/
def clsd (k : Nat) : AV → Bool
  | .ref i => decide (i < k)
  | .tup xs => clsdL k xs
  | .frl xs => clsdL k xs
  | .scr xs => clsdL k xs
  | _ => true
def clsdL (k : Nat) : List AV → Bool
  | [] => true
  | x :: xs => clsd k x && clsdL k xs
end
def clsdO (k : Nat) : AO → Bool
  | .lst xs => clsdL k xs
/-- behind a def: what it tracked itself is let go, if nothing names it -/
def cutM (k : Nat) (m : Mem) (vs : List AV) : Mem := if clsdL k vs && (m.take k).all (clsdO k) then m.take k else m

/-- a def: how many names, how many parameters, its body -/
structure FD where
  n : Nat
  ps : Nat
  body : List Sm

def finC (k : Nat) : SRes → Res AV
  | .rt v m => .ok v (cutM k m [v])
  | .nx _ m => .ok .non (cutM k m [])
  | .exc c d _ m => .exc c d (cutM k m (d.map (·.2)))
  | _ => .bad
/-- a def called, so many calls deep at most -/
def callE (P : Nat → Option FD) (gv : Nat → AV) (sb : Nat → Nat → Option Bool) : Nat → Nat → List AV → Mem → Res AV
  | 0, _, _, _ => .bad
  | n + 1, k, xs, m => match P k with
    | some d => if xs.length = d.ps then finC m.length (evSs (callE P gv sb n) gv sb d.body (xs.map some ++ List.replicate (d.n - d.ps) none) m) else .bad
    | none => .bad
end PI
/-! PI, part d: what a run's reading is; the combinators. -/
namespace PI
open PySem PySem.Spec PyProof.Rows L2

/-- where things lie: the written part, the defs, the classes of errors -/
structure Lay where
  K : PySem.W.Frag
  ft : Nat → Addr
  ct : Nat → Addr

/-- how an error lies: its own dict -/
def XR (d : List (Str × AV)) (dd : Option Addr) : Prop := d = [] ∧ dd = none

section
variable (Y : Lay)
/-- a state that lies as m, env -/
structure S0 (r : Nat → Addr) (m : Mem) (B : List Addr) (H : Hp) (env : Env') (σ : L2.St) : Prop where
  ab : Ab Y.K Y.ft r m B H
  er : EnvR Y.K Y.ft r m.length B H env σ
  nk : NK Y.K H
/-- how a result lies: by r, m, what is set aside, the heap -/
abbrev RelT (α β : Type) := (Nat → Addr) → Mem → List Addr → Hp → α → β → Prop
/-- the wish about a result, from the start r, m, H -/
def Fin {α β : Type} (RB : RelT α β) (W : WX) (r : Nat → Addr) (m : Mem) (B : List Addr) (H : Hp) (σ : L2.St) (Q : β → Hp → Prop) : Res α → Prop
  | .ok x m' => ∀ r' H' v, Ext r m.length H r' m'.length H' → Ab Y.K Y.ft r' m' B H' → NK Y.K H' → RB r' m' B H' x v → Q v H'
  | .exc c d m' => ∀ r' H' dd, Ext r m.length H r' m'.length H' → Ab Y.K Y.ft r' m' B H' → NK Y.K H' → XR d dd → W (.ref (Y.ct c)) dd σ H'
  | .bad => False
abbrev RV : RelT AV V := fun r m B H x v => Rep Y.K Y.ft r m.length B H x v
abbrev RL : RelT (List AV) (List V) := fun r m B H x v => RepL Y.K Y.ft r m.length B H x v
/-- the reading of a run -/
def tG {α β : Type} (ev : Env' → Mem → Res α) (RB : Hp → RelT α β) (W : WX) : L2.St → Hp → (β → Hp → Prop) → Prop := fun σ H Q =>
  ∃ r m B env, S0 Y r m B H env σ ∧ Fin Y (RB H) W r m B H σ Q (ev env m)
end

section
variable {Y : Lay} {α β γ δ : Type} {r r1 : Nat → Addr} {m m1 : Mem} {B : List Addr} {H H1 : Hp} {σ : L2.St} {W : WX}
theorem Fin.imp {RA : RelT α β} {Q Q' : β → Hp → Prop} {x : Res α} (h : Fin Y RA W r m B H σ Q x) (f : ∀ v H', Q v H' → Q' v H') : Fin Y RA W r m B H σ Q' x := by
  cases x with
  | ok a m' => exact fun r' H' v e a n q => f _ _ (h r' H' v e a n q)
  | exc c d m' => exact h
  | bad => exact h
theorem Fin.shift {RA : RelT α β} {Q : β → Hp → Prop} {x : Res α} (e1 : Ext r m.length H r1 m1.length H1) (h : Fin Y RA W r m B H σ Q x) : Fin Y RA W r1 m1 B H1 σ Q x := by
  cases x with
  | ok a m' => exact fun r' H' v e a n q => h r' H' v (e1.trans e) a n q
  | exc c d m' => exact fun r' H' dd e a n q => h r' H' dd (e1.trans e) a n q
  | bad => exact h
/-- what is known behind the first run of two -/
structure Mid (Y : Lay) (RA : RelT α β) (r : Nat → Addr) (m : Mem) (B : List Addr) (H : Hp) (x : Res α) (v : β) (H1 : Hp) (r1 : Nat → Addr) (a : α) (m1 : Mem) : Prop where
  eq : x = .ok a m1
  ext : Ext r m.length H r1 m1.length H1
  ab : Ab Y.K Y.ft r1 m1 B H1
  nk : NK Y.K H1
  rep : RA r1 m1 B H1 a v
theorem Fin.bind {RA : RelT α β} {RC : RelT γ δ} {Q : δ → Hp → Prop} {x : Res α} {f : α → Mem → Res γ}
    (h : Fin Y RC W r m B H σ Q (x.bind f)) : Fin Y RA W r m B H σ (fun v H1 => ∃ r1 a m1, Mid Y RA r m B H x v H1 r1 a m1 ∧ Fin Y RC W r1 m1 B H1 σ Q (f a m1)) x := by
  cases x with
  | ok a m' => exact fun r' H' v e ab n q => ⟨r', a, m', ⟨rfl, e, ab, n, q⟩, Fin.shift e h⟩
  | exc c d m' => exact h
  | bad => exact h
theorem S0.step {RA : RelT α β} {env : Env'} {x : Res α} {v : β} {a : α} (s : S0 Y r m B H env σ) (k : Mid Y RA r m B H x v H1 r1 a m1) : S0 Y r1 m1 B H1 env σ :=
  ⟨k.ab, s.er.mono k.ext k.nk, k.nk⟩
end

/-! ### the judgements, weakened -/
section
variable {X : Cx}
theorem nk_of {pins : List (Addr × Obj)} {σ : L2.St} {H : Hp} {s : Shared} (I : Inv X pins σ H s) : NK X.K H := fun b o e => (I.bs b o (I.mod.kin b o e)).2
theorem PE.weak {e : Expr} {t t' : TE} (h : PE X e t) (w : ∀ σ H Q, NK X.K H → t' σ H Q → t σ H fun v H' => NK X.K H' → Q v H') : PE X e t' :=
  ⟨fun pins s σ H Q I q => thn (h.run pins s σ H _ I (w σ H Q (nk_of I) q)) fun u s1 ⟨v, H1, I1, r1, q1⟩ => ⟨v, H1, I1, r1, q1 (nk_of I1)⟩⟩
theorem PT.weak {e : Expr} {t t' : TT} (h : PT X e t) (w : ∀ σ H Q, NK X.K H → t' σ H Q → t σ H fun v H' => NK X.K H' → Q v H') : PT X e t' :=
  ⟨fun pins s σ H Q I q => thn (h.run pins s σ H _ I (w σ H Q (nk_of I) q)) fun u s1 ⟨H1, I1, q1⟩ => ⟨H1, I1, q1 (nk_of I1)⟩⟩
theorem PW.weak {e : Expr} {t t' : TT} (h : PW X e t) (w : ∀ σ H Q, NK X.K H → t' σ H Q → t σ H fun v H' => NK X.K H' → Q v H') : PW X e t' :=
  ⟨fun wh pins s σ H Q I q => thn (h.run wh pins s σ H _ I (w σ H Q (nk_of I) q)) fun u s1 ⟨H1, I1, q1⟩ => ⟨H1, I1, q1 (nk_of I1)⟩⟩
theorem PA.weak {e : List Expr} {t t' : TA} (h : PA X e t) (w : ∀ σ H Q, NK X.K H → t' σ H Q → t σ H fun v H' => NK X.K H' → Q v H') : PA X e t' :=
  ⟨fun pos pins s σ H Q I q => thn (h.run pos pins s σ H _ I (w σ H Q (nk_of I) q)) fun u s1 ⟨v, H1, I1, r1, q1⟩ => ⟨v, H1, I1, r1, q1 (nk_of I1)⟩⟩
theorem PE.nk {e : Expr} {t : TE} (h : PE X e t) : PE X e fun σ H Q => t σ H fun v H' => NK X.K H' → Q v H' := PE.weak h fun _ _ _ _ q => q
end

/-! ### values by what they lie as -/
section
variable {K : PySem.W.Frag} {ft : Nat → Addr} {r : Nat → Addr} {n : Nat} {B : List Addr} {H : Hp} {v : V}
theorem Rep.int_inv {i : Int} (h : Rep K ft r n B H (.int i) v) : v = .int i := by cases h; rfl
theorem Rep.bl_inv {b : Bool} (h : Rep K ft r n B H (.bl b) v) : v = .bl b := by cases h; rfl
theorem Rep.non_inv (h : Rep K ft r n B H .non v) : v = .non := by cases h; rfl
theorem Rep.str_inv {cs : List Nat} (h : Rep K ft r n B H (.str cs) v) : v = .str (toStr cs) := by cases h; rfl
theorem Rep.tup_inv {xs : List AV} (h : Rep K ft r n B H (.tup xs) v) : ∃ a vs, v = .ref a ∧ SqT K H a vs ∧ Un r n B a ∧ RepL K ft r n B H xs vs := by
  cases h with
  | tup h1 h2 h3 => exact ⟨_, _, rfl, h1, h2, h3⟩
theorem Rep.frl_inv {xs : List AV} (h : Rep K ft r n B H (.frl xs) v) : ∃ a vs, v = .ref a ∧ H a = some (.lst vs) ∧ Un r n B a ∧ RepL K ft r n B H xs vs := by
  cases h with
  | frl h1 h2 h3 => exact ⟨_, _, rfl, h1, h2, h3⟩
theorem Rep.scr_inv {xs : List AV} (h : Rep K ft r n B H (.scr xs) v) : ∃ a vs, v = .ref a ∧ SqL K H a vs ∧ Un r n B a ∧ RepL K ft r n B H xs vs := by
  cases h with
  | scr h1 h2 h3 => exact ⟨_, _, rfl, h1, h2, h3⟩
theorem Rep.ref_inv {i : Nat} (h : Rep K ft r n B H (.ref i) v) : v = .ref (r i) ∧ i < n := by
  cases h with
  | ref h1 => exact ⟨rfl, h1⟩
/-- a list of the run's own -/
theorem Rep.lstW_inv {m : Mem} (ab : Ab K ft r m B H) {x : AV} {xs : List AV} (h : Rep K ft r m.length B H x v) (e : lstW m x = some xs) : ∃ a vs, v = .ref a ∧ H a = some (.lst vs) ∧ RepL K ft r m.length B H xs vs := by
  cases x with
  | frl ys =>
    obtain ⟨a, vs, e1, h1, h2, h3⟩ := h.frl_inv
    simp only [lstW, Option.some.injEq] at e
    subst e
    exact ⟨a, vs, e1, h1, h3⟩
  | ref i =>
    obtain ⟨e1, hi⟩ := h.ref_inv
    simp only [lstW] at e
    split at e
    · rename_i ys q
      cases e
      obtain ⟨vs, h1, h2⟩ := ab.obj i _ q
      exact ⟨_, vs, e1, h1, h2⟩
    · cases e
  | _ => simp [lstW] at e
/-- a list, tracked or not -/
theorem Rep.lst_inv {m : Mem} (ab : Ab K ft r m B H) {x : AV} {xs : List AV} (h : Rep K ft r m.length B H x v) (e : lstOf m x = some xs) : ∃ a vs, v = .ref a ∧ SqL K H a vs ∧ RepL K ft r m.length B H xs vs := by
  cases x with
  | frl ys =>
    obtain ⟨a, vs, e1, h1, h3⟩ := h.lstW_inv ab e
    exact ⟨a, vs, e1, .of h1, h3⟩
  | ref i =>
    obtain ⟨a, vs, e1, h1, h3⟩ := h.lstW_inv ab e
    exact ⟨a, vs, e1, .of h1, h3⟩
  | scr ys =>
    obtain ⟨a, vs, e1, h1, h2, h3⟩ := h.scr_inv
    simp only [lstOf, Option.some.injEq] at e
    subst e
    exact ⟨a, vs, e1, h1, h3⟩
  | _ => simp [lstOf] at e
end

/-- a new untracked object -/
theorem Ext.laid {r : Nat → Addr} {n : Nat} {H : Hp} {p : Addr} {o : HO} (l : ∀ i, i < n → H (r i) ≠ none) (hp : H p = none) : Ext r n H r n (upd H p o) :=
  ⟨Nat.le_refl _, fun _ _ => rfl, fun a u e _ => by rw [upd_ne (ne_of_none e hp)]; exact e, fun i h1 h2 => absurd h2 (Nat.not_lt.mpr h1), fun i h => by
    rw [upd_ne fun z => l i h (by rw [z]; exact hp)]
    exact l i h⟩
section
variable {K : PySem.W.Frag} {ft : Nat → Addr} {r r' : Nat → Addr} {m : Mem} {B : List Addr} {H H' : Hp} {p : Addr} {o : HO} {xs : List AV} {vs : List V}
theorem ab_mono (ab : Ab K ft r m B H) (e : Ext r m.length H r' m.length H') (nk : NK K H') (k : ∀ i, i < m.length → H' (r' i) = H (r i)) : Ab K ft r' m B H' := by
  refine ⟨fun i j hi hj z => ab.inj i j hi hj (by rw [← e.agr i hi, ← e.agr j hj]; exact z), fun i o q => ?_, fun b hb => ⟨?_, fun i hi => by rw [e.agr i hi]; exact (ab.blk b hb).2 i hi⟩⟩
  · have hi : i < m.length := (List.getElem?_eq_some_iff.mp q).1
    have h1 := ab.obj i o q
    cases o with
    | lst xs =>
      obtain ⟨vs, h2, h3⟩ := h1
      exact ⟨vs, by rw [k i hi]; exact h2, h3.mono e nk⟩
  · obtain ⟨h1, h2⟩ := ab.blk b hb
    cases q : H b with
    | none => exact absurd q h1
    | some u => rw [e.frm b u q h2]; exact fun z => by cases z
theorem Ab.laid (ab : Ab K ft r m B H) (hp : H p = none) (nk : NK K (upd H p o)) : Ab K ft r m B (upd H p o) :=
  ab_mono ab (Ext.laid (fun i h => ab.liveN h) hp) nk fun i h => upd_ne fun z => ab.liveN h (by rw [z]; exact hp)
theorem un_laid (ab : Ab K ft r m B H) (hp : H p = none) : Un r m.length B p := ⟨fun i h z => ab.liveN h (by rw [z]; exact hp), fun z => (ab.blk p z).1 hp⟩
theorem nk_new (nk : NK K (upd H p o)) : K.lookup p = none := by
  cases q : K.lookup p with
  | none => rfl
  | some u =>
    have := nk p u q
    rw [upd_same] at this; cases this
/-- a new tuple, a new list -/
theorem Rep.newTup (ab : Ab K ft r m B H) (hp : H p = none) (nk : NK K (upd H p (.tup vs))) (h : RepL K ft r m.length B H xs vs) : Rep K ft r m.length B (upd H p (.tup vs)) (.tup xs) (.ref p) :=
  .tup (.of upd_same) (un_laid ab hp) (h.mono (Ext.laid (fun i h => ab.liveN h) hp) nk)
theorem Rep.newLst (ab : Ab K ft r m B H) (hp : H p = none) (nk : NK K (upd H p (.lst vs))) (h : RepL K ft r m.length B H xs vs) : Rep K ft r m.length B (upd H p (.lst vs)) (.frl xs) (.ref p) :=
  .frl upd_same (un_laid ab hp) (h.mono (Ext.laid (fun i h => ab.liveN h) hp) nk)
/-- a new list: nothing else names it -/
def NewL (K : PySem.W.Frag) (ft : Nat → Addr) (r : Nat → Addr) (m : Mem) (B : List Addr) (H : Hp) (p : Addr) (xs : List AV) : Prop :=
  Ab K ft r m (p :: B) H ∧ p ∉ B ∧ ∃ vs, H p = some (.lst vs) ∧ RepL K ft r m.length (p :: B) H xs vs
theorem Ab.aside (ab : Ab K ft r m B H) (hp : H p = none) (nk : NK K (upd H p o)) : Ab K ft r m (p :: B) (upd H p o) := by
  have kp := nk_new nk
  have e : Ext r m.length H r m.length (upd H p o) := Ext.laid (fun i h => ab.liveN h) hp
  have a2 := ab.laid hp nk
  refine ⟨ab.inj, fun i o' q => ?_, fun b hb => ?_⟩
  · have hi : i < m.length := (List.getElem?_eq_some_iff.mp q).1
    have h1 := ab.obj i o' q
    cases o' with
    | lst xs =>
      obtain ⟨vs, h2, h3⟩ := h1
      exact ⟨vs, by rw [upd_ne (ne_of_none h2 hp)]; exact h2, (h3.avoid hp kp).mono e nk⟩
  · rcases List.mem_cons.mp hb with z | z
    · subst z
      exact ⟨by rw [upd_same]; exact (fun z => by cases z), (un_laid ab hp).1⟩
    · exact a2.blk b z
theorem NewL.new (ab : Ab K ft r m B H) (hp : H p = none) (nk : NK K (upd H p (.lst vs))) (h : RepL K ft r m.length B H xs vs) : NewL K ft r m B (upd H p (.lst vs)) p xs :=
  ⟨ab.aside hp nk, (un_laid ab hp).2, vs, upd_same, (h.avoid hp (nk_new nk)).mono (Ext.laid (fun i h => ab.liveN h) hp) nk⟩
end
end PI
/-! PI, part e: operators. -/
namespace PI
open PySem PySem.Spec PyProof.Rows L2

/-! ### a tuple so many times -/
theorem tmul_one (l : Addr) (items : Array Value) (n : Nat) (dd : Option Addr) (sl : Array (Option Value)) (x : Int) (u : Tok) (c0 : (decide (x < -(2 ^ 63)) || decide (x ≥ 2 ^ 63)) = false) (c1 : (items.isEmpty || x == 1) = true) :
    Meets (Builtin.«tuple.__mul__» ⟨[.ref l, .int x u], []⟩) (fun _ R s => s.heap.get? l = some { cls := .type "tuple", dict := dd, data := .seq items n, slots := sl } ∧ R (.ok (.ret (Value.ref l))) s) :=
  .of_wp fun prog w A R s h => by
    obtain ⟨hp, g, d, tk, os⟩ := s
    obtain ⟨hl, h⟩ := h
    have f1 := AutoSeq1.idx_int
    wp_walk using wpAny_loadPart' hl
    repeat (first
      | (refine wpAny_ite_false (decide_eq_false (by rw [c0]; exact Bool.false_ne_true)) ?_; wp_walk using wpAny_loadPart' hl)
      | (refine wpAny_ite_true (decide_eq_true c1) ?_; wp_walk using wpAny_loadPart' hl))
    exact ⟨_, rfl, h⟩
theorem tmul_nil (l : Addr) (items : Array Value) (n : Nat) (dd : Option Addr) (sl : Array (Option Value)) (x : Int) (u : Tok) (c0 : (decide (x < -(2 ^ 63)) || decide (x ≥ 2 ^ 63)) = false) (c1 : (items.isEmpty || x == 1) = false) (c2 : (decide (x ≤ 0) || items.isEmpty) = true) :
    Meets (Builtin.«tuple.__mul__» ⟨[.ref l, .int x u], []⟩) (fun _ R s => s.heap.get? l = some { cls := .type "tuple", dict := dd, data := .seq items n, slots := sl } ∧ R (.ok (.ret (Value.ref s.heap.objs.size))) { s with heap := s.heap.push { cls := Value.type "tuple", data := Data.seq #[] }, toks := s.toks }) :=
  .of_wp fun prog w A R s h => by
    obtain ⟨hp, g, d, tk, os⟩ := s
    obtain ⟨hl, h⟩ := h
    have f1 := AutoSeq1.idx_int
    wp_walk using wpAny_loadPart' hl
    repeat (first
      | (refine wpAny_ite_false (decide_eq_false (by rw [c0]; exact Bool.false_ne_true)) ?_; wp_walk using wpAny_loadPart' hl)
      | (refine wpAny_ite_false (decide_eq_false (by rw [c1]; exact Bool.false_ne_true)) ?_; wp_walk using wpAny_loadPart' hl)
      | (refine wpAny_ite_true (decide_eq_true c2) ?_; wp_walk using wpAny_loadPart' hl))
    exact ⟨_, rfl, h⟩
def rRepA (K : PySem.W.Frag) : R2 := fun x y H Q => ∃ l k xs, x = .ref l ∧ y = .int k ∧ SqT K H l xs ∧ k ≤ 1000 ∧ -1000 ≤ k ∧ xs.length ≤ 1000 ∧ ((xs = [] ∨ k = 1) → Q (.ref l) H) ∧ (¬ (xs = [] ∨ k = 1) → ∀ p, H p = none → Q (.ref p) (upd H p (.tup (List.replicate k.toNat xs).flatten)))
theorem op_repA {X : Cx} : OpR X (binaryOp .Mult) (rRepA X.K) := by
  intro pins s σ H x y v u Q I rx ry h
  obtain ⟨l, k, xs, rfl, rfl, hT, h2, h3, hz, q1, q2⟩ := h
  by_cases hb : ¬ (xs = [] ∨ k = 1) ∧ 2 ≤ k
  · exact op_repT pins s σ H _ _ v u Q I rx ry ⟨l, k, xs, rfl, rfl, hT, fun e => hb.1 (.inl e), hb.2, h2, hz, q2 hb.1⟩
  cases rx
  obtain ⟨t, rfl⟩ := ry
  obtain ⟨its, r, ⟨⟨cls, dd, data, sl⟩, ho, hc, n, hd⟩, hs⟩ := I.tuple hT
  simp only at hc hd
  subst hc hd
  have hle : its.length = xs.length := r.length.symm
  have c0 : (decide (k < -(2 ^ 63)) || decide (k ≥ 2 ^ 63)) = false := by
    rw [decide_eq_false (by omega), decide_eq_false (by omega)] <;> rfl
  have hem : its.toArray.isEmpty = decide (xs = []) := by
    cases its with
    | nil => simp at hle; simp [List.eq_nil_of_length_eq_zero hle.symm]
    | cons a b => cases xs with
      | nil => simp at hle
      | cons c d => rfl
  by_cases h1 : xs = [] ∨ k = 1
  · have c1 : (its.toArray.isEmpty || k == 1) = true := by
      rw [hem]
      rcases h1 with e | e <;> simp [e]
    refine wpAny_binaryOp_repeat_ref (T := "tuple") (U := "int") (by decide) ⟨_, ho, rfl⟩ (fun s' => typeIs_int s' k t) noFill_tuple_mul F.fills_int_mul F.slot_int_rmul repeat_tuple F.slot_int_index.lookup
      (call_meets F.slot_int_rmul (typeIs_int s k t) F.entry_int_rmul (F.args_int_rmul_2 _ _) (int_rmul_tuple k t l its.toArray n dd sl)
        ⟨ho, rfl, ⟨_, ho, rfl⟩, call_meets F.slot_tuple_mul ⟨_, ho, rfl⟩ F.entry_tuple_mul (F.args_tuple_mul_2 _ _) (tmul_one l its.toArray n dd sl k t c0 c1) ⟨ho, ?_⟩⟩)
    exact ⟨.ref l, H, I, rfl, q1 h1⟩
  · have hk : k ≤ 0 := by
      have : ¬ 2 ≤ k := fun z => hb ⟨h1, z⟩
      have : k ≠ 1 := fun z => h1 (.inr z)
      omega
    have c1 : (its.toArray.isEmpty || k == 1) = false := by
      rw [hem, decide_eq_false fun e => h1 (.inl e), Bool.false_or]
      exact beq_eq_false_iff_ne.mpr (by omega)
    have c2 : (decide (k ≤ 0) || its.toArray.isEmpty) = true := by
      rw [decide_eq_true hk, Bool.true_or]
    refine wpAny_binaryOp_repeat_ref (T := "tuple") (U := "int") (by decide) ⟨_, ho, rfl⟩ (fun s' => typeIs_int s' k t) noFill_tuple_mul F.fills_int_mul F.slot_int_rmul repeat_tuple F.slot_int_index.lookup
      (call_meets F.slot_int_rmul (typeIs_int s k t) F.entry_int_rmul (F.args_int_rmul_2 _ _) (int_rmul_tuple k t l its.toArray n dd sl)
        ⟨ho, rfl, ⟨_, ho, rfl⟩, call_meets F.slot_tuple_mul ⟨_, ho, rfl⟩ F.entry_tuple_mul (F.args_tuple_mul_2 _ _) (tmul_nil l its.toArray n dd sl k t c0 c1 c2) ⟨ho, ?_⟩⟩)
    have e0 : (List.replicate k.toNat xs).flatten = [] := by
      rw [show k.toNat = 0 by omega]; rfl
    refine ⟨.ref s.heap.objs.size, _, I.laid (t' := s.toks) (o := .tup (List.replicate k.toNat xs).flatten) (fun b ob q => Heap.get?_push_of_some _ q) (Nat.le_refl _) ?_, rfl, q2 h1 _ (I.hok.fresh (Nat.le_refl _))⟩
    rw [e0]
    exact ⟨Nat.zero_le _, [], .nil, IsTup.new _ _⟩

theorem op_mulB {X : Cx} : OpR X (binaryOp .Mult) (rI (fun i j => mulOk i j = true) fun i j => .int (i * j)) := opI fun i j _ _ _ _ _ hc q => mul_int q (CMulW.ok (show i.natAbs.log2 + j.natAbs.log2 < 1000000 from of_decide_eq_true hc))
theorem op_fdivB {X : Cx} : OpR X (binaryOp .FloorDiv) (rI (fun i j => divOk i j = true) fun i j => .int (i.fdiv j)) := opI fun i j _ _ _ _ _ hc q => by
  have h := Bool.and_eq_true_iff.mp hc
  exact floordiv_int (of_decide_eq_true h.1) q (.inl (by simpa using h.2))

def opOf : Bop → Operator
  | .add => .Add | .sub => .Sub | .mul => .Mult | .fdiv => .FloorDiv | .mod => .Mod | .pow => .Pow

/-- what a result of an operator is -/
def OkV (Y : Lay) (r : Nat → Addr) (m : Mem) (B : List Addr) (H : Hp) (z : AV) (Q : VK) : Prop :=
  ∀ H' v, Ext r m.length H r m.length H' → Ab Y.K Y.ft r m B H' → NK Y.K H' → Rep Y.K Y.ft r m.length B H' z v → (∀ xs, z = .frl xs → ∀ a, v = .ref a → H a = none ∧ NewL Y.K Y.ft r m B H' a xs) → Q v H'
theorem OkV.flat {Y : Lay} {r : Nat → Addr} {m : Mem} {B : List Addr} {H : Hp} {z : AV} {Q : VK} {v : V} (h : OkV Y r m B H z Q) (ab : Ab Y.K Y.ft r m B H) (nk : NK Y.K H) (q : Rep Y.K Y.ft r m.length B H z v) (nf : ∀ xs, z ≠ .frl xs) : Q v H :=
  h H v ab.ext ab nk q fun xs e => absurd e (nf xs)
theorem OkV.int {Y : Lay} {r : Nat → Addr} {m : Mem} {B : List Addr} {H : Hp} {i : Int} {Q : VK} (h : OkV Y r m B H (.int i) Q) (ab : Ab Y.K Y.ft r m B H) (nk : NK Y.K H) : Q (.int i) H := h.flat ab nk (.int i) fun _ z => by cases z
theorem OkV.bl {Y : Lay} {r : Nat → Addr} {m : Mem} {B : List Addr} {H : Hp} {i : Bool} {Q : VK} (h : OkV Y r m B H (.bl i) Q) (ab : Ab Y.K Y.ft r m B H) (nk : NK Y.K H) : Q (.bl i) H := h.flat ab nk (.bl i) fun _ z => by cases z
theorem OkV.newTup {Y : Lay} {r : Nat → Addr} {m : Mem} {B : List Addr} {H : Hp} {xs : List AV} {vs : List V} {Q : VK} {p : Addr} (h : OkV Y r m B H (.tup xs) Q) (ab : Ab Y.K Y.ft r m B H) (q : RepL Y.K Y.ft r m.length B H xs vs) (hp : H p = none) (nk : NK Y.K (upd H p (.tup vs))) : Q (.ref p) (upd H p (.tup vs)) :=
  h _ _ (Ext.laid (fun i hi => ab.liveN hi) hp) (ab.laid hp nk) nk (Rep.newTup ab hp nk q) fun _ z => by cases z
theorem OkV.newLst {Y : Lay} {r : Nat → Addr} {m : Mem} {B : List Addr} {H : Hp} {xs : List AV} {vs : List V} {Q : VK} {p : Addr} (h : OkV Y r m B H (.frl xs) Q) (ab : Ab Y.K Y.ft r m B H) (q : RepL Y.K Y.ft r m.length B H xs vs) (hp : H p = none) (nk : NK Y.K (upd H p (.lst vs))) : Q (.ref p) (upd H p (.lst vs)) :=
  h _ _ (Ext.laid (fun i hi => ab.liveN hi) hp) (ab.laid hp nk) nk (Rep.newLst ab hp nk q) fun ys e1 a e => by cases e; cases e1; exact ⟨hp, NewL.new ab hp nk q⟩
abbrev BinOk (Y : Lay) (X : Cx) (o : Bop) (rr : R2) : Prop := OpR X (binaryOp (opOf o)) rr ∧ ∀ (r : Nat → Addr) (m : Mem) (B : List Addr) (H : Hp) (x y z : AV) (v1 v2 : V) (Q : VK), Ab Y.K Y.ft r m B H → NK Y.K H →
    Rep Y.K Y.ft r m.length B H x v1 → Rep Y.K Y.ft r m.length B H y v2 → binE m o x y = some z → OkV Y r m B H z Q → rr v1 v2 H fun v H' => NK Y.K H' → Q v H'
theorem str_app (a b : List Nat) : toStr a ++ toStr b = toStr (a ++ b) := by
  show (⟨a.toArray ++ b.toArray⟩ : Str) = ⟨(a ++ b).toArray⟩
  simp
theorem str_len (a : List Nat) : (toStr a).length = a.length := by
  show (a.toArray).size = _
  simp
theorem okLen_le {n : Nat} (h : okLen n = true) : n ≤ sizeLine := of_decide_eq_true h
theorem int2_some {f : Int → Int → Option Int} {x y z : AV} (h : int2 f x y = some z) : ∃ i j k, x = .int i ∧ y = .int j ∧ z = .int k ∧ f i j = some k := by
  unfold int2 at h
  split at h
  · cases q : f _ _ with
    | none => rw [q] at h; cases h
    | some k => rw [q] at h; cases h; exact ⟨_, _, _, rfl, rfl, rfl, q⟩
  · cases h
section
variable {Y : Lay} {X : Cx} (hK : X.K = Y.K)
include hK
theorem add_ok : ∃ rr, BinOk Y X .add rr := by
  refine ⟨_, OpR.or op_add (OpR.or op_add_str (OpR.or op_catA op_cat)), ?_⟩
  intro r m B H x y z v1 v2 Q ab nk rx ry e k
  replace e : addE m x y = some z := e
  unfold addE at e
  split at e
  · cases e; exact .inl ⟨_, _, rx.int_inv, ry.int_inv, fun _ => k.int ab nk⟩
  · split at e
    · cases e
      rename_i hl
      exact .inr (.inl ⟨_, _, rx.str_inv, ry.str_inv, by rw [str_len, str_len]; exact okLen_le hl, fun _ => by rw [str_app]; exact k.flat ab nk (.str _) fun _ z => by cases z⟩)
    · cases e
  · split at e
    · cases e
      rename_i hl
      obtain ⟨a, vs, rfl, t1, u1, l1⟩ := rx.tup_inv
      obtain ⟨b, ws, rfl, t2, u2, l2⟩ := ry.tup_inv
      refine .inr (.inr (.inl ⟨a, b, vs, ws, rfl, rfl, by rw [hK]; exact t1, by rw [hK]; exact t2, by rw [← l1.length, ← l2.length]; exact okLen_le hl, fun e _ => ?_, fun _ e _ => ?_, fun _ _ p hp nk' => ?_⟩))
      · subst e; cases l1
        exact k.flat ab nk ry fun _ z => by cases z
      · subst e; cases l2
        rw [List.append_nil] at k
        exact k.flat ab nk rx fun _ z => by cases z
      · exact k.newTup ab (l1.append l2) hp nk'
    · cases e
  · split at e
    · rename_i xs e1
      split at e
      · rename_i ys e2
        split at e
        · cases e
          rename_i hl
          obtain ⟨a, vs, rfl, t1, l1⟩ := rx.lstW_inv ab e1
          obtain ⟨b, ws, rfl, t2, l2⟩ := ry.lstW_inv ab e2
          exact .inr (.inr (.inr ⟨a, b, vs, ws, rfl, rfl, t1, t2, by rw [← l1.length, ← l2.length]; exact okLen_le hl, fun p hp nk' => k.newLst ab (l1.append l2) hp nk'⟩))
        · cases e
      · cases e
    · cases e
theorem sub_ok : ∃ rr, BinOk Y X .sub rr := by
  refine ⟨_, op_sub, ?_⟩
  intro r m B H x y z v1 v2 Q ab nk rx ry e k
  obtain ⟨i, j, c, rfl, rfl, rfl, e2⟩ := int2_some (show int2 _ x y = some z from e)
  cases e2
  exact ⟨_, _, rx.int_inv, ry.int_inv, fun _ => k.int ab nk⟩
theorem mul_ok : ∃ rr, BinOk Y X .mul rr := by
  refine ⟨_, OpR.or op_mulB (OpR.or op_repA op_rep), ?_⟩
  intro r m B H x y z v1 v2 Q ab nk rx ry e k
  replace e : mulE m x y = some z := e
  unfold mulE at e
  split at e
  · split at e
    · rename_i hc
      cases e
      exact .inl ⟨_, _, rx.int_inv, ry.int_inv, hc, fun _ => k.int ab nk⟩
    · cases e
  · rename_i xs j
    split at e
    · rename_i hc
      cases e
      obtain ⟨a, vs, rfl, t1, u1, l1⟩ := rx.tup_inv
      obtain ⟨h1, h2, h3⟩ := of_decide_eq_true hc
      refine .inr (.inl ⟨a, j, vs, rfl, ry.int_inv, by rw [hK]; exact t1, h2, h1, by rw [← l1.length]; exact h3, fun hq _ => ?_, fun _ p hp nk' => ?_⟩)
      · have e2 : repL xs j.toNat = xs := by
          rcases hq with hq | hq
          · subst hq; cases l1
            unfold repL
            induction j.toNat with
            | zero => rfl
            | succ n ih => rw [List.replicate_succ, List.flatten_cons, ih]; rfl
          · subst hq
            show (List.replicate 1 xs).flatten = xs
            simp
        rw [e2] at k
        exact k.flat ab nk rx fun _ z => by cases z
      · exact k.newTup ab (l1.rep _) hp nk'
    · cases e
  · split at e
    · rename_i xs e1
      split at e
      · rename_i hc
        cases e
        obtain ⟨a, vs, rfl, t1, l1⟩ := rx.lstW_inv ab e1
        obtain ⟨h1, h2, h3⟩ := of_decide_eq_true hc
        exact .inr (.inr ⟨a, _, vs, rfl, ry.int_inv, t1, h1, h2, by rw [← l1.length]; exact h3, fun p hp nk' => k.newLst ab (l1.rep _) hp nk'⟩)
      · cases e
    · cases e
  · cases e
theorem fdiv_ok : ∃ rr, BinOk Y X .fdiv rr := by
  refine ⟨_, op_fdivB, ?_⟩
  intro r m B H x y z v1 v2 Q ab nk rx ry e k
  obtain ⟨i, j, c, rfl, rfl, rfl, e2⟩ := int2_some (show int2 _ x y = some z from e)

  split at e2
  · rename_i hc
    cases e2
    exact ⟨_, _, rx.int_inv, ry.int_inv, hc, fun _ => k.int ab nk⟩
  · cases e2
theorem mod_ok : ∃ rr, BinOk Y X .mod rr := by
  refine ⟨_, op_modN, ?_⟩
  intro r m B H x y z v1 v2 Q ab nk rx ry e k
  obtain ⟨i, j, c, rfl, rfl, rfl, e2⟩ := int2_some (show int2 _ x y = some z from e)

  split at e2
  · rename_i hc
    cases e2
    exact ⟨_, _, rx.int_inv, ry.int_inv, of_decide_eq_true hc, fun _ => k.int ab nk⟩
  · cases e2
theorem pow_ok : ∃ rr, BinOk Y X .pow rr := by
  refine ⟨_, op_pow, ?_⟩
  intro r m B H x y z v1 v2 Q ab nk rx ry e k
  obtain ⟨i, j, c, rfl, rfl, rfl, e2⟩ := int2_some (show int2 _ x y = some z from e)

  split at e2
  · rename_i hc
    cases e2
    exact ⟨_, _, rx.int_inv, ry.int_inv, (show 0 ≤ j ∧ j ≤ 1000000 ∧ i.natAbs < 2 ^ 64 from of_decide_eq_true hc), fun _ => k.int ab nk⟩
  · cases e2
theorem bin_ok (o : Bop) : ∃ rr, BinOk Y X o rr := by
  cases o
  · exact add_ok hK
  · exact sub_ok hK
  · exact mul_ok hK
  · exact fdiv_ok hK
  · exact mod_ok hK
  · exact pow_ok hK
end
end PI
/-! PI, part f: comparisons, items, slices, built-ins by values. -/
namespace PI
open PySem PySem.Spec PyProof.Rows L2

/-! ### as data -/
section
variable {K : PySem.W.Frag} {ft : Nat → Addr} {r : Nat → Addr} {n : Nat} {B : List Addr} {H : Hp}
theorem dpAll_of {rf : Nat → Option PyData} : ∀ {xs : List AV} {ds : List PyData} {vs : List V}, (∀ x ∈ xs, ∀ d v, pD rf x = some d → Rep K ft r n B H x v → Dp K H v d) → pDs rf xs = some ds → RepL K ft r n B H xs vs → DpAll K H vs ds
  | [], ds, vs, _, e, h => by
    simp only [pDs, Option.some.injEq] at e
    subst e; cases h; exact .nil
  | x :: xs, ds, vs, f, e, h => by
    simp only [pDs] at e
    split at e
    · rename_i d ds' e1 e2
      cases e
      cases h with
      | cons a b => exact .cons (f x (by simp) _ _ e1 a) (dpAll_of (fun y hy => f y (by simp [hy])) e2 b)
    · cases e
mutual
theorem dp_of {rf : Nat → Option PyData} (hr : ∀ i d, i < n → rf i = some d → Dp K H (.ref (r i)) d) : ∀ (x : AV) (d : PyData) (v : V), pD rf x = some d → Rep K ft r n B H x v → Dp K H v d
  | .non, d, v, e, h => by
    simp only [pD, Option.some.injEq] at e; subst e; rw [h.non_inv]; exact .non
  | .bl b, d, v, e, h => by
    simp only [pD, Option.some.injEq] at e; subst e; rw [h.bl_inv]; exact .bl b
  | .int b, d, v, e, h => by
    simp only [pD, Option.some.injEq] at e; subst e; rw [h.int_inv]; exact .int b
  | .str b, d, v, e, h => by
    simp only [pD, Option.some.injEq] at e; subst e; rw [h.str_inv]; exact .str _
  | .tup xs, d, v, e, h => by
    simp only [pD, Option.map_eq_some_iff] at e
    obtain ⟨ds, e1, rfl⟩ := e
    obtain ⟨a, vs, rfl, t, u, l⟩ := h.tup_inv
    exact .tup t (dps_of hr xs ds vs e1 l)
  | .frl xs, d, v, e, h => by
    simp only [pD, Option.map_eq_some_iff] at e
    obtain ⟨ds, e1, rfl⟩ := e
    obtain ⟨a, vs, rfl, t, u, l⟩ := h.frl_inv
    exact .lst (.of t) (dps_of hr xs ds vs e1 l)
  | .scr xs, d, v, e, h => by
    simp only [pD, Option.map_eq_some_iff] at e
    obtain ⟨ds, e1, rfl⟩ := e
    obtain ⟨a, vs, rfl, t, u, l⟩ := h.scr_inv
    exact .lst t (dps_of hr xs ds vs e1 l)
  | .ref i, d, v, e, h => by
    obtain ⟨rfl, hi⟩ := h.ref_inv
    exact hr i d hi e
  | .fn k, d, v, e, h => by simp [pD] at e
theorem dps_of {rf : Nat → Option PyData} (hr : ∀ i d, i < n → rf i = some d → Dp K H (.ref (r i)) d) : ∀ (xs : List AV) (ds : List PyData) (vs : List V), pDs rf xs = some ds → RepL K ft r n B H xs vs → DpAll K H vs ds
  | [], ds, vs, e, h => by
    simp only [pDs, Option.some.injEq] at e
    subst e; cases h; exact .nil
  | x :: xs, ds, vs, e, h => by
    simp only [pDs] at e
    split at e
    · rename_i d ds' e1 e2
      cases e
      cases h with
      | cons a b => exact .cons (dp_of hr x _ _ e1 a) (dps_of hr xs _ _ e2 b)
    · cases e
end
theorem rfK_ok {m : Mem} (ab : Ab K ft r m B H) : ∀ (k : Nat) (i : Nat) (d : PyData), i < m.length → rfK m k i = some d → Dp K H (.ref (r i)) d
  | 0, i, d, hi, e => by simp [rfK] at e
  | k + 1, i, d, hi, e => by
    simp only [rfK] at e
    split at e
    · rename_i xs q
      simp only [Option.map_eq_some_iff] at e
      obtain ⟨ds, e1, rfl⟩ := e
      obtain ⟨vs, h1, h2⟩ := ab.obj i _ q
      exact .lst (.of h1) (dps_of (fun i d h1 h2 => rfK_ok ab k i d h1 h2) xs ds vs e1 h2)
    · cases e
theorem toD_ok {m : Mem} (ab : Ab K ft r m B H) {x : AV} {d : PyData} {v : V} (e : toD m x = some d) (h : Rep K ft r m.length B H x v) : Dp K H v d :=
  dp_of (fun i d hi e => rfK_ok ab 8 i d hi e) x d v e h
end

def copOf : Cop → CmpOp
  | .eq => .Eq | .ne => .NotEq | .lt => .Lt | .le => .LtE | .gt => .Gt | .ge => .GtE | .isN => .Is | .notN => .IsNot | .isIn => .In | .notIn => .NotIn
abbrev CmpOk (Y : Lay) (X : Cx) (o : Cop) (rr : R2) : Prop := OpR X (compareOp (copOf o)) rr ∧ ∀ (r : Nat → Addr) (m : Mem) (B : List Addr) (H : Hp) (x y : AV) (b : Bool) (v1 v2 : V) (Q : VK), Ab Y.K Y.ft r m B H →
    Rep Y.K Y.ft r m.length B H x v1 → Rep Y.K Y.ft r m.length B H y v2 → cmpE m o x y = some b → Q (.bl b) H → rr v1 v2 H Q
theorem eqE_some {m : Mem} {x y : AV} {b : Bool} (h : eqE m x y = some b) : ∃ d e, toD m x = some d ∧ toD m y = some e ∧ SeqAt.shaped d = true ∧ SeqAt.shaped e = true ∧ b = PyData.eqv d e := by
  unfold eqE at h
  split at h
  · rename_i d e h1 h2
    split at h
    · rename_i hc
      cases h
      have := Bool.and_eq_true_iff.mp hc
      exact ⟨d, e, h1, h2, this.1, this.2, rfl⟩
    · cases h
  · cases h
theorem Rep.isNon {K : PySem.W.Frag} {ft : Nat → Addr} {r : Nat → Addr} {n : Nat} {B : List Addr} {H : Hp} {x : AV} {v : V} (h : Rep K ft r n B H x v) (e : v = .non) : x = .non := by
  subst e
  cases h; rfl
section
variable {Y : Lay} {X : Cx} (hK : X.K = Y.K) (hu : X.A.units + 64 < cLine)
include hK hu
theorem cmp_ok (o : Cop) (h : o ≠ .isIn ∧ o ≠ .notIn) : ∃ rr, CmpOk Y X o rr := by
  cases o with
  | eq =>
    refine ⟨_, op_eqD hu, ?_⟩
    intro r m B H x y b v1 v2 Q ab rx ry e q
    obtain ⟨d, c, h1, h2, h3, h4, rfl⟩ := eqE_some (show eqE m x y = some b from e)
    exact ⟨d, c, by rw [hK]; exact toD_ok ab h1 rx, by rw [hK]; exact toD_ok ab h2 ry, h3, h4, q⟩
  | ne =>
    refine ⟨_, op_neD hu, ?_⟩
    intro r m B H x y b v1 v2 Q ab rx ry e q
    have e' : (eqE m x y).map (!·) = some b := e
    simp only [Option.map_eq_some_iff] at e'
    obtain ⟨b', e1, rfl⟩ := e'
    obtain ⟨d, c, h1, h2, h3, h4, rfl⟩ := eqE_some e1
    exact ⟨d, c, by rw [hK]; exact toD_ok ab h1 rx, by rw [hK]; exact toD_ok ab h2 ry, h3, h4, q⟩
  | lt =>
    refine ⟨_, op_lt, ?_⟩
    intro r m B H x y b v1 v2 Q ab rx ry e q
    unfold cmpE at e
    split at e <;> first | contradiction | skip
    cases e; exact ⟨_, _, rx.int_inv, ry.int_inv, q⟩
  | le =>
    refine ⟨_, op_le, ?_⟩
    intro r m B H x y b v1 v2 Q ab rx ry e q
    unfold cmpE at e
    split at e <;> first | contradiction | skip
    cases e; exact ⟨_, _, rx.int_inv, ry.int_inv, q⟩
  | gt =>
    refine ⟨_, op_gt, ?_⟩
    intro r m B H x y b v1 v2 Q ab rx ry e q
    unfold cmpE at e
    split at e <;> first | contradiction | skip
    cases e; exact ⟨_, _, rx.int_inv, ry.int_inv, q⟩
  | ge =>
    refine ⟨_, op_ge, ?_⟩
    intro r m B H x y b v1 v2 Q ab rx ry e q
    unfold cmpE at e
    split at e <;> first | contradiction | skip
    cases e; exact ⟨_, _, rx.int_inv, ry.int_inv, q⟩
  | isN =>
    refine ⟨_, op_isN, ?_⟩
    intro r m B H x y b v1 v2 Q ab rx ry e q
    unfold cmpE at e
    split at e <;> first | contradiction | skip
    · cases e
      refine ⟨ry.non_inv, ?_⟩
      rw [rx.non_inv, decide_eq_true rfl]; exact q
    · cases e
      refine ⟨ry.non_inv, ?_⟩
      rw [decide_eq_false fun z => by have := rx.isNon z; simp_all]; exact q
  | notN =>
    refine ⟨_, op_notN, ?_⟩
    intro r m B H x y b v1 v2 Q ab rx ry e q
    unfold cmpE at e
    split at e <;> first | contradiction | skip
    · cases e
      refine ⟨ry.non_inv, ?_⟩
      rw [rx.non_inv, decide_eq_true rfl]; exact q
    · cases e
      refine ⟨ry.non_inv, ?_⟩
      rw [decide_eq_false fun z => by have := rx.isNon z; simp_all]; exact q
  | isIn => exact absurd rfl h.1
  | notIn => exact absurd rfl h.2
end

/-! ### items, slices -/
theorem RepL.atI {K : PySem.W.Frag} {ft : Nat → Addr} {r : Nat → Addr} {n : Nat} {B : List Addr} {H : Hp} {xs : List AV} {vs : List V} (h : RepL K ft r n B H xs vs) {i : Int} {x : AV} (e : L2.atI xs i = some x) : ∃ v, L2.atI vs i = some v ∧ Rep K ft r n B H x v := by
  unfold L2.atI at e ⊢
  rw [← h.length]
  cases q : ixN xs.length i with
  | none => rw [q] at e; cases e
  | some j =>
    rw [q] at e
    exact h.get e
theorem RepL.cut {K : PySem.W.Frag} {ft : Nat → Addr} {r : Nat → Addr} {n : Nat} {B : List Addr} {H : Hp} {xs : List AV} {vs : List V} (h : RepL K ft r n B H xs vs) (lo hi : Option Int) : RepL K ft r n B H (cutA xs lo hi) (cutV vs lo hi) := by
  unfold cutA cutV
  rw [← h.length]
  exact (h.drop _).take _
theorem subE_some {m : Mem} {a z : AV} {i : Int} (h : subE m a i = some z) : (∃ xs, a = .tup xs ∧ atI xs i = some z) ∨ (∃ cs c, a = .str cs ∧ cs.length ≤ sizeLine ∧ atI cs i = some c ∧ z = .str [c]) ∨ ∃ xs, lstOf m a = some xs ∧ atI xs i = some z := by
  unfold subE at h
  split at h
  · exact .inl ⟨_, rfl, h⟩
  · split at h
    · rename_i hl
      simp only [Option.map_eq_some_iff] at h
      obtain ⟨c, h1, rfl⟩ := h
      exact .inr (.inl ⟨_, c, rfl, okLen_le hl, h1, rfl⟩)
    · cases h
  · split at h
    · exact .inr (.inr ⟨_, by assumption, h⟩)
    · cases h
section
variable {Y : Lay} {X : Cx} (hK : X.K = Y.K)
include hK
theorem sub_okI : ∃ rr, IxR X rr ∧ ∀ (r : Nat → Addr) (m : Mem) (B : List Addr) (H : Hp) (x z : AV) (i : Int) (v1 : V) (Q : VK), Ab Y.K Y.ft r m B H → Rep Y.K Y.ft r m.length B H x v1 → subE m x i = some z →
    (∀ v, Rep Y.K Y.ft r m.length B H z v → Q v H) → rr v1 (.int i) H Q := by
  refine ⟨_, ix_list.or (ix_tup.or ix_str), ?_⟩
  intro r m B H x z i v1 Q ab rx e q
  rcases subE_some e with ⟨xs, rfl, e1⟩ | ⟨cs, c, rfl, hl, e1, rfl⟩ | ⟨xs, e0, e1⟩
  · obtain ⟨a, vs, rfl, t, u, l⟩ := rx.tup_inv
    obtain ⟨v, h1, h2⟩ := l.atI e1
    exact .inr (.inl ⟨a, vs, i, v, rfl, rfl, by rw [hK]; exact t, h1, q v h2⟩)
  · exact .inr (.inr ⟨_, i, c, rx.str_inv, rfl, by rw [str_len]; exact hl, by simpa [toStr] using e1, q _ (.str [c])⟩)
  · obtain ⟨a, vs, rfl, t, l⟩ := rx.lst_inv ab e0
    obtain ⟨v, h1, h2⟩ := l.atI e1
    exact .inl ⟨a, vs, i, v, rfl, rfl, by rw [hK]; exact t, h1, q v h2⟩
theorem slc_ok : ∃ rr, SlR X rr ∧ ∀ (r : Nat → Addr) (m : Mem) (B : List Addr) (H : Hp) (x z : AV) (lo hi : Option Int) (v1 : V) (Q : VK), Ab Y.K Y.ft r m B H → NK Y.K H → Rep Y.K Y.ft r m.length B H x v1 → slcE m x lo hi = some z →
    OkV Y r m B H z Q → rr v1 lo hi H fun v H' => NK Y.K H' → Q v H' := by
  refine ⟨_, SlR.or sl_tupA sl_list, ?_⟩
  intro r m B H x z lo hi v1 Q ab nk rx e k
  unfold slcE at e
  split at e
  · cases e
    rename_i xs
    obtain ⟨a, vs, rfl, t, u, l⟩ := rx.tup_inv
    refine .inl ⟨a, vs, rfl, by rw [hK]; exact t, fun hw _ => ?_, fun _ p hp nk' => k.newTup ab (l.cut lo hi) hp nk'⟩
    have e2 : cutA xs lo hi = xs := by
      unfold cutA
      rw [l.length, hw.1, hw.2, List.drop_zero, Nat.sub_zero, ← l.length, List.take_length]
    rw [e2] at k
    exact k.flat ab nk rx fun _ z => by cases z
  · split at e
    · rename_i xs e0
      cases e
      obtain ⟨a, vs, rfl, t, l⟩ := rx.lst_inv ab e0
      exact .inr ⟨a, vs, rfl, by rw [hK]; exact t, fun p hp nk' => k.newLst ab (l.cut lo hi) hp nk'⟩
    · cases e
end

/-! ### built-ins -/
theorem maxI_fold : ∀ (xs : List Int) (a : Int), (xs.foldl (fun a b => if b > a then b else a) a = a ∨ xs.foldl (fun a b => if b > a then b else a) a ∈ xs) ∧ a ≤ xs.foldl (fun a b => if b > a then b else a) a ∧ ∀ y ∈ xs, y ≤ xs.foldl (fun a b => if b > a then b else a) a
  | [], a => ⟨.inl rfl, Int.le_refl _, fun y h => by cases h⟩
  | x :: xs, a => by
    obtain ⟨h1, h2, h3⟩ := maxI_fold xs (if x > a then x else a)
    simp only [List.foldl_cons, List.mem_cons]
    refine ⟨?_, ?_, ?_⟩
    · rcases h1 with h | h
      · split at h
        · rename_i hx; rw [if_pos hx]; exact .inr (.inl h)
        · rename_i hx; rw [if_neg hx]; exact .inl h
      · exact .inr (.inr h)
    · split at h2 <;> rename_i hx <;> simp only [hx, if_true, if_false] <;> omega
    · rintro y (rfl | h)
      · split at h2 <;> rename_i hx <;> simp only [hx, if_true, if_false] <;> omega
      · exact h3 y h
theorem minI_fold : ∀ (xs : List Int) (a : Int), (xs.foldl (fun a b => if b < a then b else a) a = a ∨ xs.foldl (fun a b => if b < a then b else a) a ∈ xs) ∧ xs.foldl (fun a b => if b < a then b else a) a ≤ a ∧ ∀ y ∈ xs, xs.foldl (fun a b => if b < a then b else a) a ≤ y
  | [], a => ⟨.inl rfl, Int.le_refl _, fun y h => by cases h⟩
  | x :: xs, a => by
    obtain ⟨h1, h2, h3⟩ := minI_fold xs (if x < a then x else a)
    simp only [List.foldl_cons, List.mem_cons]
    refine ⟨?_, ?_, ?_⟩
    · rcases h1 with h | h
      · split at h
        · rename_i hx; rw [if_pos hx]; exact .inr (.inl h)
        · rename_i hx; rw [if_neg hx]; exact .inl h
      · exact .inr (.inr h)
    · split at h2 <;> rename_i hx <;> simp only [hx, if_true, if_false] <;> omega
    · rintro y (rfl | h)
      · split at h2 <;> rename_i hx <;> simp only [hx, if_true, if_false] <;> omega
      · exact h3 y h
theorem intsOf_ok {K : PySem.W.Frag} {ft : Nat → Addr} {r : Nat → Addr} {n : Nat} {B : List Addr} {H : Hp} : ∀ {xs : List AV} {ns : List Int} {vs : List V}, intsOf xs = some ns → RepL K ft r n B H xs vs → vs = ns.map V.int
  | [], ns, vs, e, h => by simp only [intsOf, Option.some.injEq] at e; subst e; cases h; rfl
  | x :: xs, ns, vs, e, h => by
    cases h with
    | cons a b =>
      cases x with
      | int i =>
        simp only [intsOf, Option.map_eq_some_iff] at e
        obtain ⟨ms, e1, rfl⟩ := e
        rw [a.int_inv, intsOf_ok e1 b]; rfl
      | _ => simp [intsOf] at e
theorem blsOf_ok {K : PySem.W.Frag} {ft : Nat → Addr} {r : Nat → Addr} {n : Nat} {B : List Addr} {H : Hp} : ∀ {xs : List AV} {ns : List Bool} {vs : List V}, blsOf xs = some ns → RepL K ft r n B H xs vs → vs = ns.map V.bl
  | [], ns, vs, e, h => by simp only [blsOf, Option.some.injEq] at e; subst e; cases h; rfl
  | x :: xs, ns, vs, e, h => by
    cases h with
    | cons a b =>
      cases x with
      | bl i =>
        simp only [blsOf, Option.map_eq_some_iff] at e
        obtain ⟨ms, e1, rfl⟩ := e
        rw [a.bl_inv, blsOf_ok e1 b]; rfl
      | _ => simp [blsOf] at e
theorem RepL.one {K : PySem.W.Frag} {ft : Nat → Addr} {r : Nat → Addr} {n : Nat} {B : List Addr} {H : Hp} {x : AV} {vs : List V} (h : RepL K ft r n B H [x] vs) : ∃ v, vs = [v] ∧ Rep K ft r n B H x v := by
  cases h with
  | cons a b => cases b; exact ⟨_, rfl, a⟩
theorem RepL.two {K : PySem.W.Frag} {ft : Nat → Addr} {r : Nat → Addr} {n : Nat} {B : List Addr} {H : Hp} {x y : AV} {vs : List V} (h : RepL K ft r n B H [x, y] vs) : ∃ v w, vs = [v, w] ∧ Rep K ft r n B H x v ∧ Rep K ft r n B H y w := by
  cases h with
  | cons a b =>
    obtain ⟨w, rfl, h⟩ := b.one
    exact ⟨_, _, rfl, a, h⟩
/-- a built-in by values -/
abbrev BiOk (Y : Lay) (X : Cx) (f : Value) (ev : Mem → List AV → Option AV) (rr : List V → Hp → VK → Prop) : Prop := CallR X f rr ∧ ∀ (r : Nat → Addr) (m : Mem) (B : List Addr) (H : Hp) (xs : List AV) (z : AV) (vs : List V) (Q : VK), Ab Y.K Y.ft r m B H → NK Y.K H →
    RepL Y.K Y.ft r m.length B H xs vs → ev m xs = some z → OkV Y r m B H z Q → rr vs H fun v H' => NK Y.K H' → Q v H'
end PI
/-! PI, part g: built-ins. -/
namespace PI
open PySem PySem.Spec PyProof.Rows L2

section
variable {K : PySem.W.Frag} {H : Hp}
mutual
theorem noDict_of : ∀ {d : PyData} {v : V}, Dp K H v d → d.hasDict = false
  | _, _, .non => rfl
  | _, _, .bl _ => rfl
  | _, _, .int _ => rfl
  | _, _, .str _ => rfl
  | _, _, .lst _ h => by simp only [PyData.hasDict]; exact noDict_all h
  | _, _, .tup _ h => by simp only [PyData.hasDict]; exact noDict_all h
theorem noDict_all : ∀ {d : List PyData} {v : List V}, DpAll K H v d → PyData.hasDictAll d = false
  | _, _, .nil => rfl
  | _, _, .cons a b => by simp only [PyData.hasDictAll, noDict_of a, noDict_all b]; rfl
end
end
def rRepr (K : PySem.W.Frag) : List V → Hp → VK → Prop := fun xs H Q => ∃ a d, xs = [.ref a] ∧ Dp K H (.ref a) d ∧ d.showable = true ∧ d.depth ≤ 64 ∧ d.shown.length ≤ sizeLine ∧ Q (.str d.shown) H
theorem call_reprD {X : Cx} (hg : X.A.guards = some []) (hu : X.A.units + 100 < cLine) : CallR X (.builtin "repr") (rRepr X.K) := by
  intro pins s σ H xs us Q I r h
  obtain ⟨a, d, rfl, hd, hs, hdep, hsz, q⟩ := h
  obtain rfl := Vals.ref1 r
  obtain ⟨as, rd⟩ := Dp.reads I d _ _ hd rfl
  refine repr_of_reads' rd hs (PyData.noDict_hsm (noDict_of hd)) hg (by omega) (fun _ _ e => e) (fun h' u tk hk => ?_) hsz
  exact ⟨.str _, H, I.kept hk, ⟨_, rfl⟩, q⟩

theorem toStr_cps (x : Str) : toStr x.cps.toList = x := by
  show (⟨x.cps.toList.toArray⟩ : Str) = x
  simp
theorem opt_bind_some {α β : Type} {x : Option α} {f : α → Option β} {b : β} (h : x.bind f = some b) : ∃ a, x = some a ∧ f a = some b := by
  cases x with
  | none => cases h
  | some a => exact ⟨a, rfl, h⟩
theorem opt_map_some {α β : Type} {x : Option α} {f : α → β} {b : β} (h : x.map f = some b) : ∃ a, x = some a ∧ f a = b := by
  cases x with
  | none => cases h
  | some a => exact ⟨a, rfl, Option.some.inj h⟩
section
variable {Y : Lay} {X : Cx} (hK : X.K = Y.K)
include hK
def lenE (m : Mem) : List AV → Option AV := biE m .len
theorem len_bi : ∃ rr, BiOk Y X (.builtin "len") (fun m => biE m .len) rr := by
  refine ⟨_, call_len, ?_⟩
  intro r m B H xs z vs Q ab nk rx e k
  dsimp only at e
  unfold biE at e
  split at e <;> first | contradiction | skip
  · cases e
    obtain ⟨v, rfl, rv⟩ := rx.one
    obtain ⟨a, vs, rfl, t, u, l⟩ := rv.tup_inv
    exact ⟨_, _, rfl, .inr ⟨vs, by rw [hK]; exact t, l.length⟩, fun _ => k.int ab nk⟩
  · split at e
    · rename_i hl
      cases e
      obtain ⟨v, rfl, rv⟩ := rx.one
      exact ⟨_, _, rfl, by rw [rv.str_inv]; exact ⟨by rw [str_len]; exact okLen_le hl, (str_len _).symm⟩, fun _ => k.int ab nk⟩
    · cases e
  · obtain ⟨ys, e1, rfl⟩ := opt_map_some e
    obtain ⟨v, rfl, rv⟩ := rx.one
    obtain ⟨a, vs, rfl, t, l⟩ := rv.lst_inv ab e1
    exact ⟨_, _, rfl, .inl ⟨vs, by rw [hK]; exact t, l.length⟩, fun _ => k.int ab nk⟩
theorem abs_bi : ∃ rr, BiOk Y X (.builtin "abs") (fun m => biE m .abs) rr := by
  refine ⟨_, call_abs, ?_⟩
  intro r m B H xs z vs Q ab nk rx e k
  dsimp only at e
  unfold biE at e
  split at e <;> first | contradiction | skip
  cases e
  obtain ⟨v, rfl, rv⟩ := rx.one
  exact ⟨_, by rw [rv.int_inv], fun _ => k.int ab nk⟩
theorem max_bi (hc : X.calm = true) : ∃ rr, BiOk Y X (.builtin "max") (fun m => biE m .max) rr := by
  refine ⟨_, CallR.or (call_max2 hc) (cr_max hc), ?_⟩
  intro r m B H xs z vs Q ab nk rx e k
  dsimp only at e
  unfold biE at e
  split at e <;> first | contradiction | skip
  · cases e
    obtain ⟨v, w, rfl, rv, rw'⟩ := rx.two
    exact .inl ⟨_, _, by rw [rv.int_inv, rw'.int_inv], fun _ => k.int ab nk⟩
  · obtain ⟨ns, e1, e2⟩ := opt_bind_some e
    obtain ⟨ys, e3, e4⟩ := opt_bind_some e1
    obtain ⟨c, e5, rfl⟩ := opt_map_some e2
    obtain ⟨v, rfl, rv⟩ := rx.one
    obtain ⟨a, vs, rfl, t, l⟩ := rv.lst_inv ab e3
    obtain rfl := intsOf_ok e4 l
    cases ns with
    | nil => cases e5
    | cons x ns =>
      simp only [maxI, Option.some.injEq] at e5
      obtain ⟨h1, h2, h3⟩ := maxI_fold ns x
      rw [e5] at h1 h2 h3
      refine .inr ⟨a, _, rfl, by rw [hK]; exact t, by simp, fun c' hm hub _ => ?_⟩
      have hmem : c ∈ x :: ns := by
        rcases h1 with h | h
        · rw [h]; simp
        · simp [h]
      have h4 := hub c hmem
      have h5 : c' ≤ c := by
        rcases List.mem_cons.mp hm with rfl | h
        · exact h2
        · exact h3 _ h
      obtain rfl : c' = c := by omega
      exact k.int ab nk
theorem min_bi (hc : X.calm = true) : ∃ rr, BiOk Y X (.builtin "min") (fun m => biE m .min) rr := by
  refine ⟨_, CallR.or (call_min2 hc) (cr_min hc), ?_⟩
  intro r m B H xs z vs Q ab nk rx e k
  dsimp only at e
  unfold biE at e
  split at e <;> first | contradiction | skip
  · cases e
    obtain ⟨v, w, rfl, rv, rw'⟩ := rx.two
    exact .inl ⟨_, _, by rw [rv.int_inv, rw'.int_inv], fun _ => k.int ab nk⟩
  · obtain ⟨ns, e1, e2⟩ := opt_bind_some e
    obtain ⟨ys, e3, e4⟩ := opt_bind_some e1
    obtain ⟨c, e5, rfl⟩ := opt_map_some e2
    obtain ⟨v, rfl, rv⟩ := rx.one
    obtain ⟨a, vs, rfl, t, l⟩ := rv.lst_inv ab e3
    obtain rfl := intsOf_ok e4 l
    cases ns with
    | nil => cases e5
    | cons x ns =>
      simp only [minI, Option.some.injEq] at e5
      obtain ⟨h1, h2, h3⟩ := minI_fold ns x
      rw [e5] at h1 h2 h3
      refine .inr ⟨a, _, rfl, by rw [hK]; exact t, by simp, fun c' hm hub _ => ?_⟩
      have hmem : c ∈ x :: ns := by
        rcases h1 with h | h
        · rw [h]; simp
        · simp [h]
      have h4 := hub c hmem
      have h5 : c ≤ c' := by
        rcases List.mem_cons.mp hm with rfl | h
        · exact h2
        · exact h3 _ h
      obtain rfl : c' = c := by omega
      exact k.int ab nk
theorem tuple_bi : ∃ rr, BiOk Y X (.type "tuple") (fun m => biE m .tuple) rr := by
  refine ⟨_, call_tuple_of, ?_⟩
  intro r m B H xs z vs Q ab nk rx e k
  dsimp only at e
  unfold biE at e
  split at e <;> first | contradiction | skip
  · cases e
    obtain ⟨v, rfl, rv⟩ := rx.one
    obtain ⟨a, vs, rfl, t, u, l⟩ := id rv.tup_inv
    exact ⟨a, vs, rfl, .inr ⟨by rw [hK]; exact t, fun _ => k.flat ab nk rv fun _ z => by cases z⟩⟩
  · obtain ⟨ys, e1, rfl⟩ := opt_map_some e
    obtain ⟨v, rfl, rv⟩ := rx.one
    obtain ⟨a, vs, rfl, t, l⟩ := rv.lst_inv ab e1
    exact ⟨a, vs, rfl, .inl ⟨by rw [hK]; exact t, fun p hp nk' => k.newTup ab l hp nk'⟩⟩
theorem list_bi : ∃ rr, BiOk Y X (.type "list") (fun m => biE m .list) rr := by
  refine ⟨_, call_list_of, ?_⟩
  intro r m B H xs z vs Q ab nk rx e k
  dsimp only at e
  unfold biE at e
  split at e <;> first | contradiction | skip
  · cases e
    obtain ⟨v, rfl, rv⟩ := rx.one
    obtain ⟨a, vs, rfl, t, u, l⟩ := rv.tup_inv
    exact ⟨a, vs, rfl, .inr (by rw [hK]; exact t), fun p hp nk' => k.newLst ab l hp nk'⟩
  · obtain ⟨ys, e1, rfl⟩ := opt_map_some e
    obtain ⟨v, rfl, rv⟩ := rx.one
    obtain ⟨a, vs, rfl, t, l⟩ := rv.lst_inv ab e1
    exact ⟨a, vs, rfl, .inl (by rw [hK]; exact t), fun p hp nk' => k.newLst ab l hp nk'⟩
theorem int_bi : ∃ rr, BiOk Y X (.type "int") (fun m => biE m .int) rr := by
  refine ⟨_, call_int1, ?_⟩
  intro r m B H xs z vs Q ab nk rx e k
  dsimp only at e
  unfold biE at e
  split at e <;> first | contradiction | skip
  · cases e
    obtain ⟨v, rfl, rv⟩ := rx.one
    exact .inl ⟨_, by rw [rv.int_inv], fun _ => k.int ab nk⟩
  · cases e
    obtain ⟨v, rfl, rv⟩ := rx.one
    exact .inr ⟨_, by rw [rv.bl_inv], fun _ => k.int ab nk⟩
theorem sum_bi (hc : X.calm = true) : ∃ rr, BiOk Y X (.builtin "sum") (fun m => biE m .sum) rr := by
  refine ⟨_, cr_sum hc, ?_⟩
  intro r m B H xs z vs Q ab nk rx e k
  dsimp only at e
  unfold biE at e
  split at e <;> first | contradiction | skip
  obtain ⟨ns, e1, rfl⟩ := opt_map_some e
  obtain ⟨ys, e3, e4⟩ := opt_bind_some e1
  obtain ⟨v, rfl, rv⟩ := rx.one
  obtain ⟨a, vs, rfl, t, l⟩ := rv.lst_inv ab e3
  obtain rfl := intsOf_ok e4 l
  exact ⟨a, ns, rfl, by rw [hK]; exact t, fun _ => k.int ab nk⟩
theorem all_bi (hc : X.calm = true) : ∃ rr, BiOk Y X (.builtin "all") (fun m => biE m .all) rr := by
  refine ⟨_, cr_all hc, ?_⟩
  intro r m B H xs z vs Q ab nk rx e k
  dsimp only at e
  unfold biE at e
  split at e <;> first | contradiction | skip
  obtain ⟨ns, e1, rfl⟩ := opt_map_some e
  obtain ⟨ys, e3, e4⟩ := opt_bind_some e1
  obtain ⟨v, rfl, rv⟩ := rx.one
  obtain ⟨a, vs, rfl, t, l⟩ := rv.lst_inv ab e3
  obtain rfl := blsOf_ok e4 l
  exact ⟨a, ns, rfl, by rw [hK]; exact t, fun _ => k.bl ab nk⟩
theorem any_bi (hc : X.calm = true) : ∃ rr, BiOk Y X (.builtin "any") (fun m => biE m .any) rr := by
  refine ⟨_, cr_any hc, ?_⟩
  intro r m B H xs z vs Q ab nk rx e k
  dsimp only at e
  unfold biE at e
  split at e <;> first | contradiction | skip
  obtain ⟨ns, e1, rfl⟩ := opt_map_some e
  obtain ⟨ys, e3, e4⟩ := opt_bind_some e1
  obtain ⟨v, rfl, rv⟩ := rx.one
  obtain ⟨a, vs, rfl, t, l⟩ := rv.lst_inv ab e3
  obtain rfl := blsOf_ok e4 l
  exact ⟨a, ns, rfl, by rw [hK]; exact t, fun _ => k.bl ab nk⟩
theorem repr_bi (hg : X.A.guards = some []) (hu : X.A.units + 100 < cLine) : ∃ rr, BiOk Y X (.builtin "repr") (fun m => biE m .repr) rr := by
  refine ⟨_, call_reprD hg hu, ?_⟩
  intro r m B H xs z vs Q ab nk rx e k
  dsimp only at e
  unfold biE at e
  split at e <;> first | contradiction | skip
  rename_i a
  obtain ⟨v, rfl, rv⟩ := rx.one
  unfold reprE at e
  split at e
  · rename_i d e1
    split at e
    · rename_i hc
      cases e
      have h1 := Bool.and_eq_true_iff.mp hc
      have h2 := Bool.and_eq_true_iff.mp h1.1
      have h3 := Bool.and_eq_true_iff.mp h2.1
      have hd := toD_ok ab e1 rv
      have q : Q (.str d.shown) H := by
        have := k.flat (v := .str (toStr d.shown.cps.toList)) ab nk (.str _) fun _ z => by cases z
        rw [toStr_cps] at this
        exact this
      cases hd with
      | lst a b => exact ⟨_, _, rfl, by rw [hK]; exact .lst a b, h3.2, of_decide_eq_true h2.2, okLen_le h1.2, fun _ => q⟩
      | tup a b => exact ⟨_, _, rfl, by rw [hK]; exact .tup a b, h3.2, of_decide_eq_true h2.2, okLen_le h1.2, fun _ => q⟩
      | _ => cases h3.1
    · cases e
  · cases e
end
end PI
/-! PI, part h: the shapes of the text. -/
namespace PI
open PySem PySem.Spec PyProof.Rows L2

/-- where a piece of text stands: the names by slot, the scope, which names may be stored as cells -/
structure Gam where
  N : List Str
  sc : Scope
  fn : Str → Bool
/-- what the module's names are -/
structure Top where
  consts : List Str
  defs : List (Str × List Str)
  excs : List Str
  blt : List Str
def Gam.vis (G : Gam) (x : Str) : Bool := match G.sc.names.lookup x with
  | some .local | some .cell | some .free => true
  | _ => false
def Gam.loc (G : Gam) (x : Str) : Bool := match G.sc.names.lookup x with
  | some .local => true
  | some .cell => G.fn x
  | _ => false
def Gam.glb (G : Gam) (x : Str) : Bool := match G.sc.names.lookup x with
  | some .globalImplicit => true
  | _ => false
def eqS (a b : Str) : Bool := decide (a = b)
def nameOk (x : Str) : Bool := !(x == ("__debug__" : Str)) && !(x == ("__classdict__" : Str)) && !(x == ("__name__" : Str))

def asName : Expr → Option Str
  | .Name x _ => some x
  | _ => none
def asConst : Expr → Option Const
  | .Constant c _ _ => some c
  | _ => none
def asTup : Expr → Option (List Expr)
  | .Tuple es _ _ => some es
  | _ => none
def asLst : Expr → Option (List Expr)
  | .List es _ => some es
  | _ => none
def asBin : Expr → Option (Expr × Operator × Expr)
  | .BinOp a o b _ => some (a, o, b)
  | _ => none
def asUn : Expr → Option (UnaryOp × Expr)
  | .UnaryOp o a _ => some (o, a)
  | _ => none
def asCmp : Expr → Option (Expr × List CmpOp × List Expr)
  | .Compare a os bs _ => some (a, os, bs)
  | _ => none
def asBool : Expr → Option (BoolOp × List Expr)
  | .BoolOp o vs _ => some (o, vs)
  | _ => none
def asIf : Expr → Option (Expr × Expr × Expr)
  | .IfExp a b c _ => some (a, b, c)
  | _ => none
def asSub : Expr → Option (Expr × Expr)
  | .Subscript a b _ => some (a, b)
  | _ => none
def asSlice : Expr → Option (Option Expr × Option Expr × Option Expr)
  | .Slice a b c _ => some (a, b, c)
  | _ => none
/-- f(es), f a name -/
def asCall : Expr → Option (Str × List Expr)
  | .Call (.Name f _) es [] _ => some (f, es)
  | _ => none
/-- o.f(es), on one line -/
def asMeth : Expr → Option (Expr × Str × List Expr)
  | .Call (.Attribute o f ap) es [] cp => if ap.endLine == cp.line then some (o, f, es) else none
  | _ => none
def asLc : Expr → Option (Expr × Expr × Expr × List Expr × Scope)
  | .ListComp elt [⟨tg, it, ifs, 0⟩] sc _ => some (elt, tg, it, ifs, sc)
  | _ => none
def isCall0 : Expr → Bool
  | .Call _ [] [] _ => true
  | _ => false
def starred : Expr → Bool
  | .Starred .. => true
  | _ => false

theorem asName_some {e : Expr} {x : Str} (h : asName e = some x) : ∃ p, e = .Name x p := by
  cases e <;> simp [asName] at h
  exact ⟨_, by rw [h]⟩
theorem asConst_some {e : Expr} {x : Const} (h : asConst e = some x) : ∃ k p, e = .Constant x k p := by
  cases e <;> simp [asConst] at h
  exact ⟨_, _, by rw [h]⟩
theorem asTup_some {e : Expr} {x : List Expr} (h : asTup e = some x) : ∃ k p, e = .Tuple x k p := by
  cases e <;> simp [asTup] at h
  exact ⟨_, _, by rw [h]⟩
theorem asLst_some {e : Expr} {x : List Expr} (h : asLst e = some x) : ∃ p, e = .List x p := by
  cases e <;> simp [asLst] at h
  exact ⟨_, by rw [h]⟩
theorem asBin_some {e a b : Expr} {o : Operator} (h : asBin e = some (a, o, b)) : ∃ p, e = .BinOp a o b p := by
  cases e <;> simp [asBin] at h
  obtain ⟨rfl, rfl, rfl⟩ := h
  exact ⟨_, rfl⟩
theorem asUn_some {e a : Expr} {o : UnaryOp} (h : asUn e = some (o, a)) : ∃ p, e = .UnaryOp o a p := by
  cases e <;> simp [asUn] at h
  obtain ⟨rfl, rfl⟩ := h
  exact ⟨_, rfl⟩
theorem asCmp_some {e a : Expr} {os : List CmpOp} {bs : List Expr} (h : asCmp e = some (a, os, bs)) : ∃ p, e = .Compare a os bs p := by
  cases e <;> simp [asCmp] at h
  obtain ⟨rfl, rfl, rfl⟩ := h
  exact ⟨_, rfl⟩
theorem asBool_some {e : Expr} {o : BoolOp} {bs : List Expr} (h : asBool e = some (o, bs)) : ∃ p, e = .BoolOp o bs p := by
  cases e <;> simp [asBool] at h
  obtain ⟨rfl, rfl⟩ := h
  exact ⟨_, rfl⟩
theorem asIf_some {e a b c : Expr} (h : asIf e = some (a, b, c)) : ∃ p, e = .IfExp a b c p := by
  cases e <;> simp [asIf] at h
  obtain ⟨rfl, rfl, rfl⟩ := h
  exact ⟨_, rfl⟩
theorem asSub_some {e a b : Expr} (h : asSub e = some (a, b)) : ∃ p, e = .Subscript a b p := by
  cases e <;> simp [asSub] at h
  obtain ⟨rfl, rfl⟩ := h
  exact ⟨_, rfl⟩
theorem asSlice_some {e : Expr} {a b c : Option Expr} (h : asSlice e = some (a, b, c)) : ∃ p, e = .Slice a b c p := by
  cases e <;> simp [asSlice] at h
  obtain ⟨rfl, rfl, rfl⟩ := h
  exact ⟨_, rfl⟩
theorem asCall_some {e : Expr} {f : Str} {es : List Expr} (h : asCall e = some (f, es)) : ∃ p q, e = .Call (.Name f p) es [] q := by
  unfold asCall at h
  split at h
  · cases h; exact ⟨_, _, rfl⟩
  · cases h
theorem asMeth_some {e o : Expr} {f : Str} {es : List Expr} (h : asMeth e = some (o, f, es)) : ∃ ap cp, e = .Call (.Attribute o f ap) es [] cp ∧ (ap.endLine == cp.line) = true := by
  unfold asMeth at h
  split at h
  · split at h
    · cases h; exact ⟨_, _, rfl, by assumption⟩
    · cases h
  · cases h
theorem asLc_some {e elt tg it : Expr} {ifs : List Expr} {sc : Scope} (h : asLc e = some (elt, tg, it, ifs, sc)) : ∃ p, e = .ListComp elt [⟨tg, it, ifs, 0⟩] sc p := by
  unfold asLc at h
  split at h
  · cases h; exact ⟨_, rfl⟩
  · cases h

/-- the name x is in slot i -/
def slotOk (G : Gam) (i : Nat) (x : Str) : Bool := decide (G.N[i]? = some x) && G.vis x && nameOk x
def storeOk (G : Gam) (i : Nat) (x : Str) : Bool := decide (G.N[i]? = some x) && G.loc x
def copB (o : Cop) (p : CmpOp) : Bool := match o, p with
  | .eq, .Eq => true | .ne, .NotEq => true | .lt, .Lt => true | .le, .LtE => true | .gt, .Gt => true | .ge, .GtE => true | .isN, .Is => true | .notN, .IsNot => true
  | _, _ => false
def bopB (o : Bop) (p : Operator) : Bool := match o, p with
  | .add, .Add => true | .sub, .Sub => true | .mul, .Mult => true | .fdiv, .FloorDiv => true | .mod, .Mod => true | .pow, .Pow => true
  | _, _ => false
theorem copB_eq {o : Cop} {p : CmpOp} (h : copB o p = true) : p = copOf o ∧ o ≠ .isIn ∧ o ≠ .notIn := by
  cases o <;> cases p <;> first | (cases h; done) | exact ⟨rfl, by decide, by decide⟩
theorem bopB_eq {o : Bop} {p : Operator} (h : bopB o p = true) : p = opOf o := by
  cases o <;> cases p <;> first | (cases h; done) | rfl
def biName : Bi → Str
  | .len => "len" | .abs => "abs" | .max => "max" | .min => "min" | .tuple => "tuple" | .list => "list" | .int => "int" | .sum => "sum" | .all => "all" | .any => "any" | .repr => "repr" | .str => "str"
def tyName : Ty → Str
  | .int => "int" | .bool => "bool" | .str => "str" | .tuple => "tuple" | .list => "list"
def meName : Me → Str
  | .append => "append" | .extend => "extend" | .pop => "pop"
/-- a built-in's name -/
def bltOk (T : Top) (G : Gam) (x : Str) : Bool := G.glb x && T.blt.any (eqS x)
def glbOk (G : Gam) (x : Str) : Bool := G.glb x && nameOk x
def scB (G : Gam) (scope : Scope) (own : List Nat) : Option Gam :=
  let ow := own.filterMap fun i => (G.N[i]?).map fun x => (x, i)
  if decide (ow.map (·.2) = own) && blkC G.N G.sc scope ow then some ⟨G.N, relS scope G.sc, fun x => scope.names.lookup x == some .cell⟩ else none
def chkTg (G : Gam) : Tg → Expr → Bool
  | .nm i, e => match asName e with
    | some x => storeOk G i x
    | none => false
  | .tu is, e => match asTup e with
    | some es => decide (is.length = es.length) && (is.zip es).all fun p => match asName p.2 with
      | some x => storeOk G p.1 x
      | none => false
    | none => false
/-- a target's slots -/
def sTg : Tg → List Nat
  | .nm i => [i]
  | .tu is => is
/-- a test of it is the value's truth -/
def plainT : Expr → Bool
  | .UnaryOp .Not _ _ => false
  | .BoolOp .. => false
  | .IfExp .. => false
  | .Compare .. => false
  | _ => true
def notSet : Expr → Bool
  | .Set .. => false
  | _ => true
def isTu : Tg → Bool
  | .tu _ => true
  | _ => false
/-- what a loop goes over: the expressions to run -/
def srcOk (T : Top) (G : Gam) (it : Nat) (tg : Tg) (i : Expr) : Option (List Expr) := match it with
  | 0 => if notSet i then some [i] else none
  | 1 => match asCall i with
    | some (f, xs) => if decide (f = "range") && bltOk T G f && decide (1 ≤ xs.length ∧ xs.length ≤ 3) then some xs else none
    | none => none
  | 2 => match asCall i with
    | some (f, xs) => if decide (f = "enumerate") && bltOk T G f && isTu tg && decide (xs.length = 1) then some xs else none
    | none => none
  | 3 => match asCall i with
    | some (f, xs) => if decide (f = "zip") && bltOk T G f && isTu tg && decide (xs.length = 2) then some xs else none
    | none => none
  | _ => none
section
variable (T : Top)
mutual
def chkE (G : Gam) : Ex → Expr → Bool
  | .non, e => match asConst e with
    | some .none => true
    | _ => false
  | .bl b, e => match asConst e with
    | some (.bool c) => b == c
    | _ => false
  | .int i, e => match asConst e with
    | some (.int j) => decide (i = j)
    | _ => false
  | .str cs, e => match asConst e with
    | some (.str x) => decide (toStr cs = x)
    | _ => false
  | .v i, e => match asName e with
    | some x => slotOk G i x
    | none => false
  | .g k, e => match asName e with
    | some x => glbOk G x && decide (T.consts[k]? = some x)
    | none => false
  | .f k, e => match asName e with
    | some x => glbOk G x && decide ((T.defs[k]?).map (·.1) = some x)
    | none => false
  | .tup es, e => match asTup e with
    | some xs => chkEs G es xs
    | none => false
  | .lst es, e => match asLst e with
    | some xs => chkEs G es xs
    | none => false
  | .mk a, e => plainT e && chkE G a e
  | .bin o a b, e => match asBin e with
    | some (x, p, y) => bopB o p && chkE G a x && chkE G b y
    | none => false
  | .neg a, e => match asUn e with
    | some (.USub, x) => chkE G a x
    | _ => false
  | .not a, e => match asUn e with
    | some (.Not, x) => chkE G a x
    | _ => false
  | .cmp o a b, e => match asCmp e with
    | some (x, [p], [y]) => copB o p && chkE G a x && chkE G b y
    | _ => false
  | .chn o o' a b c, e => match asCmp e with
    | some (x, [p, p'], [y, z]) => copB o p && copB o' p' && chkE G a x && chkE G b y && chkE G c z
    | _ => false
  | .and es, e => match asBool e with
    | some (.And, xs) => chkEs G es xs
    | _ => false
  | .or es, e => match asBool e with
    | some (.Or, xs) => chkEs G es xs
    | _ => false
  | .ite c a b, e => match asIf e with
    | some (x, y, z) => chkE G c x && chkE G a y && chkE G b z
    | none => false
  | .sub a i, e => match asSub e with
    | some (x, y) => (asSlice y).isNone && chkE G a x && chkE G i y
    | none => false
  | .slc a lo hi, e => match asSub e with
    | some (x, y) => match asSlice y with
      | some (l, h, none) => chkE G a x && chkO G lo l && chkO G hi h
      | _ => false
    | none => false
  | .rev a, e => match asSub e with
    | some (x, y) => match asSlice y with
      | some (none, none, some z) => match asUn z with
        | some (.USub, o) => match asConst o with
          | some (.int j) => decide (j = 1) && chkE G a x
          | _ => false
        | _ => false
      | _ => false
    | none => false
  | .call k es, e => match asCall e with
    | some (f, xs) => glbOk G f && (match T.defs[k]? with
      | some (x, ps) => decide (x = f) && decide (ps.length = es.length)
      | none => false) && chkEs G es xs
    | none => false
  | .calv i es, e => match asCall e with
    | some (f, xs) => false
    | none => false
  | .bi b es, e => match asCall e with
    | some (f, xs) => decide (f = biName b) && decide (b ≠ .str) && bltOk T G f && !es.isEmpty && chkEs G es xs
    | none => false
  | .isi a t, e => match asCall e with
    | some (f, [x, y]) => decide (f = "isinstance") && bltOk T G f && chkE G a x && (match asName y with
      | some z => !starred x && decide (z = tyName t) && bltOk T G z
      | none => false)
    | _ => false
  | .meth f o es, e => match asMeth e with
    | some (x, g, xs) => decide (g = meName f) && !isCall0 x && chkE G o x && decide (es.length < 2) && chkEs G es xs
    | none => false
  | .lc elt own tg it src cond, e => match asLc e with
    | some (x, t, i, ifs, scope) => (match scB G scope own with
      | some G2 => chkE G2 elt x && chkTg G2 tg t && (sTg tg).all (fun i => own.contains i) && chkC G2 cond ifs
      | none => false) && (match srcOk T G it tg i with
      | some xs => chkEs G src xs
      | none => false)
    | none => false
def chkEs (G : Gam) : List Ex → List Expr → Bool
  | [], es => es.isEmpty
  | a :: as, es => match es with
    | [] => false
    | e :: es => !starred e && chkE G a e && chkEs G as es
def chkO (G : Gam) : Option Ex → Option Expr → Bool
  | none, e => e.isNone
  | some a, e => match e with
    | some e => chkE G a e
    | none => false
def chkC (G : Gam) : Option Ex → List Expr → Bool
  | none, es => es.isEmpty
  | some a, es => match es with
    | [e] => chkE G a e
    | _ => false
end
end
end PI
/-! PI, part i: defs that know that nothing is being shown; the context. -/
namespace PI
open PySem PySem.Spec PyProof.Rows L2

/-- a def's promise where no repr runs around -/
structure FnG (P : Program) (w : World) (K : PySem.W.Frag) (mg : Str → Option Value) (base : Heap) (k : Nat) (f : Addr) (fd : FuncData) (ps : List Str) (sp : Sp) : Prop where
  len : ∀ vs H Q E, sp vs H Q E → vs.length = ps.length
  run : ∀ (A : Around) (outer : List Env) (s : Shared) (H : Hp) (args : Args) (us : List Value) (vs : List V) (Q : VK) (E : XK), Room k A → A.guards = some [] → Env0 P w K mg base A outer s H → BindsTo s fd args (ps.zip us) → Vals vs us →
    sp vs H Q E → codeAny (model P w) A (.call (.ref f) args) (CR (L2.CX P w) outer P w H s Q E) s
theorem FnG.mono {P : Program} {w : World} {K : PySem.W.Frag} {mg : Str → Option Value} {base : Heap} {j k : Nat} {f : Addr} {fd : FuncData} {ps : List Str} {sp : Sp} (F : FnG P w K mg base j f fd ps sp) (h : j ≤ k) : FnG P w K mg base k f fd ps sp :=
  ⟨F.len, fun A o s H as us vs Q E hr hg e0 hb hv hs => F.run A o s H as us vs Q E (hr.mono h) hg e0 hb hv hs⟩
theorem fnG_of {P : Program} {w : World} {K : PySem.W.Frag} {mg : Str → Option Value} {base : Heap} {k : Nat} {f : Addr} {name qual : Str} {params : Arguments} {body : List Stmt} {scope : Scope} {dvs : List V} {kws : List (Str × V)} {fd : FuncData}
    {N ps : List Str} {sp : Sp} (F : FunD K name qual params body scope dvs kws f fd) (S : FnScope N ps scope) (len : ∀ vs H Q E, sp vs H Q E → vs.length = ps.length)
    (hbody : ∀ (cdv : Value) (A : Around) (outer : List Env) (s : Shared) (H : Hp) (vs : List V) (Q : VK) (E : XK), Room k (A.deeper (envOfC qual scope s.heap.objs.size f cdv)) → A.guards = some [] → sp vs H Q E →
      ∃ t, PSs (cxOf (L2.CX P w) P w K mg base N qual scope f cdv A outer s H E) body t ∧ t { nx := fun _ H' => Q .non H', rt := Q } (start N vs) H) : FnG P w K mg base (k + 1) f fd ps sp := by
  obtain ⟨oc, od, dV, kV, doc, pm, an, cdv, ct, osl, rfl, lk, hcd, _, _⟩ := F.ex
  constructor
  · exact len
  intro A outer s H args us vs Q E hr hg e0 hb r hsp
  have stay := fun b o e => (e0.bs b o e).1
  have kIn : K.In s.heap := e0.mod.kin.keeps stay
  have noLim : s.heap.NoLimit := e0.mod.nolimit.keeps stay
  have kinds : ∀ y ∈ ps.zip us, scope.names.lookup y.1 = some .local ∨
      (scope.names.lookup y.1 = some .cell ∧ ((cellsFrom (s.heap.objs.size + 1) scope.names []).lookup y.1).isSome = true) := by
    rintro ⟨x, u⟩ hy
    cases S.par x (List.of_mem_zip hy).1 with
    | inl q => exact .inl q
    | inr q => exact .inr ⟨q, PySem.W.cellsFrom_some _ _ _ (.inl q)⟩
  apply codeAny_call_function hr.depth (kIn _ _ lk) rfl S.co S.gen rfl (PySem.W.codeRec_of kIn hcd)
  apply hb
  apply wpAny_newFunctionEnv_cells S.kind kinds
  intro env he s1 x
  subst he
  constructor
  · exact noLim.keeps x.toInCall.keep
  apply codeAny_func
  obtain ⟨t, ht, hq⟩ := hbody cdv A outer s H vs Q E (hr.deeper _) hg hsp
  have hl := len _ _ _ _ hsp
  have I := inv_start (CX := L2.CX P w) (qual := qual) (f := f) (cd := cdv) (E := E) S hr.hd e0 hl r x
  apply wpAny_mono (ht.run [] s1 (start N vs) H _ I hq)
  · intro fl s' hs
    cases fl with
    | ret u => obtain ⟨v, σ', H', J, rv, q⟩ := hs; exact ⟨v, H', J.os, J.bare, J.base, J.hok, rv, q⟩
    | next => obtain ⟨σ', H', J, q⟩ := hs; exact ⟨V.non, H', J.os, J.bare, J.base, J.hok, rfl, q⟩
    | brk => obtain ⟨_, _, _, q⟩ := hs; exact q.elim
    | cont => obtain ⟨_, _, _, q⟩ := hs; exact q.elim
  · exact fun e s' hs => hs

section
variable {X : Cx} {k : Nat} {f : Addr} {fd : FuncData} {ps : List Str} {sp : Sp} {E : L2.St → XK} {x : Str} {p pos : Pos} {e : Expr} {es : List Expr} {t : TA}
theorem run_fnG {pins : List (Addr × Obj)} {σ : L2.St} {H : Hp} {s : Shared} {Q : VK} {us : List Value} {vs : List V} (F : FnG X.prog X.w X.K X.mg X.base k f fd ps sp) (hr : Room k X.A) (hg : X.A.guards = some []) (hb : Binds X.K fd ps [])
    (hx : PassesAt (L2.CX X.prog X.w) X σ (E σ)) (I : Inv X pins σ H s) (r : Vals vs us) (h : sp vs H Q (E σ)) : wpAny (model X.prog X.w) X.A (call (.ref f) us) (EP X pins σ Q) X.xe s := by
  have b := hb s us I.kIn (by rw [List.append_nil, ← r.length]; exact F.len _ _ _ _ h)
  rw [List.append_nil] at b
  apply wpAny_call
  apply codeAny_mono (F.run X.A X.stack s H ⟨us, []⟩ us vs Q (E σ) hr hg I.env0 b r h)
  intro z s' hq
  cases z with
  | error e => exact hx pins H s e s' I hq
  | ok fl =>
    cases fl with
    | ret u => exact I.after hq
    | next => exact False.elim hq
    | brk => exact False.elim hq
    | cont => exact False.elim hq
theorem pe_callG (F : FnG X.prog X.w X.K X.mg X.base k f fd ps sp) (hr : Room k X.A) (hgd : X.A.guards = some []) (hg : Gl X x) (hm : X.mg x = some (.ref f)) (hk : PySem.W.keepIn X.K (.ref f) = true) (hb : Binds X.K fd ps [])
    (hx : ∀ σ, PassesAt (L2.CX X.prog X.w) X σ (E σ)) (ha : PA X (e :: es) t) (hdb : (x == ("__debug__" : Str)) = false) (he : starEach (e :: es) X.env = (false, eval e X.env) :: starEach es X.env)
    (hpl : (backTo pos (starEach es X.env)).any (·.1) = false) : PE X (.Call (.Name x p) (e :: es) [] pos) (tCallS sp E t) := by
  constructor
  intro pins s σ H Q I h
  apply wpAny_Call_Name_kw
  apply ld_glob I hg hm _ hdb
  apply PySem.W.callWith_K (h₀ := X.base) I.ok.mod.kin hk _ he hpl
  apply thn (ha.run pos pins s σ H _ I h)
  rintro us s1 ⟨vs, H1, I1, r, q⟩
  exact ⟨I1.kIn, run_fnG F hr hgd hb (hx σ) I1 r q⟩
theorem pe_callG0 (F : FnG X.prog X.w X.K X.mg X.base k f fd ps sp) (hr : Room k X.A) (hgd : X.A.guards = some []) (hg : Gl X x) (hm : X.mg x = some (.ref f)) (hk : PySem.W.keepIn X.K (.ref f) = true) (hb : Binds X.K fd ps [])
    (hx : ∀ σ, PassesAt (L2.CX X.prog X.w) X σ (E σ)) (hdb : (x == ("__debug__" : Str)) = false) : PE X (.Call (.Name x p) [] [] pos) (tCallS sp E tNil) := by
  constructor
  intro pins s σ H Q I h
  apply wpAny_Call_Name_kw
  apply ld_glob I hg hm _ hdb
  exact PySem.W.callWith_K0 I.kIn hk (run_fnG (us := []) F hr hgd hb (hx σ) I .nil h)
end

/-- what the program is: its defs and constants by number -/
structure Prg where
  T : Top
  P : Nat → Option FD
  gv : Nat → AV
  sb : Nat → Nat → Option Bool
/-- a def's promise: what the evaluator says, so many calls deep -/
def spE (Y : Lay) (R : Prg) (n k : Nat) : Sp := fun vs H Q E => ∃ r m B xs d, Ab Y.K Y.ft r m B H ∧ NK Y.K H ∧ RepL Y.K Y.ft r m.length B H xs vs ∧ R.P k = some d ∧ xs.length = d.ps ∧
  Fin Y (RV Y) (fun c dd _ H' => E c dd H') r m B H [] Q (callE R.P R.gv R.sb n k xs m)
/-- what holds of the context: n the calls that may go deeper -/
structure XOk (Y : Lay) (R : Prg) (n : Nat) (G : Gam) (X : Cx) : Prop where
  K : X.K = Y.K
  N : X.N = G.N
  nd : G.N.Nodup
  sc : X.env.scope = G.sc
  fn : ∀ x, G.fn x = true → X.fn x = true
  calm : X.calm = true
  room : Room n X.A
  grd : X.A.guards = some []
  defs : ∀ (k : Nat) (x : Str) (ps : List Str), R.T.defs[k]? = some (x, ps) → X.mg x = some (.ref (Y.ft k)) ∧ PySem.W.keepIn X.K (.ref (Y.ft k)) = true ∧
    ∃ fd, FnG X.prog X.w X.K X.mg X.base n (Y.ft k) fd ps (spE Y R n k) ∧ Binds X.K fd ps []
  par : ∀ (k : Nat) (x : Str) (ps : List Str), R.T.defs[k]? = some (x, ps) → ∃ d, R.P k = some d ∧ d.ps = ps.length
  cons : ∀ (k : Nat) (x : Str), R.T.consts[k]? = some x → ∃ u w, X.mg x = some u ∧ RelV w u ∧ ∀ r m B H, NK Y.K H → Ab Y.K Y.ft r m B H → Rep Y.K Y.ft r m.length B H (R.gv k) w
  free : ∀ x ∈ R.T.blt, X.mg x = none
  excs : ∀ (c : Nat) (x : Str), R.T.excs[c]? = some x → X.mg x = some (.ref (Y.ct c)) ∧ PySem.W.keepIn X.K (.ref (Y.ct c)) = true ∧ PySem.W.subIn X.K (.ref (Y.ct c)) (.type "BaseException") = some true ∧ PySem.W.typeIn X.K (.ref (Y.ct c)) = some (.type "type") ∧
    ∃ (bmB : List Value) (B newId initId : String), ExcBaseFacts B newId initId bmB ∧ PySem.W.excIn X.K (Y.ct c) bmB newId = true
  exm : ∀ (c c' : Nat) (b : Bool), R.sb c' c = some b → PySem.W.exmOne X.K (.ref (Y.ct c')) (.ref (Y.ct c)) = some b

end PI
/-! PI, part j: expressions. -/
namespace PI
open PySem PySem.Spec PyProof.Rows L2

/-- of a fresh list more is known -/
def RFx (Y : Lay) (fr : Bool) (H0 : Hp) : RelT AV V := fun r m B H x v => Rep Y.K Y.ft r m.length B H x v ∧ (fr = true → ∀ xs, x = .frl xs → ∀ a, v = .ref a → H0 a = none ∧ NewL Y.K Y.ft r m B H a xs)
/-- as a truth -/
def toB (x : Res AV) : Res Bool := x.bind fun v m => match v with
  | .bl b => .ok b m
  | _ => .bad
def REq {α : Type} : RelT α α := fun _ _ _ _ b c => b = c
section
variable (Y : Lay) (R : Prg) (n : Nat)
abbrev eE (e : Ex) : Env' → Mem → Res AV := evE (callE R.P R.gv R.sb n) R.gv e
abbrev eEs (e : List Ex) : Env' → Mem → Res (List AV) := evEs (callE R.P R.gv R.sb n) R.gv e
def tE (e : Ex) (W : WX) : TE := tG Y (eE R n e) (RFx Y (fresh e)) W
def tEs (es : List Ex) (W : WX) : TA := tG Y (eEs R n es) (fun _ => RL Y) W
def tT (e : Ex) (W : WX) : TT := tG Y (fun env m => toB (eE R n e env m)) (fun _ => REq) W
end

section
variable {Y : Lay} {R : Prg} {n : Nat} {X : Cx} {W : WX} {a b c : Ex} {x y z : Expr} {p : Pos}
/-- from an expression's run -/
theorem Fin.eE {α β : Type} {RA : RelT α β} {r : Nat → Addr} {m : Mem} {B : List Addr} {H : Hp} {σ : L2.St} {Q : β → Hp → Prop} {u : Res AV} {f : AV → Mem → Res α} (fr : Bool) (h : Fin Y RA W r m B H σ Q (u.bind f)) :
    Fin Y (RFx Y fr H) W r m B H σ (fun v H1 => ∃ r1 a m1, Mid Y (RV Y) r m B H u v H1 r1 a m1 ∧ Fin Y RA W r1 m1 B H1 σ Q (f a m1)) u := by
  have h1 : Fin Y (RFx Y fr H) W r m B H σ (fun v H1 => ∃ r1 a m1, Mid Y (RFx Y fr H) r m B H u v H1 r1 a m1 ∧ Fin Y RA W r1 m1 B H1 σ Q (f a m1)) u := Fin.bind h
  exact h1.imp fun v H1 ⟨r1, a, m1, k, q⟩ => ⟨r1, a, m1, ⟨k.eq, k.ext, k.ab, k.nk, k.rep.1⟩, q⟩
/-- the end of a run, by OkV -/
theorem okV_of {r r1 : Nat → Addr} {m m1 : Mem} {B : List Addr} {H H1 : Hp} {σ : L2.St} {Q : VK} {z : AV} {fr : Bool} (e : Ext r m.length H r1 m1.length H1) (h : Fin Y (RFx Y fr H) W r1 m1 B H1 σ Q (.ok z m1)) : OkV Y r1 m1 B H1 z Q :=
  fun H' v e1 ab nk q f => h r1 H' v e1 ab nk ⟨q, fun _ xs ez p ev => ⟨e.none_of (f xs ez p ev).1, (f xs ez p ev).2⟩⟩
/-- .. of a flat value -/
theorem RFx.flat {r : Nat → Addr} {m : Mem} {B : List Addr} {H H0 : Hp} {fr : Bool} {z : AV} {v : V} (h : Rep Y.K Y.ft r m.length B H z v) (nf : fr = true → ∀ xs, z ≠ .frl xs) : RFx Y fr H0 r m B H z v := ⟨h, fun q xs e => absurd e (nf q xs)⟩
/-- one flat value -/
theorem snd_flat {e : Ex} {v : V} {u : AV} (he : ∀ env m, eE R n e env m = .ok u m) (hf : ∀ xs, u ≠ .frl xs) (hr : ∀ r n B H, Rep Y.K Y.ft r n B H u v) (h : PE X x (tC v)) : PE X x (tE Y R n e W) := by
  refine PE.weak h fun σ H Q nk ⟨r, m, B, env, s, f⟩ => ?_
  rw [he] at f
  exact fun _ => f r H v s.ab.ext s.ab s.nk ⟨hr _ _ _ _, fun _ xs q => absurd q (hf xs)⟩
theorem snd_v {i : Nat} {nm : Str} (hN : X.N[i]? = some nm) (hv : Vis X.env.scope nm) (hd : (nm == ("__debug__" : Str)) = false) (hcd : (nm == ("__classdict__" : Str)) = false) : PE X (.Name nm p) (tE Y R n (.v i) W) := by
  refine PE.weak (pe_var hN hv hd hcd) fun σ H Q nk ⟨r, m, B, env, s, f⟩ => ?_
  have f : Fin Y (RFx Y (fresh (.v i)) H) W r m B H σ Q (match env[i]? with
    | some (some x) => .ok x m
    | _ => .bad) := f
  split at f
  · rename_i u e
    obtain ⟨v, h1, h2⟩ := s.er.2 i u e
    exact ⟨v, h1, fun _ => f r H v s.ab.ext s.ab s.nk ⟨h2, fun q => by cases q⟩⟩
  · exact f.elim
theorem snd_g {k : Nat} {v : V} (h : PE X x (tC v)) (hr : ∀ r m B H, NK Y.K H → Ab Y.K Y.ft r m B H → Rep Y.K Y.ft r m.length B H (R.gv k) v) : PE X x (tE Y R n (.g k) W) := by
  refine PE.weak h fun σ H Q nk ⟨r, m, B, env, s, f⟩ => ?_
  exact fun _ => f r H v s.ab.ext s.ab s.nk ⟨hr _ _ _ _ s.nk s.ab, fun q => by cases q⟩
theorem snd_tup (hK : X.K = Y.K) {es : List Ex} {xs : List Expr} {k : Nat} (h : PA X xs (tEs Y R n es W)) : PE X (.Tuple xs k p) (tE Y R n (.tup es) W) := by
  refine PE.weak (pe_tup h) fun σ H Q nk ⟨r, m, B, env, s, f⟩ => ⟨r, m, B, env, s, (Fin.bind f).imp ?_⟩
  rintro vs H1 ⟨r1, ys, m1, k, f1⟩
  split at f1
  · rename_i hl
    exact ⟨by rw [← k.rep.length]; exact okLen_le hl, fun q hq nk' => (okV_of k.ext f1).newTup k.ab k.rep hq (by rw [← hK]; exact nk')⟩
  · exact f1.elim
theorem snd_lst (hK : X.K = Y.K) {es : List Ex} {xs : List Expr} (h : PA X xs (tEs Y R n es W)) : PE X (.List xs p) (tE Y R n (.lst es) W) := by
  refine PE.weak (pe_lst h) fun σ H Q nk ⟨r, m, B, env, s, f⟩ => ⟨r, m, B, env, s, (Fin.bind f).imp ?_⟩
  rintro vs H1 ⟨r1, ys, m1, k, f1⟩
  split at f1
  · rename_i hl
    exact ⟨by rw [← k.rep.length]; exact okLen_le hl, fun q hq nk' => (okV_of k.ext f1).newLst k.ab k.rep hq (by rw [← hK]; exact nk')⟩
  · exact f1.elim
/-- a fresh list is tracked from now on: the reading -/
theorem tE_mk {σ : L2.St} {H : Hp} {Q : VK} (h : tE Y R n (.mk a) W σ H Q) : tE Y R n a W σ H Q := by
  obtain ⟨r, m, B, env, s, f⟩ := h
  have f : Fin Y (RFx Y (fresh (.mk a)) H) W r m B H σ Q (if fresh a = true then (eE R n a env m).bind fun x m => match x with
      | .frl xs => .ok (.ref m.length) (m ++ [.lst xs])
      | _ => .bad
    else .bad) := f
  split at f
  · rename_i hf
    refine ⟨r, m, B, env, s, ?_⟩
    cases q : eE R n a env m with
    | bad => rw [q] at f; exact f.elim
    | exc c d m1 => rw [q] at f; exact f
    | ok u m1 =>
      rw [q] at f
      intro r1 H1 v e1 ab1 nk1 rep1
      cases u with
      | frl xs =>
        obtain ⟨rep1, nw⟩ := rep1
        obtain ⟨q, vs0, rfl, hv0, un, l0⟩ := rep1.frl_inv
        obtain ⟨h0, ab2, qB, vs, hv, l⟩ := nw hf xs rfl q rfl
        have hH : H1 q ≠ none := by rw [hv]; exact fun z => by cases z
        have e2 := e1.track h0 hH
        refine f (setR r1 m1.length q) H1 (.ref q) (by rw [List.length_append, List.length_singleton]; exact e2) (ab2.track hv l qB) nk1 ⟨?_, fun z => by cases z⟩
        have := Rep.ref (K := Y.K) (ft := Y.ft) (r := setR r1 m1.length q) (B := B) (H := H1) (n := m1.length + 1) (Nat.lt_succ_self m1.length)
        rw [setR_eq] at this
        rw [List.length_append, List.length_singleton]
        exact this
      | _ => exact f.elim
  · exact f.elim
theorem snd_mk (h : PE X x (tE Y R n a W)) : PE X x (tE Y R n (.mk a) W) := PE.weak h fun σ H Q _ q => (tE_mk q).imp fun r ⟨m, B, env, s, f⟩ => ⟨m, B, env, s, f.imp fun _ _ q _ => q⟩
theorem snd_bin (hK : X.K = Y.K) {o : Bop} (ha : PE X x (tE Y R n a W)) (hb : PE X y (tE Y R n b W)) : PE X (.BinOp x (opOf o) y p) (tE Y R n (.bin o a b) W) := by
  obtain ⟨rr, ho, hr⟩ := bin_ok hK o
  refine PE.weak (pe_op ho ha hb) fun σ H Q nk ⟨r, m, B, env, s, f⟩ => ⟨r, m, B, env, s, (Fin.eE (fresh a) f).imp ?_⟩
  rintro v1 H1 ⟨r1, u, m1, k, f1⟩
  refine ⟨r1, m1, B, env, s.step k, (Fin.eE (fresh b) f1).imp ?_⟩
  rintro v2 H2 ⟨r2, w, m2, k2, f2⟩
  rw [hK]
  unfold optR at f2
  split at f2
  · rename_i z e
    exact hr r2 m2 B H2 u w z v1 v2 Q k2.ab k2.nk (k.rep.mono k2.ext k2.nk) k2.rep e (okV_of (k.ext.trans k2.ext) f2)
  · exact f2.elim
theorem snd_neg (ha : PE X x (tE Y R n a W)) : PE X (.UnaryOp .USub x p) (tE Y R n (.neg a) W) := by
  refine PE.weak (pe_un un_neg ha) fun σ H Q nk ⟨r, m, B, env, s, f⟩ => ⟨r, m, B, env, s, (Fin.eE (fresh a) f).imp ?_⟩
  rintro v1 H1 ⟨r1, u, m1, k, f1⟩
  split at f1
  · exact ⟨_, k.rep.int_inv, fun _ => f1 r1 H1 _ k.ab.ext k.ab k.nk (RFx.flat (.int _) fun _ _ z => by cases z)⟩
  · exact f1.elim
/-- a truth from a value's run -/
theorem pt_of (h : PE X x (tE Y R n a W)) (he : ∀ whole, isTrue x X.env whole = (do let v ← whole; standAt x.pos; holding [v] (truthy v))) : PT X x (tT Y R n a W) := by
  refine PT.weak (pt_val h he) fun σ H Q nk ⟨r, m, B, env, s, f⟩ => ⟨r, m, B, env, s, (Fin.eE (fresh a) f).imp ?_⟩
  rintro v1 H1 ⟨r1, u, m1, k, f1⟩
  split at f1
  · exact ⟨_, k.rep.bl_inv, fun _ => f1 r1 H1 _ k.ab.ext k.ab k.nk rfl⟩
  · exact f1.elim
/-- a test's run -/
theorem Fin.toB {α β : Type} {RA : RelT α β} {r : Nat → Addr} {m : Mem} {B : List Addr} {H : Hp} {σ : L2.St} {Q : β → Hp → Prop} {u : Res AV} {f : AV → Mem → Res α} (hf : ∀ v m1, (∀ b, v ≠ .bl b) → f v m1 = .bad) (h : Fin Y RA W r m B H σ Q (u.bind f)) :
    Fin Y REq W r m B H σ (fun b H1 => ∃ r1 m1, Ext r m.length H r1 m1.length H1 ∧ Ab Y.K Y.ft r1 m1 B H1 ∧ NK Y.K H1 ∧ Fin Y RA W r1 m1 B H1 σ Q (f (.bl b) m1)) (PI.toB u) := by
  cases u with
  | bad => exact h
  | exc c d m' => exact h
  | ok v m' =>
    by_cases hb : ∃ b, v = .bl b
    · obtain ⟨b, rfl⟩ := hb
      intro r1 H1 b' e ab nk eb
      obtain rfl : b = b' := eb
      exact ⟨r1, m', e, ab, nk, Fin.shift e h⟩
    · have h2 : Fin Y RA W r m B H σ Q (f v m') := h
      rw [hf v m' fun b z => hb ⟨b, z⟩] at h2
      exact h2.elim
theorem snd_not (ha : PT X x (tT Y R n a W)) : PT X (.UnaryOp .Not x p) (tT Y R n (.not a) W) := by
  refine PT.weak (pt_not ha) fun σ H Q nk ⟨r, m, B, env, s, f⟩ => ⟨r, m, B, env, s, ?_⟩
  have f : Fin Y REq W r m B H σ Q (PI.toB ((eE R n a env m).bind fun x m => match x with
    | .bl b => (.ok (AV.bl (!b)) m : Res AV)
    | _ => .bad)) := f
  show Fin Y REq W r m B H σ _ (PI.toB (eE R n a env m))
  cases q : eE R n a env m with
  | bad => rw [q] at f; exact f.elim
  | exc c d m1 => rw [q] at f; exact f
  | ok u m1 =>
    rw [q] at f
    cases u with
    | bl b =>
      intro r1 H1 b' e ab nk eb _
      obtain rfl : b = b' := eb
      exact f r1 H1 (!b) e ab nk rfl
    | _ => exact f.elim
theorem snd_notV (ha : PE X x (tE Y R n a W)) : PE X (.UnaryOp .Not x p) (tE Y R n (.not a) W) := by
  refine PE.weak (pe_not ha) fun σ H Q nk ⟨r, m, B, env, s, f⟩ => ⟨r, m, B, env, s, (Fin.eE (fresh a) f).imp ?_⟩
  rintro v1 H1 ⟨r1, u, m1, k, f1⟩
  split at f1
  · exact ⟨_, k.rep.bl_inv, fun _ => f1 r1 H1 _ k.ab.ext k.ab k.nk (RFx.flat (.bl _) fun _ _ z => by cases z)⟩
  · exact f1.elim
end
end PI
/-! PI, part k: more expressions. -/
namespace PI
open PySem PySem.Spec PyProof.Rows L2

theorem toB_bind {α : Type} {u : Res α} {g : α → Mem → Res AV} : toB (u.bind g) = u.bind fun x m => toB (g x m) := by
  cases u <;> rfl
section
variable {Y : Lay} {R : Prg} {n : Nat} {X : Cx} {W : WX} {a b c i : Ex} {x y z w : Expr} {p : Pos}
theorem behind_no {o : Cop} (h : o ≠ .isIn ∧ o ≠ .notIn) : behindInMarks (copOf o) y = false := by
  cases o <;> first | exact nomark _ (by decide) (by decide) | exact absurd rfl h.1 | exact absurd rfl h.2
theorem snd_cmp (hK : X.K = Y.K) (hu : X.A.units + 64 < cLine) {o : Cop} (ho' : o ≠ .isIn ∧ o ≠ .notIn) (ha : PE X x (tE Y R n a W)) (hb : PE X y (tE Y R n b W)) :
    PE X (.Compare x [copOf o] [y] p) (tE Y R n (.cmp o a b) W) ∧ PT X (.Compare x [copOf o] [y] p) (tT Y R n (.cmp o a b) W) := by
  obtain ⟨rr, ho, hr⟩ := cmp_ok hK hu o ho'
  constructor
  · refine PE.weak (pe_cmpR ho ha hb (behind_no ho')) fun σ H Q nk ⟨r, m, B, env, s, f⟩ => ⟨r, m, B, env, s, (Fin.eE (fresh a) f).imp ?_⟩
    rintro v1 H1 ⟨r1, u, m1, k, f1⟩
    refine ⟨r1, m1, B, env, s.step k, (Fin.eE (fresh b) f1).imp ?_⟩
    rintro v2 H2 ⟨r2, w, m2, k2, f2⟩
    cases e : cmpE m2 o u w with
    | none => rw [e] at f2; exact f2.elim
    | some t =>
      rw [e] at f2
      exact hr r2 m2 B H2 u w t v1 v2 _ k2.ab (k.rep.mono k2.ext k2.nk) k2.rep e fun _ => f2 r2 H2 _ k2.ab.ext k2.ab k2.nk (RFx.flat (.bl _) fun _ _ z => by cases z)
  · refine PT.weak (pt_cmpR ho ha hb (behind_no ho')) fun σ H Q nk ⟨r, m, B, env, s, f⟩ => ?_
    replace f : Fin Y REq W r m B H σ Q (toB ((eE R n a env m).bind fun x m => (eE R n b env m).bind fun y m => optR m ((cmpE m o x y).map AV.bl))) := f
    rw [toB_bind] at f
    refine ⟨r, m, B, env, s, (Fin.eE (fresh a) f).imp ?_⟩
    rintro v1 H1 ⟨r1, u, m1, k, f1⟩
    rw [toB_bind] at f1
    refine ⟨r1, m1, B, env, s.step k, (Fin.eE (fresh b) f1).imp ?_⟩
    rintro v2 H2 ⟨r2, w, m2, k2, f2⟩
    cases e : cmpE m2 o u w with
    | none => rw [e] at f2; exact f2.elim
    | some t =>
      rw [e] at f2
      exact hr r2 m2 B H2 u w t v1 v2 _ k2.ab (k.rep.mono k2.ext k2.nk) k2.rep e ⟨t, rfl, fun _ => f2 r2 H2 t k2.ab.ext k2.ab k2.nk rfl⟩
theorem marks2 {o o' : Cop} (h' : o' ≠ .isIn ∧ o' ≠ .notIn) : lastMarks [copOf o, copOf o'] [y, z] = false := behind_no h'
theorem snd_chn (hK : X.K = Y.K) (hu : X.A.units + 64 < cLine) {o o' : Cop} (h1 : o ≠ .isIn ∧ o ≠ .notIn) (h2 : o' ≠ .isIn ∧ o' ≠ .notIn) (ha : PE X x (tE Y R n a W)) (hb : PE X y (tE Y R n b W)) (hc : PE X z (tE Y R n c W)) :
    PE X (.Compare x [copOf o, copOf o'] [y, z] p) (tE Y R n (.chn o o' a b c) W) ∧ PT X (.Compare x [copOf o, copOf o'] [y, z] p) (tT Y R n (.chn o o' a b c) W) := by
  obtain ⟨rr, ho, hr⟩ := cmp_ok hK hu o h1
  obtain ⟨rr', ho', hr'⟩ := cmp_ok hK hu o' h2
  constructor
  · refine PE.weak (pe_chain ho ho' ha hb hc (marks2 h2)) fun σ H Q nk ⟨r, m, B, env, s, f⟩ => ⟨r, m, B, env, s, (Fin.eE (fresh a) f).imp ?_⟩
    rintro v1 H1 ⟨r1, u, m1, k, f1⟩
    refine ⟨r1, m1, B, env, s.step k, (Fin.eE (fresh b) f1).imp ?_⟩
    rintro v2 H2 ⟨r2, w, m2, k2, f2⟩
    split at f2
    · rename_i e
      refine hr r2 m2 B H2 u w true v1 v2 _ k2.ab (k.rep.mono k2.ext k2.nk) k2.rep e ⟨true, rfl, ?_⟩
      rw [if_pos rfl]
      refine ⟨r2, m2, B, env, (s.step k).step k2, (Fin.eE (fresh c) f2).imp ?_⟩
      rintro v3 H3 ⟨r3, t, m3, k3, f3⟩
      cases e3 : cmpE m3 o' w t with
      | none => rw [e3] at f3; exact f3.elim
      | some q =>
        rw [e3] at f3
        exact hr' r3 m3 B H3 w t q v2 v3 _ k3.ab (k2.rep.mono k3.ext k3.nk) k3.rep e3 fun _ => f3 r3 H3 _ k3.ab.ext k3.ab k3.nk (RFx.flat (.bl _) fun _ _ z => by cases z)
    · rename_i e
      refine hr r2 m2 B H2 u w false v1 v2 _ k2.ab (k.rep.mono k2.ext k2.nk) k2.rep e ⟨false, rfl, ?_⟩
      rw [if_neg (by decide)]
      exact fun _ => f2 r2 H2 _ k2.ab.ext k2.ab k2.nk (RFx.flat (.bl _) fun _ _ z => by cases z)
    · exact f2.elim
  · refine PT.weak (pt_chain ho ho' ha hb hc (marks2 h2)) fun σ H Q nk ⟨r, m, B, env, s, f⟩ => ?_
    replace f : Fin Y REq W r m B H σ Q (toB ((eE R n a env m).bind fun x m => (eE R n b env m).bind fun y m => match cmpE m o x y with
      | some true => (eE R n c env m).bind fun z m => optR m ((cmpE m o' y z).map AV.bl)
      | some false => .ok (AV.bl false) m
      | none => .bad)) := f
    rw [toB_bind] at f
    refine ⟨r, m, B, env, s, (Fin.eE (fresh a) f).imp ?_⟩
    rintro v1 H1 ⟨r1, u, m1, k, f1⟩
    rw [toB_bind] at f1
    refine ⟨r1, m1, B, env, s.step k, (Fin.eE (fresh b) f1).imp ?_⟩
    rintro v2 H2 ⟨r2, w, m2, k2, f2⟩
    split at f2
    · rename_i e
      refine hr r2 m2 B H2 u w true v1 v2 _ k2.ab (k.rep.mono k2.ext k2.nk) k2.rep e ⟨true, rfl, ?_⟩
      rw [if_pos rfl]
      rw [toB_bind] at f2
      refine ⟨r2, m2, B, env, (s.step k).step k2, (Fin.eE (fresh c) f2).imp ?_⟩
      rintro v3 H3 ⟨r3, t, m3, k3, f3⟩
      cases e3 : cmpE m3 o' w t with
      | none => rw [e3] at f3; exact f3.elim
      | some q =>
        rw [e3] at f3
        exact hr' r3 m3 B H3 w t q v2 v3 _ k3.ab (k2.rep.mono k3.ext k3.nk) k3.rep e3 ⟨q, rfl, fun _ => f3 r3 H3 q k3.ab.ext k3.ab k3.nk rfl⟩
    · rename_i e
      refine hr r2 m2 B H2 u w false v1 v2 _ k2.ab (k.rep.mono k2.ext k2.nk) k2.rep e ⟨false, rfl, ?_⟩
      rw [if_neg (by decide)]
      exact ⟨false, rfl, fun _ => f2 r2 H2 false k2.ab.ext k2.ab k2.nk rfl⟩
    · exact f2.elim
theorem Fin.fr {r : Nat → Addr} {m : Mem} {B : List Addr} {H H0 H1 : Hp} {σ : L2.St} {Q : VK} {fr : Bool} {u : Res AV} (h : Fin Y (RFx Y false H0) W r m B H σ Q u) : Fin Y (RFx Y fr H1) W r m B H σ Q u := by
  cases u with
  | ok a m' => exact fun r' H' v e ab nk q => h r' H' v e ab nk ⟨q.1, fun z => by cases z⟩
  | exc c d m' => exact h
  | bad => exact h
/-- a if c else b -/
theorem snd_ite (hc : PT X x (tT Y R n c W)) (ha : PE X y (tE Y R n a W)) (hb : PE X z (tE Y R n b W)) : PE X (.IfExp x y z p) (tE Y R n (.ite c a b) W) := by
  refine PE.weak (pe_ifExp hc ha hb) fun σ H Q nk ⟨r, m, B, env, s, f⟩ => ?_
  refine ⟨r, m, B, env, s, (Fin.toB (f := fun x m => match x with
    | .bl true => eE R n a env m
    | .bl false => eE R n b env m
    | _ => .bad) (fun v m h => ?_) f).imp ?_⟩
  · cases v <;> first | rfl | exact absurd rfl (h _)
  · rintro t H1 ⟨r1, m1, e1, ab1, nk1, f1⟩
    have s1 : S0 Y r1 m1 B H1 env σ := ⟨ab1, s.er.mono e1 nk1, nk1⟩
    cases t with
    | true =>
      rw [if_pos rfl]
      exact ⟨r1, m1, B, env, s1, (Fin.fr f1).imp fun _ _ q _ => q⟩
    | false =>
      rw [if_neg (by decide)]
      exact ⟨r1, m1, B, env, s1, (Fin.fr f1).imp fun _ _ q _ => q⟩
theorem pt_ite {tc ta tb : TT} (hc : PT X x tc) (ha : PT X y ta) (hb : PT X z tb) : PT X (.IfExp x y z p) (fun σ H Q => tc σ H fun c H1 => if c = true then ta σ H1 Q else tb σ H1 Q) := by
  refine ⟨fun pins s σ H Q I h => ?_⟩
  show wpAny _ _ (do if ← isTrue x X.env (eval x X.env) then isTrue y X.env (eval y X.env) else isTrue z X.env (eval z X.env)) _ _ s
  refine wpAny_bind (thn (hc.run pins s σ H _ I h) fun d s1 ⟨H1, I1, q1⟩ => ?_)
  cases d with
  | true => exact ha.run pins s1 σ H1 Q I1 q1
  | false => exact hb.run pins s1 σ H1 Q I1 q1
theorem snd_iteT (hc : PT X x (tT Y R n c W)) (ha : PT X y (tT Y R n a W)) (hb : PT X z (tT Y R n b W)) : PT X (.IfExp x y z p) (tT Y R n (.ite c a b) W) := by
  refine PT.weak (pt_ite hc ha hb) fun σ H Q nk ⟨r, m, B, env, s, f⟩ => ?_
  replace f : Fin Y REq W r m B H σ Q (toB ((eE R n c env m).bind fun x m => match x with
    | .bl true => eE R n a env m
    | .bl false => eE R n b env m
    | _ => .bad)) := f
  rw [toB_bind] at f
  refine ⟨r, m, B, env, s, (Fin.toB (f := fun x m => toB (match x with
    | .bl true => eE R n a env m
    | .bl false => eE R n b env m
    | _ => .bad)) (fun v m h => ?_) f).imp ?_⟩
  · cases v <;> first | rfl | exact absurd rfl (h _)
  · rintro t H1 ⟨r1, m1, e1, ab1, nk1, f1⟩
    have s1 : S0 Y r1 m1 B H1 env σ := ⟨ab1, s.er.mono e1 nk1, nk1⟩
    cases t with
    | true =>
      rw [if_pos rfl]
      exact ⟨r1, m1, B, env, s1, f1.imp fun _ _ q _ => q⟩
    | false =>
      rw [if_neg (by decide)]
      exact ⟨r1, m1, B, env, s1, f1.imp fun _ _ q _ => q⟩

/-! ### and, or -/
theorem snd_and1 {es : List Ex} {q : Pos} (ha : PE X x (tE Y R n a W)) (hf : fresh a = false) : PE X (.BoolOp .And [x] p) (tE Y R n (.and [a]) W) := PE.weak (pe_one ha) fun σ H Q _ ⟨r, m, B, env, s, f⟩ => ⟨r, m, B, env, s, (Fin.fr (fr := fresh a) (H1 := H) f).imp fun _ _ q _ => q⟩
theorem snd_or1 {es : List Ex} (ha : PE X x (tE Y R n a W)) : PE X (.BoolOp .Or [x] p) (tE Y R n (.or [a]) W) := PE.weak (pe_one ha) fun σ H Q _ ⟨r, m, B, env, s, f⟩ => ⟨r, m, B, env, s, (Fin.fr (fr := fresh a) (H1 := H) f).imp fun _ _ q _ => q⟩
theorem snd_and {es : List Ex} {ys : List Expr} (ha : PE X x (tE Y R n a W)) (hb : PE X (.BoolOp .And (y :: ys) p) (tE Y R n (.and (b :: es)) W)) : PE X (.BoolOp .And (x :: y :: ys) p) (tE Y R n (.and (a :: b :: es)) W) := by
  refine PE.weak (pe_and ha hb) fun σ H Q nk ⟨r, m, B, env, s, f⟩ => ?_
  refine ⟨r, m, B, env, s, (Fin.eE (f := fun x m => match x with
    | .bl true => evAnd (callE R.P R.gv R.sb n) R.gv (b :: es) env m
    | .bl false => .ok (.bl false) m
    | _ => .bad) (fresh a) f).imp ?_⟩
  rintro v1 H1 ⟨r1, u, m1, k, f1⟩
  split at f1
  · refine ⟨true, k.rep.bl_inv, ?_⟩
    rw [if_pos rfl]
    exact ⟨r1, m1, B, env, s.step k, (Fin.fr f1).imp fun _ _ q _ => q⟩
  · refine ⟨false, k.rep.bl_inv, ?_⟩
    rw [if_neg (by decide)]
    exact fun _ => f1 r1 H1 _ k.ab.ext k.ab k.nk (RFx.flat (.bl _) fun _ _ z => by cases z)
  · exact f1.elim
theorem snd_or {es : List Ex} {ys : List Expr} (ha : PE X x (tE Y R n a W)) (hb : PE X (.BoolOp .Or (y :: ys) p) (tE Y R n (.or (b :: es)) W)) : PE X (.BoolOp .Or (x :: y :: ys) p) (tE Y R n (.or (a :: b :: es)) W) := by
  refine PE.weak (pe_or ha hb) fun σ H Q nk ⟨r, m, B, env, s, f⟩ => ?_
  refine ⟨r, m, B, env, s, (Fin.eE (f := fun x m => match x with
    | .bl true => .ok (.bl true) m
    | .bl false => evOr (callE R.P R.gv R.sb n) R.gv (b :: es) env m
    | _ => .bad) (fresh a) f).imp ?_⟩
  rintro v1 H1 ⟨r1, u, m1, k, f1⟩
  split at f1
  · refine ⟨true, k.rep.bl_inv, ?_⟩
    rw [if_pos rfl]
    exact fun _ => f1 r1 H1 _ k.ab.ext k.ab k.nk (RFx.flat (.bl _) fun _ _ z => by cases z)
  · refine ⟨false, k.rep.bl_inv, ?_⟩
    rw [if_neg (by decide)]
    exact ⟨r1, m1, B, env, s.step k, (Fin.fr f1).imp fun _ _ q _ => q⟩
  · exact f1.elim
/-- as tests -/
theorem sndT_and1 (ha : PT X x (tT Y R n a W)) : PW X (.BoolOp .And [x] p) (tT Y R n (.and [a]) W) := pw_and1 ha
theorem sndT_or1 (ha : PT X x (tT Y R n a W)) : PW X (.BoolOp .Or [x] p) (tT Y R n (.or [a]) W) := pw_or1 ha
theorem sndT_and {es : List Ex} {ys : List Expr} (ha : PT X x (tT Y R n a W)) (hb : PW X (.BoolOp .And (y :: ys) p) (tT Y R n (.and (b :: es)) W)) : PW X (.BoolOp .And (x :: y :: ys) p) (tT Y R n (.and (a :: b :: es)) W) := by
  refine PW.weak (pw_and ha hb) fun σ H Q nk ⟨r, m, B, env, s, f⟩ => ?_
  replace f : Fin Y REq W r m B H σ Q (toB ((eE R n a env m).bind fun x m => match x with
    | .bl true => evAnd (callE R.P R.gv R.sb n) R.gv (b :: es) env m
    | .bl false => .ok (.bl false) m
    | _ => .bad)) := f
  rw [toB_bind] at f
  refine ⟨r, m, B, env, s, (Fin.toB (f := fun x m => toB (match x with
    | .bl true => evAnd (callE R.P R.gv R.sb n) R.gv (b :: es) env m
    | .bl false => .ok (.bl false) m
    | _ => .bad)) (fun v m h => ?_) f).imp ?_⟩
  · cases v <;> first | rfl | exact absurd rfl (h _)
  · rintro t H1 ⟨r1, m1, e1, ab1, nk1, f1⟩
    have s1 : S0 Y r1 m1 B H1 env σ := ⟨ab1, s.er.mono e1 nk1, nk1⟩
    cases t with
    | true =>
      rw [if_pos rfl]
      exact ⟨r1, m1, B, env, s1, f1.imp fun _ _ q _ => q⟩
    | false =>
      rw [if_neg (by decide)]
      exact fun _ => f1 r1 H1 false ab1.ext ab1 nk1 rfl
theorem sndT_or {es : List Ex} {ys : List Expr} (ha : PT X x (tT Y R n a W)) (hb : PW X (.BoolOp .Or (y :: ys) p) (tT Y R n (.or (b :: es)) W)) : PW X (.BoolOp .Or (x :: y :: ys) p) (tT Y R n (.or (a :: b :: es)) W) := by
  refine PW.weak (pw_or ha hb) fun σ H Q nk ⟨r, m, B, env, s, f⟩ => ?_
  replace f : Fin Y REq W r m B H σ Q (toB ((eE R n a env m).bind fun x m => match x with
    | .bl true => .ok (.bl true) m
    | .bl false => evOr (callE R.P R.gv R.sb n) R.gv (b :: es) env m
    | _ => .bad)) := f
  rw [toB_bind] at f
  refine ⟨r, m, B, env, s, (Fin.toB (f := fun x m => toB (match x with
    | .bl true => .ok (.bl true) m
    | .bl false => evOr (callE R.P R.gv R.sb n) R.gv (b :: es) env m
    | _ => .bad)) (fun v m h => ?_) f).imp ?_⟩
  · cases v <;> first | rfl | exact absurd rfl (h _)
  · rintro t H1 ⟨r1, m1, e1, ab1, nk1, f1⟩
    have s1 : S0 Y r1 m1 B H1 env σ := ⟨ab1, s.er.mono e1 nk1, nk1⟩
    cases t with
    | true =>
      rw [if_pos rfl]
      exact fun _ => f1 r1 H1 true ab1.ext ab1 nk1 rfl
    | false =>
      rw [if_neg (by decide)]
      exact ⟨r1, m1, B, env, s1, f1.imp fun _ _ q _ => q⟩

/-! ### items, slices -/
theorem snd_sub (hK : X.K = Y.K) (ha : PE X x (tE Y R n a W)) (hi : PE X y (tE Y R n i W)) (hs : PlainIx y) : PE X (.Subscript x y p) (tE Y R n (.sub a i) W) := by
  obtain ⟨rr, ho, hr⟩ := sub_okI hK
  refine PE.weak (pe_ix ho ha hi hs) fun σ H Q nk ⟨r, m, B, env, s, f⟩ => ⟨r, m, B, env, s, (Fin.eE (fresh a) f).imp ?_⟩
  rintro v1 H1 ⟨r1, u, m1, k, f1⟩
  refine ⟨r1, m1, B, env, s.step k, (Fin.eE (fresh i) f1).imp ?_⟩
  rintro v2 H2 ⟨r2, w, m2, k2, f2⟩
  split at f2
  · rw [k2.rep.int_inv]
    unfold optR at f2
    split at f2
    · rename_i z e
      exact hr r2 m2 B H2 u z _ v1 _ k2.ab (k.rep.mono k2.ext k2.nk) e fun v q _ => f2 r2 H2 v k2.ab.ext k2.ab k2.nk ⟨q, fun z => by cases z⟩
    · exact f2.elim
  · exact f2.elim
/-- an optional part -/
def tOp' (Y : Lay) (R : Prg) (n : Nat) (o : Option Ex) (W : WX) : TO := tG Y (fun env m => evO (callE R.P R.gv R.sb n) R.gv o env m) (fun _ => REq) W
theorem snd_none : PO X none (tOp' Y R n none W) := by
  refine ⟨fun pins s σ H Q I ⟨r, m, B, env, s0, f⟩ => po_none.run pins s σ H Q I ?_⟩
  exact f r H none s0.ab.ext s0.ab s0.nk rfl
theorem snd_some (hi : PE X y (tE Y R n i W)) : PO X (some y) (tOp' Y R n (some i) W) := by
  refine ⟨fun pins s σ H Q I ⟨r, m, B, env, s0, f⟩ => (po_some hi).run pins s σ H Q I ?_⟩
  refine ⟨r, m, B, env, s0, (Fin.eE (f := fun x m => match x with
    | .int i => .ok (some i) m
    | _ => .bad) (fresh i) f).imp ?_⟩
  rintro v1 H1 ⟨r1, u, m1, k, f1⟩
  split at f1
  · exact ⟨_, k.rep.int_inv, f1 r1 H1 _ k.ab.ext k.ab k.nk rfl⟩
  · exact f1.elim
theorem snd_slc (hK : X.K = Y.K) {lo hi : Option Ex} {l h : Option Expr} {p2 : Pos} (ha : PE X x (tE Y R n a W)) (hl : PO X l (tOp' Y R n lo W)) (hh : PO X h (tOp' Y R n hi W)) : PE X (.Subscript x (.Slice l h none p2) p) (tE Y R n (.slc a lo hi) W) := by
  obtain ⟨rr, ho, hr⟩ := slc_ok hK
  refine PE.weak (pe_slice ho ha hl hh) fun σ H Q nk ⟨r, m, B, env, s, f⟩ => ⟨r, m, B, env, s, (Fin.eE (fresh a) f).imp ?_⟩
  rintro v1 H1 ⟨r1, u, m1, k, f1⟩
  refine ⟨r1, m1, B, env, s.step k, (Fin.bind (RA := REq) f1).imp ?_⟩
  rintro l1 H2 ⟨r2, l2, m2, k2, f2⟩
  obtain rfl : l2 = l1 := k2.rep
  refine ⟨r2, m2, B, env, (s.step k).step k2, (Fin.bind (RA := REq) f2).imp ?_⟩
  rintro h1 H3 ⟨r3, h2, m3, k3, f3⟩
  obtain rfl : h2 = h1 := k3.rep
  unfold optR at f3
  split at f3
  · rename_i z e
    rw [hK]
    exact hr r3 m3 B H3 u z _ _ v1 Q k3.ab k3.nk (k.rep.mono (k2.ext.trans k3.ext) k3.nk) e (okV_of (k.ext.trans (k2.ext.trans k3.ext)) f3)
  · exact f3.elim

/-! ### arguments, calls -/
theorem snd_nil : PA X [] (tEs Y R n [] W) := PA.weak pa_nil fun σ H Q _ ⟨r, m, B, env, s, f⟩ => fun _ => f r H [] s.ab.ext s.ab s.nk .nil
theorem star_eq {es : List Expr} (h : starred x = false) : starEach (x :: es) X.env = (false, eval x X.env) :: starEach es X.env := by
  cases x <;> first | rfl | cases h
theorem snd_cons {es : List Ex} {xs : List Expr} (ha : PE X x (tE Y R n a W)) (hs : PA X xs (tEs Y R n es W)) (hx : starred x = false) : PA X (x :: xs) (tEs Y R n (a :: es) W) := by
  refine PA.weak (pa_cons ha hs (star_eq hx)) fun σ H Q nk ⟨r, m, B, env, s, f⟩ => ?_
  refine ⟨r, m, B, env, s, (Fin.eE (f := fun x m => (eEs R n es env m).bind fun xs m => .ok (x :: xs) m) (fresh a) f).imp ?_⟩
  rintro v1 H1 ⟨r1, u, m1, k, f1⟩
  refine ⟨r1, m1, B, env, s.step k, (Fin.bind (RA := RL Y) f1).imp ?_⟩
  rintro vs H2 ⟨r2, us, m2, k2, f2⟩
  exact fun _ => f2 r2 H2 _ k2.ab.ext k2.ab k2.nk (.cons (k.rep.mono k2.ext k2.nk) k2.rep)
theorem snd_bi (hK : X.K = Y.K) {bi : Bi} {es : List Ex} {rr : List V → Hp → VK → Prop} {f : Value} (hb : BiOk Y X f (fun m => biE m bi) rr) (hp : PE X x (tCB rr (tEs Y R n es W))) : PE X x (tE Y R n (.bi bi es) W) := by
  refine PE.weak hp fun σ H Q nk ⟨r, m, B, env, s, f⟩ => ⟨r, m, B, env, s, (Fin.bind (RA := RL Y) f).imp ?_⟩
  rintro vs H1 ⟨r1, us, m1, k, f1⟩
  unfold optR at f1
  split at f1
  · rename_i z e
    rw [hK]
    exact hb.2 r1 m1 B H1 us z vs Q k.ab k.nk k.rep e (okV_of k.ext f1)
  · exact f1.elim
theorem evEs_len {F : Nat → List AV → Mem → Res AV} {gv : Nat → AV} {env : Env'} : ∀ {es : List Ex} {m : Mem} {us : List AV} {m1 : Mem}, evEs F gv es env m = .ok us m1 → us.length = es.length
  | [], m, us, m1, h => by
    have h : Res.ok ([] : List AV) m = .ok us m1 := h
    cases h; rfl
  | e :: es, m, us, m1, h => by
    have h : ((evE F gv e env m).bind fun x m => (evEs F gv es env m).bind fun xs m => .ok (x :: xs) m) = .ok us m1 := h
    cases q : evE F gv e env m with
    | bad => rw [q] at h; cases h
    | exc c d m2 => rw [q] at h; cases h
    | ok u m2 =>
      rw [q] at h
      have h : ((evEs F gv es env m2).bind fun xs m => .ok (u :: xs) m) = .ok us m1 := h
      cases q2 : evEs F gv es env m2 with
      | bad => rw [q2] at h; cases h
      | exc c d m3 => rw [q2] at h; cases h
      | ok vs m3 =>
        rw [q2] at h
        have h : Res.ok (u :: vs) m3 = .ok us m1 := h
        cases h
        rw [List.length_cons, List.length_cons, evEs_len q2]
theorem snd_call {k : Nat} {es : List Ex} {d : FD} (hd : R.P k = some d) (hl : es.length = d.ps) (hp : PE X x (tCallS (spE Y R n k) (WE W) (tEs Y R n es W))) : PE X x (tE Y R n (.call k es) W) := by
  refine PE.weak hp fun σ H Q nk ⟨r, m, B, env, s, f⟩ => ⟨r, m, B, env, s, (Fin.bind (RA := RL Y) f).imp ?_⟩
  rintro vs H1 ⟨r1, us, m1, k1, f1⟩
  refine ⟨r1, m1, B, us, d, k1.ab, k1.nk, k1.rep, hd, ?_, ?_⟩
  · rw [← hl]; exact evEs_len k1.eq
  · cases q : callE R.P R.gv R.sb n k us m1 with
    | bad => rw [q] at f1; exact f1.elim
    | ok v m2 => rw [q] at f1; exact fun r' H' v' e ab nk rep _ => f1 r' H' v' e ab nk ⟨rep, fun z => by cases z⟩
    | exc c d m2 => rw [q] at f1; exact f1
end
end PI
/-! PI: t[::-1] of a tuple. -/
namespace PI
open PySem PySem.Spec PyProof.Rows L2
section
variable {prog : Program} {w : World} {A : Around} {E : Value → Shared → Prop} {s : Shared}
theorem sliceApplied_rev {sl : Addr} {vl vu vs : Value} {n : Nat} {Q : Int × Int × Nat → Shared → Prop} (hs : s.heap.IsSliceOf sl vl vu vs) (pl : IsPart vl none) (pu : IsPart vu none) (ps : IsPart vs (some (-1)))
    (h : Q ((n : Int) - 1, -1, n) s) : wpAny (model prog w) A (Builtin.Slice.sliceApplied (.ref sl) (pure (n : Int))) Q E s := by
  obtain ⟨os, hos, hcs, hds⟩ := id hs
  unfold Builtin.Slice.sliceApplied Builtin.Slice.sliceFields
  refine wpAny_bind (wpAny_bind (wpAny_field hos hds (x := vl) rfl (wpAny_bind (wpAny_field hos hds (x := vu) rfl (wpAny_bind (wpAny_field hos hds (x := vs) rfl (wpAny_pure ?_)))))))
  refine wpAny_bind (HT.slicePart_ ps ?_)
  show wpAny _ _ (if ((-1 : Int) == 0) = true then _ else _) _ _ s
  rw [if_neg (by decide)]
  refine wpAny_bind (HT.slicePart_ pl (wpAny_bind (HT.slicePart_ pu (wpAny_bind (wpAny_pure ?_)))))
  have e2 : Builtin.Slice.slicePlaces ((n : Int) - 1) (-1) (-1) = n := by
    unfold Builtin.Slice.slicePlaces
    rw [if_neg (by decide)]
    have : (n : Int) - 1 - -1 - 1 = (n : Int) - 1 := by omega
    split
    · rw [this, show (- -1 : Int) = 1 from rfl, Int.ediv_one]; omega
    · omega
  have e3 : Builtin.Slice.sliceAdjust none none (-1) (n : Int) = ((n : Int) - 1, -1) := rfl
  show wpAny _ _ (match Builtin.Slice.sliceAdjust none none (-1) (n : Int) with | (lo, hi) => pure (lo, (-1 : Int), Builtin.Slice.slicePlaces lo hi (-1))) _ _ s
  rw [e3]
  show wpAny _ _ (pure ((n : Int) - 1, (-1 : Int), Builtin.Slice.slicePlaces ((n : Int) - 1) (-1) (-1))) _ _ s
  rw [e2]
  exact wpAny_pure h
theorem filterMap_same {α β : Type} {f g : α → Option β} : ∀ {l : List α}, (∀ k ∈ l, f k = g k) → l.filterMap f = l.filterMap g
  | [], _ => rfl
  | x :: l, h => by
    rw [List.filterMap_cons, List.filterMap_cons, h x (by simp), filterMap_same fun k hk => h k (by simp [hk])]
theorem pick_rev (xs : Array Value) : ((List.range xs.size).filterMap fun (k : Nat) => xs[((xs.size : Int) - 1 + (k : Int) * (-1)).toNat]?).toArray = xs.toList.reverse.toArray := by
  congr 1
  have e : ∀ k ∈ List.range xs.size, xs[((xs.size : Int) - 1 + (k : Int) * (-1)).toNat]? = xs[xs.size - 1 - k]? := by
    intro k hk
    have := List.mem_range.mp hk
    have : ((xs.size : Int) - 1 + (k : Int) * (-1)).toNat = xs.size - 1 - k := by omega
    rw [this]
  have h1 : ((List.range xs.size).filterMap fun (k : Nat) => xs[((xs.size : Int) - 1 + (k : Int) * (-1)).toNat]?) = (List.range xs.size).filterMap fun k => xs[xs.size - 1 - k]? := by
    exact filterMap_same e
  rw [h1]
  have h2 := PySem.W.krv_range xs.size
  have h3 := PySem.W.krv_all xs
  rw [← h3, ← List.filterMap_reverse, ← h2, List.filterMap_map]
  rfl
theorem tuple_rev_item {t sl : Addr} {items : Array Value} {vl vu vs : Value} {Q : Value → Shared → Prop} (ht : IsTup s.heap t items) (hs : s.heap.IsSliceOf sl vl vu vs) (pl : IsPart vl none) (pu : IsPart vu none) (ps : IsPart vs (some (-1)))
    (h : Q (.ref s.heap.objs.size) { s with heap := s.heap.push { cls := .type "tuple", data := .seq items.toList.reverse.toArray } })
    (hsz : items.size ≤ sizeLine) : wpAny (model prog w) A (getItem (.ref t) (.ref sl)) Q E s := by
  have hso : sizeOk (.seq items.toList.reverse.toArray) := by
    show items.toList.reverse.toArray.size ≤ sizeLine
    rw [List.size_toArray, List.length_reverse, Array.length_toList]
    exact hsz
  obtain ⟨os, hos, hcs, hds⟩ := id hs
  have hT : s.TypeIs (.ref sl) "slice" := ⟨os, hos, hcs⟩
  unfold getItem
  try with_reducible refine wpAny_holding ?_
  first | refine wpAny_bind (wpAny_pure ?_) | skip
  refine wpAny_bind (wpAny_sequenceKey ht.typeIs (by decide) ?_)
  refine wpAny_bind (wpAny_callSpecial?_slot (name := Str.ofString "__getitem__") ht.typeIs PyProof.Rows.slot_tuple_getitem
    (wpAny_call_entry PyProof.Rows.slot_tuple_getitem ht.typeIs entry_tuple_getitem ?_ (args_tuple_getitem _ _)))
  show wpAny _ _ (Builtin.Tuple.tupleItemsOf (.ref t) >>= _) _ _ s
  refine wpAny_bind (tupleItemsOf_ ht (wpAny_bind (wpAny_typeOf hT ?_)))
  rw [if_pos (by decide)]
  refine wpAny_bind (sliceApplied_rev hs pl pu ps ?_)
  have hno : ¬ ((((items.size : Int) - 1 == 0) && ((-1 : Int) == 1) && (items.size == items.size)) = true) := by
    intro q
    rw [Bool.and_eq_true, Bool.and_eq_true] at q
    exact absurd (eq_of_beq q.1.2) (by decide)
  show wpAny _ _ (if (((items.size : Int) - 1 == 0) && ((-1 : Int) == 1) && (items.size == items.size)) = true then _ else _) _ _ s
  rw [if_neg hno, pick_rev]
  first
    | exact wpAny_bind (m := Builtin.Tuple.tupleExact _) (wpAny_newObj_type (wpAny_pure ⟨_, rfl, wpAny_pure h⟩) hso)
    | exact wpAny_bind (m := Builtin.Tuple.tupleExact _) (wpAny_newObj_type (wpAny_bind (wpAny_pure (wpAny_pure ⟨_, rfl, wpAny_pure h⟩))) hso)
    | exact wpAny_bind (wpAny_bind (m := Builtin.Tuple.tupleExact _) (wpAny_newObj_type (wpAny_pure (wpAny_pure ⟨_, rfl, wpAny_pure h⟩)) hso))
    | exact wpAny_bind (wpAny_bind (m := Builtin.Tuple.tupleExact _) (wpAny_newObj_type (wpAny_pure ⟨_, rfl, wpAny_pure h⟩) hso))
end
theorem rev_tup {X : Cx} {e : Expr} {te : TE} {k : Nat} {p1 p2 p3 pos : Pos} (he : PE X e te) : PE X (.Subscript e (.Slice none none (some (.UnaryOp .USub (.Constant (.int 1) k p1) p2)) p3) pos)
    (fun σ H Q => te σ H fun x H1 => ∃ a xs, x = .ref a ∧ SqT X.K H1 a xs ∧ ∀ p, H1 p = none → Q (.ref p) (upd H1 p (.tup xs.reverse))) := by
  refine ⟨fun pins s σ H Q I h => ?_⟩
  refine Subscript_ (thn (he.run pins s σ H _ I h) fun v s1 ⟨x, H1, I1, r1, q1⟩ => ?_)
  obtain ⟨a, xs, rfl, hx, q⟩ := q1
  cases r1
  have hst : PO X (some (.UnaryOp .USub (.Constant (.int 1) k p1) p2)) (tPart (tUn (rU fun i => .int (-i)) (tC (.int 1)))) := po_some (pe_un un_neg pe_int)
  refine wpAny_Slice (thn (po_none.run pins s1 σ H1 (fun o H2 => o = none ∧ H2 = H1) I1 ⟨rfl, rfl⟩) fun vl s2 ⟨l, H2, I2, pl, el, e2⟩ => ?_)
  subst el e2
  refine thn (po_none.run pins s2 σ H2 (fun o H3 => o = none ∧ H3 = H2) I2 ⟨rfl, rfl⟩) fun vu s3 ⟨u, H3, I3, pu, eu, e3⟩ => ?_
  subst eu e3
  refine thn (hst.run pins s3 σ H3 (fun o H4 => o = some (-1) ∧ H4 = H3) I3 ⟨1, rfl, -1, rfl, rfl, rfl⟩) fun vs s4 ⟨o, H4, I4, ps, eo, e4⟩ => ?_
  subst eo e4
  have I5 : Inv X pins σ H4 { s4 with heap := s4.heap.push { cls := .type "slice", data := .fields #[vl, vu, vs] } } := I4.kept (t' := s4.toks) fun b ob q => Heap.get?_push_of_some _ q
  obtain ⟨its, r, ht, hz⟩ := I5.tuple hx
  have hlen := r.length
  show wpAny (model X.prog X.w) X.A (subscriptTail e (.Slice none none (some (.UnaryOp .USub (.Constant (.int 1) k p1) p2)) p3) (.ref a) (.ref s4.heap.objs.size)) (EP X pins σ Q) X.xe { s4 with heap := s4.heap.push { cls := .type "slice", data := .fields #[vl, vu, vs] } }
  refine tail_any (ops := [.ref a, .ref s4.heap.objs.size]) ht.typeIs PyProof.Rows.slot_tuple_getitem.lookup ?_ (by with_unfolding_all rfl)
  refine tuple_rev_item ht (Heap.IsSliceOf.new _ vl vu vs) pl pu ps ?_ (by rw [List.size_toArray]; omega)
  refine ⟨.ref _, _, I5.laid (t' := s4.toks) (o := .tup xs.reverse) (fun b ob q => Heap.get?_push_of_some _ q) (Nat.le_refl _) ?_, rfl, q _ (I5.hok.fresh (Nat.le_refl _))⟩
  exact ⟨by rw [List.length_reverse]; exact hz, _, r.reverse, IsTup.new _ _⟩
end PI
/-! PI, part l: methods of lists, isinstance, [::-1]. -/
namespace PI
open PySem PySem.Spec PyProof.Rows L2

section
variable {K : PySem.W.Frag} {ft : Nat → Addr} {r : Nat → Addr} {m : Mem} {B : List Addr} {H : Hp} {i : Nat} {xs ys : List AV} {vs ws : List V}
theorem Ext.put (ab : Ab K ft r m B H) (hi : i < m.length) (o : HO) : Ext r m.length H r m.length (upd H (r i) o) :=
  ⟨Nat.le_refl _, fun _ _ => rfl, fun a u e h => by rw [upd_ne fun z => h i hi z.symm]; exact e, fun j h1 h2 => absurd h2 (Nat.not_lt.mpr h1), fun j hj => by
    by_cases h : r j = r i
    · rw [h, upd_same]; exact fun z => by cases z
    · rw [upd_ne h]; exact ab.liveN hj⟩
/-- a tracked list is changed -/
theorem Ab.put (ab : Ab K ft r m B H) (e : m[i]? = some (.lst xs)) (l : RepL K ft r m.length B H ys ws) (nk : NK K (upd H (r i) (.lst ws))) : Ab K ft r (m.set i (.lst ys)) B (upd H (r i) (.lst ws)) := by
  have hi : i < m.length := (List.getElem?_eq_some_iff.mp e).1
  have ex := Ext.put ab hi (.lst ws)
  refine ⟨fun j k hj hk z => ab.inj j k (by simpa using hj) (by simpa using hk) z, fun j o q => ?_, fun b hb => ?_⟩
  · rw [List.length_set]
    by_cases hj : i = j
    · subst hj
      rw [List.getElem?_set_self hi] at q
      cases q
      exact ⟨ws, upd_same, l.mono ex nk⟩
    · rw [List.getElem?_set_ne hj] at q
      have hjl : j < m.length := (List.getElem?_eq_some_iff.mp q).1
      have h := ab.obj j o q
      cases o with
      | lst zs =>
        obtain ⟨us, h1, h2⟩ := h
        exact ⟨us, by rw [upd_ne fun z => hj (ab.inj j i hjl hi z).symm]; exact h1, h2.mono ex nk⟩
  · obtain ⟨h1, h2⟩ := ab.blk b hb
    exact ⟨by rw [upd_ne fun z => h2 i hi z.symm]; exact h1, fun j hj => h2 j (by simpa using hj)⟩
end
/-- a method by values: it may change tracked lists -/
abbrev MeOk (Y : Lay) (X : Cx) (id : String) (f : Me) (rr : V → List V → Hp → VK → Prop) : Prop := MtR X id rr ∧ ∀ (r : Nat → Addr) (m m' : Mem) (B : List Addr) (H : Hp) (x z : AV) (xs : List AV) (v : V) (vs : List V) (Q : VK), Ab Y.K Y.ft r m B H → NK Y.K H →
    Rep Y.K Y.ft r m.length B H x v → RepL Y.K Y.ft r m.length B H xs vs → methE m f x xs = some (z, m') →
    (∀ H' u, Ext r m.length H r m'.length H' → Ab Y.K Y.ft r m' B H' → NK Y.K H' → Rep Y.K Y.ft r m'.length B H' z u → Q u H') → rr v vs H fun u H' => NK Y.K H' → Q u H'
section
variable {Y : Lay} {X : Cx}
theorem append_ok : ∃ rr, MeOk Y X "list.append" .append rr := by
  refine ⟨_, mt_append, ?_⟩
  intro r m m' B H x z xs v vs Q ab nk rx rs e k
  unfold methE at e
  split at e <;> first | contradiction | skip
  · split at e
    · rename_i ys q
      split at e
      · rename_i hl
        cases e
        obtain ⟨rfl, hi⟩ := rx.ref_inv
        obtain ⟨w, rfl, rw'⟩ := rs.one
        obtain ⟨ws, h1, h2⟩ := ab.obj _ _ q
        refine ⟨_, ws, w, rfl, rfl, h1, by rw [← h2.length]; exact of_decide_eq_true hl, fun nk' => ?_⟩
        exact k _ _ (by rw [List.length_set]; exact Ext.put ab hi _) (ab.put q (h2.append (.cons rw' .nil)) nk') nk' .non
      · cases e
    · cases e
theorem extend_ok : ∃ rr, MeOk Y X "list.extend" .extend rr := by
  refine ⟨_, mt_extend, ?_⟩
  intro r m m' B H x z xs v vs Q ab nk rx rs e k
  unfold methE at e
  split at e <;> first | contradiction | skip
  · split at e
    · rename_i ys zs q e2
      split at e
      · rename_i hl
        cases e
        obtain ⟨rfl, hi⟩ := rx.ref_inv
        obtain ⟨w, rfl, rw'⟩ := rs.one
        obtain ⟨ws, h1, h2⟩ := ab.obj _ _ q
        obtain ⟨b, us, rfl, h3, h4⟩ := rw'.lstW_inv ab e2
        refine ⟨_, b, ws, us, rfl, rfl, h1, h3, by rw [← h2.length, ← h4.length]; exact okLen_le hl, fun nk' => ?_⟩
        exact k _ _ (by rw [List.length_set]; exact Ext.put ab hi _) (ab.put q (h2.append h4) nk') nk' .non
      · cases e
    · cases e
theorem pop_ok : ∃ rr, MeOk Y X "list.pop" .pop rr := by
  refine ⟨_, mt_pop, ?_⟩
  intro r m m' B H x z xs v vs Q ab nk rx rs e k
  unfold methE at e
  split at e <;> first | contradiction | skip
  · split at e
    · rename_i ys q
      split at e
      · rename_i y e2
        cases e
        obtain ⟨rfl, hi⟩ := rx.ref_inv
        cases rs
        obtain ⟨ws, h1, h2⟩ := ab.obj _ _ q
        rw [h2.length] at e2
        obtain ⟨w, h3, h4⟩ := h2.get e2
        refine ⟨_, ws, w, rfl, rfl, h1, h3, fun nk' => ?_⟩
        exact k _ _ (by rw [List.length_set]; exact Ext.put ab hi _) (ab.put q h2.dropLast nk') nk' (by rw [List.length_set]; exact h4.mono (Ext.put ab hi _) nk')
      · cases e
    · cases e
variable {R : Prg} {n : Nat} {W : WX} {a b c i o : Ex} {x y z w : Expr} {p ap cp : Pos}
theorem base_eq {f : Str} (h : isCall0 x = false) : attributeBase x f X.env (eval x X.env) = eval x X.env := by
  unfold attributeBase
  split
  · rename_i id q pos e
    cases h
  · rfl
theorem ty_list (hK : X.K = Y.K) {m : Mem} {r : Nat → Addr} {B : List Addr} {H : Hp} {u : AV} {v : V} (ab : Ab Y.K Y.ft r m B H) (h : Rep Y.K Y.ft r m.length B H u v) {k : Nat} (e : u = .ref k) : tyV X.K "list" v H := by
  subst e
  obtain ⟨rfl, hk⟩ := h.ref_inv
  cases q : m[k]? with
  | none => rw [List.getElem?_eq_none_iff] at q; omega
  | some o =>
    cases o with
    | lst xs =>
      obtain ⟨vs, h1, h2⟩ := ab.obj k _ q
      exact .inl ⟨rfl, vs, .of h1⟩
theorem meth_ref {m m' : Mem} {f : Me} {x z : AV} {xs : List AV} (h : methE m f x xs = some (z, m')) : ∃ k, x = .ref k := by
  unfold methE at h
  split at h <;> first | exact ⟨_, rfl⟩ | cases h
/-- a method with one argument -/
theorem snd_meth1 (hK : X.K = Y.K) {f : Me} {id : String} {rr : V → List V → Hp → VK → Prop} (ok : MeOk Y X id f rr) {nm : Str} (slot : Slot "list" nm id) (hty : typeOf (.builtin id) = pure (.type "method_descriptor")) (hx : isCall0 x = false) (hy : starred y = false)
    (hl : (ap.endLine == cp.line) = true) (ho : PE X x (tE Y R n o W)) (ha : PA X [y] (tEs Y R n [a] W)) : PE X (.Call (.Attribute x nm ap) [y] [] cp) (tE Y R n (.meth f o [a]) W) := by
  have hse : starEach [y] X.env = (false, eval y X.env) :: starEach [] X.env := star_eq hy
  refine PE.weak (pe_bm PySem.F.plainAttrs_list slot hty ok.1 ho ha (base_eq hx) (by rw [hse]; rfl) hl hse rfl) fun σ H Q nk ⟨r, m, B, env, s, f0⟩ => ?_
  refine ⟨r, m, B, env, s, ?_⟩
  have f0 : Fin Y (RFx Y (fresh (.meth f o [a])) H) W r m B H σ Q ((eE R n o env m).bind fun x m => match x with
    | .ref i => (eEs R n [a] env m).bind fun xs m => match methE m f (.ref i) xs with
      | some (y, m) => .ok y m
      | none => .bad
    | _ => .bad) := f0
  refine (Fin.eE (fresh o) f0).imp ?_
  rintro v1 H1 ⟨r1, u, m1, k, f1⟩
  cases u with
  | ref k' =>
    refine ⟨ty_list hK k.ab k.rep rfl, r1, m1, B, env, s.step k, (Fin.bind (RA := RL Y) f1).imp ?_⟩
    rintro vs H2 ⟨r2, us, m2, k2, f2⟩
    split at f2
    · rename_i z m3 e
      rw [hK]
      exact ok.2 r2 m2 m3 B H2 _ z us v1 vs Q k2.ab k2.nk (k.rep.mono k2.ext k2.nk) k2.rep e fun H' w e1 ab' nk' rep' => f2 r2 H' w e1 ab' nk' ⟨rep', fun z => by cases z⟩
    · exact f2.elim
  | _ => exact f1.elim
/-- .. without -/
theorem snd_meth0 (hK : X.K = Y.K) {f : Me} {id : String} {rr : V → List V → Hp → VK → Prop} (ok : MeOk Y X id f rr) {nm : Str} (slot : Slot "list" nm id) (hty : typeOf (.builtin id) = pure (.type "method_descriptor")) (hx : isCall0 x = false)
    (hl : (ap.endLine == cp.line) = true) (ho : PE X x (tE Y R n o W)) : PE X (.Call (.Attribute x nm ap) [] [] cp) (tE Y R n (.meth f o []) W) := by
  refine PE.weak (pe_bm0 PySem.F.plainAttrs_list slot hty ok.1 ho (base_eq hx) hl) fun σ H Q nk ⟨r, m, B, env, s, f0⟩ => ?_
  refine ⟨r, m, B, env, s, ?_⟩
  have f0 : Fin Y (RFx Y (fresh (.meth f o [])) H) W r m B H σ Q ((eE R n o env m).bind fun x m => match x with
    | .ref i => (eEs R n [] env m).bind fun xs m => match methE m f (.ref i) xs with
      | some (y, m) => .ok y m
      | none => .bad
    | _ => .bad) := f0
  refine (Fin.eE (fresh o) f0).imp ?_
  rintro v1 H1 ⟨r1, u, m1, k, f1⟩
  cases u with
  | ref k' =>
    refine ⟨ty_list hK k.ab k.rep rfl, ?_⟩
    have f1 : Fin Y (RFx Y (fresh (.meth f o [])) H) W r1 m1 B H1 σ Q (match methE m1 f (.ref k') [] with
      | some (y, m) => .ok y m
      | none => .bad) := f1
    split at f1
    · rename_i z m3 e
      rw [hK]
      exact ok.2 r1 m1 m3 B H1 _ z [] v1 [] Q k.ab k.nk k.rep .nil e fun H' w e1 ab' nk' rep' => f1 r1 H' w e1 ab' nk' ⟨rep', fun z => by cases z⟩
    · exact f1.elim
  | _ => exact f1.elim

end

/-! ### isinstance -/
/-- a value's type -/
def avTy : AV → Option String
  | .int _ => some "int" | .bl _ => some "bool" | .str _ => some "str" | .tup _ => some "tuple" | .frl _ => some "list" | .non => some "NoneType"
  | _ => none
def tyS : Ty → String
  | .int => "int" | .bool => "bool" | .str => "str" | .tuple => "tuple" | .list => "list"
theorem kitB_all {u : AV} {t : Ty} {b : Bool} {s : String} (h : isiE u t = some b) (hs : avTy u = some s) : kitB s (tyS t) = some b := by
  cases u <;> simp only [avTy, Option.some.injEq] at hs <;> first | contradiction | skip
  all_goals (subst hs; cases t <;> simp only [isiE, Option.some.injEq] at h <;> subst h <;> decide +kernel)
theorem tyx_of {K : PySem.W.Frag} {ft : Nat → Addr} {r : Nat → Addr} {n : Nat} {B : List Addr} {H : Hp} {u : AV} {v : V} {s : String} (h : Rep K ft r n B H u v) (e : avTy u = some s) : TyX K H v (.type s) := by
  cases u <;> simp only [avTy, Option.some.injEq] at e <;> first | contradiction | subst e
  · rw [h.non_inv]; exact .base .non
  · rw [h.bl_inv]; exact .base (.bl _)
  · rw [h.int_inv]; exact .base (.int _)
  · rw [h.str_inv]; exact .base (.str _)
  · obtain ⟨a, vs, rfl, t, _, _⟩ := h.tup_inv
    rcases t with (t | ⟨o, t⟩) | ⟨o, its, k, t, c, _⟩
    · exact .base (.tup t)
    · exact .fTuple t
    · exact .kTuple t c
  · obtain ⟨a, vs, rfl, t, _, _⟩ := h.frl_inv
    exact .base (.lst t)
theorem isi_ty {u : AV} {t : Ty} {b : Bool} (h : isiE u t = some b) : ∃ s, avTy u = some s := by
  cases u <;> first | exact ⟨_, rfl⟩ | (cases t <;> cases h)
section
variable {Y : Lay} {X : Cx} {R : Prg} {n : Nat} {W : WX} {a : Ex} {x y : Expr} {p q q2 : Pos}
theorem snd_isi (hK : X.K = Y.K) {t : Ty} (h1 : Gl X "isinstance") (h2 : X.mg "isinstance" = none) (ha : PE X x (tE Y R n a W)) (hy : PE X y (tC (.ty (tyS t)))) (hsx : starred x = false) (hsy : starred y = false) :
    PE X (.Call (.Name "isinstance" p) [x, y] [] q) (tE Y R n (.isi a t) W) := by
  have e1 : starEach [x, y] X.env = (false, eval x X.env) :: starEach [y] X.env := star_eq hsx
  have e2 : starEach [y] X.env = (false, eval y X.env) :: starEach [] X.env := star_eq hsy
  refine PE.weak (pe_callB call_isi h1 h2 (by decide +kernel) (pa_cons ha (pa_cons hy pa_nil e2) e1) (by decide) (by decide) e1 (by rw [e2]; rfl)) fun σ H Q nk ⟨r, m, B, env, s, f⟩ => ?_
  refine ⟨r, m, B, env, s, (Fin.eE (fresh a) f).imp ?_⟩
  rintro v1 H1 ⟨r1, u, m1, k, f1⟩
  cases e : isiE u t with
  | none => rw [e] at f1; exact f1.elim
  | some b =>
    rw [e] at f1
    obtain ⟨sx, hs⟩ := isi_ty e
    refine ⟨v1, _, _, _, b, rfl, .ty _, by rw [hK]; exact tyx_of k.rep hs, kit_ty (kitB_all e hs), fun _ => ?_⟩
    exact f1 r1 H1 _ k.ab.ext k.ab k.nk (RFx.flat (.bl _) fun _ _ z => by cases z)

/-! ### [::-1] -/
theorem PE.or {e : Expr} {t t' : TE} (h : PE X e t) (h' : PE X e t') : PE X e (fun σ H Q => t σ H Q ∨ t' σ H Q) := ⟨fun pins s σ H Q I q => q.elim (h.run pins s σ H Q I) (h'.run pins s σ H Q I)⟩
theorem snd_rev (hK : X.K = Y.K) {k : Nat} {p1 p2 p3 pos : Pos} (ha : PE X x (tE Y R n a W)) : PE X (.Subscript x (.Slice none none (some (.UnaryOp .USub (.Constant (.int 1) k p1) p2)) p3) pos) (tE Y R n (.rev a) W) := by
  refine PE.weak (PE.or (rev_tup ha) (pe_revL ha)) fun σ H Q nk ⟨r, m, B, env, s, f⟩ => ?_
  have f : Fin Y (RFx Y (fresh (.rev a)) H) W r m B H σ Q ((eE R n a env m).bind fun x m => optR m (revE m x)) := f
  cases q : eE R n a env m with
  | bad => rw [q] at f; exact f.elim
  | exc c d m1 => rw [q] at f; exact .inl ⟨r, m, B, env, s, by show Fin Y _ W r m B H σ _ (eE R n a env m); rw [q]; exact f⟩
  | ok u m1 =>
    rw [q] at f
    have f : Fin Y (RFx Y (fresh (.rev a)) H) W r m B H σ Q (optR m1 (revE m1 u)) := f
    cases e : revE m1 u with
    | none => rw [e] at f; exact f.elim
    | some z =>
      rw [e] at f
      unfold revE at e
      split at e
      · cases e
        refine .inl ⟨r, m, B, env, s, ?_⟩
        show Fin Y _ W r m B H σ _ (eE R n a env m)
        rw [q]
        intro r1 H1 v e1 ab nk1 rep
        obtain ⟨p, vs, rfl, t, _, l⟩ := rep.1.tup_inv
        exact ⟨p, vs, rfl, by rw [hK]; exact t, fun b hb nk' => (okV_of (fr := fresh (.rev a)) e1 (Fin.shift e1 f)).newTup ab l.reverse hb (by rw [← hK]; exact nk')⟩
      · split at e
        · rename_i xs e2
          cases e
          refine .inr ⟨r, m, B, env, s, ?_⟩
          show Fin Y _ W r m B H σ _ (eE R n a env m)
          rw [q]
          intro r1 H1 v e1 ab nk1 rep
          obtain ⟨p, vs, rfl, t, l⟩ := rep.1.lst_inv ab e2
          exact ⟨p, vs, rfl, by rw [hK]; exact t, fun b hb nk' => (okV_of (fr := fresh (.rev a)) e1 (Fin.shift e1 f)).newLst ab l.reverse hb (by rw [← hK]; exact nk')⟩
        · cases e
end
end PI
/-! PI: enumerate over a tuple. -/
namespace PI
open PySem PySem.Spec PyProof.Rows L2
open AutoSeq1 (wpAny_loadPart')

theorem enumT_meets (l : Addr) (items : Array Value) :
    Meets (Builtin.«enumerate.__new__» ⟨[.type "enumerate", .ref l], []⟩) (fun _ R s => s.heap.IsTuple l items ∧
      R (.ok (.ret (.ref (s.heap.push { cls := .type "tuple_iterator", data := .fields #[.ref l, .int 0 0] }).objs.size)))
        { s with heap := (s.heap.push { cls := .type "tuple_iterator", data := .fields #[.ref l, .int 0 0] }).push { cls := .type "enumerate", data := .fields #[.none, .bool false, .ref s.heap.objs.size, rawInt 0, .none, .none] } }) :=
  .of_wp fun prog w A R s h => by
    obtain ⟨hp, g, d, tk, os⟩ := s
    obtain ⟨hL, h⟩ := h
    have hsub := sub_enumerate
    have q1 : ∀ {A' : Around} {E : Value → Shared → Prop} {Q : Value → Shared → Prop}, Q (.ref hp.objs.size) ⟨hp.push { cls := .type "tuple_iterator", data := .fields #[.ref l, .int 0 0] }, g, d, tk, os⟩ → wpAny (model prog w) A' (pyIter (.ref l)) Q E ⟨hp, g, d, tk, os⟩ :=
      fun q => wpAny_pyIter_tuple hL q
    wp_walk using q1
    refine wpAny_stack_any fun st => wpAny_pure ?_
    split
    · rename_i c _ _ _ _ _
      cases (c == Value.type "enumerate") <;> (wp_walk using q1; exact ⟨_, rfl, h⟩)
    · wp_walk using q1
      exact ⟨_, rfl, h⟩
theorem call_enumT {prog : Program} {w : World} {A : Around} {E : Value → Shared → Prop} {s : Shared} {l : Addr} {items : Array Value} {Q : Value → Shared → Prop} (hL : s.heap.IsTuple l items)
    (h : ∀ h', IsEnum h' (s.heap.objs.size + 1) s.heap.objs.size 0 .none → h'.IsTupleIter s.heap.objs.size l 0 → (∀ b o, s.heap.get? b = some o → h'.get? b = some o) → Q (.ref (s.heap.objs.size + 1)) { s with heap := h' }) :
    wpAny (model prog w) A (call (.type "enumerate") [.ref l]) Q E s := by
  refine callType_new F.called_enumerate (by decide) (F.typeCall_enumerate_1 _) (F.newCall_enumerate_1 _) (fun obj => F.args_object_init_2 obj _) F.entry_enumerate_new (enumT_meets l items) ⟨hL, ?_⟩
  have hz : (s.heap.push { cls := .type "tuple_iterator", data := .fields #[.ref l, .int 0 0] }).objs.size = s.heap.objs.size + 1 := Heap.size_push ..
  show _ ∧ _
  rw [hz]
  have he : IsEnum ((s.heap.push { cls := .type "tuple_iterator", data := .fields #[.ref l, .int 0 0] }).push { cls := .type "enumerate", data := .fields #[.none, .bool false, .ref s.heap.objs.size, rawInt 0, .none, .none] }) (s.heap.objs.size + 1) s.heap.objs.size 0 .none := by
    have := Heap.get?_push_size (s.heap.push { cls := .type "tuple_iterator", data := .fields #[.ref l, .int 0 0] }) (o := { cls := .type "enumerate", data := .fields #[.none, .bool false, .ref s.heap.objs.size, rawInt 0, .none, .none] }) rfl
    rw [hz] at this
    exact this
  exact ⟨⟨_, he, rfl⟩, h _ he ⟨_, Heap.get?_push_of_some _ (Heap.get?_push_size _ rfl), rfl, rfl⟩ fun b o x => Heap.get?_push_of_some _ (Heap.get?_push_of_some _ x)⟩
/-- the tuple at a, each item in a new pair -/
def IteT (K : PySem.W.Frag) (a : Addr) : It :=
  ⟨fun i H => ∃ (xs : List V) (x : V), SqT K H a xs ∧ xs[i]? = some x, fun i H v H' => ∃ T x, v = .ref T ∧ H T = none ∧ H' = upd H T (.tup [.int (i : Nat), x]) ∧ ∀ xs, SqT K H a xs → xs[i]? = some x, fun i H => ∃ xs : List V, SqT K H a xs ∧ xs.length = i⟩
theorem turn_enumT {P : Program} {w : World} {K : PySem.W.Frag} {elts : List Expr} {kk : Nat} {tpos : Pos} (a e it : Addr) :
    Turn P w K (.Tuple elts kk tpos) (IteT K a) [e, it] e (fun i h => (∃ old, IsEnum h e it ((i : Nat) : Int) old) ∧ h.IsTupleIter it a i ∧ e ≠ it) where
  mem := by simp
  obj := by
    rintro i h ⟨⟨old, he⟩, ⟨o, ho, hc, hd⟩, _⟩ b hb
    rcases List.mem_cons.mp hb with rfl | hb
    · exact ⟨_, he, fun v q => nomatch q⟩
    · obtain rfl : b = it := by simpa using hb
      exact ⟨o, ho, fun v q => by rw [hd] at q; cases q⟩
  keep := fun i h h' st k => let ⟨⟨old, he⟩, hi, hne⟩ := st; ⟨⟨old, k e (by simp) _ he⟩, hi.at fun o q => k it (by simp) o q, hne⟩
  item := by
    intro X hP hw hK hc i pins s σ H E I hf st hg
    subst hP hw hK
    obtain ⟨⟨old, he⟩, hit, hne⟩ := st
    obtain ⟨xs, x, hq, hx⟩ := hg
    obtain ⟨its, rv, p, hz⟩ := I.tuple hq
    obtain ⟨u, hu, ru⟩ := rv.get hx
    have hel : e < s.heap.objs.size := Heap.lt_size he
    have hil : it < s.heap.objs.size := by obtain ⟨_, q, _⟩ := hit; exact Heap.lt_size q
    have hai : a ≠ it := fun z => by
      obtain ⟨o1, q1, c1, d1⟩ := hit
      obtain ⟨o2, q2, c2, n2, d2⟩ := p
      rw [z, q1] at q2; cases q2
      rw [d1] at d2; cases d2
    have hea : e ≠ a := fun z => by
      obtain ⟨o2, q2, c2, n2, d2⟩ := p
      rw [← z, he] at q2; cases q2
      cases d2
    refine wpAny_pyNext_enum_itemD (Draws.tuple (A := X.A.in1) (I.ok.hd hc) it a hai its.toArray) he ⟨hit, p⟩ (by rw [List.size_toArray]; exact (List.getElem?_eq_some_iff.mp hu).1) hne (by simp [hne, hea]) fun x' h' tk hx' ho hst' hT hsz hk => ?_
    have hxe : x' = u := by
      have hx2 : its[i]? = some x' := by simpa using hx'
      rw [hu] at hx2; exact (Option.some.inj hx2).symm
    subst hxe
    refine ⟨_, rfl, wpAny_letOwnedTupleGo_enum (s := { s with heap := h', toks := tk + 1 }) ho fun h'' he' sb => ?_⟩
    have hT2 : h''.get? s.heap.objs.size = some { cls := .type "tuple", data := .seq #[.int i tk, x'] } := (sb.2 _ (Nat.ne_of_gt hel)).trans hT
    have new : ObjOk X.prog X.w (upd H s.heap.objs.size (.tup [.int (i : Nat), x])) h'' s.heap.objs.size (.tup [.int (i : Nat), x]) :=
      ⟨by show 2 ≤ sizeLine; decide, [.int i tk, x'], .cons ⟨_, rfl⟩ (.cons ru .nil), ⟨_, hT2, rfl, _, rfl⟩⟩
    have I1 : Inv X pins σ (upd H s.heap.objs.size (.tup [.int (i : Nat), x])) { s with heap := h'', toks := tk + 1 } :=
      I.turnedNew (ch := [e, it]) (fun b ob hb q => (sb.2 b (fun z => hb (by simp [z]))).trans (hk b ob (fun z => hb (by simp [z])) (fun z => hb (by simp [z])) q)) hf (Nat.le_refl _) new
    refine ⟨.ref s.heap.objs.size, _, I1, rfl, ⟨_, x, rfl, I.hok.fresh (Nat.le_refl _), rfl, fun ys hy => by rw [I.tuple_inj hy hq]; exact hx⟩, ⟨⟨x', ?_⟩, hst'.1.at fun o q => (sb.2 it (Ne.symm hne)).trans q, hne⟩, fun b hb => ?_⟩
    · have e1 : ((i + 1 : Nat) : Int) = (i : Int) + 1 := by omega
      rw [e1]; exact he'
    · have hb' : b < s.heap.objs.size := by
        rcases List.mem_cons.mp hb with z | z
        · rw [z]; exact hel
        · obtain rfl : b = it := by simpa using z
          exact hil
      rw [upd_ne (Nat.ne_of_lt hb')]
      exact (hf b hb).1
  done := by
    intro X hP hw hK hc i pins s σ H E I hf st hg
    subst hP hw hK
    obtain ⟨⟨old, he⟩, hit, hne⟩ := st
    obtain ⟨xs, hq, hx⟩ := hg
    obtain ⟨its, rv, p, hz⟩ := I.tuple hq
    obtain ⟨f0, f1, f2, f3, f4, f5⟩ := hf it (by simp)
    have hl := rv.length
    have hai : a ≠ it := fun z => by
      obtain ⟨o1, q1, c1, d1⟩ := hit
      obtain ⟨o2, q2, c2, n2, d2⟩ := p
      rw [z, q1] at q2; cases q2
      rw [d1] at d2; cases d2
    have hsz : its.toArray.size = i := by rw [List.size_toArray, ← hl, hx]
    subst hsz
    exact wpAny_pyNext_enum_endD (Draws.tuple (A := X.A.in1) (I.ok.hd hc) it a hai its.toArray) he ⟨hit, p⟩ fun h' eb => ⟨rfl, I.turned (t' := s.toks) (fun b o hb q => eb b o hb q) f0 f1 f3 f4 f5⟩
  self := fun A i s Q E st h => let ⟨⟨_, he⟩, _⟩ := st; wpAny_pyIter_enum he h
def iEnumT (K : PySem.W.Frag) (ta : TA) : TI := fun σ H R => ta σ H fun vs H1 => ∃ a xs, vs = [.ref a] ∧ SqT K H1 a xs ∧ R (IteT K a) H1
theorem pi_enumT {X : Cx} {e : Expr} {ta : TA} {p pos tpos : Pos} {elts : List Expr} {kk : Nat} (hg : Gl X "enumerate") (hm : X.mg "enumerate" = none) (ha : PA X [e] ta) (hs : starEach [e] X.env = [(false, eval e X.env)]) :
    PI X (.Tuple elts kk tpos) (.Call (.Name "enumerate" p) [e] [] pos) (iEnumT X.K ta) := by
  refine ⟨fun pins s σ H R I h => ?_⟩
  refine Call_ (ld_blt I hg hm boot_enumerate (PyProof.Rows.callWith_type1 (thn (ha.run pos pins s σ H _ I h) fun us s1 ⟨vs, H1, I1, r1, q1⟩ => ?_) hs rfl))
  obtain ⟨a, xs, rfl, hq, q⟩ := q1
  obtain rfl := Vals.ref1 r1
  obtain ⟨its, rv, p', hz⟩ := I1.tuple hq
  refine call_enumT p' fun h' he hit hk => wpAny_pyIter_enum he ?_
  have I2 : Inv X pins σ H1 { s1 with heap := h' } := I1.kept (t' := s1.toks) hk
  refine ⟨s1.heap.objs.size + 1, [s1.heap.objs.size + 1, s1.heap.objs.size], _, _, H1, rfl, I2, turn_enumT a (s1.heap.objs.size + 1) s1.heap.objs.size, ⟨⟨.none, he⟩, hit, Nat.succ_ne_self _⟩, fun b hb => ?_, q⟩
  have hle : s1.heap.objs.size ≤ b := by
    rcases List.mem_cons.mp hb with z | z
    · rw [z]; exact Nat.le_succ _
    · obtain rfl : b = _ := by simpa using z
      exact Nat.le_refl _
  exact I1.fpOk hle (I1.hok.fresh hle)
end PI
/-! PI, part m: what a loop goes over; comprehensions. -/
namespace PI
open PySem PySem.Spec PyProof.Rows L2

/-! ### set aside, off -/
section
variable {K : PySem.W.Frag} {ft : Nat → Addr} {r r' : Nat → Addr} {n n' : Nat} {m : Mem} {B B' : List Addr} {H H' : Hp} {D : Addr} {o : HO}
theorem Un.aside {a : Addr} (h : Un r n B a) (l : H a ≠ none ∨ ∃ o, K.lookup a = some o) (s : ∀ b ∈ B', b ∈ B ∨ (H b = none ∧ K.lookup b = none)) : Un r n B' a := ⟨h.1, fun q => by
  rcases s a q with z | ⟨z1, z2⟩
  · exact h.2 z
  · rcases l with l | ⟨o, l⟩
    · exact l z1
    · rw [z2] at l; cases l⟩
mutual
theorem Rep.aside (s : ∀ b ∈ B', b ∈ B ∨ (H b = none ∧ K.lookup b = none)) : ∀ {v : AV} {u : V}, Rep K ft r n B H v u → Rep K ft r n B' H v u
  | _, _, .non => .non
  | _, _, .bl b => .bl b
  | _, _, .int i => .int i
  | _, _, .str cs => .str cs
  | _, _, .tup h1 h2 h3 => .tup h1 (h2.aside (sqT_live h1) s) (RepL.aside s h3)
  | _, _, .frl h1 h2 h3 => .frl h1 (h2.aside (K := K) (.inl (by rw [h1]; exact fun z => by cases z)) s) (RepL.aside s h3)
  | _, _, .scr h1 h2 h3 => .scr h1 (h2.aside (sqL_live h1) s) (RepL.aside s h3)
  | _, _, .ref h => .ref h
  | _, _, .fn k => .fn k
theorem RepL.aside (s : ∀ b ∈ B', b ∈ B ∨ (H b = none ∧ K.lookup b = none)) : ∀ {v : List AV} {u : List V}, RepL K ft r n B H v u → RepL K ft r n B' H v u
  | _, _, .nil => .nil
  | _, _, .cons a b => .cons (Rep.aside s a) (RepL.aside s b)
end
theorem EnvR.aside {env : Env'} {σ : L2.St} (s : ∀ b ∈ B', b ∈ B ∨ (H b = none ∧ K.lookup b = none)) (h : EnvR K ft r n B H env σ) : EnvR K ft r n B' H env σ :=
  ⟨h.1, fun i x e => let ⟨v, h1, h2⟩ := h.2 i x e; ⟨v, h1, h2.aside s⟩⟩
/-- what is set aside may change -/
theorem rd_off {a : Addr} {u : HO} (h : Rd H a u) (ne : a ≠ D) : Rd (upd H D o) a u := by
  rcases h with h | ⟨o', h⟩
  · exact .inl (by rw [upd_ne ne]; exact h)
  · exact .inr ⟨o', by rw [upd_ne ne]; exact h⟩
mutual
theorem Rep.off (d : D ∈ B) : ∀ {v : AV} {u : V}, Rep K ft r n B H v u → Rep K ft r n B (upd H D o) v u
  | _, _, .non => .non
  | _, _, .bl b => .bl b
  | _, _, .int i => .int i
  | _, _, .str cs => .str cs
  | _, _, .tup h1 h2 h3 => .tup (h1.imp (fun q => rd_off q fun z => h2.2 (by rw [z]; exact d)) id) h2 (RepL.off d h3)
  | _, _, .frl h1 h2 h3 => .frl (by rw [upd_ne fun z => h2.2 (by rw [z]; exact d)]; exact h1) h2 (RepL.off d h3)
  | _, _, .scr h1 h2 h3 => .scr (h1.imp (fun q => rd_off q fun z => h2.2 (by rw [z]; exact d)) id) h2 (RepL.off d h3)
  | _, _, .ref h => .ref h
  | _, _, .fn k => .fn k
theorem RepL.off (d : D ∈ B) : ∀ {v : List AV} {u : List V}, RepL K ft r n B H v u → RepL K ft r n B (upd H D o) v u
  | _, _, .nil => .nil
  | _, _, .cons a b => .cons (Rep.off d a) (RepL.off d b)
end
theorem Ab.off (d : D ∈ B) (ab : Ab K ft r m B H) : Ab K ft r m B (upd H D o) := by
  refine ⟨ab.inj, fun i o' e => ?_, fun b hb => ⟨?_, (ab.blk b hb).2⟩⟩
  · have hi : i < m.length := (List.getElem?_eq_some_iff.mp e).1
    have h := ab.obj i o' e
    cases o' with
    | lst xs =>
      obtain ⟨vs, h1, h2⟩ := h
      exact ⟨vs, by rw [upd_ne ((ab.blk D d).2 i hi)]; exact h1, h2.off d⟩
  · by_cases z : b = D
    · rw [z, upd_same]; exact fun z => by cases z
    · rw [upd_ne z]; exact (ab.blk b hb).1
theorem Ext.off (e : Ext r n H r' n' H') (hD : H D = none) (un : ∀ i, i < n' → r' i ≠ D) : Ext r n H r' n' (upd H' D o) :=
  ⟨e.len, e.agr, fun a u h1 h2 => by rw [upd_ne (ne_of_none h1 hD)]; exact e.frm a u h1 h2, e.new, fun i hi => by rw [upd_ne (un i hi)]; exact e.liv i hi⟩
theorem NK.off (nk : NK K H) (hD : H D ≠ none) : NK K (upd H D o) := fun b u e => by
  have h := nk b u e
  rw [upd_ne fun z => hD (by rw [← z]; exact h)]
  exact h
end

/-! ### iterators that stay off the written part -/
def Itn (K : PySem.W.Frag) (J : It) : It := ⟨J.go, fun i H x H' => J.yld i H x H' ∧ NK K H', fun i H => NK K H → J.stop i H⟩
theorem turn_nk {P : Program} {w : World} {K : PySem.W.Frag} {tg : Expr} {J : It} {fp : List Addr} {it : Addr} {tn : Nat → Heap → Prop} (T : Turn P w K tg J fp it tn) : Turn P w K tg (Itn K J) fp it tn where
  mem := T.mem
  obj := T.obj
  keep := T.keep
  item := fun X hP hw hK hc i pins s σ H E I hf st hg => by
    refine thn (T.item X hP hw hK hc i pins s σ H E I hf st hg) fun r s1 ⟨u, e, q⟩ => ⟨u, e, thn q fun _ s2 ⟨x, H', I', r', y, rest⟩ => ⟨x, H', I', r', ⟨y, ?_⟩, rest⟩⟩
    rw [← hK]
    exact nk_of I'
  done := fun X hP hw hK hc i pins s σ H E I hf st hg => T.done X hP hw hK hc i pins s σ H E I hf st (hg (by rw [← hK]; exact nk_of I))
  self := T.self
theorem PI.nk {X : Cx} {tg iter : Expr} {wi : TI} (h : L2.PI X tg iter wi) {wi' : TI} (f : ∀ σ H R, NK X.K H → wi' σ H R → wi σ H fun J H1 => NK X.K H1 → R (Itn X.K J) H1) : L2.PI X tg iter wi' := by
  refine ⟨fun pins s σ H R I q => ?_⟩
  refine thn (h.run pins s σ H _ I (f σ H R (nk_of I) q)) fun v s1 h1 => thn h1 fun itv s2 ⟨it, fp, tn, J, H', e, I', T, t0, hfp, hR⟩ => ?_
  exact ⟨it, fp, tn, Itn X.K J, H', e, I', turn_nk T, t0, hfp, hR (nk_of I')⟩
theorem PI.or {X : Cx} {tg iter : Expr} {wi wi' : TI} (h : L2.PI X tg iter wi) (h' : L2.PI X tg iter wi') : L2.PI X tg iter (fun σ H R => wi σ H R ∨ wi' σ H R) :=
  ⟨fun pins s σ H R I q => q.elim (h.run pins s σ H R I) (h'.run pins s σ H R I)⟩

/-- an iterator goes over these values -/
def IterR (Y : Lay) : RelT (List AV) It := fun r m B H xs J => (∀ i H', ¬ NK Y.K H' → J.stop i H') ∧ ∀ r' m' B' H', Ext r m.length H r' m'.length H' → Ab Y.K Y.ft r' m' B' H' → NK Y.K H' → (∀ b ∈ B', b ∈ B ∨ H b = none) →
  J.stop xs.length H' ∧ ∀ i x, xs[i]? = some x → J.go i H' ∧ ∀ v H'', J.yld i H' v H'' → Ext r' m'.length H' r' m'.length H'' ∧ Ab Y.K Y.ft r' m' B' H'' ∧ NK Y.K H'' ∧ Rep Y.K Y.ft r' m'.length B' H'' x v
section
variable {Y : Lay} {r : Nat → Addr} {m : Mem} {B : List Addr} {H : Hp} {xs ys : List AV} {vs ws : List V} {a b : Addr}
theorem aside_of {r' : Nat → Addr} {m' : Mem} {B' : List Addr} {H' : Hp} (ab : Ab Y.K Y.ft r' m' B' H') (nk : NK Y.K H') (s : ∀ b ∈ B', b ∈ B ∨ H b = none) : ∀ b ∈ B', b ∈ B ∨ (H b = none ∧ Y.K.lookup b = none) := fun b hb => by
  rcases s b hb with z | z
  · exact .inl z
  · refine .inr ⟨z, ?_⟩
    cases q : Y.K.lookup b with
    | none => rfl
    | some u => exact absurd (nk b u q) (ab.blk b hb).1
theorem iter_tup (h : SqT Y.K H a vs) (un : Un r m.length B a) (l : RepL Y.K Y.ft r m.length B H xs vs) : IterR Y r m B H xs (Itn Y.K (Itt Y.K a)) := by
  refine ⟨fun i H' z z' => absurd z' z, ?_⟩
  intro r' m' B' H' e ab nk s
  have l' := (l.aside (aside_of ab nk s)).mono e nk
  have h' := (sqT_mono e nk h un).1
  refine ⟨fun _ => ⟨vs, h', by rw [l.length]; exact Nat.le_refl _⟩, fun i x hx => ?_⟩
  obtain ⟨v, h1, h2⟩ := l'.get hx
  refine ⟨⟨vs, v, h', h1⟩, fun w H'' ⟨⟨e2, y⟩, nk2⟩ => ?_⟩
  subst e2
  have hw := y vs h'
  rw [h1] at hw; cases hw
  exact ⟨ab.ext, ab, nk, h2⟩
theorem iter_lst (h : SqL Y.K H a vs) (un : Un r m.length B a) (l : RepL Y.K Y.ft r m.length B H xs vs) : IterR Y r m B H xs (Itn Y.K (Itl Y.K a)) := by
  refine ⟨fun i H' z z' => absurd z' z, ?_⟩
  intro r' m' B' H' e ab nk s
  have l' := (l.aside (aside_of ab nk s)).mono e nk
  have h' := (sqL_mono e nk h un).1
  refine ⟨fun _ => ⟨vs, h', by rw [l.length]; exact Nat.le_refl _⟩, fun i x hx => ?_⟩
  obtain ⟨v, h1, h2⟩ := l'.get hx
  refine ⟨⟨vs, v, h', h1⟩, fun w H'' ⟨⟨e2, y⟩, nk2⟩ => ?_⟩
  subst e2
  have hw := y vs h'
  rw [h1] at hw; cases hw
  exact ⟨ab.ext, ab, nk, h2⟩
theorem iter_rng {lo : Int} {n : Nat} : IterR Y r m B H ((List.range n).map fun (k : Nat) => .int (lo + (k : Int))) (Itn Y.K (Itr lo n)) := by
  refine ⟨fun i H' z z' => absurd z' z, ?_⟩
  intro r' m' B' H' e ab nk s
  refine ⟨fun _ => by simp [Itr], fun i x hx => ?_⟩
  rw [List.getElem?_map] at hx
  have hi : i < n := by
    cases q : (List.range n)[i]? with
    | none => rw [q] at hx; cases hx
    | some k => exact (by simpa using (List.getElem?_eq_some_iff.mp q).1)
  rw [List.getElem?_range hi] at hx
  cases hx
  refine ⟨hi, fun w H'' ⟨⟨e2, y⟩, nk2⟩ => ?_⟩
  subst e2 y
  exact ⟨ab.ext, ab, nk, .int _⟩
theorem iter_dn {lo : Int} {n : Nat} : IterR Y r m B H ((List.range n).map fun (k : Nat) => .int (lo - (k : Int))) (Itn Y.K (Itc lo (-1) n)) := by
  refine ⟨fun i H' z z' => absurd z' z, ?_⟩
  intro r' m' B' H' e ab nk s
  refine ⟨fun _ => by simp [Itc], fun i x hx => ?_⟩
  rw [List.getElem?_map] at hx
  have hi : i < n := by
    cases q : (List.range n)[i]? with
    | none => rw [q] at hx; cases hx
    | some k => exact (by simpa using (List.getElem?_eq_some_iff.mp q).1)
  rw [List.getElem?_range hi] at hx
  cases hx
  refine ⟨hi, fun w H'' ⟨⟨e2, y⟩, nk2⟩ => ?_⟩
  subst e2 y
  refine ⟨ab.ext, ab, nk, ?_⟩
  have : lo + ((i : Nat) : Int) * -1 = lo - (i : Int) := by omega
  rw [this]
  exact .int _
theorem enumA_get : ∀ {xs : List AV} {k i : Nat} {z : AV}, (enumA k xs)[i]? = some z → ∃ x, xs[i]? = some x ∧ z = .tup [.int ((k + i : Nat) : Int), x]
  | [], k, i, z, h => by simp [enumA] at h
  | x :: xs, k, 0, z, h => by
    simp [enumA] at h
    exact ⟨x, rfl, by rw [← h]; simp⟩
  | x :: xs, k, i + 1, z, h => by
    simp only [enumA, List.getElem?_cons_succ] at h
    obtain ⟨y, h1, h2⟩ := enumA_get h
    exact ⟨y, by simpa using h1, by rw [h2, Nat.add_right_comm]; rfl⟩
theorem enumA_len : ∀ {xs : List AV} {k : Nat}, (enumA k xs).length = xs.length
  | [], k => rfl
  | x :: xs, k => by simp [enumA, enumA_len]
/-- a pair that a loop makes -/
theorem pair_new {r' : Nat → Addr} {m' : Mem} {B' : List Addr} {H' : Hp} {T : Addr} {x y : AV} {v w : V} (ab : Ab Y.K Y.ft r' m' B' H') (hT : H' T = none) (nk2 : NK Y.K (upd H' T (.tup [v, w]))) (hx : Rep Y.K Y.ft r' m'.length B' H' x v) (hy : Rep Y.K Y.ft r' m'.length B' H' y w) :
    Ext r' m'.length H' r' m'.length (upd H' T (.tup [v, w])) ∧ Ab Y.K Y.ft r' m' B' (upd H' T (.tup [v, w])) ∧ NK Y.K (upd H' T (.tup [v, w])) ∧ Rep Y.K Y.ft r' m'.length B' (upd H' T (.tup [v, w])) (.tup [x, y]) (.ref T) :=
  ⟨Ext.laid (fun i h => ab.liveN h) hT, ab.laid hT nk2, nk2, Rep.newTup ab hT nk2 (.cons hx (.cons hy .nil))⟩
theorem iter_enumT (h : SqT Y.K H a vs) (un : Un r m.length B a) (l : RepL Y.K Y.ft r m.length B H xs vs) : IterR Y r m B H (enumA 0 xs) (Itn Y.K (IteT Y.K a)) := by
  refine ⟨fun i H' z z' => absurd z' z, ?_⟩
  intro r' m' B' H' e ab nk s
  have l' := (l.aside (aside_of ab nk s)).mono e nk
  have h' := (sqT_mono e nk h un).1
  refine ⟨fun _ => ⟨vs, h', by rw [enumA_len, l.length]⟩, fun i x hx => ?_⟩
  obtain ⟨x', h0, rfl⟩ := enumA_get hx
  obtain ⟨v, h1, h2⟩ := l'.get h0
  refine ⟨⟨vs, v, h', h1⟩, fun w H'' ⟨⟨T, u, e2, hT, e3, y⟩, nk2⟩ => ?_⟩
  subst e2 e3
  have hw := y vs h'
  rw [h1] at hw; cases hw
  rw [Nat.zero_add]
  exact pair_new ab hT nk2 (.int _) h2
theorem iter_enumL (h : SqL Y.K H a vs) (un : Un r m.length B a) (l : RepL Y.K Y.ft r m.length B H xs vs) : IterR Y r m B H (enumA 0 xs) (Itn Y.K (Ite Y.K a)) := by
  refine ⟨fun i H' z z' => absurd z' z, ?_⟩
  intro r' m' B' H' e ab nk s
  have l' := (l.aside (aside_of ab nk s)).mono e nk
  have h' := (sqL_mono e nk h un).1
  refine ⟨fun _ => ⟨vs, h', by rw [enumA_len, l.length]; exact Nat.le_refl _⟩, fun i x hx => ?_⟩
  obtain ⟨x', h0, rfl⟩ := enumA_get hx
  obtain ⟨v, h1, h2⟩ := l'.get h0
  refine ⟨⟨vs, v, h', h1⟩, fun w H'' ⟨⟨T, u, e2, hT, e3, y⟩, nk2⟩ => ?_⟩
  subst e2 e3
  have hw := y vs h'
  rw [h1] at hw; cases hw
  rw [Nat.zero_add]
  exact pair_new ab hT nk2 (.int _) h2
theorem zip_get {i : Nat} {z : AV} (h : ((xs.zip ys).map fun p => AV.tup [p.1, p.2])[i]? = some z) : ∃ x y, xs[i]? = some x ∧ ys[i]? = some y ∧ z = .tup [x, y] := by
  rw [List.getElem?_map] at h
  cases q : (xs.zip ys)[i]? with
  | none => rw [q] at h; cases h
  | some p =>
    rw [q] at h; cases h
    obtain ⟨h1, h2⟩ := List.getElem?_zip_eq_some.mp q
    exact ⟨p.1, p.2, h1, h2, rfl⟩
theorem iter_zipT (h : SqT Y.K H a vs) (un : Un r m.length B a) (l : RepL Y.K Y.ft r m.length B H xs vs) (g : SqT Y.K H b ws) (un2 : Un r m.length B b) (l2 : RepL Y.K Y.ft r m.length B H ys ws) :
    IterR Y r m B H ((xs.zip ys).map fun p => .tup [p.1, p.2]) (Itn Y.K (RZ.ItzT Y.K a b)) := by
  refine ⟨fun i H' z z' => absurd z' z, ?_⟩
  intro r' m' B' H' e ab nk s
  have l' := (l.aside (aside_of ab nk s)).mono e nk
  have l2' := (l2.aside (aside_of ab nk s)).mono e nk
  have h' := (sqT_mono e nk h un).1
  have g' := (sqT_mono e nk g un2).1
  refine ⟨fun _ => ⟨vs, ws, h', g', ?_⟩, fun i x hx => ?_⟩
  · rw [List.length_map, List.length_zip, ← l.length, ← l2.length]
    omega
  obtain ⟨x', y', h0, g0, rfl⟩ := zip_get hx
  obtain ⟨v, h1, h2⟩ := l'.get h0
  obtain ⟨w, g1, g2⟩ := l2'.get g0
  refine ⟨⟨vs, ws, v, w, h', g', h1, g1⟩, fun q H'' ⟨⟨T, u, u2, e2, hT, e3, y, y2⟩, nk2⟩ => ?_⟩
  subst e2 e3
  have hw := y vs h'
  rw [h1] at hw; cases hw
  have hw := y2 ws g'
  rw [g1] at hw; cases hw
  exact pair_new ab hT nk2 h2 g2
theorem iter_zipL (h : SqL Y.K H a vs) (un : Un r m.length B a) (l : RepL Y.K Y.ft r m.length B H xs vs) (g : SqL Y.K H b ws) (un2 : Un r m.length B b) (l2 : RepL Y.K Y.ft r m.length B H ys ws) :
    IterR Y r m B H ((xs.zip ys).map fun p => .tup [p.1, p.2]) (Itn Y.K (Itz Y.K a b)) := by
  refine ⟨fun i H' z z' => absurd z' z, ?_⟩
  intro r' m' B' H' e ab nk s
  have l' := (l.aside (aside_of ab nk s)).mono e nk
  have l2' := (l2.aside (aside_of ab nk s)).mono e nk
  have h' := (sqL_mono e nk h un).1
  have g' := (sqL_mono e nk g un2).1
  refine ⟨fun _ => ⟨vs, ws, h', g', ?_⟩, fun i x hx => ?_⟩
  · rw [List.length_map, List.length_zip, ← l.length, ← l2.length]
    omega
  obtain ⟨x', y', h0, g0, rfl⟩ := zip_get hx
  obtain ⟨v, h1, h2⟩ := l'.get h0
  obtain ⟨w, g1, g2⟩ := l2'.get g0
  refine ⟨⟨vs, ws, v, w, h', g', h1, g1⟩, fun q H'' ⟨⟨T, u, u2, e2, hT, e3, y, y2⟩, nk2⟩ => ?_⟩
  subst e2 e3
  have hw := y vs h'
  rw [h1] at hw; cases hw
  have hw := y2 ws g'
  rw [g1] at hw; cases hw
  exact pair_new ab hT nk2 h2 g2
end
end PI
/-! PI, part n: loops over values; comprehensions. -/
namespace PI
open PySem PySem.Spec PyProof.Rows L2

/-- what a loop goes over -/
def evI (R : Prg) (n : Nat) (it : ItK) (src : List Ex) (env : Env') (m : Mem) : Res (List AV) := (eEs R n src env m).bind fun ss m => optR m (itE m it ss)
def tIt (Y : Lay) (R : Prg) (n : Nat) (it : ItK) (src : List Ex) (W : WX) : TI := tG Y (evI R n it src) (fun _ => IterR Y) W
theorem seqL_inv {K : PySem.W.Frag} {ft r : Nat → Addr} {n : Nat} {B : List Addr} {H : Hp} {x : AV} {v : V} {xs : List AV} (h : Rep K ft r n B H x v) (e : seqL x = some xs) : ∃ a vs, v = .ref a ∧ SqL K H a vs ∧ Un r n B a ∧ RepL K ft r n B H xs vs := by
  cases x with
  | frl ys =>
    obtain ⟨a, vs, e1, h1, h2, h3⟩ := h.frl_inv
    simp only [seqL, Option.some.injEq] at e
    subst e
    exact ⟨a, vs, e1, .of h1, h2, h3⟩
  | scr ys =>
    obtain ⟨a, vs, e1, h1, h2, h3⟩ := h.scr_inv
    simp only [seqL, Option.some.injEq] at e
    subst e
    exact ⟨a, vs, e1, h1, h2, h3⟩
  | _ => simp [seqL] at e
theorem seqOf_cases {m : Mem} {x : AV} {xs : List AV} (e : seqOf m x = some xs) : x = .tup xs ∨ seqL x = some xs := by
  cases x <;> simp [seqOf] at e <;> subst e <;> first | exact .inl rfl | exact .inr rfl
theorem inR_iff {i : Int} : inR i = true ↔ -(2 ^ 62) ≤ i ∧ i < 2 ^ 62 := by simp [inR]
section
variable {Y : Lay} {X : Cx} {R : Prg} {n : Nat} {W : WX} {a b : Ex} {x y : Expr} {p pos : Pos} {tg : Expr}
theorem evI1 {it : ItK} {env : Env'} {m : Mem} : evI R n it [a] env m = (eE R n a env m).bind fun u m => optR m (itE m it [u]) := by
  show ((((eE R n a env m).bind fun x m => (Res.ok [] m).bind fun xs m => Res.ok (x :: xs) m).bind fun ss m => optR m (itE m it ss)) = (eE R n a env m).bind fun u m => optR m (itE m it [u]))
  cases eE R n a env m <;> rfl
/-- the thing itself -/
theorem snd_it0 (hK : X.K = Y.K) (ha : PE X x (tE Y R n a W)) : L2.PI X tg x (tIt Y R n 0 [a] W) := by
  refine PI.nk (PI.or (pi_tup ha) (pi_list ha)) fun σ H Q nk ⟨r, m, B, env, s, f⟩ => ?_
  rw [evI1] at f
  cases q : eE R n a env m with
  | bad => rw [q] at f; exact f.elim
  | exc c d m1 => rw [q] at f; exact .inl ⟨r, m, B, env, s, by show Fin Y _ W r m B H σ _ (eE R n a env m); rw [q]; exact f⟩
  | ok u m1 =>
    rw [q] at f
    have f : Fin Y (IterR Y) W r m B H σ Q (optR m1 (itE m1 0 [u])) := f
    have eq : itE m1 0 [u] = seqOf m1 u := rfl
    rw [eq] at f
    cases e : seqOf m1 u with
    | none => rw [e] at f; exact f.elim
    | some z =>
      rw [e] at f
      rw [hK]
      rcases seqOf_cases e with rfl | e
      · refine .inl ⟨r, m, B, env, s, ?_⟩
        show Fin Y _ W r m B H σ _ (eE R n a env m)
        rw [q]
        intro r1 H1 v e1 ab nk1 rep
        obtain ⟨p, vs, rfl, t, un, l⟩ := rep.1.tup_inv
        exact ⟨p, rfl, ⟨vs, t⟩, fun _ => f r1 H1 _ e1 ab nk1 (iter_tup t un l)⟩
      · refine .inr ⟨r, m, B, env, s, ?_⟩
        show Fin Y _ W r m B H σ _ (eE R n a env m)
        rw [q]
        intro r1 H1 v e1 ab nk1 rep
        obtain ⟨p, vs, rfl, t, un, l⟩ := seqL_inv rep.1 e
        exact ⟨p, rfl, ⟨vs, t⟩, fun _ => f r1 H1 _ e1 ab nk1 (iter_lst t un l)⟩
theorem evI_bind {it : ItK} {src : List Ex} {r : Nat → Addr} {m : Mem} {B : List Addr} {H : Hp} {σ : L2.St} {Q : It → Hp → Prop} {env : Env'} (f : Fin Y (IterR Y) W r m B H σ Q (evI R n it src env m)) :
    Fin Y (RL Y) W r m B H σ (fun vs H1 => ∃ r1 us m1 xs, Mid Y (RL Y) r m B H (eEs R n src env m) vs H1 r1 us m1 ∧ itE m1 it us = some xs ∧ ∀ J, IterR Y r1 m1 B H1 xs J → Q J H1) (eEs R n src env m) := by
  refine (Fin.bind (RA := RL Y) f).imp ?_
  rintro vs H1 ⟨r1, us, m1, k, f1⟩
  unfold optR at f1
  split at f1
  · rename_i xs e
    exact ⟨r1, us, m1, xs, k, e, fun J j => f1 r1 H1 J k.ab.ext k.ab k.nk j⟩
  · exact f1.elim
theorem snd_rng1 (hg : Gl X "range") (hm : X.mg "range" = none) (hx : starred x = false) (ha : PA X [x] (tEs Y R n [a] W)) (hK : X.K = Y.K) : L2.PI X tg (.Call (.Name "range" p) [x] [] pos) (tIt Y R n 1 [a] W) := by
  refine PI.nk (pi_range1 hg hm ha (star_eq hx)) fun σ H Q nk ⟨r, m, B, env, s, f⟩ => ⟨r, m, B, env, s, (evI_bind f).imp ?_⟩
  rintro vs H1 ⟨r1, us, m1, xs, k, e, q⟩
  have l := evEs_len k.eq
  match us, l with
  | [u], _ =>
    cases u with
    | int j =>
      have e : (if inR j = true then some ((List.range j.toNat).map fun (k : Nat) => AV.int (0 + (k : Int))) else none) = some xs := e
      split at e
      · rename_i hj
        cases e
        obtain ⟨w, rfl, rw'⟩ := k.rep.one
        obtain rfl := rw'.int_inv
        exact ⟨j, rfl, (inR_iff.mp hj).1, (inR_iff.mp hj).2, fun _ => q _ (by rw [hK]; exact iter_rng)⟩
      · cases e
    | _ => cases e
theorem RepL.three {K : PySem.W.Frag} {ft r : Nat → Addr} {n : Nat} {B : List Addr} {H : Hp} {x y z : AV} {vs : List V} (h : RepL K ft r n B H [x, y, z] vs) : ∃ v w u, vs = [v, w, u] ∧ Rep K ft r n B H x v ∧ Rep K ft r n B H y w ∧ Rep K ft r n B H z u := by
  cases h with
  | cons a h => cases h with
    | cons b h => cases h with
      | cons c h => cases h; exact ⟨_, _, _, rfl, a, b, c⟩
theorem snd_rng2 (hg : Gl X "range") (hm : X.mg "range" = none) (hx : starred x = false) (hy : starred y = false) (ha : PA X [x, y] (tEs Y R n [a, b] W)) (hK : X.K = Y.K) : L2.PI X tg (.Call (.Name "range" p) [x, y] [] pos) (tIt Y R n 1 [a, b] W) := by
  have e1 : starEach [y] X.env = [(false, eval y X.env)] := star_eq hy
  refine PI.nk (pi_range2 hg hm ha (by rw [star_eq hx, e1]) e1) fun σ H Q nk ⟨r, m, B, env, s, f⟩ => ⟨r, m, B, env, s, (evI_bind f).imp ?_⟩
  rintro vs H1 ⟨r1, us, m1, xs, k, e, q⟩
  have l := evEs_len k.eq
  match us, l with
  | [u, w], _ =>
    cases u with
    | int i =>
      cases w with
      | int j =>
        have e : (if (inR i && inR j) = true then some ((List.range (j - i).toNat).map fun (k : Nat) => AV.int (i + (k : Int))) else none) = some xs := e
        split at e
        · rename_i hj
          cases e
          rw [Bool.and_eq_true] at hj
          obtain ⟨v, w, rfl, rv, rw'⟩ := k.rep.two
          obtain rfl := rv.int_inv
          obtain rfl := rw'.int_inv
          have h1 := inR_iff.mp hj.1
          have h2 := inR_iff.mp hj.2
          exact ⟨i, j, rfl, ⟨h1.1, h1.2, h2.1, h2.2⟩, fun _ => q _ (by rw [hK]; exact iter_rng)⟩
        · cases e
      | _ => cases e
    | _ => cases e
theorem snd_rng3 {c : Ex} {z : Expr} (hg : Gl X "range") (hm : X.mg "range" = none) (hx : starred x = false) (hy : starred y = false) (hz : starred z = false) (ha : PA X [x, y, z] (tEs Y R n [a, b, c] W)) (hK : X.K = Y.K) : L2.PI X tg (.Call (.Name "range" p) [x, y, z] [] pos) (tIt Y R n 1 [a, b, c] W) := by
  have e1 : starEach [z] X.env = [(false, eval z X.env)] := star_eq hz
  have e2 : starEach [y, z] X.env = (false, eval y X.env) :: starEach [z] X.env := star_eq hy
  refine PI.nk (pi_range3 hg hm ha (star_eq hx) (by rw [e2, e1]; rfl)) fun σ H Q nk ⟨r, m, B, env, s, f⟩ => ⟨r, m, B, env, s, (evI_bind f).imp ?_⟩
  rintro vs H1 ⟨r1, us, m1, xs, k, e, q⟩
  have l := evEs_len k.eq
  match us, l with
  | [u, w, t], _ =>
    cases u with
    | int i =>
      cases w with
      | int j =>
        cases t with
        | int st =>
          have e : (if (inR i && inR j && decide (st = -1)) = true then some ((List.range (i - j).toNat).map fun (k : Nat) => AV.int (i - (k : Int))) else none) = some xs := e
          split at e
          · rename_i hj
            cases e
            rw [Bool.and_eq_true, Bool.and_eq_true, decide_eq_true_eq] at hj
            obtain ⟨⟨h1, h2⟩, rfl⟩ := hj
            obtain ⟨v, w, u, rfl, rv, rw', ru⟩ := k.rep.three
            obtain rfl := rv.int_inv
            obtain rfl := rw'.int_inv
            obtain rfl := ru.int_inv
            have h1 := inR_iff.mp h1
            have h2 := inR_iff.mp h2
            exact ⟨i, j, -1, _, rfl, .neg h1.1 h1.2 h2.1 h2.2, fun _ => q _ (by rw [hK]; exact iter_dn)⟩
          · cases e
        | _ => cases e
      | _ => cases e
    | _ => cases e
theorem snd_enum {elts : List Expr} {kk : Nat} {tpos : Pos} (hg : Gl X "enumerate") (hm : X.mg "enumerate" = none) (hx : starred x = false) (ha : PA X [x] (tEs Y R n [a] W)) (hK : X.K = Y.K) : L2.PI X (.Tuple elts kk tpos) (.Call (.Name "enumerate" p) [x] [] pos) (tIt Y R n 2 [a] W) := by
  refine PI.nk (PI.or (pi_enumT hg hm ha (star_eq hx)) (pi_enum hg hm ha (star_eq hx))) fun σ H Q nk ⟨r, m, B, env, s, f⟩ => ?_
  have f0 := evI_bind f
  cases q : eEs R n [a] env m with
  | bad => rw [q] at f0; exact f0.elim
  | exc c d m1 =>
    rw [q] at f0
    exact .inl ⟨r, m, B, env, s, by show Fin Y _ W r m B H σ _ (eEs R n [a] env m); rw [q]; exact f0⟩
  | ok us m1 =>
    have l := evEs_len q
    match us, l with
    | [u], _ =>
      cases e0 : seqOf m1 u with
      | none =>
        exfalso
        unfold evI at f
        rw [q] at f
        have f : Fin Y (IterR Y) W r m B H σ Q (optR m1 ((seqOf m1 u).map (enumA 0))) := f
        rw [e0] at f
        exact f.elim
      | some xs =>
        unfold evI at f
        rw [q] at f
        have f : Fin Y (IterR Y) W r m B H σ Q (optR m1 ((seqOf m1 u).map (enumA 0))) := f
        rw [e0] at f
        rw [hK]
        rcases seqOf_cases e0 with rfl | e
        · refine .inl ⟨r, m, B, env, s, ?_⟩
          show Fin Y _ W r m B H σ _ (eEs R n [a] env m)
          rw [q]
          intro r1 H1 v e1 ab nk1 rep
          obtain ⟨w, rfl, rw'⟩ := RepL.one rep
          obtain ⟨p, vs, rfl, t, un, l⟩ := rw'.tup_inv
          exact ⟨p, vs, rfl, t, fun _ => f r1 H1 _ e1 ab nk1 (iter_enumT t un l)⟩
        · refine .inr ⟨r, m, B, env, s, ?_⟩
          show Fin Y _ W r m B H σ _ (eEs R n [a] env m)
          rw [q]
          intro r1 H1 v e1 ab nk1 rep
          obtain ⟨w, rfl, rw'⟩ := RepL.one rep
          obtain ⟨p, vs, rfl, t, un, l⟩ := seqL_inv rw' e
          exact ⟨p, vs, rfl, t, fun _ => f r1 H1 _ e1 ab nk1 (iter_enumL t un l)⟩
theorem zip_cases {m : Mem} {u w : AV} {zs : List AV} (e : itE m 3 [u, w] = some zs) : ∃ xs ys, zs = ((xs.zip ys).map fun p => .tup [p.1, p.2]) ∧ ((u = .tup xs ∧ w = .tup ys) ∨ (seqL u = some xs ∧ seqL w = some ys)) := by
  by_cases h : ∃ xs ys, u = .tup xs ∧ w = .tup ys
  · obtain ⟨xs, ys, rfl, rfl⟩ := h
    cases e
    exact ⟨xs, ys, rfl, .inl ⟨rfl, rfl⟩⟩
  · have e2 : itE m 3 [u, w] = (match seqL u, seqL w with
      | some xs, some ys => some ((xs.zip ys).map fun p => AV.tup [p.1, p.2])
      | _, _ => none) := by
      cases u <;> cases w <;> first | rfl | exact absurd ⟨_, _, rfl, rfl⟩ h
    rw [e2] at e
    split at e
    · rename_i xs ys h1 h2
      cases e
      exact ⟨xs, ys, rfl, .inr ⟨h1, h2⟩⟩
    · cases e
theorem snd_zip {elts : List Expr} {kk : Nat} {tpos : Pos} (hg : Gl X "zip") (hm : X.mg "zip" = none) (hx : starred x = false) (hy : starred y = false) (ha : PA X [x, y] (tEs Y R n [a, b] W)) (hK : X.K = Y.K) : L2.PI X (.Tuple elts kk tpos) (.Call (.Name "zip" p) [x, y] [] pos) (tIt Y R n 3 [a, b] W) := by
  have e1 : starEach [y] X.env = [(false, eval y X.env)] := star_eq hy
  refine PI.nk (RZ.pi_zipA hg hm ha (star_eq hx) (by rw [e1]; rfl)) fun σ H Q nk ⟨r, m, B, env, s, f⟩ => ⟨r, m, B, env, s, (evI_bind f).imp ?_⟩
  rintro vs H1 ⟨r1, us, m1, zs, k, e, q⟩
  have l := evEs_len k.eq
  match us, l with
  | [u, w], _ =>
    obtain ⟨xs, ys, rfl, h⟩ := zip_cases e
    obtain ⟨v, v2, rfl, rv, rw'⟩ := k.rep.two
    rw [hK]
    rcases h with ⟨rfl, rfl⟩ | ⟨h1, h2⟩
    · obtain ⟨p, ps, rfl, t, un, l⟩ := rv.tup_inv
      obtain ⟨p2, ps2, rfl, t2, un2, l2⟩ := rw'.tup_inv
      exact ⟨p, p2, ps, ps2, rfl, .inr ⟨t, t2, fun _ => q _ (iter_zipT t un l t2 un2 l2)⟩⟩
    · obtain ⟨p, ps, rfl, t, un, l⟩ := seqL_inv rv h1
      obtain ⟨p2, ps2, rfl, t2, un2, l2⟩ := seqL_inv rw' h2
      exact ⟨p, p2, ps, ps2, rfl, .inl ⟨t, t2, fun _ => q _ (iter_zipL t un l t2 un2 l2)⟩⟩
end
end PI
/-! PI, part o: targets; comprehensions. -/
namespace PI
open PySem PySem.Spec PyProof.Rows L2

def gNs : List Nat → TGs
  | [] => gNil
  | t :: ts => gCons (gName t) (gNs ts)
def gT (K : PySem.W.Frag) : Tg → TG
  | .nm i => gName i
  | .tu ts => gTup K ts.length (gNs ts)
theorem wipe_get {σ : L2.St} {i : Nat} : ∀ {vs : List Nat}, (wipe σ vs)[i]? = if i < σ.length then (if i ∈ vs then some none else σ[i]?) else none
  | [] => by
    simp [wipe]
  | v :: vs => by
    unfold wipe
    by_cases h : v = i
    · subst h
      by_cases hl : v < σ.length
      · rw [List.getElem?_set_self (by rw [wipe_length]; exact hl)]; simp [hl]
      · rw [List.getElem?_eq_none (by rw [List.length_set, wipe_length]; omega)]; simp [hl]
    · rw [List.getElem?_set_ne h, wipe_get]
      have : i ≠ v := fun z => h z.symm
      simp [this]
theorem wipe_set {σ : L2.St} {i : Nat} {x : Option V} {vs : List Nat} (h : i ∈ vs) : wipe (σ.set i x) vs = wipe σ vs := by
  apply List.ext_getElem?
  intro j
  rw [wipe_get, wipe_get, List.length_set]
  by_cases hj : j ∈ vs
  · simp [hj]
  · have : i ≠ j := fun z => hj (z ▸ h)
    rw [List.getElem?_set_ne this]
theorem wipe_wipe {σ : L2.St} {vs : List Nat} : wipe (wipe σ vs) vs = wipe σ vs := by
  apply List.ext_getElem?
  intro j
  rw [wipe_get, wipe_length, wipe_get]
  split
  · split
    · rfl
    · rfl
  · rfl
section
variable {K : PySem.W.Frag} {ft r : Nat → Addr} {n : Nat} {B : List Addr} {H : Hp}
theorem gNs_ok : ∀ {ts : List Nat} {xs : List AV} {vs : List V} {env : Env'} {σ : L2.St} {Q : L2.St → Hp → Prop}, ts.length = xs.length → RepL K ft r n B H xs vs → EnvR K ft r n B H env σ →
    (∀ σ', EnvR K ft r n B H ((ts.zip xs).foldl (fun e p => e.set p.1 (some p.2)) env) σ' → (∀ ws, (∀ t ∈ ts, t ∈ ws) → wipe σ' ws = wipe σ ws) → Q σ' H) → gNs ts vs σ H Q
  | [], xs, vs, env, σ, Q, hl, l, er, k => by
    cases l with
    | nil => exact ⟨rfl, k σ er fun _ _ => rfl⟩
    | cons _ _ => cases hl
  | t :: ts, xs, vs, env, σ, Q, hl, l, er, k => by
    cases l with
    | nil => cases hl
    | cons a l =>
      refine ⟨_, _, rfl, ?_⟩
      refine gNs_ok (by simpa using hl) l (er.set a t) fun σ' e' w => k σ' e' fun ws hw => ?_
      rw [w ws fun u hu => hw u (by simp [hu]), wipe_set (hw t (by simp))]
theorem gT_ok {tg : Tg} {env e2 : Env'} {x : AV} {v : V} {σ : L2.St} {Q : L2.St → Hp → Prop} (h : setTg env tg x = some e2) (rx : Rep K ft r n B H x v) (er : EnvR K ft r n B H env σ)
    (k : ∀ σ', EnvR K ft r n B H e2 σ' → (∀ ws, (∀ t ∈ sTg tg, t ∈ ws) → wipe σ' ws = wipe σ ws) → Q σ' H) : gT K tg v σ H Q := by
  cases tg with
  | nm i =>
    cases h
    exact k _ (er.set rx i) fun ws hw => wipe_set (hw i (by simp [sTg]))
  | tu ts =>
    cases x with
    | tup xs =>
      have h : (if ts.length = xs.length then some ((ts.zip xs).foldl (fun (e : Env') p => e.set p.1 (some p.2)) env) else none) = some e2 := h
      split at h
      · rename_i hl
        cases h
        obtain ⟨a, vs, rfl, t, un, l⟩ := rx.tup_inv
        exact ⟨a, vs, rfl, t, by rw [← l.length, hl], gNs_ok hl l er k⟩
      · cases h
    | _ => cases h
end

section
variable {X : Cx} {G : Gam}
theorem storeOk_iff {i : Nat} {x : Str} (hN : X.N = G.N) (hs : X.env.scope = G.sc) (hf : ∀ x, G.fn x = true → X.fn x = true) (h : storeOk G i x = true) : X.N[i]? = some x ∧ Loc X.env.scope x ∧ (X.fn x = true ∨ X.env.scope.names.lookup x = some .local) := by
  unfold storeOk at h
  rw [Bool.and_eq_true, decide_eq_true_eq] at h
  obtain ⟨h1, h2⟩ := h
  refine ⟨by rw [hN]; exact h1, ?_⟩
  unfold Gam.loc at h2
  rw [← hs] at h2
  split at h2
  · rename_i e; exact ⟨.inl e, .inr e⟩
  · rename_i e; exact ⟨.inr e, .inl (hf _ h2)⟩
  · cases h2
def allNm (es : List Expr) : Prop := ∀ e ∈ es, ∃ x p, e = .Name x p
theorem each_len (env : Env) : ∀ {es : List Expr}, allNm es → (assignEach es env).length = es.length ∧ (assignEach es env).findIdx? (·.1) = none
  | [], _ => ⟨rfl, rfl⟩
  | e :: es, h => by
    obtain ⟨x, p, rfl⟩ := h e (by simp)
    obtain ⟨h1, h2⟩ := each_len env (es := es) fun u hu => h u (by simp [hu])
    have : assignEach (.Name x p :: es) env = (false, assign (.Name x p) env) :: assignEach es env := rfl
    rw [this]
    refine ⟨by simp [h1], ?_⟩
    rw [List.findIdx?_cons]
    simp [h2]
theorem pgs_ok (hN : X.N = G.N) (nd : X.N.Nodup) (hs : X.env.scope = G.sc) (hf : ∀ x, G.fn x = true → X.fn x = true) : ∀ {is : List Nat} {es : List Expr}, is.length = es.length → ((is.zip es).all fun p => match asName p.2 with
      | some x => storeOk G p.1 x
      | none => false) = true → PGs X es (gNs is) ∧ allNm es
  | [], [], _, _ => ⟨pgs_nil, fun _ h => by cases h⟩
  | [], e :: es, h, _ => by cases h
  | i :: is, [], h, _ => by cases h
  | i :: is, e :: es, hl, h => by
    rw [List.zip_cons_cons, List.all_cons, Bool.and_eq_true] at h
    obtain ⟨h1, h2⟩ := h
    split at h1
    · rename_i x e1
      obtain ⟨p, rfl⟩ := asName_some e1
      obtain ⟨q1, q2, q3⟩ := storeOk_iff hN hs hf h1
      obtain ⟨r1, r2⟩ := pgs_ok hN nd hs hf (by simpa using hl) h2
      refine ⟨pgs_cons (pg_name nd q1 q2 q3) r1 rfl, fun u hu => ?_⟩
      rcases List.mem_cons.mp hu with z | z
      · exact ⟨x, p, z⟩
      · exact r2 u z
    · cases h1
theorem snd_tg {tg : Tg} {e : Expr} (hN : X.N = G.N) (nd : X.N.Nodup) (hs : X.env.scope = G.sc) (hf : ∀ x, G.fn x = true → X.fn x = true) (hc : X.calm = true) (h : chkTg G tg e = true) : PG X e (gT X.K tg) := by
  cases tg with
  | nm i =>
    have h : (match asName e with
      | some x => storeOk G i x
      | none => false) = true := h
    split at h
    · rename_i x e1
      obtain ⟨p, rfl⟩ := asName_some e1
      obtain ⟨q1, q2, q3⟩ := storeOk_iff hN hs hf h
      exact pg_name nd q1 q2 q3
    · cases h
  | tu is =>
    have h : (match asTup e with
      | some es => decide (is.length = es.length) && (is.zip es).all fun p => match asName p.2 with
        | some x => storeOk G p.1 x
        | none => false
      | none => false) = true := h
    cases e1 : asTup e with
    | some es =>
      rw [e1] at h
      obtain ⟨k, p, rfl⟩ := asTup_some e1
      have h : (decide (is.length = es.length) && (is.zip es).all fun p => match asName p.2 with
        | some x => storeOk G p.1 x
        | none => false) = true := h
      rw [Bool.and_eq_true, decide_eq_true_eq] at h
      obtain ⟨r1, r2⟩ := pgs_ok hN nd hs hf h.1 h.2
      obtain ⟨l1, l2⟩ := each_len X.env r2
      exact pg_tup hc r1 (by rw [l1, h.1]) l2
    | none => rw [e1] at h; cases h
end

/-! ### comprehensions -/
def W0 : WX := fun _ _ _ _ => False
def tCd (Y : Lay) (R : Prg) (n : Nat) : Option Ex → TT
  | none => tYes
  | some e => tT Y R n e W0
/-- a turn -/
def stp (R : Prg) (n : Nat) (elt : Ex) (own : List Nat) (tg : Tg) (cond : Option Ex) (env : Env') : AV → Mem → Res (Option AV) := fun x m => match setTg (wipeE env own) tg x with
  | some e2 => match evC (callE R.P R.gv R.sb n) R.gv cond e2 m with
    | .ok true m => (evE (callE R.P R.gv R.sb n) R.gv elt e2 m).bind fun y m => .ok (some y) m
    | .ok false m => .ok none m
    | _ => .bad
  | none => .bad
section
variable {Y : Lay} {R : Prg} {n : Nat} {W : WX} {elt : Ex} {own : List Nat} {tg : Tg} {cond : Option Ex} {env : Env'}
theorem stp_ok {x : AV} {m m3 : Mem} {o : Option AV} (h : stp R n elt own tg cond env x m = .ok o m3) : ∃ e2 b m2, setTg (wipeE env own) tg x = some e2 ∧ evC (callE R.P R.gv R.sb n) R.gv cond e2 m = .ok b m2 ∧
    ((b = true ∧ ∃ y, o = some y ∧ eE R n elt e2 m2 = .ok y m3) ∨ (b = false ∧ o = none ∧ m3 = m2)) := by
  unfold stp at h
  split at h
  · rename_i e2 h1
    split at h
    · rename_i m2 h2
      refine ⟨e2, true, m2, h1, h2, .inl ⟨rfl, ?_⟩⟩
      cases q : eE R n elt e2 m2 with
      | bad => simp only [eE] at q; rw [q] at h; cases h
      | exc c d m4 => simp only [eE] at q; rw [q] at h; cases h
      | ok y m4 => simp only [eE] at q; rw [q] at h; cases h; exact ⟨y, rfl, rfl⟩
    · rename_i m2 h2
      cases h
      exact ⟨e2, false, _, h1, h2, .inr ⟨rfl, rfl, rfl⟩⟩
    · cases h
  · cases h
theorem lcLoop_cons {step : AV → Mem → Res (Option AV)} {x : AV} {xs acc ys : List AV} {m mE : Mem} (h : lcLoop step (x :: xs) acc m = .ok ys mE) : (∃ m3, step x m = .ok none m3 ∧ lcLoop step xs acc m3 = .ok ys mE) ∨ (∃ y m3, step x m = .ok (some y) m3 ∧ acc.length < sizeLine ∧ lcLoop step xs (acc ++ [y]) m3 = .ok ys mE) := by
  unfold lcLoop at h
  split at h
  · rename_i m3 e; exact .inl ⟨m3, e, h⟩
  · rename_i y m3 e
    split at h
    · rename_i hl; exact .inr ⟨y, m3, e, of_decide_eq_true hl, h⟩
    · cases h
  · cases h
theorem lcLoop_res {step : AV → Mem → Res (Option AV)} : ∀ {xs acc : List AV} {m : Mem}, lcLoop step xs acc m = .bad ∨ ∃ ys mE, lcLoop step xs acc m = .ok ys mE
  | [], acc, m => .inr ⟨_, _, rfl⟩
  | x :: xs, acc, m => by
    unfold lcLoop
    split
    · exact lcLoop_res
    · split
      · exact lcLoop_res
      · exact .inl rfl
    · exact .inl rfl
/-- the turns of a comprehension -/
theorem lc_read {σ : L2.St} {H : Hp} {Q : VK} {it : Nat} {src : List Ex} (hown : ∀ t ∈ sTg tg, t ∈ own) (h : tE Y R n (.lc elt own tg it src cond) W σ H Q) :
    tLc (tIt Y R n it src W) (gT Y.K tg) (tCd Y R n cond) (tE Y R n elt W0) own σ H (fun v H' => NK Y.K H' → Q v H') := by
  obtain ⟨r, m, B, env, s, f⟩ := h
  have f : Fin Y (RFx Y true H) W r m B H σ Q ((eEs R n src env m).bind fun ss m => match itE m it ss with
    | some xs => (lcLoop (stp R n elt own tg cond env) xs [] m).bind fun ys m => .ok (.frl ys) m
    | none => .bad) := f
  have f2 : Fin Y (RFx Y true H) W r m B H σ Q ((evI R n it src env m).bind fun xs m => (lcLoop (stp R n elt own tg cond env) xs [] m).bind fun ys m => .ok (.frl ys) m) := by
    unfold evI
    cases q : eEs R n src env m with
    | bad => rw [q] at f; exact f
    | exc c d m1 => rw [q] at f; exact f
    | ok us m1 =>
      rw [q] at f
      have f : Fin Y (RFx Y true H) W r m B H σ Q (match itE m1 it us with
        | some xs => (lcLoop (stp R n elt own tg cond env) xs [] m1).bind fun ys m => .ok (.frl ys) m
        | none => .bad) := f
      show Fin Y (RFx Y true H) W r m B H σ Q ((optR m1 (itE m1 it us)).bind fun xs m => (lcLoop (stp R n elt own tg cond env) xs [] m).bind fun ys m => .ok (.frl ys) m)
      cases q2 : itE m1 it us with
      | none => rw [q2] at f; exact f
      | some xs => rw [q2] at f; exact f
  refine ⟨r, m, B, env, s, (Fin.bind (RA := IterR Y) f2).imp ?_⟩
  rintro J H1 ⟨r1, xs, m1, k, f1⟩ D hD
  by_cases hk : Y.K.lookup D = none
  case neg =>
    have nn : ¬ NK Y.K (upd H1 D (.lst [])) := fun nk => by
      cases q : Y.K.lookup D with
      | none => exact hk q
      | some o =>
        have := nk D o q
        rw [upd_same] at this; cases this
    refine ⟨fun i c H' => H' = upd H1 D (.lst []), ⟨0, rfl⟩, fun i c H' e => .inl ⟨?_, fun nk => ?_⟩⟩
    · rw [e]; exact k.rep.1 i _ nn
    · rw [e] at nk; exact absurd nk nn
  have nk0 : NK Y.K (upd H1 D (.lst [])) := fun b o e => by
    by_cases z : b = D
    · rw [z, hk] at e; cases e
    · rw [upd_ne z]; exact k.nk b o e
  rcases lcLoop_res (step := stp R n elt own tg cond env) (xs := xs) (acc := []) (m := m1) with z | ⟨ys, mE, z⟩
  · rw [z] at f1; exact f1.elim
  rw [z] at f1
  have fin : ∀ r' H' v, Ext r1 m1.length H1 r' mE.length H' → Ab Y.K Y.ft r' mE B H' → NK Y.K H' → RFx Y true H r' mE B H' (.frl ys) v → Q v H' := f1
  have hDB : D ∉ B := fun q => (k.ab.blk D q).1 hD
  have side : ∀ b ∈ D :: B, b ∈ B ∨ H1 b = none := fun b hb => (List.mem_cons.mp hb).elim (fun e => .inr (by rw [e]; exact hD)) .inl
  refine ⟨fun i c H' => c = xs.length - i ∧ i ≤ xs.length ∧ ∃ r' m' acc vs, Ext r1 m1.length H1 r' m'.length H' ∧ Ab Y.K Y.ft r' m' (D :: B) H' ∧ NK Y.K H' ∧ H' D = some (.lst vs) ∧ RepL Y.K Y.ft r' m'.length (D :: B) H' acc vs ∧ lcLoop (stp R n elt own tg cond env) (xs.drop i) acc m' = .ok ys mE,
    ⟨xs.length, by simp, Nat.zero_le _, r1, m1, [], [], Ext.laid (fun i h => k.ab.liveN h) hD, k.ab.aside hD nk0, nk0, upd_same, .nil, z⟩, ?_⟩
  rintro i c H' ⟨rfl, hi, r', m', acc, vs, ex, ab, nk, hDv, l, lp⟩
  obtain ⟨st, gy⟩ := k.rep.2 r' m' (D :: B) H' ex ab nk side
  by_cases hlt : i < xs.length
  case neg =>
    have e : i = xs.length := by omega
    subst e
    rw [List.drop_length] at lp
    have lp : Res.ok acc m' = .ok ys mE := lp
    cases lp
    refine .inl ⟨st, fun _ => fin r' H' _ ex (ab.less fun b hb => by simp [hb]) nk ⟨.frl hDv ⟨(ab.blk D (by simp)).2, hDB⟩ (l.less fun b hb => by simp [hb]), fun _ xs e a e2 => ?_⟩⟩
    cases e
    cases e2
    exact ⟨k.ext.none_of hD, ab, hDB, vs, hDv, l⟩
  obtain ⟨hgo, hy⟩ := gy i xs[i] (by simp [hlt])
  refine .inr ⟨hgo, fun H' => _, fun H' q => ⟨xs.length - (i + 1), by omega, rfl, hlt, q⟩, fun x H2 y2 => ?_⟩
  obtain ⟨ex2, ab2, nk2, rx⟩ := hy x H2 y2
  rw [List.drop_eq_getElem_cons hlt] at lp
  have er2 : EnvR Y.K Y.ft r' m'.length (D :: B) H2 (wipeE env own) (wipe σ own) :=
    (((s.er.mono k.ext k.nk).aside (aside_of ab nk side)).mono (ex.trans ex2) nk2).wipe own
  have key : ∀ {o : Option AV} {m3 : Mem}, stp R n elt own tg cond env xs[i] m' = .ok o m3 → ∀ (Ny : V → Hp → Prop) (Nn : Hp → Prop), (∀ r3 H4 yv y, o = some yv → Ext r' m'.length H2 r3 m3.length H4 → Ab Y.K Y.ft r3 m3 (D :: B) H4 → NK Y.K H4 → Rep Y.K Y.ft r3 m3.length (D :: B) H4 yv y → Ny y H4) →
      (∀ r3 H4, o = none → Ext r' m'.length H2 r3 m3.length H4 → Ab Y.K Y.ft r3 m3 (D :: B) H4 → NK Y.K H4 → Nn H4) →
      gT Y.K tg x (wipe σ own) H2 fun σ2 H2 => wipe σ2 own = wipe σ own ∧ tCd Y R n cond σ2 H2 fun b H3 => if b = true then tE Y R n elt W0 σ2 H3 Ny else Nn H3 := fun {o m3} hs Ny Nn ky kn => by
    obtain ⟨e2, b, m2, hset, hc, hr⟩ := stp_ok hs
    refine gT_ok hset rx er2 fun σ2 er3 hw => ⟨by rw [hw own hown, wipe_wipe], ?_⟩
    have after : ∀ r2 H3, Ext r' m'.length H2 r2 m2.length H3 → Ab Y.K Y.ft r2 m2 (D :: B) H3 → NK Y.K H3 → (if b = true then tE Y R n elt W0 σ2 H3 Ny else Nn H3) := fun r2 H3 x1 x2 x3 => by
      rcases hr with ⟨rfl, y, rfl, he⟩ | ⟨rfl, rfl, rfl⟩
      · rw [if_pos rfl]
        refine ⟨r2, m2, D :: B, e2, ⟨x2, er3.mono x1 x3, x3⟩, ?_⟩
        rw [he]
        exact fun r3 H4 v y1 y2 y3 y4 => ky r3 H4 y v rfl (x1.trans y1) y2 y3 y4.1
      · rw [if_neg (by decide)]
        exact kn r2 H3 rfl x1 x2 x3
    cases cond with
    | none =>
      have hc : Res.ok true m' = .ok b m2 := hc
      cases hc
      exact after r' H2 ab2.ext ab2 nk2
    | some ce =>
      refine ⟨r', m', D :: B, e2, ⟨ab2, er3, nk2⟩, ?_⟩
      have hc : toB (eE R n ce e2 m') = .ok b m2 := hc
      show Fin Y REq W0 r' m' (D :: B) H2 σ2 _ (toB (eE R n ce e2 m'))
      rw [hc]
      intro r2 H3 b' x1 x2 x3 x4
      obtain rfl : b = b' := x4
      exact after r2 H3 x1 x2 x3
  have more : ∀ {r3 : Nat → Addr} {m3 : Mem} {H4 : Hp}, Ext r' m'.length H2 r3 m3.length H4 → H4 D = some (.lst vs) := fun {r3 m3 H4} e => by
    refine e.frm D _ (ex2.frm D _ hDv (ab.blk D (by simp)).2) (ab.blk D (by simp)).2
  rcases lcLoop_cons lp with ⟨m3, hs, lp⟩ | ⟨y, m3, hs, hl, lp⟩
  · refine key hs _ _ (fun r3 H4 yv y e => by cases e) fun r3 H4 _ x1 x2 x3 => ?_
    exact ⟨r3, m3, acc, vs, ex.trans (ex2.trans x1), x2, x3, more x1, l.mono (ex2.trans x1) x3, lp⟩
  · refine key hs _ _ (fun r3 H4 yv w e x1 x2 x3 x4 => ?_) fun r3 H4 e => by cases e
    cases e
    have hD4 := more x1
    have un : ∀ j, j < m3.length → r3 j ≠ D := (x2.blk D (by simp)).2
    have l4 := l.mono (ex2.trans x1) x3
    refine ⟨vs, hD4, by rw [← l.length]; exact hl, r3, m3, acc ++ [y], vs ++ [w], (ex.trans (ex2.trans x1)).off hD un, x2.off (by simp), x3.off (by rw [hD4]; exact fun z => by cases z), upd_same, ?_, lp⟩
    exact RepL.off (by simp) (l4.append (.cons x4 .nil))
end
end PI
/-! PI, part p: every expression that was checked. -/
namespace PI
open PySem PySem.Spec PyProof.Rows L2

theorem he_of {x : Expr} {X : Cx} (h : plainT x = true) : ∀ whole, isTrue x X.env whole = (do let v ← whole; standAt x.pos; holding [v] (truthy v)) := by
  intro whole
  cases x with
  | UnaryOp o a p => cases o <;> first | rfl | cases h
  | BoolOp => cases h
  | IfExp => cases h
  | Compare => cases h
  | _ => rfl
def testy : Ex → Bool
  | .not _ | .cmp .. | .chn .. | .and _ | .or _ | .ite .. => true
  | _ => false
theorem plain_of {T : Top} {G : Gam} {a : Ex} {e : Expr} (h : chkE T G a e = true) (ht : testy a = false) : plainT e = true := by
  cases e with
  | UnaryOp o x p =>
    cases o with
    | Not => cases a <;> first | (simp [chkE, asConst, asName, asTup, asLst, asBin, asUn, asSub, asCall, asMeth, asLc, plainT] at h; done) | (cases ht; done)
    | _ => rfl
  | BoolOp o x p => cases a <;> first | (simp [chkE, asConst, asName, asTup, asLst, asBin, asUn, asSub, asCall, asMeth, asLc, plainT] at h; done) | (cases ht; done)
  | IfExp => cases a <;> first | (simp [chkE, asConst, asName, asTup, asLst, asBin, asUn, asSub, asCall, asMeth, asLc, plainT] at h; done) | (cases ht; done)
  | Compare => cases a <;> first | (simp [chkE, asConst, asName, asTup, asLst, asBin, asUn, asSub, asCall, asMeth, asLc, plainT] at h; done) | (cases ht; done)
  | _ => rfl
theorem eqS_eq {a b : Str} (h : eqS a b = true) : a = b := of_decide_eq_true h
section
variable {Y : Lay} {R : Prg} {n : Nat} {G : Gam} {X : Cx}
theorem XOk.gl (h : XOk Y R n G X) {x : Str} (g : G.glb x = true) : Gl X x := by
  unfold Gam.glb at g
  split at g
  · rename_i e
    show X.env.scope.names.lookup x = _
    rw [h.sc]; exact e
  · cases g
theorem XOk.blt (h : XOk Y R n G X) {x : Str} (g : bltOk R.T G x = true) : Gl X x ∧ X.mg x = none := by
  unfold bltOk at g
  rw [Bool.and_eq_true, List.any_eq_true] at g
  obtain ⟨g1, y, g2, g3⟩ := g
  refine ⟨h.gl g1, ?_⟩
  rw [eqS_eq g3]; exact h.free y g2
theorem nameOk_iff {x : Str} (h : nameOk x = true) : (x == ("__debug__" : Str)) = false ∧ (x == ("__classdict__" : Str)) = false ∧ (x == ("__name__" : Str)) = false := by
  unfold nameOk at h
  simp only [Bool.and_eq_true, Bool.not_eq_true'] at h
  exact ⟨h.1.1, h.1.2, h.2⟩
theorem XOk.slot (h : XOk Y R n G X) {i : Nat} {x : Str} (g : slotOk G i x = true) : X.N[i]? = some x ∧ Vis X.env.scope x ∧ (x == ("__debug__" : Str)) = false ∧ (x == ("__classdict__" : Str)) = false := by
  unfold slotOk at g
  rw [Bool.and_eq_true, Bool.and_eq_true, decide_eq_true_eq] at g
  obtain ⟨⟨g1, g2⟩, g3⟩ := g
  refine ⟨by rw [h.N]; exact g1, ?_, (nameOk_iff g3).1, (nameOk_iff g3).2.1⟩
  unfold Gam.vis at g2
  rw [← h.sc] at g2
  split at g2
  · rename_i e; exact .inl e
  · rename_i e; exact .inr (.inl e)
  · rename_i e; exact .inr (.inr e)
  · cases g2
theorem XOk.units (h : XOk Y R n G X) : X.A.units + 100 < cLine := by
  have := h.room.un
  omega
/-- the block of a comprehension -/
theorem XOk.blk (h : XOk Y R n G X) {G2 : Gam} {scope : Scope} {own : List Nat} (g : scB G scope own = some G2) (s : Shared) (H : Hp) (C : Addr) (cl : List (Str × Addr)) (fp : List Addr) :
    XOk Y R n G2 (X.blk s H scope (compEnvC scope cl C X.env) fp) := by
  unfold scB at g
  dsimp only at g
  split at g
  · rename_i q
    rw [Bool.and_eq_true, decide_eq_true_eq] at q
    cases g
    refine ⟨h.K, h.N, h.nd, ?_, fun x e => e, h.calm, h.room, h.grd, h.defs, h.par, h.cons, h.free, h.excs, h.exm⟩
    show relS scope X.env.scope = relS scope G.sc
    rw [h.sc]
  · cases g
theorem XOk.blkO (h : XOk Y R n G X) {G2 : Gam} {scope : Scope} {own : List Nat} (g : scB G scope own = some G2) : ∃ ow : List (Str × Nat), ow.map (·.2) = own ∧ BlkOk X.N X.env.scope scope ow := by
  unfold scB at g
  dsimp only at g
  split at g
  · rename_i q
    rw [Bool.and_eq_true, decide_eq_true_eq] at q
    cases g
    refine ⟨_, q.1, ?_⟩
    rw [h.N, h.sc]; exact blkOk_by q.2
  · cases g
theorem takesW0 {X : Cx} : Takes X W0 := L2.takes0
theorem chkEs_star {T : Top} : ∀ {es : List Ex} {xs : List Expr}, chkEs T G es xs = true → ∀ x ∈ xs, starred x = false
  | [], xs, h => by
    cases xs with
    | nil => intro x hx; cases hx
    | cons => cases h
  | e :: es, [], h => by cases h
  | e :: es, x :: xs, h => by
    have h : (!starred x && chkE T G e x && chkEs T G es xs) = true := h
    rw [Bool.and_eq_true, Bool.and_eq_true, Bool.not_eq_true'] at h
    intro y hy
    rcases List.mem_cons.mp hy with z | z
    · rw [z]; exact h.1.1
    · exact chkEs_star h.2 y z
theorem chkEs_len {T : Top} : ∀ {es : List Ex} {xs : List Expr}, chkEs T G es xs = true → es.length = xs.length
  | [], xs, h => by
    cases xs with
    | nil => rfl
    | cons => cases h
  | e :: es, [], h => by cases h
  | e :: es, x :: xs, h => by
    have h : (!starred x && chkE T G e x && chkEs T G es xs) = true := h
    rw [Bool.and_eq_true, Bool.and_eq_true] at h
    simp [chkEs_len h.2]
theorem star_all {xs : List Expr} {env : Env} (h : ∀ x ∈ xs, starred x = false) {pos : Pos} : (backTo pos (starEach xs env)).any (·.1) = false := by
  have h2 : ∀ p ∈ starEach xs env, p.1 = false := by
    induction xs with
    | nil => intro p hp; cases hp
    | cons x xs ih =>
      have e : starEach (x :: xs) env = (false, eval x env) :: starEach xs env := by
        have := h x (by simp)
        cases x <;> first | rfl | cases this
      rw [e]
      intro p hp
      rcases List.mem_cons.mp hp with z | z
      · rw [z]
      · exact ih (fun y hy => h y (by simp [hy])) p z
  rw [List.any_eq_false]
  intro q hq
  obtain ⟨p, hp, rfl⟩ := List.mem_map.mp hq
  rw [h2 p hp]; decide
end
end PI
/-! PI, part q: every expression that was checked. -/
namespace PI
open PySem PySem.Spec PyProof.Rows L2

/-- an expression is as read, as a value and as a test -/
structure Snd (Y : Lay) (R : Prg) (n : Nat) (W : WX) (X : Cx) (a : Ex) (e : Expr) : Prop where
  v : PE X e (tE Y R n a W)
  t : PT X e (tT Y R n a W)
def SndL (Y : Lay) (R : Prg) (n : Nat) (W : WX) (X : Cx) : List Ex → List Expr → Prop
  | [], [] => True
  | a :: as, x :: xs => Snd Y R n W X a x ∧ starred x = false ∧ SndL Y R n W X as xs
  | _, _ => False
section
variable {Y : Lay} {R : Prg} {n : Nat} {G : Gam} {X : Cx} {W : WX}
theorem snd_both {a : Ex} {e : Expr} (h : PE X e (tE Y R n a W)) (p : plainT e = true) : Snd Y R n W X a e := ⟨h, pt_of h (he_of p)⟩
/-- a run that is bad whatever -/
theorem PE.bad {a : Ex} {e : Expr} (h : ∀ env m, eE R n a env m = .bad) : PE X e (tE Y R n a W) := ⟨fun pins s σ H Q I ⟨r, m, B, env, s0, f⟩ => by rw [h] at f; exact f.elim⟩
theorem PT.bad {a : Ex} {e : Expr} (h : ∀ env m, eE R n a env m = .bad) : PT X e (tT Y R n a W) := ⟨fun pins s σ H Q I ⟨r, m, B, env, s0, f⟩ => by
  have f : Fin Y REq W r m B H σ Q (toB (eE R n a env m)) := f
  rw [h] at f; exact f.elim⟩
theorem SndL.pa : ∀ {as : List Ex} {xs : List Expr}, SndL Y R n W X as xs → PA X xs (tEs Y R n as W)
  | [], [], _ => snd_nil
  | a :: as, x :: xs, h => snd_cons h.1.v (SndL.pa h.2.2) h.2.1
  | [], x :: xs, h => h.elim
  | a :: as, [], h => h.elim
theorem SndL.len : ∀ {as : List Ex} {xs : List Expr}, SndL Y R n W X as xs → as.length = xs.length
  | [], [], _ => rfl
  | a :: as, x :: xs, h => by simp [SndL.len h.2.2]
  | [], x :: xs, h => h.elim
  | a :: as, [], h => h.elim
theorem SndL.star : ∀ {as : List Ex} {xs : List Expr}, SndL Y R n W X as xs → ∀ x ∈ xs, starred x = false
  | [], [], _ => fun _ h => by cases h
  | a :: as, x :: xs, h => fun y hy => by
    rcases List.mem_cons.mp hy with z | z
    · rw [z]; exact h.2.1
    · exact SndL.star h.2.2 y z
  | [], x :: xs, h => h.elim
  | a :: as, [], h => h.elim
theorem snd_one {op : BoolOp} {a : Ex} {x : Expr} {p : Pos} (h : PE X x (tE Y R n a W)) {b : Ex} (e : ∀ env m, eE R n b env m = eE R n a env m) (hf : fresh b = false) : PE X (.BoolOp op [x] p) (tE Y R n b W) := by
  refine PE.weak (pe_one h) fun σ H Q _ ⟨r, m, B, env, s, f⟩ => ⟨r, m, B, env, s, ?_⟩
  rw [e, hf] at f
  exact (Fin.fr (fr := fresh a) (H1 := H) f).imp fun _ _ q _ => q
theorem SndL.and {p : Pos} : ∀ {as : List Ex} {xs : List Expr} {a : Ex} {x : Expr}, SndL Y R n W X (a :: as) (x :: xs) → PE X (.BoolOp .And (x :: xs) p) (tE Y R n (.and (a :: as)) W) ∧ PW X (.BoolOp .And (x :: xs) p) (tT Y R n (.and (a :: as)) W)
  | [], [], a, x, h => ⟨snd_one h.1.v (fun _ _ => rfl) rfl, sndT_and1 h.1.t⟩
  | b :: as, y :: xs, a, x, h => by
    obtain ⟨h1, h2⟩ := SndL.and h.2.2
    exact ⟨snd_and h.1.v h1, sndT_and h.1.t h2⟩
  | [], y :: xs, a, x, h => h.2.2.elim
  | b :: as, [], a, x, h => h.2.2.elim
theorem SndL.or {p : Pos} : ∀ {as : List Ex} {xs : List Expr} {a : Ex} {x : Expr}, SndL Y R n W X (a :: as) (x :: xs) → PE X (.BoolOp .Or (x :: xs) p) (tE Y R n (.or (a :: as)) W) ∧ PW X (.BoolOp .Or (x :: xs) p) (tT Y R n (.or (a :: as)) W)
  | [], [], a, x, h => ⟨snd_one h.1.v (fun _ _ => rfl) rfl, sndT_or1 h.1.t⟩
  | b :: as, y :: xs, a, x, h => by
    obtain ⟨h1, h2⟩ := SndL.or h.2.2
    exact ⟨snd_or h.1.v h1, sndT_or h.1.t h2⟩
  | [], y :: xs, a, x, h => h.2.2.elim
  | b :: as, [], a, x, h => h.2.2.elim
/-- a built-in called -/
theorem snd_bltn (ok : XOk Y R n G X) {b : Bi} (hb : b ≠ .str) {es : List Ex} {xs : List Expr} (h1 : bltOk R.T G (biName b) = true) (hs : SndL Y R n W X es xs) (hne : es ≠ []) {p pos : Pos} : PE X (.Call (.Name (biName b) p) xs [] pos) (tE Y R n (.bi b es) W) := by
  obtain ⟨g, m⟩ := ok.blt h1
  obtain ⟨x, xs, rfl⟩ : ∃ y ys, xs = y :: ys := by
    cases xs with
    | nil => cases es with
      | nil => exact absurd rfl hne
      | cons => exact hs.elim
    | cons y ys => exact ⟨y, ys, rfl⟩
  have pa := hs.pa
  have e1 : starEach (x :: xs) X.env = (false, eval x X.env) :: starEach xs X.env := star_eq (hs.star x (by simp))
  have e2 : (backTo pos (starEach xs X.env)).any (·.1) = false := star_all fun y hy => hs.star y (by simp [hy])
  have hu := ok.units
  cases b with
  | len => obtain ⟨rr, h⟩ := len_bi (X := X) ok.K; exact snd_bi ok.K h (pe_callB h.1 g m (by decide +kernel) pa (by decide) (by decide) e1 e2)
  | abs => obtain ⟨rr, h⟩ := abs_bi (X := X) ok.K; exact snd_bi ok.K h (pe_callB h.1 g m (by decide +kernel) pa (by decide) (by decide) e1 e2)
  | max => obtain ⟨rr, h⟩ := max_bi (X := X) ok.K ok.calm; exact snd_bi ok.K h (pe_callB h.1 g m (by decide +kernel) pa (by decide) (by decide) e1 e2)
  | min => obtain ⟨rr, h⟩ := min_bi (X := X) ok.K ok.calm; exact snd_bi ok.K h (pe_callB h.1 g m (by decide +kernel) pa (by decide) (by decide) e1 e2)
  | tuple => obtain ⟨rr, h⟩ := tuple_bi (X := X) ok.K; exact snd_bi ok.K h (pe_callTy h.1 g m (by decide +kernel) pa (by decide) (by decide) e1 e2)
  | list => obtain ⟨rr, h⟩ := list_bi (X := X) ok.K; exact snd_bi ok.K h (pe_callTy h.1 g m (by decide +kernel) pa (by decide) (by decide) e1 e2)
  | int => obtain ⟨rr, h⟩ := int_bi (X := X) ok.K; exact snd_bi ok.K h (pe_callTy h.1 g m (by decide +kernel) pa (by decide) (by decide) e1 e2)
  | sum => obtain ⟨rr, h⟩ := sum_bi (X := X) ok.K ok.calm; exact snd_bi ok.K h (pe_callB h.1 g m (by decide +kernel) pa (by decide) (by decide) e1 e2)
  | all => obtain ⟨rr, h⟩ := all_bi (X := X) ok.K ok.calm; exact snd_bi ok.K h (pe_callB h.1 g m (by decide +kernel) pa (by decide) (by decide) e1 e2)
  | any => obtain ⟨rr, h⟩ := any_bi (X := X) ok.K ok.calm; exact snd_bi ok.K h (pe_callB h.1 g m (by decide +kernel) pa (by decide) (by decide) e1 e2)
  | repr => obtain ⟨rr, h⟩ := repr_bi (X := X) ok.K ok.grd hu; exact snd_bi ok.K h (pe_callB h.1 g m (by decide +kernel) pa (by decide) (by decide) e1 e2)
  | str => exact absurd rfl hb
/-- a def called -/
theorem snd_def (ok : XOk Y R n G X) (tk : Takes X W) {k : Nat} {f : Str} {ps : List Str} (hd : R.T.defs[k]? = some (f, ps)) {es : List Ex} {xs : List Expr} (hl : ps.length = es.length) (hg : glbOk G f = true) (hs : SndL Y R n W X es xs) {p pos : Pos} : PE X (.Call (.Name f p) xs [] pos) (tE Y R n (.call k es) W) := by
  obtain ⟨m, kp, fd, F, Bn⟩ := ok.defs k f ps hd
  obtain ⟨d, hP, hps⟩ := ok.par k f ps hd
  unfold glbOk at hg
  rw [Bool.and_eq_true] at hg
  have g := ok.gl hg.1
  have hx : ∀ σ, PassesAt (L2.CX X.prog X.w) X σ (WE W σ) := fun σ => passAt tk σ
  have pa := hs.pa
  refine snd_call hP (by rw [hps, hl]) ?_
  cases xs with
  | nil =>
    cases es with
    | nil => 
      refine PE.weak (pe_callG0 F ok.room ok.grd g m kp Bn hx (nameOk_iff hg.2).1) fun σ H Q nk q => ?_
      obtain ⟨r, m, B, env, s, f⟩ := q
      obtain ⟨r1, m1, B1, xs, d, q1, q2, q3, q4, q5, q6⟩ := f r H [] s.ab.ext s.ab s.nk .nil
      exact ⟨r1, m1, B1, xs, d, q1, q2, q3, q4, q5, q6.imp fun _ _ q _ => q⟩
    | cons => exact hs.elim
  | cons x xs =>
    have e1 : starEach (x :: xs) X.env = (false, eval x X.env) :: starEach xs X.env := star_eq (hs.star x (by simp))
    have e2 : (backTo pos (starEach xs X.env)).any (·.1) = false := star_all fun y hy => hs.star y (by simp [hy])
    exact pe_callG F ok.room ok.grd g m kp Bn hx pa (nameOk_iff hg.2).1 e1 e2
theorem tu_of {tg : Tg} {e : Expr} (h : chkTg G tg e = true) (ht : isTu tg = true) : ∃ es k p, e = .Tuple es k p := by
  cases tg with
  | nm i => cases ht
  | tu is =>
    have h : (match asTup e with
      | some es => decide (is.length = es.length) && (is.zip es).all fun p => match asName p.2 with
        | some x => storeOk G p.1 x
        | none => false
      | none => false) = true := h
    cases e1 : asTup e with
    | some es => obtain ⟨k, p, rfl⟩ := asTup_some e1; exact ⟨es, k, p, rfl⟩
    | none => rw [e1] at h; cases h
/-- what a loop goes over -/
theorem src_pi (ok : XOk Y R n G X) {G2 : Gam} {it : Nat} {tg : Tg} {i tge : Expr} {src : List Ex} {xs : List Expr} (h : srcOk R.T G it tg i = some xs) (ht : chkTg G2 tg tge = true) (hs : SndL Y R n W X src xs) : L2.PI X tge i (tIt Y R n it src W) ∧ ∀ x, foldedSetIterable i X.env x = pure x := by
  unfold srcOk at h
  split at h
  · split at h
    · rename_i hn
      cases h
      match src, hs with
      | [a], hs =>
        refine ⟨snd_it0 ok.K hs.1.v, ?_⟩
        intro x
        cases i <;> first | rfl | cases hn
    · cases h
  · split at h
    · rename_i f ys e
      split at h
      · rename_i c
        rw [Bool.and_eq_true, Bool.and_eq_true, decide_eq_true_eq, decide_eq_true_eq] at c
        obtain ⟨⟨rfl, c⟩, l1⟩ := c
        obtain ⟨g, m⟩ := ok.blt c
        obtain ⟨p, q, rfl⟩ := asCall_some e
        cases h
        rw [← hs.len] at l1
        refine ⟨?_, fun _ => rfl⟩
        have pa := hs.pa
        match src, xs, hs with
        | [], [], _ => exact absurd l1.1 (by simp)
        | [a], [x], hs => exact snd_rng1 g m hs.2.1 pa ok.K
        | [a, b], [x, y], hs => exact snd_rng2 g m hs.2.1 hs.2.2.2.1 pa ok.K
        | [a, b, c], [x, y, z], hs => exact snd_rng3 g m hs.2.1 hs.2.2.2.1 hs.2.2.2.2.2.1 pa ok.K
        | a :: b :: c :: d :: es, _, _ => exact absurd l1.2 (by simp)
      · cases h
    · cases h
  · split at h
    · rename_i f ys e
      split at h
      · rename_i c
        rw [Bool.and_eq_true, Bool.and_eq_true, Bool.and_eq_true, decide_eq_true_eq, decide_eq_true_eq] at c
        obtain ⟨⟨⟨rfl, c⟩, c2⟩, l⟩ := c
        obtain ⟨g, m⟩ := ok.blt c
        obtain ⟨p, q, rfl⟩ := asCall_some e
        obtain ⟨es, k, p2, rfl⟩ := tu_of ht c2
        cases h
        refine ⟨?_, fun _ => rfl⟩
        have pa := hs.pa
        rw [← hs.len] at l
        match src, xs, hs, l with
        | [a], [x], hs, _ => exact snd_enum g m hs.2.1 pa ok.K
      · cases h
    · cases h
  · split at h
    · rename_i f ys e
      split at h
      · rename_i c
        rw [Bool.and_eq_true, Bool.and_eq_true, Bool.and_eq_true, decide_eq_true_eq, decide_eq_true_eq] at c
        obtain ⟨⟨⟨rfl, c⟩, c2⟩, l⟩ := c
        obtain ⟨g, m⟩ := ok.blt c
        obtain ⟨p, q, rfl⟩ := asCall_some e
        obtain ⟨es, k, p2, rfl⟩ := tu_of ht c2
        cases h
        refine ⟨?_, fun _ => rfl⟩
        have pa := hs.pa
        rw [← hs.len] at l
        match src, xs, hs, l with
        | [a, b], [x, y], hs, _ => exact snd_zip g m hs.2.1 hs.2.2.2.1 pa ok.K
      · cases h
    · cases h
  · cases h
end
end PI
/-! PI, part r: every expression that was checked is as read. -/
namespace PI
open PySem PySem.Spec PyProof.Rows L2

section
variable {Y : Lay} {R : Prg} {n : Nat}
/-- the parts of a comprehension -/
structure LcOk (Y : Lay) (R : Prg) (n : Nat) (W : WX) (X : Cx) (own : List Nat) (elt : Ex) (tg : Tg) (it : Nat) (src : List Ex) (cond : Option Ex) (x t i : Expr) (ifs : List Expr) (scope : Scope) (ow : List (Str × Nat)) : Prop where
  ow_eq : ow.map (·.2) = own
  sub : ∀ t ∈ sTg tg, t ∈ own
  hi : L2.PI X t i (tIt Y R n it src W)
  ok : BlkOk X.N X.env.scope scope ow
  hg : ∀ (s : Shared) (H : Hp) (C : Addr) (cl : List (Str × Addr)) (fp : List Addr), PG (X.blk s H scope (compEnvC scope cl C X.env) fp) t (gT X.K tg)
  ht : ∀ (s : Shared) (H : Hp) (C : Addr) (cl : List (Str × Addr)) (fp : List Addr), PTs (X.blk s H scope (compEnvC scope cl C X.env) fp) ifs (tCd Y R n cond)
  he : ∀ (s : Shared) (H : Hp) (C : Addr) (cl : List (Str × Addr)) (fp : List Addr), PE (X.blk s H scope (compEnvC scope cl C X.env) fp) x (tE Y R n elt W0)
  hs : ∀ v, foldedSetIterable i X.env v = pure v
theorem lc_pe {G : Gam} {X : Cx} {W : WX} {own : List Nat} {elt : Ex} {tg : Tg} {it : Nat} {src : List Ex} {cond : Option Ex} {x t i : Expr} {ifs : List Expr} {scope : Scope} {ow : List (Str × Nat)} {p : Pos} (ok : XOk Y R n G X) (h : LcOk Y R n W X own elt tg it src cond x t i ifs scope ow) :
    PE X (.ListComp x [⟨t, i, ifs, 0⟩] scope p) (tE Y R n (.lc elt own tg it src cond) W) := by
  refine PE.weak (pe_lc ok.calm (by rw [ok.N]; exact ok.nd) h.hi h.ok h.hg h.ht h.he h.hs) fun σ H Q nk q => ?_
  rw [h.ow_eq, ok.K]
  exact lc_read h.sub q

mutual
theorem sE : ∀ (a : Ex) {G : Gam} {X : Cx} {W : WX} {e : Expr}, XOk Y R n G X → Takes X W → chkE R.T G a e = true → Snd Y R n W X a e
  | .non, G, X, W, e, ok, tk, h => by
    refine snd_both ?_ (plain_of h rfl)
    unfold chkE at h
    split at h
    · rename_i q
      obtain ⟨k, p, rfl⟩ := asConst_some q
      exact snd_flat (fun _ _ => rfl) (fun _ z => by cases z) (fun _ _ _ _ => .non) pe_non
    · cases h
  | .bl b, G, X, W, e, ok, tk, h => by
    refine snd_both ?_ (plain_of h rfl)
    unfold chkE at h
    split at h
    · rename_i c q
      obtain ⟨k, p, rfl⟩ := asConst_some q
      obtain rfl : b = c := eq_of_beq h
      exact snd_flat (fun _ _ => rfl) (fun _ z => by cases z) (fun _ _ _ _ => .bl _) pe_bl
    · cases h
  | .int i, G, X, W, e, ok, tk, h => by
    refine snd_both ?_ (plain_of h rfl)
    unfold chkE at h
    split at h
    · rename_i c q
      obtain ⟨k, p, rfl⟩ := asConst_some q
      obtain rfl := of_decide_eq_true h
      exact snd_flat (fun _ _ => rfl) (fun _ z => by cases z) (fun _ _ _ _ => .int _) pe_int
    · cases h
  | .str cs, G, X, W, e, ok, tk, h => by
    refine snd_both ?_ (plain_of h rfl)
    unfold chkE at h
    split at h
    · rename_i c q
      obtain ⟨k, p, rfl⟩ := asConst_some q
      obtain rfl := of_decide_eq_true h
      exact snd_flat (fun _ _ => rfl) (fun _ z => by cases z) (fun _ _ _ _ => .str _) pe_str
    · cases h
  | .v i, G, X, W, e, ok, tk, h => by
    refine snd_both ?_ (plain_of h rfl)
    unfold chkE at h
    split at h
    · rename_i x q
      obtain ⟨p, rfl⟩ := asName_some q
      obtain ⟨q1, q2, q3, q4⟩ := ok.slot h
      exact snd_v q1 q2 q3 q4
    · cases h
  | .g k, G, X, W, e, ok, tk, h => by
    refine snd_both ?_ (plain_of h rfl)
    unfold chkE at h
    split at h
    · rename_i x q
      obtain ⟨p, rfl⟩ := asName_some q
      unfold glbOk at h
      rw [Bool.and_eq_true, Bool.and_eq_true, decide_eq_true_eq] at h
      obtain ⟨u, w, h1, h2, h3⟩ := ok.cons k x h.2
      exact snd_g (pe_glob (ok.gl h.1.1) h1 h2 (nameOk_iff h.1.2).1) h3
    · cases h
  | .f k, G, X, W, e, ok, tk, h => by
    refine snd_both ?_ (plain_of h rfl)
    unfold chkE at h
    split at h
    · rename_i x q
      obtain ⟨p, rfl⟩ := asName_some q
      unfold glbOk at h
      rw [Bool.and_eq_true, Bool.and_eq_true, decide_eq_true_eq] at h
      obtain ⟨d, h1, h2⟩ := opt_map_some h.2
      obtain ⟨y, ps⟩ := d
      subst h2
      exact snd_flat (u := .fn k) (fun _ _ => rfl) (fun _ z => by cases z) (fun _ _ _ _ => .fn _) (pe_glob (ok.gl h.1.1) (ok.defs k _ ps h1).1 rfl (nameOk_iff h.1.2).1)
    · cases h
  | .tup es, G, X, W, e, ok, tk, h => by
    refine snd_both ?_ (plain_of h rfl)
    unfold chkE at h
    split at h
    · rename_i x q
      obtain ⟨k, p, rfl⟩ := asTup_some q
      exact snd_tup ok.K (sEs es ok tk h).pa
    · cases h
  | .lst es, G, X, W, e, ok, tk, h => by
    refine snd_both ?_ (plain_of h rfl)
    unfold chkE at h
    split at h
    · rename_i x q
      obtain ⟨p, rfl⟩ := asLst_some q
      exact snd_lst ok.K (sEs es ok tk h).pa
    · cases h
  | .mk a, G, X, W, e, ok, tk, h => by
    unfold chkE at h
    rw [Bool.and_eq_true] at h
    exact snd_both (snd_mk (sE a ok tk h.2).v) h.1
  | .bin o a b, G, X, W, e, ok, tk, h => by
    refine snd_both ?_ (plain_of h rfl)
    unfold chkE at h
    split at h
    · rename_i x p y q
      obtain ⟨k, rfl⟩ := asBin_some q
      rw [Bool.and_eq_true, Bool.and_eq_true] at h
      obtain ⟨⟨h1, h2⟩, h3⟩ := h
      rw [bopB_eq h1]
      exact snd_bin ok.K (sE a ok tk h2).v (sE b ok tk h3).v
    · cases h
  | .neg a, G, X, W, e, ok, tk, h => by
    refine snd_both ?_ (plain_of h rfl)
    unfold chkE at h
    split at h
    · rename_i x q
      obtain ⟨k, rfl⟩ := asUn_some q
      exact snd_neg (sE a ok tk h).v
    · cases h
  | .not a, G, X, W, e, ok, tk, h => by
    unfold chkE at h
    split at h
    · rename_i x q
      obtain ⟨k, rfl⟩ := asUn_some q
      have z := sE a ok tk h
      exact ⟨snd_notV z.v, snd_not z.t⟩
    · cases h
  | .cmp o a b, G, X, W, e, ok, tk, h => by
    unfold chkE at h
    split at h
    · rename_i x p y q
      obtain ⟨k, rfl⟩ := asCmp_some q
      rw [Bool.and_eq_true, Bool.and_eq_true] at h
      obtain ⟨⟨h1, h2⟩, h3⟩ := h
      obtain ⟨rfl, h1, h1'⟩ := copB_eq h1
      obtain ⟨r1, r2⟩ := snd_cmp (p := k) ok.K (by have := ok.units; omega) ⟨h1, h1'⟩ (sE a ok tk h2).v (sE b ok tk h3).v
      exact ⟨r1, r2⟩
    · cases h
  | .chn o o' a b c, G, X, W, e, ok, tk, h => by
    unfold chkE at h
    split at h
    · rename_i x p p' y z q
      obtain ⟨k, rfl⟩ := asCmp_some q
      rw [Bool.and_eq_true, Bool.and_eq_true, Bool.and_eq_true, Bool.and_eq_true] at h
      obtain ⟨⟨⟨⟨h1, h1'⟩, h2⟩, h3⟩, h4⟩ := h
      obtain ⟨rfl, i1, i1'⟩ := copB_eq h1
      obtain ⟨rfl, i2, i2'⟩ := copB_eq h1'
      obtain ⟨r1, r2⟩ := snd_chn (p := k) ok.K (by have := ok.units; omega) ⟨i1, i1'⟩ ⟨i2, i2'⟩ (sE a ok tk h2).v (sE b ok tk h3).v (sE c ok tk h4).v
      exact ⟨r1, r2⟩
    · cases h
  | .and es, G, X, W, e, ok, tk, h => by
    unfold chkE at h
    split at h
    · rename_i xs q
      obtain ⟨k, rfl⟩ := asBool_some q
      have z := sEs es ok tk h
      match es, xs, z with
      | a :: as, x :: xs, z => exact ⟨(SndL.and z).1, (SndL.and z).2.pt⟩
      | [], [], _ => exact ⟨PE.bad fun _ _ => rfl, PT.bad fun _ _ => rfl⟩
    · cases h
  | .or es, G, X, W, e, ok, tk, h => by
    unfold chkE at h
    split at h
    · rename_i xs q
      obtain ⟨k, rfl⟩ := asBool_some q
      have z := sEs es ok tk h
      match es, xs, z with
      | a :: as, x :: xs, z => exact ⟨(SndL.or z).1, (SndL.or z).2.pt⟩
      | [], [], _ => exact ⟨PE.bad fun _ _ => rfl, PT.bad fun _ _ => rfl⟩
    · cases h
  | .ite c a b, G, X, W, e, ok, tk, h => by
    unfold chkE at h
    split at h
    · rename_i x y z q
      obtain ⟨k, rfl⟩ := asIf_some q
      rw [Bool.and_eq_true, Bool.and_eq_true] at h
      obtain ⟨⟨h1, h2⟩, h3⟩ := h
      have c1 := sE c ok tk h1
      have c2 := sE a ok tk h2
      have c3 := sE b ok tk h3
      exact ⟨snd_ite c1.t c2.v c3.v, snd_iteT c1.t c2.t c3.t⟩
    · cases h
  | .sub a i, G, X, W, e, ok, tk, h => by
    refine snd_both ?_ (plain_of h rfl)
    unfold chkE at h
    split at h
    · rename_i x y q
      obtain ⟨k, rfl⟩ := asSub_some q
      rw [Bool.and_eq_true, Bool.and_eq_true] at h
      obtain ⟨⟨h1, h2⟩, h3⟩ := h
      refine snd_sub ok.K (sE a ok tk h2).v (sE i ok tk h3).v ?_
      cases y <;> first | (intro _ _; rfl) | cases h1
    · cases h
  | .slc a lo hi, G, X, W, e, ok, tk, h => by
    refine snd_both ?_ (plain_of h rfl)
    unfold chkE at h
    split at h
    · rename_i x y q
      obtain ⟨k, rfl⟩ := asSub_some q
      split at h
      · rename_i l r q2
        obtain ⟨k2, rfl⟩ := asSlice_some q2
        rw [Bool.and_eq_true, Bool.and_eq_true] at h
        obtain ⟨⟨h1, h2⟩, h3⟩ := h
        exact snd_slc ok.K (sE a ok tk h1).v (sO lo ok tk h2) (sO hi ok tk h3)
      · cases h
    · cases h
  | .rev a, G, X, W, e, ok, tk, h => by
    refine snd_both ?_ (plain_of h rfl)
    unfold chkE at h
    split at h
    · rename_i x y q
      obtain ⟨k, rfl⟩ := asSub_some q
      split at h
      · rename_i z q2
        obtain ⟨k2, rfl⟩ := asSlice_some q2
        split at h
        · rename_i o q3
          obtain ⟨k3, rfl⟩ := asUn_some q3
          split at h
          · rename_i j q4
            obtain ⟨k4, k5, rfl⟩ := asConst_some q4
            rw [Bool.and_eq_true, decide_eq_true_eq] at h
            obtain ⟨rfl, h⟩ := h
            exact snd_rev ok.K (sE a ok tk h).v
          · cases h
        · cases h
      · cases h
    · cases h
  | .call k es, G, X, W, e, ok, tk, h => by
    refine snd_both ?_ (plain_of h rfl)
    unfold chkE at h
    split at h
    · rename_i f xs q
      obtain ⟨p, p2, rfl⟩ := asCall_some q
      rw [Bool.and_eq_true, Bool.and_eq_true] at h
      obtain ⟨⟨h1, h2⟩, h3⟩ := h
      split at h2
      · rename_i x ps q2
        rw [Bool.and_eq_true, decide_eq_true_eq, decide_eq_true_eq] at h2
        obtain ⟨rfl, h2⟩ := h2
        exact snd_def ok tk q2 h2 h1 (sEs es ok tk h3)
      · cases h2
    · cases h
  | .calv i es, G, X, W, e, ok, tk, h => by
    unfold chkE at h
    split at h <;> cases h
  | .bi b es, G, X, W, e, ok, tk, h => by
    refine snd_both ?_ (plain_of h rfl)
    unfold chkE at h
    split at h
    · rename_i f xs q
      obtain ⟨p, p2, rfl⟩ := asCall_some q
      rw [Bool.and_eq_true, Bool.and_eq_true, Bool.and_eq_true, Bool.and_eq_true, decide_eq_true_eq, decide_eq_true_eq] at h
      obtain ⟨⟨⟨⟨rfl, h1⟩, h2⟩, h3⟩, h4⟩ := h
      refine snd_bltn ok h1 h2 (sEs es ok tk h4) fun z => ?_
      rw [z] at h3; cases h3
    · cases h
  | .isi a t, G, X, W, e, ok, tk, h => by
    refine snd_both ?_ (plain_of h rfl)
    unfold chkE at h
    split at h
    · rename_i f x y q
      obtain ⟨p, p2, rfl⟩ := asCall_some q
      rw [Bool.and_eq_true, Bool.and_eq_true, Bool.and_eq_true, decide_eq_true_eq] at h
      obtain ⟨⟨⟨rfl, h1⟩, h2⟩, h3⟩ := h
      obtain ⟨g, m⟩ := ok.blt h1
      split at h3
      · rename_i z q2
        obtain ⟨p3, rfl⟩ := asName_some q2
        rw [Bool.and_eq_true, Bool.and_eq_true, Bool.not_eq_true', decide_eq_true_eq] at h3
        obtain ⟨⟨h3, rfl⟩, h4⟩ := h3
        obtain ⟨g2, m2⟩ := ok.blt h4
        refine snd_isi ok.K g m (sE a ok tk h2).v ?_ h3 rfl
        cases t
        · exact pe_bltn (u := .type "int") g2 m2 (by decide +kernel) rfl
        · exact pe_bltn (u := .type "bool") g2 m2 (by decide +kernel) rfl
        · exact pe_bltn (u := .type "str") g2 m2 (by decide +kernel) rfl
        · exact pe_bltn (u := .type "tuple") g2 m2 (by decide +kernel) rfl
        · exact pe_bltn (u := .type "list") g2 m2 (by decide +kernel) rfl
      · cases h3
    · cases h
  | .meth f o es, G, X, W, e, ok, tk, h => by
    refine snd_both ?_ (plain_of h rfl)
    unfold chkE at h
    split at h
    · rename_i x g xs q
      obtain ⟨ap, cp, rfl, hl⟩ := asMeth_some q
      rw [Bool.and_eq_true, Bool.and_eq_true, Bool.and_eq_true, Bool.and_eq_true, decide_eq_true_eq, Bool.not_eq_true'] at h
      obtain ⟨⟨⟨⟨rfl, h1⟩, h2⟩, h3⟩, h4⟩ := h
      have ho := (sE o ok tk h2).v
      have hs := sEs es ok tk h4
      match es, xs, hs with
      | [], [], hs =>
        cases f
        · obtain ⟨rr, z⟩ := append_ok (Y := Y) (X := X); exact snd_meth0 ok.K z PySem.F.slot_list_append PySem.F.type_list_append h1 hl ho
        · obtain ⟨rr, z⟩ := extend_ok (Y := Y) (X := X); exact snd_meth0 ok.K z PySem.F.slot_list_extend PySem.F.type_list_extend h1 hl ho
        · obtain ⟨rr, z⟩ := pop_ok (Y := Y) (X := X); exact snd_meth0 ok.K z PySem.F.slot_list_pop PySem.F.type_list_pop h1 hl ho
      | [a], [x], hs =>
        cases f
        · obtain ⟨rr, z⟩ := append_ok (Y := Y) (X := X); exact snd_meth1 ok.K z PySem.F.slot_list_append PySem.F.type_list_append h1 hs.2.1 hl ho hs.pa
        · obtain ⟨rr, z⟩ := extend_ok (Y := Y) (X := X); exact snd_meth1 ok.K z PySem.F.slot_list_extend PySem.F.type_list_extend h1 hs.2.1 hl ho hs.pa
        · obtain ⟨rr, z⟩ := pop_ok (Y := Y) (X := X); exact snd_meth1 ok.K z PySem.F.slot_list_pop PySem.F.type_list_pop h1 hs.2.1 hl ho hs.pa
      | a :: b :: as, x :: y :: xs, hs => exact absurd h3 (by simp)
    · cases h
  | .lc elt own tg it src cond, G, X, W, e, ok, tk, h => by
    refine snd_both ?_ (plain_of h rfl)
    unfold chkE at h
    split at h
    · rename_i x t i ifs scope q
      obtain ⟨p, rfl⟩ := asLc_some q
      rw [Bool.and_eq_true] at h
      obtain ⟨h1, h2⟩ := h
      split at h1
      · rename_i G2 q2
        rw [Bool.and_eq_true, Bool.and_eq_true, Bool.and_eq_true] at h1
        obtain ⟨⟨⟨i1, i2⟩, i3⟩, i4⟩ := h1
        split at h2
        · rename_i xs q3
          obtain ⟨ow, o1, o2⟩ := ok.blkO q2
          have z := src_pi ok q3 i2 (sEs src ok tk h2)
          refine lc_pe ok (ow := ow) ⟨o1, fun t ht => by simpa using List.all_eq_true.mp i3 t ht, z.1, o2, fun s H C cl fp => ?_, fun s H C cl fp => ?_, fun s H C cl fp => ?_, z.2⟩
          · have ok2 := (ok.blk q2 s H C cl fp)
            exact snd_tg ok2.N (by rw [ok2.N]; exact ok2.nd) ok2.sc ok2.fn ok2.calm i2
          · exact sC cond (ok.blk q2 s H C cl fp) takesW0 i4
          · exact (sE elt (ok.blk q2 s H C cl fp) takesW0 i1).v
        · cases h2
      · cases h1
    · cases h
theorem sEs : ∀ (as : List Ex) {G : Gam} {X : Cx} {W : WX} {es : List Expr}, XOk Y R n G X → Takes X W → chkEs R.T G as es = true → SndL Y R n W X as es
  | [], G, X, W, es, ok, tk, h => by
    unfold chkEs at h
    cases es with
    | nil => trivial
    | cons => cases h
  | a :: as, G, X, W, es, ok, tk, h => by
    unfold chkEs at h
    cases es with
    | nil => cases h
    | cons x xs =>
      have h : (!starred x && chkE R.T G a x && chkEs R.T G as xs) = true := h
      rw [Bool.and_eq_true, Bool.and_eq_true, Bool.not_eq_true'] at h
      exact ⟨sE a ok tk h.1.2, h.1.1, sEs as ok tk h.2⟩
theorem sO : ∀ (a : Option Ex) {G : Gam} {X : Cx} {W : WX} {e : Option Expr}, XOk Y R n G X → Takes X W → chkO R.T G a e = true → PO X e (tOp' Y R n a W)
  | none, G, X, W, e, ok, tk, h => by
    unfold chkO at h
    cases e with
    | none => exact snd_none
    | some => cases h
  | some a, G, X, W, e, ok, tk, h => by
    unfold chkO at h
    cases e with
    | none => cases h
    | some e => exact snd_some (sE a ok tk h).v
theorem sC : ∀ (a : Option Ex) {G : Gam} {X : Cx} {es : List Expr}, XOk Y R n G X → Takes X W0 → chkC R.T G a es = true → PTs X es (tCd Y R n a)
  | none, G, X, es, ok, tk, h => by
    unfold chkC at h
    cases es with
    | nil => exact pts_nil
    | cons => cases h
  | some a, G, X, es, ok, tk, h => by
    unfold chkC at h
    match es, h with
    | [e], h => exact pts_one (sE a ok tk h).t
end
end
end PI
/-! PI, part s: statements. -/
namespace PI
open PySem PySem.Spec PyProof.Rows L2

/-- the wish about a statement's run -/
def FinS (Y : Lay) (W : WX) (r : Nat → Addr) (m : Mem) (B : List Addr) (H : Hp) (D : Ends) : SRes → Prop
  | .nx e m' => ∀ r' H' σ', Ext r m.length H r' m'.length H' → S0 Y r' m' B H' e σ' → D.nx σ' H'
  | .ct e m' => ∀ r' H' σ', Ext r m.length H r' m'.length H' → S0 Y r' m' B H' e σ' → D.ct σ' H'
  | .bk e m' => ∀ r' H' σ', Ext r m.length H r' m'.length H' → S0 Y r' m' B H' e σ' → D.bk σ' H'
  | .rt x m' => ∀ r' H' v, Ext r m.length H r' m'.length H' → Ab Y.K Y.ft r' m' B H' → NK Y.K H' → Rep Y.K Y.ft r' m'.length B H' x v → D.rt v H'
  | .exc c d e m' => ∀ r' H' σ' dd, Ext r m.length H r' m'.length H' → S0 Y r' m' B H' e σ' → XR d dd → W (.ref (Y.ct c)) dd σ' H'
  | .bad => False
def tS (Y : Lay) (ev : Env' → Mem → SRes) (W : WX) : TS := fun D σ H => ∃ r m B env, S0 Y r m B H env σ ∧ FinS Y W r m B H D (ev env m)
section
variable {Y : Lay} {α β : Type} {r r1 : Nat → Addr} {m m1 : Mem} {B : List Addr} {H H1 : Hp} {σ : L2.St} {W : WX} {D D' : Ends} {env : Env'}
theorem FinS.shift {x : SRes} (e1 : Ext r m.length H r1 m1.length H1) (h : FinS Y W r m B H D x) : FinS Y W r1 m1 B H1 D x := by
  cases x with
  | nx e m' => exact fun r' H' σ' e s => h r' H' σ' (e1.trans e) s
  | ct e m' => exact fun r' H' σ' e s => h r' H' σ' (e1.trans e) s
  | bk e m' => exact fun r' H' σ' e s => h r' H' σ' (e1.trans e) s
  | rt x m' => exact fun r' H' v e a n q => h r' H' v (e1.trans e) a n q
  | exc c d e m' => exact fun r' H' σ' dd e s q => h r' H' σ' dd (e1.trans e) s q
  | bad => exact h
theorem FinS.thenS {RA : RelT α β} {x : Res α} {f : α → Mem → SRes} (s : S0 Y r m B H env σ) (h : FinS Y W r m B H D (x.thenS env f)) :
    Fin Y RA W r m B H σ (fun v H1 => ∃ r1 a m1, Mid Y RA r m B H x v H1 r1 a m1 ∧ FinS Y W r1 m1 B H1 D (f a m1)) x := by
  cases x with
  | ok a m' => exact fun r' H' v e ab n q => ⟨r', a, m', ⟨rfl, e, ab, n, q⟩, FinS.shift e h⟩
  | exc c d m' => exact fun r' H' dd e ab n q => h r' H' σ dd e ⟨ab, s.er.mono e n, n⟩ q
  | bad => exact h
theorem FinS.eE {u : Res AV} {f : AV → Mem → SRes} (fr : Bool) (s : S0 Y r m B H env σ) (h : FinS Y W r m B H D (u.thenS env f)) :
    Fin Y (RFx Y fr H) W r m B H σ (fun v H1 => ∃ r1 a m1, Mid Y (RV Y) r m B H u v H1 r1 a m1 ∧ FinS Y W r1 m1 B H1 D (f a m1)) u :=
  (FinS.thenS (RA := RFx Y fr H) s h).imp fun v H1 ⟨r1, a, m1, k, q⟩ => ⟨r1, a, m1, ⟨k.eq, k.ext, k.ab, k.nk, k.rep.1⟩, q⟩
theorem FinS.toB {u : Res AV} {f : AV → Mem → SRes} (s : S0 Y r m B H env σ) (hf : ∀ v m1, (∀ b, v ≠ .bl b) → f v m1 = .bad) (h : FinS Y W r m B H D (u.thenS env f)) :
    Fin Y REq W r m B H σ (fun b H1 => ∃ r1 m1, S0 Y r1 m1 B H1 env σ ∧ Ext r m.length H r1 m1.length H1 ∧ FinS Y W r1 m1 B H1 D (f (.bl b) m1)) (PI.toB u) := by
  cases u with
  | bad => exact h
  | exc c d m' => exact fun r' H' dd e ab n q => h r' H' σ dd e ⟨ab, s.er.mono e n, n⟩ q
  | ok v m' =>
    by_cases hb : ∃ b, v = .bl b
    · obtain ⟨b, rfl⟩ := hb
      intro r1 H1 b' e ab nk eb
      obtain rfl : b = b' := eb
      exact ⟨r1, m', ⟨ab, s.er.mono e nk, nk⟩, e, FinS.shift e h⟩
    · have h2 : FinS Y W r m B H D (f v m') := h
      rw [hf v m' fun b z => hb ⟨b, z⟩] at h2
      exact h2.elim
/-- one after another -/
theorem FinS.seq {x : SRes} {f : Env' → Mem → SRes} (h : FinS Y W r m B H D (x.seq f)) : FinS Y W r m B H { D with nx := tS Y f W D } x := by
  cases x with
  | nx e m' => exact fun r' H' σ' e s => ⟨r', _, B, _, s, FinS.shift e h⟩
  | ct e m' => exact h
  | bk e m' => exact h
  | rt x m' => exact h
  | exc c d e m' => exact h
  | bad => exact h
/-- a loop's turn: f goes on -/
theorem FinS.turn {x : SRes} {f : Env' → Mem → SRes} {N : L2.St → Hp → Prop} (k : ∀ r1 e m1 H1 σ1, Ext r m.length H r1 m1.length H1 → S0 Y r1 m1 B H1 e σ1 → FinS Y W r1 m1 B H1 D (f e m1) → N σ1 H1)
    (h : FinS Y W r m B H D (x.turn f)) : FinS Y W r m B H { D with nx := N, ct := N, bk := D.nx } x := by
  cases x with
  | nx e m' => exact fun r' H' σ' e s => k r' _ _ H' σ' e s (FinS.shift e h)
  | ct e m' => exact fun r' H' σ' e s => k r' _ _ H' σ' e s (FinS.shift e h)
  | bk e m' => exact h
  | rt x m' => exact h
  | exc c d e m' => exact h
  | bad => exact h
/-- the ends where the written part is not tracked -/
def nkD (K : PySem.W.Frag) (D : Ends) : Ends := ⟨fun σ H => NK K H → D.nx σ H, fun v H => NK K H → D.rt v H, fun σ H => NK K H → D.bk σ H, fun σ H => NK K H → D.ct σ H⟩
end
section
variable {X : Cx}
theorem SP.nk {pins : List (Addr × Obj)} {D : Ends} {f : Flow} {s' : Shared} (h : SP X pins (nkD X.K D) f s') : SP X pins D f s' := by
  cases f with
  | next => obtain ⟨σ', H', I, q⟩ := h; exact ⟨σ', H', I, q (nk_of I)⟩
  | brk => obtain ⟨σ', H', I, q⟩ := h; exact ⟨σ', H', I, q (nk_of I)⟩
  | cont => obtain ⟨σ', H', I, q⟩ := h; exact ⟨σ', H', I, q (nk_of I)⟩
  | ret u => obtain ⟨v, σ', H', I, r, q⟩ := h; exact ⟨v, σ', H', I, r, q (nk_of I)⟩
theorem PS.weak {st : Stmt} {t t' : TS} (h : PS X st t) (w : ∀ D σ H, NK X.K H → t' D σ H → t (nkD X.K D) σ H) : PS X st t' :=
  ⟨fun pins s σ H D I q => thn (h.run pins s σ H _ I (w D σ H (nk_of I) q)) fun f s1 q1 => SP.nk q1⟩
theorem PSs.weak {st : List Stmt} {t t' : TS} (h : PSs X st t) (w : ∀ D σ H, NK X.K H → t' D σ H → t (nkD X.K D) σ H) : PSs X st t' :=
  ⟨fun pins s σ H D I q => thn (h.run pins s σ H _ I (w D σ H (nk_of I) q)) fun f s1 q1 => SP.nk q1⟩
end

/-! ### in-place operators of ints, items -/
section
variable {X : Cx}
theorem ip_mulB : PIp X .Mult (fun x y H Q => ∃ i j, x = .int i ∧ y = .int j ∧ mulOk i j = true ∧ Q (.int (i * j)) H) := by
  intro pins s σ H x y v u Q I r1 r2 ⟨i, j, e1, e2, hm, q⟩
  subst e1 e2
  obtain ⟨t, rfl⟩ := r1
  obtain ⟨t', rfl⟩ := r2
  exact imul_int ⟨.int _, H, I.tok _, ⟨_, rfl⟩, q⟩ (CMulW.ok (show i.natAbs.log2 + j.natAbs.log2 < 1000000 from of_decide_eq_true hm))
theorem ip_fdivB : PIp X .FloorDiv (fun x y H Q => ∃ i j, x = .int i ∧ y = .int j ∧ divOk i j = true ∧ Q (.int (i.fdiv j)) H) := by
  intro pins s σ H x y v u Q I r1 r2 ⟨i, j, e1, e2, hm, q⟩
  subst e1 e2
  obtain ⟨t, rfl⟩ := r1
  obtain ⟨t', rfl⟩ := r2
  unfold divOk at hm
  rw [Bool.and_eq_true, decide_eq_true_eq, Bool.not_eq_true'] at hm
  exact ifloordiv_int hm.1 ⟨.int _, H, I.tok _, ⟨_, rfl⟩, q⟩ (.inl hm.2)
theorem ip_all (o : Bop) (ho : o ≠ .mod ∧ o ≠ .pow) : ∃ tip : TIp, PIp X (opOf o) tip ∧ ∀ x y z v w H Q, augE o x y = some z → (∃ i j k, x = .int i ∧ y = .int j ∧ z = .int k ∧ (v = .int i → w = .int j → Q (.int k) H → tip v w H Q)) := by
  cases o with
  | add => exact ⟨_, ip_add, fun x y z v w H Q e => by
      unfold augE at e
      split at e <;> first | contradiction | skip
      cases e
      exact ⟨_, _, _, rfl, rfl, rfl, fun h1 h2 q => ⟨_, _, h1, h2, q⟩⟩⟩
  | sub => exact ⟨_, ip_sub, fun x y z v w H Q e => by
      unfold augE at e
      split at e <;> first | contradiction | skip
      cases e
      exact ⟨_, _, _, rfl, rfl, rfl, fun h1 h2 q => ⟨_, _, h1, h2, q⟩⟩⟩
  | mul => exact ⟨_, ip_mulB, fun x y z v w H Q e => by
      unfold augE at e
      split at e <;> first | contradiction | skip
      split at e
      · rename_i h
        cases e
        exact ⟨_, _, _, rfl, rfl, rfl, fun h1 h2 q => ⟨_, _, h1, h2, h, q⟩⟩
      · cases e⟩
  | fdiv => exact ⟨_, ip_fdivB, fun x y z v w H Q e => by
      unfold augE at e
      split at e <;> first | contradiction | skip
      split at e
      · rename_i h
        cases e
        exact ⟨_, _, _, rfl, rfl, rfl, fun h1 h2 q => ⟨_, _, h1, h2, h, q⟩⟩
      · cases e⟩
  | mod => exact absurd rfl ho.1
  | pow => exact absurd rfl ho.2
theorem get_list : PGet X (rIxL X.K) := by
  intro pins s σ H x y v u Q I rx ry h
  obtain ⟨p, xs, i, z, rfl, rfl, hq, he, q⟩ := h
  cases rx
  obtain ⟨t, rfl⟩ := ry
  obtain ⟨its, r, pl, hz⟩ := I.list hq
  obtain ⟨j, h1, h2, h3, h4, h5⟩ := atI_get he
  obtain ⟨w, ew, rw'⟩ := r.get h2
  have hl := r.length
  have hn := line63
  have fin : EP X pins σ Q w s := ⟨z, H, I, rw', q⟩
  by_cases h0 : 0 ≤ i
  · have hj : i.toNat = j := by
      rw [seqIndex_of h0 h5] at h1
      exact Option.some.inj h1
    exact wpAny_getItem_list pl.isList h0 (by omega) (by rw [hj]; simpa using ew) fin
  · have hj : (i + (its.toArray.size : Int)).toNat = j := by
      rw [seqIndex_neg (by omega) h4] at h1
      rw [List.size_toArray, ← hl]
      exact Option.some.inj h1
    exact wpAny_getItem_list_neg pl.isList (by omega) (by rw [List.size_toArray] <;> omega) (by omega) (by rw [hj]; simpa using ew) fin
/-- X(), X an own exception class without own __init__ -/
theorem pmk_own0 {C : Addr} {bmB : List Value} {B newId initId : String} {x : Str} {p pos : Pos} (F : ExcBaseFacts B newId initId bmB) (q : PySem.W.excIn X.K C bmB newId = true) (gC : X.mg x = some (.ref C)) (kC : PySem.W.keepIn X.K (.ref C) = true) (r : Raises X (.ref C)) (hg : Gl X x)
    (hdb : (x == ("__debug__" : Str)) = false) : PMk X (.Call (.Name x p) [] [] pos) (fun _ H Q => Q (.ref C) none H) := by
  intro pins s σ H Q I h
  refine wpAny_Call_Name_kw (ld_glob I hg gC ?_ hdb)
  refine PySem.W.callWith_K0 I.kIn kC ?_
  show wpAny _ _ (call (.ref C) []) _ _ _
  obtain ⟨bm, N, nm, qn, bs, hdct, sn, sub, ab, col, dd, k0, k1, k2, k3, k5, mN, hC, hN, hni, T⟩ := exc_obj I.kIn q
  refine wpAny_call_exc_subT F T hC hN hni (fun h' e hm => ?_) (by show 0 ≤ sizeLine; omega)
  exact mk_of I hm r h (I.hok.gone hm.new)
end

/-! ### what swaps -/
def isComp : Expr → Bool
  | .ListComp .. | .SetComp .. | .DictComp .. => true
  | _ => false
theorem sw_no {e : Expr} {t : Option Expr} {l : Nat} {env : Env} (h : isComp e = false) : swapsWith e t l env = pure false := by
  cases e <;> first | rfl | cases h
def kindF (sc : Scope) : ScopeKind := if sc.kind.isAnnotationScope then .function else sc.kind
def swB (G : Gam) (y : Str) (py : Pos) : Expr → Bool
  | .ListComp _ _ scope p => kindF G.sc == .function && G.sc.names.lookup y == some .local && py.line == p.line && !(scope.names.any fun (n, k) => n == y && (k == .local || k == .cell))
  | _ => false
theorem sw_eq {G : Gam} {env : Env} (hs : env.scope = G.sc) {e : Expr} {y : Str} {py : Pos} {l : Nat} (h : isComp e = false ∨ ∃ a b c d, e = .ListComp a b c d) : swapsWith e (some (.Name y py)) l env = pure (swB G y py e) := by
  rcases h with h | ⟨a, b, c, d, rfl⟩
  · cases e <;> first | rfl | cases h
  · unfold swapsWith swB kindF
    rw [← hs]
    rfl
theorem sw_tup {G : Gam} {env : Env} {e : Expr} {ts : List Expr} {k : Nat} {p : Pos} {l : Nat} : swapsWithSole [.Tuple ts k p] e l env = pure false := by
  cases e <;> rfl
theorem sw_sub {env : Env} {e o i : Expr} {p : Pos} {l : Nat} : swapsWithSole [.Subscript o i p] e l env = pure false := by
  cases e <;> rfl
theorem st_sub {env : Env} {e o i : Expr} {p : Pos} : swappedStores [.Subscript o i p] e env = pure none := by
  cases e <;> rfl
def notTup : Expr → Bool
  | .Tuple .. => false
  | _ => true
theorem st_not {env : Env} {e : Expr} {ts : List Expr} {k : Nat} {p : Pos} (h : notTup e = true) : swappedStores [.Tuple ts k p] e env = pure none := by
  cases e <;> first | rfl | cases h
theorem st_fold {env : Env} {vs ts : List Expr} {k k2 : Nat} {p p2 : Pos} (h : vs.all (foldedForSure 8) = true) : swappedStores [.Tuple ts k p] (.Tuple vs k2 p2) env = pure none := by
  unfold swappedStores
  dsimp only
  split
  · rfl
  · split
    · rfl
    · split
      · rfl
      · first
          | rfl
          | (rw [if_pos h]; rfl)
/-- a target that is no plain local: nothing is swapped -/
def cellB (G : Gam) (ts : List Expr) : Bool := ts.any fun e => match e with
  | .Name x _ => !(G.sc.names.lookup x == some .local)
  | _ => true
theorem fm_less {α β : Type} {f : α → Option β} : ∀ {l : List α}, (l.filterMap f).length ≤ l.length ∧ ((∃ a ∈ l, f a = none) → (l.filterMap f).length < l.length)
  | [] => ⟨Nat.le_refl _, fun ⟨a, h, _⟩ => by cases h⟩
  | a :: l => by
    obtain ⟨h1, h2⟩ := fm_less (f := f) (l := l)
    rw [List.filterMap_cons]
    cases q : f a with
    | none => exact ⟨Nat.le_succ_of_le h1, fun _ => Nat.lt_succ_of_le h1⟩
    | some b =>
      refine ⟨Nat.succ_le_succ h1, fun ⟨c, hc, hn⟩ => ?_⟩
      rcases List.mem_cons.mp hc with z | z
      · rw [z, q] at hn; cases hn
      · exact Nat.succ_lt_succ (h2 ⟨c, z, hn⟩)
theorem st_cell {G : Gam} {env : Env} (hs : env.scope = G.sc) {vs ts : List Expr} {k k2 : Nat} {p p2 : Pos} (h : cellB G ts = true) : swappedStores [.Tuple ts k p] (.Tuple vs k2 p2) env = pure none := by
  unfold swappedStores
  dsimp only
  split
  · rfl
  · split
    · rfl
    · refine (if_pos ?_).trans rfl
      rw [Bool.or_eq_true]
      left
      rw [bne_iff_ne]
      refine Nat.ne_of_lt (fm_less.2 ?_)
      unfold cellB at h
      rw [List.any_eq_true] at h
      obtain ⟨e, he, hc⟩ := h
      refine ⟨e, he, ?_⟩
      split
      · rename_i x q
        have hc : (!(G.sc.names.lookup x == some .local)) = true := hc
        rw [Bool.not_eq_true'] at hc
        have z : (env.kindOf x == some NameKind.local) = false := by show (env.scope.names.lookup x == _) = false; rw [hs]; exact hc
        rw [z, Bool.false_and]
        rfl
      · rfl
def parB (G : Gam) (x y : Str) (px py : Pos) (a b : Expr) : Bool := kindF G.sc == .function && (G.sc.names.lookup x == some .local) && (G.sc.names.lookup y == some .local) && px.line == py.line && decide (x ≠ y) && !starred a && !starred b && !([a, b].all (foldedForSure 8)) && !([a, b].all (constantsAlone 8))
theorem par_st {G : Gam} {env : Env} (hs : env.scope = G.sc) {x y : Str} {px py : Pos} {a b : Expr} {k k2 : Nat} {p p2 : Pos} (h : parB G x y px py a b = true) :
    swappedStores [.Tuple [.Name x px, .Name y py] k p] (.Tuple [a, b] k2 p2) env = pure (some [x, y]) := by
  unfold parB at h
  simp only [Bool.and_eq_true, Bool.not_eq_true', decide_eq_true_eq, beq_iff_eq] at h
  obtain ⟨⟨⟨⟨⟨⟨⟨⟨h1, h2⟩, h3⟩, h4⟩, h5⟩, h6⟩, h7⟩, h8⟩, h9⟩ := h
  have hb : env.blockKind = .function := by unfold Env.blockKind; rw [hs]; exact h1
  have k1 : env.kindOf x = some .local := by show env.scope.names.lookup x = _; rw [hs]; exact h2
  have k2 : env.kindOf y = some .local := by show env.scope.names.lookup y = _; rw [hs]; exact h3
  have n1 : ([a, b].any fun | .Starred .. => true | _ => false) = false := by
    have e : ([a, b].any fun | .Starred .. => true | _ => false) = (starred a || (starred b || false)) := by cases a <;> cases b <;> rfl
    rw [e, h6, h7]; rfl
  have hl : (Expr.Name y py).pos.line = (Expr.Name x px).pos.line := h4.symm
  unfold swappedStores
  dsimp only
  rw [hb]
  refine (if_neg (by intro h; cases h)).trans ?_
  refine (if_neg (by
    intro h
    have e : starred a = true ∨ starred b = true := by cases a <;> cases b <;> first | exact .inl rfl | exact .inr rfl | cases h
    rcases e with e | e
    · rw [h6] at e; cases e
    · rw [h7] at e; cases e)).trans ?_
  have z : (y == x) = false := beq_eq_false_iff_ne.mpr fun z => h5 z.symm
  refine (if_neg ?_).trans ?_
  · simp [k1, k2, Expr.pos, h4, List.eraseDups_cons, z]
  · rw [h8, h9]
    simp [k1, k2, Expr.pos, h4]
def par3B (G : Gam) (x y w : Str) (px py pw : Pos) (a b c : Expr) : Bool := kindF G.sc == .function && (G.sc.names.lookup x == some .local) && (G.sc.names.lookup y == some .local) && (G.sc.names.lookup w == some .local) && px.line == py.line && px.line == pw.line && decide (x ≠ y) && decide (x ≠ w) && decide (y ≠ w) && !starred a && !starred b && !starred c && !([a, b, c].all (foldedForSure 8)) && !([a, b, c].all (constantsAlone 8))
theorem par3_st {G : Gam} {env : Env} (hs : env.scope = G.sc) {x y w : Str} {px py pw : Pos} {a b c : Expr} {k k2 : Nat} {p p2 : Pos} (h : par3B G x y w px py pw a b c = true) :
    swappedStores [.Tuple [.Name x px, .Name y py, .Name w pw] k p] (.Tuple [a, b, c] k2 p2) env = pure (some [x, y, w]) := by
  unfold par3B at h
  simp only [Bool.and_eq_true, Bool.not_eq_true', decide_eq_true_eq, beq_iff_eq] at h
  obtain ⟨⟨⟨⟨⟨⟨⟨⟨⟨⟨⟨⟨⟨h1, h2⟩, h3⟩, h3'⟩, h4⟩, h4'⟩, h5⟩, h5'⟩, h5''⟩, h6⟩, h7⟩, h7'⟩, h8⟩, h9⟩ := h
  have hb : env.blockKind = .function := by unfold Env.blockKind; rw [hs]; exact h1
  have k1 : env.kindOf x = some .local := by show env.scope.names.lookup x = _; rw [hs]; exact h2
  have k2 : env.kindOf y = some .local := by show env.scope.names.lookup y = _; rw [hs]; exact h3
  have k3 : env.kindOf w = some .local := by show env.scope.names.lookup w = _; rw [hs]; exact h3'
  unfold swappedStores
  dsimp only
  rw [hb]
  refine (if_neg (by intro h; cases h)).trans ?_
  refine (if_neg (by
    intro h
    have h' : List.any [a, b, c] starred = true := (congrArg (List.any [a, b, c]) (funext fun e => by cases e <;> rfl)).trans h
    simp [h6, h7, h7'] at h')).trans ?_
  have z : (y == x) = false := beq_eq_false_iff_ne.mpr fun z => h5 z.symm
  have z' : (w == x) = false := beq_eq_false_iff_ne.mpr fun z => h5' z.symm
  have z'' : (w == y) = false := beq_eq_false_iff_ne.mpr fun z => h5'' z.symm
  refine (if_neg ?_).trans ?_
  · simp [k1, k2, k3, Expr.pos, ← h4, ← h4', List.eraseDups_cons, z, z', z'']
  · rw [h8, h9]
    simp [k1, k2, k3, Expr.pos, ← h4, ← h4']
end PI
/-! PI, part t: statements checked. -/
namespace PI
open PySem PySem.Spec PyProof.Rows L2

def asNameP : Expr → Option (Str × Pos)
  | .Name x p => some (x, p)
  | _ => none
theorem asNameP_some {e : Expr} {x : Str} {p : Pos} (h : asNameP e = some (x, p)) : e = .Name x p := by
  cases e <;> simp [asNameP] at h
  obtain ⟨rfl, rfl⟩ := h; rfl
def asAsg : Stmt → Option (Expr × Expr)
  | .Assign [t] e _ => some (t, e)
  | _ => none
theorem asAsg_some {s : Stmt} {t e : Expr} (h : asAsg s = some (t, e)) : ∃ p, s = .Assign [t] e p := by
  unfold asAsg at h
  split at h
  · cases h; exact ⟨_, rfl⟩
  · cases h
def asAug : Stmt → Option (Expr × Operator × Expr)
  | .AugAssign t o e _ => some (t, o, e)
  | _ => none
theorem asAug_some {s : Stmt} {t e : Expr} {o : Operator} (h : asAug s = some (t, o, e)) : ∃ p, s = .AugAssign t o e p := by
  unfold asAug at h
  split at h
  · cases h; exact ⟨_, rfl⟩
  · cases h
def asExpr : Stmt → Option Expr
  | .Expr e _ => some e
  | _ => none
theorem asExpr_some {s : Stmt} {e : Expr} (h : asExpr s = some e) : ∃ p, s = .Expr e p := by
  unfold asExpr at h
  split at h
  · cases h; exact ⟨_, rfl⟩
  · cases h
def asIfS : Stmt → Option (Expr × List Stmt × List Stmt)
  | .If c a b _ => some (c, a, b)
  | _ => none
theorem asIfS_some {s : Stmt} {c : Expr} {a b : List Stmt} (h : asIfS s = some (c, a, b)) : ∃ p, s = .If c a b p := by
  unfold asIfS at h
  split at h
  · cases h; exact ⟨_, rfl⟩
  · cases h
def asWh : Stmt → Option (Expr × List Stmt)
  | .While c b [] _ => some (c, b)
  | _ => none
theorem asWh_some {s : Stmt} {c : Expr} {a : List Stmt} (h : asWh s = some (c, a)) : ∃ p, s = .While c a [] p := by
  unfold asWh at h
  split at h
  · cases h; exact ⟨_, rfl⟩
  · cases h
def asFor : Stmt → Option (Expr × Expr × List Stmt)
  | .For t i b [] _ => some (t, i, b)
  | _ => none
theorem asFor_some {s : Stmt} {t i : Expr} {a : List Stmt} (h : asFor s = some (t, i, a)) : ∃ p, s = .For t i a [] p := by
  unfold asFor at h
  split at h
  · cases h; exact ⟨_, rfl⟩
  · cases h
def asRet : Stmt → Option (Option Expr)
  | .Return e _ => some e
  | _ => none
theorem asRet_some {s : Stmt} {e : Option Expr} (h : asRet s = some e) : ∃ p, s = .Return e p := by
  unfold asRet at h
  split at h
  · cases h; exact ⟨_, rfl⟩
  · cases h
def asRaise : Stmt → Option Expr
  | .Raise (some e) none _ => some e
  | _ => none
theorem asRaise_some {s : Stmt} {e : Expr} (h : asRaise s = some e) : ∃ p, s = .Raise (some e) none p := by
  unfold asRaise at h
  split at h
  · cases h; exact ⟨_, rfl⟩
  · cases h
def asTry : Stmt → Option (List Stmt × Str × List Stmt)
  | .Try b [.ExceptHandler (some (.Name x _)) none h _] [] [] _ => some (b, x, h)
  | _ => none
theorem asTry_some {s : Stmt} {b h' : List Stmt} {x : Str} (h : asTry s = some (b, x, h')) : ∃ p q r, s = .Try b [.ExceptHandler (some (.Name x p)) none h' q] [] [] r := by
  unfold asTry at h
  split at h
  · cases h; exact ⟨_, _, _, rfl⟩
  · cases h
def isPass : Stmt → Bool
  | .Pass _ => true
  | _ => false
def isBrk : Stmt → Bool
  | .Break _ => true
  | _ => false
def isCont : Stmt → Bool
  | .Continue _ => true
  | _ => false
/-- the comprehension that is stored -/
def coreLc : Ex → Option (Ex × List Nat × Tg × Nat × List Ex × Option Ex)
  | .lc a b c d e f => some (a, b, c, d, e, f)
  | .mk (.lc a b c d e f) => some (a, b, c, d, e, f)
  | _ => none
def foldAll (e : Expr) : Bool := match asTup e with
  | some vs => vs.all (foldedForSure 8)
  | none => false
/-- what a handler may do -/
def chkH (T : Top) (G : Gam) : List Sm → List Stmt → Bool
  | [.pass], [s] => isPass s
  | [.brk], [s] => isBrk s
  | [.cont], [s] => isCont s
  | [.ret a], [s] => (match asRet s with
    | some (some e) => (match a with
      | .non | .bl _ | .int _ | .str _ | .v _ | .g _ => true
      | _ => false) && chkE T G a e
    | _ => false)
  | _, _ => false
section
variable (T : Top)
mutual
def chkS (G : Gam) : Sm → Stmt → Bool
  | .set i a, st => match asAsg st with
    | some (t, e) => match asNameP t with
      | some (x, px) => storeOk G i x && chkE T G a e && (!isComp e || (asLc e).isSome) && (!swB G x px e || (coreLc a).isSome)
      | none => false
    | none => false
  | .setT ts a, st => match asAsg st with
    | some (t, e) => chkTg G (.tu ts) t && (notTup e || foldAll e || (match asTup t with
      | some es => cellB G es
      | none => false)) && chkE T G a e
    | none => false
  | .par i j a b, st => match asAsg st with
    | some (t, e) => match asTup t, asTup e with
      | some [t1, t2], some [x, y] => match asNameP t1, asNameP t2 with
        | some (u, pu), some (w, pw) => parB G u w pu pw x y && decide (i ≠ j) && storeOk G i u && storeOk G j w && chkE T G a x && chkE T G b y
        | _, _ => false
      | _, _ => false
    | none => false
  | .par3 i j k a b c, st => match asAsg st with
    | some (t, e) => match asTup t, asTup e with
      | some [t1, t2, t3], some [x, y, z] => match asNameP t1, asNameP t2, asNameP t3 with
        | some (u, pu), some (w, pw), some (v, pv) => par3B G u w v pu pw pv x y z && decide (i ≠ j ∧ i ≠ k ∧ j ≠ k) && storeOk G i u && storeOk G j w && storeOk G k v && chkE T G a x && chkE T G b y && chkE T G c z
        | _, _, _ => false
      | _, _ => false
    | none => false
  | .subs o i a, st => match asAsg st with
    | some (t, e) => match asSub t with
      | some (x, y) => (asSlice y).isNone && chkE T G o x && chkE T G i y && chkE T G a e
      | none => false
    | none => false
  | .aug i o a, st => match asAug st with
    | some (t, p, e) => match asNameP t with
      | some (x, px) => storeOk G i x && bopB o p && decide (o ≠ .mod ∧ o ≠ .pow) && chkE T G a e
      | none => false
    | none => false
  | .augs o i p a, st => match asAug st with
    | some (t, q, e) => match asSub t with
      | some (x, y) => (asSlice y).isNone && bopB p q && decide (p ≠ .mod ∧ p ≠ .pow) && chkE T G o x && chkE T G i y && chkE T G a e
      | none => false
    | none => false
  | .ex a, st => match asExpr st with
    | some e => !isComp e && chkE T G a e
    | none => false
  | .ite c t f, st => match asIfS st with
    | some (x, a, b) => chkE T G c x && chkSs G t a && chkSs G f b
    | none => false
  | .wh c b, st => match asWh st with
    | some (x, a) => chkE T G c x && chkSs G b a
    | none => false
  | .for_ tg it src b, st => match asFor st with
    | some (t, i, a) => chkTg G tg t && (match srcOk T G it tg i with
      | some xs => chkEs T G src xs
      | none => false) && chkSs G b a
    | none => false
  | .ret a, st => match asRet st with
    | some (some e) => chkE T G a e
    | _ => false
  | .retN, st => match asRet st with
    | some none => true
    | _ => false
  | .rais c, st => match asRaise st with
    | some e => match asCall e with
      | some (x, []) => glbOk G x && decide (T.excs[c]? = some x)
      | _ => false
    | none => false
  | .tryc b c h, st => match asTry st with
    | some (a, x, s) => glbOk G x && decide (T.excs[c]? = some x) && chkSs G b a && chkH T G h s
    | none => false
  | .pass, st => isPass st
  | .brk, st => isBrk st
  | .cont, st => isCont st
def chkSs (G : Gam) : List Sm → List Stmt → Bool
  | [], ss => ss.isEmpty
  | a :: as, ss => match ss with
    | [] => false
    | s :: ss => chkS G a s && chkSs G as ss
end
end

section
variable {Y : Lay} {R : Prg} {n : Nat}
/-- a comprehension that was checked -/
theorem lc_ok {G : Gam} {X : Cx} {W : WX} {own : List Nat} {elt : Ex} {tg : Tg} {it : Nat} {src : List Ex} {cond : Option Ex} {x t i : Expr} {ifs : List Expr} {scope : Scope} {p : Pos} (ok : XOk Y R n G X) (tk : Takes X W)
    (h : chkE R.T G (.lc elt own tg it src cond) (.ListComp x [⟨t, i, ifs, 0⟩] scope p) = true) : ∃ ow, LcOk Y R n W X own elt tg it src cond x t i ifs scope ow := by
  unfold chkE at h
  simp only [asLc] at h
  rw [Bool.and_eq_true] at h
  obtain ⟨h1, h2⟩ := h
  split at h1
  · rename_i G2 q2
    rw [Bool.and_eq_true, Bool.and_eq_true, Bool.and_eq_true] at h1
    obtain ⟨⟨⟨i1, i2⟩, i3⟩, i4⟩ := h1
    split at h2
    · rename_i xs q3
      obtain ⟨ow, o1, o2⟩ := ok.blkO q2
      have z := src_pi ok q3 i2 (sEs src ok tk h2)
      refine ⟨ow, o1, fun t ht => by simpa using List.all_eq_true.mp i3 t ht, z.1, o2, fun s H C cl fp => ?_, fun s H C cl fp => ?_, fun s H C cl fp => ?_, z.2⟩
      · have ok2 := (ok.blk q2 s H C cl fp)
        exact snd_tg ok2.N (by rw [ok2.N]; exact ok2.nd) ok2.sc ok2.fn ok2.calm i2
      · exact sC cond (ok.blk q2 s H C cl fp) takesW0 i4
      · exact (sE elt (ok.blk q2 s H C cl fp) takesW0 i1).v
    · cases h2
  · cases h1
theorem nd_of {G : Gam} {X : Cx} (ok : XOk Y R n G X) : X.N.Nodup := by rw [ok.N]; exact ok.nd
abbrev eS (R : Prg) (n : Nat) (s : Sm) : Env' → Mem → SRes := evS (callE R.P R.gv R.sb n) R.gv R.sb s
abbrev eSs (R : Prg) (n : Nat) (s : List Sm) : Env' → Mem → SRes := evSs (callE R.P R.gv R.sb n) R.gv R.sb s
section
variable {G : Gam} {X : Cx} {W : WX}
/-- behind a value: the end -/
theorem fin_nx {r : Nat → Addr} {m : Mem} {B : List Addr} {H : Hp} {D : Ends} {e : Env'} {σ : L2.St} (h : FinS Y W r m B H D (.nx e m)) (s : S0 Y r m B H e σ) : D.nx σ H := h r H σ s.ab.ext s
theorem sS_set (ok : XOk Y R n G X) (tk : Takes X W) {i : Nat} {a : Ex} {e : Expr} {x : Str} {px p : Pos} (h1 : storeOk G i x = true) (h2 : chkE R.T G a e = true) (h3 : (!isComp e || (asLc e).isSome) = true) (h4 : (!swB G x px e || (coreLc a).isSome) = true) :
    PS X (.Assign [.Name x px] e p) (tS Y (eS R n (.set i a)) W) := by
  obtain ⟨q1, q2, q3⟩ := storeOk_iff ok.N ok.sc ok.fn h1
  have hsw : swapsWith e (some (.Name x px)) p.line X.env = pure (swB G x px e) := sw_eq ok.sc (by
    rw [Bool.or_eq_true, Bool.not_eq_true'] at h3
    rcases h3 with h3 | h3
    · exact .inl h3
    · right
      cases z : asLc e with
      | none => rw [z] at h3; cases h3
      | some w =>
        obtain ⟨w1, w2, w3, w4, w5⟩ := w
        obtain ⟨p, rfl⟩ := asLc_some z
        exact ⟨_, _, _, _, rfl⟩)
  have fin : ∀ D σ H, tS Y (eS R n (.set i a)) W D σ H → tE Y R n a W σ H fun v H1 => D.nx (σ.set i (some v)) H1 := fun D σ H ⟨r, m, B, env, s, f⟩ => by
    refine ⟨r, m, B, env, s, (FinS.eE (f := fun x m => .nx (env.set i (some x)) m) (fresh a) s f).imp ?_⟩
    rintro v H1 ⟨r1, u, m1, k, f1⟩
    exact fin_nx f1 ⟨k.ab, ((s.er.mono k.ext k.nk).set k.rep i), k.nk⟩
  cases hb : swB G x px e with
  | false =>
    rw [hb] at hsw
    exact PS.weak (ps_set (nd_of ok) q1 q2 (sE a ok tk h2).v hsw q3) fun D σ H nk q => (fin D σ H q).imp fun r ⟨m, B, env, s, f⟩ => ⟨m, B, env, s, f.imp fun v H1 q _ => q⟩
  | true =>
    rw [hb] at hsw h4
    have hcs : ∃ elt own tg it src cond, (a = .lc elt own tg it src cond ∨ a = .mk (.lc elt own tg it src cond)) := by
      unfold coreLc at h4
      split at h4
      · exact ⟨_, _, _, _, _, _, .inl rfl⟩
      · exact ⟨_, _, _, _, _, _, .inr rfl⟩
      · cases h4
    obtain ⟨elt, own, tg, it, src, cond, ha⟩ := hcs
    have h5 : chkE R.T G (.lc elt own tg it src cond) e = true := by
      rcases ha with rfl | rfl
      · exact h2
      · unfold chkE at h2; rw [Bool.and_eq_true] at h2; exact h2.2
    have h6 : (asLc e).isSome = true := by
      cases z : asLc e with
      | none => unfold chkE at h5; rw [z] at h5; cases h5
      | some w => rfl
    cases z : asLc e with
    | none => rw [z] at h6; cases h6
    | some w =>
      obtain ⟨w1, w2, w3, w4, w5⟩ := w
      obtain ⟨pp, rfl⟩ := asLc_some z
      obtain ⟨ow, L⟩ := lc_ok ok tk h5
      have hloc : X.env.scope.names.lookup x = some .local := by
        unfold swB at hb
        simp only [Bool.and_eq_true, beq_iff_eq] at hb
        rw [ok.sc]; exact hb.1.1.2
      refine PS.weak (ps_setLc ok.calm (nd_of ok) q1 hloc hsw L.hi L.ok L.hg L.ht L.he L.hs) fun D σ H nk q => ?_
      have q2 : tE Y R n (.lc elt own tg it src cond) W σ H fun v H1 => D.nx (σ.set i (some v)) H1 := by
        rcases ha with rfl | rfl
        · exact fin D σ H q
        · exact tE_mk (fin D σ H q)
      have q3 := lc_read L.sub q2
      show tLc _ _ _ _ _ σ H _
      rw [L.ow_eq, ok.K]
      exact q3
end
end
end PI
/-! PI, part u: every statement that was checked. -/
namespace PI
open PySem PySem.Spec PyProof.Rows L2

/-- the frame of a def's body -/
structure SOk (X : Cx) : Prop where
  pas : PassesOwn (model X.prog X.w) X.A X.env X.xe
  stk : X.stack = X.env :: X.outer
  frm : X.env.frame = some X.env.locals
section
variable {Y : Lay} {R : Prg} {n : Nat} {G : Gam} {X : Cx} {W : WX}
theorem gT_nx {tg : Tg} {env e2 : Env'} {x : AV} {v : V} {r : Nat → Addr} {m : Mem} {B : List Addr} {H : Hp} {σ : L2.St} {N : L2.St → Hp → Prop} (h : setTg env tg x = some e2) (rx : Rep Y.K Y.ft r m.length B H x v) (s : S0 Y r m B H env σ) (k : ∀ σ', S0 Y r m B H e2 σ' → N σ' H) : gT Y.K tg v σ H N :=
  gT_ok h rx s.er fun σ' er _ => k σ' ⟨s.ab, er, s.nk⟩
theorem sS_setT (ok : XOk Y R n G X) (tk : Takes X W) {ts : List Nat} {a : Ex} {t e : Expr} {p : Pos} (h1 : chkTg G (.tu ts) t = true) (h2 : (notTup e || foldAll e || (match asTup t with
      | some es => cellB G es
      | none => false)) = true) (h3 : chkE R.T G a e = true) : PS X (.Assign [t] e p) (tS Y (eS R n (.setT ts a)) W) := by
  obtain ⟨es, k, p2, rfl⟩ := tu_of h1 rfl
  have hw : swappedStores [.Tuple es k p2] e X.env = pure none := by
    rw [Bool.or_eq_true, Bool.or_eq_true] at h2
    rcases h2 with (h2 | h2) | h2
    · exact st_not h2
    case inr =>
      cases q : notTup e with
      | true => exact st_not q
      | false =>
        cases e <;> first | (cases q; done) | skip
        exact st_cell ok.sc h2
    · unfold foldAll at h2
      split at h2
      · rename_i vs q
        obtain ⟨k3, p3, rfl⟩ := asTup_some q
        exact st_fold h2
      · cases h2
  refine PS.weak (ps_asg (sE a ok tk h3).v (snd_tg ok.N (nd_of ok) ok.sc ok.fn ok.calm h1) (sw_tup (G := G)) hw rfl) fun D σ H nk ⟨r, m, B, env, s, f⟩ => ?_
  refine ⟨r, m, B, env, s, (FinS.eE (f := fun x m => match setTg env (.tu ts) x with
    | some e2 => .nx e2 m
    | none => .bad) (fresh a) s f).imp ?_⟩
  rintro v H1 ⟨r1, u, m1, k, f1⟩
  rw [ok.K]
  cases q : setTg env (.tu ts) u with
  | none => rw [q] at f1; exact f1.elim
  | some e2 =>
    rw [q] at f1
    exact gT_nx q k.rep (s.step k) fun σ' s' _ => fin_nx f1 s'
theorem sS_par (ok : XOk Y R n G X) (tk : Takes X W) {i j : Nat} {a b : Ex} {u w : Str} {pu pw p pt p2 : Pos} {kt k2 : Nat} {x y : Expr} (h1 : parB G u w pu pw x y = true) (hij : i ≠ j) (h2 : storeOk G i u = true) (h3 : storeOk G j w = true) (h4 : chkE R.T G a x = true) (h5 : chkE R.T G b y = true) :
    PS X (.Assign [.Tuple [.Name u pu, .Name w pw] kt pt] (.Tuple [x, y] k2 p2) p) (tS Y (eS R n (.par i j a b)) W) := by
  obtain ⟨q1, _, _⟩ := storeOk_iff ok.N ok.sc ok.fn h2
  obtain ⟨q2, _, _⟩ := storeOk_iff ok.N ok.sc ok.fn h3
  have hp := h1
  unfold parB at hp
  simp only [Bool.and_eq_true, Bool.not_eq_true', decide_eq_true_eq, beq_iff_eq] at hp
  obtain ⟨⟨⟨⟨⟨⟨⟨⟨_, l1⟩, l2⟩, _⟩, _⟩, n1⟩, n2⟩, _⟩, _⟩ := hp
  refine PS.weak (ps_par ok.calm (nd_of ok) q1 q2 hij (by rw [ok.sc]; exact l1) (by rw [ok.sc]; exact l2) (snd_cons (sE a ok tk h4).v (snd_cons (sE b ok tk h5).v snd_nil n2) n1) (par_st ok.sc h1) rfl) fun D σ H nk ⟨r, m, B, env, s, f⟩ => ?_
  have f : FinS Y W r m B H D ((eE R n a env m).thenS env fun x m => (eE R n b env m).thenS env fun y m => .nx ((env.set i (some x)).set j (some y)) m) := f
  have f' : FinS Y W r m B H D ((eEs R n [a, b] env m).thenS env fun xs m => match xs with
    | [x, y] => .nx ((env.set i (some x)).set j (some y)) m
    | _ => .bad) := by
    show FinS Y W r m B H D (((eE R n a env m).bind fun x m => ((eE R n b env m).bind fun y m => (Res.ok [] m).bind fun xs m => .ok (y :: xs) m).bind fun xs m => .ok (x :: xs) m).thenS env _)
    cases z : eE R n a env m with
    | bad => rw [z] at f; exact f
    | exc c d m1 => rw [z] at f; exact f
    | ok x m1 =>
      rw [z] at f
      have f : FinS Y W r m B H D ((eE R n b env m1).thenS env fun y m => .nx ((env.set i (some x)).set j (some y)) m) := f
      show FinS Y W r m B H D ((((eE R n b env m1).bind fun y m => (Res.ok [] m).bind fun xs m => .ok (y :: xs) m).bind fun xs m => .ok (x :: xs) m).thenS env _)
      cases z2 : eE R n b env m1 with
      | bad => rw [z2] at f; exact f
      | exc c d m1 => rw [z2] at f; exact f
      | ok y m2 => rw [z2] at f; exact f
  refine ⟨r, m, B, env, s, (FinS.thenS (RA := RL Y) s f').imp ?_⟩
  rintro vs H1 ⟨r1, us, m1, k, f1⟩
  have l := evEs_len k.eq
  match us, l with
  | [u, w], _ =>
    obtain ⟨v, v2, rfl, rv, rw'⟩ := k.rep.two
    refine ⟨v, v2, rfl, fun _ => ?_⟩
    exact fin_nx f1 ⟨k.ab, (((s.er.mono k.ext k.nk).set rv i).set rw' j), k.nk⟩
theorem sS_par3 (ok : XOk Y R n G X) (tk : Takes X W) {i j l : Nat} {a b c : Ex} {u w v : Str} {pu pw pv p pt p2 : Pos} {kt k2 : Nat} {x y z : Expr} (h1 : par3B G u w v pu pw pv x y z = true) (hij : i ≠ j ∧ i ≠ l ∧ j ≠ l) (h2 : storeOk G i u = true) (h3 : storeOk G j w = true) (h3' : storeOk G l v = true) (h4 : chkE R.T G a x = true) (h5 : chkE R.T G b y = true) (h6 : chkE R.T G c z = true) :
    PS X (.Assign [.Tuple [.Name u pu, .Name w pw, .Name v pv] kt pt] (.Tuple [x, y, z] k2 p2) p) (tS Y (eS R n (.par3 i j l a b c)) W) := by
  obtain ⟨q1, _, _⟩ := storeOk_iff ok.N ok.sc ok.fn h2
  obtain ⟨q2, _, _⟩ := storeOk_iff ok.N ok.sc ok.fn h3
  obtain ⟨q3, _, _⟩ := storeOk_iff ok.N ok.sc ok.fn h3'
  have hp := h1
  unfold par3B at hp
  simp only [Bool.and_eq_true, Bool.not_eq_true', decide_eq_true_eq, beq_iff_eq] at hp
  obtain ⟨⟨⟨⟨⟨⟨⟨⟨⟨⟨⟨⟨⟨_, l1⟩, l2⟩, l3⟩, _⟩, _⟩, _⟩, _⟩, _⟩, n1⟩, n2⟩, n3⟩, _⟩, _⟩ := hp
  refine PS.weak (ps_par3 ok.calm (nd_of ok) q1 q2 q3 hij.1 hij.2.1 hij.2.2 (by rw [ok.sc]; exact l1) (by rw [ok.sc]; exact l2) (by rw [ok.sc]; exact l3) (snd_cons (sE a ok tk h4).v (snd_cons (sE b ok tk h5).v (snd_cons (sE c ok tk h6).v snd_nil n3) n2) n1) (par3_st ok.sc h1) rfl) fun D σ H nk ⟨r, m, B, env, s, f⟩ => ?_
  have f : FinS Y W r m B H D ((eE R n a env m).thenS env fun x m => (eE R n b env m).thenS env fun y m => (eE R n c env m).thenS env fun z m => .nx (((env.set i (some x)).set j (some y)).set l (some z)) m) := f
  have f' : FinS Y W r m B H D ((eEs R n [a, b, c] env m).thenS env fun xs m => match xs with
    | [x, y, z] => .nx (((env.set i (some x)).set j (some y)).set l (some z)) m
    | _ => .bad) := by
    show FinS Y W r m B H D (((eE R n a env m).bind fun x m => ((eE R n b env m).bind fun y m => ((eE R n c env m).bind fun y m => (Res.ok [] m).bind fun xs m => .ok (y :: xs) m).bind fun xs m => .ok (y :: xs) m).bind fun xs m => .ok (x :: xs) m).thenS env _)
    cases z : eE R n a env m with
    | bad => rw [z] at f; exact f
    | exc c d m1 => rw [z] at f; exact f
    | ok x m1 =>
      rw [z] at f
      have f : FinS Y W r m B H D ((eE R n b env m1).thenS env fun y m => (eE R n c env m).thenS env fun z m => .nx (((env.set i (some x)).set j (some y)).set l (some z)) m) := f
      show FinS Y W r m B H D ((((eE R n b env m1).bind fun y m => ((eE R n c env m).bind fun y m => (Res.ok [] m).bind fun xs m => .ok (y :: xs) m).bind fun xs m => .ok (y :: xs) m).bind fun xs m => .ok (x :: xs) m).thenS env _)
      cases z2 : eE R n b env m1 with
      | bad => rw [z2] at f; exact f
      | exc c d m1 => rw [z2] at f; exact f
      | ok y m2 =>
        rw [z2] at f
        have f : FinS Y W r m B H D ((eE R n c env m2).thenS env fun z m => .nx (((env.set i (some x)).set j (some y)).set l (some z)) m) := f
        show FinS Y W r m B H D (((((eE R n c env m2).bind fun y m => (Res.ok [] m).bind fun xs m => .ok (y :: xs) m).bind fun xs m => .ok (y :: xs) m).bind fun xs m => .ok (x :: xs) m).thenS env _)
        cases z3 : eE R n c env m2 with
        | bad => rw [z3] at f; exact f
        | exc c d m1 => rw [z3] at f; exact f
        | ok y m2 => rw [z3] at f; exact f
  refine ⟨r, m, B, env, s, (FinS.thenS (RA := RL Y) s f').imp ?_⟩
  rintro vs H1 ⟨r1, us, m1, k, f1⟩
  have l := evEs_len k.eq
  match us, l with
  | [u, w, t], _ =>
    obtain ⟨v, v2, v3, rfl, rv, rw', rt⟩ := k.rep.three
    refine ⟨v, v2, v3, rfl, fun _ => ?_⟩
    exact fin_nx f1 ⟨k.ab, ((((s.er.mono k.ext k.nk).set rv i).set rw' j).set rt _), k.nk⟩
/-- o[i] = x -/
theorem setIt_ext {r : Nat → Addr} {m m' : Mem} {B : List Addr} {H : Hp} {o i x : AV} {vo vi vx : V} {env : Env'} {σ : L2.St} (s : S0 Y r m B H env σ) (ro : Rep Y.K Y.ft r m.length B H o vo) (ri : Rep Y.K Y.ft r m.length B H i vi) (rx : Rep Y.K Y.ft r m.length B H x vx) (h : setItE m o i x = some m') {D : Ends} (f : FinS Y W r m B H D (.nx env m')) :
    rSetL vo vi vx H fun H' => NK Y.K H' → D.nx σ H' := by
  unfold setItE at h
  split at h
  · rename_i p j
    split at h
    · rename_i xs e
      split at h
      · rename_i q e2
        cases h
        obtain ⟨rfl, hp⟩ := ro.ref_inv
        obtain ⟨vs, h1, l⟩ := s.ab.obj p _ e
        rw [ri.int_inv]
        refine ⟨_, vs, j, q, rfl, rfl, h1, by rw [← l.length]; exact e2, fun nk => ?_⟩
        have ex := Ext.put s.ab hp (.lst (vs.set q vx))
        have ab2 := s.ab.put e (l.set rx q) nk
        have er := s.er.mono ex nk
        exact f r _ σ (by rw [List.length_set]; exact ex) ⟨ab2, by rw [List.length_set]; exact er, nk⟩
      · cases h
    · cases h
  · cases h
theorem sS_subs (ok : XOk Y R n G X) (tk : Takes X W) {o i a : Ex} {x y e : Expr} {p p2 : Pos} (hy : (asSlice y).isNone = true) (h1 : chkE R.T G o x = true) (h2 : chkE R.T G i y = true) (h3 : chkE R.T G a e = true) :
    PS X (.Assign [.Subscript x y p2] e p) (tS Y (eS R n (.subs o i a)) W) := by
  have pg : PG X (.Subscript x y p2) (gSub (tE Y R n o W) (tE Y R n i W) rSetL) := pg_sub (sE o ok tk h1).v (sE i ok tk h2).v set_list (by cases y <;> first | (intro _; rfl) | cases hy)
  refine PS.weak (ps_asg (sE a ok tk h3).v pg sw_sub st_sub rfl) fun D σ H nk ⟨r, m, B, env, s, f⟩ => ?_
  refine ⟨r, m, B, env, s, (FinS.eE (f := fun x m => (eE R n o env m).thenS env fun p m => (eE R n i env m).thenS env fun k m => match setItE m p k x with
    | some m => .nx env m
    | none => .bad) (fresh a) s f).imp ?_⟩
  rintro v H1 ⟨r1, u, m1, k, f1⟩
  refine ⟨r1, m1, B, env, s.step k, (FinS.eE (fresh o) (s.step k) f1).imp ?_⟩
  rintro v2 H2 ⟨r2, u2, m2, k2, f2⟩
  refine ⟨r2, m2, B, env, (s.step k).step k2, (FinS.eE (fresh i) ((s.step k).step k2) f2).imp ?_⟩
  rintro v3 H3 ⟨r3, u3, m3, k3, f3⟩
  cases q : setItE m3 u2 u3 u with
  | none => rw [q] at f3; exact f3.elim
  | some m4 =>
    rw [q] at f3
    have z := setIt_ext (((s.step k).step k2).step k3) (k2.rep.mono k3.ext k3.nk) k3.rep ((k.rep.mono k2.ext k2.nk).mono k3.ext k3.nk) q f3
    rw [← ok.K] at z
    exact z
theorem sS_aug (ok : XOk Y R n G X) (tk : Takes X W) {i : Nat} {o : Bop} {a : Ex} {x : Str} {px p : Pos} {e : Expr} (h1 : storeOk G i x = true) (ho : o ≠ .mod ∧ o ≠ .pow) (h2 : chkE R.T G a e = true) : PS X (.AugAssign (.Name x px) (opOf o) e p) (tS Y (eS R n (.aug i o a)) W) := by
  obtain ⟨q1, q2, q3⟩ := storeOk_iff ok.N ok.sc ok.fn h1
  obtain ⟨tip, t1, t2⟩ := ip_all (X := X) o ho
  refine PS.weak (ps_aug (nd_of ok) q1 q2 (sE a ok tk h2).v t1 q3) fun D σ H nk ⟨r, m, B, env, s, f⟩ => ?_
  have f : FinS Y W r m B H D (match env[i]? with
    | some (some x) => (eE R n a env m).thenS env fun y m => match augE o x y with
      | some z => .nx (env.set i (some z)) m
      | none => .bad
    | _ => .bad) := f
  split at f
  · rename_i u e1
    obtain ⟨v, g1, g2⟩ := s.er.2 i u e1
    refine ⟨v, g1, r, m, B, env, s, (FinS.eE (fresh a) s f).imp ?_⟩
    rintro v1 H1 ⟨r1, w, m1, k, f1⟩
    cases q : augE o u w with
    | none => rw [q] at f1; exact f1.elim
    | some z =>
      rw [q] at f1
      obtain ⟨i1, j1, k1, rfl, rfl, rfl, g⟩ := t2 u w z v v1 H1 (fun zv H2 => (nkD X.K D).nx (σ.set i (some zv)) H2) q
      refine g g2.int_inv k.rep.int_inv fun _ => ?_
      exact fin_nx f1 ⟨k.ab, (s.er.mono k.ext k.nk).set (.int _) i, k.nk⟩
  · exact f.elim
theorem sS_augs (ok : XOk Y R n G X) (tk : Takes X W) {o i a : Ex} {bp : Bop} {x y e : Expr} {p p2 : Pos} (hy : (asSlice y).isNone = true) (ho : bp ≠ .mod ∧ bp ≠ .pow) (h1 : chkE R.T G o x = true) (h2 : chkE R.T G i y = true) (h3 : chkE R.T G a e = true) :
    PS X (.AugAssign (.Subscript x y p2) (opOf bp) e p) (tS Y (eS R n (.augs o i bp a)) W) := by
  obtain ⟨tip, t1, t2⟩ := ip_all (X := X) bp ho
  refine PS.weak (ps_augS (sE o ok tk h1).v (sE i ok tk h2).v get_list (sE a ok tk h3).v t1 set_list (by cases y <;> first | (intros; rfl) | cases hy)) fun D σ H nk ⟨r, m, B, env, s, f⟩ => ?_
  refine ⟨r, m, B, env, s, (FinS.eE (f := fun x m => (eE R n i env m).thenS env fun k m => match x, k with
    | .ref q, .int j => match subE m (.ref q) j with
      | some old => (eE R n a env m).thenS env fun y m => match augE bp old y with
        | some z => match setItE m (.ref q) (.int j) z with
          | some m => .nx env m
          | none => .bad
        | none => .bad
      | none => .bad
    | _, _ => .bad) (fresh o) s f).imp ?_⟩
  rintro v H1 ⟨r1, u, m1, k, f1⟩
  refine ⟨r1, m1, B, env, s.step k, (FinS.eE (fresh i) (s.step k) f1).imp ?_⟩
  rintro v2 H2 ⟨r2, u2, m2, k2, f2⟩
  split at f2
  · rename_i q j
    cases e2 : subE m2 (.ref q) j with
    | none => rw [e2] at f2; exact f2.elim
    | some old =>
      rw [e2] at f2
      have ro := k.rep.mono k2.ext k2.nk
      rw [k2.rep.int_inv]
      have e3 : (match lstOf m2 (.ref q) with
        | some xs => atI xs j
        | none => none) = some old := e2
      split at e3
      · rename_i xs e4
        obtain ⟨p, vs, rfl, t, l⟩ := ro.lst_inv k2.ab e4
        obtain ⟨j', _, h2, _⟩ := id (atI_get e3)
        obtain ⟨ov, e5, rold⟩ := l.atI e3
        rw [ok.K]
        refine ⟨p, vs, j, ov, rfl, rfl, t, e5, ?_⟩
        have s2 := (s.step k).step k2
        refine ⟨r2, m2, B, env, s2, (FinS.eE (fresh a) s2 f2).imp ?_⟩
        rintro v4 H4 ⟨r4, w, m4, k4, f4⟩
        cases q4 : augE bp old w with
        | none => rw [q4] at f4; exact f4.elim
        | some z =>
          rw [q4] at f4
          obtain ⟨i1, j1, kk, rfl, rfl, rfl, g⟩ := t2 old w z ov v4 H4 (fun zv H5 => rSetL (.ref p) (.int j) zv H5 fun H6 => (nkD Y.K D).nx σ H6) q4
          refine g rold.int_inv k4.rep.int_inv ?_
          have f4 : FinS Y W r4 m4 B H4 D (match setItE m4 (.ref q) (.int j) (.int kk) with
            | some m => .nx env m
            | none => .bad) := f4
          split at f4
          · rename_i m5 e6
            exact setIt_ext (s2.step k4) (ro.mono k4.ext k4.nk) (.int _) (.int _) e6 f4
          · exact f4.elim
      · cases e3
  · exact f2.elim
end
end PI
/-! PI, part v: control; every statement that was checked is as read. -/
namespace PI
open PySem PySem.Spec PyProof.Rows L2

section
variable {Y : Lay} {R : Prg} {n : Nat} {G : Gam} {X : Cx} {W : WX}
theorem sS_ite (ok : XOk Y R n G X) (tk : Takes X W) {c : Ex} {t f : List Sm} {x : Expr} {a b : List Stmt} {p : Pos} (h1 : chkE R.T G c x = true) (ha : PSs X a (tS Y (eSs R n t) W)) (hb : PSs X b (tS Y (eSs R n f) W)) : PS X (.If x a b p) (tS Y (eS R n (.ite c t f)) W) := by
  refine PS.weak (ps_if (sE c ok tk h1).t ha hb) fun D σ H nk ⟨r, m, B, env, s, f0⟩ => ?_
  refine ⟨r, m, B, env, s, (FinS.toB (f := fun x m => match x with
    | .bl true => eSs R n t env m
    | .bl false => eSs R n f env m
    | _ => .bad) s (fun v m h => ?_) f0).imp ?_⟩
  · cases v <;> first | rfl | exact absurd rfl (h _)
  · rintro d H1 ⟨r1, m1, s1, e1, f1⟩
    have mono : ∀ {u : SRes} {r m H}, FinS Y W r m B H D u → FinS Y W r m B H (nkD X.K D) u := fun {u r m H} h => by
      cases u with
      | nx e m' => exact fun r' H' σ' e s _ => h r' H' σ' e s
      | ct e m' => exact fun r' H' σ' e s _ => h r' H' σ' e s
      | bk e m' => exact fun r' H' σ' e s _ => h r' H' σ' e s
      | rt x m' => exact fun r' H' v e a n q _ => h r' H' v e a n q
      | exc c d e m' => exact h
      | bad => exact h
    cases d with
    | true => rw [if_pos rfl]; exact ⟨r1, m1, B, env, s1, mono f1⟩
    | false => rw [if_neg (by decide)]; exact ⟨r1, m1, B, env, s1, mono f1⟩
theorem FinS.nkD {K : PySem.W.Frag} {u : SRes} {r : Nat → Addr} {m : Mem} {B : List Addr} {H : Hp} {D : Ends} (h : FinS Y W r m B H D u) : FinS Y W r m B H (nkD K D) u := by
  cases u with
  | nx e m' => exact fun r' H' σ' e s _ => h r' H' σ' e s
  | ct e m' => exact fun r' H' σ' e s _ => h r' H' σ' e s
  | bk e m' => exact fun r' H' σ' e s _ => h r' H' σ' e s
  | rt x m' => exact fun r' H' v e a n q _ => h r' H' v e a n q
  | exc c d e m' => exact h
  | bad => exact h
theorem sS_wh (ok : XOk Y R n G X) (so : SOk X) (tk : Takes X W) {c : Ex} {b : List Sm} {x : Expr} {a : List Stmt} {p : Pos} (h1 : chkE R.T G c x = true) (ha : PSs X a (tS Y (eSs R n b) W)) : PS X (.While x a [] p) (tS Y (eS R n (.wh c b)) W) := by
  refine ⟨fun pins s σ H D I q => (ps_while so.pas (sE c ok tk h1).t ha).run pins s σ H D I ?_⟩
  obtain ⟨r, m, B, env, s0, f0⟩ := q
  have f0 : FinS Y W r m B H D (whLoop (fun env m => eE R n c env m) (fun env m => eSs R n b env m) loopK env m) := f0
  refine ⟨fun k σ H => ∃ r m B env, S0 Y r m B H env σ ∧ FinS Y W r m B H D (whLoop (fun env m => eE R n c env m) (fun env m => eSs R n b env m) k env m), ⟨loopK, r, m, B, env, s0, f0⟩, ?_⟩
  rintro k σ H ⟨r, m, B, env, s0, f0⟩
  cases k with
  | zero => exact f0.elim
  | succ k =>
    refine ⟨r, m, B, env, s0, (FinS.toB (f := fun x m => match x with
      | .bl true => (eSs R n b env m).turn (whLoop (fun env m => eE R n c env m) (fun env m => eSs R n b env m) k)
      | .bl false => .nx env m
      | _ => .bad) s0 (fun v m h => ?_) f0).imp ?_⟩
    · cases v <;> first | rfl | exact absurd rfl (h _)
    · rintro d H1 ⟨r1, m1, s1, e1, f1⟩
      cases d with
      | true =>
        rw [if_pos rfl]
        refine ⟨fun σ' H' => ∃ r m B env, S0 Y r m B H' env σ' ∧ FinS Y W r m B H' D (whLoop (fun env m => eE R n c env m) (fun env m => eSs R n b env m) k env m), fun σ' H' w => ⟨k, Nat.lt_succ_self k, w⟩, ?_⟩
        exact ⟨r1, m1, B, env, s1, FinS.turn (fun r2 e m2 H2 σ2 e2 s2 f2 => ⟨r2, m2, B, e, s2, f2⟩) f1⟩
      | false =>
        rw [if_neg (by decide)]
        exact fin_nx f1 s1
theorem forLoop_cons {tg : Tg} {f : Env' → Mem → SRes} {x : AV} {xs : List AV} {env : Env'} {m : Mem} : forLoop tg f (x :: xs) env m = match setTg env tg x with
    | some e2 => (f e2 m).turn (forLoop tg f xs)
    | none => .bad := rfl
theorem sS_for (ok : XOk Y R n G X) (so : SOk X) (tk : Takes X W) {tg : Tg} {it : Nat} {src : List Ex} {b : List Sm} {t i : Expr} {xs : List Expr} {a : List Stmt} {p : Pos} (h1 : chkTg G tg t = true) (h2 : srcOk R.T G it tg i = some xs) (h3 : chkEs R.T G src xs = true) (ha : PSs X a (tS Y (eSs R n b) W)) :
    PS X (.For t i a [] p) (tS Y (eS R n (.for_ tg it src b)) W) := by
  obtain ⟨hi, hs⟩ := src_pi ok h2 h1 (sEs src ok tk h3)
  refine ⟨fun pins s σ H D I q => (ps_for so.pas ok.calm hi (snd_tg ok.N (nd_of ok) ok.sc ok.fn ok.calm h1) ha hs).run pins s σ H D I ?_⟩
  obtain ⟨r, m, B, env, s0, f0⟩ := q
  have f0 : FinS Y W r m B H D ((eEs R n src env m).thenS env fun ss m => match itE m it ss with
    | some xs => forLoop tg (fun env m => eSs R n b env m) xs env m
    | none => .bad) := f0
  have f1 : FinS Y W r m B H D ((evI R n it src env m).thenS env fun xs m => forLoop tg (fun env m => eSs R n b env m) xs env m) := by
    unfold evI
    cases z : eEs R n src env m with
    | bad => rw [z] at f0; exact f0
    | exc c d m1 => rw [z] at f0; exact f0
    | ok us m1 =>
      rw [z] at f0
      have f0 : FinS Y W r m B H D (match itE m1 it us with
        | some xs => forLoop tg (fun env m => eSs R n b env m) xs env m1
        | none => .bad) := f0
      show FinS Y W r m B H D ((optR m1 (itE m1 it us)).thenS env fun xs m => forLoop tg (fun env m => eSs R n b env m) xs env m)
      cases z2 : itE m1 it us with
      | none => rw [z2] at f0; exact f0
      | some xs => rw [z2] at f0; exact f0
  refine ⟨r, m, B, env, s0, (FinS.thenS (RA := IterR Y) s0 f1).imp ?_⟩
  rintro J H1 ⟨r1, xs, m1, k, f2⟩
  refine ⟨fun i c σ' H' => c = xs.length - i ∧ i ≤ xs.length ∧ ∃ r' m' env', Ext r1 m1.length H1 r' m'.length H' ∧ S0 Y r' m' B H' env' σ' ∧ FinS Y W r' m' B H' D (forLoop tg (fun env m => eSs R n b env m) (xs.drop i) env' m'),
    ⟨xs.length, by simp, Nat.zero_le _, r1, m1, env, k.ab.ext, s0.step k, f2⟩, ?_⟩
  rintro i c σ' H' ⟨rfl, hle, r', m', env', ex, s', f3⟩
  obtain ⟨st, gy⟩ := k.rep.2 r' m' B H' ex s'.ab s'.nk (fun b hb => .inl hb)
  by_cases hlt : i < xs.length
  case neg =>
    have e : i = xs.length := by omega
    subst e
    rw [List.drop_length] at f3
    exact .inl ⟨st, fin_nx f3 s'⟩
  obtain ⟨hgo, hy⟩ := gy i xs[i] (by simp [hlt])
  refine .inr ⟨hgo, fun σ' H' => _, fun σ' H' q => ⟨xs.length - (i + 1), by omega, rfl, hlt, q⟩, fun x H2 y2 => ?_⟩
  obtain ⟨ex2, ab2, nk2, rx⟩ := hy x H2 y2
  rw [List.drop_eq_getElem_cons hlt, forLoop_cons] at f3
  cases q : setTg env' tg xs[i] with
  | none => rw [q] at f3; exact f3.elim
  | some e2 =>
    rw [q] at f3
    rw [ok.K]
    refine gT_nx q rx ⟨ab2, s'.er.mono ex2 nk2, nk2⟩ fun σ2 s2 => ?_
    exact ⟨r', m', B, e2, s2, FinS.turn (fun r4 e m4 H4 σ4 e4 s4 f4 => ⟨r4, m4, e, (ex.trans ex2).trans e4, s4, f4⟩) (FinS.shift ex2 f3)⟩
theorem sS_rais (ok : XOk Y R n G X) (tk : Takes X W) {c : Nat} {x : Str} {p q r0 : Pos} (h1 : glbOk G x = true) (h2 : R.T.excs[c]? = some x) : PS X (.Raise (some (.Call (.Name x p) [] [] q)) none r0) (tS Y (eS R n (.rais c)) W) := by
  obtain ⟨m, kp, s1, s2, bmB, B, newId, initId, F, ex⟩ := ok.excs c x h2
  unfold glbOk at h1
  rw [Bool.and_eq_true] at h1
  refine ⟨fun pins s σ H D I q => (ps_raise ok.calm tk (pmk_own0 F ex m kp (raises_own s1 s2) (ok.gl h1.1) (nameOk_iff h1.2).1)).run pins s σ H D I ?_⟩
  obtain ⟨r, m, B, env, s0, f0⟩ := q
  exact f0 r H σ none s0.ab.ext s0 ⟨rfl, rfl⟩
/-- a handler -/
theorem sH (ok : XOk Y R n G X) {a : Addr} {pn : List (Addr × Obj)} {h : List Sm} {ss : List Stmt} (hc : chkH R.T G h ss = true) : PSs (X.suite a pn) ss (tS Y (eSs R n h) W0) ∧ ∃ b rest, ss = b :: rest := by
  unfold chkH at hc
  split at hc
  · rename_i s
    cases s <;> first | cases hc | skip
    refine ⟨PSs.weak (pss_one ps_pass) fun D σ H nk ⟨r, m, B, env, s0, f0⟩ => ?_, _, _, rfl⟩
    exact fun _ => fin_nx f0 s0
  · rename_i s
    cases s <;> first | cases hc | skip
    refine ⟨PSs.weak (pss_one ps_break) fun D σ H nk ⟨r, m, B, env, s0, f0⟩ => ?_, _, _, rfl⟩
    exact fun _ => f0 r H σ s0.ab.ext s0
  · rename_i s
    cases s <;> first | cases hc | skip
    refine ⟨PSs.weak (pss_one ps_continue) fun D σ H nk ⟨r, m, B, env, s0, f0⟩ => ?_, _, _, rfl⟩
    exact fun _ => f0 r H σ s0.ab.ext s0
  · rename_i a' s
    split at hc
    · rename_i e q
      obtain ⟨p, rfl⟩ := asRet_some q
      rw [Bool.and_eq_true] at hc
      have pe : PE (X.suite a pn) e (tE Y R n a' W0) := by
        obtain ⟨hf, he⟩ := hc
        split at hf
        · unfold chkE at he
          split at he
          · rename_i q
            obtain ⟨k, p, rfl⟩ := asConst_some q
            exact snd_flat (fun _ _ => rfl) (fun _ z => by cases z) (fun _ _ _ _ => .non) pe_non
          · cases he
        · unfold chkE at he
          split at he
          · rename_i c q
            obtain ⟨k, p, rfl⟩ := asConst_some q
            obtain rfl := eq_of_beq he
            exact snd_flat (fun _ _ => rfl) (fun _ z => by cases z) (fun _ _ _ _ => .bl _) pe_bl
          · cases he
        · unfold chkE at he
          split at he
          · rename_i c q
            obtain ⟨k, p, rfl⟩ := asConst_some q
            obtain rfl := of_decide_eq_true he
            exact snd_flat (fun _ _ => rfl) (fun _ z => by cases z) (fun _ _ _ _ => .int _) pe_int
          · cases he
        · unfold chkE at he
          split at he
          · rename_i c q
            obtain ⟨k, p, rfl⟩ := asConst_some q
            obtain rfl := of_decide_eq_true he
            exact snd_flat (fun _ _ => rfl) (fun _ z => by cases z) (fun _ _ _ _ => .str _) pe_str
          · cases he
        · unfold chkE at he
          split at he
          · rename_i x q
            obtain ⟨p, rfl⟩ := asName_some q
            obtain ⟨q1, q2, q3, q4⟩ := ok.slot he
            exact snd_v (X := X.suite a pn) q1 q2 q3 q4
          · cases he
        · unfold chkE at he
          split at he
          · rename_i x q
            obtain ⟨p, rfl⟩ := asName_some q
            unfold glbOk at he
            rw [Bool.and_eq_true, Bool.and_eq_true, decide_eq_true_eq] at he
            obtain ⟨u, w, h1, h2, h3⟩ := ok.cons _ x he.2
            exact snd_g (pe_glob (X := X.suite a pn) (ok.gl he.1.1) h1 h2 (nameOk_iff he.1.2).1) h3
          · cases he
        · cases hf
      refine ⟨PSs.weak (pss_one (ps_ret pe)) fun D σ H nk ⟨r, m, B, env, s0, f0⟩ => ?_, _, _, rfl⟩
      have f0 : FinS Y W0 r m B H D (((eE R n a' env m).thenS env fun x m => SRes.rt x m).seq (eSs R n [])) := f0
      have f1 : FinS Y W0 r m B H D ((eE R n a' env m).thenS env fun x m => SRes.rt x m) := by
        cases z : eE R n a' env m with
        | bad => rw [z] at f0; exact f0
        | exc => rw [z] at f0; exact f0
        | ok => rw [z] at f0; exact f0
      refine ⟨r, m, B, env, s0, (FinS.eE (fresh a') s0 f1).imp ?_⟩
      rintro v H1 ⟨r1, u, m1, k, f2⟩
      exact fun _ => f2 r1 H1 v k.ab.ext k.ab k.nk k.rep
    · cases hc
  · cases hc
theorem FinS.try_ {x : SRes} {c : Nat} {h : Env' → Mem → SRes} {r : Nat → Addr} {m : Mem} {B : List Addr} {H : Hp} {D : Ends} {sb : Nat → Nat → Option Bool} {Wi : WX} (k : ∀ c' e m1 r1 H1 σ1 dd b, Ext r m.length H r1 m1.length H1 → S0 Y r1 m1 B H1 e σ1 → dd = none → sb c' c = some b → (b = true → FinS Y W r1 m1 B H1 D (h e m1)) → (b = false → W (.ref (Y.ct c')) dd σ1 H1) → Wi (.ref (Y.ct c')) dd σ1 H1)
    (f : FinS Y W r m B H D (tryR sb c h x)) : FinS Y Wi r m B H D x := by
  cases x with
  | nx e m' => exact f
  | ct e m' => exact f
  | bk e m' => exact f
  | rt x m' => exact f
  | exc c' d e m' =>
    intro r1 H1 σ1 dd e1 s1 hx
    have f : FinS Y W r m B H D (match sb c' c with
        | some true => h e m'
        | some false => .exc c' d e m'
        | none => .bad) := f
    cases z : sb c' c with
    | none => rw [z] at f; exact f.elim
    | some b =>
      rw [z] at f
      refine k c' e m' r1 H1 σ1 dd b e1 s1 hx.2 z (fun z => ?_) fun z => ?_
      · subst z; exact FinS.shift e1 f
      · subst z; exact f r1 H1 σ1 dd e1 s1 hx
  | bad => exact f
/-- a handler raises nothing -/
theorem sH_ne {h : List Sm} {ss : List Stmt} (hc : chkH R.T G h ss = true) {r : Nat → Addr} {m : Mem} {B : List Addr} {H : Hp} {D : Ends} {env : Env'} (f : FinS Y W r m B H D (eSs R n h env m)) : FinS Y W0 r m B H D (eSs R n h env m) := by
  unfold chkH at hc
  split at hc
  · exact f
  · exact f
  · exact f
  · rename_i a' s
    split at hc
    · rw [Bool.and_eq_true] at hc
      have hf := hc.1
      have f : FinS Y W r m B H D (((eE R n a' env m).thenS env fun x m => SRes.rt x m).seq (eSs R n [])) := f
      show FinS Y W0 r m B H D (((eE R n a' env m).thenS env fun x m => SRes.rt x m).seq (eSs R n []))
      split at hf
      · exact f
      · exact f
      · exact f
      · exact f
      · rename_i i f0
        have e : eE R n (.v i) env m = (match env[i]? with
          | some (some x) => .ok x m
          | _ => .bad) := rfl
        rw [e] at f ⊢
        split at f
        · exact f
        · exact f.elim
      · exact f
      · cases hf
    · cases hc
  · cases hc
end

section
variable {Y : Lay} {R : Prg} {n : Nat}
theorem sS_try {G : Gam} {X : Cx} {W : WX} (ok : XOk Y R n G X) (so : SOk X) (tk : Takes X W) {b h : List Sm} {c : Nat} {x : Str} {body ss : List Stmt} {p q r0 : Pos} (h1 : glbOk G x = true) (h2 : R.T.excs[c]? = some x)
    (hb : ∀ (W : WX) (pn : List (Addr × Obj)) (xe : Value → Shared → Prop), Takes (X.tr pn xe) W → PassesOwn (model X.prog X.w) X.A X.env xe → PSs (X.tr pn xe) body (tS Y (eSs R n b) W)) (hh : chkH R.T G h ss = true) :
    PS X (.Try body [.ExceptHandler (some (.Name x p)) none ss q] [] [] r0) (tS Y (eS R n (.tryc b c h)) W) := by
  obtain ⟨m, kp, s1, s2, _⟩ := ok.excs c x h2
  unfold glbOk at h1
  rw [Bool.and_eq_true] at h1
  have names : Names X x (.ref (Y.ct c)) := ⟨ok.gl h1.1, (nameOk_iff h1.2).1, .inl m⟩
  obtain ⟨b0, rest, rfl⟩ := (sH (a := default) (pn := []) ok hh).2
  refine ⟨fun pins s σ H D I q => (ps_try_only so.stk so.frm names tk hb (fun a oe cls d pn _ _ => (sH (n := n) ok hh).1)).run pins s σ H D I ?_⟩
  obtain ⟨r, m, B, env, s0, f0⟩ := q
  refine ⟨r, m, B, env, s0, ?_⟩
  refine FinS.try_ (W := W) (sb := R.sb) (c := c) (h := eSs R n h) ?_ f0
  intro c' e m1 r1 H1 σ1 dd b1 e1 s1 hd hsb f1 w1
  refine ⟨b1, ok.exm c c' b1 hsb, fun z a ha => ?_, fun z => w1 z⟩
  exact ⟨r1, m1, B, e, s1, sH_ne hh (f1 z)⟩
theorem XOk.tr {G : Gam} {X : Cx} (h : XOk Y R n G X) (pn : List (Addr × Obj)) (xe : Value → Shared → Prop) : XOk Y R n G (X.tr pn xe) :=
  ⟨h.K, h.N, h.nd, h.sc, h.fn, h.calm, h.room, h.grd, h.defs, h.par, h.cons, h.free, h.excs, h.exm⟩
mutual
theorem sS : ∀ (a : Sm) {G : Gam} {X : Cx} {W : WX} {st : Stmt}, XOk Y R n G X → SOk X → Takes X W → chkS R.T G a st = true → PS X st (tS Y (eS R n a) W)
  | .set i a, G, X, W, st, ok, so, tk, h => by
    unfold chkS at h
    split at h
    · rename_i t e q
      obtain ⟨p, rfl⟩ := asAsg_some q
      split at h
      · rename_i x px q2
        obtain rfl := asNameP_some q2
        rw [Bool.and_eq_true, Bool.and_eq_true, Bool.and_eq_true] at h
        obtain ⟨⟨⟨h1, h2⟩, h3⟩, h4⟩ := h
        exact sS_set ok tk h1 h2 h3 h4
      · cases h
    · cases h
  | .setT ts a, G, X, W, st, ok, so, tk, h => by
    unfold chkS at h
    split at h
    · rename_i t e q
      obtain ⟨p, rfl⟩ := asAsg_some q
      rw [Bool.and_eq_true, Bool.and_eq_true] at h
      exact sS_setT ok tk h.1.1 h.1.2 h.2
    · cases h
  | .par i j a b, G, X, W, st, ok, so, tk, h => by
    unfold chkS at h
    split at h
    · rename_i t e q
      obtain ⟨p, rfl⟩ := asAsg_some q
      split at h
      · rename_i t1 t2 x y q1 q2
        obtain ⟨k1, p1, rfl⟩ := asTup_some q1
        obtain ⟨k2, p2, rfl⟩ := asTup_some q2
        split at h
        · rename_i u pu w pw q3 q4
          obtain rfl := asNameP_some q3
          obtain rfl := asNameP_some q4
          rw [Bool.and_eq_true, Bool.and_eq_true, Bool.and_eq_true, Bool.and_eq_true, Bool.and_eq_true, decide_eq_true_eq] at h
          obtain ⟨⟨⟨⟨⟨h1, h2⟩, h3⟩, h4⟩, h5⟩, h6⟩ := h
          exact sS_par ok tk h1 h2 h3 h4 h5 h6
        · cases h
      · cases h
    · cases h
  | .par3 i j k a b c, G, X, W, st, ok, so, tk, h => by
    unfold chkS at h
    split at h
    · rename_i t e q
      obtain ⟨p, rfl⟩ := asAsg_some q
      split at h
      · rename_i t1 t2 t3 x y z q1 q2
        obtain ⟨k1, p1, rfl⟩ := asTup_some q1
        obtain ⟨k2, p2, rfl⟩ := asTup_some q2
        split at h
        · rename_i u pu w pw v pv q3 q4 q5
          obtain rfl := asNameP_some q3
          obtain rfl := asNameP_some q4
          obtain rfl := asNameP_some q5
          rw [Bool.and_eq_true, Bool.and_eq_true, Bool.and_eq_true, Bool.and_eq_true, Bool.and_eq_true, Bool.and_eq_true, Bool.and_eq_true, decide_eq_true_eq] at h
          obtain ⟨⟨⟨⟨⟨⟨⟨h1, h2⟩, h3⟩, h4⟩, h5⟩, h6⟩, h7⟩, h8⟩ := h
          exact sS_par3 ok tk h1 h2 h3 h4 h5 h6 h7 h8
        · cases h
      · cases h
    · cases h
  | .subs o i a, G, X, W, st, ok, so, tk, h => by
    unfold chkS at h
    split at h
    · rename_i t e q
      obtain ⟨p, rfl⟩ := asAsg_some q
      split at h
      · rename_i x y q2
        obtain ⟨p2, rfl⟩ := asSub_some q2
        rw [Bool.and_eq_true, Bool.and_eq_true, Bool.and_eq_true] at h
        obtain ⟨⟨⟨h1, h2⟩, h3⟩, h4⟩ := h
        exact sS_subs ok tk h1 h2 h3 h4
      · cases h
    · cases h
  | .aug i o a, G, X, W, st, ok, so, tk, h => by
    unfold chkS at h
    split at h
    · rename_i t p e q
      obtain ⟨pp, rfl⟩ := asAug_some q
      split at h
      · rename_i x px q2
        obtain rfl := asNameP_some q2
        rw [Bool.and_eq_true, Bool.and_eq_true, Bool.and_eq_true, decide_eq_true_eq] at h
        obtain ⟨⟨⟨h1, h2⟩, h3⟩, h4⟩ := h
        obtain rfl := bopB_eq h2
        exact sS_aug ok tk h1 h3 h4
      · cases h
    · cases h
  | .augs o i bp a, G, X, W, st, ok, so, tk, h => by
    unfold chkS at h
    split at h
    · rename_i t p e q
      obtain ⟨pp, rfl⟩ := asAug_some q
      split at h
      · rename_i x y q2
        obtain ⟨p2, rfl⟩ := asSub_some q2
        rw [Bool.and_eq_true, Bool.and_eq_true, Bool.and_eq_true, Bool.and_eq_true, Bool.and_eq_true, decide_eq_true_eq] at h
        obtain ⟨⟨⟨⟨⟨h1, h2⟩, h3⟩, h4⟩, h5⟩, h6⟩ := h
        obtain rfl := bopB_eq h2
        exact sS_augs ok tk h1 h3 h4 h5 h6
      · cases h
    · cases h
  | .ex a, G, X, W, st, ok, so, tk, h => by
    unfold chkS at h
    split at h
    · rename_i e q
      obtain ⟨p, rfl⟩ := asExpr_some q
      rw [Bool.and_eq_true, Bool.not_eq_true'] at h
      refine PS.weak (ps_expr (sE a ok tk h.2).v (sw_no h.1)) fun D σ H nk ⟨r, m, B, env, s, f⟩ => ⟨r, m, B, env, s, (FinS.eE (f := fun x m => .nx env m) (fresh a) s f).imp ?_⟩
      rintro v H1 ⟨r1, u, m1, k, f1⟩
      exact fun _ => fin_nx f1 (s.step k)
    · cases h
  | .ite c t f, G, X, W, st, ok, so, tk, h => by
    unfold chkS at h
    split at h
    · rename_i x a b q
      obtain ⟨p, rfl⟩ := asIfS_some q
      rw [Bool.and_eq_true, Bool.and_eq_true] at h
      exact sS_ite ok tk h.1.1 (sSs t ok so tk h.1.2) (sSs f ok so tk h.2)
    · cases h
  | .wh c b, G, X, W, st, ok, so, tk, h => by
    unfold chkS at h
    split at h
    · rename_i x a q
      obtain ⟨p, rfl⟩ := asWh_some q
      rw [Bool.and_eq_true] at h
      exact sS_wh ok so tk h.1 (sSs b ok so tk h.2)
    · cases h
  | .for_ tg it src b, G, X, W, st, ok, so, tk, h => by
    unfold chkS at h
    split at h
    · rename_i t i a q
      obtain ⟨p, rfl⟩ := asFor_some q
      rw [Bool.and_eq_true, Bool.and_eq_true] at h
      obtain ⟨⟨h1, h2⟩, h3⟩ := h
      split at h2
      · rename_i xs q2
        exact sS_for ok so tk h1 q2 h2 (sSs b ok so tk h3)
      · cases h2
    · cases h
  | .ret a, G, X, W, st, ok, so, tk, h => by
    unfold chkS at h
    split at h
    · rename_i e q
      obtain ⟨p, rfl⟩ := asRet_some q
      refine PS.weak (ps_ret (sE a ok tk h).v) fun D σ H nk ⟨r, m, B, env, s, f⟩ => ⟨r, m, B, env, s, (FinS.eE (f := fun x m => .rt x m) (fresh a) s f).imp ?_⟩
      rintro v H1 ⟨r1, u, m1, k, f1⟩
      exact fun _ => f1 r1 H1 v k.ab.ext k.ab k.nk k.rep
    · cases h
  | .retN, G, X, W, st, ok, so, tk, h => by
    unfold chkS at h
    split at h
    · rename_i q
      obtain ⟨p, rfl⟩ := asRet_some q
      refine PS.weak ps_retN fun D σ H nk ⟨r, m, B, env, s, f⟩ => ?_
      exact fun _ => f r H .non s.ab.ext s.ab s.nk .non
    · cases h
  | .rais c, G, X, W, st, ok, so, tk, h => by
    unfold chkS at h
    split at h
    · rename_i e q
      obtain ⟨p, rfl⟩ := asRaise_some q
      split at h
      · rename_i x q2
        obtain ⟨p2, p3, rfl⟩ := asCall_some q2
        rw [Bool.and_eq_true, decide_eq_true_eq] at h
        exact sS_rais ok tk h.1 h.2
      · cases h
    · cases h
  | .tryc b c hh, G, X, W, st, ok, so, tk, h => by
    unfold chkS at h
    split at h
    · rename_i a x s q
      obtain ⟨p, p2, p3, rfl⟩ := asTry_some q
      rw [Bool.and_eq_true, Bool.and_eq_true, Bool.and_eq_true, decide_eq_true_eq] at h
      obtain ⟨⟨⟨h1, h2⟩, h3⟩, h4⟩ := h
      exact sS_try ok so tk h1 h2 (fun W' pn xe tk' pa => sSs b (ok.tr pn xe) ⟨pa, so.stk, so.frm⟩ tk' h3) h4
    · cases h
  | .pass, G, X, W, st, ok, so, tk, h => by
    unfold chkS at h
    cases st <;> first | cases h | skip
    exact PS.weak ps_pass fun D σ H nk ⟨r, m, B, env, s, f⟩ => fun _ => fin_nx f s
  | .brk, G, X, W, st, ok, so, tk, h => by
    unfold chkS at h
    cases st <;> first | cases h | skip
    exact PS.weak ps_break fun D σ H nk ⟨r, m, B, env, s, f⟩ => fun _ => f r H σ s.ab.ext s
  | .cont, G, X, W, st, ok, so, tk, h => by
    unfold chkS at h
    cases st <;> first | cases h | skip
    exact PS.weak ps_continue fun D σ H nk ⟨r, m, B, env, s, f⟩ => fun _ => f r H σ s.ab.ext s
theorem sSs : ∀ (as : List Sm) {G : Gam} {X : Cx} {W : WX} {ss : List Stmt}, XOk Y R n G X → SOk X → Takes X W → chkSs R.T G as ss = true → PSs X ss (tS Y (eSs R n as) W)
  | [], G, X, W, ss, ok, so, tk, h => by
    unfold chkSs at h
    cases ss with
    | nil => exact PSs.weak pss_nil fun D σ H nk ⟨r, m, B, env, s, f⟩ => fun _ => fin_nx f s
    | cons => cases h
  | a :: as, G, X, W, ss, ok, so, tk, h => by
    unfold chkSs at h
    cases ss with
    | nil => cases h
    | cons st ss =>
      have h : (chkS R.T G a st && chkSs R.T G as ss) = true := h
      rw [Bool.and_eq_true] at h
      refine PSs.weak (pss_cons (sS a ok so tk h.1) (sSs as ok so tk h.2)) fun D σ H nk ⟨r, m, B, env, s, f⟩ => ?_
      have f : FinS Y W r m B H D ((eS R n a env m).seq (eSs R n as)) := f
      exact ⟨r, m, B, env, s, FinS.seq (FinS.nkD f)⟩
end
end
end PI
/-! PI, part w: the program. -/
namespace PI
open PySem PySem.Spec PyProof.Rows L2

/-! ### parameters -/
def plainPar (p : Arguments) : Bool := p.posonlyargs.isEmpty && p.kwonlyargs.isEmpty && p.vararg.isNone && p.kwarg.isNone
theorem fm_congr {α β : Type} {f g : α → Option β} : ∀ {l : List α}, (∀ a ∈ l, f a = g a) → l.filterMap f = l.filterMap g
  | [], _ => rfl
  | a :: l, h => by rw [List.filterMap_cons, List.filterMap_cons, h a (by simp), fm_congr fun b hb => h b (by simp [hb])]
theorem zip_lookup {ps : List Str} : ∀ {us : List Value}, ps.Nodup → us.length = ps.length → (ps.filterMap fun n => ((ps.zip us).lookup n).map fun u => (n, u)) = ps.zip us := by
  induction ps with
  | nil => intro us _ _; rfl
  | cons p ps ih =>
    intro us nd hl
    cases us with
    | nil => cases hl
    | cons u us =>
      have hp : p ∉ ps := (List.nodup_cons.mp nd).1
      have e : (ps.filterMap fun n => (((p :: ps).zip (u :: us)).lookup n).map fun u => (n, u)) = ps.filterMap fun n => ((ps.zip us).lookup n).map fun u => (n, u) := by
        refine fm_congr fun n hn => ?_
        have : (n == p) = false := beq_eq_false_iff_ne.mpr fun z => hp (z ▸ hn)
        rw [List.zip_cons_cons, List.lookup_cons, this]
      rw [List.filterMap_cons, List.zip_cons_cons, List.lookup_cons, beq_self_eq_true]
      rw [List.zip_cons_cons] at e
      simp only [Option.map_some]
      rw [e, ih (List.nodup_cons.mp nd).2 (by simpa using hl)]
theorem zip_some {ps : List Str} {us : List Value} (hl : us.length = ps.length) : (ps.filter fun n => ((ps.zip us).lookup n).isNone) = [] := by
  rw [List.filter_eq_nil_iff]
  intro n hn
  have : ∀ {ps : List Str} {us : List Value}, us.length = ps.length → n ∈ ps → ((ps.zip us).lookup n).isNone = false := by
    intro ps
    induction ps with
    | nil => intro us _ h; cases h
    | cons p ps ih =>
      intro us hl h
      cases us with
      | nil => cases hl
      | cons u us =>
        rw [List.zip_cons_cons, List.lookup_cons]
        by_cases z : n = p
        · subst z; simp
        · rw [beq_eq_false_iff_ne.mpr z]
          rcases List.mem_cons.mp h with h | h
          · exact absurd h z
          · exact ih (by simpa using hl) h
  simp [this hl hn]
theorem bind_plain {x qual : Str} {p : Arguments} {body : List Stmt} {scope : Scope} {kV doc pm cdv ct : Value} {an : Option Addr} {us : List Value} (hp : plainPar p = true) (nd : (p.args.map (·.arg)).Nodup) (hl : us.length = (p.args.map (·.arg)).length) :
    bindArgs (PySem.W.fnOf x qual p body scope .none kV doc pm an cdv ct) ⟨us, []⟩ = pure ((p.args.map (·.arg)).zip us) := by
  unfold plainPar at hp
  simp only [Bool.and_eq_true, List.isEmpty_iff, Option.isNone_iff_eq_none] at hp
  obtain ⟨⟨⟨h1, h2⟩, h3⟩, h4⟩ := hp
  unfold bindArgs
  simp only [h1, h2, h3, h4, List.map_nil, List.nil_append, List.append_nil]
  have sq : seqItems? Value.none = pure none := rfl
  rw [sq]
  simp only [List.forIn_nil, pure_bind]
  have c1 : (decide (us.length > (List.map (fun x => x.arg) p.args).length) && (none : Option Arg).isNone) = false := by rw [hl]; simp
  rw [c1]
  simp only [Bool.false_eq_true, if_false, Option.getD_none, Array.toList_empty, List.length_nil, List.drop_nil, Nat.sub_zero, Nat.zero_sub, List.take_length, zip_some hl, List.isEmpty_nil, Bool.not_true, List.zip_nil_right, List.forIn_nil, pure_bind]
  rw [zip_lookup nd hl]

/-! ### the program's data -/
structure DD where
  d : He.DefD
  N : List Str
  ps : List Str
  fd : FD
structure PD where
  cs : List (Str × AV)
  ds : List DD
  ex : List Str
  sub : List (List Bool)
  bl : List Str
def PD.prg (p : PD) : Prg where
  T := ⟨p.cs.map (·.1), p.ds.map fun d => (d.d.name, d.ps), p.ex, p.bl⟩
  P := fun k => (p.ds[k]?).map (·.fd)
  gv := fun k => match p.cs[k]? with
    | some c => c.2
    | none => .non
  sb := fun c' c => (p.sub[c']?).bind (·[c]?)
def okPar (d : DD) : Bool := plainPar d.d.params && decide (d.d.params.args.map (·.arg) = d.ps) && decide d.ps.Nodup
def okSc (d : DD) : Bool := (d.d.scope.kind == .function) && !d.d.scope.isCoroutine && !d.d.scope.isGenerator && decide d.N.Nodup && decide (d.N.take d.ps.length = d.ps) &&
  (d.ps.all fun x => (d.d.scope.names.lookup x == some .local) || (d.d.scope.names.lookup x == some .cell)) && (d.d.scope.names.all fun y => !(y.2 == .free))
def okDD (T : Top) (d : DD) : Bool := decide (d.d.at_ = (d.d.name, none)) && d.d.dfl.isEmpty && d.d.kwd.isEmpty && okPar d && okSc d && decide (d.fd.n = d.N.length) && decide (d.fd.ps = d.ps.length) && chkSs T ⟨d.N, d.d.scope, fun _ => true⟩ d.fd.body d.d.body
def PD.ok (p : PD) : Bool := p.ds.all (okDD p.prg.T)
def PD.fa (p : PD) : List He.Fa := p.ds.map (fun d => .glo d.d.name) ++ p.bl.map .free ++ p.ex.map .glo ++ p.ex.map .exc
def PD.fn (p : PD) : List He.DefD := p.ds.map (·.d)
/-- constants, as they lie -/
def seqB (K : PySem.W.Frag) (a : Addr) : Option (Bool × List Value) := match K.lookup a with
  | some ⟨.type c, d, .seq its _, _⟩ => if its.size ≤ sizeLine then (if c = "tuple" then some (true, its.toList) else if c = "list" then (match d with
    | none => some (false, its.toList)
    | some _ => none) else none) else none
  | _ => none
mutual
def avB (K : PySem.W.Frag) (ft : Nat → Addr) : AV → Value → Bool
  | .non, v => match v with
    | .none => true
    | _ => false
  | .bl b, v => match v with
    | .bool c => b == c
    | _ => false
  | .int i, v => match v with
    | .int j _ => decide (i = j)
    | _ => false
  | .str cs, v => match v with
    | .str y _ => decide (toStr cs = y)
    | _ => false
  | .tup xs, v => match v with
    | .ref a => match seqB K a with
      | some (true, its) => avBs K ft xs its
      | _ => false
    | _ => false
  | .scr xs, v => match v with
    | .ref a => match seqB K a with
      | some (false, its) => avBs K ft xs its
      | _ => false
    | _ => false
  | .fn k, v => match v with
    | .ref a => decide (a = ft k)
    | _ => false
  | .frl _, _ => false
  | .ref _, _ => false
def avBs (K : PySem.W.Frag) (ft : Nat → Addr) : List AV → List Value → Bool
  | [], vs => vs.isEmpty
  | x :: xs, vs => match vs with
    | [] => false
    | v :: vs => avB K ft x v && avBs K ft xs vs
end
theorem seqB_tup {K : PySem.W.Frag} {a : Addr} {its : List Value} (h : seqB K a = some (true, its)) : ∃ (o : Obj) (arr : Array Value) (n : Nat), K.lookup a = some o ∧ o.cls = .type "tuple" ∧ o.data = .seq arr n ∧ arr.size ≤ sizeLine ∧ arr.toList = its := by
  unfold seqB at h
  split at h
  · rename_i c d arr n s e
    split at h
    · rename_i hz
      split at h
      · rename_i hc
        cases h
        exact ⟨_, arr, n, e, by rw [hc], rfl, hz, rfl⟩
      · split at h
        · split at h <;> cases h
        · cases h
    · cases h
  · cases h
theorem seqB_lst {K : PySem.W.Frag} {a : Addr} {its : List Value} (h : seqB K a = some (false, its)) : ∃ (o : Obj) (arr : Array Value) (n : Nat), K.lookup a = some o ∧ o.cls = .type "list" ∧ o.dict = none ∧ o.data = .seq arr n ∧ arr.size ≤ sizeLine ∧ arr.toList = its := by
  unfold seqB at h
  split at h
  · rename_i c d arr n s e
    split at h
    · rename_i hz
      split at h
      · cases h
      · split at h
        · rename_i hc
          split at h
          · cases h
            exact ⟨_, arr, n, e, by rw [hc], rfl, rfl, hz, rfl⟩
          · cases h
        · cases h
    · cases h
  · cases h
theorem un_K {K : PySem.W.Frag} {ft r : Nat → Addr} {m : Mem} {B : List Addr} {H : Hp} {a : Addr} {o : Obj} (nk : NK K H) (ab : Ab K ft r m B H) (h : K.lookup a = some o) : Un r m.length B a :=
  ⟨fun i hi z => ab.liveN hi (by rw [z]; exact nk a o h), fun hb => (ab.blk a hb).1 (nk a o h)⟩
mutual
theorem avB_ok {K : PySem.W.Frag} {ft : Nat → Addr} : ∀ {x : AV} {v : Value}, avB K ft x v = true → ∃ w, RelV w v ∧ ∀ r m B H, NK K H → Ab K ft r m B H → Rep K ft r m.length B H x w
  | .non, v, h => by
    cases v <;> first | (cases h; done) | skip
    exact ⟨.non, rfl, fun _ _ _ _ _ _ => .non⟩
  | .bl b, v, h => by
    cases v <;> first | (cases h; done) | skip
    rename_i c
    obtain rfl : b = c := eq_of_beq h
    exact ⟨.bl b, rfl, fun _ _ _ _ _ _ => .bl b⟩
  | .int i, v, h => by
    cases v <;> first | (cases h; done) | skip
    obtain rfl := of_decide_eq_true h
    exact ⟨.int i, ⟨_, rfl⟩, fun _ _ _ _ _ _ => .int i⟩
  | .str cs, v, h => by
    cases v <;> first | (cases h; done) | skip
    obtain rfl := of_decide_eq_true h
    exact ⟨.str _, ⟨_, rfl⟩, fun _ _ _ _ _ _ => .str cs⟩
  | .tup xs, v, h => by
    cases v <;> first | (cases h; done) | skip
    rename_i a
    have h : (match seqB K a with
      | some (true, its) => avBs K ft xs its
      | _ => false) = true := h
    split at h
    · rename_i its e
      obtain ⟨o, arr, n, h1, h2, h3, h4, rfl⟩ := seqB_tup e
      obtain ⟨ws, g1, g2⟩ := avBs_ok h
      exact ⟨.ref a, rfl, fun r m B H nk ab => .tup (.inr ⟨o, arr, n, h1, h2, h3, h4, g1⟩) (un_K nk ab h1) (g2 r m B H nk ab)⟩
    · cases h
  | .scr xs, v, h => by
    cases v <;> first | (cases h; done) | skip
    rename_i a
    have h : (match seqB K a with
      | some (false, its) => avBs K ft xs its
      | _ => false) = true := h
    split at h
    · rename_i its e
      obtain ⟨o, arr, n, h1, h2, h2', h3, h4, rfl⟩ := seqB_lst e
      obtain ⟨ws, g1, g2⟩ := avBs_ok h
      exact ⟨.ref a, rfl, fun r m B H nk ab => .scr (.inr ⟨o, arr, n, h1, h2, h2', h3, h4, g1⟩) (un_K nk ab h1) (g2 r m B H nk ab)⟩
    · cases h
  | .fn k, v, h => by
    cases v <;> first | (cases h; done) | skip
    obtain rfl := of_decide_eq_true h
    exact ⟨.ref _, rfl, fun _ _ _ _ _ _ => .fn k⟩
  | .frl _, v, h => by cases h
  | .ref _, v, h => by cases h
theorem avBs_ok {K : PySem.W.Frag} {ft : Nat → Addr} : ∀ {x : List AV} {v : List Value}, avBs K ft x v = true → ∃ w, Vals w v ∧ ∀ r m B H, NK K H → Ab K ft r m B H → RepL K ft r m.length B H x w
  | [], v, h => by
    cases v with
    | nil => exact ⟨[], .nil, fun _ _ _ _ _ _ => .nil⟩
    | cons => cases h
  | x :: xs, v, h => by
    cases v with
    | nil => cases h
    | cons v vs =>
      have h : (avB K ft x v && avBs K ft xs vs) = true := h
      rw [Bool.and_eq_true] at h
      obtain ⟨w, g1, g2⟩ := avB_ok h.1
      obtain ⟨ws, g3, g4⟩ := avBs_ok h.2
      exact ⟨w :: ws, .cons g1 g3, fun r m B H nk ab => .cons (g2 r m B H nk ab) (g4 r m B H nk ab)⟩
end
def PD.ft (p : PD) (K : PySem.W.Frag) (k : Nat) : Addr := match p.ds[k]? with
  | some d => He.ga K d.d.name
  | none => 0
def PD.ct (p : PD) (K : PySem.W.Frag) (c : Nat) : Addr := match p.ex[c]? with
  | some x => He.ga K x
  | none => 0
def PD.lay (p : PD) (K : PySem.W.Frag) : Lay := ⟨K, p.ft K, p.ct K⟩
/-- what the head is to see, beyond facts and functions -/
def PD.see (p : PD) (K : PySem.W.Frag) : Bool :=
  (p.cs.all fun c => match PySem.W.nsIn K mainGlobals c.1 with
    | some (some u) => avB K (p.ft K) c.2 u
    | _ => false) &&
  ((List.range p.sub.length).all fun c' => (List.range (p.sub.getD c' []).length).all fun c => decide (PySem.W.exmOne K (.ref (p.ct K c')) (.ref (p.ct K c)) = ((p.sub[c']?).bind (·[c]?))))
end PI
/-! PI, part x: the program's defs keep what the evaluator says. -/
namespace PI
open PySem PySem.Spec PyProof.Rows L2

/-! ### what a def tracked itself is let go -/
section
variable {K : PySem.W.Frag} {ft r : Nat → Addr} {n k : Nat} {B : List Addr} {H : Hp}
theorem Un.cut {a : Addr} (h : Un r n B a) (hk : k ≤ n) : Un r k B a := ⟨fun i hi => h.1 i (Nat.lt_of_lt_of_le hi hk), h.2⟩
mutual
theorem Rep.cutN (hk : k ≤ n) : ∀ {x : AV} {v : V}, clsd k x = true → Rep K ft r n B H x v → Rep K ft r k B H x v
  | _, _, _, .non => .non
  | _, _, _, .bl b => .bl b
  | _, _, _, .int i => .int i
  | _, _, _, .str cs => .str cs
  | _, _, c, .tup h1 h2 h3 => .tup h1 (h2.cut hk) (RepL.cutN hk c h3)
  | _, _, c, .frl h1 h2 h3 => .frl h1 (h2.cut hk) (RepL.cutN hk c h3)
  | _, _, c, .scr h1 h2 h3 => .scr h1 (h2.cut hk) (RepL.cutN hk c h3)
  | _, _, c, .ref h => .ref (of_decide_eq_true c)
  | _, _, _, .fn k => .fn k
theorem RepL.cutN (hk : k ≤ n) : ∀ {x : List AV} {v : List V}, clsdL k x = true → RepL K ft r n B H x v → RepL K ft r k B H x v
  | _, _, _, .nil => .nil
  | _, _, c, .cons a b => by
    have c := Bool.and_eq_true_iff.mp c
    exact .cons (Rep.cutN hk c.1 a) (RepL.cutN hk c.2 b)
end
theorem Ab.cut {m : Mem} (ab : Ab K ft r m B H) (hk : k ≤ m.length) (c : (m.take k).all (clsdO k) = true) : Ab K ft r (m.take k) B H := by
  have hl : (m.take k).length = k := by rw [List.length_take]; omega
  refine ⟨fun i j hi hj => ab.inj i j (by omega) (by omega), fun i o e => ?_, fun b hb => ⟨(ab.blk b hb).1, fun i hi => (ab.blk b hb).2 i (by omega)⟩⟩
  have hi : i < k := by
    have := (List.getElem?_eq_some_iff.mp e).1
    omega
  have hm : o ∈ m.take k := List.mem_of_getElem? e
  have co := List.all_eq_true.mp c o hm
  rw [List.getElem?_take_of_lt hi] at e
  have h := ab.obj i o e
  cases o with
  | lst xs =>
    obtain ⟨vs, h1, h2⟩ := h
    exact ⟨vs, h1, by rw [hl]; exact h2.cutN hk co⟩
theorem cutM_ok {Y : Lay} {m0 m : Mem} {r r' : Nat → Addr} {B : List Addr} {H H' : Hp} {xs : List AV} {vs : List V} (e : Ext r m0.length H r' m.length H') (ab : Ab Y.K Y.ft r' m B H') (l : RepL Y.K Y.ft r' m.length B H' xs vs) :
    Ext r m0.length H r' (cutM m0.length m xs).length H' ∧ Ab Y.K Y.ft r' (cutM m0.length m xs) B H' ∧ RepL Y.K Y.ft r' (cutM m0.length m xs).length B H' xs vs := by
  unfold cutM
  split
  · rename_i h
    rw [Bool.and_eq_true] at h
    have hl : (m.take m0.length).length = m0.length := by rw [List.length_take]; have := e.len; omega
    refine ⟨?_, ab.cut e.len h.2, ?_⟩
    · rw [hl]; exact e.cut (Nat.le_refl _) e.len
    · rw [hl]; exact l.cutN e.len h.1
  · exact ⟨e, ab, l⟩
end
theorem fin_call {Y : Lay} {W : WX} {r : Nat → Addr} {m : Mem} {B : List Addr} {H : Hp} {Q : VK} {x : SRes} (hW : ∀ c d σ σ' H, W c d σ H → W c d σ' H) (f : Fin Y (RV Y) W r m B H [] Q (finC m.length x)) : FinS Y W r m B H { nx := fun _ H' => Q .non H', rt := Q } x := by
  cases x with
  | nx e m' =>
    intro r' H' σ' e1 s1
    obtain ⟨c1, c2, c3⟩ := cutM_ok (xs := []) (vs := []) e1 s1.ab .nil
    exact f r' H' .non c1 c2 s1.nk .non
  | ct e m' => exact f.elim
  | bk e m' => exact f.elim
  | rt x m' =>
    intro r' H' v e1 ab nk rep
    obtain ⟨c1, c2, c3⟩ := cutM_ok (xs := [x]) (vs := [v]) e1 ab (.cons rep .nil)
    cases c3 with
    | cons a b => exact f r' H' v c1 c2 nk a
  | exc c d e m' =>
    intro r' H' σ' dd e1 s1 hx
    have f : Fin Y (RV Y) W r m B H [] Q (.exc c d (cutM m.length m' (d.map (·.2)))) := f
    obtain ⟨hd, hdd⟩ := hx
    subst hd
    obtain ⟨c1, c2, c3⟩ := cutM_ok (xs := []) (vs := []) e1 s1.ab .nil
    exact hW _ _ _ _ _ (f r' H' dd c1 c2 s1.nk ⟨rfl, hdd⟩)
  | bad => exact f.elim

/-! ### facts of the head -/
structure PD.Facts (p : PD) (K : PySem.W.Frag) (mg : Str → Option Value) : Prop where
  defs : ∀ d ∈ p.ds, mg d.d.name = some (.ref (He.ga K d.d.name)) ∧ ∃ fd, FunD K d.d.name d.d.qual d.d.params d.d.body d.d.scope (d.d.dvs K) (d.d.kws K) (He.fAd K d.d.at_) fd
  cons : ∀ c ∈ p.cs, ∃ u, mg c.1 = some u ∧ avB K (p.ft K) c.2 u = true
  free : ∀ x ∈ p.bl, mg x = none
  excs : ∀ x ∈ p.ex, mg x = some (.ref (He.ga K x)) ∧ PySem.W.excIn K (He.ga K x) He.veBase "ValueError.__new__" = true ∧ PySem.W.keepIn K (.ref (He.ga K x)) = true ∧ PySem.W.subIn K (.ref (He.ga K x)) (.type "BaseException") = some true ∧ PySem.W.typeIn K (.ref (He.ga K x)) = some (.type "type")
  exm : ∀ (c c' : Nat) (b : Bool), p.prg.sb c' c = some b → PySem.W.exmOne K (.ref (p.ct K c')) (.ref (p.ct K c)) = some b
theorem facts_of {p : PD} {K : PySem.W.Frag} {h : Heap} {mg : Str → Option Value} (X : K.In h) (G : h.Ns mainGlobals mg) (c : He.SaysD p.fa p.fn K) (hs : p.see K = true) : p.Facts K mg := by
  unfold PD.see at hs
  rw [Bool.and_eq_true] at hs
  obtain ⟨h1, h2⟩ := hs
  refine ⟨fun d hd => ⟨He.glo_ok X G (c.facts (f := .glo d.d.name) ?_), c.defs (List.mem_map.mpr ⟨d, hd, rfl⟩)⟩, fun q hq => ?_, fun x hx => He.free_ok X G (c.facts (f := .free x) ?_), fun x hx => ⟨He.glo_ok X G (c.facts (f := .glo x) ?_), He.exc_ok (c.facts (f := .exc x) ?_)⟩, fun a b v e => ?_⟩
  · unfold PD.fa; simp only [List.mem_append, List.mem_map]; exact .inl (.inl (.inl ⟨d, hd, rfl⟩))
  · have z := List.all_eq_true.mp h1 q hq
    split at z
    · rename_i u e
      exact ⟨u, PySem.W.mg_of X G e, z⟩
    · cases z
  · unfold PD.fa; simp only [List.mem_append, List.mem_map]; exact .inl (.inl (.inr ⟨x, hx, rfl⟩))
  · unfold PD.fa; simp only [List.mem_append, List.mem_map]; exact .inl (.inr ⟨x, hx, rfl⟩)
  · unfold PD.fa; simp only [List.mem_append, List.mem_map]; exact .inr ⟨x, hx, rfl⟩
  · have e : (p.sub[b]?).bind (·[a]?) = some v := e
    obtain ⟨row, e1, e2⟩ := opt_bind_some e
    have l1 : b < p.sub.length := (List.getElem?_eq_some_iff.mp e1).1
    have l2 : a < row.length := (List.getElem?_eq_some_iff.mp e2).1
    have z := List.all_eq_true.mp h2 b (List.mem_range.mpr l1)
    have er : p.sub.getD b [] = row := by rw [List.getD_eq_getElem?_getD, e1]; rfl
    rw [er] at z
    have z2 := List.all_eq_true.mp z a (List.mem_range.mpr l2)
    rw [of_decide_eq_true z2]; exact e

section
variable {p : PD} {P : Program} {w : World} {K : PySem.W.Frag} {mg : Str → Option Value} {base : Heap}
theorem def_at {k : Nat} {x : Str} {ps : List Str} (h : p.prg.T.defs[k]? = some (x, ps)) : ∃ d, p.ds[k]? = some d ∧ d ∈ p.ds ∧ x = d.d.name ∧ ps = d.ps ∧ p.ft K k = He.ga K d.d.name ∧ p.prg.P k = some d.fd := by
  have h : (p.ds.map fun d => (d.d.name, d.ps))[k]? = some (x, ps) := h
  rw [List.getElem?_map] at h
  obtain ⟨d, e, z⟩ := opt_map_some h
  cases z
  refine ⟨d, e, List.mem_of_getElem? e, rfl, rfl, ?_, ?_⟩
  · unfold PD.ft; rw [e]
  · show (p.ds[k]?).map (·.fd) = _; rw [e]; rfl
theorem fn_scope {d : DD} (h : okSc d = true) : FnScope d.N d.ps d.d.scope := by
  unfold okSc at h
  simp only [Bool.and_eq_true, Bool.not_eq_true', decide_eq_true_eq, beq_iff_eq, List.all_eq_true, Bool.or_eq_true] at h
  obtain ⟨⟨⟨⟨⟨⟨h1, h2⟩, h3⟩, h4⟩, h5⟩, h6⟩, h7⟩ := h
  refine ⟨h1, h2, h3, h4, h5, h6, fun y hy z => ?_⟩
  have := h7 y hy
  rw [z] at this
  revert this; decide
theorem start_ok {Y : Lay} {r : Nat → Addr} {m : Mem} {B : List Addr} {H : Hp} {xs : List AV} {vs : List V} {N : List Str} {a b : Nat} (l : RepL Y.K Y.ft r m.length B H xs vs) (ha : a = N.length) (hb : xs.length = b) : EnvR Y.K Y.ft r m.length B H (xs.map some ++ List.replicate (a - b) none) (L2.start N vs) := by
  have hl := l.length
  subst ha hb
  refine ⟨by unfold L2.start; simp [hl], fun i x e => ?_⟩
  by_cases hi : i < xs.length
  · rw [List.getElem?_append_left (by simpa using hi), List.getElem?_map] at e
    obtain ⟨x', e1, e2⟩ := opt_map_some e
    cases e2
    obtain ⟨v, h1, h2⟩ := l.get e1
    refine ⟨v, ?_, h2⟩
    unfold L2.start
    rw [List.getElem?_append_left (by rw [List.length_map, ← hl]; exact hi), List.getElem?_map, h1]; rfl
  · rw [List.getElem?_append_right (by simpa using hi), List.getElem?_replicate] at e
    split at e <;> cases e
abbrev FunOf (K : PySem.W.Frag) (d : DD) (fd : FuncData) : Prop := FunD K d.d.name d.d.qual d.d.params d.d.body d.d.scope [] [] (He.ga K d.d.name) fd
theorem fd_of {d : DD} (od : okDD p.prg.T d = true) (F : p.Facts K mg) (hd : d ∈ p.ds) : ∃ fd, FunOf K d fd := by
  unfold okDD at od
  simp only [Bool.and_eq_true, decide_eq_true_eq, List.isEmpty_iff] at od
  obtain ⟨⟨⟨⟨⟨⟨⟨o1, o2⟩, o3⟩, o4⟩, o5⟩, o6⟩, o7⟩, o8⟩ := od
  obtain ⟨fm, fd, fD⟩ := F.defs d hd
  have dv : d.d.dvs K = [] := by unfold He.DefD.dvs; rw [o2]; rfl
  have kw : d.d.kws K = [] := by unfold He.DefD.kws; rw [o3]; rfl
  rw [dv, kw, o1] at fD
  exact ⟨fd, fD⟩
theorem bd_of {d : DD} {fd : FuncData} (od : okDD p.prg.T d = true) (fD : FunOf K d fd) : Binds K fd d.ps [] ∧ ∀ (s : Shared) (us : List Value), us.length = d.ps.length → BindsTo s fd ⟨us, []⟩ (d.ps.zip us) := by
  unfold okDD at od
  simp only [Bool.and_eq_true, decide_eq_true_eq, List.isEmpty_iff] at od
  obtain ⟨⟨⟨⟨⟨⟨⟨o1, o2⟩, o3⟩, o4⟩, o5⟩, o6⟩, o7⟩, o8⟩ := od
  unfold okPar at o4
  simp only [Bool.and_eq_true, decide_eq_true_eq] at o4
  have h : ∀ (kV doc pm : Value) (an : Option Addr) (cdv ct : Value) (us : List Value), us.length = d.ps.length → bindArgs (PySem.W.fnOf d.d.name d.d.qual d.d.params d.d.body d.d.scope .none kV doc pm an cdv ct) ⟨us, []⟩ = pure (d.ps.zip us) := fun kV doc pm an cdv ct us hl => by
    have := bind_plain (x := d.d.name) (qual := d.d.qual) (body := d.d.body) (scope := d.d.scope) (kV := kV) (doc := doc) (pm := pm) (cdv := cdv) (ct := ct) (an := an) (us := us) o4.1.1 (by rw [o4.1.2]; exact o4.2) (by rw [o4.1.2]; exact hl)
    rw [o4.1.2] at this
    exact this
  exact ⟨fD.bindsN h, fun s us hl => fD.bindsA h s us hl⟩
/-- what holds of every def, so many calls deep -/
theorem lvl (hp : p.ok = true) (F : p.Facts K mg) : ∀ (n k : Nat) (d : DD) (fd : FuncData), p.ds[k]? = some d → FunOf K d fd → FnG P w K mg base n (p.ft K k) fd d.ps (spE (p.lay K) p.prg n k)
  | n, k, d, fd, e, fD => by
    have hd := List.mem_of_getElem? e
    have hft : p.ft K k = He.ga K d.d.name := by unfold PD.ft; rw [e]
    have hP : p.prg.P k = some d.fd := by show (p.ds[k]?).map (·.fd) = _; rw [e]; rfl
    have od := List.all_eq_true.mp hp d hd
    unfold okDD at od
    simp only [Bool.and_eq_true, decide_eq_true_eq, List.isEmpty_iff] at od
    obtain ⟨⟨⟨⟨⟨⟨⟨o1, o2⟩, o3⟩, o4⟩, o5⟩, o6⟩, o7⟩, o8⟩ := od
    have len : ∀ j vs H Q E, spE (p.lay K) p.prg j k vs H Q E → vs.length = d.ps.length := fun j vs H Q E ⟨r, m, B, xs, d', _, _, l, hP', hl, _⟩ => by
      rw [hP] at hP'
      cases hP'
      rw [← l.length, hl, o7]
    cases n with
    | zero =>
      refine ⟨len 0, fun A outer s H args us vs Q E hr hg e0 hb r hsp => ?_⟩
      obtain ⟨r, m, B, xs, d', _, _, l, hP', hl, f⟩ := hsp
      exact f.elim
    | succ n =>
      rw [hft]
      refine fnG_of fD (fn_scope o5) (len (n + 1)) fun cdv A outer s H vs Q E hr hg hsp => ?_
      obtain ⟨r, m, B, xs, d', ab, nk, l, hP', hl, f⟩ := hsp
      rw [hP] at hP'
      cases hP'
      refine ⟨tS (p.lay K) (eSs p.prg n d.fd.body) (fun cls dd _ H' => E cls dd H'), ?_, r, m, B, xs.map some ++ List.replicate (d.fd.n - d.fd.ps) none, ⟨ab, start_ok l o6 hl, nk⟩, ?_⟩
      · refine sSs (Y := p.lay K) (R := p.prg) (n := n) (G := ⟨d.N, d.d.scope, fun _ => true⟩) d.fd.body ?_ ?_ ?_ o8
        · refine ⟨rfl, rfl, (fn_scope o5).nd, rfl, fun _ _ => rfl, rfl, hr, hg, fun k' x' ps' h' => ?_, fun k' x' ps' h' => ?_, fun c x' h' => ?_, fun x' hx => F.free x' hx, fun c x' h' => ?_, fun c c' b hb => F.exm c c' b hb⟩
          · obtain ⟨d2, e2, hd2, rfl, rfl, hft2, hP2⟩ := def_at (K := K) h'
            have od2 := List.all_eq_true.mp hp d2 hd2
            obtain ⟨fd2, fD2⟩ := fd_of od2 F hd2
            refine ⟨?_, ?_, fd2, lvl hp F n k' d2 fd2 e2 fD2, (bd_of od2 fD2).1⟩
            · show mg d2.d.name = some (.ref (p.ft K k')); rw [hft2]; exact (F.defs d2 hd2).1
            · show PySem.W.keepIn K (.ref (p.ft K k')) = true
              rw [hft2]; exact fD2.kp
          · obtain ⟨d2, e2, hd2, rfl, rfl, hft2, hP2⟩ := def_at (K := K) h'
            have od2 := List.all_eq_true.mp hp d2 hd2
            unfold okDD at od2
            simp only [Bool.and_eq_true, decide_eq_true_eq, List.isEmpty_iff] at od2
            exact ⟨d2.fd, hP2, od2.1.2⟩
          · have h' : (p.cs.map (·.1))[c]? = some x' := h'
            rw [List.getElem?_map] at h'
            obtain ⟨q, e1, rfl⟩ := opt_map_some h'
            obtain ⟨u, g1, g2⟩ := F.cons q (List.mem_of_getElem? e1)
            obtain ⟨w', g3, g4⟩ := avB_ok g2
            refine ⟨u, w', g1, g3, fun r m B H nk ab => ?_⟩
            have : p.prg.gv c = q.2 := by show (match p.cs[c]? with | some c => c.2 | none => AV.non) = _; rw [e1]
            rw [this]; exact g4 r m B H nk ab
          · obtain ⟨g1, g2, g3, g4, g5⟩ := F.excs x' (List.mem_of_getElem? h')
            have hc : p.ct K c = He.ga K x' := by unfold PD.ct; rw [show p.ex[c]? = some x' from h']
            show mg x' = some (.ref (p.ct K c)) ∧ PySem.W.keepIn K (.ref (p.ct K c)) = true ∧ PySem.W.subIn K (.ref (p.ct K c)) (.type "BaseException") = some true ∧ PySem.W.typeIn K (.ref (p.ct K c)) = some (.type "type") ∧ ∃ (bmB : List Value) (B newId initId : String), ExcBaseFacts B newId initId bmB ∧ PySem.W.excIn K (p.ct K c) bmB newId = true
            rw [hc]
            exact ⟨g1, g3, g4, g5, _, _, _, _, PySem.F.excBase_ValueError, g2⟩
        · exact ⟨passes_of rfl, rfl, rfl⟩
        · exact takes_of rfl rfl rfl rfl
      · refine fin_call (fun c d σ σ' H h => h) ?_
        have e2 : callE p.prg.P p.prg.gv p.prg.sb (n + 1) k xs m = finC m.length (eSs p.prg n d.fd.body (xs.map some ++ List.replicate (d.fd.n - d.fd.ps) none) m) := by
          show (match p.prg.P k with
            | some d => if xs.length = d.ps then finC m.length (evSs (callE p.prg.P p.prg.gv p.prg.sb n) p.prg.gv p.prg.sb d.body (xs.map some ++ List.replicate (d.n - d.ps) none) m) else .bad
            | none => .bad) = _
          rw [hP]
          show (if xs.length = d.fd.ps then _ else _) = _
          rw [if_pos hl]
        rw [e2] at f
        exact f
end
end PI
/-! PI, part y: from the evaluator's word about the law to the law. -/
namespace PI
open PySem PySem.Spec PyProof.Rows PySem.W L2

section
variable {P : Program} {w : World} {K : PySem.W.Frag} {mg mb : Str → Option Value} {k : Nat} {fa a : Addr} {fd : FuncData} {x : Str} {sp : Sp} {st : Shared} {vs : List Value} {ns : List Int}
/-- what of the heap is known by its object only: the script at most -/
theorem run_law {H : Hp} (X : K.In st.heap) (G : st.heap.Ns mainGlobals mg) (GB : st.heap.Ns builtinsNs mb) (GV : ∀ y : Str, y ≠ "__name__" → mb y = bootBuiltins y) (GL : st.heap.NoLimit) (GG : st.gens = #[])
    (at_ : st.heap.get? a = some { cls := .type "list", data := .seq vs.toArray }) (ok : HOk P w H st.heap) (one : ∀ b u, H b = some u → b = a ∧ K.lookup a = none ∧ ∃ o ys, u = .frz o (.lst ys))
    (F : ∀ base : Heap, K.In base → base.Ns mainGlobals mg → FnG P w K mg base k fa fd [x] sp) (room : Room k callerA) (bind : ∀ (s : Shared) (u : Value), BindsTo s fd ⟨[u], []⟩ [(x, u)])
    (h : sp [.ref a] H (fun v _ => v = .bl true) fun _ _ _ => False) :
    codeAny (model P w) callerA (.call (.ref fa) ⟨[.ref a], []⟩) (fun r s' => r = .ok (.ret (.bool true)) ∧ OldK st.heap s'.heap ∧ s'.os = st.os ∧ AllBare s'.gens) st := by
  have out : ∀ b o, st.heap.get? b = some o → (∀ u, H b ≠ some u) → (hidT st.heap H).get? b = some o := fun b o e n => hidT_get e (by
    cases q : H b with
    | none => rfl
    | some u => exact absurd q (n u))
  have ns' : ∀ b m, st.heap.Ns b m → (hidT st.heap H).Ns b m := fun b m ⟨o, es, ep, e, d, rest⟩ => ⟨o, es, ep, out b o e (fun u q => by
    obtain ⟨rfl, _⟩ := one b u q
    rw [at_] at e
    cases e
    have d' : Data.seq vs.toArray _ = Data.dict es ep := d
    cases d'), d, rest⟩
  have kin : K.In (hidT st.heap H) := fun b o e => out b o (X b o e) fun u q => by
    obtain ⟨rfl, z, _⟩ := one b u q
    rw [z] at e
    cases e
  obtain ⟨mc, l1, l2⟩ := GL
  have env0 : Env0 P w K mg (hidT st.heap H) callerA [] st H :=
    { frames := rfl, mod := { kin := kin, glob := ns' _ _ G, blt := ⟨mb, ns' _ _ GB, GV⟩, nolimit := ⟨mc, ns' _ _ l1, l2⟩ }, bs := fun b o e => of_hidT e, bsz := Nat.le_of_eq (hidT_size _ _), funs := trivial
      frf := fun b hb => (by cases (show b ∈ ([] : List Addr) from hb)), hok := ok, bare := .of_eq GG }
  refine codeAny_mono ((F _ kin (ns' _ _ G)).run callerA [] st H ⟨[.ref a], []⟩ [.ref a] [.ref a] _ _ room rfl env0 (bind st (.ref a)) (.cons rfl .nil) h) fun r s' z => ?_
  match r, z with
  | .error e, z =>
    obtain ⟨_, _, _, _, _, _, _, _, _, _, _, _, z⟩ := z
    exact z.elim
  | .ok (.ret u), z =>
    obtain ⟨v, H', os, bare, un, ok', rv, q⟩ := z
    have q : v = .bl true := q
    subst q
    obtain rfl : u = Value.bool true := rv
    refine ⟨rfl, OldK.of_keep fun b o e => ?_, os, bare⟩
    cases q : H b with
    | none => exact un.keep b o e q (fun z => by cases (show b ∈ ([] : List Addr) from z)) (fun z => by cases z)
    | some u =>
      obtain ⟨rfl, _, ob, ys, rfl⟩ := one b u q
      obtain ⟨e1, _⟩ := ok b _ q
      obtain ⟨e2, _⟩ := ok' b _ (un.frzs b ob _ q)
      rw [e] at e1
      cases e1
      exact e2
/-- the law's call at a script of ints -/
theorem call_law (X : K.In st.heap) (G : st.heap.Ns mainGlobals mg) (GB : st.heap.Ns builtinsNs mb) (GV : ∀ y : Str, y ≠ "__name__" → mb y = bootBuiltins y) (GL : st.heap.NoLimit) (GG : st.gens = #[])
    (at_ : st.heap.get? a = some { cls := .type "list", data := .seq vs.toArray }) (hint : IntsAre vs ns) (size : ns.length ≤ sizeLine)
    (F : ∀ base : Heap, K.In base → base.Ns mainGlobals mg → FnG P w K mg base k fa fd [x] sp) (room : Room k callerA) (bind : ∀ (s : Shared) (u : Value), BindsTo s fd ⟨[u], []⟩ [(x, u)])
    (h : ∀ H, NK K H → SqL K H a (ns.map V.int) → (∀ b u, H b = some u → b = a) → sp [.ref a] H (fun v _ => v = .bl true) fun _ _ _ => False) :
    codeAny (model P w) callerA (.call (.ref fa) ⟨[.ref a], []⟩) (fun r s' => r = .ok (.ret (.bool true)) ∧ OldK st.heap s'.heap ∧ s'.os = st.os ∧ AllBare s'.gens) st := by
  have rv := vals_ints hint
  have len := hint.length
  by_cases kl : ∃ o, K.lookup a = some o
  · obtain ⟨o, kl⟩ := kl
    obtain rfl : { cls := .type "list", data := .seq vs.toArray } = o := Option.some.inj (at_.symm.trans (X a o kl))
    refine run_law (H := fun _ => none) X G GB GV GL GG at_ (fun b u z => nomatch z) (fun b u z => nomatch z) F room bind (h _ (fun _ _ _ => rfl) ?_ fun b u z => nomatch z)
    exact .inr ⟨_, vs.toArray, _, kl, rfl, rfl, rfl, by simpa [len] using size, by simpa using rv⟩
  · have kn : K.lookup a = none := by
      cases q : K.lookup a with
      | none => rfl
      | some o => exact absurd ⟨o, q⟩ kl
    generalize hH : (fun b => if b = a then some (HO.frz { cls := .type "list", data := .seq vs.toArray } (.lst (ns.map V.int))) else none : Hp) = H
    have ha : H a = some (HO.frz { cls := .type "list", data := .seq vs.toArray } (.lst (ns.map V.int))) := by rw [← hH]; exact if_pos rfl
    have hb : ∀ b u, H b = some u → b = a := fun b u z => Classical.byContradiction fun n => by
      rw [← hH] at z
      have z : (if b = a then some (HO.frz { cls := .type "list", data := .seq vs.toArray } (.lst (ns.map V.int))) else none) = some u := z
      rw [if_neg n] at z
      cases z
    refine run_law (H := H) X G GB GV GL GG at_ (fun b u z => ?_) (fun b u z => ?_) F room bind (h _ (fun b o e => ?_) (.inl (.inr ⟨_, ha⟩)) hb)
    · obtain rfl := hb b u z
      rw [ha] at z
      cases z
      exact ⟨at_, by rw [List.length_map]; exact size, vs, _, rv, at_⟩
    · obtain rfl := hb b u z
      rw [ha] at z
      cases z
      exact ⟨rfl, kn, _, _, rfl⟩
    · cases q : H b with
      | none => rfl
      | some u =>
        obtain rfl := hb b u q
        rw [kn] at e
        cases e
end

/-! ### the head -/
def PD.obs (p : PD) (n : Nat) (g : Addr → Option Obj) : Bool × He.AlD := (p.see (He.frG g (He.asD g n)), He.obsD p.fa p.fn (He.frG g (He.asD g n)))
def PD.hook (p : PD) (n : Nat) : PySem.W.Hook where
  α := Bool × He.AlD
  obs := fun s => p.obs n s.heap.get?
  val := fun _ => (true, He.valD p.fn)
  says := fun _ h => ∃ K : PySem.W.Frag, K.In h ∧ He.SaysD p.fa p.fn K ∧ p.see K = true
  of := fun _ _ e => ⟨_, He.frG_in, congrArg (fun z : Bool × He.AlD => z.2) e, congrArg (fun z : Bool × He.AlD => z.1) e⟩
  keeps := fun _ _ _ ⟨K, h1, h2⟩ k => ⟨K, PySem.W.Frag.In.keeps h1 k, h2⟩
theorem PD.obs_eq {p : PD} {n : Nat} {g : Addr → Option Obj} {s : Shared} (h : ∀ a, g a = s.heap.get? a) : p.obs n g = (p.hook n).obs s := by
  have e : g = s.heap.get? := funext h
  rw [e]
  rfl
/-- what the law is to give -/
def PD.yes (p : PD) (n kl : Nat) (ns : List Int) : Prop := ∃ m, callE p.prg.P p.prg.gv p.prg.sb n kl [.scr (ns.map .int)] [] = .ok (.bl true) m
theorem walkG {l : OpenLaw} {most n : Nat} {q : Program} {loose : List Str} {XP : (Str → Option Value) → Heap → Prop} {d : DefRec} {p : PD} {dep kl : Nat} {dl : DD} {x : Str} (hn : l.most = some most) (hn2 : most ≤ sizeLine) (hdf : d.params.defaults = []) (hr : Room n callerA)
    (hp : p.ok = true) (hl : p.ds[kl]? = some dl) (hnm : dl.d.name = d.name) (hps : dl.ps = [x]) (yes : ∀ ns : List Int, ns.length ≤ most → p.yes n kl ns) :
    WalkO q loose XP (p.hook dep).says l.row.toRowW d [] (fun f vs => PySem.call f vs) := by
  refine Att.attach_call hn hdf fun w s₀ s₁ mg mb fa o pm cd doc a vs ns G Y ho hd hcd hmg hobj hints hlen hg => ?_
  obtain ⟨K, X, says, see⟩ := Y
  have Fc := facts_of X G.T.g says see
  have hdef : p.prg.T.defs[kl]? = some (dl.d.name, [x]) := by
    show (p.ds.map fun d => (d.d.name, d.ps))[kl]? = _
    rw [List.getElem?_map, hl, ← hps]
    rfl
  have hft : p.ft K kl = fa := by
    have h1 := (Fc.defs dl (List.mem_of_getElem? hl)).1
    rw [hnm, hmg] at h1
    have h2 : p.ft K kl = He.ga K d.name := by unfold PD.ft; rw [hl]; show He.ga K dl.d.name = _; rw [hnm]
    rw [h2]
    injection h1 with h1
    injection h1 with h1
    exact h1.symm
  -- one function object, at every base
  have hP : p.prg.P kl = some dl.fd := by show (p.ds[kl]?).map (·.fd) = _; rw [hl]; rfl
  have od := List.all_eq_true.mp hp dl (List.mem_of_getElem? hl)
  obtain ⟨fd, fD⟩ := fd_of od Fc (List.mem_of_getElem? hl)
  have hb : ∀ (s : Shared) (u : Value), BindsTo s fd ⟨[u], []⟩ [(x, u)] := fun s u => by
    have := (bd_of od fD).2 s [u] (by rw [hps]; rfl)
    rw [hps] at this
    exact this
  have hF : ∀ base : Heap, FnG l.prog w K mg base n fa fd [x] (spE (p.lay K) p.prg n kl) := fun base => by
    have := lvl (P := l.prog) (w := w) (base := base) hp Fc n kl dl fd hl fD
    rw [hft, hps] at this
    exact this
  refine call_law X G.T.g G.T.b G.T.builtins G.T.nolimit hg hobj hints (Nat.le_trans hlen hn2) (fun base _ _ => hF base) hr hb fun H nk sq only => ?_
  obtain ⟨m, hm⟩ := yes ns hlen
  refine ⟨fun _ => 0, [], [], [.scr (ns.map .int)], dl.fd, ⟨fun i j hi => (by cases hi), fun i o e => (by simp at e), fun b hb => (by cases hb)⟩, nk, ?_, hP, ?_, ?_⟩
  · refine .cons (.scr sq ⟨fun i hi => (by cases hi), fun z => (by cases z)⟩ ?_) .nil
    clear hints hlen sq hm
    induction ns with
    | nil => exact .nil
    | cons n ns ih => exact .cons (.int n) ih
  · unfold okDD at od
    simp only [Bool.and_eq_true, decide_eq_true_eq, List.isEmpty_iff] at od
    rw [od.1.2, hps]; rfl
  · rw [hm]
    intro r' H' v _ _ _ rep
    exact rep.bl_inv
end PI
/-! Q1: how the evaluator runs. -/
namespace PI
open PySem

theorem cutM_self (m : Mem) (vs : List AV) : cutM m.length m vs = m := by
  unfold cutM
  rw [List.take_length]
  split <;> rfl
/-- the memory names only itself -/
def Cl (m : Mem) : Prop := m.all (clsdO m.length) = true
theorem cutM_app {m x : Mem} {vs : List AV} (c : Cl m) (h : clsdL m.length vs = true) : cutM m.length (m ++ x) vs = m := by
  unfold cutM
  rw [List.take_left', h, c]
  · rfl
  · rfl
theorem finC_rt {m : Mem} {v : AV} : finC m.length (.rt v m) = .ok v m := by
  show Res.ok v (cutM m.length m [v]) = _
  rw [cutM_self]
theorem finC_rtx {m x : Mem} {v : AV} (c : Cl m) (h : clsd m.length v = true) : finC m.length (.rt v (m ++ x)) = .ok v m := by
  show Res.ok v (cutM m.length (m ++ x) [v]) = _
  rw [cutM_app c]
  simp [clsdL, h]
theorem finC_exc {m : Mem} {c : Nat} {e : Env'} : finC m.length (.exc c [] e m) = .exc c [] m := by
  show Res.exc c [] (cutM m.length m []) = _
  rw [cutM_self]
theorem callE_eq {P : Nat → Option FD} {gv : Nat → AV} {sb : Nat → Nat → Option Bool} {n k : Nat} {xs : List AV} {m : Mem} {d : FD} (h : P k = some d) (hl : xs.length = d.ps) : callE P gv sb (n + 1) k xs m = finC m.length (evSs (callE P gv sb n) gv sb d.body (xs.map some ++ List.replicate (d.n - d.ps) none) m) := by
  show (match P k with
    | some d => if xs.length = d.ps then finC m.length (evSs (callE P gv sb n) gv sb d.body (xs.map some ++ List.replicate (d.n - d.ps) none) m) else .bad
    | none => .bad) = _
  rw [h]
  show (if xs.length = d.ps then _ else _) = _
  rw [if_pos hl]

/-! ### comparisons -/
mutual
/-- no list that others may change, no function -/
def pur : AV → Bool
  | .ref _ => false
  | .fn _ => false
  | .tup xs => purs xs
  | .frl xs => purs xs
  | .scr xs => purs xs
  | _ => true
def purs : List AV → Bool
  | [] => true
  | x :: xs => pur x && purs xs
end
mutual
def dV : AV → PyData
  | .non => .none
  | .bl b => .bool b
  | .int i => .int i
  | .str cs => .str (toStr cs)
  | .tup xs => .tuple (dVs xs)
  | .frl xs => .list (dVs xs)
  | .scr xs => .list (dVs xs)
  | .ref _ => .none
  | .fn _ => .none
def dVs : List AV → List PyData
  | [] => []
  | x :: xs => dV x :: dVs xs
end
mutual
theorem pD_pur {rf : Nat → Option PyData} : ∀ {v : AV}, pur v = true → pD rf v = some (dV v)
  | .non, _ => rfl
  | .bl _, _ => rfl
  | .int _, _ => rfl
  | .str _, _ => rfl
  | .tup xs, h => by
    have h : purs xs = true := h
    simp [pD, dV, pDs_pur h]
  | .frl xs, h => by
    have h : purs xs = true := h
    simp [pD, dV, pDs_pur h]
  | .scr xs, h => by
    have h : purs xs = true := h
    simp [pD, dV, pDs_pur h]
  | .ref _, h => by cases h
  | .fn _, h => by cases h
theorem pDs_pur {rf : Nat → Option PyData} : ∀ {v : List AV}, purs v = true → pDs rf v = some (dVs v)
  | [], _ => rfl
  | x :: xs, h => by
    have h : (pur x && purs xs) = true := h
    rw [Bool.and_eq_true] at h
    simp [pDs, dVs, pD_pur h.1, pDs_pur h.2]
end
theorem toD_pur {m : Mem} {v : AV} (h : pur v = true) : toD m v = some (dV v) := pD_pur h
mutual
/-- numbers and tuples of such, so deep at most -/
def num : Nat → AV → Bool
  | _, .int _ => true
  | k + 1, .tup xs => nums k xs
  | _, _ => false
def nums : Nat → List AV → Bool
  | _, [] => true
  | k, x :: xs => num k x && nums k xs
end
mutual
theorem num_ok : ∀ {k : Nat} {v : AV}, num k v = true → pur v = true ∧ (dV v).canLay0 = true ∧ (dV v).depth ≤ k ∧ ∀ l, clsd l v = true
  | 0, .int i, _ => ⟨rfl, rfl, Nat.zero_le _, fun _ => rfl⟩
  | k + 1, .int i, _ => ⟨rfl, rfl, Nat.zero_le _, fun _ => rfl⟩
  | k + 1, .tup xs, h => by
    obtain ⟨h1, h2, h3, h4⟩ := nums_ok (k := k) (v := xs) h
    exact ⟨h1, h2, Nat.succ_le_succ h3, h4⟩
  | 0, .tup _, h => by cases h
  | 0, .non, h => by cases h
  | 0, .bl _, h => by cases h
  | 0, .str _, h => by cases h
  | 0, .frl _, h => by cases h
  | 0, .scr _, h => by cases h
  | 0, .ref _, h => by cases h
  | 0, .fn _, h => by cases h
  | k + 1, .non, h => by cases h
  | k + 1, .bl _, h => by cases h
  | k + 1, .str _, h => by cases h
  | k + 1, .frl _, h => by cases h
  | k + 1, .scr _, h => by cases h
  | k + 1, .ref _, h => by cases h
  | k + 1, .fn _, h => by cases h
theorem nums_ok : ∀ {k : Nat} {v : List AV}, nums k v = true → purs v = true ∧ PyData.canLayAll0 (dVs v) = true ∧ PyData.depthAll (dVs v) ≤ k ∧ ∀ l, clsdL l v = true
  | k, [], _ => ⟨rfl, rfl, Nat.zero_le _, fun _ => rfl⟩
  | k, x :: xs, h => by
    have h : (num k x && nums k xs) = true := by cases k <;> exact h
    rw [Bool.and_eq_true] at h
    obtain ⟨a1, a2, a3, a4⟩ := num_ok h.1
    obtain ⟨b1, b2, b3, b4⟩ := nums_ok h.2
    refine ⟨?_, ?_, ?_, fun l => ?_⟩
    · show (pur x && purs xs) = true; rw [a1, b1]; rfl
    · show ((dV x).canLay0 && PyData.canLayAll0 (dVs xs)) = true; rw [a2, b2]; rfl
    · show max (dV x).depth (PyData.depthAll (dVs xs)) ≤ k; omega
    · show (clsd l x && clsdL l xs) = true; rw [a4, b4]; rfl
end
mutual
theorem eqv_num : ∀ {k j : Nat} {v w : AV}, num k v = true → num j w = true → (PyData.eqv (dV v) (dV w) = true ↔ v = w)
  | k, j, .int a, .int b, _, _ => by
    show (a == b) = true ↔ _
    simp
  | k, j + 1, .int a, .tup ys, _, _ => by
    show false = true ↔ _
    simp
  | k + 1, j, .tup xs, .int b, _, _ => by
    show false = true ↔ _
    simp
  | k + 1, j + 1, .tup xs, .tup ys, h, g => by
    show PyData.eqvAll (dVs xs) (dVs ys) = true ↔ _
    rw [eqvs_num (k := k) (j := j) h g]
    simp
  | 0, j, .tup xs, w, h, _ => by cases h
  | k, 0, v, .tup ys, _, g => by cases g
  | k, j, .non, w, h, _ => by cases k <;> cases h
  | k, j, .bl _, w, h, _ => by cases k <;> cases h
  | k, j, .str _, w, h, _ => by cases k <;> cases h
  | k, j, .frl _, w, h, _ => by cases k <;> cases h
  | k, j, .scr _, w, h, _ => by cases k <;> cases h
  | k, j, .ref _, w, h, _ => by cases k <;> cases h
  | k, j, .fn _, w, h, _ => by cases k <;> cases h
  | k, j, v, .non, _, h => by cases j <;> cases h
  | k, j, v, .bl _, _, h => by cases j <;> cases h
  | k, j, v, .str _, _, h => by cases j <;> cases h
  | k, j, v, .frl _, _, h => by cases j <;> cases h
  | k, j, v, .scr _, _, h => by cases j <;> cases h
  | k, j, v, .ref _, _, h => by cases j <;> cases h
  | k, j, v, .fn _, _, h => by cases j <;> cases h
theorem eqvs_num : ∀ {k j : Nat} {v w : List AV}, nums k v = true → nums j w = true → (PyData.eqvAll (dVs v) (dVs w) = true ↔ v = w)
  | k, j, [], [], _, _ => by simp [dVs, PyData.eqvAll]
  | k, j, [], y :: ys, _, _ => by simp [dVs, PyData.eqvAll]
  | k, j, x :: xs, [], _, _ => by simp [dVs, PyData.eqvAll]
  | k, j, x :: xs, y :: ys, h, g => by
    have h : (num k x && nums k xs) = true := by cases k <;> exact h
    have g : (num j y && nums j ys) = true := by cases j <;> exact g
    rw [Bool.and_eq_true] at h g
    show (PyData.eqv (dV x) (dV y) && PyData.eqvAll (dVs xs) (dVs ys)) = true ↔ _
    rw [Bool.and_eq_true, eqv_num h.1 g.1, eqvs_num h.2 g.2]
    simp
end
theorem shaped_num {k : Nat} {v : AV} (h : num k v = true) (hk : k ≤ 64) : SeqAt.shaped (dV v) = true := by
  obtain ⟨_, h2, h3, _⟩ := num_ok h
  unfold SeqAt.shaped
  rw [h2, Bool.true_and, decide_eq_true_eq]
  omega
open Classical in
theorem eqE_num {m : Mem} {k j : Nat} {v w : AV} (h : num k v = true) (g : num j w = true) (hk : k ≤ 64) (hj : j ≤ 64) : eqE m v w = some (decide (v = w)) := by
  unfold eqE
  rw [toD_pur (num_ok h).1, toD_pur (num_ok g).1]
  show (if (SeqAt.shaped (dV v) && SeqAt.shaped (dV w)) = true then some (PyData.eqv (dV v) (dV w)) else none) = _
  rw [shaped_num h hk, shaped_num g hj]
  show some (PyData.eqv (dV v) (dV w)) = _
  congr 1
  rw [Bool.eq_iff_iff, eqv_num h g, decide_eq_true_eq]
theorem eqE_int {m : Mem} {i j : Int} : eqE m (.int i) (.int j) = some (decide (i = j)) := by
  classical
  rw [eqE_num (k := 0) (j := 0) rfl rfl (by decide) (by decide)]
  congr 1
  simp

/-! ### loops -/
theorem whLoop_succ {c : Env' → Mem → Res AV} {b : Env' → Mem → SRes} {n : Nat} {env : Env'} {m : Mem} : whLoop c b (n + 1) env m = (c env m).thenS env fun x m => match x with
    | .bl true => (b env m).turn (whLoop c b n)
    | .bl false => .nx env m
    | _ => .bad := rfl
theorem wh_end {c : Env' → Mem → Res AV} {b : Env' → Mem → SRes} {n : Nat} {env : Env'} {m : Mem} (h : c env m = .ok (.bl false) m) : whLoop c b (n + 1) env m = .nx env m := by rw [whLoop_succ, h]; rfl
theorem wh_step {c : Env' → Mem → Res AV} {b : Env' → Mem → SRes} {n : Nat} {env e2 : Env'} {m m2 : Mem} (h : c env m = .ok (.bl true) m) (h2 : b env m = .nx e2 m2) : whLoop c b (n + 1) env m = whLoop c b n e2 m2 := by
  rw [whLoop_succ, h]
  show (b env m).turn _ = _
  rw [h2]; rfl
theorem for_nil {tg : Tg} {b : Env' → Mem → SRes} {env : Env'} {m : Mem} : forLoop tg b [] env m = .nx env m := rfl
theorem for_cons {tg : Tg} {b : Env' → Mem → SRes} {x : AV} {xs : List AV} {env e2 e3 : Env'} {m m3 : Mem} (h : setTg env tg x = some e2) (h2 : b e2 m = .nx e3 m3) : forLoop tg b (x :: xs) env m = forLoop tg b xs e3 m3 := by
  rw [forLoop_cons, h]
  show (b e2 m).turn _ = _
  rw [h2]; rfl
/-- a comprehension whose turns keep the memory -/
theorem lc_map {step : AV → Mem → Res (Option AV)} {m : Mem} {f : AV → AV} : ∀ {xs acc : List AV}, (∀ x ∈ xs, step x m = .ok (some (f x)) m) → acc.length + xs.length ≤ sizeLine → lcLoop step xs acc m = .ok (acc ++ xs.map f) m
  | [], acc, _, _ => by simp [lcLoop]
  | x :: xs, acc, h, hl => by
    simp only [List.length_cons] at hl
    unfold lcLoop
    rw [h x (by simp)]
    show (if decide (acc.length < sizeLine) = true then lcLoop step xs (acc ++ [f x]) m else .bad) = _
    rw [if_pos (by rw [decide_eq_true_eq]; omega), lc_map (fun y hy => h y (by simp [hy])) (by simp; omega)]
    simp
theorem lc_filter {step : AV → Mem → Res (Option AV)} {m : Mem} {f : AV → Option AV} : ∀ {xs acc : List AV}, (∀ x ∈ xs, step x m = .ok (f x) m) → acc.length + xs.length ≤ sizeLine → lcLoop step xs acc m = .ok (acc ++ xs.filterMap f) m
  | [], acc, _, _ => by simp [lcLoop]
  | x :: xs, acc, h, hl => by
    simp only [List.length_cons] at hl
    unfold lcLoop
    rw [h x (by simp), List.filterMap_cons]
    cases q : f x with
    | none => exact lc_filter (fun y hy => h y (by simp [hy])) (by omega)
    | some z =>
      show (if decide (acc.length < sizeLine) = true then lcLoop step xs (acc ++ [z]) m else .bad) = _
      rw [if_pos (by rw [decide_eq_true_eq]; omega), lc_filter (fun y hy => h y (by simp [hy])) (by simp; omega)]
      simp
/-! ### a comprehension, a loop over values, whole -/
section
variable {F : Nat → List AV → Mem → Res AV} {gv : Nat → AV} {sb : Nat → Nat → Option Bool}
theorem evE_lc {elt : Ex} {own : List Nat} {tg : Tg} {it : Nat} {src : List Ex} {cond : Option Ex} {env : Env'} {m : Mem} : evE F gv (.lc elt own tg it src cond) env m = (evEs F gv src env m).bind fun ss m => match itE m it ss with
    | some xs => (lcLoop (fun x m => match setTg (wipeE env own) tg x with
        | some e2 => match evC F gv cond e2 m with
          | .ok true m => (evE F gv elt e2 m).bind fun y m => .ok (some y) m
          | .ok false m => .ok none m
          | _ => .bad
        | none => .bad) xs [] m).bind fun ys m => .ok (.frl ys) m
    | none => .bad := rfl
theorem lc_pure {elt : Ex} {own : List Nat} {tg : Tg} {it : Nat} {src : List Ex} {env : Env'} {m : Mem} {ss xs : List AV} (f : AV → AV) (h1 : evEs F gv src env m = .ok ss m) (h2 : itE m it ss = some xs)
    (h : ∀ x ∈ xs, ∃ e2, setTg (wipeE env own) tg x = some e2 ∧ evE F gv elt e2 m = .ok (f x) m) (hl : xs.length ≤ sizeLine) : evE F gv (.lc elt own tg it src none) env m = .ok (.frl (xs.map f)) m := by
  rw [evE_lc, h1]
  show (match itE m it ss with
    | some xs => _
    | none => _) = _
  rw [h2]
  show (lcLoop _ xs [] m).bind _ = _
  rw [lc_map (f := f) (fun x hx => ?_) (by simpa using hl)]
  · simp [Res.bind]
  · obtain ⟨e2, g1, g2⟩ := h x hx
    rw [g1]
    show (evE F gv elt e2 m).bind _ = _
    rw [g2]
    rfl
/-- .. with a condition -/
theorem lc_cond {elt c : Ex} {own : List Nat} {tg : Tg} {it : Nat} {src : List Ex} {env : Env'} {m : Mem} {ss xs : List AV} (f : AV → Option AV) (h1 : evEs F gv src env m = .ok ss m) (h2 : itE m it ss = some xs)
    (h : ∀ x ∈ xs, ∃ e2, setTg (wipeE env own) tg x = some e2 ∧ ((evE F gv c e2 m = .ok (.bl true) m ∧ ∃ y, f x = some y ∧ evE F gv elt e2 m = .ok y m) ∨ (evE F gv c e2 m = .ok (.bl false) m ∧ f x = none))) (hl : xs.length ≤ sizeLine) : evE F gv (.lc elt own tg it src (some c)) env m = .ok (.frl (xs.filterMap f)) m := by
  rw [evE_lc, h1]
  show (match itE m it ss with
    | some xs => _
    | none => _) = _
  rw [h2]
  show (lcLoop _ xs [] m).bind _ = _
  rw [lc_filter (f := f) (fun x hx => ?_) (by simpa using hl)]
  · simp [Res.bind]
  · obtain ⟨e2, g1, g2⟩ := h x hx
    rw [g1]
    have ec : evC F gv (some c) e2 m = (evE F gv c e2 m).bind fun x m => match x with
      | .bl b => .ok b m
      | _ => .bad := rfl
    rcases g2 with ⟨g2, y, g3, g4⟩ | ⟨g2, g3⟩
    · show (match evC F gv (some c) e2 m with
        | .ok true m => (evE F gv elt e2 m).bind fun y m => .ok (some y) m
        | .ok false m => .ok none m
        | _ => .bad) = _
      rw [ec, g2, g3]
      show (evE F gv elt e2 m).bind _ = _
      rw [g4]
      rfl
    · show (match evC F gv (some c) e2 m with
        | .ok true m => (evE F gv elt e2 m).bind fun y m => .ok (some y) m
        | .ok false m => .ok none m
        | _ => .bad) = _
      rw [ec, g2, g3]
      rfl
theorem for_ok {tg : Tg} {it : Nat} {src : List Ex} {b : List Sm} {env : Env'} {m : Mem} {ss xs : List AV} (h1 : evEs F gv src env m = .ok ss m) (h2 : itE m it ss = some xs) : evS F gv sb (.for_ tg it src b) env m = forLoop tg (fun env m => evSs F gv sb b env m) xs env m := by
  have e : evS F gv sb (.for_ tg it src b) env m = (evEs F gv src env m).thenS env fun ss m => match itE m it ss with
    | some xs => forLoop tg (fun env m => evSs F gv sb b env m) xs env m
    | none => .bad := rfl
  rw [e, h1]
  show (match itE m it ss with
    | some xs => _
    | none => _) = _
  rw [h2]
theorem evS_ret {a : Ex} {env : Env'} {m : Mem} : evS F gv sb (.ret a) env m = (evE F gv a env m).thenS env fun x m => .rt x m := rfl
theorem evE_call1 {k : Nat} {a : Ex} {env : Env'} {m : Mem} : evE F gv (.call k [a]) env m = (evE F gv a env m).bind fun x m => F k [x] m := by
  have : evE F gv (.call k [a]) env m = ((evE F gv a env m).bind fun x m => (Res.ok [] m).bind fun xs m => Res.ok (x :: xs) m).bind fun xs m => F k xs m := rfl
  rw [this]
  cases evE F gv a env m <;> rfl
theorem evE_bi1 {a : Ex} {b : Bi} {env : Env'} {m : Mem} : evE F gv (.bi b [a]) env m = (evE F gv a env m).bind fun x m => optR m (biE m b [x]) := by
  have : evE F gv (.bi b [a]) env m = ((evE F gv a env m).bind fun x m => (Res.ok [] m).bind fun xs m => Res.ok (x :: xs) m).bind fun xs m => optR m (biE m b xs) := rfl
  rw [this]
  cases evE F gv a env m <;> rfl
theorem evS_set {i : Nat} {a : Ex} {env : Env'} {m : Mem} : evS F gv sb (.set i a) env m = (evE F gv a env m).thenS env fun x m => .nx (env.set i (some x)) m := rfl
theorem evE_bi2 {a a' : Ex} {b : Bi} {env : Env'} {m : Mem} : evE F gv (.bi b [a, a']) env m = (evE F gv a env m).bind fun x m => (evE F gv a' env m).bind fun y m => optR m (biE m b [x, y]) := by
  have : evE F gv (.bi b [a, a']) env m = ((evE F gv a env m).bind fun x m => ((evE F gv a' env m).bind fun x m => (Res.ok [] m).bind fun xs m => Res.ok (x :: xs) m).bind fun xs m => Res.ok (x :: xs) m).bind fun xs m => optR m (biE m b xs) := rfl
  rw [this]
  cases evE F gv a env m with
  | ok x m =>
    show (((evE F gv a' env m).bind fun x m => (Res.ok [] m).bind fun xs m => Res.ok (x :: xs) m).bind fun xs m => Res.ok (x :: xs) m).bind _ = (evE F gv a' env m).bind _
    cases evE F gv a' env m <;> rfl
  | _ => rfl
theorem evE_call2 {k : Nat} {a a' : Ex} {env : Env'} {m : Mem} : evE F gv (.call k [a, a']) env m = (evE F gv a env m).bind fun x m => (evE F gv a' env m).bind fun y m => F k [x, y] m := by
  have : evE F gv (.call k [a, a']) env m = ((evE F gv a env m).bind fun x m => ((evE F gv a' env m).bind fun x m => (Res.ok [] m).bind fun xs m => Res.ok (x :: xs) m).bind fun xs m => Res.ok (x :: xs) m).bind fun xs m => F k xs m := rfl
  rw [this]
  cases evE F gv a env m with
  | ok x m =>
    show (((evE F gv a' env m).bind fun x m => (Res.ok [] m).bind fun xs m => Res.ok (x :: xs) m).bind fun xs m => Res.ok (x :: xs) m).bind _ = (evE F gv a' env m).bind _
    cases evE F gv a' env m <;> rfl
  | _ => rfl
theorem evSs_cons {s : Sm} {ss : List Sm} {env : Env'} {m : Mem} : evSs F gv sb (s :: ss) env m = (evS F gv sb s env m).seq (evSs F gv sb ss) := rfl
theorem evSs_nil {env : Env'} {m : Mem} : evSs F gv sb [] env m = .nx env m := rfl
theorem seq_nx {env : Env'} {m : Mem} {f : Env' → Mem → SRes} : (SRes.nx env m).seq f = f env m := rfl
theorem seq_rt {v : AV} {m : Mem} {f : Env' → Mem → SRes} : (SRes.rt v m).seq f = .rt v m := rfl
theorem seq_exc {c : Nat} {d : List (Str × AV)} {env : Env'} {m : Mem} {f : Env' → Mem → SRes} : (SRes.exc c d env m).seq f = .exc c d env m := rfl
theorem bind_ok {α β : Type} {a : α} {m : Mem} {f : α → Mem → Res β} : (Res.ok a m).bind f = f a m := rfl
theorem then_ok {α : Type} {a : α} {m : Mem} {env : Env'} {f : α → Mem → SRes} : (Res.ok a m).thenS env f = f a m := rfl
theorem evE_v {i : Nat} {env : Env'} {m : Mem} {x : AV} (h : env[i]? = some (some x)) : evE F gv (.v i) env m = .ok x m := by
  show (match env[i]? with
    | some (some x) => Res.ok x m
    | _ => .bad) = _
  rw [h]
/-! ### rules, from the parts to the whole -/
variable {env e1 e2 : Env'} {m m1 m2 m3 : Mem} {a b c : Ex} {x y z : AV} {es : List Ex} {xs : List AV}
theorem rNil : evEs F gv [] env m = .ok [] m := rfl
theorem rCons (h : evE F gv a env m = .ok x m1) (h2 : evEs F gv es env m1 = .ok xs m2) : evEs F gv (a :: es) env m = .ok (x :: xs) m2 := by
  have : evEs F gv (a :: es) env m = (evE F gv a env m).bind fun x m => (evEs F gv es env m).bind fun xs m => .ok (x :: xs) m := rfl
  rw [this, h, bind_ok, h2, bind_ok]
theorem rBi {o : Bi} (h : evEs F gv es env m = .ok xs m1) (h2 : biE m1 o xs = some z) : evE F gv (.bi o es) env m = .ok z m1 := by
  have : evE F gv (.bi o es) env m = (evEs F gv es env m).bind fun xs m => optR m (biE m o xs) := rfl
  rw [this, h, bind_ok, h2]; rfl
theorem rCall {k : Nat} (h : evEs F gv es env m = .ok xs m1) (h2 : F k xs m1 = .ok z m2) : evE F gv (.call k es) env m = .ok z m2 := by
  have : evE F gv (.call k es) env m = (evEs F gv es env m).bind fun xs m => F k xs m := rfl
  rw [this, h, bind_ok, h2]
theorem rCallX {k c : Nat} {d : List (Str × AV)} (h : evEs F gv es env m = .ok xs m1) (h2 : F k xs m1 = .exc c d m2) : evE F gv (.call k es) env m = .exc c d m2 := by
  have : evE F gv (.call k es) env m = (evEs F gv es env m).bind fun xs m => F k xs m := rfl
  rw [this, h, bind_ok, h2]
theorem rTup (h : evEs F gv es env m = .ok xs m1) (h2 : okLen xs.length = true) : evE F gv (.tup es) env m = .ok (.tup xs) m1 := by
  have : evE F gv (.tup es) env m = (evEs F gv es env m).bind fun xs m => if okLen xs.length then .ok (.tup xs) m else .bad := rfl
  rw [this, h, bind_ok, if_pos h2]
theorem rLst (h : evEs F gv es env m = .ok xs m1) (h2 : okLen xs.length = true) : evE F gv (.lst es) env m = .ok (.frl xs) m1 := by
  have : evE F gv (.lst es) env m = (evEs F gv es env m).bind fun xs m => if okLen xs.length then .ok (.frl xs) m else .bad := rfl
  rw [this, h, bind_ok, if_pos h2]
theorem rMk (hf : fresh a = true) (h : evE F gv a env m = .ok (.frl xs) m1) : evE F gv (.mk a) env m = .ok (.ref m1.length) (m1 ++ [.lst xs]) := by
  have : evE F gv (.mk a) env m = if fresh a then (evE F gv a env m).bind fun x m => match x with
      | .frl xs => .ok (.ref m.length) (m ++ [.lst xs])
      | _ => .bad
    else .bad := rfl
  rw [this, if_pos hf, h]; rfl
theorem rBin {o : Bop} (h : evE F gv a env m = .ok x m1) (h2 : evE F gv b env m1 = .ok y m2) (h3 : binE m2 o x y = some z) : evE F gv (.bin o a b) env m = .ok z m2 := by
  have : evE F gv (.bin o a b) env m = (evE F gv a env m).bind fun x m => (evE F gv b env m).bind fun y m => optR m (binE m o x y) := rfl
  rw [this, h, bind_ok, h2, bind_ok, h3]; rfl
theorem rCmp {o : Cop} {t : Bool} (h : evE F gv a env m = .ok x m1) (h2 : evE F gv b env m1 = .ok y m2) (h3 : cmpE m2 o x y = some t) : evE F gv (.cmp o a b) env m = .ok (.bl t) m2 := by
  have : evE F gv (.cmp o a b) env m = (evE F gv a env m).bind fun x m => (evE F gv b env m).bind fun y m => optR m ((cmpE m o x y).map .bl) := rfl
  rw [this, h, bind_ok, h2, bind_ok, h3]; rfl
theorem rNeg {i : Int} (h : evE F gv a env m = .ok (.int i) m1) : evE F gv (.neg a) env m = .ok (.int (-i)) m1 := by
  have : evE F gv (.neg a) env m = (evE F gv a env m).bind fun x m => match x with
    | .int i => .ok (.int (-i)) m
    | _ => .bad := rfl
  rw [this, h]; rfl
theorem rNot {t : Bool} (h : evE F gv a env m = .ok (.bl t) m1) : evE F gv (.not a) env m = .ok (.bl (!t)) m1 := by
  have : evE F gv (.not a) env m = (evE F gv a env m).bind fun x m => match x with
    | .bl b => .ok (.bl (!b)) m
    | _ => .bad := rfl
  rw [this, h]; rfl
theorem rSub {i : Int} (h : evE F gv a env m = .ok x m1) (h2 : evE F gv b env m1 = .ok (.int i) m2) (h3 : subE m2 x i = some z) : evE F gv (.sub a b) env m = .ok z m2 := by
  have : evE F gv (.sub a b) env m = (evE F gv a env m).bind fun x m => (evE F gv b env m).bind fun y m => match y with
    | .int i => optR m (subE m x i)
    | _ => .bad := rfl
  rw [this, h, bind_ok, h2, bind_ok]
  show optR m2 (subE m2 x i) = _
  rw [h3]; rfl
theorem rOn : evO F gv none env m = .ok none m := rfl
theorem rOs {i : Int} (h : evE F gv a env m = .ok (.int i) m1) : evO F gv (some a) env m = .ok (some i) m1 := by
  have : evO F gv (some a) env m = (evE F gv a env m).bind fun x m => match x with
    | .int i => .ok (some i) m
    | _ => .bad := rfl
  rw [this, h]; rfl
theorem rSlc {lo hi : Option Ex} {l u : Option Int} (h : evE F gv a env m = .ok x m1) (h2 : evO F gv lo env m1 = .ok l m2) (h3 : evO F gv hi env m2 = .ok u m3) (h4 : slcE m3 x l u = some z) : evE F gv (.slc a lo hi) env m = .ok z m3 := by
  have : evE F gv (.slc a lo hi) env m = (evE F gv a env m).bind fun x m => (evO F gv lo env m).bind fun l m => (evO F gv hi env m).bind fun h m => optR m (slcE m x l h) := rfl
  rw [this, h, bind_ok, h2, bind_ok, h3, bind_ok, h4]; rfl
theorem rRev (h : evE F gv a env m = .ok x m1) (h2 : revE m1 x = some z) : evE F gv (.rev a) env m = .ok z m1 := by
  have : evE F gv (.rev a) env m = (evE F gv a env m).bind fun x m => optR m (revE m x) := rfl
  rw [this, h, bind_ok, h2]; rfl
theorem rIteT (h : evE F gv a env m = .ok (.bl true) m1) (h2 : evE F gv b env m1 = .ok z m2) : evE F gv (.ite a b c) env m = .ok z m2 := by
  have : evE F gv (.ite a b c) env m = (evE F gv a env m).bind fun x m => match x with
    | .bl true => evE F gv b env m
    | .bl false => evE F gv c env m
    | _ => .bad := rfl
  rw [this, h, bind_ok]; exact h2
theorem rIteF (h : evE F gv a env m = .ok (.bl false) m1) (h2 : evE F gv c env m1 = .ok z m2) : evE F gv (.ite a b c) env m = .ok z m2 := by
  have : evE F gv (.ite a b c) env m = (evE F gv a env m).bind fun x m => match x with
    | .bl true => evE F gv b env m
    | .bl false => evE F gv c env m
    | _ => .bad := rfl
  rw [this, h, bind_ok]; exact h2
theorem rChnT {o o' : Cop} {t : Bool} (h : evE F gv a env m = .ok x m1) (h2 : evE F gv b env m1 = .ok y m2) (h3 : cmpE m2 o x y = some true) (h4 : evE F gv c env m2 = .ok z m3) (h5 : cmpE m3 o' y z = some t) : evE F gv (.chn o o' a b c) env m = .ok (.bl t) m3 := by
  have : evE F gv (.chn o o' a b c) env m = (evE F gv a env m).bind fun x m => (evE F gv b env m).bind fun y m => match cmpE m o x y with
    | some true => (evE F gv c env m).bind fun z m => optR m ((cmpE m o' y z).map .bl)
    | some false => .ok (.bl false) m
    | none => .bad := rfl
  rw [this, h, bind_ok, h2, bind_ok, h3]
  show (evE F gv c env m2).bind _ = _
  rw [h4, bind_ok, h5]; rfl
theorem rChnF {o o' : Cop} (h : evE F gv a env m = .ok x m1) (h2 : evE F gv b env m1 = .ok y m2) (h3 : cmpE m2 o x y = some false) : evE F gv (.chn o o' a b c) env m = .ok (.bl false) m2 := by
  have : evE F gv (.chn o o' a b c) env m = (evE F gv a env m).bind fun x m => (evE F gv b env m).bind fun y m => match cmpE m o x y with
    | some true => (evE F gv c env m).bind fun z m => optR m ((cmpE m o' y z).map .bl)
    | some false => .ok (.bl false) m
    | none => .bad := rfl
  rw [this, h, bind_ok, h2, bind_ok, h3]
theorem rAnd1 (h : evE F gv a env m = .ok x m1) : evE F gv (.and [a]) env m = .ok x m1 := h
theorem rAndT (h : evE F gv a env m = .ok (.bl true) m1) (h2 : evE F gv (.and (b :: es)) env m1 = .ok z m2) : evE F gv (.and (a :: b :: es)) env m = .ok z m2 := by
  have : evE F gv (.and (a :: b :: es)) env m = (evE F gv a env m).bind fun x m => match x with
    | .bl true => evAnd F gv (b :: es) env m
    | .bl false => .ok (.bl false) m
    | _ => .bad := rfl
  rw [this, h, bind_ok]; exact h2
theorem rAndF (h : evE F gv a env m = .ok (.bl false) m1) : evE F gv (.and (a :: b :: es)) env m = .ok (.bl false) m1 := by
  have : evE F gv (.and (a :: b :: es)) env m = (evE F gv a env m).bind fun x m => match x with
    | .bl true => evAnd F gv (b :: es) env m
    | .bl false => .ok (.bl false) m
    | _ => .bad := rfl
  rw [this, h, bind_ok]
theorem rOr1 (h : evE F gv a env m = .ok x m1) : evE F gv (.or [a]) env m = .ok x m1 := h
theorem rOrF (h : evE F gv a env m = .ok (.bl false) m1) (h2 : evE F gv (.or (b :: es)) env m1 = .ok z m2) : evE F gv (.or (a :: b :: es)) env m = .ok z m2 := by
  have : evE F gv (.or (a :: b :: es)) env m = (evE F gv a env m).bind fun x m => match x with
    | .bl true => .ok (.bl true) m
    | .bl false => evOr F gv (b :: es) env m
    | _ => .bad := rfl
  rw [this, h, bind_ok]; exact h2
theorem rOrT (h : evE F gv a env m = .ok (.bl true) m1) : evE F gv (.or (a :: b :: es)) env m = .ok (.bl true) m1 := by
  have : evE F gv (.or (a :: b :: es)) env m = (evE F gv a env m).bind fun x m => match x with
    | .bl true => .ok (.bl true) m
    | .bl false => evOr F gv (b :: es) env m
    | _ => .bad := rfl
  rw [this, h, bind_ok]
theorem rMeth {f : Me} {i : Nat} (h : evE F gv a env m = .ok (.ref i) m1) (h2 : evEs F gv es env m1 = .ok xs m2) (h3 : methE m2 f (.ref i) xs = some (z, m3)) : evE F gv (.meth f a es) env m = .ok z m3 := by
  have : evE F gv (.meth f a es) env m = (evE F gv a env m).bind fun x m => match x with
    | .ref i => (evEs F gv es env m).bind fun xs m => match methE m f (.ref i) xs with
      | some (y, m) => .ok y m
      | none => .bad
    | _ => .bad := rfl
  rw [this, h, bind_ok]
  show (evEs F gv es env m1).bind _ = _
  rw [h2, bind_ok]
  show (match methE m2 f (.ref i) xs with
      | some (y, m) => Res.ok y m
      | none => .bad) = _
  rw [h3]
/-! statements -/
variable {ss : List Sm} {s : Sm}
theorem sSet {i : Nat} (h : evE F gv a env m = .ok x m1) : evS F gv sb (.set i a) env m = .nx (env.set i (some x)) m1 := by rw [evS_set, h, then_ok]
theorem sSetT {ts : List Nat} (h : evE F gv a env m = .ok x m1) (h2 : setTg env (.tu ts) x = some e2) : evS F gv sb (.setT ts a) env m = .nx e2 m1 := by
  have : evS F gv sb (.setT ts a) env m = (evE F gv a env m).thenS env fun x m => match setTg env (.tu ts) x with
    | some e2 => .nx e2 m
    | none => .bad := rfl
  rw [this, h, then_ok, h2]
theorem sPar {i j : Nat} (h : evE F gv a env m = .ok x m1) (h2 : evE F gv b env m1 = .ok y m2) : evS F gv sb (.par i j a b) env m = .nx ((env.set i (some x)).set j (some y)) m2 := by
  have : evS F gv sb (.par i j a b) env m = (evE F gv a env m).thenS env fun x m => (evE F gv b env m).thenS env fun y m => .nx ((env.set i (some x)).set j (some y)) m := rfl
  rw [this, h, then_ok, h2, then_ok]
theorem sPar3 {i j k : Nat} (h : evE F gv a env m = .ok x m1) (h2 : evE F gv b env m1 = .ok y m2) (h3 : evE F gv c env m2 = .ok z m3) : evS F gv sb (.par3 i j k a b c) env m = .nx (((env.set i (some x)).set j (some y)).set k (some z)) m3 := by
  have : evS F gv sb (.par3 i j k a b c) env m = (evE F gv a env m).thenS env fun x m => (evE F gv b env m).thenS env fun y m => (evE F gv c env m).thenS env fun z m => .nx (((env.set i (some x)).set j (some y)).set k (some z)) m := rfl
  rw [this, h, then_ok, h2, then_ok, h3, then_ok]
theorem sSubs {m4 : Mem} (h : evE F gv c env m = .ok x m1) (h2 : evE F gv a env m1 = .ok y m2) (h3 : evE F gv b env m2 = .ok z m3) (h4 : setItE m3 y z x = some m4) : evS F gv sb (.subs a b c) env m = .nx env m4 := by
  have : evS F gv sb (.subs a b c) env m = (evE F gv c env m).thenS env fun x m => (evE F gv a env m).thenS env fun p m => (evE F gv b env m).thenS env fun k m => match setItE m p k x with
    | some m => .nx env m
    | none => .bad := rfl
  rw [this, h, then_ok, h2, then_ok, h3, then_ok, h4]
theorem sAug {i : Nat} {o : Bop} (h0 : env[i]? = some (some x)) (h : evE F gv a env m = .ok y m1) (h2 : augE o x y = some z) : evS F gv sb (.aug i o a) env m = .nx (env.set i (some z)) m1 := by
  have : evS F gv sb (.aug i o a) env m = match env[i]? with
    | some (some x) => (evE F gv a env m).thenS env fun y m => match augE o x y with
      | some z => .nx (env.set i (some z)) m
      | none => .bad
    | _ => .bad := rfl
  rw [this, h0]
  show (evE F gv a env m).thenS _ _ = _
  rw [h, then_ok, h2]
theorem sEx (h : evE F gv a env m = .ok x m1) : evS F gv sb (.ex a) env m = .nx env m1 := by
  have : evS F gv sb (.ex a) env m = (evE F gv a env m).thenS env fun _ m => .nx env m := rfl
  rw [this, h, then_ok]
theorem sExX {k : Nat} {d : List (Str × AV)} (h : evE F gv a env m = .exc k d m1) : evS F gv sb (.ex a) env m = .exc k d env m1 := by
  have : evS F gv sb (.ex a) env m = (evE F gv a env m).thenS env fun _ m => .nx env m := rfl
  rw [this, h]; rfl
theorem sIteT {ts fs : List Sm} (h : evE F gv a env m = .ok (.bl true) m1) : evS F gv sb (.ite a ts fs) env m = evSs F gv sb ts env m1 := by
  have : evS F gv sb (.ite a ts fs) env m = (evE F gv a env m).thenS env fun x m => match x with
    | .bl true => evSs F gv sb ts env m
    | .bl false => evSs F gv sb fs env m
    | _ => .bad := rfl
  rw [this, h, then_ok]
theorem sIteF {ts fs : List Sm} (h : evE F gv a env m = .ok (.bl false) m1) : evS F gv sb (.ite a ts fs) env m = evSs F gv sb fs env m1 := by
  have : evS F gv sb (.ite a ts fs) env m = (evE F gv a env m).thenS env fun x m => match x with
    | .bl true => evSs F gv sb ts env m
    | .bl false => evSs F gv sb fs env m
    | _ => .bad := rfl
  rw [this, h, then_ok]
theorem sRet (h : evE F gv a env m = .ok x m1) : evS F gv sb (.ret a) env m = .rt x m1 := by rw [evS_ret, h, then_ok]
theorem bNx {r : SRes} (h : evS F gv sb s env m = .nx e1 m1) (h2 : evSs F gv sb ss e1 m1 = r) : evSs F gv sb (s :: ss) env m = r := by rw [evSs_cons, h, seq_nx, h2]
theorem bRt (h : evS F gv sb s env m = .rt x m1) : evSs F gv sb (s :: ss) env m = .rt x m1 := by rw [evSs_cons, h, seq_rt]
theorem bExc {k : Nat} {d : List (Str × AV)} (h : evS F gv sb s env m = .exc k d e1 m1) : evSs F gv sb (s :: ss) env m = .exc k d e1 m1 := by rw [evSs_cons, h, seq_exc]
end
end PI
/-! Q2: fractions. -/
namespace PI
open PySem

/-- a fraction, as it lies -/
def fr (q : Rat) : AV := .tup [.int q.num, .int q.den]
theorem fr_num (q : Rat) : num 1 (fr q) = true := rfl
theorem fr_inj {p q : Rat} : fr p = fr q ↔ p = q := by
  constructor
  · intro h
    unfold fr at h
    simp only [AV.tup.injEq, List.cons.injEq, AV.int.injEq, and_true] at h
    exact Rat.ext h.1 (by exact_mod_cast h.2)
  · intro h; rw [h]
def F_isInt : FD := ⟨1, 1, [.ret (.and [.isi (.v 0) .int, .not (.isi (.v 0) .bool)])]⟩
def F_cdiv : FD := ⟨2, 2, [.par 0 1 (.bi .abs [.v 0]) (.bi .abs [.v 1]), .wh (.cmp .ne (.v 1) (.int 0)) [.par 0 1 (.v 1) (.bin .mod (.v 0) (.v 1))], .ret (.v 0)]⟩
def F_made (ki kc e : Nat) : FD := ⟨4, 2,
    [.ite (.or [.not (.call ki [.v 0]), .not (.call ki [.v 1]), .cmp .eq (.v 1) (.int 0)]) [.rais e] [],
      .set 2 (.call kc [.v 0, .v 1]),
      .set 3 (.ite (.cmp .gt (.v 1) (.int 0)) (.int 1) (.neg (.int 1))),
      .ret (.tup [.bin .fdiv (.bin .mul (.v 3) (.v 0)) (.v 2), .bin .fdiv (.bin .mul (.v 3) (.v 1)) (.v 2)])]⟩
section
variable {P : Nat → Option FD} {gv : Nat → AV} {sb : Nat → Nat → Option Bool} {m : Mem} {n k : Nat}
theorem isInt_int {i : Int} (h : P k = some F_isInt) : callE P gv sb (n + 1) k [.int i] m = .ok (.bl true) m := (callE_eq h rfl).trans (finC_rt (v := .bl true))
/-- the greatest common divisor's loop -/
theorem cdiv_loop {F : Nat → List AV → Mem → Res AV} : ∀ (t f : Nat) (a b : Nat), b < 2 ^ t → 2 * t + 1 ≤ f →
    whLoop (fun env m => evE F gv (.cmp .ne (.v 1) (.int 0)) env m) (fun env m => evSs F gv sb [.par 0 1 (.v 1) (.bin .mod (.v 0) (.v 1))] env m) f [some (.int a), some (.int b)] m = .nx [some (.int (Nat.gcd a b)), some (.int 0)] m := by
  have cond : ∀ a b : Nat, evE F gv (.cmp .ne (.v 1) (.int 0)) [some (.int a), some (.int b)] m = .ok (.bl (decide (b ≠ 0))) m := fun a b => by
    show optR m (((eqE m (.int (b : Int)) (.int 0)).map (!·)).map AV.bl) = _
    rw [eqE_int]
    show Res.ok (AV.bl !(decide ((b : Int) = 0))) m = _
    congr 2
    by_cases h : b = 0 <;> simp [h]
  have body : ∀ a b : Nat, b ≠ 0 → evSs F gv sb [.par 0 1 (.v 1) (.bin .mod (.v 0) (.v 1))] [some (.int a), some (.int b)] m = .nx [some (.int b), some (.int ((a % b : Nat) : Int))] m := fun a b h => by
    have hb : (b : Int) ≠ 0 := by omega
    show (((optR m ((if decide ((b : Int) ≠ 0) = true then some ((a : Int).fmod b) else none).map AV.int)).thenS _ fun y m => SRes.nx [some (.int (b : Int)), some y] m).seq _) = _
    rw [if_pos (by simpa using hb)]
    have : (a : Int).fmod b = ((a % b : Nat) : Int) := by rw [Int.fmod_eq_emod_of_nonneg _ (by omega)]; rfl
    rw [this]
    rfl
  intro t
  induction t with
  | zero =>
    intro f a b hb hf
    have : b = 0 := by omega
    subst this
    obtain ⟨f, rfl⟩ : ∃ g, f = g + 1 := ⟨f - 1, by omega⟩
    rw [wh_end (by rw [cond]; rfl)]
    simp
  | succ t ih =>
    intro f a b hb hf
    obtain ⟨f, rfl⟩ : ∃ g, f = g + 2 := ⟨f - 2, by omega⟩
    by_cases h : b = 0
    · subst h
      rw [wh_end (by rw [cond]; rfl)]
      simp
    · rw [wh_step (by rw [cond]; simp [h]) (body a b h)]
      have hr := Nat.mod_lt a (Nat.pos_of_ne_zero h)
      by_cases h2 : a % b = 0
      · rw [h2, wh_end (by rw [cond]; rfl), Nat.gcd_comm a b, Nat.gcd_rec b a, h2, Nat.gcd_zero_left]
        rfl
      · rw [wh_step (by rw [cond]; simp [h2]) (body b (a % b) h2), ih f (a % b) (b % (a % b)) ?_ (by omega)]
        · rw [Nat.gcd_comm a b, Nat.gcd_rec b a, Nat.gcd_comm (a % b) b, Nat.gcd_comm b (a % b), Nat.gcd_rec (a % b) b, Nat.gcd_comm]
        · have h3 := Nat.mod_lt b (Nat.pos_of_ne_zero h2)
          have h4 := Nat.div_add_mod b (a % b)
          have h5 : 1 ≤ b / (a % b) := Nat.div_pos (Nat.le_of_lt hr) (Nat.pos_of_ne_zero h2)
          have h6 : a % b ≤ (a % b) * (b / (a % b)) := Nat.le_mul_of_pos_right _ h5
          rw [Nat.pow_succ] at hb
          omega
theorem loopK_le {t : Nat} (h : t ≤ 100000000000) : 2 * t + 1 ≤ loopK := by unfold loopK; omega
theorem lt_two_log {n : Nat} : n < 2 ^ (n.log2 + 1) := Nat.lt_log2_self
theorem cdiv_ok {a b : Int} (h : P k = some F_cdiv) (hb : b.natAbs.log2 < 10000000000) : callE P gv sb (n + 1) k [.int a, .int b] m = .ok (.int (Nat.gcd a.natAbs b.natAbs)) m := by
  rw [callE_eq h rfl]
  have ab : ∀ i : Int, (if i < 0 then -i else i) = (i.natAbs : Int) := fun i => by split <;> omega
  have e : evSs (callE P gv sb n) gv sb F_cdiv.body [some (.int a), some (.int b)] m = .rt (.int (Nat.gcd a.natAbs b.natAbs)) m := by
    show ((whLoop (fun env m => evE (callE P gv sb n) gv (.cmp .ne (.v 1) (.int 0)) env m) (fun env m => evSs (callE P gv sb n) gv sb [.par 0 1 (.v 1) (.bin .mod (.v 0) (.v 1))] env m) loopK [some (.int (if a < 0 then -a else a)), some (.int (if b < 0 then -b else b))] m).seq _) = _
    rw [ab, ab, cdiv_loop (b.natAbs.log2 + 1) loopK _ _ lt_two_log (loopK_le (by omega))]
    rfl
  have e2 : ([AV.int a, AV.int b].map some ++ List.replicate (F_cdiv.n - F_cdiv.ps) none) = [some (.int a), some (.int b)] := rfl
  rw [e2, e, finC_rt]
theorem okLen_two (a b : AV) : okLen [a, b].length = true := by show okLen 2 = true; decide
theorem mulOk_one {s a : Int} (hs : s = 1 ∨ s = -1) (h : a.natAbs.log2 < 999999) : mulOk s a = true := by
  unfold mulOk
  rw [decide_eq_true_eq]
  rcases hs with rfl | rfl
  · show (1 : Nat).log2 + _ < _
    have : (1 : Nat).log2 = 0 := by decide
    omega
  · show (1 : Nat).log2 + _ < _
    have : (1 : Nat).log2 = 0 := by decide
    omega
/-- the quotient of two ints, as made makes it -/
theorem made_num {over under : Int} (h : under ≠ 0) : ((if 0 < under then 1 else -1) * over).fdiv (Nat.gcd over.natAbs under.natAbs : Nat) = (Rat.divInt over under).num ∧ ((if 0 < under then 1 else -1) * under).fdiv (Nat.gcd over.natAbs under.natAbs : Nat) = ((Rat.divInt over under).den : Int) := by
  have hg : (0 : Int) ≤ (Nat.gcd over.natAbs under.natAbs : Nat) := Int.natCast_nonneg _
  rw [Int.fdiv_eq_ediv_of_nonneg _ hg, Int.fdiv_eq_ediv_of_nonneg _ hg]
  cases under with
  | ofNat d =>
    have hd : d ≠ 0 := by
      intro z; subst z; exact h rfl
    have hp : (0 : Int) < Int.ofNat d := by
      show (0 : Int) < (d : Int); omega
    rw [if_pos hp, Int.one_mul, Int.one_mul]
    have e : Rat.divInt over (Int.ofNat d) = Rat.normalize over d hd := by
      show mkRat over d = _
      rw [Rat.normalize_eq_mkRat]
    rw [e, Rat.normalize_eq]
    exact ⟨rfl, by show ((d : Int)) / _ = ((d / _ : Nat) : Int); rw [Int.natCast_ediv]; rfl⟩
  | negSucc d =>
    have hp : ¬ (0 : Int) < Int.negSucc d := by
      have := Int.negSucc_lt_zero d; omega
    rw [if_neg hp]
    have e : Rat.divInt over (Int.negSucc d) = Rat.normalize (-over) (d + 1) (by omega) := rfl
    rw [e, Rat.normalize_eq]
    have e2 : (Int.negSucc d).natAbs = d + 1 := rfl
    have e3 : -1 * Int.negSucc d = ((d + 1 : Nat) : Int) := by
      rw [Int.negSucc_eq]; omega
    rw [e2, e3]
    have e4 : (-over).natAbs = over.natAbs := Int.natAbs_neg _
    simp only [e4]
    exact ⟨by rw [Int.neg_mul, Int.one_mul], by rw [Int.natCast_ediv]⟩
theorem made_ok {ki kc e : Nat} (h : P k = some (F_made ki kc e)) (hi : P ki = some F_isInt) (hc : P kc = some F_cdiv) {over under : Int} (hu : under ≠ 0) (h1 : over.natAbs.log2 < 999999) (h2 : under.natAbs.log2 < 9000) :
    callE P gv sb (n + 2) k [.int over, .int under] m = .ok (fr (Rat.divInt over under)) m := by
  rw [callE_eq h rfl]
  have e1 : callE P gv sb (n + 1) ki [.int over] m = .ok (.bl true) m := isInt_int hi
  have e2 : callE P gv sb (n + 1) ki [.int under] m = .ok (.bl true) m := isInt_int hi
  have e3 : callE P gv sb (n + 1) kc [.int over, .int under] m = .ok (.int (Nat.gcd over.natAbs under.natAbs)) m := cdiv_ok hc (by omega)
  have e0 : ([AV.int over, AV.int under].map some ++ List.replicate ((F_made ki kc e).n - (F_made ki kc e).ps) none) = [some (.int over), some (.int under), none, none] := rfl
  rw [e0]
  generalize hs : (if 0 < under then (1 : Int) else -1) = s
  have hs2 : s = 1 ∨ s = -1 := by rw [← hs]; split <;> simp
  have m1 := mulOk_one hs2 h1
  have m2 := mulOk_one (a := under) hs2 (by omega)
  have hg : (Nat.gcd over.natAbs under.natAbs : Int) ≠ 0 := by
    have : Nat.gcd over.natAbs under.natAbs ≠ 0 := fun z => hu (by
      have := (Nat.gcd_eq_zero_iff.mp z).2
      omega)
    omega
  have hl : Nat.gcd over.natAbs under.natAbs ≤ under.natAbs := Nat.gcd_le_right _ (by omega)
  have d0 : ∀ i : Int, divOk i (Nat.gcd over.natAbs under.natAbs : Int) = true := fun i => by
    unfold divOk
    rw [Bool.and_eq_true, decide_eq_true_eq, Bool.not_eq_true']
    refine ⟨hg, PyProof.noPylong_of_log2 ?_⟩
    show (Nat.gcd over.natAbs under.natAbs).log2 < 9000
    have : (Nat.gcd over.natAbs under.natAbs).log2 ≤ under.natAbs.log2 := by
      rw [Nat.le_log2 (by omega)]
      exact Nat.le_trans (Nat.log2_self_le (by omega)) hl
    omega
  have q := made_num (over := over) hu
  rw [hs] at q
  have e4 : evSs (callE P gv sb (n + 1)) gv sb (F_made ki kc e).body [some (.int over), some (.int under), none, none] m = .rt (fr (Rat.divInt over under)) m := by
    unfold F_made fr
    rw [← q.1, ← q.2]
    by_cases hp : 0 < under
    · rw [if_pos hp] at hs
      subst hs
      simp only [evSs, evS, evE, evEs, evO, evC, evAnd, evOr, Res.bind, Res.thenS, SRes.seq, List.getElem?_cons_zero, List.getElem?_cons_succ, List.set_cons_zero, List.set_cons_succ, cmpE, eqE_int, optR, Option.map_some, binE, int2, biE, Bool.not_true, Bool.not_false, decide_true, decide_false, e1, e2, e3, hu, hp, mulE, m1, m2, d0, if_true, okLen_two]
    · rw [if_neg hp] at hs
      subst hs
      simp only [evSs, evS, evE, evEs, evO, evC, evAnd, evOr, Res.bind, Res.thenS, SRes.seq, List.getElem?_cons_zero, List.getElem?_cons_succ, List.set_cons_zero, List.set_cons_succ, cmpE, eqE_int, optR, Option.map_some, binE, int2, biE, Bool.not_true, Bool.not_false, decide_true, decide_false, e1, e2, e3, hu, hp, mulE, m1, m2, d0, if_true, okLen_two]
  rw [e4, finC_rt]
/-- small enough to be reckoned with -/
def fitB : Nat := 4400
def Fit (q : Rat) : Prop := q.num.natAbs < 2 ^ fitB ∧ q.den < 2 ^ fitB
theorem log_lt {n k : Nat} (h : n < 2 ^ k) (hk : 0 < k) : n.log2 < k := by
  by_cases z : n = 0
  · subst z; simpa using hk
  · exact (Nat.log2_lt z).mpr h
theorem mul_lt {a b j k : Nat} (h : a < 2 ^ j) (g : b < 2 ^ k) : a * b < 2 ^ (j + k) := by
  rw [Nat.pow_add]
  exact Nat.mul_lt_mul'' h g
theorem mul_fit {i j : Int} (h : i.natAbs < 2 ^ fitB) (g : j.natAbs < 2 ^ fitB) : mulOk i j = true ∧ (i * j).natAbs < 2 ^ (2 * fitB) := by
  have h1 := log_lt h (by decide)
  have h2 := log_lt g (by decide)
  refine ⟨?_, ?_⟩
  · unfold mulOk
    rw [decide_eq_true_eq]
    unfold fitB at h1 h2
    omega
  · rw [Int.natAbs_mul]
    have := mul_lt h g
    have e : 2 * fitB = fitB + fitB := by omega
    rw [e]; exact this
theorem den_fit {q : Rat} (h : Fit q) : ((q.den : Int)).natAbs < 2 ^ fitB := by
  rw [Int.natAbs_natCast]; exact h.2
theorem rat_eq (q : Rat) : q = (q.num : Rat) / ((q.den : Int) : Rat) := by
  rw [← Rat.divInt_eq_div, Rat.num_divInt_den]
theorem den_ne (q : Rat) : (((q.den : Int)) : Rat) ≠ 0 := by
  have := q.den_nz
  intro z
  have z2 : ((q.den : Int)) = 0 := by exact_mod_cast z
  omega
theorem add_eq (p q : Rat) : Rat.divInt (p.num * q.den + q.num * p.den) (p.den * q.den) = p + q := by
  rw [Rat.divInt_eq_div, Rat.intCast_add, Rat.intCast_mul, Rat.intCast_mul, Rat.intCast_mul]
  have h1 := rat_eq p
  have h2 := rat_eq q
  have h3 := den_ne p
  have h4 := den_ne q
  generalize (p.num : Rat) = a at *
  generalize (q.num : Rat) = c at *
  generalize ((p.den : Int) : Rat) = b at *
  generalize ((q.den : Int) : Rat) = d at *
  grind
theorem mul_eq (p q : Rat) : Rat.divInt (p.num * q.num) (p.den * q.den) = p * q := by
  rw [Rat.divInt_eq_div, Rat.intCast_mul, Rat.intCast_mul]
  have h1 := rat_eq p
  have h2 := rat_eq q
  have h3 := den_ne p
  have h4 := den_ne q
  generalize (p.num : Rat) = a at *
  generalize (q.num : Rat) = c at *
  generalize ((p.den : Int) : Rat) = b at *
  generalize ((q.den : Int) : Rat) = d at *
  grind
theorem num_ne {q : Rat} (h : q ≠ 0) : (q.num : Rat) ≠ 0 := by
  intro z
  have := rat_eq q
  rw [z] at this
  apply h
  rw [this]
  grind
theorem div_eq (p q : Rat) (hq : q ≠ 0) : Rat.divInt (p.num * q.den) (p.den * q.num) = p / q := by
  rw [Rat.divInt_eq_div, Rat.intCast_mul, Rat.intCast_mul]
  have h1 := rat_eq p
  have h2 := rat_eq q
  have h3 := den_ne p
  have h4 := den_ne q
  have h5 := num_ne hq
  generalize (p.num : Rat) = a at *
  generalize (q.num : Rat) = c at *
  generalize ((p.den : Int) : Rat) = b at *
  generalize ((q.den : Int) : Rat) = d at *
  grind
def F_plus (km : Nat) : FD := ⟨2, 2,
    [.ret (.call km [.bin .add (.bin .mul (.sub (.v 0) (.int 0)) (.sub (.v 1) (.int 1))) (.bin .mul (.sub (.v 1) (.int 0)) (.sub (.v 0) (.int 1))), .bin .mul (.sub (.v 0) (.int 1)) (.sub (.v 1) (.int 1))])]⟩
def F_times (km : Nat) : FD := ⟨2, 2,
    [.ret (.call km [.bin .mul (.sub (.v 0) (.int 0)) (.sub (.v 1) (.int 0)), .bin .mul (.sub (.v 0) (.int 1)) (.sub (.v 1) (.int 1))])]⟩
def F_over (km : Nat) : FD := ⟨2, 2,
    [.ret (.call km [.bin .mul (.sub (.v 0) (.int 0)) (.sub (.v 1) (.int 1)), .bin .mul (.sub (.v 0) (.int 1)) (.sub (.v 1) (.int 0))])]⟩
theorem sub_fr (q : Rat) : subE m (fr q) 0 = some (.int q.num) ∧ subE m (fr q) 1 = some (.int q.den) := ⟨rfl, rfl⟩
/-- the fractions' defs stand where they are called -/
structure FrOk (P : Nat → Option FD) (ki kc e km kp kt : Nat) : Prop where
  i : P ki = some F_isInt
  c : P kc = some F_cdiv
  m : P km = some (F_made ki kc e)
  p : P kp = some (F_plus km)
  t : P kt = some (F_times km)
variable {ki kc e km kp kt ko : Nat}
theorem plus_ok (h : FrOk P ki kc e km kp kt) {p q : Rat} (hp : Fit p) (hq : Fit q) : callE P gv sb (n + 3) kp [fr p, fr q] m = .ok (fr (p + q)) m := by
  rw [callE_eq h.p rfl]
  have e0 : ([fr p, fr q].map some ++ List.replicate ((F_plus km).n - (F_plus km).ps) none) = [some (fr p), some (fr q)] := rfl
  rw [e0]
  have a1 := mul_fit hp.1 (den_fit hq)
  have a2 := mul_fit hq.1 (den_fit hp)
  have a3 := mul_fit (den_fit hp) (den_fit hq)
  have d1 := hp.2
  have nz : (p.den : Int) * q.den ≠ 0 := Int.mul_ne_zero (by have := p.den_nz; omega) (by have := q.den_nz; omega)
  have l1 : (p.num * q.den + q.num * p.den).natAbs.log2 < 999999 := by
    have := Int.natAbs_add_le (p.num * q.den) (q.num * p.den)
    have h2 : (p.num * q.den + q.num * p.den).natAbs < 2 ^ (2 * fitB + 1) := by
      rw [Nat.pow_succ]; omega
    have := log_lt h2 (by decide)
    unfold fitB at this
    omega
  have l2 : ((p.den : Int) * q.den).natAbs.log2 < 9000 := by
    have := log_lt a3.2 (by decide)
    unfold fitB at this
    omega
  have r := made_ok (gv := gv) (sb := sb) (m := m) (n := n) h.m h.i h.c nz l1 l2
  rw [add_eq] at r
  have e4 : evSs (callE P gv sb (n + 2)) gv sb (F_plus km).body [some (fr p), some (fr q)] m = .rt (fr (p + q)) m := by
    unfold F_plus
    simp only [evSs, evS, evE, evEs, evO, evC, evAnd, evOr, Res.bind, Res.thenS, SRes.seq, List.getElem?_cons_zero, List.getElem?_cons_succ, List.set_cons_zero, List.set_cons_succ, cmpE, eqE_int, optR, Option.map_some, binE, int2, biE, Bool.not_true, Bool.not_false, decide_true, decide_false, sub_fr, mulE, addE, a1.1, a2.1, a3.1, if_true, r]
  rw [e4, finC_rt]
theorem times_ok (h : FrOk P ki kc e km kp kt) {p q : Rat} (hp : Fit p) (hq : Fit q) : callE P gv sb (n + 3) kt [fr p, fr q] m = .ok (fr (p * q)) m := by
  rw [callE_eq h.t rfl]
  have e0 : ([fr p, fr q].map some ++ List.replicate ((F_times km).n - (F_times km).ps) none) = [some (fr p), some (fr q)] := rfl
  rw [e0]
  have a1 := mul_fit hp.1 hq.1
  have a3 := mul_fit (den_fit hp) (den_fit hq)
  have nz : (p.den : Int) * q.den ≠ 0 := Int.mul_ne_zero (by have := p.den_nz; omega) (by have := q.den_nz; omega)
  have l1 : (p.num * q.num).natAbs.log2 < 999999 := by
    have := log_lt a1.2 (by decide)
    unfold fitB at this
    omega
  have l2 : ((p.den : Int) * q.den).natAbs.log2 < 9000 := by
    have := log_lt a3.2 (by decide)
    unfold fitB at this
    omega
  have r := made_ok (gv := gv) (sb := sb) (m := m) (n := n) h.m h.i h.c nz l1 l2
  rw [mul_eq] at r
  have e4 : evSs (callE P gv sb (n + 2)) gv sb (F_times km).body [some (fr p), some (fr q)] m = .rt (fr (p * q)) m := by
    unfold F_times
    simp only [evSs, evS, evE, evEs, evO, evC, evAnd, evOr, Res.bind, Res.thenS, SRes.seq, List.getElem?_cons_zero, List.getElem?_cons_succ, List.set_cons_zero, List.set_cons_succ, cmpE, eqE_int, optR, Option.map_some, binE, int2, biE, Bool.not_true, Bool.not_false, decide_true, decide_false, sub_fr, mulE, a1.1, a3.1, if_true, r]
  rw [e4, finC_rt]
theorem over_ok (h : FrOk P ki kc e km kp kt) (ho : P ko = some (F_over km)) {p q : Rat} (hp : Fit p) (hq : Fit q) (h0 : q ≠ 0) : callE P gv sb (n + 3) ko [fr p, fr q] m = .ok (fr (p / q)) m := by
  rw [callE_eq ho rfl]
  have e0 : ([fr p, fr q].map some ++ List.replicate ((F_over km).n - (F_over km).ps) none) = [some (fr p), some (fr q)] := rfl
  rw [e0]
  have a1 := mul_fit hp.1 (den_fit hq)
  have a3 := mul_fit (den_fit hp) hq.1
  have nz : (p.den : Int) * q.num ≠ 0 := Int.mul_ne_zero (by have := p.den_nz; omega) (by
    intro z
    have := num_ne h0
    rw [z] at this
    exact this rfl)
  have l1 : (p.num * q.den).natAbs.log2 < 999999 := by
    have := log_lt a1.2 (by decide)
    unfold fitB at this
    omega
  have l2 : ((p.den : Int) * q.num).natAbs.log2 < 9000 := by
    have := log_lt a3.2 (by decide)
    unfold fitB at this
    omega
  have r := made_ok (gv := gv) (sb := sb) (m := m) (n := n) h.m h.i h.c nz l1 l2
  rw [div_eq p q h0] at r
  have e4 : evSs (callE P gv sb (n + 2)) gv sb (F_over km).body [some (fr p), some (fr q)] m = .rt (fr (p / q)) m := by
    unfold F_over
    simp only [evSs, evS, evE, evEs, evO, evC, evAnd, evOr, Res.bind, Res.thenS, SRes.seq, List.getElem?_cons_zero, List.getElem?_cons_succ, List.set_cons_zero, List.set_cons_succ, cmpE, eqE_int, optR, Option.map_some, binE, int2, biE, Bool.not_true, Bool.not_false, decide_true, decide_false, sub_fr, mulE, a1.1, a3.1, if_true, r]
  rw [e4, finC_rt]
end
end PI
/-! Q3: polynomials, as they lie; the sums. -/
namespace PI
open PySem

def frs (p : List Rat) : List AV := p.map fr
def pv (p : List Rat) : AV := .tup (frs p)
theorem frs_len {p : List Rat} : (frs p).length = p.length := by simp [frs]
theorem frs_nums : ∀ p : List Rat, nums 1 (frs p) = true
  | [] => rfl
  | q :: p => by
    show (num 1 (fr q) && nums 1 (frs p)) = true
    rw [frs_nums p]; rfl
theorem pv_num (p : List Rat) : num 2 (pv p) = true := frs_nums p
theorem frs_inj {p q : List Rat} : frs p = frs q ↔ p = q := by
  unfold frs
  exact ⟨fun h => List.map_inj_right (fun a b => fr_inj.mp) |>.mp h, fun h => by rw [h]⟩
theorem pv_inj {p q : List Rat} : pv p = pv q ↔ p = q := by
  unfold pv
  rw [AV.tup.injEq, frs_inj]
/-- no trailing noughts -/
def trim : List Rat → List Rat
  | [] => []
  | a :: p => if trim p = [] ∧ a = 0 then [] else a :: trim p
theorem trim_len : ∀ p : List Rat, (trim p).length ≤ p.length
  | [] => Nat.le_refl _
  | a :: p => by
    unfold trim
    have := trim_len p
    split
    · simp
    · simp; exact this
theorem trim_take : ∀ p : List Rat, p.take (trim p).length = trim p
  | [] => rfl
  | a :: p => by
    unfold trim
    split
    · rfl
    · simp [trim_take p]
theorem trim_last : ∀ {p : List Rat}, (∀ a, p.getLast? = some a → a ≠ 0) → trim p = p
  | [], _ => rfl
  | [a], h => by
    have := h a rfl
    simp [trim, this]
  | a :: b :: p, h => by
    have e : trim (b :: p) = b :: p := trim_last fun c hc => h c (by rw [List.getLast?_cons_cons]; exact hc)
    show (if trim (b :: p) = [] ∧ a = 0 then [] else a :: trim (b :: p)) = _
    rw [e]; simp
theorem trim_snoc : ∀ {p : List Rat}, trim (p ++ [0]) = trim p
  | [] => by simp [trim]
  | a :: p => by
    show (if trim (p ++ [0]) = [] ∧ a = 0 then [] else a :: trim (p ++ [0])) = _
    rw [trim_snoc]; rfl
theorem trim_mem {p : List Rat} {a : Rat} (h : a ∈ trim p) : a ∈ p := by
  rw [← trim_take p] at h
  exact List.mem_of_mem_take h
theorem trim_nolast : ∀ {p : List Rat} {a : Rat}, (trim p).getLast? = some a → a ≠ 0
  | [], a, h => by cases h
  | b :: p, a, h => by
    unfold trim at h
    split at h
    · cases h
    · rename_i n
      cases q : trim p with
      | nil =>
        rw [q] at h n
        have e : b = a := by simpa using h
        subst e
        exact fun z => n ⟨rfl, z⟩
      | cons c r =>
        rw [q, List.getLast?_cons_cons, ← q] at h
        exact trim_nolast h
theorem trim_trim (p : List Rat) : trim (trim p) = trim p := trim_last fun _ h => trim_nolast h

def F_trimmed (g : Nat) : FD := ⟨2, 1,
    [.set 1 (.bi .len [.v 0]),
      .wh (.and [.cmp .gt (.v 1) (.int 0), .cmp .eq (.sub (.v 0) (.bin .sub (.v 1) (.int 1))) (.g g)]) [.aug 1 .sub (.int 1)],
      .ret (.bi .tuple [.slc (.v 0) none (some (.v 1))])]⟩
/-- a list of fractions, held or not -/
def IsL (m : Mem) (v : AV) (p : List Rat) : Prop := lstOf m v = some (frs p)
theorem isL_frl {m : Mem} {p : List Rat} : IsL m (.frl (frs p)) p := rfl
theorem lst_not {m : Mem} {v : AV} {xs : List AV} (h : lstOf m v = some xs) : (∀ ys, v ≠ .tup ys) ∧ (∀ cs, v ≠ .str cs) := by
  constructor <;> (intro ys z; subst z; cases h)
theorem len_lst {m : Mem} {v : AV} {xs : List AV} (h : lstOf m v = some xs) : biE m .len [v] = some (.int xs.length) := by
  cases v <;> first | (cases h; done) | (cases h; rfl) | (rename_i j; show (lstOf m (.ref j)).map _ = _; rw [h]; rfl)
theorem tuple_lst {m : Mem} {v : AV} {xs : List AV} (h : lstOf m v = some xs) : biE m .tuple [v] = some (.tup xs) := by
  cases v <;> first | (cases h; done) | (cases h; rfl) | (rename_i j; show (lstOf m (.ref j)).map _ = _; rw [h]; rfl)
theorem sub_lst {m : Mem} {v : AV} {xs : List AV} {i : Int} (h : lstOf m v = some xs) : subE m v i = L2.atI xs i := by
  cases v with
  | ref j => exact (congrArg (fun o => match o with
    | some xs => L2.atI xs i
    | none => none) h)
  | frl ys => cases h; rfl
  | scr ys => cases h; rfl
  | _ => cases h
theorem slc_lst {m : Mem} {v : AV} {xs : List AV} {lo hi : Option Int} (h : lstOf m v = some xs) : slcE m v lo hi = some (.frl (cutA xs lo hi)) := by
  cases v with
  | ref j => exact (congrArg (fun o => match o with
    | some xs => some (AV.frl (cutA xs lo hi))
    | none => none) h)
  | frl ys => cases h; rfl
  | scr ys => cases h; rfl
  | _ => cases h
theorem cut_hi {xs : List AV} {k : Nat} (h : k ≤ xs.length) : cutA xs none (some (k : Int)) = xs.take k := by
  unfold cutA
  rw [HT.sIx_nat, HT.sIx_none, Nat.min_eq_left h]
  simp
theorem cut_lo {xs : List AV} {k : Nat} : cutA xs (some (k : Int)) none = xs.drop k := by
  unfold cutA
  rw [HT.sIx_nat, HT.sIx_none]
  rcases Nat.le_total k xs.length with h | h
  · rw [Nat.min_eq_left h, List.take_of_length_le (by simp)]
  · rw [Nat.min_eq_right h, List.drop_eq_nil_of_le (by omega), List.drop_eq_nil_of_le h]; simp
theorem at_frs {p : List Rat} {k : Nat} {q : Rat} (h : p[k]? = some q) : L2.atI (frs p) (k : Int) = some (fr q) := L2.atI_nat (by unfold frs; rw [List.getElem?_map, h]; rfl)
section
variable {P : Nat → Option FD} {gv : Nat → AV} {sb : Nat → Nat → Option Bool} {m : Mem} {n k : Nat}
theorem eq_fr {p q : Rat} : eqE m (fr p) (fr q) = some (decide (p = q)) := by
  classical
  rw [eqE_num (fr_num p) (fr_num q) (by decide) (by decide)]
  congr 1
  simp [fr_inj]
theorem eq_pv {p q : List Rat} : eqE m (pv p) (pv q) = some (decide (p = q)) := by
  classical
  rw [eqE_num (pv_num p) (pv_num q) (by decide) (by decide)]
  congr 1
  simp [pv_inj]
theorem trimmed_loop {g : Nat} {F : Nat → List AV → Mem → Res AV} {v : AV} {p : List Rat} (hv : IsL m v p) (hg : gv g = fr 0) : ∀ (k f : Nat), k ≤ p.length → k < f → trim p = trim (p.take k) →
    whLoop (fun env m => evE F gv (.and [.cmp .gt (.v 1) (.int 0), .cmp .eq (.sub (.v 0) (.bin .sub (.v 1) (.int 1))) (.g g)]) env m) (fun env m => evSs F gv sb [.aug 1 .sub (.int 1)] env m) f [some v, some (.int k)] m = .nx [some v, some (.int (trim p).length)] m := by
  intro k
  induction k with
  | zero =>
    intro f hk hf ht
    obtain ⟨f, rfl⟩ : ∃ g, f = g + 1 := ⟨f - 1, by omega⟩
    rw [wh_end]
    · rw [ht, List.take_zero]
      try rfl
    · simp only [evSs, evS, evE, evEs, evO, evC, evAnd, evOr, Res.bind, Res.thenS, SRes.seq, List.getElem?_cons_zero, List.getElem?_cons_succ, List.set_cons_zero, List.set_cons_succ, cmpE, eqE_int, optR, Option.map_some, binE, int2, biE, Bool.not_true, Bool.not_false, decide_true, decide_false]
      rfl
  | succ k ih =>
    intro f hk hf ht
    obtain ⟨f, rfl⟩ : ∃ g, f = g + 1 := ⟨f - 1, by omega⟩
    obtain ⟨q, hq⟩ : ∃ q, p[k]? = some q := ⟨p[k], List.getElem?_eq_getElem (by omega)⟩
    have hpos : (0 : Int) < ((k + 1 : Nat) : Int) := by omega
    have e1 : ((k + 1 : Nat) : Int) - 1 = (k : Int) := by omega
    have cond : evE F gv (.and [.cmp .gt (.v 1) (.int 0), .cmp .eq (.sub (.v 0) (.bin .sub (.v 1) (.int 1))) (.g g)]) [some v, some (.int ((k + 1 : Nat) : Int))] m = .ok (.bl (decide (q = 0))) m := by
      simp only [evSs, evS, evE, evEs, evO, evC, evAnd, evOr, Res.bind, Res.thenS, SRes.seq, List.getElem?_cons_zero, List.getElem?_cons_succ, List.set_cons_zero, List.set_cons_succ, cmpE, eqE_int, optR, Option.map_some, binE, int2, biE, Bool.not_true, Bool.not_false, decide_true, decide_false, hpos, e1, sub_lst hv, at_frs hq, hg, eq_fr]
    have htk : p.take (k + 1) = p.take k ++ [q] := by
      rw [List.take_add_one, hq]; rfl
    by_cases z : q = 0
    · rw [wh_step (e2 := [some v, some (.int k)]) (m2 := m) (by rw [cond]; simp [z]) ?_]
      · refine ih f (by omega) (by omega) ?_
        rw [ht, htk, z, trim_snoc]
      · simp only [evSs, evS, evE, evEs, evO, evC, evAnd, evOr, Res.bind, Res.thenS, SRes.seq, List.getElem?_cons_zero, List.getElem?_cons_succ, List.set_cons_zero, List.set_cons_succ, cmpE, eqE_int, optR, Option.map_some, binE, int2, biE, Bool.not_true, Bool.not_false, decide_true, decide_false, augE, e1]
    · rw [wh_end (by rw [cond]; simp [z])]
      have : trim p = p.take (k + 1) := by
        rw [ht]
        exact trim_last fun a ha => by
          rw [htk] at ha
          have : q = a := by simpa using ha
          rw [← this]; exact z
      rw [this, List.length_take, Nat.min_eq_left hk]
theorem trimmed_ok {g : Nat} {v : AV} {p : List Rat} (h : P k = some (F_trimmed g)) (hg : gv g = fr 0) (hv : IsL m v p) (hl : p.length ≤ 1000) : callE P gv sb (n + 1) k [v] m = .ok (pv (trim p)) m := by
  rw [callE_eq h rfl]
  have e0 : ([v].map some ++ List.replicate ((F_trimmed g).n - (F_trimmed g).ps) none) = [some v, none] := rfl
  rw [e0]
  have hloop := trimmed_loop (F := callE P gv sb n) (sb := sb) hv hg p.length loopK (Nat.le_refl _) (by unfold loopK; omega) (by rw [List.take_length])
  have e4 : evSs (callE P gv sb n) gv sb (F_trimmed g).body [some v, none] m = .rt (pv (trim p)) m := by
    have ll := len_lst hv
    rw [frs_len] at ll
    have sl : slcE m v none (some ((trim p).length : Int)) = some (.frl (frs (trim p))) := by
      rw [slc_lst hv, cut_hi (by rw [frs_len]; exact trim_len p)]
      unfold frs
      rw [← List.map_take, trim_take]
    have tl : biE m .tuple [AV.frl (frs (trim p))] = some (pv (trim p)) := rfl
    have s1 : evS (callE P gv sb n) gv sb (.set 1 (.bi .len [.v 0])) [some v, none] m = .nx [some v, some (.int p.length)] m := by
      simp only [evS, evE, evEs, Res.bind, Res.thenS, List.getElem?_cons_zero, optR, ll, List.set_cons_succ, List.set_cons_zero]
    have s3 : evS (callE P gv sb n) gv sb (.ret (.bi .tuple [.slc (.v 0) none (some (.v 1))])) [some v, some (.int (trim p).length)] m = .rt (pv (trim p)) m := by
      simp only [evS, evE, evEs, evO, Res.bind, Res.thenS, List.getElem?_cons_zero, List.getElem?_cons_succ, optR, sl, tl]
    have s2 : evS (callE P gv sb n) gv sb (.wh (.and [.cmp .gt (.v 1) (.int 0), .cmp .eq (.sub (.v 0) (.bin .sub (.v 1) (.int 1))) (.g g)]) [.aug 1 .sub (.int 1)]) [some v, some (.int p.length)] m = .nx [some v, some (.int (trim p).length)] m := hloop
    unfold F_trimmed
    simp only [evSs, s1, s2, s3, SRes.seq]
  rw [e4, finC_rt]

/-! ### sums -/
def F_term (g : Nat) : FD := ⟨2, 2, [.ret (.ite (.chn .le .lt (.int 0) (.v 1) (.bi .len [.v 0])) (.sub (.v 0) (.v 1)) (.g g))]⟩
def F_opp : FD := ⟨3, 1, [.ret (.bi .tuple [.lc (.tup [.neg (.v 1), .v 2]) [1, 2] (.tu [1, 2]) 0 [.v 0] none])]⟩
def F_padd (kt kp km : Nat) : FD := ⟨4, 2,
    [.set 2 (.bi .max [.bi .len [.v 0], .bi .len [.v 1]]),
      .ret (.call kt [.lc (.call kp [.call km [.v 0, .v 3], .call km [.v 1, .v 3]]) [3] (.nm 3) 1 [.v 2] none])]⟩
def F_pmin (ka ko : Nat) : FD := ⟨2, 2, [.ret (.call ka [.v 0, .call ko [.v 1]])]⟩
def F_scaled (g kt : Nat) : FD := ⟨3, 2, [.ret (.ite (.cmp .eq (.v 1) (.g g)) (.tup []) (.bi .tuple [.lc (.call kt [.v 2, .v 1]) [2] (.nm 2) 0 [.v 0] none]))]⟩
def F_shifted (g : Nat) : FD := ⟨2, 2, [.ret (.ite (.cmp .eq (.v 0) (.tup [])) (.tup []) (.bin .add (.bin .mul (.tup [.g g]) (.v 1)) (.v 0)))]⟩
def co (p : List Rat) (i : Nat) : Rat := p.getD i 0
theorem term_ok {g : Nat} {p : List Rat} {i : Nat} (h : P k = some (F_term g)) (hg : gv g = fr 0) : callE P gv sb (n + 1) k [pv p, .int i] m = .ok (fr (co p i)) m := by
  rw [callE_eq h rfl]
  have e0 : ([pv p, AV.int i].map some ++ List.replicate ((F_term g).n - (F_term g).ps) none) = [some (pv p), some (.int i)] := rfl
  rw [e0]
  have ll : biE m .len [pv p] = some (.int p.length) := by
    show some (AV.int (frs p).length) = _; rw [frs_len]
  have h0 : decide ((0 : Int) ≤ (i : Int)) = true := by simp
  have e4 : evSs (callE P gv sb n) gv sb (F_term g).body [some (pv p), some (.int i)] m = .rt (fr (co p i)) m := by
    unfold F_term
    by_cases hi : i < p.length
    · have h1 : ((i : Int) < (p.length : Int)) := by omega
      have h2 : subE m (pv p) (i : Int) = some (fr (co p i)) := at_frs (by unfold co; rw [List.getD_eq_getElem?_getD]; simp [hi])
      simp only [evSs, evS, evE, evEs, SRes.seq, Res.bind, Res.thenS, List.getElem?_cons_zero, List.getElem?_cons_succ, cmpE, h0, optR, ll, h1, decide_true, Option.map_some, h2]
    · have h1 : ¬ ((i : Int) < (p.length : Int)) := by omega
      have h2 : co p i = 0 := by unfold co; rw [List.getD_eq_getElem?_getD, List.getElem?_eq_none (by omega)]; rfl
      simp only [evSs, evS, evE, evEs, SRes.seq, Res.bind, Res.thenS, List.getElem?_cons_zero, List.getElem?_cons_succ, cmpE, h0, optR, ll, h1, decide_false, Option.map_some, h2, hg]
  rw [e4, finC_rt]
theorem fr_neg (q : Rat) : AV.tup [.int (-q.num), .int q.den] = fr (-q) := by
  rfl
theorem opp_ok {p : List Rat} (h : P k = some F_opp) (hl : p.length ≤ 1000) : callE P gv sb (n + 1) k [pv p] m = .ok (pv (p.map fun q => -q)) m := by
  rw [callE_eq h rfl]
  have e0 : ([pv p].map some ++ List.replicate (F_opp.n - F_opp.ps) none) = [some (pv p), none, none] := rfl
  rw [e0]
  have e4 : evE (callE P gv sb n) gv (.lc (.tup [.neg (.v 1), .v 2]) [1, 2] (.tu [1, 2]) 0 [.v 0] none) [some (pv p), none, none] m = .ok (.frl (frs (p.map fun q => -q))) m := by
    have z := lc_pure (F := callE P gv sb n) (gv := gv) (elt := .tup [.neg (.v 1), .v 2]) (own := [1, 2]) (tg := .tu [1, 2]) (it := 0) (src := [.v 0]) (env := [some (pv p), none, none]) (m := m) (xs := frs p) (fun v => match v with
      | .tup [.int a, b] => .tup [.int (-a), b]
      | _ => .non) rfl rfl (fun x hx => ?_) (by rw [frs_len]; exact Nat.le_trans hl (by decide))
    · rw [z]
      unfold frs
      rw [List.map_map, List.map_map]
      rfl
    · unfold frs at hx
      rw [List.mem_map] at hx
      obtain ⟨q, _, rfl⟩ := hx
      exact ⟨[some (pv p), some (.int q.num), some (.int q.den)], rfl, rfl⟩
  have e5 : evSs (callE P gv sb n) gv sb F_opp.body [some (pv p), none, none] m = .rt (pv (p.map fun q => -q)) m := by
    unfold F_opp
    simp only [evSs, evS]
    have e6 : evE (callE P gv sb n) gv (.bi .tuple [.lc (.tup [.neg (.v 1), .v 2]) [1, 2] (.tu [1, 2]) 0 [.v 0] none]) [some (pv p), none, none] m = .ok (pv (p.map fun q => -q)) m := by
      rw [evE_bi1, e4]
      rfl
    rw [e6]
    rfl
  rw [e5, finC_rt]
theorem fit_zero : Fit 0 := by
  have h1 : (0 : Rat).num.natAbs = 0 := rfl
  have h2 : (0 : Rat).den = 1 := rfl
  unfold Fit
  rw [h1, h2]
  exact ⟨Nat.two_pow_pos _, Nat.one_lt_two_pow (by unfold fitB; omega)⟩
theorem fit_one : Fit 1 := by
  have h1 : (1 : Rat).num.natAbs = 1 := rfl
  have h2 : (1 : Rat).den = 1 := rfl
  unfold Fit
  rw [h1, h2]
  exact ⟨Nat.one_lt_two_pow (by unfold fitB; omega), Nat.one_lt_two_pow (by unfold fitB; omega)⟩
theorem size_ok {j : Nat} (h : j ≤ 1000) : j ≤ sizeLine := Nat.le_trans h (by decide)
theorem rep_one {α : Type} {a : α} : ∀ j : Nat, (List.replicate j [a]).flatten = List.replicate j a
  | 0 => rfl
  | j + 1 => by rw [List.replicate_succ, List.flatten_cons, rep_one j]; rfl
def FitL (p : List Rat) : Prop := p.length ≤ 400 ∧ ∀ q ∈ p, Fit q
theorem FitL.co {p : List Rat} (h : FitL p) (i : Nat) : Fit (PI.co p i) := by
  unfold PI.co
  rw [List.getD_eq_getElem?_getD]
  cases q : p[i]? with
  | none => exact fit_zero
  | some a => exact h.2 a (List.mem_of_getElem? q)
def addL (p q : List Rat) : List Rat := (List.range (max p.length q.length)).map fun i => co p i + co q i
theorem maxE {i j : Nat} : biE m .max [.int i, .int j] = some (.int ((max i j : Nat) : Int)) := by
  show some (AV.int (if (j : Int) > i then (j : Int) else i)) = _
  congr 2
  split <;> omega
theorem small_int {j : Nat} (h : j ≤ 1000) : inR (j : Int) = true := by
  unfold inR
  rw [decide_eq_true_eq]
  constructor <;> omega
theorem itE1 {j : Int} : itE m 1 [.int j] = (if inR j = true then some ((List.range j.toNat).map fun (k : Nat) => AV.int (0 + (k : Int))) else none) := rfl
theorem rng_ok {j : Nat} (h : j ≤ 1000) : itE m 1 [.int j] = some ((List.range j).map fun (k : Nat) => AV.int k) := by
  rw [itE1, if_pos (small_int h), Int.toNat_natCast]
  simp only [Int.zero_add]
theorem padd_lc {ki kc e kmd kp kt' : Nat} {g ktm : Nat} {p q : List Rat} (hf : FrOk P ki kc e kmd kp kt') (htm : P ktm = some (F_term g)) (hg : gv g = fr 0) (hp : FitL p) (hq : FitL q) {j : Nat} (hj : j ≤ 1000) :
    evE (callE P gv sb (n + 3)) gv (.lc (.call kp [.call ktm [.v 0, .v 3], .call ktm [.v 1, .v 3]]) [3] (.nm 3) 1 [.v 2] none) [some (pv p), some (pv q), some (.int j), none] m = .ok (.frl (frs ((List.range j).map fun i => co p i + co q i))) m := by
  have z := lc_pure (F := callE P gv sb (n + 3)) (gv := gv) (elt := .call kp [.call ktm [.v 0, .v 3], .call ktm [.v 1, .v 3]]) (own := [3]) (tg := .nm 3) (it := 1) (src := [.v 2]) (env := [some (pv p), some (pv q), some (.int j), none]) (fun v => match v with
    | .int i => fr (co p i.toNat + co q i.toNat)
    | _ => .non) rfl (rng_ok (m := m) hj) (fun x hx => ?_) (by rw [List.length_map, List.length_range]; exact size_ok hj)
  · rw [z]
    unfold frs
    rw [List.map_map, List.map_map]
    rfl
  · rw [List.mem_map] at hx
    obtain ⟨i, _, rfl⟩ := hx
    have t1 : callE P gv sb (n + 3) ktm [pv p, .int i] m = .ok (fr (co p i)) m := term_ok htm hg
    have t2 : callE P gv sb (n + 3) ktm [pv q, .int i] m = .ok (fr (co q i)) m := term_ok htm hg
    have t3 : callE P gv sb (n + 3) kp [fr (co p i), fr (co q i)] m = .ok (fr (co p i + co q i)) m := plus_ok hf (hp.co i) (hq.co i)
    refine ⟨[some (pv p), some (pv q), some (.int j), some (.int i)], rfl, ?_⟩
    simp only [evE, evEs, List.getElem?_cons_zero, List.getElem?_cons_succ, Res.bind, t1, t2, t3, Int.toNat_natCast]
theorem padd_ok {ki kc e kmd kp kt' : Nat} {g ktr ktm : Nat} {p q : List Rat} (h : P k = some (F_padd ktr kp ktm)) (hf : FrOk P ki kc e kmd kp kt') (htr : P ktr = some (F_trimmed g)) (htm : P ktm = some (F_term g)) (hg : gv g = fr 0) (hp : FitL p) (hq : FitL q) :
    callE P gv sb (n + 4) k [pv p, pv q] m = .ok (pv (trim (addL p q))) m := by
  have l1 := hp.1
  have l2 := hq.1
  have lp : biE m .len [pv p] = some (.int p.length) := by
    show some (AV.int (frs p).length) = _; rw [frs_len]
  have lq : biE m .len [pv q] = some (.int q.length) := by
    show some (AV.int (frs q).length) = _; rw [frs_len]
  have hj : max p.length q.length ≤ 1000 := by omega
  have e4 := padd_lc (gv := gv) (sb := sb) (m := m) (n := n) hf htm hg hp hq hj
  have e7 : (List.range (max p.length q.length)).map (fun i => co p i + co q i) = addL p q := rfl
  rw [e7] at e4
  have ll : (addL p q).length ≤ 1000 := by unfold addL; rw [List.length_map, List.length_range]; exact hj
  have t5 : callE P gv sb (n + 3) ktr [.frl (frs (addL p q))] m = .ok (pv (trim (addL p q))) m := trimmed_ok htr hg isL_frl ll
  have s1 : evS (callE P gv sb (n + 3)) gv sb (.set 2 (.bi .max [.bi .len [.v 0], .bi .len [.v 1]])) [some (pv p), some (pv q), none, none] m = .nx [some (pv p), some (pv q), some (.int ((max p.length q.length : Nat) : Int)), none] m := by
    exact sSet (rBi (rCons (rBi (rCons (evE_v rfl) rNil) lp) (rCons (rBi (rCons (evE_v rfl) rNil) lq) rNil)) maxE)
  have s2 : evS (callE P gv sb (n + 3)) gv sb (.ret (.call ktr [.lc (.call kp [.call ktm [.v 0, .v 3], .call ktm [.v 1, .v 3]]) [3] (.nm 3) 1 [.v 2] none])) [some (pv p), some (pv q), some (.int ((max p.length q.length : Nat) : Int)), none] m = .rt (pv (trim (addL p q))) m := by
    rw [evS_ret, evE_call1, e4]
    dsimp only [Res.bind]
    rw [t5]
    rfl
  rw [callE_eq h rfl]
  have e0 : ([pv p, pv q].map some ++ List.replicate ((F_padd ktr kp ktm).n - (F_padd ktr kp ktm).ps) none) = [some (pv p), some (pv q), none, none] := rfl
  rw [e0]
  have e6 : evSs (callE P gv sb (n + 3)) gv sb (F_padd ktr kp ktm).body [some (pv p), some (pv q), none, none] m = .rt (pv (trim (addL p q))) m := by
    unfold F_padd
    dsimp only
    rw [evSs_cons, s1, seq_nx, evSs_cons, s2, seq_rt]
  rw [e6, finC_rt]
theorem pmin_ok {ka ko : Nat} {p q r : List Rat} (h : P k = some (F_pmin ka ko)) (ho : callE P gv sb (n + 1) ko [pv q] m = .ok (pv (q.map fun a => -a)) m) (ha : callE P gv sb (n + 1) ka [pv p, pv (q.map fun a => -a)] m = .ok (pv r) m) : callE P gv sb (n + 2) k [pv p, pv q] m = .ok (pv r) m := by
  rw [callE_eq h rfl]
  have e0 : ([pv p, pv q].map some ++ List.replicate ((F_pmin ka ko).n - (F_pmin ka ko).ps) none) = [some (pv p), some (pv q)] := rfl
  rw [e0]
  have e6 : evSs (callE P gv sb (n + 1)) gv sb (F_pmin ka ko).body [some (pv p), some (pv q)] m = .rt (pv r) m := by
    unfold F_pmin
    simp only [evSs, evS, evE, evEs, evO, evC, evAnd, evOr, Res.bind, Res.thenS, SRes.seq, List.getElem?_cons_zero, List.getElem?_cons_succ, List.set_cons_zero, List.set_cons_succ, cmpE, eqE_int, optR, Option.map_some, binE, int2, biE, Bool.not_true, Bool.not_false, decide_true, decide_false, ho, ha]
  rw [e6, finC_rt]
theorem scaled_ok {ki kc e kmd kp kt : Nat} {g : Nat} {p : List Rat} {c : Rat} (h : P k = some (F_scaled g kt)) (hf : FrOk P ki kc e kmd kp kt) (hg : gv g = fr 0) (hp : FitL p) (hc : Fit c) : callE P gv sb (n + 4) k [pv p, fr c] m = .ok (pv (if c = 0 then [] else p.map fun a => a * c)) m := by
  rw [callE_eq h rfl]
  have e0 : ([pv p, fr c].map some ++ List.replicate ((F_scaled g kt).n - (F_scaled g kt).ps) none) = [some (pv p), some (fr c), none] := rfl
  rw [e0]
  have l1 := hp.1
  have e4 : evE (callE P gv sb (n + 3)) gv (.lc (.call kt [.v 2, .v 1]) [2] (.nm 2) 0 [.v 0] none) [some (pv p), some (fr c), none] m = .ok (.frl (frs (p.map fun a => a * c))) m := by
    have z := lc_pure (F := callE P gv sb (n + 3)) (gv := gv) (elt := .call kt [.v 2, .v 1]) (own := [2]) (tg := .nm 2) (it := 0) (src := [.v 0]) (env := [some (pv p), some (fr c), none]) (m := m) (xs := frs p) (fun v => match v with
      | .tup [.int a, .int b] => fr (Rat.divInt a b * c)
      | _ => .non) rfl rfl (fun x hx => ?_) (by rw [frs_len]; exact size_ok (by omega))
    · rw [z]
      unfold frs
      rw [List.map_map, List.map_map]
      congr 2
      apply List.map_congr_left
      intro a _
      show fr (Rat.divInt a.num a.den * c) = fr (a * c)
      rw [Rat.num_divInt_den]
    · unfold frs at hx
      rw [List.mem_map] at hx
      obtain ⟨a, ha, rfl⟩ := hx
      have t1 : callE P gv sb (n + 3) kt [fr a, fr c] m = .ok (fr (a * c)) m := times_ok hf (hp.2 a ha) hc
      refine ⟨[some (pv p), some (fr c), some (fr a)], rfl, ?_⟩
      have e : (match fr a with
        | .tup [.int a, .int b] => fr (Rat.divInt a b * c)
        | _ => .non) = fr (a * c) := by
        show fr (Rat.divInt a.num a.den * c) = fr (a * c)
        rw [Rat.num_divInt_den]
      rw [e]
      simp only [evE, evEs, List.getElem?_cons_zero, List.getElem?_cons_succ, Res.bind, t1]
  have e6 : evSs (callE P gv sb (n + 3)) gv sb (F_scaled g kt).body [some (pv p), some (fr c), none] m = .rt (pv (if c = 0 then [] else p.map fun a => a * c)) m := by
    unfold F_scaled
    have c1 : cmpE m .eq (fr c) (fr 0) = some (decide (c = 0)) := eq_fr (m := m)
    by_cases hz : c = 0
    · rw [if_pos hz]
      simp only [evSs, evS, SRes.seq, Res.thenS, evE, Res.bind, List.getElem?_cons_succ, List.getElem?_cons_zero, hg, c1, hz, decide_true, optR, Option.map_some, evEs]
      rfl
    · rw [if_neg hz]
      have s2 : evE (callE P gv sb (n + 3)) gv (.bi .tuple [.lc (.call kt [.v 2, .v 1]) [2] (.nm 2) 0 [.v 0] none]) [some (pv p), some (fr c), none] m = .ok (pv (p.map fun a => a * c)) m := by
        rw [evE_bi1, e4]
        rfl
      have s1 : evE (callE P gv sb (n + 3)) gv (.ite (.cmp .eq (.v 1) (.g g)) (.tup []) (.bi .tuple [.lc (.call kt [.v 2, .v 1]) [2] (.nm 2) 0 [.v 0] none])) [some (pv p), some (fr c), none] m = .ok (pv (p.map fun a => a * c)) m := by
        show ((optR m ((cmpE m .eq (fr c) (gv g)).map AV.bl)).bind _) = _
        rw [hg, c1, decide_eq_false hz]
        exact s2
      simp only [evSs, evS, s1, Res.thenS, SRes.seq]
  rw [e6, finC_rt]
theorem shifted_ok {g : Nat} {p : List Rat} {j : Nat} (h : P k = some (F_shifted g)) (hg : gv g = fr 0) (hp : p.length ≤ 400) (hj : j ≤ 400) : callE P gv sb (n + 1) k [pv p, .int j] m = .ok (pv (if p = [] then [] else List.replicate j 0 ++ p)) m := by
  rw [callE_eq h rfl]
  have e0 : ([pv p, AV.int j].map some ++ List.replicate ((F_shifted g).n - (F_shifted g).ps) none) = [some (pv p), some (.int j)] := rfl
  rw [e0]
  have c1 : cmpE m .eq (pv p) (.tup []) = some (decide (p = [])) := eq_pv (q := [])
  have e6 : evSs (callE P gv sb n) gv sb (F_shifted g).body [some (pv p), some (.int j)] m = .rt (pv (if p = [] then [] else List.replicate j 0 ++ p)) m := by
    unfold F_shifted
    have o1 : okLen ([] : List AV).length = true := by decide
    have o2 : okLen [fr 0].length = true := by show okLen 1 = true; decide
    by_cases hz : p = []
    · rw [if_pos hz]
      simp only [evSs, evS, SRes.seq, Res.thenS, evE, Res.bind, List.getElem?_cons_succ, List.getElem?_cons_zero, evEs, o1, if_true, c1, hz, decide_true, optR, Option.map_some]
      rfl
    · rw [if_neg hz]
      have m1 : mulE m (.tup [fr 0]) (.int j) = some (.tup (List.replicate j (fr 0))) := by
        show (if decide (-1000 ≤ (j : Int) ∧ (j : Int) ≤ 1000 ∧ [fr 0].length ≤ 1000) = true then some (AV.tup (repL [fr 0] ((j : Int)).toNat)) else none) = _
        rw [if_pos (by rw [decide_eq_true_eq]; refine ⟨by omega, by omega, by decide⟩), Int.toNat_natCast]
        unfold repL
        rw [rep_one]
      have m2 : addE m (.tup (List.replicate j (fr 0))) (pv p) = some (pv (List.replicate j 0 ++ p)) := by
        show (if okLen ((List.replicate j (fr 0)).length + (frs p).length) = true then some (AV.tup (List.replicate j (fr 0) ++ frs p)) else none) = _
        rw [if_pos]
        · unfold pv frs
          rw [List.map_append, List.map_replicate]
        · unfold okLen
          rw [decide_eq_true_eq, List.length_replicate, frs_len]
          exact size_ok (by omega)
      simp only [evSs, evS, SRes.seq, Res.thenS, evE, Res.bind, List.getElem?_cons_succ, List.getElem?_cons_zero, evEs, o1, o2, if_true, c1, hz, decide_false, optR, Option.map_some, hg, binE, m1, m2]
  rw [e6, finC_rt]
end
end PI
/-! Q4: heights; products of polynomials. -/
namespace PI
open PySem

/-! ### heights -/
def Bd (D M : Nat) (c : Rat) : Prop := ∃ z : Int, c * (D : Rat) = (z : Rat) ∧ z.natAbs ≤ M
def BdL (D M : Nat) (p : List Rat) : Prop := ∀ c ∈ p, Bd D M c
def Ht (u : Nat) (p : List Rat) : Prop := ∃ D : Nat, 0 < D ∧ D ≤ 2 ^ u ∧ BdL D (2 ^ u) p
theorem natCast_ne {D : Nat} (h : 0 < D) : (D : Rat) ≠ 0 := by
  intro z
  have : D = 0 := by exact_mod_cast z
  omega
theorem Bd.zero {D M : Nat} : Bd D M 0 := ⟨0, by simp [Rat.zero_mul], by simp⟩
theorem Bd.mono {D M N : Nat} {c : Rat} (h : Bd D M c) (g : M ≤ N) : Bd D N c := by
  obtain ⟨z, h1, h2⟩ := h
  exact ⟨z, h1, Nat.le_trans h2 g⟩
theorem Bd.add {D M N : Nat} {a b : Rat} (h : Bd D M a) (g : Bd D N b) : Bd D (M + N) (a + b) := by
  obtain ⟨z, h1, h2⟩ := h
  obtain ⟨w, g1, g2⟩ := g
  refine ⟨z + w, by rw [Rat.add_mul, h1, g1, Rat.intCast_add], ?_⟩
  have := Int.natAbs_add_le z w
  omega
theorem Bd.mul {D E M N : Nat} {a b : Rat} (h : Bd D M a) (g : Bd E N b) : Bd (D * E) (M * N) (a * b) := by
  obtain ⟨z, h1, h2⟩ := h
  obtain ⟨w, g1, g2⟩ := g
  refine ⟨z * w, ?_, ?_⟩
  · rw [Rat.intCast_mul, ← h1, ← g1, Rat.natCast_mul]
    grind
  · rw [Int.natAbs_mul]
    exact Nat.mul_le_mul h2 g2
theorem Bd.neg {D M : Nat} {a : Rat} (h : Bd D M a) : Bd D M (-a) := by
  obtain ⟨z, h1, h2⟩ := h
  refine ⟨-z, ?_, by rw [Int.natAbs_neg]; exact h2⟩
  rw [Rat.intCast_neg, ← h1]
  grind
theorem Bd.fit {D M : Nat} {c : Rat} (hD : 0 < D) (h : Bd D M c) (h1 : D < 2 ^ fitB) (h2 : M < 2 ^ fitB) : Fit c := by
  obtain ⟨z, e, hz⟩ := h
  have hc : c = Rat.divInt z (D : Int) := by
    rw [Rat.divInt_eq_div, ← e]
    have := natCast_ne hD
    have e2 : ((D : Int) : Rat) = (D : Rat) := rfl
    rw [e2]
    grind
  have nz : (D : Int) ≠ 0 := by omega
  have q := made_num (over := z) nz
  have hp : (0 : Int) < (D : Int) := by omega
  rw [if_pos hp, Int.one_mul, Int.one_mul, ← hc] at q
  have hg : 0 < Nat.gcd z.natAbs (D : Int).natAbs := Nat.gcd_pos_of_pos_right _ (by omega)
  constructor
  · rw [← q.1]
    refine Nat.lt_of_le_of_lt ?_ h2
    refine Nat.le_trans ?_ hz
    rw [Int.fdiv_eq_ediv_of_nonneg _ (Int.natCast_nonneg _)]
    rw [Int.natAbs_ediv_of_dvd ?_]
    · exact Nat.div_le_self _ _
    · exact Int.ofNat_dvd_left.mpr (Nat.gcd_dvd_left _ _)
  · have : ((c.den : Nat) : Int) ≤ D := by
      rw [← q.2, Int.fdiv_eq_ediv_of_nonneg _ (Int.natCast_nonneg _)]
      exact Int.ediv_le_self _ (by omega)
    omega
theorem Ht.fit {u : Nat} {p : List Rat} (h : Ht u p) (hu : u < fitB) : ∀ c ∈ p, Fit c := by
  obtain ⟨D, h1, h2, h3⟩ := h
  have : 2 ^ u < 2 ^ fitB := Nat.pow_lt_pow_right (by decide) hu
  exact fun c hc => (h3 c hc).fit h1 (by omega) this
theorem Ht.mono {u v : Nat} {p : List Rat} (h : Ht u p) (g : u ≤ v) : Ht v p := by
  obtain ⟨D, h1, h2, h3⟩ := h
  have : 2 ^ u ≤ 2 ^ v := Nat.pow_le_pow_right (by decide) g
  exact ⟨D, h1, Nat.le_trans h2 this, fun c hc => (h3 c hc).mono this⟩
theorem Ht.sub {u : Nat} {p q : List Rat} (h : Ht u p) (s : ∀ c ∈ q, c ∈ p) : Ht u q := by
  obtain ⟨D, h1, h2, h3⟩ := h
  exact ⟨D, h1, h2, fun c hc => h3 c (s c hc)⟩
theorem Ht.trim {u : Nat} {p : List Rat} (h : Ht u p) : Ht u (trim p) := h.sub fun _ => trim_mem
theorem co_mem {p : List Rat} {i : Nat} : co p i = 0 ∨ co p i ∈ p := by
  unfold co
  rw [List.getD_eq_getElem?_getD]
  cases q : p[i]? with
  | none => exact .inl rfl
  | some a => exact .inr (List.mem_of_getElem? q)
theorem BdL.co {D M : Nat} {p : List Rat} (h : BdL D M p) (i : Nat) : Bd D M (PI.co p i) := by
  rcases co_mem (p := p) (i := i) with z | z
  · rw [z]; exact .zero
  · exact h _ z

/-! ### the product, as it is reckoned -/
def addAt : List Rat → Nat → Rat → List Rat → List Rat
  | l, _, _, [] => l
  | l, s, c, b :: q => addAt (l.set s (co l s + c * b)) (s + 1) c q
def mulGo : List Rat → Nat → List Rat → List Rat → List Rat
  | l, _, [], _ => l
  | l, i, a :: p, q => mulGo (addAt l i a q) (i + 1) p q
def mulA (p q : List Rat) : List Rat := mulGo (List.replicate (p.length + q.length - 1) 0) 0 p q
theorem addAt_len : ∀ {q l : List Rat} {s : Nat} {c : Rat}, (addAt l s c q).length = l.length
  | [], l, s, c => rfl
  | b :: q, l, s, c => by
    show (addAt (l.set s _) (s + 1) c q).length = _
    rw [addAt_len, List.length_set]
theorem mulGo_len : ∀ {p q l : List Rat} {i : Nat}, (mulGo l i p q).length = l.length
  | [], q, l, i => rfl
  | a :: p, q, l, i => by
    show (mulGo (addAt l i a q) (i + 1) p q).length = _
    rw [mulGo_len, addAt_len]
theorem mulA_len {p q : List Rat} : (mulA p q).length = p.length + q.length - 1 := by
  unfold mulA; rw [mulGo_len, List.length_replicate]
theorem co_set {l : List Rat} {s i : Nat} {x : Rat} : co (l.set s x) i = if s = i ∧ i < l.length then x else co l i := by
  unfold co
  rw [List.getD_eq_getElem?_getD, List.getD_eq_getElem?_getD, List.getElem?_set]
  by_cases h : s = i
  · subst h
    by_cases h2 : s < l.length
    · simp [h2]
    · simp [h2]
  · simp [h]
theorem bdl_iff {D M : Nat} {l : List Rat} : BdL D M l ↔ ∀ i, Bd D M (co l i) := by
  refine ⟨fun h i => h.co i, fun h c hc => ?_⟩
  obtain ⟨i, hi, e⟩ := List.mem_iff_getElem.mp hc
  have := h i
  unfold co at this
  rw [List.getD_eq_getElem?_getD, List.getElem?_eq_getElem hi, e] at this
  exact this
/-- one row: what is ahead of s may be greater -/
theorem addAt_bd {D M N : Nat} : ∀ {q l : List Rat} {s : Nat} {c : Rat}, (∀ b ∈ q, Bd D N (c * b)) → (∀ i, s ≤ i → Bd D M (co l i)) → (∀ i, Bd D (M + N) (co l i)) → BdL D (M + N) (addAt l s c q)
  | [], l, s, c, _, _, h => bdl_iff.mpr h
  | b :: q, l, s, c, hb, h1, h2 => by
    show BdL D (M + N) (addAt (l.set s (co l s + c * b)) (s + 1) c q)
    refine addAt_bd (fun x hx => hb x (by simp [hx])) (fun i hi => ?_) fun i => ?_
    · rw [co_set, if_neg (by omega)]
      exact h1 i (by omega)
    · rw [co_set]
      split
      · exact (h1 s (Nat.le_refl _)).add (hb b (by simp))
      · exact h2 i
theorem mulGo_bd {D N : Nat} : ∀ {p q l : List Rat} {i M : Nat}, (∀ a ∈ p, ∀ b ∈ q, Bd D N (a * b)) → BdL D M l → BdL D (M + p.length * N) (mulGo l i p q)
  | [], q, l, i, M, _, h => by simpa [mulGo] using h
  | a :: p, q, l, i, M, hb, h => by
    have h2 := addAt_bd (s := i) (fun b hb' => hb a (by simp) b hb') (fun j _ => h.co j) fun j => (h.co j).mono (by omega)
    have h3 := mulGo_bd (p := p) (q := q) (i := i + 1) (fun x hx b hb' => hb x (by simp [hx]) b hb') h2
    have e : M + (a :: p).length * N = M + N + p.length * N := by
      rw [List.length_cons, Nat.add_mul]; omega
    rw [e]
    exact h3
theorem bdl_rep {D M j : Nat} : BdL D M (List.replicate j 0) := fun c hc => by
  rw [(List.mem_replicate.mp hc).2]; exact .zero
theorem mulA_ht {u v : Nat} {p q : List Rat} (hp : Ht u p) (hq : Ht v q) (hl : p.length ≤ 400) : Ht (u + v + 9) (mulA p q) := by
  obtain ⟨D, h1, h2, h3⟩ := hp
  obtain ⟨E, g1, g2, g3⟩ := hq
  have e : 2 ^ (u + v) = 2 ^ u * 2 ^ v := Nat.pow_add ..
  have e9 : 2 ^ (u + v + 9) = 2 ^ (u + v) * 512 := Nat.pow_add ..
  refine ⟨D * E, Nat.mul_pos h1 g1, ?_, ?_⟩
  · have := Nat.mul_le_mul h2 g2
    omega
  · have := mulGo_bd (D := D * E) (N := 2 ^ u * 2 ^ v) (p := p) (q := q) (l := List.replicate (p.length + q.length - 1) 0) (i := 0) (M := 0) (fun a ha b hb => (h3 a ha).mul (g3 b hb)) bdl_rep
    intro c hc
    refine (this c hc).mono ?_
    rw [e9, e, Nat.zero_add, Nat.mul_comm]
    exact Nat.mul_le_mul_left _ (by omega)
/-! ### the code -/
def F_ptimes (g kp kt ktr : Nat) : FD := ⟨7, 2,
    [.ite (.or [.cmp .eq (.v 0) (.tup []), .cmp .eq (.v 1) (.tup [])]) [.ret (.tup [])] [],
      .set 2 (.mk (.bin .mul (.lst [.g g]) (.bin .sub (.bin .add (.bi .len [.v 0]) (.bi .len [.v 1])) (.int 1)))),
      .for_ (.tu [3, 4]) 2 [.v 0] [.ite (.cmp .ne (.v 4) (.g g)) [.for_ (.tu [5, 6]) 2 [.v 1] [.subs (.v 2) (.bin .add (.v 3) (.v 5)) (.call kp [.sub (.v 2) (.bin .add (.v 3) (.v 5)), .call kt [.v 4, .v 6]])]] []],
      .ret (.call ktr [.v 2])]⟩
section
variable {P : Nat → Option FD} {gv : Nat → AV} {sb : Nat → Nat → Option Bool} {m : Mem} {n k : Nat}
theorem set_frs {l : List Rat} {s : Nat} {c : Rat} : (frs l).set s (fr c) = frs (l.set s c) := by
  unfold frs; rw [List.map_set]
theorem last_mem {o : AO} : (m ++ [o])[m.length]? = some o := by simp
theorem lst_last {l : List AV} : lstOf (m ++ [.lst l]) (.ref m.length) = some l := by
  show (match (m ++ [AO.lst l])[m.length]? with
    | some (.lst xs) => some xs
    | none => none) = _
  rw [last_mem]
theorem set_last {l : List AV} {s : Nat} {x : AV} (h : s < l.length) : setItE (m ++ [.lst l]) (.ref m.length) (.int s) x = some (m ++ [.lst (l.set s x)]) := by
  show (match (m ++ [AO.lst l])[m.length]? with
    | some (.lst xs) => match L2.ixN xs.length (s : Int) with
      | some j => some ((m ++ [AO.lst l]).set m.length (.lst (xs.set j x)))
      | none => none
    | none => none) = _
  rw [last_mem]
  have : L2.ixN l.length (s : Int) = some s := by
    unfold L2.ixN
    rw [if_pos (by omega), if_pos (by omega), Int.toNat_natCast]
  show (match L2.ixN l.length (s : Int) with
      | some j => some ((m ++ [AO.lst l]).set m.length (.lst (l.set j x)))
      | none => none) = _
  rw [this]
  simp
theorem at_co {l : List Rat} {s : Nat} (h : s < l.length) : L2.atI (frs l) (s : Int) = some (fr (co l s)) := at_frs (by unfold co; rw [List.getD_eq_getElem?_getD]; simp [h])
/-- a row of the product -/
theorem row_loop {ki kc e kmd kp kt : Nat} (hf : FrOk P ki kc e kmd kp kt) {o1 o2 : Option AV} {i : Nat} {a : Rat} (ha : Fit a) : ∀ (q : List Rat) (l : List Rat) (j : Nat) (w5 w6 : Option AV), i + j + q.length ≤ l.length → (∀ b ∈ q, Fit b ∧ Fit (a * b)) → (∀ s, i + j ≤ s → Fit (co l s)) →
    ∃ w5' w6', forLoop (.tu [5, 6]) (fun env m => evSs (callE P gv sb (n + 3)) gv sb [.subs (.v 2) (.bin .add (.v 3) (.v 5)) (.call kp [.sub (.v 2) (.bin .add (.v 3) (.v 5)), .call kt [.v 4, .v 6]])] env m) (enumA j (frs q)) [o1, o2, some (.ref m.length), some (.int i), some (fr a), w5, w6] (m ++ [.lst (frs l)]) =
      .nx [o1, o2, some (.ref m.length), some (.int i), some (fr a), w5', w6'] (m ++ [.lst (frs (addAt l (i + j) a q))])
  | [], l, j, w5, w6, hl, hb, hs => ⟨w5, w6, rfl⟩
  | b :: q, l, j, w5, w6, hl, hb, hs => by
    rw [List.length_cons] at hl
    have hlt : i + j < l.length := by omega
    have hs2 : ∀ s, i + (j + 1) ≤ s → Fit (co (l.set (i + j) (co l (i + j) + a * b)) s) := fun s hs' => by
      rw [co_set, if_neg (by omega)]; exact hs s (by omega)
    obtain ⟨w5', w6', ih⟩ := row_loop hf (o1 := o1) (o2 := o2) ha q (l.set (i + j) (co l (i + j) + a * b)) (j + 1) (some (.int j)) (some (fr b)) (by rw [List.length_set]; omega) (fun x hx => hb x (by simp [hx])) hs2
    refine ⟨w5', w6', ?_⟩
    have e1 : binE (m ++ [.lst (frs l)]) .add (.int i) (.int j) = some (.int ((i + j : Nat) : Int)) := by
      show some (AV.int ((i : Int) + (j : Int))) = _
      congr 1
    have t1 : callE P gv sb (n + 3) kt [fr a, fr b] (m ++ [.lst (frs l)]) = .ok (fr (a * b)) (m ++ [.lst (frs l)]) := times_ok hf ha (hb b (by simp)).1
    have t2 : callE P gv sb (n + 3) kp [fr (co l (i + j)), fr (a * b)] (m ++ [.lst (frs l)]) = .ok (fr (co l (i + j) + a * b)) (m ++ [.lst (frs l)]) := plus_ok hf (hs _ (Nat.le_refl _)) (hb b (by simp)).2
    have st : evSs (callE P gv sb (n + 3)) gv sb [.subs (.v 2) (.bin .add (.v 3) (.v 5)) (.call kp [.sub (.v 2) (.bin .add (.v 3) (.v 5)), .call kt [.v 4, .v 6]])] [o1, o2, some (.ref m.length), some (.int i), some (fr a), some (.int j), some (fr b)] (m ++ [.lst (frs l)]) =
        .nx [o1, o2, some (.ref m.length), some (.int i), some (fr a), some (.int j), some (fr b)] (m ++ [.lst (frs (l.set (i + j) (co l (i + j) + a * b)))]) := by
      refine bNx (sSubs (rCall (rCons (rSub (evE_v rfl) (rBin (evE_v rfl) (evE_v rfl) e1) ((sub_lst lst_last).trans (at_co hlt))) (rCons (rCall (rCons (evE_v rfl) (rCons (evE_v rfl) rNil)) t1) rNil)) t2) (evE_v rfl) (rBin (evE_v rfl) (evE_v rfl) e1) ((set_last (by rw [frs_len]; exact hlt)).trans ?_)) rfl
      rw [set_frs]
    have e2 : enumA j (frs (b :: q)) = .tup [.int j, fr b] :: enumA (j + 1) (frs q) := rfl
    rw [e2, for_cons (e2 := [o1, o2, some (.ref m.length), some (.int i), some (fr a), some (.int j), some (fr b)]) rfl st]
    exact ih
theorem set_co {l : List Rat} {s : Nat} : l.set s (co l s) = l := by
  apply List.ext_getElem?
  intro j
  rw [List.getElem?_set]
  by_cases h : s = j
  · subst h
    by_cases h2 : s < l.length
    · unfold co; rw [List.getD_eq_getElem?_getD]; simp [h2]
    · rw [List.getElem?_eq_none (by omega)]; simp [h2]
  · simp [h]
theorem addAt_zero : ∀ {q l : List Rat} {s : Nat}, addAt l s 0 q = l
  | [], l, s => rfl
  | b :: q, l, s => by
    show addAt (l.set s (co l s + 0 * b)) (s + 1) 0 q = l
    rw [Rat.zero_mul, Rat.add_zero, set_co, addAt_zero]
theorem prod_loop {ki kc e kmd kp kt g : Nat} (hf : FrOk P ki kc e kmd kp kt) (hg : gv g = fr 0) {o1 : Option AV} {q : List Rat} {D N : Nat} (hD : 0 < D) (hD2 : D < 2 ^ fitB) (hq : ∀ b ∈ q, Fit b) :
    ∀ (p l : List Rat) (i M : Nat) (w3 w4 w5 w6 : Option AV), i + p.length + q.length ≤ l.length + 1 → (∀ a ∈ p, Fit a ∧ ∀ b ∈ q, Bd D N (a * b)) → BdL D M l → M + p.length * N < 2 ^ fitB →
    ∃ w3' w4' w5' w6', forLoop (.tu [3, 4]) (fun env m => evSs (callE P gv sb (n + 3)) gv sb [.ite (.cmp .ne (.v 4) (.g g)) [.for_ (.tu [5, 6]) 2 [.v 1] [.subs (.v 2) (.bin .add (.v 3) (.v 5)) (.call kp [.sub (.v 2) (.bin .add (.v 3) (.v 5)), .call kt [.v 4, .v 6]])]] []] env m) (enumA i (frs p)) [o1, some (pv q), some (.ref m.length), w3, w4, w5, w6] (m ++ [.lst (frs l)]) =
      .nx [o1, some (pv q), some (.ref m.length), w3', w4', w5', w6'] (m ++ [.lst (frs (mulGo l i p q))])
  | [], l, i, M, w3, w4, w5, w6, hl, ha, hb, hM => ⟨w3, w4, w5, w6, rfl⟩
  | a :: p, l, i, M, w3, w4, w5, w6, hl, ha, hb, hM => by
    rw [List.length_cons] at hl hM
    have hM2 : M + N + p.length * N < 2 ^ fitB := by
      have : (p.length + 1) * N = p.length * N + N := Nat.succ_mul _ _
      omega
    have hb2 : BdL D (M + N) (addAt l i a q) := addAt_bd (fun b hq' => (ha a (by simp)).2 b hq') (fun j _ => hb.co j) fun j => (hb.co j).mono (by omega)
    obtain ⟨hfa, hab⟩ := ha a (by simp)
    have e2 : enumA i (frs (a :: p)) = .tup [.int i, fr a] :: enumA (i + 1) (frs p) := rfl
    have st : ∃ w5' w6', evSs (callE P gv sb (n + 3)) gv sb [.ite (.cmp .ne (.v 4) (.g g)) [.for_ (.tu [5, 6]) 2 [.v 1] [.subs (.v 2) (.bin .add (.v 3) (.v 5)) (.call kp [.sub (.v 2) (.bin .add (.v 3) (.v 5)), .call kt [.v 4, .v 6]])]] []] [o1, some (pv q), some (.ref m.length), some (.int i), some (fr a), w5, w6] (m ++ [.lst (frs l)]) =
        .nx [o1, some (pv q), some (.ref m.length), some (.int i), some (fr a), w5', w6'] (m ++ [.lst (frs (addAt l i a q))]) := by
      by_cases ha0 : a = 0
      · refine ⟨w5, w6, bNx ((sIteF (rCmp (evE_v rfl) rfl ?_)).trans rfl) ?_⟩
        · show (eqE _ (fr a) (gv g)).map (!·) = some false
          rw [hg, eq_fr, decide_eq_true ha0]; rfl
        · rw [ha0, addAt_zero]; rfl
      · obtain ⟨w5', w6', h⟩ := row_loop (gv := gv) (sb := sb) (m := m) (n := n) hf (o1 := o1) (o2 := some (pv q)) (i := i) hfa q l 0 w5 w6 (by omega) (fun b hq' => ⟨hq b hq', (hab b hq').fit hD hD2 (by omega)⟩) (fun s _ => (hb.co s).fit hD hD2 (by omega))
        refine ⟨w5', w6', bNx ((sIteT (rCmp (evE_v rfl) rfl ?_)).trans (bNx ((for_ok (rCons (evE_v rfl) rNil) rfl).trans h) rfl)) rfl⟩
        show (eqE _ (fr a) (gv g)).map (!·) = some true
        rw [hg, eq_fr, decide_eq_false ha0]; rfl
    obtain ⟨w5', w6', st⟩ := st
    obtain ⟨x3, x4, x5, x6, ih⟩ := prod_loop hf hg (o1 := o1) hD hD2 hq p (addAt l i a q) (i + 1) (M + N) (some (.int i)) (some (fr a)) w5' w6' (by rw [addAt_len]; omega) (fun x hx => ha x (by simp [hx])) hb2 hM2
    refine ⟨x3, x4, x5, x6, ?_⟩
    rw [e2, for_cons (e2 := [o1, some (pv q), some (.ref m.length), some (.int i), some (fr a), w5, w6]) rfl st]
    exact ih
theorem trim_rep : ∀ j : Nat, trim (List.replicate j (0 : Rat)) = []
  | 0 => rfl
  | j + 1 => by rw [List.replicate_succ]; show (if trim (List.replicate j 0) = [] ∧ (0 : Rat) = 0 then [] else _) = _; rw [trim_rep j]; simp
theorem mulGo_nil : ∀ {p l : List Rat} {i : Nat}, mulGo l i p [] = l
  | [], l, i => rfl
  | a :: p, l, i => by show mulGo l (i + 1) p [] = l; exact mulGo_nil
def mulP (p q : List Rat) : List Rat := trim (mulA p q)
theorem mulP_nil {p q : List Rat} (h : p = [] ∨ q = []) : mulP p q = [] := by
  unfold mulP mulA
  rcases h with h | h
  · subst h; exact trim_rep _
  · subst h; rw [mulGo_nil]; exact trim_rep _
theorem cl_app {l : List Rat} (c : Cl m) : clsd m.length (pv l) = true := (num_ok (pv_num l)).2.2.2 _
theorem rep_frs {j : Nat} : List.replicate j (fr 0) = frs (List.replicate j 0) := by unfold frs; rw [List.map_replicate]
theorem mul_lst0 {j : Int} {m : Mem} (h : -1000 ≤ j) (h2 : j ≤ 1000) : mulE m (.frl [fr 0]) (.int j) = some (.frl (frs (List.replicate j.toNat 0))) := by
  show (if decide (-(2 ^ 63) ≤ j ∧ j < 2 ^ 63 ∧ [fr 0].length * j.toNat ≤ sizeLine) = true then some (AV.frl (repL [fr 0] j.toNat)) else none) = _
  rw [if_pos]
  · unfold repL
    rw [rep_one, rep_frs]
  · rw [decide_eq_true_eq]
    refine ⟨by omega, by omega, size_ok ?_⟩
    show 1 * j.toNat ≤ 1000
    omega
theorem ptimes_ok {ki kc e kmd kp kt g ktr u v : Nat} {p q : List Rat} (h : P k = some (F_ptimes g kp kt ktr)) (hf : FrOk P ki kc e kmd kp kt) (hg : gv g = fr 0) (htr : P ktr = some (F_trimmed g)) (cl : Cl m) (hp : Ht u p) (hq : Ht v q) (hl : p.length ≤ 200) (hl2 : q.length ≤ 200) (hu : u + v + 10 ≤ fitB) :
    callE P gv sb (n + 4) k [pv p, pv q] m = .ok (pv (mulP p q)) m := by
  rw [callE_eq h rfl]
  have e0 : ([pv p, pv q].map some ++ List.replicate ((F_ptimes g kp kt ktr).n - (F_ptimes g kp kt ktr).ps) none) = [some (pv p), some (pv q), none, none, none, none, none] := rfl
  rw [e0]
  have o0 : okLen ([] : List AV).length = true := by decide
  have o1 : okLen [fr 0].length = true := by show okLen 1 = true; decide
  have c1 : cmpE m .eq (pv p) (.tup []) = some (decide (p = [])) := eq_pv (q := [])
  have c2 : cmpE m .eq (pv q) (.tup []) = some (decide (q = [])) := eq_pv (q := [])
  by_cases hz : p = [] ∨ q = []
  · have e6 : evSs (callE P gv sb (n + 3)) gv sb (F_ptimes g kp kt ktr).body [some (pv p), some (pv q), none, none, none, none, none] m = .rt (pv (mulP p q)) m := by
      rw [mulP_nil hz]
      unfold F_ptimes
      have z : evE (callE P gv sb (n + 3)) gv (.or [.cmp .eq (.v 0) (.tup []), .cmp .eq (.v 1) (.tup [])]) [some (pv p), some (pv q), none, none, none, none, none] m = .ok (.bl true) m := by
        by_cases h1 : p = []
        · exact rOrT (rCmp (evE_v rfl) (rTup rNil o0) (by rw [c1, decide_eq_true h1]))
        · have h2 : q = [] := hz.resolve_left h1
          exact rOrF (rCmp (evE_v rfl) (rTup rNil o0) (by rw [c1, decide_eq_false h1])) (rOr1 (rCmp (evE_v rfl) (rTup rNil o0) (by rw [c2, decide_eq_true h2])))
      exact bRt ((sIteT z).trans (bRt (sRet (rTup rNil o0))))
    rw [e6, finC_rt]
  · have h1 : p ≠ [] := fun z => hz (.inl z)
    have h2 : q ≠ [] := fun z => hz (.inr z)
    have lp : biE m .len [pv p] = some (.int p.length) := by
      show some (AV.int (frs p).length) = _; rw [frs_len]
    have lq : biE m .len [pv q] = some (.int q.length) := by
      show some (AV.int (frs q).length) = _; rw [frs_len]
    have pl : 0 < p.length := List.length_pos_iff.mpr h1
    have ql : 0 < q.length := List.length_pos_iff.mpr h2
    obtain ⟨D, d1, d2, d3⟩ := hp
    obtain ⟨E, g1, g2, g3⟩ := hq
    have ee : 2 ^ (u + v) = 2 ^ u * 2 ^ v := Nat.pow_add ..
    have e9 : 2 ^ (u + v + 9) = 2 ^ (u + v) * 512 := Nat.pow_add ..
    have e10 : 2 ^ (u + v + 9) < 2 ^ fitB := Nat.pow_lt_pow_right (by decide) (by omega)
    have hDE : D * E < 2 ^ fitB := by
      have := Nat.mul_le_mul d2 g2
      omega
    have hN : 0 + p.length * (2 ^ u * 2 ^ v) < 2 ^ fitB := by
      rw [Nat.zero_add]
      have : p.length * (2 ^ u * 2 ^ v) ≤ 512 * (2 ^ u * 2 ^ v) := Nat.mul_le_mul_right _ (by omega)
      omega
    have fp : ∀ a ∈ p, Fit a := Ht.fit ⟨D, d1, d2, d3⟩ (by omega)
    have fq : ∀ a ∈ q, Fit a := Ht.fit ⟨E, g1, g2, g3⟩ (by omega)
    obtain ⟨x3, x4, x5, x6, hloop⟩ := prod_loop (gv := gv) (sb := sb) (m := m) (n := n) hf hg (o1 := some (pv p)) (q := q) (D := D * E) (N := 2 ^ u * 2 ^ v) (Nat.mul_pos d1 g1) hDE fq p (List.replicate (p.length + q.length - 1) 0) 0 0 none none none none (by rw [List.length_replicate]; omega) (fun a ha => ⟨fp a ha, fun b hb => (d3 a ha).mul (g3 b hb)⟩) bdl_rep hN
    have z : evE (callE P gv sb (n + 3)) gv (.or [.cmp .eq (.v 0) (.tup []), .cmp .eq (.v 1) (.tup [])]) [some (pv p), some (pv q), none, none, none, none, none] m = .ok (.bl false) m :=
      rOrF (rCmp (evE_v rfl) (rTup rNil o0) (by rw [c1, decide_eq_false h1])) (rOr1 (rCmp (evE_v rfl) (rTup rNil o0) (by rw [c2, decide_eq_false h2])))
    have b1 : binE m .add (.int p.length) (.int q.length) = some (.int ((p.length + q.length : Nat) : Int)) := by
      show some (AV.int ((p.length : Int) + (q.length : Int))) = _
      congr 1
    have b2 : binE m .sub (.int ((p.length + q.length : Nat) : Int)) (.int 1) = some (.int ((p.length + q.length - 1 : Nat) : Int)) := by
      show some (AV.int (((p.length + q.length : Nat) : Int) - 1)) = _
      congr 2
      omega
    have b3 : binE m .mul (.frl [fr 0]) (.int ((p.length + q.length - 1 : Nat) : Int)) = some (.frl (frs (List.replicate (p.length + q.length - 1) 0))) := by
      have := mul_lst0 (j := ((p.length + q.length - 1 : Nat) : Int)) (m := m) (by omega) (by omega)
      rw [Int.toNat_natCast] at this
      exact this
    have gz : evE (callE P gv sb (n + 3)) gv (.g g) [some (pv p), some (pv q), none, none, none, none, none] m = .ok (fr 0) m := by
      show Res.ok (gv g) m = _
      rw [hg]
    have s2 : evS (callE P gv sb (n + 3)) gv sb (.set 2 (.mk (.bin .mul (.lst [.g g]) (.bin .sub (.bin .add (.bi .len [.v 0]) (.bi .len [.v 1])) (.int 1))))) [some (pv p), some (pv q), none, none, none, none, none] m = .nx [some (pv p), some (pv q), some (.ref m.length), none, none, none, none] (m ++ [.lst (frs (List.replicate (p.length + q.length - 1) 0))]) :=
      sSet (rMk rfl (rBin (rLst (rCons gz rNil) o1) (rBin (rBin (rBi (rCons (evE_v rfl) rNil) lp) (rBi (rCons (evE_v rfl) rNil) lq) b1) rfl b2) b3))
    have ml : (mulA p q).length ≤ 1000 := by rw [mulA_len]; omega
    have tr : callE P gv sb (n + 3) ktr [.ref m.length] (m ++ [.lst (frs (mulA p q))]) = .ok (pv (mulP p q)) (m ++ [.lst (frs (mulA p q))]) := trimmed_ok htr hg lst_last ml
    have e6 : evSs (callE P gv sb (n + 3)) gv sb (F_ptimes g kp kt ktr).body [some (pv p), some (pv q), none, none, none, none, none] m = .rt (pv (mulP p q)) (m ++ [.lst (frs (mulA p q))]) := by
      unfold F_ptimes
      exact bNx (sIteF z) (bNx s2 (bNx ((for_ok (rCons (evE_v rfl) rNil) rfl).trans hloop) (bRt (sRet (rCall (rCons (evE_v rfl) rNil) tr)))))
    rw [e6, finC_rtx cl (cl_app cl)]
end
end PI
/-! Q5: division with rest. -/
namespace PI
open PySem

/-! ### as it is reckoned -/
def divGo : Nat → List Rat → List Rat → List Rat → List Rat × List Rat
  | 0, r, f, _ => (r, f)
  | t + 1, r, f, o => divGo t (addAt r t (-(co r (t + o.length - 1) / co o (o.length - 1))) o) (f.set t (co r (t + o.length - 1) / co o (o.length - 1))) o
def divL (p o : List Rat) : List Rat × List Rat := divGo (p.length + 1 - o.length) p (List.replicate (p.length + 1 - o.length) 0) o
theorem divGo_len : ∀ {t : Nat} {r f o : List Rat}, (divGo t r f o).1.length = r.length ∧ (divGo t r f o).2.length = f.length
  | 0, r, f, o => ⟨rfl, rfl⟩
  | t + 1, r, f, o => by
    show (divGo t _ _ o).1.length = _ ∧ (divGo t _ _ o).2.length = _
    obtain ⟨h1, h2⟩ := divGo_len (t := t) (r := addAt r t (-(co r (t + o.length - 1) / co o (o.length - 1))) o) (f := f.set t (co r (t + o.length - 1) / co o (o.length - 1))) (o := o)
    exact ⟨h1.trans addAt_len, h2.trans (List.length_set ..)⟩
/-- two lists with one denominator -/
def Ht2 (u : Nat) (r f : List Rat) : Prop := ∃ D : Nat, 0 < D ∧ D ≤ 2 ^ u ∧ BdL D (2 ^ u) r ∧ BdL D (2 ^ u) f
theorem Bd.scale {D M k : Nat} {c : Rat} (h : Bd D M c) : Bd (D * k) (M * k) c := by
  obtain ⟨z, h1, h2⟩ := h
  refine ⟨z * k, ?_, ?_⟩
  · rw [Rat.natCast_mul, Rat.intCast_mul, ← h1]
    have : ((k : Int) : Rat) = (k : Rat) := rfl
    rw [this]
    grind
  · rw [Int.natAbs_mul, Int.natAbs_natCast]
    exact Nat.mul_le_mul_right _ h2
/-- the quotient of two such -/
theorem Bd.div {D E M N : Nat} {a o b : Rat} (hD : 0 < D) (hE : 0 < E) (ha : Bd D M a) (ho : Bd E N o) (h0 : o ≠ 0) : ∃ k : Nat, 0 < k ∧ k ≤ N ∧ Bd (D * k) (M * E) (a / o) ∧ ∀ y, Bd E N y → Bd (D * k) (M * N) (a / o * y) := by
  obtain ⟨z, a1, a2⟩ := ha
  obtain ⟨w, o1, o2⟩ := ho
  have dn := natCast_ne hD
  have en := natCast_ne hE
  have wn : (w : Rat) ≠ 0 := by
    rw [← o1]
    intro h
    rcases Rat.mul_eq_zero.mp h with h | h
    · exact h0 h
    · exact en h
  have wn' : w ≠ 0 := fun h => wn (by rw [h]; rfl)
  have sg : ∃ s : Int, (s = 1 ∨ s = -1) ∧ w * s = (w.natAbs : Int) := by
    rcases Int.natAbs_eq w with h | h
    · exact ⟨1, .inl rfl, by rw [Int.mul_one]; exact h⟩
    · exact ⟨-1, .inr rfl, by rw [Int.mul_neg, Int.mul_one]; omega⟩
  obtain ⟨s, s1, s2⟩ := sg
  have s3 : (s : Rat) * s = 1 := by
    rcases s1 with rfl | rfl
    · rw [← Rat.intCast_mul]; rfl
    · rw [← Rat.intCast_mul]; rfl
  have s4 : s.natAbs = 1 := by rcases s1 with rfl | rfl <;> rfl
  have k1 : ((w.natAbs : Nat) : Rat) = (w : Rat) * s := by
    rw [← Rat.intCast_mul, s2]; rfl
  refine ⟨w.natAbs, by omega, o2, ⟨z * E * s, ?_, ?_⟩, fun y hy => ?_⟩
  · rw [Rat.natCast_mul, k1, Rat.intCast_mul, Rat.intCast_mul, ← a1]
    have e : ((E : Int) : Rat) = (E : Rat) := rfl
    rw [e]
    have : (w : Rat) = o * E := o1.symm
    rw [this]
    grind
  · rw [Int.natAbs_mul, Int.natAbs_mul, s4, Nat.mul_one, Int.natAbs_natCast]
    exact Nat.mul_le_mul_right _ a2
  · obtain ⟨v, y1, y2⟩ := hy
    refine ⟨z * v * s, ?_, ?_⟩
    · rw [Rat.natCast_mul, k1, Rat.intCast_mul, Rat.intCast_mul, ← a1, ← y1]
      have : (w : Rat) = o * E := o1.symm
      rw [this]
      grind
    · rw [Int.natAbs_mul, Int.natAbs_mul, s4, Nat.mul_one]
      exact Nat.mul_le_mul a2 y2
/-- a step -/
theorem div_step {u v t : Nat} {r f o : List Rat} (h : Ht2 u r f) (ho : Ht v o) (h0 : co o (o.length - 1) ≠ 0) (j : Nat) :
    Ht2 (u + v + 1) (addAt r t (-(co r j / co o (o.length - 1))) o) (f.set t (co r j / co o (o.length - 1))) ∧ (u + v + 1 < fitB → Fit (co r j / co o (o.length - 1)) ∧ ∀ b ∈ o, Fit (co r j / co o (o.length - 1) * b)) := by
  obtain ⟨D, d1, d2, d3, d4⟩ := h
  obtain ⟨E, e1, e2, e3⟩ := ho
  obtain ⟨k, k1, k2, k3, k4⟩ := Bd.div (b := 0) d1 e1 (d3.co j) (e3.co (o.length - 1)) h0
  have ee : 2 ^ (u + v) = 2 ^ u * 2 ^ v := Nat.pow_add ..
  have e9 : 2 ^ (u + v + 1) = 2 ^ (u + v) * 2 := Nat.pow_succ ..
  have m1 : 2 ^ u * k ≤ 2 ^ u * 2 ^ v := Nat.mul_le_mul_left _ k2
  have m2 : 2 ^ u * E ≤ 2 ^ u * 2 ^ v := Nat.mul_le_mul_left _ e2
  have m3 : D * k ≤ 2 ^ u * 2 ^ v := Nat.mul_le_mul d2 k2
  have dk : 0 < D * k := Nat.mul_pos d1 k1
  have hn : ∀ b ∈ o, Bd (D * k) (2 ^ u * 2 ^ v) (-(co r j / co o (o.length - 1)) * b) := fun b hb => by
    have := (k4 b (e3 b hb)).neg
    rw [Rat.neg_mul]
    exact this
  have hr : ∀ i, Bd (D * k) (2 ^ u * 2 ^ v) (co r i) := fun i => ((d3.co i).scale (k := k)).mono m1
  refine ⟨⟨D * k, dk, by omega, ?_, ?_⟩, fun hf => ?_⟩
  · have := addAt_bd (q := o) (l := r) (s := t) (c := -(co r j / co o (o.length - 1))) hn (fun i _ => hr i) fun i => (hr i).mono (Nat.le_add_right _ (2 ^ u * 2 ^ v))
    intro c hc
    exact (this c hc).mono (by omega)
  · refine bdl_iff.mpr fun i => ?_
    rw [co_set]
    split
    · exact k3.mono (by omega)
    · exact ((d4.co i).scale (k := k)).mono (by omega)
  · have : 2 ^ (u + v + 1) < 2 ^ fitB := Nat.pow_lt_pow_right (by decide) hf
    exact ⟨k3.fit dk (by omega) (by omega), fun b hb => (k4 b (e3 b hb)).fit dk (by omega) (by omega)⟩
theorem divGo_ht {v : Nat} {o : List Rat} (ho : Ht v o) (h0 : co o (o.length - 1) ≠ 0) : ∀ {t u : Nat} {r f : List Rat}, Ht2 u r f → Ht2 (u + t * (v + 1)) (divGo t r f o).1 (divGo t r f o).2
  | 0, u, r, f, h => by simpa [divGo] using h
  | t + 1, u, r, f, h => by
    have h2 := (div_step (t := t) h ho h0 (t + o.length - 1)).1
    have h3 := divGo_ht ho h0 (t := t) h2
    have e : u + (t + 1) * (v + 1) = u + v + 1 + t * (v + 1) := by rw [Nat.succ_mul]; omega
    rw [e]
    exact h3
/-! ### the code -/
def F_divided (g kt kp ko ktr e : Nat) : FD := ⟨10, 2,
    [.ite (.cmp .eq (.v 1) (.tup [])) [.rais e] [],
      .par 3 4 (.mk (.bi .list [.v 0])) (.mk (.bin .mul (.lst [.g g]) (.bi .max [.int 0, .bin .add (.bin .sub (.bi .len [.v 0]) (.bi .len [.v 1])) (.int 1)]))),
      .for_ (.nm 2) 1 [.bin .sub (.bi .len [.v 0]) (.bi .len [.v 1]), .neg (.int 1), .neg (.int 1)] [.set 5 (.call ko [.sub (.v 3) (.bin .sub (.bin .add (.v 2) (.bi .len [.v 1])) (.int 1)), .sub (.v 1) (.neg (.int 1))]),
      .subs (.v 4) (.v 2) (.v 5),
      .ite (.cmp .ne (.v 5) (.g g)) [.for_ (.tu [6, 7]) 2 [.v 1] [.setT [8, 9] (.call kt [.v 5, .v 7]),
      .subs (.v 3) (.bin .add (.v 2) (.v 6)) (.call kp [.sub (.v 3) (.bin .add (.v 2) (.v 6)), .tup [.neg (.v 8), .v 9]])]] []],
      .ret (.tup [.call ktr [.v 4], .call ktr [.v 3]])]⟩
section
variable {P : Nat → Option FD} {gv : Nat → AV} {sb : Nat → Nat → Option Bool} {m : Mem} {n k : Nat}
abbrev two (m : Mem) (r f : List Rat) : Mem := m ++ [.lst (frs r), .lst (frs f)]
theorem two_0 {r f : List Rat} : (two m r f)[m.length]? = some (.lst (frs r)) := by simp [two]
theorem two_1 {r f : List Rat} : (two m r f)[m.length + 1]? = some (.lst (frs f)) := by simp [two]
theorem lst_at {i : Nat} {l : List AV} (h : m[i]? = some (.lst l)) : lstOf m (.ref i) = some l := by
  show (match m[i]? with
    | some (.lst xs) => some xs
    | none => none) = _
  rw [h]
theorem set_at {i s : Nat} {l : List AV} {x : AV} (h : m[i]? = some (.lst l)) (hs : s < l.length) : setItE m (.ref i) (.int s) x = some (m.set i (.lst (l.set s x))) := by
  show (match m[i]? with
    | some (.lst xs) => match L2.ixN xs.length (s : Int) with
      | some j => some (m.set i (.lst (xs.set j x)))
      | none => none
    | none => none) = _
  rw [h]
  have : L2.ixN l.length (s : Int) = some s := by
    unfold L2.ixN
    rw [if_pos (by omega), if_pos (by omega), Int.toNat_natCast]
  show (match L2.ixN l.length (s : Int) with
      | some j => some (m.set i (.lst (l.set j x)))
      | none => none) = _
  rw [this]
theorem two_set0 {r f : List Rat} {s : Nat} {c : Rat} : (two m r f).set m.length (.lst ((frs r).set s (fr c))) = two m (r.set s c) f := by
  rw [set_frs]; simp [two]
theorem two_set1 {r f : List Rat} {s : Nat} {c : Rat} : (two m r f).set (m.length + 1) (.lst ((frs f).set s (fr c))) = two m r (f.set s c) := by
  rw [set_frs]; simp [two, List.set_append]
theorem add_nat {i j : Nat} : binE m .add (.int i) (.int j) = some (.int ((i + j : Nat) : Int)) := by
  show some (AV.int ((i : Int) + (j : Int))) = _
  congr 1
/-- a row taken off -/
theorem off_loop {ki kc e kmd kp kt : Nat} (hf : FrOk P ki kc e kmd kp kt) {o1 o2 : Option AV} {i : Nat} {a : Rat} {f : List Rat} (ha : Fit a) : ∀ (q : List Rat) (l : List Rat) (j : Nat) (w6 w7 w8 w9 : Option AV), i + j + q.length ≤ l.length → (∀ b ∈ q, Fit b ∧ Fit (a * b)) → (∀ s, i + j ≤ s → Fit (co l s)) →
    ∃ w6' w7' w8' w9', forLoop (.tu [6, 7]) (fun env m => evSs (callE P gv sb (n + 3)) gv sb [.setT [8, 9] (.call kt [.v 5, .v 7]), .subs (.v 3) (.bin .add (.v 2) (.v 6)) (.call kp [.sub (.v 3) (.bin .add (.v 2) (.v 6)), .tup [.neg (.v 8), .v 9]])] env m) (enumA j (frs q)) [o1, o2, some (.int i), some (.ref m.length), some (.ref (m.length + 1)), some (fr a), w6, w7, w8, w9] (two m l f) =
      .nx [o1, o2, some (.int i), some (.ref m.length), some (.ref (m.length + 1)), some (fr a), w6', w7', w8', w9'] (two m (addAt l (i + j) (-a) q) f)
  | [], l, j, w6, w7, w8, w9, hl, hb, hs => ⟨w6, w7, w8, w9, rfl⟩
  | b :: q, l, j, w6, w7, w8, w9, hl, hb, hs => by
    rw [List.length_cons] at hl
    have hlt : i + j < l.length := by omega
    have hs2 : ∀ s, i + (j + 1) ≤ s → Fit (co (l.set (i + j) (co l (i + j) + -a * b)) s) := fun s hs' => by
      rw [co_set, if_neg (by omega)]; exact hs s (by omega)
    have hneg : Fit (-(a * b)) := (hb b (by simp)).2.imp (fun h => by show (-(a * b).num).natAbs < _; rw [Int.natAbs_neg]; exact h) id
    obtain ⟨x6, x7, x8, x9, ih⟩ := off_loop hf (o1 := o1) (o2 := o2) (f := f) ha q (l.set (i + j) (co l (i + j) + -a * b)) (j + 1) (some (.int j)) (some (fr b)) (some (.int (a * b).num)) (some (.int (a * b).den)) (by rw [List.length_set]; omega) (fun x hx => hb x (by simp [hx])) hs2
    refine ⟨x6, x7, x8, x9, ?_⟩
    have t1 : callE P gv sb (n + 3) kt [fr a, fr b] (two m l f) = .ok (fr (a * b)) (two m l f) := times_ok hf ha (hb b (by simp)).1
    have t2 : callE P gv sb (n + 3) kp [fr (co l (i + j)), fr (-(a * b))] (two m l f) = .ok (fr (co l (i + j) + -a * b)) (two m l f) := by
      rw [Rat.neg_mul]; exact plus_ok hf (hs _ (Nat.le_refl _)) hneg
    have st : evSs (callE P gv sb (n + 3)) gv sb [.setT [8, 9] (.call kt [.v 5, .v 7]), .subs (.v 3) (.bin .add (.v 2) (.v 6)) (.call kp [.sub (.v 3) (.bin .add (.v 2) (.v 6)), .tup [.neg (.v 8), .v 9]])] [o1, o2, some (.int i), some (.ref m.length), some (.ref (m.length + 1)), some (fr a), some (.int j), some (fr b), w8, w9] (two m l f) =
        .nx [o1, o2, some (.int i), some (.ref m.length), some (.ref (m.length + 1)), some (fr a), some (.int j), some (fr b), some (.int (a * b).num), some (.int (a * b).den)] (two m (l.set (i + j) (co l (i + j) + -a * b)) f) := by
      refine bNx (sSetT (rCall (rCons (evE_v rfl) (rCons (evE_v rfl) rNil)) t1) rfl) (bNx (sSubs (rCall (rCons (rSub (evE_v rfl) (rBin (evE_v rfl) (evE_v rfl) add_nat) ((sub_lst (lst_at two_0)).trans (at_co hlt))) (rCons (rTup (rCons (rNeg (evE_v rfl)) (rCons (evE_v rfl) rNil)) (okLen_two _ _)) rNil)) t2) (evE_v rfl) (rBin (evE_v rfl) (evE_v rfl) add_nat) ((set_at two_0 (by rw [frs_len]; exact hlt)).trans (congrArg some two_set0))) rfl)
    have e2 : enumA j (frs (b :: q)) = .tup [.int j, fr b] :: enumA (j + 1) (frs q) := rfl
    rw [e2, for_cons (e2 := [o1, o2, some (.int i), some (.ref m.length), some (.ref (m.length + 1)), some (fr a), some (.int j), some (fr b), w8, w9]) rfl st]
    exact ih
def downs (t : Nat) : List AV := (List.range t).map fun (k : Nat) => .int ((t : Int) - 1 - (k : Int))
theorem downs_succ {t : Nat} : downs (t + 1) = .int (t : Int) :: downs t := by
  unfold downs
  rw [List.range_succ_eq_map, List.map_cons, List.map_map]
  congr 1
  · congr 1; omega
  · apply List.map_congr_left
    intro k _
    show AV.int (((t + 1 : Nat) : Int) - 1 - ((k + 1 : Nat) : Int)) = _
    congr 1
    omega
theorem itE3 {i j st : Int} : itE m 1 [.int i, .int j, .int st] = (if (inR i && inR j && decide (st = -1)) = true then some ((List.range (i - j).toNat).map fun (k : Nat) => AV.int (i - (k : Int))) else none) := rfl
theorem downs_it {a b : Nat} (ha : a ≤ 1000) (hb : b ≤ 1000) : itE m 1 [.int ((a : Int) - (b : Int)), .int (-1), .int (-1)] = some (downs (a + 1 - b)) := by
  have i1 : inR ((a : Int) - (b : Int)) = true := by
    unfold inR
    rw [decide_eq_true_eq]
    constructor <;> omega
  have i2 : inR (-1) = true := by decide
  rw [itE3, i1, i2]
  rw [if_pos (by decide)]
  have e : (((a : Int) - (b : Int)) - -1).toNat = a + 1 - b := by omega
  rw [e]
  congr 1
  unfold downs
  by_cases h : b ≤ a
  · apply List.map_congr_left
    intro k _
    congr 1
    omega
  · have z : a + 1 - b = 0 := by omega
    rw [z]; rfl
theorem last_co {o : List Rat} (h : 0 < o.length) : L2.atI (frs o) (-1) = some (fr (co o (o.length - 1))) := by
  unfold L2.atI
  have : L2.ixN (frs o).length (-1) = some (o.length - 1) := by
    unfold L2.ixN
    rw [if_neg (by omega), frs_len, if_pos (by omega)]
    congr 1
    omega
  rw [this]
  show (frs o)[o.length - 1]? = _
  unfold frs co
  rw [List.getElem?_map, List.getD_eq_getElem?_getD, List.getElem?_eq_getElem (by omega)]
  rfl
theorem div_loop {ki kc e kmd kp kt ko g v : Nat} (hf : FrOk P ki kc e kmd kp kt) (hko : P ko = some (F_over kmd)) (hg : gv g = fr 0) {o1 : Option AV} {o : List Rat} (ho : Ht v o) (h0 : co o (o.length - 1) ≠ 0) (ol : 0 < o.length) :
    ∀ (t u : Nat) (r f : List Rat) (w2 w5 w6 w7 w8 w9 : Option AV), (0 < t → t + o.length ≤ r.length + 1) → t ≤ f.length → Ht2 u r f → u + t * (v + 1) < fitB →
    ∃ w2' w5' w6' w7' w8' w9', forLoop (.nm 2) (fun env m => evSs (callE P gv sb (n + 3)) gv sb [.set 5 (.call ko [.sub (.v 3) (.bin .sub (.bin .add (.v 2) (.bi .len [.v 1])) (.int 1)), .sub (.v 1) (.neg (.int 1))]),
      .subs (.v 4) (.v 2) (.v 5),
      .ite (.cmp .ne (.v 5) (.g g)) [.for_ (.tu [6, 7]) 2 [.v 1] [.setT [8, 9] (.call kt [.v 5, .v 7]),
      .subs (.v 3) (.bin .add (.v 2) (.v 6)) (.call kp [.sub (.v 3) (.bin .add (.v 2) (.v 6)), .tup [.neg (.v 8), .v 9]])]] []] env m) (downs t) [o1, some (pv o), w2, some (.ref m.length), some (.ref (m.length + 1)), w5, w6, w7, w8, w9] (two m r f) =
      .nx [o1, some (pv o), w2', some (.ref m.length), some (.ref (m.length + 1)), w5', w6', w7', w8', w9'] (two m (divGo t r f o).1 (divGo t r f o).2)
  | 0, u, r, f, w2, w5, w6, w7, w8, w9, hr, hfl, h2, hu => ⟨w2, w5, w6, w7, w8, w9, rfl⟩
  | t + 1, u, r, f, w2, w5, w6, w7, w8, w9, hr, hfl, h2, hu => by
    have hu2 : (t + 1) * (v + 1) = t * (v + 1) + (v + 1) := Nat.succ_mul _ _
    have hr := hr (by omega)
    obtain ⟨D, d1, d2, d3, d4⟩ := id h2
    have rf : ∀ i, Fit (co r i) := fun i => by
      have : 2 ^ u < 2 ^ fitB := Nat.pow_lt_pow_right (by decide) (by omega)
      exact (d3.co i).fit d1 (by omega) this
    have of : ∀ i, Fit (co o i) := fun i => by
      rcases co_mem (p := o) (i := i) with z | z
      · rw [z]; exact fit_zero
      · exact Ht.fit ho (by omega) _ z
    obtain ⟨n2, n3⟩ := div_step (t := t) h2 ho h0 (t + o.length - 1)
    obtain ⟨cf, cb⟩ := n3 (by omega)
    generalize hc : co r (t + o.length - 1) / co o (o.length - 1) = c at n2 cf cb
    have hlt : t + o.length - 1 < r.length := by omega
    have eo : ∀ m : Mem, callE P gv sb (n + 3) ko [fr (co r (t + o.length - 1)), fr (co o (o.length - 1))] m = .ok (fr c) m := fun m => by
      rw [← hc]; exact over_ok hf hko (rf _) (of _) h0
    have lo : ∀ m : Mem, biE m .len [pv o] = some (.int o.length) := fun m => by
      show some (AV.int (frs o).length) = _; rw [frs_len]
    have b2 : ∀ m : Mem, binE m .sub (.int ((t + o.length : Nat) : Int)) (.int 1) = some (.int ((t + o.length - 1 : Nat) : Int)) := fun m => by
      show some (AV.int (((t + o.length : Nat) : Int) - 1)) = _
      congr 2
      omega
    have st : ∃ w6' w7' w8' w9', evSs (callE P gv sb (n + 3)) gv sb [.set 5 (.call ko [.sub (.v 3) (.bin .sub (.bin .add (.v 2) (.bi .len [.v 1])) (.int 1)), .sub (.v 1) (.neg (.int 1))]),
      .subs (.v 4) (.v 2) (.v 5),
      .ite (.cmp .ne (.v 5) (.g g)) [.for_ (.tu [6, 7]) 2 [.v 1] [.setT [8, 9] (.call kt [.v 5, .v 7]),
      .subs (.v 3) (.bin .add (.v 2) (.v 6)) (.call kp [.sub (.v 3) (.bin .add (.v 2) (.v 6)), .tup [.neg (.v 8), .v 9]])]] []] [o1, some (pv o), some (.int t), some (.ref m.length), some (.ref (m.length + 1)), w5, w6, w7, w8, w9] (two m r f) =
      .nx [o1, some (pv o), some (.int t), some (.ref m.length), some (.ref (m.length + 1)), some (fr c), w6', w7', w8', w9'] (two m (addAt r t (-c) o) (f.set t c)) := by
      have s1 : evS (callE P gv sb (n + 3)) gv sb (.set 5 (.call ko [.sub (.v 3) (.bin .sub (.bin .add (.v 2) (.bi .len [.v 1])) (.int 1)), .sub (.v 1) (.neg (.int 1))])) [o1, some (pv o), some (.int t), some (.ref m.length), some (.ref (m.length + 1)), w5, w6, w7, w8, w9] (two m r f) = .nx [o1, some (pv o), some (.int t), some (.ref m.length), some (.ref (m.length + 1)), some (fr c), w6, w7, w8, w9] (two m r f) :=
        sSet (rCall (rCons (rSub (evE_v rfl) (rBin (rBin (evE_v rfl) (rBi (rCons (evE_v rfl) rNil) (lo _)) add_nat) rfl (b2 _)) ((sub_lst (lst_at two_0)).trans (at_co hlt))) (rCons (rSub (evE_v rfl) (rNeg rfl) (last_co ol)) rNil)) (eo _))
      have s2 : evS (callE P gv sb (n + 3)) gv sb (.subs (.v 4) (.v 2) (.v 5)) [o1, some (pv o), some (.int t), some (.ref m.length), some (.ref (m.length + 1)), some (fr c), w6, w7, w8, w9] (two m r f) = .nx [o1, some (pv o), some (.int t), some (.ref m.length), some (.ref (m.length + 1)), some (fr c), w6, w7, w8, w9] (two m r (f.set t c)) :=
        sSubs (evE_v rfl) (evE_v rfl) (evE_v rfl) ((set_at two_1 (by rw [frs_len]; omega)).trans (congrArg some two_set1))
      by_cases hc0 : c = 0
      · refine ⟨w6, w7, w8, w9, bNx s1 (bNx s2 (bNx ((sIteF (rCmp (evE_v rfl) rfl ?_)).trans rfl) ?_))⟩
        · show (eqE _ (fr c) (gv g)).map (!·) = some false
          rw [hg, eq_fr, decide_eq_true hc0]; rfl
        · rw [hc0, show (-0 : Rat) = 0 from rfl, addAt_zero]; rfl
      · obtain ⟨x6, x7, x8, x9, h⟩ := off_loop (gv := gv) (sb := sb) (m := m) (n := n) hf (o1 := o1) (o2 := some (pv o)) (i := t) (f := f.set t c) cf o r 0 w6 w7 w8 w9 (by omega) (fun b hb => ⟨Ht.fit ho (by omega) b hb, cb b hb⟩) (fun s _ => rf s)
        refine ⟨x6, x7, x8, x9, bNx s1 (bNx s2 (bNx ((sIteT (rCmp (evE_v rfl) rfl ?_)).trans (bNx ((for_ok (rCons (evE_v rfl) rNil) rfl).trans h) rfl)) rfl))⟩
        show (eqE _ (fr c) (gv g)).map (!·) = some true
        rw [hg, eq_fr, decide_eq_false hc0]; rfl
    obtain ⟨w6', w7', w8', w9', st⟩ := st
    obtain ⟨x2, x5, x6, x7, x8, x9, ih⟩ := div_loop hf hko hg (o1 := o1) ho h0 ol t (u + v + 1) (addAt r t (-c) o) (f.set t c) (some (.int t)) (some (fr c)) w6' w7' w8' w9' (by rw [addAt_len]; omega) (by rw [List.length_set]; omega) n2 (by omega)
    refine ⟨x2, x5, x6, x7, x8, x9, ?_⟩
    rw [downs_succ, for_cons (e2 := [o1, some (pv o), some (.int t), some (.ref m.length), some (.ref (m.length + 1)), w5, w6, w7, w8, w9]) rfl st, ih]
    show _ = SRes.nx _ (two m (divGo t (addAt r t (-(co r (t + o.length - 1) / co o (o.length - 1))) o) (f.set t (co r (t + o.length - 1) / co o (o.length - 1))) o).1 (divGo t (addAt r t (-(co r (t + o.length - 1) / co o (o.length - 1))) o) (f.set t (co r (t + o.length - 1) / co o (o.length - 1))) o).2)
    rw [hc]
/-- nought is refused -/
theorem divided_nil {g kt kp ko ktr e : Nat} {p : List Rat} (h : P k = some (F_divided g kt kp ko ktr e)) : callE P gv sb (n + 1) k [pv p, .tup []] m = .exc e [] m := by
  rw [callE_eq h rfl]
  have e0 : ([pv p, AV.tup []].map some ++ List.replicate ((F_divided g kt kp ko ktr e).n - (F_divided g kt kp ko ktr e).ps) none) = [some (pv p), some (.tup []), none, none, none, none, none, none, none, none] := rfl
  rw [e0]
  have o0 : okLen ([] : List AV).length = true := by decide
  have c1 : cmpE m .eq (.tup []) (.tup []) = some true := by
    have : eqE m (pv []) (pv []) = _ := eq_pv
    rw [decide_eq_true rfl] at this
    exact this
  have e6 : evSs (callE P gv sb n) gv sb (F_divided g kt kp ko ktr e).body [some (pv p), some (.tup []), none, none, none, none, none, none, none, none] m = .exc e [] [some (pv p), some (.tup []), none, none, none, none, none, none, none, none] m := by
    unfold F_divided
    exact bExc ((sIteT (rCmp (evE_v rfl) (rTup rNil o0) c1)).trans rfl)
  rw [e6, finC_exc]
theorem divided_ok {ki kc e' kmd kp kt ko g ktr e u v : Nat} {p o : List Rat} (h : P k = some (F_divided g kt kp ko ktr e)) (hf : FrOk P ki kc e' kmd kp kt) (hko : P ko = some (F_over kmd)) (hg : gv g = fr 0) (htr : P ktr = some (F_trimmed g)) (cl : Cl m) (hp : Ht u p) (ho : Ht v o) (h0 : co o (o.length - 1) ≠ 0) (ol : 0 < o.length) (hl : p.length ≤ 400) (hl2 : o.length ≤ 400) (hu : u + (p.length + 1 - o.length) * (v + 1) < fitB) :
    callE P gv sb (n + 4) k [pv p, pv o] m = .ok (.tup [pv (trim (divL p o).2), pv (trim (divL p o).1)]) m := by
  rw [callE_eq h rfl]
  have e0 : ([pv p, pv o].map some ++ List.replicate ((F_divided g kt kp ko ktr e).n - (F_divided g kt kp ko ktr e).ps) none) = [some (pv p), some (pv o), none, none, none, none, none, none, none, none] := rfl
  rw [e0]
  have o0 : okLen ([] : List AV).length = true := by decide
  have o1 : okLen [fr 0].length = true := by show okLen 1 = true; decide
  have ne : o ≠ [] := List.length_pos_iff.mp ol
  have c1 : cmpE m .eq (pv o) (.tup []) = some false := by
    have : eqE m (pv o) (pv []) = _ := eq_pv
    rw [decide_eq_false ne] at this
    exact this
  have lp : ∀ m : Mem, biE m .len [pv p] = some (.int p.length) := fun m => by
    show some (AV.int (frs p).length) = _; rw [frs_len]
  have lo : ∀ m : Mem, biE m .len [pv o] = some (.int o.length) := fun m => by
    show some (AV.int (frs o).length) = _; rw [frs_len]
  have b1 : ∀ m : Mem, binE m .sub (.int p.length) (.int o.length) = some (.int ((p.length : Int) - (o.length : Int))) := fun m => rfl
  have b2 : ∀ m : Mem, binE m .add (.int ((p.length : Int) - (o.length : Int))) (.int 1) = some (.int ((p.length : Int) - (o.length : Int) + 1)) := fun m => rfl
  have b3 : ∀ m : Mem, biE m .max [.int 0, .int ((p.length : Int) - (o.length : Int) + 1)] = some (.int ((p.length + 1 - o.length : Nat) : Int)) := fun m => by
    show some (AV.int (if ((p.length : Int) - (o.length : Int) + 1) > 0 then _ else _)) = _
    congr 2
    split <;> omega
  have b4 : ∀ m : Mem, binE m .mul (.frl [fr 0]) (.int ((p.length + 1 - o.length : Nat) : Int)) = some (.frl (frs (List.replicate (p.length + 1 - o.length) 0))) := fun m => by
    have := mul_lst0 (j := ((p.length + 1 - o.length : Nat) : Int)) (m := m) (by omega) (by omega)
    rw [Int.toNat_natCast] at this
    exact this
  have gz : ∀ (env : Env') (m : Mem), evE (callE P gv sb (n + 3)) gv (.g g) env m = .ok (fr 0) m := fun env m => by
    show Res.ok (gv g) m = _
    rw [hg]
  have s2 : evS (callE P gv sb (n + 3)) gv sb (.par 3 4 (.mk (.bi .list [.v 0])) (.mk (.bin .mul (.lst [.g g]) (.bi .max [.int 0, .bin .add (.bin .sub (.bi .len [.v 0]) (.bi .len [.v 1])) (.int 1)])))) [some (pv p), some (pv o), none, none, none, none, none, none, none, none] m =
      .nx [some (pv p), some (pv o), none, some (.ref m.length), some (.ref (m.length + 1)), none, none, none, none, none] (two m p (List.replicate (p.length + 1 - o.length) 0)) := by
    have q1 : evE (callE P gv sb (n + 3)) gv (.mk (.bi .list [.v 0])) [some (pv p), some (pv o), none, none, none, none, none, none, none, none] m = .ok (.ref m.length) (m ++ [.lst (frs p)]) := rMk rfl (rBi (rCons (evE_v rfl) rNil) rfl)
    have q2 : evE (callE P gv sb (n + 3)) gv (.mk (.bin .mul (.lst [.g g]) (.bi .max [.int 0, .bin .add (.bin .sub (.bi .len [.v 0]) (.bi .len [.v 1])) (.int 1)]))) [some (pv p), some (pv o), none, none, none, none, none, none, none, none] (m ++ [.lst (frs p)]) = .ok (.ref (m.length + 1)) (two m p (List.replicate (p.length + 1 - o.length) 0)) := by
      have := rMk (F := callE P gv sb (n + 3)) (gv := gv) (env := [some (pv p), some (pv o), none, none, none, none, none, none, none, none]) (m := m ++ [.lst (frs p)]) (a := .bin .mul (.lst [.g g]) (.bi .max [.int 0, .bin .add (.bin .sub (.bi .len [.v 0]) (.bi .len [.v 1])) (.int 1)])) rfl (rBin (rLst (rCons (gz _ _) rNil) o1) (rBi (rCons rfl (rCons (rBin (rBin (rBi (rCons (evE_v rfl) rNil) (lp _)) (rBi (rCons (evE_v rfl) rNil) (lo _)) (b1 _)) rfl (b2 _)) rNil)) (b3 _)) (b4 _))
      rw [List.length_append, List.append_assoc] at this
      exact this
    exact sPar q1 q2
  have h2 : Ht2 u p (List.replicate (p.length + 1 - o.length) 0) := by
    obtain ⟨D, d1, d2, d3⟩ := hp
    exact ⟨D, d1, d2, d3, bdl_rep⟩
  obtain ⟨x2, x5, x6, x7, x8, x9, hloop⟩ := div_loop (gv := gv) (sb := sb) (m := m) (n := n) hf hko hg (o1 := some (pv p)) ho h0 ol (p.length + 1 - o.length) u p (List.replicate (p.length + 1 - o.length) 0) none none none none none none (by omega) (by rw [List.length_replicate]; omega) h2 hu
  obtain ⟨k1, k2⟩ := divGo_len (t := p.length + 1 - o.length) (r := p) (f := List.replicate (p.length + 1 - o.length) 0) (o := o)
  rw [List.length_replicate] at k2
  have t1 : callE P gv sb (n + 3) ktr [.ref (m.length + 1)] (two m (divL p o).1 (divL p o).2) = .ok (pv (trim (divL p o).2)) (two m (divL p o).1 (divL p o).2) := trimmed_ok htr hg (lst_at two_1) (by show (divGo _ _ _ _).2.length ≤ _; rw [k2]; omega)
  have t2 : callE P gv sb (n + 3) ktr [.ref m.length] (two m (divL p o).1 (divL p o).2) = .ok (pv (trim (divL p o).1)) (two m (divL p o).1 (divL p o).2) := trimmed_ok htr hg (lst_at two_0) (by show (divGo _ _ _ _).1.length ≤ _; rw [k1]; omega)
  have e6 : evSs (callE P gv sb (n + 3)) gv sb (F_divided g kt kp ko ktr e).body [some (pv p), some (pv o), none, none, none, none, none, none, none, none] m = .rt (.tup [pv (trim (divL p o).2), pv (trim (divL p o).1)]) (two m (divL p o).1 (divL p o).2) := by
    unfold F_divided
    refine bNx (sIteF (rCmp (evE_v rfl) (rTup rNil o0) c1)) (bNx s2 (bNx ((for_ok (rCons (rBin (rBi (rCons (evE_v rfl) rNil) (lp _)) (rBi (rCons (evE_v rfl) rNil) (lo _)) (b1 _)) (rCons (rNeg rfl) (rCons (rNeg rfl) rNil))) (downs_it (by omega) (by omega))).trans hloop) (bRt (sRet (rTup (rCons (rCall (rCons (evE_v rfl) rNil) t1) (rCons (rCall (rCons (evE_v rfl) rNil) t2) rNil)) (okLen_two _ _))))))
  have cc : clsd m.length (.tup [pv (trim (divL p o).2), pv (trim (divL p o).1)]) = true := by
    show (clsd m.length (pv _) && (clsd m.length (pv _) && true)) = true
    rw [cl_app cl, cl_app cl]; rfl
  rw [e6, finC_rtx cl cc]
end
end PI
/-! Q6: polynomials by their values. -/
namespace PI
open PySem

def ev : List Rat → Rat → Rat
  | [], _ => 0
  | a :: p, x => a + x * ev p x
theorem ev_set : ∀ {l : List Rat} {s : Nat} {d : Rat} {x : Rat}, s < l.length → ev (l.set s (co l s + d)) x = ev l x + d * x ^ s
  | [], s, d, x, h => by cases h
  | a :: l, 0, d, x, h => by
    show (a + d) + x * ev l x = a + x * ev l x + d * x ^ 0
    rw [Rat.pow_zero]; grind
  | a :: l, s + 1, d, x, h => by
    have ih := ev_set (l := l) (s := s) (d := d) (x := x) (by simpa using h)
    show a + x * ev (l.set s (co l s + d)) x = a + x * ev l x + d * x ^ (s + 1)
    rw [ih, Rat.pow_succ]; grind
theorem ev_addAt : ∀ {q l : List Rat} {s : Nat} {c x : Rat}, s + q.length ≤ l.length → ev (addAt l s c q) x = ev l x + c * x ^ s * ev q x
  | [], l, s, c, x, h => by
    show ev l x = ev l x + c * x ^ s * 0
    grind
  | b :: q, l, s, c, x, h => by
    rw [List.length_cons] at h
    show ev (addAt (l.set s (co l s + c * b)) (s + 1) c q) x = ev l x + c * x ^ s * (b + x * ev q x)
    rw [ev_addAt (by rw [List.length_set]; omega), ev_set (by omega), Rat.pow_succ]
    grind
theorem ev_mulGo : ∀ {p q l : List Rat} {i : Nat} {x : Rat}, i + p.length + q.length ≤ l.length + 1 → ev (mulGo l i p q) x = ev l x + x ^ i * ev p x * ev q x
  | [], q, l, i, x, h => by
    show ev l x = ev l x + x ^ i * 0 * ev q x
    grind
  | a :: p, q, l, i, x, h => by
    rw [List.length_cons] at h
    show ev (mulGo (addAt l i a q) (i + 1) p q) x = ev l x + x ^ i * (a + x * ev p x) * ev q x
    rw [ev_mulGo (by rw [addAt_len]; omega), ev_addAt (by omega), Rat.pow_succ]
    grind
theorem ev_rep : ∀ {j : Nat} {x : Rat}, ev (List.replicate j 0) x = 0
  | 0, x => rfl
  | j + 1, x => by rw [List.replicate_succ]; show 0 + x * ev (List.replicate j 0) x = 0; rw [ev_rep]; grind
theorem ev_trim : ∀ {p : List Rat} {x : Rat}, ev (trim p) x = ev p x
  | [], x => rfl
  | a :: p, x => by
    have ih := ev_trim (p := p) (x := x)
    unfold trim
    split
    · rename_i h
      rw [h.1] at ih
      show 0 = a + x * ev p x
      rw [← ih, h.2]
      show (0 : Rat) = 0 + x * 0
      grind
    · show a + x * ev (trim p) x = a + x * ev p x
      rw [ih]
theorem ev_mulP {p q : List Rat} {x : Rat} : ev (mulP p q) x = ev p x * ev q x := by
  unfold mulP mulA
  rw [ev_trim]
  by_cases hz : p = [] ∨ q = []
  · rcases hz with h | h
    · subst h
      show ev (List.replicate _ 0) x = 0 * _
      rw [ev_rep]; grind
    · subst h
      rw [mulGo_nil, ev_rep]
      show (0 : Rat) = _ * 0
      grind
  · have h1 : 0 < p.length := List.length_pos_iff.mpr fun z => hz (.inl z)
    have h2 : 0 < q.length := List.length_pos_iff.mpr fun z => hz (.inr z)
    rw [ev_mulGo (by rw [List.length_replicate]; omega), ev_rep, Rat.pow_zero]
    grind
theorem ev_map_mul : ∀ {p : List Rat} {c x : Rat}, ev (p.map fun a => a * c) x = ev p x * c
  | [], c, x => by show (0 : Rat) = 0 * c; grind
  | a :: p, c, x => by
    show a * c + x * ev (p.map fun a => a * c) x = (a + x * ev p x) * c
    rw [ev_map_mul]; grind
theorem ev_map_neg : ∀ {p : List Rat} {x : Rat}, ev (p.map fun a => -a) x = -ev p x
  | [], x => by show (0 : Rat) = -0; rfl
  | a :: p, x => by
    show -a + x * ev (p.map fun a => -a) x = -(a + x * ev p x)
    rw [ev_map_neg]; grind
theorem ev_app : ∀ {p q : List Rat} {x : Rat}, ev (p ++ q) x = ev p x + x ^ p.length * ev q x
  | [], q, x => by show ev q x = 0 + x ^ 0 * ev q x; rw [Rat.pow_zero]; grind
  | a :: p, q, x => by
    show a + x * ev (p ++ q) x = a + x * ev p x + x ^ (p.length + 1) * ev q x
    rw [ev_app, Rat.pow_succ]; grind
/-- by its coefficients -/
theorem co_cons {a : Rat} {p : List Rat} {i : Nat} : co (a :: p) (i + 1) = co p i := rfl
theorem ev_range : ∀ {n : Nat} {f : Nat → Rat} {x : Rat}, ev ((List.range (n + 1)).map f) x = f 0 + x * ev ((List.range n).map fun i => f (i + 1)) x := fun {n f x} => by
  rw [List.range_succ_eq_map, List.map_cons, List.map_map]
  rfl
theorem ev_co : ∀ {p : List Rat} {n : Nat} {x : Rat}, p.length ≤ n → ev ((List.range n).map (co p)) x = ev p x
  | [], n, x, h => by
    have : (List.range n).map (co []) = List.replicate n 0 := by
      apply List.ext_getElem
      · simp
      · intro i h1 h2
        simp [co]
    rw [this, ev_rep]; rfl
  | a :: p, 0, x, h => by cases h
  | a :: p, n + 1, x, h => by
    rw [ev_range]
    show a + x * ev ((List.range n).map (co p)) x = a + x * ev p x
    rw [ev_co (by simpa using h)]
theorem ev_range_add : ∀ {n : Nat} {f g : Nat → Rat} {x : Rat}, ev ((List.range n).map fun i => f i + g i) x = ev ((List.range n).map f) x + ev ((List.range n).map g) x
  | 0, f, g, x => by show (0 : Rat) = 0 + 0; exact (Rat.add_zero 0).symm
  | n + 1, f, g, x => by
    rw [ev_range, ev_range, ev_range, ev_range_add]; grind
theorem ev_addL {p q : List Rat} {x : Rat} : ev (addL p q) x = ev p x + ev q x := by
  unfold addL
  rw [ev_range_add, ev_co (by omega), ev_co (by omega)]
theorem co_addAt : ∀ {q l : List Rat} {s i : Nat} {c : Rat}, s + q.length ≤ l.length → co (addAt l s c q) i = co l i + (if s ≤ i then c * co q (i - s) else 0)
  | [], l, s, i, c, h => by
    show co l i = _
    have : co [] (i - s) = 0 := rfl
    rw [this]
    split <;> grind
  | b :: q, l, s, i, c, h => by
    rw [List.length_cons] at h
    show co (addAt (l.set s (co l s + c * b)) (s + 1) c q) i = _
    rw [co_addAt (by rw [List.length_set]; omega), co_set]
    by_cases h1 : s = i
    · subst h1
      rw [if_pos ⟨rfl, by omega⟩, if_neg (by omega), if_pos (Nat.le_refl _), Nat.sub_self]
      show _ = _ + c * b
      grind
    · rw [if_neg (by omega)]
      by_cases h2 : s ≤ i
      · rw [if_pos (by omega), if_pos h2]
        obtain ⟨d, rfl⟩ : ∃ d, i = s + 1 + d := ⟨i - s - 1, by omega⟩
        have e1 : s + 1 + d - (s + 1) = d := by omega
        have e2 : s + 1 + d - s = d + 1 := by omega
        rw [e1, e2, co_cons]
      · rw [if_neg (by omega), if_neg h2]
theorem trim_le : ∀ {p : List Rat} {k : Nat}, (∀ i, k ≤ i → co p i = 0) → (trim p).length ≤ k
  | [], k, h => Nat.zero_le _
  | a :: p, 0, h => by
    have : trim p = [] := List.length_eq_zero_iff.mp (Nat.le_zero.mp (trim_le (k := 0) fun i _ => h (i + 1) (Nat.zero_le _)))
    unfold trim
    rw [if_pos ⟨this, h 0 (Nat.le_refl _)⟩]
    exact Nat.le_refl _
  | a :: p, k + 1, h => by
    have := trim_le (p := p) (k := k) fun i hi => h (i + 1) (by omega)
    unfold trim
    split
    · exact Nat.zero_le _
    · simp; exact this
theorem co_high {p : List Rat} {i : Nat} (h : p.length ≤ i) : co p i = 0 := by
  unfold co
  rw [List.getD_eq_getElem?_getD, List.getElem?_eq_none h]; rfl
/-- the division -/
theorem divGo_ok {o : List Rat} (h0 : co o (o.length - 1) ≠ 0) (ol : 0 < o.length) : ∀ {t : Nat} {r f : List Rat}, (0 < t → t + o.length ≤ r.length + 1) → t ≤ f.length → (∀ i, t + o.length - 1 ≤ i → co r i = 0) → (∀ i, i < t → co f i = 0) →
    (∀ x, ev (divGo t r f o).2 x * ev o x + ev (divGo t r f o).1 x = ev f x * ev o x + ev r x) ∧ ∀ i, o.length - 1 ≤ i → co (divGo t r f o).1 i = 0
  | 0, r, f, hr, hf, h1, h2 => ⟨fun _ => rfl, fun i hi => h1 i (by omega)⟩
  | t + 1, r, f, hr, hf, h1, h2 => by
    have hr := hr (by omega)
    generalize hc : co r (t + o.length - 1) / co o (o.length - 1) = c
    have hc2 : c * co o (o.length - 1) = co r (t + o.length - 1) := by rw [← hc]; grind
    have e : divGo (t + 1) r f o = divGo t (addAt r t (-c) o) (f.set t c) o := by
      show divGo t _ _ o = _
      rw [hc]
    rw [e]
    have cf : f.set t c = f.set t (co f t + c) := by rw [h2 t (by omega)]; congr 1; grind
    obtain ⟨g1, g2⟩ := divGo_ok h0 ol (t := t) (r := addAt r t (-c) o) (f := f.set t c) (by rw [addAt_len]; omega) (by rw [List.length_set]; omega) (fun i hi => by
      rw [co_addAt (by omega), if_pos (by omega)]
      by_cases z : i = t + o.length - 1
      · have e2 : i - t = o.length - 1 := by omega
        rw [e2, z, ← hc2]; grind
      · rw [h1 i (by omega), co_high (p := o) (by omega)]; grind) (fun i hi => by
      rw [co_set, if_neg (by omega)]; exact h2 i (by omega))
    refine ⟨fun x => ?_, g2⟩
    rw [g1 x, cf, ev_set (by omega), ev_addAt (by omega)]
    grind
theorem co_rep {j i : Nat} : co (List.replicate j 0) i = 0 := by
  rcases co_mem (p := List.replicate j (0 : Rat)) (i := i) with h | h
  · exact h
  · exact (List.mem_replicate.mp h).2
theorem divL_ok {p o : List Rat} (h0 : co o (o.length - 1) ≠ 0) (ol : 0 < o.length) : (∀ x, ev p x = ev (trim (divL p o).2) x * ev o x + ev (trim (divL p o).1) x) ∧ (trim (divL p o).1).length < o.length := by
  obtain ⟨h1, h2⟩ := divGo_ok h0 ol (t := p.length + 1 - o.length) (r := p) (f := List.replicate (p.length + 1 - o.length) 0) (by omega) (by simp) (fun i hi => co_high (by omega)) (fun i _ => co_rep)
  refine ⟨fun x => ?_, ?_⟩
  · have := h1 x
    rw [ev_rep] at this
    rw [ev_trim, ev_trim]
    unfold divL
    rw [this]; grind
  · have := trim_le (p := (divL p o).1) (k := o.length - 1) h2
    omega
/-! ### a polynomial that is nought at all great places is nought -/
/-- taken apart at r -/
def sd : List Rat → Rat → List Rat
  | [], _ => []
  | [_], _ => []
  | _ :: b :: p, r => ev (b :: p) r :: sd (b :: p) r
theorem sd_len : ∀ {p : List Rat} {r : Rat}, (sd p r).length = p.length - 1
  | [], r => rfl
  | [a], r => rfl
  | a :: b :: p, r => by
    show (sd (b :: p) r).length + 1 = _
    rw [sd_len]; simp
theorem ev_sd : ∀ {p : List Rat} {r x : Rat}, ev p x = ev p r + (x - r) * ev (sd p r) x
  | [], r, x => by show (0 : Rat) = 0 + (x - r) * 0; grind
  | [a], r, x => by show a + x * 0 = a + r * 0 + (x - r) * 0; grind
  | a :: b :: p, r, x => by
    have ih := ev_sd (p := b :: p) (r := r) (x := x)
    show a + x * ev (b :: p) x = a + r * ev (b :: p) r + (x - r) * (ev (b :: p) r + x * ev (sd (b :: p) r) x)
    rw [ih]; grind
theorem sd_zero : ∀ {p : List Rat} {r : Rat}, (∀ a ∈ sd p r, a = 0) → ev p r = 0 → ∀ a ∈ p, a = 0
  | [], r, _, _ => fun a h => by cases h
  | [a], r, _, h => fun b hb => by
    have h : a + r * 0 = 0 := h
    rw [List.mem_singleton.mp hb]; grind
  | a :: b :: p, r, h, h0 => by
    have e : ev (b :: p) r = 0 := h _ (by show _ ∈ ev (b :: p) r :: _; simp)
    have ih := sd_zero (p := b :: p) (r := r) (fun c hc => h c (by show _ ∈ _ :: sd (b :: p) r; simp [hc])) e
    have h0 : a + r * ev (b :: p) r = 0 := h0
    rw [e] at h0
    intro c hc
    rcases List.mem_cons.mp hc with z | z
    · rw [z]; grind
    · exact ih c z
theorem all_zero : ∀ (n : Nat) {p : List Rat} {N : Nat}, p.length = n → (∀ x : Nat, N ≤ x → ev p x = 0) → ∀ a ∈ p, a = 0
  | 0, p, N, hl, h => by
    rw [List.length_eq_zero_iff.mp hl]; intro a ha; cases ha
  | n + 1, p, N, hl, h => by
    have e := h N (Nat.le_refl _)
    refine sd_zero (r := (N : Rat)) (all_zero n (N := N + 1) (by rw [sd_len]; omega) fun x hx => ?_) e
    have := ev_sd (p := p) (r := (N : Rat)) (x := (x : Rat))
    rw [e, h x (by omega)] at this
    have ne : (x : Rat) - N ≠ 0 := by
      intro z
      have : (x : Rat) = N := by grind
      have : x = N := by exact_mod_cast this
      omega
    have h3 : ((x : Rat) - N) * ev (sd p N) x = 0 := by grind
    rcases Rat.mul_eq_zero.mp h3 with z | z
    · exact absurd z ne
    · exact z
theorem trim_nil_iff {p : List Rat} : trim p = [] ↔ ∀ a ∈ p, a = 0 := by
  constructor
  · intro h a ha
    have h2 : ∀ {p : List Rat}, trim p = [] → ∀ a ∈ p, a = 0 := by
      intro p
      induction p with
      | nil => intro _ a ha; cases ha
      | cons b p ih =>
        intro h a ha
        unfold trim at h
        split at h
        · rename_i q
          rcases List.mem_cons.mp ha with z | z
          · rw [z]; exact q.2
          · exact ih q.1 a z
        · cases h
    exact h2 h a ha
  · intro h
    refine List.length_eq_zero_iff.mp (Nat.le_zero.mp (trim_le fun i _ => ?_))
    rcases co_mem (p := p) (i := i) with z | z
    · exact z
    · exact h _ z
theorem ev_zero {p : List Rat} (h : ∀ x, ev p x = 0) : trim p = [] := trim_nil_iff.mpr (all_zero p.length (N := 0) rfl fun x _ => h x)
/-- the same at all places: the same, but for trailing noughts -/
theorem trim_ext : ∀ {p q : List Rat}, (∀ x, ev p x = ev q x) → trim p = trim q
  | [], q, h => (ev_zero (p := q) fun x => (h x).symm).symm
  | a :: p, [], h => ev_zero (p := a :: p) fun x => h x
  | a :: p, b :: q, h => by
    have h0 : a + 0 * ev p 0 = b + 0 * ev q 0 := h 0
    have e : a = b := by grind
    subst e
    have h2 : ∀ x, ev (addL p (q.map fun a => -a)) x = 0 := by
      have h3 := all_zero (addL p (q.map fun a => -a)).length (p := addL p (q.map fun a => -a)) (N := 1) rfl fun x hx => by
        have := h (x : Rat)
        have : a + (x : Rat) * ev p x = a + (x : Rat) * ev q x := this
        rw [ev_addL, ev_map_neg]
        have nz : (x : Rat) ≠ 0 := natCast_ne (by omega)
        have h4 : (x : Rat) * (ev p x + -ev q x) = 0 := by grind
        rcases Rat.mul_eq_zero.mp h4 with z | z
        · exact absurd z nz
        · exact z
      intro x
      have h5 := trim_nil_iff.mpr h3
      have := ev_trim (p := addL p (q.map fun a => -a)) (x := x)
      rw [h5] at this
      exact this.symm
    have ih := trim_ext (p := p) (q := q) fun x => by
      have := h2 x
      rw [ev_addL, ev_map_neg] at this
      grind
    unfold trim
    rw [ih]
end PI
/-! Q7: monic ones, common divisors, derived, values: the code. -/
namespace PI
open PySem

def lead (p : List Rat) : Rat := co p (p.length - 1)
def unitL (p : List Rat) : List Rat := if p = [] then [] else p.map fun a => a * (1 / lead p)
/-- trimmed -/
def Tr (p : List Rat) : Prop := trim p = p
theorem Tr.lead {p : List Rat} (h : Tr p) (ne : p ≠ []) : PI.lead p ≠ 0 := by
  have hl : 0 < p.length := List.length_pos_iff.mpr ne
  have e : (trim p).getLast? = some (PI.lead p) := by
    rw [h, List.getLast?_eq_getElem?]
    unfold PI.lead co
    rw [List.getD_eq_getElem?_getD, List.getElem?_eq_getElem (by omega)]
    rfl
  exact trim_nolast e
theorem tr_trim (p : List Rat) : Tr (trim p) := trim_trim p
theorem lead_mem {p : List Rat} (ne : p ≠ []) : lead p ∈ p := by
  have hl : 0 < p.length := List.length_pos_iff.mpr ne
  unfold lead co
  rw [List.getD_eq_getElem?_getD, List.getElem?_eq_getElem (by omega)]
  exact List.getElem_mem _
theorem unitL_len {p : List Rat} : (unitL p).length = p.length := by
  unfold unitL
  split
  · rename_i h; rw [h]
  · simp
theorem unitL_nil {p : List Rat} : unitL p = [] ↔ p = [] := by
  constructor
  · intro h
    have := unitL_len (p := p)
    rw [h] at this
    exact List.length_eq_zero_iff.mp this.symm
  · intro h; subst h; rfl
theorem co_map {p : List Rat} {f : Rat → Rat} (h : f 0 = 0) {i : Nat} : co (p.map f) i = f (co p i) := by
  unfold co
  rw [List.getD_eq_getElem?_getD, List.getD_eq_getElem?_getD, List.getElem?_map]
  cases p[i]? with
  | none => exact h.symm
  | some a => rfl
theorem lead_unitL {p : List Rat} (h : lead p ≠ 0) (ne : p ≠ []) : lead (unitL p) = 1 := by
  show co (unitL p) ((unitL p).length - 1) = 1
  rw [unitL_len]
  unfold unitL
  rw [if_neg ne, co_map (by grind)]
  show lead p * (1 / lead p) = 1
  grind
theorem tr_of_lead {p : List Rat} (h : p = [] ∨ lead p ≠ 0) : Tr p := by
  rcases h with h | h
  · subst h; rfl
  · refine trim_last fun a ha => ?_
    rw [List.getLast?_eq_getElem?] at ha
    have : lead p = a := by
      unfold lead co
      rw [List.getD_eq_getElem?_getD, ha]; rfl
    rw [← this]; exact h
theorem unitL_tr {p : List Rat} (h : Tr p) : Tr (unitL p) := by
  by_cases ne : p = []
  · subst ne; rfl
  · exact tr_of_lead (.inr (by rw [lead_unitL (h.lead ne) ne]; decide))
theorem ev_unitL {p : List Rat} {x : Rat} : ev (unitL p) x = ev p x * (1 / lead p) := by
  unfold unitL
  split
  · rename_i h; subst h; show (0 : Rat) = 0 * _; grind
  · rw [ev_map_mul]
/-- a ratio of two with one denominator -/
theorem Bd.ratio {D M N : Nat} {a o : Rat} (hD : 0 < D) (ha : Bd D M a) (ho : Bd D N o) (h0 : o ≠ 0) : ∃ k : Nat, 0 < k ∧ k ≤ N ∧ ∀ y, Bd D M y → Bd k M (y * (1 / o)) := by
  obtain ⟨w, o1, o2⟩ := ho
  have dn := natCast_ne hD
  have wn : (w : Rat) ≠ 0 := by
    rw [← o1]
    intro h
    rcases Rat.mul_eq_zero.mp h with h | h
    · exact h0 h
    · exact dn h
  have wn' : w ≠ 0 := fun h => wn (by rw [h]; rfl)
  have sg : ∃ s : Int, (s = 1 ∨ s = -1) ∧ w * s = (w.natAbs : Int) := by
    rcases Int.natAbs_eq w with h | h
    · exact ⟨1, .inl rfl, by rw [Int.mul_one]; exact h⟩
    · exact ⟨-1, .inr rfl, by rw [Int.mul_neg, Int.mul_one]; omega⟩
  obtain ⟨s, s1, s2⟩ := sg
  have s4 : s.natAbs = 1 := by rcases s1 with rfl | rfl <;> rfl
  have k1 : ((w.natAbs : Nat) : Rat) = (w : Rat) * s := by
    rw [← Rat.intCast_mul, s2]; rfl
  refine ⟨w.natAbs, by omega, o2, fun y hy => ?_⟩
  obtain ⟨v, y1, y2⟩ := hy
  refine ⟨v * s, ?_, ?_⟩
  · rw [k1, Rat.intCast_mul, ← y1, ← o1]
    grind
  · rw [Int.natAbs_mul, s4, Nat.mul_one]
    exact y2
theorem unitL_ht {u : Nat} {p : List Rat} (h : Ht u p) (h0 : p = [] ∨ lead p ≠ 0) : Ht u (unitL p) := by
  by_cases ne : p = []
  · subst ne; exact h
  · obtain ⟨D, d1, d2, d3⟩ := h
    obtain ⟨k, k1, k2, k3⟩ := Bd.ratio (a := 0) (M := 2 ^ u) d1 .zero (d3 _ (lead_mem ne)) (h0.resolve_left ne)
    refine ⟨k, k1, k2, fun c hc => ?_⟩
    unfold unitL at hc
    rw [if_neg ne, List.mem_map] at hc
    obtain ⟨a, ha, rfl⟩ := hc
    exact k3 a (d3 a ha)
theorem one_lead_fit {u : Nat} {p : List Rat} (h : Ht u p) (h0 : lead p ≠ 0) (ne : p ≠ []) (hu : u < fitB) : Fit (1 / lead p) := by
  obtain ⟨D, d1, d2, d3⟩ := h
  have : 2 ^ u < 2 ^ fitB := Nat.pow_lt_pow_right (by decide) hu
  obtain ⟨k, k1, k2, k3, _⟩ := Bd.div (b := 0) (a := 1) (M := 1) (D := 1) (by decide) d1 ⟨1, by grind, by decide⟩ (d3 _ (lead_mem ne)) h0
  exact k3.fit (by omega) (by omega) (by omega)
def F_wunit (ks ko g : Nat) : FD := ⟨1, 1, [.ret (.ite (.cmp .eq (.v 0) (.tup [])) (.tup []) (.call ks [.v 0, .call ko [.g g, .sub (.v 0) (.neg (.int 1))]]))]⟩
def F_common (kw kd : Nat) : FD := ⟨2, 2,
    [.wh (.cmp .ne (.v 1) (.tup [])) [.par 0 1 (.v 1) (.call kw [.sub (.call kd [.v 0, .v 1]) (.int 1)])],
      .ret (.call kw [.v 0])]⟩
section
variable {P : Nat → Option FD} {gv : Nat → AV} {sb : Nat → Nat → Option Bool} {m : Mem} {n k : Nat}
theorem eq_nil {p : List Rat} : cmpE m .eq (pv p) (.tup []) = some (decide (p = [])) := eq_pv (q := [])
theorem ne_nil {p : List Rat} : cmpE m .ne (pv p) (.tup []) = some (decide (p ≠ [])) := by
  show (eqE m (pv p) (.tup [])).map (!·) = _
  rw [show eqE m (pv p) (.tup []) = some (decide (p = [])) from eq_pv (q := [])]
  simp
theorem okLen_nil : okLen ([] : List AV).length = true := by decide
theorem wunit_ok {ki kc e kmd kp kt ko ks g0 g1 u : Nat} {p : List Rat} (h : P k = some (F_wunit ks ko g1)) (hf : FrOk P ki kc e kmd kp kt) (hko : P ko = some (F_over kmd)) (hks : P ks = some (F_scaled g0 kt)) (hg0 : gv g0 = fr 0) (hg1 : gv g1 = fr 1) (hp : Ht u p) (h0 : p = [] ∨ lead p ≠ 0) (hl : p.length ≤ 400) (hu : u < fitB) :
    callE P gv sb (n + 5) k [pv p] m = .ok (pv (unitL p)) m := by
  rw [callE_eq h rfl]
  have e0 : ([pv p].map some ++ List.replicate ((F_wunit ks ko g1).n - (F_wunit ks ko g1).ps) none) = [some (pv p)] := rfl
  rw [e0]
  by_cases ne : p = []
  · subst ne
    have e6 : evSs (callE P gv sb (n + 4)) gv sb (F_wunit ks ko g1).body [some (pv [])] m = .rt (pv (unitL [])) m :=
      bRt (sRet (rIteT (rCmp (evE_v rfl) (rTup rNil okLen_nil) (by rw [eq_nil]; rfl)) (rTup rNil okLen_nil)))
    rw [e6, finC_rt]
  · have hl0 := h0.resolve_left ne
    have fp : FitL p := ⟨hl, hp.fit hu⟩
    have fl : Fit (lead p) := hp.fit hu _ (lead_mem ne)
    have f1 := one_lead_fit hp hl0 ne hu
    have g1' : evE (callE P gv sb (n + 4)) gv (.g g1) [some (pv p)] m = .ok (fr 1) m := by
      show Res.ok (gv g1) m = _
      rw [hg1]
    have t1 : callE P gv sb (n + 4) ko [fr 1, fr (lead p)] m = .ok (fr (1 / lead p)) m := over_ok hf hko fit_one fl hl0
    have nz : (1 : Rat) / lead p ≠ 0 := by
      intro z
      have : lead p * (1 / lead p) = 1 := by grind
      rw [z] at this
      grind
    have t2 : callE P gv sb (n + 4) ks [pv p, fr (1 / lead p)] m = .ok (pv (unitL p)) m := by
      have := scaled_ok (sb := sb) (m := m) (n := n) hks hf hg0 fp f1
      rw [if_neg nz] at this
      unfold unitL
      rw [if_neg ne]
      exact this
    have e6 : evSs (callE P gv sb (n + 4)) gv sb (F_wunit ks ko g1).body [some (pv p)] m = .rt (pv (unitL p)) m :=
      bRt (sRet (rIteF (rCmp (evE_v rfl) (rTup rNil okLen_nil) (by rw [eq_nil, decide_eq_false ne])) (rCall (rCons (evE_v rfl) (rCons (rCall (rCons g1' (rCons (rSub (evE_v rfl) (rNeg rfl) (last_co (List.length_pos_iff.mpr ne))) rNil)) t1) rNil)) t2)))
    rw [e6, finC_rt]
/-- Euclid's way -/
def eucl : Nat → List Rat → List Rat → List Rat
  | 0, p, _ => p
  | t + 1, p, o => if o = [] then p else eucl t o (unitL (trim (divL p o).1))
/-- what is small enough all the way -/
structure DivOk (p o : List Rat) : Prop where
  bound : ∃ u v, Ht u p ∧ Ht v o ∧ u + (p.length + 1 - o.length) * (v + 1) < fitB
  len1 : p.length ≤ 400
  len2 : o.length ≤ 400
theorem DivOk.rest {p o : List Rat} (h : DivOk p o) (h0 : lead o ≠ 0) : ∃ u, u < fitB ∧ Ht u (trim (divL p o).1) ∧ Ht u (trim (divL p o).2) := by
  obtain ⟨u, v, hp, ho, hb⟩ := h.bound
  obtain ⟨D, d1, d2, d3⟩ := hp
  have := divGo_ht ho h0 (t := p.length + 1 - o.length) (u := u) (r := p) (f := List.replicate (p.length + 1 - o.length) 0) ⟨D, d1, d2, d3, bdl_rep⟩
  obtain ⟨E, e1, e2, e3, e4⟩ := this
  exact ⟨_, by omega, Ht.trim ⟨E, e1, e2, e3⟩, Ht.trim ⟨E, e1, e2, e4⟩⟩
/-- all that common leans on -/
structure PolyOk (P : Nat → Option FD) (gv : Nat → AV) (ki kc e kmd kp kt ko ks kw kd ktr g0 g1 : Nat) : Prop where
  f : FrOk P ki kc e kmd kp kt
  o : P ko = some (F_over kmd)
  s : P ks = some (F_scaled g0 kt)
  w : P kw = some (F_wunit ks ko g1)
  d : P kd = some (F_divided g0 kt kp ko ktr e)
  tr : P ktr = some (F_trimmed g0)
  g0 : gv g0 = fr 0
  g1 : gv g1 = fr 1
variable {ki kc e kmd kp kt ko ks kw kd ktr g0 g1 : Nat}
theorem PolyOk.divided (L : PolyOk P gv ki kc e kmd kp kt ko ks kw kd ktr g0 g1) (cl : Cl m) {p o : List Rat} (h : DivOk p o) (h0 : lead o ≠ 0) (ne : o ≠ []) : callE P gv sb (n + 4) kd [pv p, pv o] m = .ok (.tup [pv (trim (divL p o).2), pv (trim (divL p o).1)]) m := by
  obtain ⟨u, v, hp, ho, hb⟩ := h.bound
  exact divided_ok L.d L.f L.o L.g0 L.tr cl hp ho h0 (List.length_pos_iff.mpr ne) h.len1 h.len2 hb
theorem PolyOk.unit (L : PolyOk P gv ki kc e kmd kp kt ko ks kw kd ktr g0 g1) {u : Nat} {p : List Rat} (hp : Ht u p) (h0 : p = [] ∨ lead p ≠ 0) (hl : p.length ≤ 400) (hu : u < fitB) : callE P gv sb (n + 5) kw [pv p] m = .ok (pv (unitL p)) m :=
  wunit_ok L.w L.f L.o L.s L.g0 L.g1 hp h0 hl hu
theorem common_ok {kcm : Nat} (h : P kcm = some (F_common kw kd)) (L : PolyOk P gv ki kc e kmd kp kt ko ks kw kd ktr g0 g1) (cl : Cl m) (I : List Rat → List Rat → Prop) (h1 : ∀ p o, I p o → (∃ u, u < fitB ∧ Ht u p) ∧ p.length ≤ 400 ∧ Tr p ∧ Tr o) (h2 : ∀ p o, I p o → o ≠ [] → DivOk p o ∧ I o (unitL (trim (divL p o).1)))
    {p o : List Rat} (hi : I p o) (hl : o.length ≤ 400) : callE P gv sb (n + 6) kcm [pv p, pv o] m = .ok (pv (unitL (eucl o.length p o))) m := by
  rw [callE_eq h rfl]
  have e0 : ([pv p, pv o].map some ++ List.replicate ((F_common kw kd).n - (F_common kw kd).ps) none) = [some (pv p), some (pv o)] := rfl
  rw [e0]
  have loop : ∀ (t f : Nat) (p o : List Rat), I p o → o.length ≤ t → t < f → ∃ p' , (∃ o', I p' o') ∧ whLoop (fun env m => evE (callE P gv sb (n + 5)) gv (.cmp .ne (.v 1) (.tup [])) env m) (fun env m => evSs (callE P gv sb (n + 5)) gv sb [.par 0 1 (.v 1) (.call kw [.sub (.call kd [.v 0, .v 1]) (.int 1)])] env m) f [some (pv p), some (pv o)] m = .nx [some (pv p'), some (pv [])] m ∧ p' = eucl t p o := by
    intro t
    induction t with
    | zero =>
      intro f p o hi ho hf
      obtain ⟨f, rfl⟩ : ∃ g, f = g + 1 := ⟨f - 1, by omega⟩
      have : o = [] := List.length_eq_zero_iff.mp (Nat.le_zero.mp ho)
      subst this
      exact ⟨p, ⟨[], hi⟩, wh_end (rCmp (evE_v rfl) (rTup rNil okLen_nil) (by rw [ne_nil]; rfl)), rfl⟩
    | succ t ih =>
      intro f p o hi ho hf
      obtain ⟨f, rfl⟩ : ∃ g, f = g + 1 := ⟨f - 1, by omega⟩
      by_cases ne : o = []
      · subst ne
        refine ⟨p, ⟨[], hi⟩, wh_end (rCmp (evE_v rfl) (rTup rNil okLen_nil) (by rw [ne_nil]; rfl)), ?_⟩
        unfold eucl
        rw [if_pos rfl]
      · obtain ⟨dk, hi2⟩ := h2 p o hi ne
        have l0 := (h1 p o hi).2.2.2.lead ne
        obtain ⟨u, hu, hr, _⟩ := dk.rest l0
        have lt := (divL_ok (p := p) l0 (List.length_pos_iff.mpr ne)).2
        have tr := tr_trim (divL p o).1
        have z0 : trim (divL p o).1 = [] ∨ lead (trim (divL p o).1) ≠ 0 := by
          by_cases z : trim (divL p o).1 = []
          · exact .inl z
          · exact .inr (tr.lead z)
        have t1 : callE P gv sb (n + 5) kd [pv p, pv o] m = .ok (.tup [pv (trim (divL p o).2), pv (trim (divL p o).1)]) m := L.divided cl dk l0 ne
        have t2 : callE P gv sb (n + 5) kw [pv (trim (divL p o).1)] m = .ok (pv (unitL (trim (divL p o).1))) m := L.unit hr z0 (by have := dk.len2; omega) hu
        obtain ⟨p', q1, q2, q3⟩ := ih f o (unitL (trim (divL p o).1)) hi2 (by rw [unitL_len]; omega) (by omega)
        refine ⟨p', q1, ?_, ?_⟩
        · rw [wh_step (e2 := [some (pv o), some (pv (unitL (trim (divL p o).1)))]) (m2 := m) (rCmp (evE_v rfl) (rTup rNil okLen_nil) (by rw [ne_nil, decide_eq_true ne])) (bNx (sPar (evE_v rfl) (rCall (rCons (rSub (rCall (rCons (evE_v rfl) (rCons (evE_v rfl) rNil)) t1) rfl rfl) rNil) t2)) rfl)]
          exact q2
        · unfold eucl
          rw [if_neg ne]; exact q3
  obtain ⟨p', ⟨o', hi'⟩, q2, rfl⟩ := loop o.length loopK p o hi (Nat.le_refl _) (by unfold loopK; omega)
  obtain ⟨⟨u, hu, hp⟩, pl, tp, _⟩ := h1 _ o' hi'
  have z0 : eucl o.length p o = [] ∨ lead (eucl o.length p o) ≠ 0 := by
    by_cases z : eucl o.length p o = []
    · exact .inl z
    · exact .inr (tp.lead z)
  have t3 : callE P gv sb (n + 5) kw [pv (eucl o.length p o)] m = .ok (pv (unitL (eucl o.length p o))) m := L.unit hp z0 pl hu
  have e6 : evSs (callE P gv sb (n + 5)) gv sb (F_common kw kd).body [some (pv p), some (pv o)] m = .rt (pv (unitL (eucl o.length p o))) m :=
    bNx q2 (bRt (sRet (rCall (rCons (evE_v rfl) rNil) t3)))
  rw [e6, finC_rt]
end
end PI
/-! Q8: algebra of polynomials over the fractions: divisors, what is alike, derived, squarefree. -/
namespace PI
open PySem

/-- d divides p -/
def Dv (d p : List Rat) : Prop := ∃ q, ∀ x, ev p x = ev q x * ev d x
theorem Dv.refl (p : List Rat) : Dv p p := ⟨[1], fun x => by show _ = (1 + x * 0) * _; grind⟩
theorem Dv.trans {a b c : List Rat} (h : Dv a b) (g : Dv b c) : Dv a c := by
  obtain ⟨p, h⟩ := h
  obtain ⟨q, g⟩ := g
  exact ⟨mulP q p, fun x => by rw [g, h, ev_mulP]; grind⟩
theorem Dv.zero {d p : List Rat} (h : ∀ x, ev p x = 0) : Dv d p := ⟨[], fun x => by rw [h]; show (0 : Rat) = 0 * _; grind⟩
theorem Dv.mul_left {d p : List Rat} (q : List Rat) (h : Dv d p) : Dv d (mulP q p) := by
  obtain ⟨r, h⟩ := h
  exact ⟨mulP q r, fun x => by rw [ev_mulP, ev_mulP, h]; grind⟩
theorem Dv.mul_right {d p : List Rat} (q : List Rat) (h : Dv d p) : Dv d (mulP p q) := by
  obtain ⟨r, h⟩ := h
  exact ⟨mulP q r, fun x => by rw [ev_mulP, ev_mulP, h]; grind⟩
theorem Dv.add {d p q r : List Rat} (h : Dv d p) (g : Dv d q) (e : ∀ x, ev r x = ev p x + ev q x) : Dv d r := by
  obtain ⟨a, h⟩ := h
  obtain ⟨b, g⟩ := g
  exact ⟨addL a b, fun x => by rw [e, h, g, ev_addL]; grind⟩
theorem Dv.ext {d p q : List Rat} (h : Dv d p) (e : ∀ x, ev q x = ev p x) : Dv d q := by
  obtain ⟨a, h⟩ := h
  exact ⟨a, fun x => by rw [e, h]⟩
theorem Dv.extd {d e p : List Rat} (h : Dv d p) (g : ∀ x, ev e x = ev d x) : Dv e p := by
  obtain ⟨a, h⟩ := h
  exact ⟨a, fun x => by rw [h, g]⟩
/-- times a number that is not nought -/
theorem Dv.scale {d e p : List Rat} {c : Rat} (h : Dv d p) (hc : c ≠ 0) (g : ∀ x, ev e x = ev d x * c) : Dv e p := by
  obtain ⟨a, h⟩ := h
  exact ⟨a.map fun y => y * (1 / c), fun x => by rw [h, g, ev_map_mul]; grind⟩

/-! ### degrees -/
theorem co_mulGo_top : ∀ {p l q : List Rat} {i : Nat}, p ≠ [] → q ≠ [] → i + p.length + q.length ≤ l.length + 1 → co (mulGo l i p q) (i + p.length + q.length - 2) = co l (i + p.length + q.length - 2) + lead p * lead q
  | [], l, q, i, h, _, _ => absurd rfl h
  | [a], l, q, i, _, hq, hl => by
    have ql := List.length_pos_iff.mpr hq
    simp only [List.length_singleton] at hl ⊢
    show co (addAt l i a q) _ = _
    rw [co_addAt (by omega), if_pos (by omega)]
    have e : i + 1 + q.length - 2 - i = q.length - 1 := by omega
    rw [e]
    rfl
  | a :: b :: p, l, q, i, _, hq, hl => by
    have ql := List.length_pos_iff.mpr hq
    simp only [List.length_cons] at hl ⊢
    have ih := co_mulGo_top (p := b :: p) (l := addAt l i a q) (q := q) (i := i + 1) (by simp) hq (by rw [addAt_len]; simp only [List.length_cons]; omega)
    simp only [List.length_cons] at ih
    have e : i + 1 + (p.length + 1) + q.length - 2 = i + (p.length + 1 + 1) + q.length - 2 := by omega
    rw [e] at ih
    show co (mulGo (addAt l i a q) (i + 1) (b :: p) q) _ = _
    rw [ih, co_addAt (by omega), if_pos (by omega), co_high (p := q) (by omega)]
    have e2 : lead (a :: b :: p) = lead (b :: p) := rfl
    rw [e2]
    grind
theorem mulP_len {p q : List Rat} (hp : lead p ≠ 0) (hq : lead q ≠ 0) (np : p ≠ []) (nq : q ≠ []) : (mulP p q).length = p.length + q.length - 1 ∧ lead (mulP p q) = lead p * lead q := by
  have pl := List.length_pos_iff.mpr np
  have ql := List.length_pos_iff.mpr nq
  have top : lead (mulA p q) = lead p * lead q := by
    have h := co_mulGo_top (p := p) (l := List.replicate (p.length + q.length - 1) 0) (q := q) (i := 0) np nq (by rw [List.length_replicate]; omega)
    rw [co_rep, Nat.zero_add] at h
    unfold lead
    rw [mulA_len]
    have e : p.length + q.length - 1 - 1 = p.length + q.length - 2 := by omega
    rw [e]
    show co (mulGo _ 0 p q) _ = _
    rw [h]
    unfold lead
    grind
  have nz : lead (mulA p q) ≠ 0 := by
    rw [top]
    intro z
    rcases Rat.mul_eq_zero.mp z with z | z
    · exact hp z
    · exact hq z
  have e : mulP p q = mulA p q := tr_of_lead (.inr nz)
  rw [e]
  exact ⟨mulA_len, top⟩
/-- no nought but nought times something -/
theorem domain {p q : List Rat} (h : ∀ x, ev p x * ev q x = 0) : (∀ x, ev p x = 0) ∨ ∀ x, ev q x = 0 := by
  by_cases hp : trim p = []
  · left
    intro x
    have := ev_trim (p := p) (x := x)
    rw [hp] at this
    exact this.symm
  · by_cases hq : trim q = []
    · right
      intro x
      have := ev_trim (p := q) (x := x)
      rw [hq] at this
      exact this.symm
    · exfalso
      have hl := (mulP_len ((tr_trim p).lead hp) ((tr_trim q).lead hq) hp hq).1
      have e : trim (mulP (trim p) (trim q)) = [] := ev_zero fun x => by rw [ev_mulP, ev_trim, ev_trim]; exact h x
      have e2 : mulP (trim p) (trim q) = [] := by rw [← e]; exact (tr_trim _).symm
      rw [e2] at hl
      have := List.length_pos_iff.mpr hp
      have := List.length_pos_iff.mpr hq
      simp at hl
      omega
theorem cancel {a b d : List Rat} (hd : ¬ ∀ x, ev d x = 0) (h : ∀ x, ev a x * ev d x = ev b x * ev d x) : ∀ x, ev a x = ev b x := by
  have := domain (p := addL a (b.map fun y => -y)) (q := d) fun x => by
    rw [ev_addL, ev_map_neg]
    have := h x
    grind
  rcases this with z | z
  · intro x
    have := z x
    rw [ev_addL, ev_map_neg] at this
    grind
  · exact absurd z hd
theorem nz_of {p : List Rat} (h : Tr p) (ne : p ≠ []) : ¬ ∀ x, ev p x = 0 := fun z => ne (h.symm.trans (ev_zero z))
/-- a divisor of what is shorter: it is nought -/
theorem short_nil {d r : List Rat} (hd : Tr d) (nd : d ≠ []) (h : Dv d r) (hl : r.length < d.length) : ∀ x, ev r x = 0 := by
  obtain ⟨q, h⟩ := h
  by_cases hq : trim q = []
  · intro x
    have := ev_trim (p := q) (x := x)
    rw [hq] at this
    rw [h, ← this]
    show 0 * _ = (0 : Rat)
    grind
  · exfalso
    have e : trim r = mulP (trim q) d := by
      have : trim (mulP (trim q) d) = mulP (trim q) d := tr_trim _
      rw [← this]
      exact trim_ext fun x => by rw [h, ev_mulP, ev_trim]
    have hl2 := (mulP_len ((tr_trim q).lead hq) (hd.lead nd) hq nd).1
    rw [← e] at hl2
    have := trim_len r
    have := List.length_pos_iff.mpr hq
    omega
/-- no rest where it divides -/
theorem rest_nil {p d : List Rat} (hd : Tr d) (nd : d ≠ []) (h : Dv d p) : trim (divL p d).1 = [] := by
  obtain ⟨h1, h2⟩ := divL_ok (p := p) (hd.lead nd) (List.length_pos_iff.mpr nd)
  have : ∀ x, ev (trim (divL p d).1) x = 0 := by
    refine short_nil hd nd ?_ h2
    obtain ⟨q, h⟩ := h
    refine ⟨addL q ((trim (divL p d).2).map fun y => -y), fun x => ?_⟩
    rw [ev_addL, ev_map_neg]
    have e1 := h1 x
    have e2 := h x
    grind
  rw [← tr_trim (divL p d).1]
  exact ev_zero this
/-! ### the greatest common divisor -/
/-- g is one of p and o -/
structure Gcd (g p o : List Rat) : Prop where
  l : Dv g p
  r : Dv g o
  bez : ∃ a b, ∀ x, ev g x = ev a x * ev p x + ev b x * ev o x
theorem Gcd.great {g p o d : List Rat} (h : Gcd g p o) (h1 : Dv d p) (h2 : Dv d o) : Dv d g := by
  obtain ⟨a, b, e⟩ := h.bez
  exact Dv.add (h1.mul_left a) (h2.mul_left b) fun x => by rw [e, ev_mulP, ev_mulP]
theorem Gcd.scale {g e p o : List Rat} {c : Rat} (h : Gcd g p o) (hc : c ≠ 0) (hg : ∀ x, ev e x = ev g x * c) : Gcd e p o := by
  refine ⟨h.l.scale hc hg, h.r.scale hc hg, ?_⟩
  obtain ⟨a, b, z⟩ := h.bez
  exact ⟨a.map fun y => y * c, b.map fun y => y * c, fun x => by rw [hg, z, ev_map_mul, ev_map_mul]; grind⟩
theorem eucl_gcd : ∀ {t : Nat} {p o : List Rat}, Tr o → o.length ≤ t → Gcd (eucl t p o) p o
  | 0, p, o, ho, hl => by
    have : o = [] := List.length_eq_zero_iff.mp (Nat.le_zero.mp hl)
    subst this
    exact ⟨Dv.refl p, Dv.zero fun _ => rfl, [1], [], fun x => by show ev p x = (1 + x * 0) * ev p x + 0 * ev [] x; grind⟩
  | t + 1, p, o, ho, hl => by
    unfold eucl
    by_cases ne : o = []
    · subst ne
      rw [if_pos rfl]
      exact ⟨Dv.refl p, Dv.zero fun _ => rfl, [1], [], fun x => by show ev p x = (1 + x * 0) * ev p x + 0 * ev [] x; grind⟩
    · rw [if_neg ne]
      obtain ⟨h1, h2⟩ := divL_ok (p := p) (ho.lead ne) (List.length_pos_iff.mpr ne)
      have tr := tr_trim (divL p o).1
      have ih := eucl_gcd (t := t) (p := o) (o := unitL (trim (divL p o).1)) (unitL_tr tr) (by rw [unitL_len]; omega)
      have hr : Dv (eucl t o (unitL (trim (divL p o).1))) (trim (divL p o).1) := by
        by_cases z : trim (divL p o).1 = []
        · rw [z]; exact Dv.zero fun _ => rfl
        · obtain ⟨q, hq⟩ := ih.r
          refine ⟨q.map fun y => y * lead (trim (divL p o).1), fun x => ?_⟩
          have e1 := hq x
          rw [ev_unitL] at e1
          have nz := tr.lead z
          rw [ev_map_mul]
          grind
      refine ⟨?_, ih.l, ?_⟩
      · exact Dv.add (ih.l.mul_left (trim (divL p o).2)) hr fun x => by rw [h1, ev_mulP]
      · obtain ⟨a, b, e⟩ := ih.bez
        refine ⟨b.map fun y => y * (1 / lead (trim (divL p o).1)), addL a ((mulP b (trim (divL p o).2)).map fun y => y * -(1 / lead (trim (divL p o).1))), fun x => ?_⟩
        have e1 := e x
        rw [ev_unitL] at e1
        rw [ev_map_mul, ev_addL, ev_map_mul, ev_mulP]
        have e2 := h1 x
        grind
/-! ### alike to one, prime to one another -/
def Prm (p q : List Rat) : Prop := ∃ a b, ∀ x, ev a x * ev p x + ev b x * ev q x = 1
theorem Prm.symm {p q : List Rat} (h : Prm p q) : Prm q p := by
  obtain ⟨a, b, h⟩ := h
  exact ⟨b, a, fun x => by have := h x; grind⟩
/-- prime to one, dividing the product: dividing the other -/
theorem Prm.dvd {d p q : List Rat} (h : Prm d p) (g : Dv d (mulP p q)) : Dv d q := by
  obtain ⟨a, b, h⟩ := h
  refine Dv.add (p := mulP (mulP a q) d) (q := mulP b (mulP p q)) ((Dv.refl d).mul_left _) (g.mul_left b) fun x => ?_
  rw [ev_mulP, ev_mulP, ev_mulP, ev_mulP]
  have := h x
  grind
theorem Prm.of_dvd {d p q : List Rat} (h : Prm p q) (g : Dv d p) : Prm d q := by
  obtain ⟨a, b, h⟩ := h
  obtain ⟨c, g⟩ := g
  exact ⟨mulP a c, b, fun x => by rw [ev_mulP]; have := h x; rw [g] at this; grind⟩
/-! ### derived -/
def dl : List Rat → List Rat
  | [] => []
  | a :: p => addL p (0 :: dl p)
theorem ev_dl_cons {a : Rat} {p : List Rat} {x : Rat} : ev (dl (a :: p)) x = ev p x + x * ev (dl p) x := by
  show ev (addL p (0 :: dl p)) x = _
  rw [ev_addL]
  show _ + (0 + x * ev (dl p) x) = _
  grind
theorem ev_dl_zero : ∀ {p : List Rat}, (∀ a ∈ p, a = 0) → ∀ x, ev (dl p) x = 0
  | [], _, x => rfl
  | a :: p, h, x => by
    rw [ev_dl_cons, ev_dl_zero (fun b hb => h b (by simp [hb]))]
    have : ev p x = 0 := by
      have := ev_trim (p := p) (x := x)
      rw [trim_nil_iff.mpr fun b hb => h b (by simp [hb])] at this
      exact this.symm
    rw [this]; grind
theorem ev_dl_trim : ∀ {p : List Rat} {x : Rat}, ev (dl (trim p)) x = ev (dl p) x
  | [], x => rfl
  | a :: p, x => by
    unfold trim
    split
    · rename_i h
      rw [ev_dl_zero (p := a :: p) fun b hb => by
        rcases List.mem_cons.mp hb with z | z
        · rw [z]; exact h.2
        · exact trim_nil_iff.mp h.1 b z]
      rfl
    · rw [ev_dl_cons, ev_dl_cons, ev_dl_trim, ev_trim]
theorem dl_ext {p q : List Rat} (h : ∀ x, ev p x = ev q x) (x : Rat) : ev (dl p) x = ev (dl q) x := by
  rw [← ev_dl_trim (p := p), ← ev_dl_trim (p := q), trim_ext h]
def addR : List Rat → List Rat → List Rat
  | [], q => q
  | a :: p, [] => a :: p
  | a :: p, b :: q => (a + b) :: addR p q
theorem ev_addR : ∀ {p q : List Rat} {x : Rat}, ev (addR p q) x = ev p x + ev q x
  | [], q, x => by show ev q x = 0 + ev q x; grind
  | a :: p, [], x => by show ev (a :: p) x = ev (a :: p) x + 0; grind
  | a :: p, b :: q, x => by
    show (a + b) + x * ev (addR p q) x = (a + x * ev p x) + (b + x * ev q x)
    rw [ev_addR]; grind
theorem ev_dl_addR : ∀ {p q : List Rat} {x : Rat}, ev (dl (addR p q)) x = ev (dl p) x + ev (dl q) x
  | [], q, x => by show ev (dl q) x = 0 + _; grind
  | a :: p, [], x => by show ev (dl (a :: p)) x = ev (dl (a :: p)) x + 0; grind
  | a :: p, b :: q, x => by
    show ev (dl ((a + b) :: addR p q)) x = _
    rw [ev_dl_cons, ev_dl_cons, ev_dl_cons, ev_addR, ev_dl_addR]; grind
theorem dl_sum {p q r : List Rat} (h : ∀ x, ev r x = ev p x + ev q x) (x : Rat) : ev (dl r) x = ev (dl p) x + ev (dl q) x := by
  rw [dl_ext (q := addR p q) (fun y => by rw [h, ev_addR]), ev_dl_addR]
theorem ev_dl_scale : ∀ {p : List Rat} {c x : Rat}, ev (dl (p.map fun a => a * c)) x = ev (dl p) x * c
  | [], c, x => by show (0 : Rat) = 0 * c; grind
  | a :: p, c, x => by
    show ev (dl ((a * c) :: p.map fun a => a * c)) x = _
    rw [ev_dl_cons, ev_dl_cons, ev_dl_scale, ev_map_mul]; grind
/-- the rule of products -/
theorem dl_mul : ∀ {p q r : List Rat}, (∀ x, ev r x = ev p x * ev q x) → ∀ x, ev (dl r) x = ev (dl p) x * ev q x + ev p x * ev (dl q) x
  | [], q, r, h, x => by
    rw [dl_ext (q := []) fun y => by rw [h]; show 0 * _ = (0 : Rat); grind]
    show (0 : Rat) = 0 * _ + 0 * _
    grind
  | a :: p, q, r, h, x => by
    have h2 := dl_sum (p := q.map fun y => y * a) (q := 0 :: mulP p q) (r := r) (fun y => by
      rw [h, ev_map_mul]
      show (a + y * ev p y) * ev q y = ev q y * a + (0 + y * ev (mulP p q) y)
      rw [ev_mulP]; grind) x
    rw [h2, ev_dl_scale, ev_dl_cons, ev_mulP, dl_mul (p := p) (q := q) (r := mulP p q) (fun y => ev_mulP), ev_dl_cons]
    show _ = (ev p x + x * ev (dl p) x) * ev q x + (a + x * ev p x) * ev (dl q) x
    grind
/-! ### powers, squarefree ones -/
def pw (p : List Rat) : Nat → List Rat
  | 0 => [1]
  | n + 1 => mulP p (pw p n)
theorem ev_pw_succ {p : List Rat} {n : Nat} {x : Rat} : ev (pw p (n + 1)) x = ev p x * ev (pw p n) x := ev_mulP
theorem ev_pw_zero {p : List Rat} {x : Rat} : ev (pw p 0) x = 1 := by show 1 + x * 0 = (1 : Rat); grind
theorem dl_pw : ∀ {p : List Rat} {n : Nat} {x : Rat}, ev (dl (pw p (n + 1))) x = ((n + 1 : Nat) : Rat) * ev (dl p) x * ev (pw p n) x
  | p, 0, x => by
    rw [dl_mul (p := p) (q := pw p 0) (r := pw p 1) fun y => ev_pw_succ]
    have e : ev (dl (pw p 0)) x = 0 := by
      show ev (dl [1]) x = 0
      rw [ev_dl_cons]
      show (0 : Rat) + x * 0 = 0
      grind
    rw [e, ev_pw_zero]
    have : ((0 + 1 : Nat) : Rat) = 1 := rfl
    rw [this]
    grind
  | p, n + 1, x => by
    rw [dl_mul (p := p) (q := pw p (n + 1)) (r := pw p (n + 2)) fun y => ev_pw_succ, dl_pw (p := p) (n := n), ev_pw_succ]
    have : ((n + 1 + 1 : Nat) : Rat) = ((n + 1 : Nat) : Rat) + 1 := by rw [Rat.natCast_add]; rfl
    rw [this]
    grind
theorem Dv.nz {d p : List Rat} (h : Dv d p) (hp : ¬ ∀ x, ev p x = 0) : ¬ ∀ x, ev d x = 0 := by
  obtain ⟨q, h⟩ := h
  exact fun z => hp fun x => by rw [h, z]; grind
/-- a number -/
def Cst (p : List Rat) : Prop := (trim p).length ≤ 1
theorem cst_ev {p : List Rat} (h : Cst p) : ∀ x, ev p x = ev p 0 := by
  intro x
  rw [← ev_trim (p := p) (x := x), ← ev_trim (p := p) (x := 0)]
  unfold Cst at h
  match trim p, h with
  | [], _ => rfl
  | [a], _ => show a + x * 0 = a + 0 * 0; grind
/-- how far powers of what is no number go -/
theorem pw_bound {d p : List Rat} (hd : ¬ Cst d) (hp : ¬ ∀ x, ev p x = 0) : ∀ n, Dv (pw d n) p → n < (trim p).length := by
  have nd : trim d ≠ [] := fun z => hd (by unfold Cst; rw [z]; exact Nat.zero_le _)
  have len : ∀ n, trim (pw d n) ≠ [] ∧ n < (trim (pw d n)).length := by
    intro n
    induction n with
    | zero => exact ⟨by show trim [1] ≠ []; decide, by show 0 < (trim [1]).length; decide⟩
    | succ n ih =>
      have e : trim (pw d (n + 1)) = mulP (trim d) (trim (pw d n)) := by
        have : trim (mulP (trim d) (trim (pw d n))) = mulP (trim d) (trim (pw d n)) := tr_trim _
        rw [← this]
        exact trim_ext fun x => by rw [ev_pw_succ, ev_mulP, ev_trim, ev_trim]
      have hl := (mulP_len ((tr_trim d).lead nd) ((tr_trim (pw d n)).lead ih.1) nd ih.1).1
      rw [e]
      have h2 : 1 < (trim d).length := by unfold Cst at hd; omega
      have : (mulP (trim d) (trim (pw d n))).length ≠ 0 := by omega
      exact ⟨fun z => this (by rw [z]; rfl), by omega⟩
  intro n hn
  obtain ⟨h1, h2⟩ := len n
  refine Classical.byContradiction fun hc => ?_
  have h3 : Dv (trim (pw d n)) (trim p) := (hn.ext fun x => ev_trim).extd fun x => ev_trim
  have := short_nil (tr_trim _) h1 h3 (by omega)
  exact hp fun x => by rw [← ev_trim]; exact this x
/-- S = F G with G the greatest of S and S': F is squarefree -/
theorem sqf {S F G : List Rat} (hS : ¬ ∀ x, ev S x = 0) (hG : Gcd G S (dl S)) (hF : ∀ x, ev S x = ev F x * ev G x) {D : List Rat} (hD : Gcd D F (dl F)) : Cst D := by
  refine Classical.byContradiction fun nc => ?_
  obtain ⟨H, hH⟩ := hG.r
  have nG : ¬ ∀ x, ev G x = 0 := fun z => hS fun x => by rw [hF, z]; grind
  -- F and H are prime to one another
  have pr : Prm F H := by
    obtain ⟨a, b, e⟩ := hG.bez
    refine ⟨a, b, fun x => ?_⟩
    have := cancel (a := addL (mulP a F) (mulP b H)) (b := [1]) nG fun y => by
      rw [ev_addL, ev_mulP, ev_mulP]
      show _ = (1 + y * 0) * _
      have e1 := e y
      rw [hF, hH] at e1
      grind
    have := this x
    rw [ev_addL, ev_mulP, ev_mulP] at this
    have e2 : ev [1] x = 1 := by show 1 + x * 0 = (1 : Rat); grind
    rw [e2] at this
    exact this
  have prD : Prm D H := pr.of_dvd hD.l
  obtain ⟨F1, hF1⟩ := hD.l
  obtain ⟨K, hK⟩ := hD.r
  have nF : ¬ ∀ x, ev F x = 0 := fun z => hS fun x => by rw [hF, z]; grind
  have nD : ¬ ∀ x, ev D x = 0 := hD.l.nz nF
  -- F G' = (H - F') G
  have key : ∀ x, ev F x * ev (dl G) x = (ev H x - ev (dl F) x) * ev G x := fun x => by
    have := dl_mul hF x
    rw [hH] at this
    grind
  -- D divides F1 D'
  have dF : ∀ x, ev (dl F) x = ev (dl F1) x * ev D x + ev F1 x * ev (dl D) x := dl_mul hF1
  have all : ∀ n, Dv (pw D n) G := by
    intro n
    induction n with
    | zero => exact ⟨G, fun x => by rw [ev_pw_zero]; grind⟩
    | succ n ih =>
      obtain ⟨G1, hG1⟩ := ih
      have nP : ¬ ∀ x, ev (pw D n) x = 0 := fun z => nG fun x => by rw [hG1, z]; grind
      -- D divides H G1
      have hd : Dv D (mulP H G1) := by
        cases n with
        | zero =>
          -- G1 is G
          have g1 : ∀ x, ev G x = ev G1 x := fun x => by rw [hG1, ev_pw_zero]; grind
          refine ⟨addL (mulP F1 (dl G)) (mulP K G1), fun x => ?_⟩
          rw [ev_mulP, ev_addL, ev_mulP, ev_mulP]
          have k1 := key x
          rw [hK, hF1, g1] at k1
          grind
        | succ n =>
          have dG := fun x => dl_mul hG1 x
          refine ⟨addL (mulP F1 (dl G1)) (mulP (mulP G1 (addL K ((dl F1).map fun y => -y))) [((n + 1 : Nat) : Rat)]) |> fun a => addL a (mulP K G1), fun x => ?_⟩
          have c := cancel (a := addL (mulP F (dl G1)) (mulP (mulP (mulP F1 (dl D)) G1) [((n + 1 : Nat) : Rat)])) (b := mulP (addL H ((dl F).map fun y => -y)) G1) nP fun y => by
            rw [ev_addL, ev_mulP, ev_mulP, ev_mulP, ev_mulP, ev_mulP, ev_addL, ev_map_neg]
            have k1 := key y
            have k2 := dG y
            rw [dl_pw] at k2
            have k3 : ev [((n + 1 : Nat) : Rat)] y = ((n + 1 : Nat) : Rat) := by show _ + y * 0 = _; grind
            rw [k3]
            rw [k2, hG1 y] at k1
            have k4 := ev_pw_succ (p := D) (n := n) (x := y)
            rw [hF1 y] at k1 ⊢
            rw [k4] at k1 ⊢
            generalize ev (pw D n) y = p1 at *
            generalize ((n + 1 : Nat) : Rat) = q1 at *
            grind
          have c := c x
          rw [ev_addL, ev_mulP, ev_mulP, ev_mulP, ev_mulP, ev_mulP, ev_addL, ev_map_neg] at c
          show ev (mulP H G1) x = ev (addL (addL (mulP F1 (dl G1)) (mulP (mulP G1 (addL K ((dl F1).map fun y => -y))) [((n + 1 : Nat) : Rat)])) (mulP K G1)) x * ev D x
          rw [ev_mulP, ev_addL, ev_addL, ev_mulP, ev_mulP, ev_mulP, ev_mulP, ev_addL, ev_map_neg]
          have k3 : ev [((n + 1 : Nat) : Rat)] x = ((n + 1 : Nat) : Rat) := by show _ + x * 0 = _; grind
          rw [k3] at c ⊢
          have k5 := dF x
          rw [hK x] at k5 c
          rw [hF1 x] at c
          generalize ((n + 1 : Nat) : Rat) = q1 at *
          grind
      obtain ⟨q, hq⟩ := prD.dvd hd
      exact ⟨q, fun x => by rw [hG1, hq, ev_pw_succ]; grind⟩
  have := pw_bound nc nG _ (all (trim G).length)
  omega
end PI
/-! Q9: what is made with the squarefree part's powers. -/
namespace PI
open PySem

/-- each coefficient times its power, from k on -/
def dE : Nat → List Rat → List Rat
  | _, [] => []
  | k, a :: p => (k : Rat) * a :: dE (k + 1) p
theorem dE_len : ∀ {p : List Rat} {k : Nat}, (dE k p).length = p.length
  | [], k => rfl
  | a :: p, k => by show (dE (k + 1) p).length + 1 = p.length + 1; rw [dE_len]
theorem ev_dE : ∀ {p : List Rat} {k : Nat} {x : Rat}, ev (dE k p) x = (k : Rat) * ev p x + x * ev (dl p) x
  | [], k, x => by show (0 : Rat) = k * 0 + x * 0; grind
  | a :: p, k, x => by
    show (k : Rat) * a + x * ev (dE (k + 1) p) x = k * (a + x * ev p x) + x * ev (dl (a :: p)) x
    rw [ev_dE, ev_dl_cons]
    have : ((k + 1 : Nat) : Rat) = (k : Rat) + 1 := by rw [Rat.natCast_add]; rfl
    rw [this]; grind
def dT : List Rat → List Rat
  | [] => []
  | _ :: p => dE 1 p
theorem ev_dT : ∀ {p : List Rat} {x : Rat}, ev (dT p) x = ev (dl p) x
  | [], x => rfl
  | a :: p, x => by
    show ev (dE 1 p) x = _
    rw [ev_dE, ev_dl_cons]
    have : ((1 : Nat) : Rat) = 1 := rfl
    rw [this]; grind
theorem dT_len : ∀ {p : List Rat}, (dT p).length = p.length - 1
  | [] => rfl
  | a :: p => by show (dE 1 p).length = _; rw [dE_len]; simp
theorem dE_zero : ∀ {p : List Rat} {k : Nat}, 0 < k → (∀ a ∈ dE k p, a = 0) → ∀ a ∈ p, a = 0
  | [], k, _, _ => fun a h => by cases h
  | b :: p, k, hk, h => by
    intro a ha
    rcases List.mem_cons.mp ha with z | z
    · rw [z]
      have := h ((k : Rat) * b) (by show _ ∈ (k : Rat) * b :: dE (k + 1) p; simp)
      rcases Rat.mul_eq_zero.mp this with y | y
      · exact absurd y (natCast_ne hk)
      · exact y
    · exact dE_zero (k := k + 1) (by omega) (fun c hc => h c (by show _ ∈ (k : Rat) * b :: dE (k + 1) p; simp [hc])) a z
/-- a derived one that is nought -/
theorem dl_nil {p : List Rat} (h : ∀ x, ev (dl p) x = 0) : Cst p := by
  have h2 : trim (dT (trim p)) = [] := ev_zero fun x => by rw [ev_dT, ev_dl_trim]; exact h x
  cases q : trim p with
  | nil => unfold Cst; rw [q]; exact Nat.zero_le _
  | cons a r =>
    rw [q] at h2
    have h3 : ∀ b ∈ r, b = 0 := dE_zero (k := 1) (by decide) (trim_nil_iff.mp h2)
    have h4 : trim r = [] := trim_nil_iff.mpr h3
    have h5 : trim (trim p) = trim p := tr_trim p
    rw [q] at h5
    unfold trim at h5
    rw [h4] at h5
    unfold Cst
    rw [q]
    split at h5
    · cases h5
    · have : r = [] := by
        have := congrArg List.tail h5
        exact this.symm
      rw [this]; exact Nat.le_refl _
theorem exists_gcd (p o : List Rat) : ∃ g, Gcd g p o := by
  have h := eucl_gcd (t := (trim o).length) (p := p) (o := trim o) (tr_trim o) (Nat.le_refl _)
  obtain ⟨a, b, e⟩ := h.bez
  exact ⟨_, h.l, h.r.ext fun x => by rw [ev_trim], a, b, fun x => by rw [e, ev_trim]⟩
theorem cst_dvd {c : List Rat} (h : Cst c) (n : ¬ ∀ x, ev c x = 0) (p : List Rat) : Dv c p := by
  have e := cst_ev h
  have nz : ev c 0 ≠ 0 := fun z => n fun x => by rw [e, z]
  exact ⟨p.map fun y => y * (1 / ev c 0), fun x => by rw [e x, ev_map_mul]; grind⟩
theorem gcd_cst {g p o : List Rat} (h : Gcd g p o) (c : Cst g) (n : ¬ ∀ x, ev g x = 0) : Prm p o := by
  have e := cst_ev c
  have nz : ev g 0 ≠ 0 := fun z => n fun x => by rw [e, z]
  obtain ⟨a, b, z⟩ := h.bez
  refine ⟨a.map fun y => y * (1 / ev g 0), b.map fun y => y * (1 / ev g 0), fun x => ?_⟩
  have := z x
  rw [e] at this
  rw [ev_map_mul, ev_map_mul]
  grind
theorem Prm.pw {d p : List Rat} (h : Prm d p) : ∀ n, Prm (PI.pw d n) p
  | 0 => ⟨[1], [], fun x => by rw [ev_pw_zero]; show (1 + x * 0) * 1 + 0 * _ = (1 : Rat); grind⟩
  | n + 1 => by
    obtain ⟨a, b, e⟩ := h
    obtain ⟨c, f, g⟩ := Prm.pw ⟨a, b, e⟩ n
    refine ⟨mulP a c, addL (mulP (mulP a (PI.pw d 1)) f) b, fun x => ?_⟩
    rw [ev_mulP, ev_addL, ev_mulP, ev_mulP, ev_pw_succ, ev_pw_succ, ev_pw_zero]
    have e1 := e x
    have e2 := g x
    grind
theorem dvd_len {d p : List Rat} (h : Dv d p) (hp : ¬ ∀ x, ev p x = 0) : ∃ q, (∀ x, ev p x = ev q x * ev d x) ∧ (trim p).length + 1 = (trim q).length + (trim d).length ∧ trim q ≠ [] ∧ trim d ≠ [] := by
  obtain ⟨q, h⟩ := h
  have nd : trim d ≠ [] := fun z => hp fun x => by
    rw [h, ← ev_trim (p := d), z]; show _ * (0 : Rat) = 0; grind
  have nq : trim q ≠ [] := fun z => hp fun x => by
    rw [h, ← ev_trim (p := q), z]; show (0 : Rat) * _ = 0; grind
  refine ⟨q, h, ?_, nq, nd⟩
  have e : trim p = mulP (trim q) (trim d) := by
    have : trim (mulP (trim q) (trim d)) = mulP (trim q) (trim d) := tr_trim _
    rw [← this]
    exact trim_ext fun x => by rw [h, ev_mulP, ev_trim, ev_trim]
  rw [e, (mulP_len ((tr_trim q).lead nq) ((tr_trim d).lead nd) nq nd).1]
  have := List.length_pos_iff.mpr nq
  have := List.length_pos_iff.mpr nd
  omega
/-- the greatest power of d in p -/
theorem max_pow {d p : List Rat} (hd : ¬ Cst d) (hp : ¬ ∀ x, ev p x = 0) : ∃ n N, (∀ x, ev p x = ev N x * ev (pw d n) x) ∧ ¬ Dv d N := by
  refine Classical.byContradiction fun h => ?_
  have all : ∀ n, Dv (pw d n) p := by
    intro n
    induction n with
    | zero => exact ⟨p, fun x => by rw [ev_pw_zero]; grind⟩
    | succ n ih =>
      obtain ⟨N, hN⟩ := ih
      have : Dv d N := Classical.byContradiction fun z => h ⟨n, N, hN, z⟩
      obtain ⟨q, hq⟩ := this
      exact ⟨q, fun x => by rw [hN, hq, ev_pw_succ]; grind⟩
  have := pw_bound hd hp _ (all (trim p).length)
  omega
/-- what divides S and is no number is not prime to F -/
theorem not_prime {S F G T : List Rat} (hS : ¬ ∀ x, ev S x = 0) (hG : Gcd G S (dl S)) (hF : ∀ x, ev S x = ev F x * ev G x) (hT : Dv T S) (nc : ¬ Cst T) (pr : Prm T F) : False := by
  have nT := hT.nz hS
  obtain ⟨GT, hGT⟩ := exists_gcd T (dl T)
  obtain ⟨M, hM, hMl, nM, _⟩ := dvd_len hGT.l nT
  -- M is squarefree
  obtain ⟨E, hE⟩ := exists_gcd M (dl M)
  have cE := sqf nT hGT hM hE
  have nMz : ¬ ∀ x, ev M x = 0 := fun z => nT fun x => by rw [hM, z]; grind
  have prM : Prm M (dl M) := gcd_cst hE cE (hE.l.nz nMz)
  -- and no number
  have ncM : ¬ Cst M := by
    intro c
    have hl : (trim T).length ≤ (trim GT).length := by unfold Cst at c; omega
    refine nc (dl_nil ?_)
    have h1 : Dv (trim GT) (trim (dl T)) := (hGT.r.ext fun x => ev_trim).extd fun x => ev_trim
    have h2 : (trim (dl T)).length < (trim T).length := by
      have e : trim (dl T) = trim (dT (trim T)) := trim_ext fun x => by rw [ev_dT, ev_dl_trim]
      have := trim_len (dT (trim T))
      rw [e]
      rw [dT_len] at this
      have : 0 < (trim T).length := List.length_pos_iff.mpr fun z => nc (by unfold Cst; rw [z]; exact Nat.zero_le _)
      omega
    have ng : trim GT ≠ [] := fun z => by
      rw [z] at hl
      have : (trim T).length = 0 := Nat.le_zero.mp hl
      exact nc (by unfold Cst; omega)
    have := short_nil (tr_trim GT) ng h1 (by omega)
    exact fun x => by rw [← ev_trim]; exact this x
  have dM : Dv M T := ⟨GT, fun x => by rw [hM]; grind⟩
  have prF : Prm M F := pr.of_dvd dM
  obtain ⟨j, N, hN, hn⟩ := max_pow ncM hS
  cases j with
  | zero =>
    refine hn ((dM.trans hT).ext fun x => ?_)
    rw [hN, ev_pw_zero]; grind
  | succ j =>
    have h1 : Dv (pw M (j + 1)) (mulP F G) := ⟨N, fun x => by rw [ev_mulP, ← hF, hN]⟩
    have h2 : Dv (pw M (j + 1)) G := (prF.pw (j + 1)).dvd h1
    obtain ⟨q, hq⟩ := h2.trans hG.r
    have nP : ¬ ∀ x, ev (pw M j) x = 0 := fun z => hS fun x => by rw [hN, ev_pw_succ, z]; grind
    have c := cancel (a := mulP (mulP (dl M) N) [((j + 1 : Nat) : Rat)]) (b := mulP (addL q ((dl N).map fun y => -y)) M) nP fun y => by
      have k1 := dl_mul hN y
      rw [hq, dl_pw, ev_pw_succ] at k1
      have k3 : ev [((j + 1 : Nat) : Rat)] y = ((j + 1 : Nat) : Rat) := by show _ + y * 0 = _; grind
      rw [ev_mulP, ev_mulP, ev_mulP, ev_addL, ev_map_neg, k3]
      generalize ((j + 1 : Nat) : Rat) = q1 at *
      grind
    have nz : ((j + 1 : Nat) : Rat) ≠ 0 := natCast_ne (by omega)
    have h3 : Dv M (mulP (dl M) N) := ⟨(addL q ((dl N).map fun y => -y)).map fun y => y * (1 / ((j + 1 : Nat) : Rat)), fun x => by
      have c := c x
      have k3 : ev [((j + 1 : Nat) : Rat)] x = ((j + 1 : Nat) : Rat) := by show _ + x * 0 = _; grind
      rw [ev_mulP, ev_mulP, k3] at c
      rw [ev_mulP] at c
      rw [ev_map_mul, ev_mulP]
      generalize ((j + 1 : Nat) : Rat) = q1 at *
      grind⟩
    exact hn (prM.dvd h3)
/-- S divides a power of F -/
theorem rad {S F G : List Rat} (hS : ¬ ∀ x, ev S x = 0) (hG : Gcd G S (dl S)) (hF : ∀ x, ev S x = ev F x * ev G x) : ∀ (n : Nat) (T : List Rat), (trim T).length ≤ n → Dv T S → Dv T (pw F n)
  | 0, T, hl, hT => by
    exfalso
    have : trim T = [] := List.length_eq_zero_iff.mp (Nat.le_zero.mp hl)
    exact hT.nz hS fun x => by rw [← ev_trim, this]; rfl
  | n + 1, T, hl, hT => by
    by_cases c : Cst T
    · exact cst_dvd c (hT.nz hS) _
    · obtain ⟨D, hD⟩ := exists_gcd T F
      have nT := hT.nz hS
      by_cases cD : Cst D
      · exact (not_prime hS hG hF hT c (gcd_cst hD cD (hD.l.nz nT))).elim
      · obtain ⟨T1, h1, h2, _, _⟩ := dvd_len hD.l nT
        have : 1 < (trim D).length := by unfold Cst at cD; omega
        have ih := rad hS hG hF n T1 (by omega) ((show Dv T1 T from ⟨D, fun x => by rw [h1]; grind⟩).trans hT)
        obtain ⟨a, ha⟩ := ih
        obtain ⟨b, hb⟩ := hD.r
        exact ⟨mulP a b, fun x => by rw [ev_pw_succ, ha, hb, h1, ev_mulP]; grind⟩
end PI
/-! Q10: powers, values, derived, squarefree, lowest, turned: the code. -/
namespace PI
open PySem

def F_isCount (ki : Nat) : FD := ⟨1, 1, [.ret (.and [.call ki [.v 0], .cmp .ge (.v 0) (.int 0)])]⟩
def F_toPower (kc e g1 kpt : Nat) : FD := ⟨4, 2,
    [.ite (.not (.call kc [.v 1])) [.rais e] [],
      .set 2 (.tup [.g g1]),
      .for_ (.nm 3) 1 [.v 1] [.set 2 (.call kpt [.v 2, .v 0])],
      .ret (.v 2)]⟩
def F_valueAt (g kp kt : Nat) : FD := ⟨4, 2,
    [.set 2 (.g g),
      .for_ (.nm 3) 0 [.rev (.v 0)] [.set 2 (.call kp [.call kt [.v 2, .v 1], .v 3])],
      .ret (.v 2)]⟩
def F_derived (kt ktr : Nat) : FD := ⟨3, 1, [.ret (.call ktr [.slc (.lc (.call kt [.tup [.v 1, .int 1], .v 2]) [1, 2] (.tu [1, 2]) 2 [.v 0] none) (some (.int 1)) none])]⟩
def F_sqfree (kw kd kcm kdv : Nat) : FD := ⟨1, 1,
    [.ite (.cmp .eq (.v 0) (.tup [])) [.ret (.tup [])] [],
      .ret (.call kw [.sub (.call kd [.v 0, .call kcm [.v 0, .call kdv [.v 0]]]) (.int 0)])]⟩
def F_lowest (g e : Nat) : FD := ⟨4, 1,
    [.set 1 (.lc (.v 2) [2, 3] (.tu [2, 3]) 2 [.v 0] (some (.cmp .ne (.v 3) (.g g)))),
      .ite (.cmp .eq (.v 1) (.lst [])) [.rais e] [],
      .ret (.sub (.v 1) (.int 0))]⟩
def F_turned (ktr : Nat) : FD := ⟨1, 1, [.ret (.call ktr [.bi .list [.rev (.v 0)]])]⟩
theorem snocRec {α : Type} {motive : List α → Prop} (nil : motive []) (snoc : ∀ q a, motive q → motive (q ++ [a])) (l : List α) : motive l := by
  have : ∀ r : List α, motive r.reverse := by
    intro r
    induction r with
    | nil => exact nil
    | cons a r ih => rw [List.reverse_cons]; exact snoc _ _ ih
  have h := this l.reverse
  rw [List.reverse_reverse] at h
  exact h
section
variable {P : Nat → Option FD} {gv : Nat → AV} {sb : Nat → Nat → Option Bool} {m : Mem} {n k : Nat}
theorem isCount_ok {ki : Nat} {j : Nat} (h : P k = some (F_isCount ki)) (hi : P ki = some F_isInt) : callE P gv sb (n + 2) k [.int j] m = .ok (.bl true) m := by
  rw [callE_eq h rfl]
  have e0 : ([AV.int j].map some ++ List.replicate ((F_isCount ki).n - (F_isCount ki).ps) none) = [some (.int j)] := rfl
  rw [e0]
  have t : callE P gv sb (n + 1) ki [.int j] m = .ok (.bl true) m := isInt_int hi
  have e6 : evSs (callE P gv sb (n + 1)) gv sb (F_isCount ki).body [some (.int j)] m = .rt (.bl true) m :=
    bRt (sRet (rAndT (rCall (rCons (evE_v rfl) rNil) t) (rAnd1 (rCmp (evE_v rfl) rfl (by
      show some (decide ((0 : Int) ≤ (j : Int))) = some true
      rw [decide_eq_true (by omega)])))))
  rw [e6, finC_rt]
def pwL (p : List Rat) : Nat → List Rat
  | 0 => [1]
  | n + 1 => mulP (pwL p n) p
theorem ev_pwL {p : List Rat} : ∀ {n : Nat} {x : Rat}, ev (pwL p n) x = ev (pw p n) x
  | 0, x => rfl
  | n + 1, x => by
    show ev (mulP (pwL p n) p) x = _
    rw [ev_mulP, ev_pw_succ, ev_pwL]; grind
theorem ht_one : Ht 0 [1] := ⟨1, by decide, by decide, fun c hc => by
  rw [List.mem_singleton.mp hc]; exact ⟨1, by grind, by decide⟩⟩
theorem mulP_le {p q : List Rat} : (mulP p q).length ≤ p.length + q.length - 1 := by
  have := trim_len (mulA p q)
  rw [mulA_len] at this
  exact this
theorem pwL_ht {u : Nat} {p : List Rat} (h : Ht u p) (hl : p.length ≤ 21) : ∀ {n : Nat}, n ≤ 9 → Ht (n * (u + 9)) (pwL p n) ∧ (pwL p n).length ≤ n * 20 + 1 := by
  intro n
  induction n with
  | zero => exact fun _ => ⟨by rw [Nat.zero_mul]; exact ht_one, Nat.le_refl 1⟩
  | succ n ih =>
    intro hn
    obtain ⟨h1, h2⟩ := ih (by omega)
    constructor
    · have := mulA_ht h1 h (by omega)
      have e : (n + 1) * (u + 9) = n * (u + 9) + u + 9 := by rw [Nat.succ_mul]; omega
      rw [e]
      exact this.trim
    · have := mulP_le (p := pwL p n) (q := p)
      show (mulP (pwL p n) p).length ≤ _
      omega
theorem toPower_ok {ki kc0 e0' kmd kp kt kc e g g1 kpt ktr u j : Nat} {p : List Rat} (h : P k = some (F_toPower kc e g1 kpt)) (hc : P kc = some (F_isCount ki)) (hf : FrOk P ki kc0 e0' kmd kp kt) (hpt : P kpt = some (F_ptimes g kp kt ktr)) (hg : gv g = fr 0) (hg1 : gv g1 = fr 1) (htr : P ktr = some (F_trimmed g)) (cl : Cl m) (hp : Ht u p) (hl : p.length ≤ 21) (hj : j ≤ 9) (hu : 9 * (u + 9) + u + 10 ≤ fitB) :
    callE P gv sb (n + 5) k [pv p, .int j] m = .ok (pv (pwL p j)) m := by
  rw [callE_eq h rfl]
  have e0 : ([pv p, AV.int j].map some ++ List.replicate ((F_toPower kc e g1 kpt).n - (F_toPower kc e g1 kpt).ps) none) = [some (pv p), some (.int j), none, none] := rfl
  rw [e0]
  have t0 : callE P gv sb (n + 4) kc [.int j] m = .ok (.bl true) m := isCount_ok hc hf.i
  have gz : evE (callE P gv sb (n + 4)) gv (.tup [.g g1]) [some (pv p), some (.int j), none, none] m = .ok (pv (pwL p 0)) m := by
    refine (rTup (rCons (x := fr 1) ?_ rNil) (by show okLen 1 = true; decide)).trans rfl
    show Res.ok (gv g1) m = _
    rw [hg1]
  have loop : ∀ (t s : Nat) (w : Option AV), s + t ≤ 9 → ∃ w', forLoop (.nm 3) (fun env m => evSs (callE P gv sb (n + 4)) gv sb [.set 2 (.call kpt [.v 2, .v 0])] env m) ((List.range' s t).map fun (k : Nat) => AV.int k) [some (pv p), some (.int j), some (pv (pwL p s)), w] m = .nx [some (pv p), some (.int j), some (pv (pwL p (s + t))), w'] m := by
    intro t
    induction t with
    | zero => exact fun s w _ => ⟨w, rfl⟩
    | succ t ih =>
      intro s w hs
      obtain ⟨w', h2⟩ := ih (s + 1) (some (.int s)) (by omega)
      refine ⟨w', ?_⟩
      have e : s + 1 + t = s + (t + 1) := by omega
      rw [e] at h2
      obtain ⟨q1, q2⟩ := pwL_ht hp hl (n := s) (by omega)
      have b : s * (u + 9) ≤ 9 * (u + 9) := Nat.mul_le_mul_right _ (by omega)
      have t1 : callE P gv sb (n + 4) kpt [pv (pwL p s), pv p] m = .ok (pv (pwL p (s + 1))) m := ptimes_ok hpt hf hg htr cl q1 hp (by omega) (by omega) (by omega)
      rw [List.range'_succ, List.map_cons, for_cons (e2 := [some (pv p), some (.int j), some (pv (pwL p s)), some (.int s)]) rfl (bNx (sSet (rCall (rCons (evE_v rfl) (rCons (evE_v rfl) rNil)) t1)) rfl)]
      exact h2
  obtain ⟨w', hloop⟩ := loop j 0 none (by omega)
  rw [Nat.zero_add, ← List.range_eq_range'] at hloop
  have e6 : evSs (callE P gv sb (n + 4)) gv sb (F_toPower kc e g1 kpt).body [some (pv p), some (.int j), none, none] m = .rt (pv (pwL p j)) m := by
    unfold F_toPower
    exact bNx ((sIteF (rNot (rCall (rCons (evE_v rfl) rNil) t0))).trans rfl) (bNx (sSet gz) (bNx ((for_ok (rCons (evE_v rfl) rNil) (rng_ok (by omega))).trans hloop) (bRt (sRet (evE_v rfl)))))
  rw [e6, finC_rt]
theorem valueAt_ok {ki kc e kmd kp kt g : Nat} {p : List Rat} {c : Rat} (h : P k = some (F_valueAt g kp kt)) (hf : FrOk P ki kc e kmd kp kt) (hg : gv g = fr 0) (hc : Fit c) (hp : ∀ q r : List Rat, p = q ++ r → Fit (ev r c) ∧ Fit (c * ev r c)) (hp2 : ∀ a ∈ p, Fit a) : callE P gv sb (n + 4) k [pv p, fr c] m = .ok (fr (ev p c)) m := by
  rw [callE_eq h rfl]
  have e0 : ([pv p, fr c].map some ++ List.replicate ((F_valueAt g kp kt).n - (F_valueAt g kp kt).ps) none) = [some (pv p), some (fr c), none, none] := rfl
  rw [e0]
  have loop : ∀ (q r : List Rat) (w : Option AV), p = q ++ r → ∃ w', forLoop (.nm 3) (fun env m => evSs (callE P gv sb (n + 3)) gv sb [.set 2 (.call kp [.call kt [.v 2, .v 1], .v 3])] env m) (frs q.reverse) [some (pv p), some (fr c), some (fr (ev r c)), w] m = .nx [some (pv p), some (fr c), some (fr (ev p c)), w'] m := by
    intro q
    induction q using snocRec with
    | nil => exact fun r w e => ⟨w, by rw [e]; rfl⟩
    | snoc q a ih =>
      intro r w e
      have e2 : p = q ++ (a :: r) := by rw [e]; simp
      obtain ⟨w', h2⟩ := ih (a :: r) (some (fr a)) e2
      refine ⟨w', ?_⟩
      obtain ⟨f1, f2⟩ := hp _ _ e
      have fa : Fit a := hp2 a (by rw [e2]; simp)
      have t1 : callE P gv sb (n + 3) kt [fr (ev r c), fr c] m = .ok (fr (c * ev r c)) m := by
        rw [Rat.mul_comm]; exact times_ok hf f1 hc
      have t2 : callE P gv sb (n + 3) kp [fr (c * ev r c), fr a] m = .ok (fr (ev (a :: r) c)) m := by
        show _ = Res.ok (fr (a + c * ev r c)) m
        rw [Rat.add_comm a]; exact plus_ok hf f2 fa
      have e3 : frs (q ++ [a]).reverse = fr a :: frs q.reverse := by
        rw [List.reverse_append]; rfl
      rw [e3, for_cons (e2 := [some (pv p), some (fr c), some (fr (ev r c)), some (fr a)]) rfl (bNx (sSet (rCall (rCons (rCall (rCons (evE_v rfl) (rCons (evE_v rfl) rNil)) t1) (rCons (evE_v rfl) rNil)) t2)) rfl)]
      exact h2
  obtain ⟨w', hloop⟩ := loop p [] none (by simp)
  have e4 : revE m (pv p) = some (pv p.reverse) := by
    show some (AV.tup (frs p).reverse) = _
    unfold pv frs
    rw [List.map_reverse]
  have gz : evE (callE P gv sb (n + 3)) gv (.g g) [some (pv p), some (fr c), none, none] m = .ok (fr (ev [] c)) m := by
    show Res.ok (gv g) m = _
    rw [hg]; rfl
  have e6 : evSs (callE P gv sb (n + 3)) gv sb (F_valueAt g kp kt).body [some (pv p), some (fr c), none, none] m = .rt (fr (ev p c)) m := by
    unfold F_valueAt
    exact bNx (sSet gz) (bNx ((for_ok (rCons (rRev (evE_v rfl) e4) rNil) rfl).trans hloop) (bRt (sRet (evE_v rfl))))
  rw [e6, finC_rt]
theorem fr_nat (j : Nat) : AV.tup [.int j, .int 1] = fr (j : Rat) := rfl
theorem natFit {j : Nat} (h : j ≤ 1000) : Fit (j : Rat) := by
  have h1 : ((j : Nat) : Rat).num.natAbs = j := rfl
  have h2 : ((j : Nat) : Rat).den = 1 := rfl
  unfold Fit
  rw [h1, h2]
  have : (2 : Nat) ^ 10 ≤ 2 ^ fitB := Nat.pow_le_pow_right (by decide) (by unfold fitB; omega)
  have e : (2 : Nat) ^ 10 = 1024 := by decide
  omega
theorem enum_frs_mem {x : AV} : ∀ {p : List Rat} {j : Nat}, x ∈ enumA j (frs p) → ∃ i a, i < p.length ∧ a ∈ p ∧ x = .tup [.int ((j + i : Nat) : Int), fr a]
  | [], j, h => by cases h
  | a :: p, j, h => by
    have h : x ∈ AV.tup [.int j, fr a] :: enumA (j + 1) (frs p) := h
    rcases List.mem_cons.mp h with z | z
    · exact ⟨0, a, by simp, by simp, by rw [z]; rfl⟩
    · obtain ⟨i, b, h1, h2, h3⟩ := enum_frs_mem z
      exact ⟨i + 1, b, by simp; exact h1, by simp [h2], by rw [h3]; congr 4; omega⟩
theorem enum_map : ∀ {p : List Rat} {j : Nat}, (enumA j (frs p)).map (fun v => match v with
    | .tup [.int i, .tup [.int a, .int b]] => fr ((i.toNat : Rat) * Rat.divInt a b)
    | _ => .non) = frs (dE j p)
  | [], j => rfl
  | a :: p, j => by
    show fr ((((j : Int).toNat : Nat) : Rat) * Rat.divInt a.num a.den) :: (enumA (j + 1) (frs p)).map _ = fr ((j : Rat) * a) :: frs (dE (j + 1) p)
    rw [Int.toNat_natCast, Rat.num_divInt_den, enum_map]
theorem derived_ok {ki kc e kmd kp kt ktr g : Nat} {p : List Rat} (h : P k = some (F_derived kt ktr)) (hf : FrOk P ki kc e kmd kp kt) (htr : P ktr = some (F_trimmed g)) (hg : gv g = fr 0) (hp : FitL p) : callE P gv sb (n + 4) k [pv p] m = .ok (pv (trim (dT p))) m := by
  rw [callE_eq h rfl]
  have e0 : ([pv p].map some ++ List.replicate ((F_derived kt ktr).n - (F_derived kt ktr).ps) none) = [some (pv p), none, none] := rfl
  rw [e0]
  have hl := hp.1
  have z := lc_pure (F := callE P gv sb (n + 3)) (gv := gv) (elt := .call kt [.tup [.v 1, .int 1], .v 2]) (own := [1, 2]) (tg := .tu [1, 2]) (it := 2) (src := [.v 0]) (env := [some (pv p), none, none]) (m := m) (xs := enumA 0 (frs p)) (fun v => match v with
    | .tup [.int i, .tup [.int a, .int b]] => fr ((i.toNat : Rat) * Rat.divInt a b)
    | _ => .non) (rCons (evE_v rfl) rNil) rfl (fun x hx => ?_) (by rw [enumA_len, frs_len]; exact size_ok (by omega))
  · rw [enum_map] at z
    have sl : slcE m (.frl (frs (dE 0 p))) (some ((1 : Nat) : Int)) none = some (.frl (frs (dT p))) := by
      rw [slc_lst rfl, cut_lo]
      cases p <;> rfl
    have t1 : callE P gv sb (n + 3) ktr [.frl (frs (dT p))] m = .ok (pv (trim (dT p))) m := trimmed_ok htr hg isL_frl (by rw [dT_len]; omega)
    have e6 : evSs (callE P gv sb (n + 3)) gv sb (F_derived kt ktr).body [some (pv p), none, none] m = .rt (pv (trim (dT p))) m :=
      bRt (sRet (rCall (rCons (rSlc z (rOs (i := 1) rfl) rOn sl) rNil) t1))
    rw [e6, finC_rt]
  · obtain ⟨i, a, h1, h2, rfl⟩ := enum_frs_mem hx
    rw [Nat.zero_add]
    refine ⟨[some (pv p), some (.int i), some (fr a)], rfl, ?_⟩
    have t1 : callE P gv sb (n + 3) kt [fr (i : Rat), fr a] m = .ok (fr ((i : Rat) * a)) m := times_ok hf (natFit (by omega)) (hp.2 a h2)
    have e1 : (match AV.tup [.int i, fr a] with
      | .tup [.int i, .tup [.int a, .int b]] => fr ((i.toNat : Rat) * Rat.divInt a b)
      | _ => .non) = fr ((i : Rat) * a) := by
      show fr ((((i : Int).toNat : Nat) : Rat) * Rat.divInt a.num a.den) = _
      rw [Int.toNat_natCast, Rat.num_divInt_den]
    rw [e1]
    exact rCall (rCons (rTup (rCons (evE_v rfl) (rCons rfl rNil)) (okLen_two _ _)) (rCons (evE_v rfl) rNil)) t1
theorem sqfree_ok {kw kd kcm kdv : Nat} {p d g q r : List Rat} (h : P k = some (F_sqfree kw kd kcm kdv)) (ne : p ≠ []) (h1 : callE P gv sb n kdv [pv p] m = .ok (pv d) m) (h2 : callE P gv sb n kcm [pv p, pv d] m = .ok (pv g) m) (h3 : callE P gv sb n kd [pv p, pv g] m = .ok (.tup [pv q, pv r]) m) (h4 : callE P gv sb n kw [pv q] m = .ok (pv (unitL q)) m) : callE P gv sb (n + 1) k [pv p] m = .ok (pv (unitL q)) m := by
  rw [callE_eq h rfl]
  have e0 : ([pv p].map some ++ List.replicate ((F_sqfree kw kd kcm kdv).n - (F_sqfree kw kd kcm kdv).ps) none) = [some (pv p)] := rfl
  rw [e0]
  have e6 : evSs (callE P gv sb n) gv sb (F_sqfree kw kd kcm kdv).body [some (pv p)] m = .rt (pv (unitL q)) m := by
    unfold F_sqfree
    exact bNx ((sIteF (rCmp (evE_v rfl) (rTup rNil okLen_nil) (by rw [eq_nil, decide_eq_false ne]))).trans rfl) (bRt (sRet (rCall (rCons (rSub (rCall (rCons (evE_v rfl) (rCons (rCall (rCons (evE_v rfl) (rCons (rCall (rCons (evE_v rfl) rNil) h1) rNil)) h2) rNil)) h3) rfl rfl) rNil) h4)))
  rw [e6, finC_rt]
theorem turned_ok {ktr g : Nat} {p : List Rat} (h : P k = some (F_turned ktr)) (htr : P ktr = some (F_trimmed g)) (hg : gv g = fr 0) (hl : p.length ≤ 1000) : callE P gv sb (n + 2) k [pv p] m = .ok (pv (trim p.reverse)) m := by
  rw [callE_eq h rfl]
  have e0 : ([pv p].map some ++ List.replicate ((F_turned ktr).n - (F_turned ktr).ps) none) = [some (pv p)] := rfl
  rw [e0]
  have e4 : revE m (pv p) = some (pv p.reverse) := by
    show some (AV.tup (frs p).reverse) = _
    unfold pv frs
    rw [List.map_reverse]
  have t1 : callE P gv sb (n + 1) ktr [.frl (frs p.reverse)] m = .ok (pv (trim p.reverse)) m := trimmed_ok htr hg isL_frl (by rw [List.length_reverse]; exact hl)
  have e6 : evSs (callE P gv sb (n + 1)) gv sb (F_turned ktr).body [some (pv p)] m = .rt (pv (trim p.reverse)) m :=
    bRt (sRet (rCall (rCons (rBi (rCons (rRev (evE_v rfl) e4) rNil) rfl) rNil) t1))
  rw [e6, finC_rt]
/-- the powers of terms that are not nought -/
def lows : Nat → List Rat → List Nat
  | _, [] => []
  | j, a :: p => if a ≠ 0 then j :: lows (j + 1) p else lows (j + 1) p
theorem enum_lows : ∀ {p : List Rat} {j : Nat}, (enumA j (frs p)).filterMap (fun v => match v with
    | .tup [.int i, .tup [.int a, .int b]] => if Rat.divInt a b ≠ 0 then some (.int i) else none
    | _ => none) = (lows j p).map fun (i : Nat) => AV.int i
  | [], j => rfl
  | a :: p, j => by
    have e : enumA j (frs (a :: p)) = .tup [.int j, fr a] :: enumA (j + 1) (frs p) := rfl
    rw [e, List.filterMap_cons]
    have e2 : (match AV.tup [.int j, fr a] with
      | .tup [.int i, .tup [.int a, .int b]] => if Rat.divInt a b ≠ 0 then some (AV.int i) else none
      | _ => none) = if a ≠ 0 then some (AV.int j) else none := by
      show (if Rat.divInt a.num a.den ≠ 0 then some (AV.int j) else none) = _
      rw [Rat.num_divInt_den]
    rw [e2]
    unfold lows
    by_cases ha : a = 0
    · rw [if_neg (fun z => z ha), if_neg (fun z => z ha)]
      exact enum_lows
    · rw [if_pos ha, if_pos ha, List.map_cons, enum_lows]
theorem lowest_ok {g e : Nat} {p : List Rat} {j : Nat} {js : List Nat} (h : P k = some (F_lowest g e)) (hg : gv g = fr 0) (hl : p.length ≤ 1000) (hj : lows 0 p = j :: js) : callE P gv sb (n + 1) k [pv p] m = .ok (.int j) m := by
  rw [callE_eq h rfl]
  have e0 : ([pv p].map some ++ List.replicate ((F_lowest g e).n - (F_lowest g e).ps) none) = [some (pv p), none, none, none] := rfl
  rw [e0]
  have z := lc_cond (F := callE P gv sb n) (gv := gv) (elt := .v 2) (c := .cmp .ne (.v 3) (.g g)) (own := [2, 3]) (tg := .tu [2, 3]) (it := 2) (src := [.v 0]) (env := [some (pv p), none, none, none]) (m := m) (xs := enumA 0 (frs p)) (fun v => match v with
    | .tup [.int i, .tup [.int a, .int b]] => if Rat.divInt a b ≠ 0 then some (.int i) else none
    | _ => none) (rCons (evE_v rfl) rNil) rfl (fun x hx => ?_) (by rw [enumA_len, frs_len]; exact size_ok hl)
  · rw [enum_lows, hj] at z
    have ne : cmpE m .eq (.frl ((j :: js).map fun (i : Nat) => AV.int i)) (.frl []) = some false := by
      have hp : ∀ l : List Nat, purs (l.map fun (i : Nat) => AV.int i) = true := by
        intro l
        induction l with
        | nil => rfl
        | cons a l ih => exact ih
      have hs : ∀ l : List Nat, PyData.canLayAll0 (dVs (l.map fun (i : Nat) => AV.int i)) = true ∧ PyData.depthAll (dVs (l.map fun (i : Nat) => AV.int i)) = 0 := by
        intro l
        induction l with
        | nil => exact ⟨rfl, rfl⟩
        | cons a l ih => exact ⟨ih.1, by show max 0 _ = 0; rw [ih.2]; rfl⟩
      show eqE m _ _ = _
      unfold eqE
      rw [toD_pur (v := .frl ((j :: js).map fun (i : Nat) => AV.int i)) (hp (j :: js)), toD_pur (v := .frl []) rfl]
      show (if (SeqAt.shaped (.list (dVs ((j :: js).map fun (i : Nat) => AV.int i))) && SeqAt.shaped (.list [])) = true then some false else none) = _
      have s1 : SeqAt.shaped (.list (dVs ((j :: js).map fun (i : Nat) => AV.int i))) = true := by
        unfold SeqAt.shaped
        rw [Bool.and_eq_true, decide_eq_true_eq]
        exact ⟨(hs (j :: js)).1, by show PyData.depthAll _ + 1 ≤ 64; rw [(hs (j :: js)).2]; decide⟩
      rw [s1]
      rfl
    have e6 : evSs (callE P gv sb n) gv sb (F_lowest g e).body [some (pv p), none, none, none] m = .rt (.int j) m := by
      unfold F_lowest
      exact bNx (sSet z) (bNx ((sIteF (rCmp (evE_v rfl) (rLst rNil okLen_nil) ne)).trans rfl) (bRt (sRet (rSub (i := 0) (evE_v rfl) rfl ((sub_lst rfl).trans (L2.atI_nat (j := 0) rfl))))))
    rw [e6, finC_rt]
  · obtain ⟨i, a, h1, h2, rfl⟩ := enum_frs_mem hx
    rw [Nat.zero_add]
    refine ⟨[some (pv p), none, some (.int i), some (fr a)], rfl, ?_⟩
    have c1 : cmpE m .ne (fr a) (gv g) = some (decide (a ≠ 0)) := by
      show (eqE m (fr a) (gv g)).map (!·) = _
      rw [hg, eq_fr]; simp
    have e2 : (match AV.tup [.int i, fr a] with
      | .tup [.int i, .tup [.int a, .int b]] => if Rat.divInt a b ≠ 0 then some (AV.int i) else none
      | _ => none) = if a ≠ 0 then some (AV.int i) else none := by
      show (if Rat.divInt a.num a.den ≠ 0 then some (AV.int i) else none) = _
      rw [Rat.num_divInt_den]
    rw [e2]
    by_cases ha : a = 0
    · right
      exact ⟨rCmp (evE_v rfl) rfl (by rw [c1]; simp [ha]), by simp [ha]⟩
    · left
      exact ⟨rCmp (evE_v rfl) rfl (by rw [c1]; simp [ha]), .int i, by simp [ha], evE_v rfl⟩
end
end PI
/-! Q11: the law's own functions on ints. -/
namespace PI
open PySem

def iv (l : List Int) : List AV := l.map .int
def F_take : FD := ⟨7, 2,
    [.ite (.cmp .eq (.sub (.v 0) (.int 0)) (.int 0)) [.set 4 (.sub (.bin .add (.slc (.sub (.v 0) (.int 3)) (some (.sub (.v 0) (.int 2))) none) (.lst [.int 0])) (.int 0)),
      .augs (.v 0) (.int 2) .add (.int 1),
      .ite (.cmp .ge (.v 4) (.bin .pow (.int 10) (.int 18))) [.subs (.v 0) (.int 0) (.v 4)] [],
      .set 5 (.bin .add (.bin .add (.bin .mul (.sub (.v 0) (.int 1)) (.int 48271)) (.bin .mod (.bi .int [.v 4]) (.int 2147483647))) (.bin .mul (.int 7919) (.sub (.v 0) (.int 2)))),
      .subs (.v 0) (.int 1) (.bin .mod (.bi .int [.v 5]) (.int 2147483647))] [],
      .ite (.cmp .gt (.sub (.v 0) (.int 0)) (.int 0)) [.set 6 (.bin .mod (.bi .int [.sub (.v 0) (.int 0)]) (.v 1)),
      .subs (.v 0) (.int 0) (.bin .fdiv (.bi .int [.sub (.v 0) (.int 0)]) (.v 1)),
      .ret (.v 6)] [],
      .set 2 (.bin .mod (.bi .int [.bin .mul (.bin .add (.sub (.v 0) (.int 1)) (.int 1)) (.int 39373)]) (.int 1000000007)),
      .set 3 (.bin .mod (.bi .int [.bin .mul (.bin .mod (.bi .int [.bin .mul (.v 2) (.v 2)]) (.int 998244353)) (.int 30011)]) (.int 998244353)),
      .ret (.bin .mod (.bi .int [.bin .fdiv (.v 3) (.int 7)]) (.v 1))]⟩
/-- the bag, as it lies -/
def bagM (ex : Mem) (a b c : Int) (cs : List Int) : Mem := .lst [.int a, .int b, .int c, .frl (iv cs)] :: ex
/-- lists of ints besides -/
def ExOk (ex : Mem) : Prop := ∀ o ∈ ex, ∃ l, o = .lst (iv l)
structure BagOk (N : Nat) (a b c : Int) (cs : List Int) : Prop where
  a : 0 ≤ a
  b : 0 ≤ b ∧ b < 2147483647
  c : 0 ≤ c ∧ c ≤ N
  l : cs.length ≤ 63
  z : ∀ x ∈ cs, 0 ≤ x
theorem iv_clsd : ∀ (l : List Int) (k : Nat), clsdL k (iv l) = true
  | [], _ => rfl
  | a :: l, k => iv_clsd l k
theorem bag_cl {ex : Mem} {a b c : Int} {cs : List Int} (h : ExOk ex) : Cl (bagM ex a b c cs) := by
  have h1 : ∀ k, ex.all (clsdO k) = true := fun k => List.all_eq_true.mpr fun o ho => by
    obtain ⟨l, rfl⟩ := h o ho
    exact iv_clsd l k
  show (clsdL (ex.length + 1) [.int a, .int b, .int c, .frl (iv cs)] && ex.all (clsdO (ex.length + 1))) = true
  rw [h1]
  show ((true && (true && (true && (clsdL (ex.length + 1) (iv cs) && true)))) && true) = true
  rw [iv_clsd]; rfl
theorem mul_small {i j : Int} (h : i.natAbs < 2 ^ 64) (g : j.natAbs < 2 ^ 64) : mulOk i j = true := by
  unfold mulOk
  rw [decide_eq_true_eq]
  have := log_lt h (by decide)
  have := log_lt g (by decide)
  omega
theorem mod_pos {i j : Int} {m : Mem} (h : 0 < j) : binE m .mod (.int i) (.int j) = some (.int (i % j)) := by
  show ((if decide (j ≠ 0) = true then some (i.fmod j) else none).map AV.int) = _
  rw [if_pos (by rw [decide_eq_true_eq]; omega), Int.fmod_eq_emod_of_nonneg _ (by omega)]
  rfl
theorem div_pos' {i j : Int} {m : Mem} (h : 0 < j) (h2 : j < 1000000) : binE m .fdiv (.int i) (.int j) = some (.int (i / j)) := by
  show ((if divOk i j = true then some (i.fdiv j) else none).map AV.int) = _
  rw [if_pos, Int.fdiv_eq_ediv_of_nonneg _ (by omega)]
  · rfl
  · unfold divOk
    rw [Bool.and_eq_true, decide_eq_true_eq, Bool.not_eq_true']
    exact ⟨by omega, PyProof.noPylong_small (by omega)⟩
theorem mul_int {i j : Int} {m : Mem} (h : i.natAbs < 2 ^ 64) (g : j.natAbs < 2 ^ 64) : binE m .mul (.int i) (.int j) = some (.int (i * j)) := by
  show (if mulOk i j = true then some (AV.int (i * j)) else none) = _
  rw [if_pos (mul_small h g)]
section
variable {P : Nat → Option FD} {gv : Nat → AV} {sb : Nat → Nat → Option Bool} {n k : Nat} {ex : Mem}
theorem sIfSkip {F : Nat → List AV → Mem → Res AV} {a : Ex} {ts fs : List Sm} {env : Env'} {m m1 : Mem} (h : evE F gv a env m = .ok (.bl false) m1) (h2 : fs = []) : evS F gv sb (.ite a ts fs) env m = .nx env m1 := by
  rw [sIteF h, h2]; rfl
theorem take_sub {F : Nat → List AV → Mem → Res AV} {a b c : Int} {cs : List Int} {env : Env'} (h : env[0]? = some (some (.ref 0))) : evE F gv (.sub (.v 0) (.int 0)) env (bagM ex a b c cs) = .ok (.int a) (bagM ex a b c cs) ∧ evE F gv (.sub (.v 0) (.int 1)) env (bagM ex a b c cs) = .ok (.int b) (bagM ex a b c cs) ∧ evE F gv (.sub (.v 0) (.int 2)) env (bagM ex a b c cs) = .ok (.int c) (bagM ex a b c cs) ∧ evE F gv (.sub (.v 0) (.int 3)) env (bagM ex a b c cs) = .ok (.frl (iv cs)) (bagM ex a b c cs) :=
  ⟨rSub (i := 0) (evE_v h) rfl rfl, rSub (i := 1) (evE_v h) rfl rfl, rSub (i := 2) (evE_v h) rfl rfl, rSub (i := 3) (evE_v h) rfl rfl⟩
theorem first_cell {m : Mem} {cs : List Int} {c : Int} (hc : 0 ≤ c) (hl : cs.length ≤ 63) (hz : ∀ x ∈ cs, 0 ≤ x) : ∃ x : Int, 0 ≤ x ∧ slcE m (.frl (iv cs)) (some c) none = some (.frl (iv (cs.drop c.toNat))) ∧ binE m .add (.frl (iv (cs.drop c.toNat))) (.frl [.int 0]) = some (.frl (iv (cs.drop c.toNat ++ [0]))) ∧ subE m (.frl (iv (cs.drop c.toNat ++ [0]))) 0 = some (.int x) := by
  obtain ⟨j, rfl⟩ : ∃ j : Nat, c = j := ⟨c.toNat, by omega⟩
  rw [Int.toNat_natCast]
  have e1 : slcE m (.frl (iv cs)) (some (j : Int)) none = some (.frl (iv (cs.drop j))) := by
    rw [slc_lst rfl, cut_lo]
    unfold iv; rw [List.map_drop]
  have e2 : binE m .add (.frl (iv (cs.drop j))) (.frl [.int 0]) = some (.frl (iv (cs.drop j ++ [0]))) := by
    show (if okLen ((iv (cs.drop j)).length + 1) = true then some (AV.frl (iv (cs.drop j) ++ [.int 0])) else none) = _
    rw [if_pos]
    · unfold iv; rw [List.map_append]; rfl
    · unfold okLen iv
      rw [decide_eq_true_eq, List.length_map, List.length_drop]
      exact size_ok (by omega)
  cases q : cs.drop j with
  | nil =>
    rw [q] at e1 e2
    exact ⟨0, Int.le_refl 0, e1, e2, (sub_lst rfl).trans (L2.atI_nat (j := 0) rfl)⟩
  | cons x r =>
    rw [q] at e1 e2
    refine ⟨x, hz x ?_, e1, e2, (sub_lst rfl).trans (L2.atI_nat (j := 0) rfl)⟩
    have : x ∈ cs.drop j := by rw [q]; simp
    exact List.mem_of_mem_drop this
theorem sAugs {F : Nat → List AV → Mem → Res AV} {o i a : Ex} {bp : Bop} {q : Nat} {j : Int} {env : Env'} {m m1 m2 m3 m4 : Mem} {old y z : AV} (h : evE F gv o env m = .ok (.ref q) m1) (h2 : evE F gv i env m1 = .ok (.int j) m2) (h3 : subE m2 (.ref q) j = some old) (h4 : evE F gv a env m2 = .ok y m3) (h5 : augE bp old y = some z) (h6 : setItE m3 (.ref q) (.int j) z = some m4) : evS F gv sb (.augs o i bp a) env m = .nx env m4 := by
  have : evS F gv sb (.augs o i bp a) env m = (evE F gv o env m).thenS env fun x m => (evE F gv i env m).thenS env fun k m => match x, k with
    | .ref q, .int j => match subE m (.ref q) j with
      | some old => (evE F gv a env m).thenS env fun y m => match augE bp old y with
        | some z => match setItE m (.ref q) (.int j) z with
          | some m => .nx env m
          | none => .bad
        | none => .bad
      | none => .bad
    | _, _ => .bad := rfl
  rw [this, h, then_ok, h2, then_ok]
  show (match subE m2 (.ref q) j with
      | some old => (evE F gv a env m2).thenS env fun y m => match augE bp old y with
        | some z => match setItE m (.ref q) (.int j) z with
          | some m => SRes.nx env m
          | none => .bad
        | none => .bad
      | none => .bad) = _
  rw [h3]
  show (evE F gv a env m2).thenS env _ = _
  rw [h4, then_ok, h5]
  show (match setItE m3 (.ref q) (.int j) z with
          | some m => SRes.nx env m
          | none => .bad) = _
  rw [h6]
/-- the second half of take -/
theorem take_end {N : Nat} {a b c : Int} {cs : List Int} {many : Int} (h1 : 0 < many) (h2 : many ≤ 1000) (ok : BagOk N a b c cs) {w4 w5 : Option AV} : ∃ v a' : Int, BagOk N a' b c cs ∧ 0 ≤ v ∧ v < many ∧
    evSs (callE P gv sb n) gv sb (F_take.body.drop 1) [some (.ref 0), some (.int many), none, none, w4, w5, none] (bagM ex a b c cs) = .rt (.int v) (bagM ex a' b c cs) := by
  by_cases ha : 0 < a
  · refine ⟨a % many, a / many, ⟨Int.ediv_nonneg ok.a (by omega), ok.b, ok.c, ok.l, ok.z⟩, Int.emod_nonneg _ (by omega), Int.emod_lt_of_pos _ h1, ?_⟩
    have c1 : cmpE (bagM ex a b c cs) .gt (.int a) (.int 0) = some true := by show some (decide (0 < a)) = _; rw [decide_eq_true ha]
    show evSs _ gv sb [_, _, _, _] _ _ = _
    exact bRt ((sIteT (rCmp (take_sub rfl).1 rfl c1)).trans (bNx (sSet (rBin (rBi (rCons (take_sub rfl).1 rNil) rfl) (evE_v rfl) (mod_pos h1))) (bNx (sSubs (rBin (rBi (rCons (take_sub rfl).1 rNil) rfl) (evE_v rfl) (div_pos' h1 (by omega))) (evE_v rfl) rfl (m4 := bagM ex (a / many) b c cs) rfl) (bRt (sRet (evE_v rfl))))))
  · have c1 : cmpE (bagM ex a b c cs) .gt (.int a) (.int 0) = some false := by show some (decide (0 < a)) = _; rw [decide_eq_false ha]
    obtain ⟨b1, b2⟩ := ok.b
    have r1 := Int.emod_nonneg ((b + 1) * 39373) (b := 1000000007) (by decide)
    have r2 := Int.emod_lt_of_pos ((b + 1) * 39373) (b := 1000000007) (by decide)
    generalize hx : ((b + 1) * 39373) % 1000000007 = x at r1 r2
    have r3 := Int.emod_nonneg (x * x) (b := 998244353) (by decide)
    have r4 := Int.emod_lt_of_pos (x * x) (b := 998244353) (by decide)
    generalize hy : (x * x) % 998244353 = y at r3 r4
    generalize hz : (y * 30011) % 998244353 = z
    refine ⟨(z / 7) % many, a, ok, Int.emod_nonneg _ (by omega), Int.emod_lt_of_pos _ h1, ?_⟩
    have k1 : binE (bagM ex a b c cs) .add (.int b) (.int 1) = some (.int (b + 1)) := rfl
    have k2 : binE (bagM ex a b c cs) .mul (.int (b + 1)) (.int 39373) = some (.int ((b + 1) * 39373)) := mul_int (by omega) (by decide)
    have k3 : binE (bagM ex a b c cs) .mod (.int ((b + 1) * 39373)) (.int 1000000007) = some (.int x) := by rw [mod_pos (by decide), hx]
    have k4 : binE (bagM ex a b c cs) .mul (.int x) (.int x) = some (.int (x * x)) := mul_int (by omega) (by omega)
    have k5 : binE (bagM ex a b c cs) .mod (.int (x * x)) (.int 998244353) = some (.int y) := by rw [mod_pos (by decide), hy]
    have k6 : binE (bagM ex a b c cs) .mul (.int y) (.int 30011) = some (.int (y * 30011)) := mul_int (by omega) (by decide)
    have k7 : binE (bagM ex a b c cs) .mod (.int (y * 30011)) (.int 998244353) = some (.int z) := by rw [mod_pos (by decide), hz]
    show evSs _ gv sb [_, _, _, _] _ _ = _
    exact bNx (sIfSkip (rCmp (take_sub rfl).1 rfl c1) rfl) (bNx (sSet (rBin (rBi (rCons (rBin (rBin (take_sub rfl).2.1 rfl k1) rfl k2) rNil) rfl) rfl k3)) (bNx (sSet (rBin (rBi (rCons (rBin (rBin (rBi (rCons (rBin (evE_v rfl) (evE_v rfl) k4) rNil) rfl) rfl k5) rfl k6) rNil) rfl) rfl k7)) (bRt (sRet (rBin (rBi (rCons (rBin (evE_v rfl) rfl (div_pos' (by decide) (by decide))) rNil) rfl) (evE_v rfl) (mod_pos h1))))))
theorem pow18 {m : Mem} : binE m .pow (.int 10) (.int 18) = some (.int 1000000000000000000) := by
  show ((if decide (0 ≤ (18 : Int) ∧ (18 : Int) ≤ 1000000 ∧ (10 : Int).natAbs < 2 ^ 64) = true then some ((10 : Int) ^ (18 : Int).toNat) else none).map AV.int) = _
  rw [if_pos (by decide)]
  rfl
theorem take_ok {N : Nat} {a b c : Int} {cs : List Int} {many : Int} (h : P k = some F_take) (h1 : 0 < many) (h2 : many ≤ 1000) (ok : BagOk N a b c cs) (hN : N ≤ 1000000) : ∃ v a' b' c' : Int, BagOk (N + 1) a' b' c' cs ∧ 0 ≤ v ∧ v < many ∧
    callE P gv sb (n + 1) k [.ref 0, .int many] (bagM ex a b c cs) = .ok (.int v) (bagM ex a' b' c' cs) := by
  rw [callE_eq h rfl]
  have e0 : ([AV.ref 0, AV.int many].map some ++ List.replicate (F_take.n - F_take.ps) none) = [some (.ref 0), some (.int many), none, none, none, none, none] := rfl
  rw [e0]
  have fin : ∀ {v a' b' c' : Int}, finC (bagM ex a b c cs).length (.rt (.int v) (bagM ex a' b' c' cs)) = .ok (.int v) (bagM ex a' b' c' cs) := fun {v a' b' c'} => finC_rt (m := bagM ex a' b' c' cs)
  by_cases ha : a = 0
  · subst ha
    obtain ⟨c1, c2⟩ := ok.c
    obtain ⟨b1, b2⟩ := ok.b
    obtain ⟨x, x0, f1, f2, f3⟩ := first_cell (m := bagM ex 0 b c cs) c1 ok.l ok.z
    have q0 : cmpE (bagM ex 0 b c cs) .eq (.int 0) (.int 0) = some true := by
      have : eqE (bagM ex 0 b c cs) (.int 0) (.int 0) = some true := by rw [eqE_int]; rfl
      exact this
    -- the cell
    have s1 : evS (callE P gv sb n) gv sb (.set 4 (.sub (.bin .add (.slc (.sub (.v 0) (.int 3)) (some (.sub (.v 0) (.int 2))) none) (.lst [.int 0])) (.int 0))) [some (.ref 0), some (.int many), none, none, none, none, none] (bagM ex 0 b c cs) = .nx [some (.ref 0), some (.int many), none, none, some (.int x), none, none] (bagM ex 0 b c cs) :=
      sSet (rSub (i := 0) (rBin (rSlc (take_sub rfl).2.2.2 (rOs (take_sub rfl).2.2.1) rOn f1) (rLst (rCons rfl rNil) (by show okLen 1 = true; decide)) f2) rfl f3)
    have s2 : evS (callE P gv sb n) gv sb (.augs (.v 0) (.int 2) .add (.int 1)) [some (.ref 0), some (.int many), none, none, some (.int x), none, none] (bagM ex 0 b c cs) = .nx [some (.ref 0), some (.int many), none, none, some (.int x), none, none] (bagM ex 0 b (c + 1) cs) :=
      sAugs (j := 2) (evE_v rfl) rfl rfl rfl rfl rfl
    have s3 : ∃ a1 : Int, 0 ≤ a1 ∧ evS (callE P gv sb n) gv sb (.ite (.cmp .ge (.v 4) (.bin .pow (.int 10) (.int 18))) [.subs (.v 0) (.int 0) (.v 4)] []) [some (.ref 0), some (.int many), none, none, some (.int x), none, none] (bagM ex 0 b (c + 1) cs) = .nx [some (.ref 0), some (.int many), none, none, some (.int x), none, none] (bagM ex a1 b (c + 1) cs) := by
      by_cases hx : (1000000000000000000 : Int) ≤ x
      · exact ⟨x, x0, (sIteT (rCmp (evE_v rfl) (rBin rfl rfl pow18) (by show some (decide (_ ≤ _)) = _; rw [decide_eq_true hx]))).trans (bNx (sSubs (evE_v rfl) (evE_v rfl) rfl rfl) rfl)⟩
      · exact ⟨0, Int.le_refl 0, sIfSkip (rCmp (evE_v rfl) (rBin rfl rfl pow18) (by show some (decide (_ ≤ _)) = _; rw [decide_eq_false hx])) rfl⟩
    obtain ⟨a1, a10, s3⟩ := s3
    have r1 := Int.emod_nonneg x (b := 2147483647) (by decide)
    have r2 := Int.emod_lt_of_pos x (b := 2147483647) (by decide)
    have k1 : binE (bagM ex a1 b (c + 1) cs) .mul (.int b) (.int 48271) = some (.int (b * 48271)) := mul_int (by omega) (by decide)
    have k2 : binE (bagM ex a1 b (c + 1) cs) .mod (.int x) (.int 2147483647) = some (.int (x % 2147483647)) := mod_pos (by decide)
    have k3 : binE (bagM ex a1 b (c + 1) cs) .add (.int (b * 48271)) (.int (x % 2147483647)) = some (.int (b * 48271 + x % 2147483647)) := rfl
    have k4 : binE (bagM ex a1 b (c + 1) cs) .mul (.int 7919) (.int (c + 1)) = some (.int (7919 * (c + 1))) := mul_int (by decide) (by omega)
    have k5 : binE (bagM ex a1 b (c + 1) cs) .add (.int (b * 48271 + x % 2147483647)) (.int (7919 * (c + 1))) = some (.int (b * 48271 + x % 2147483647 + 7919 * (c + 1))) := rfl
    generalize hs : b * 48271 + x % 2147483647 + 7919 * (c + 1) = s at k5
    have s4 : evS (callE P gv sb n) gv sb (.set 5 (.bin .add (.bin .add (.bin .mul (.sub (.v 0) (.int 1)) (.int 48271)) (.bin .mod (.bi .int [.v 4]) (.int 2147483647))) (.bin .mul (.int 7919) (.sub (.v 0) (.int 2))))) [some (.ref 0), some (.int many), none, none, some (.int x), none, none] (bagM ex a1 b (c + 1) cs) = .nx [some (.ref 0), some (.int many), none, none, some (.int x), some (.int s), none] (bagM ex a1 b (c + 1) cs) :=
      sSet (rBin (rBin (rBin (take_sub rfl).2.1 rfl k1) (rBin (rBi (rCons (evE_v rfl) rNil) rfl) rfl k2) k3) (rBin rfl (take_sub rfl).2.2.1 k4) k5)
    have k6 : binE (bagM ex a1 b (c + 1) cs) .mod (.int s) (.int 2147483647) = some (.int (s % 2147483647)) := mod_pos (by decide)
    have s5 : evS (callE P gv sb n) gv sb (.subs (.v 0) (.int 1) (.bin .mod (.bi .int [.v 5]) (.int 2147483647))) [some (.ref 0), some (.int many), none, none, some (.int x), some (.int s), none] (bagM ex a1 b (c + 1) cs) = .nx [some (.ref 0), some (.int many), none, none, some (.int x), some (.int s), none] (bagM ex a1 (s % 2147483647) (c + 1) cs) :=
      sSubs (rBin (rBi (rCons (evE_v rfl) rNil) rfl) rfl k6) (evE_v rfl) rfl rfl
    have ok2 : BagOk (N + 1) a1 (s % 2147483647) (c + 1) cs := ⟨a10, ⟨Int.emod_nonneg _ (by decide), Int.emod_lt_of_pos _ (by decide)⟩, ⟨by omega, by omega⟩, ok.l, ok.z⟩
    obtain ⟨v, a', o1, o2, o3, o4⟩ := take_end (P := P) (gv := gv) (sb := sb) (n := n) h1 h2 ok2 (w4 := some (.int x)) (w5 := some (.int s))
    refine ⟨v, a', _, _, o1, o2, o3, ?_⟩
    have first : evS (callE P gv sb n) gv sb (F_take.body.headD .pass) [some (.ref 0), some (.int many), none, none, none, none, none] (bagM ex 0 b c cs) = .nx [some (.ref 0), some (.int many), none, none, some (.int x), some (.int s), none] (bagM ex a1 (s % 2147483647) (c + 1) cs) :=
      (sIteT (rCmp (take_sub rfl).1 rfl q0)).trans (bNx s1 (bNx s2 (bNx s3 (bNx s4 (bNx s5 rfl)))))
    have e6 : evSs (callE P gv sb n) gv sb F_take.body [some (.ref 0), some (.int many), none, none, none, none, none] (bagM ex 0 b c cs) = .rt (.int v) (bagM ex a' (s % 2147483647) (c + 1) cs) := bNx first o4
    rw [e6]
    exact fin
  · have q0 : cmpE (bagM ex a b c cs) .eq (.int a) (.int 0) = some false := by
      have : eqE (bagM ex a b c cs) (.int a) (.int 0) = some false := by rw [eqE_int, decide_eq_false ha]
      exact this
    obtain ⟨v, a', o1, o2, o3, o4⟩ := take_end (P := P) (gv := gv) (sb := sb) (n := n) h1 h2 ok (w4 := none) (w5 := none)
    refine ⟨v, a', b, c, ⟨o1.a, o1.b, ⟨o1.c.1, by have := o1.c.2; omega⟩, o1.l, o1.z⟩, o2, o3, ?_⟩
    have first : evS (callE P gv sb n) gv sb (F_take.body.headD .pass) [some (.ref 0), some (.int many), none, none, none, none, none] (bagM ex a b c cs) = .nx [some (.ref 0), some (.int many), none, none, none, none, none] (bagM ex a b c cs) :=
      sIfSkip (rCmp (take_sub rfl).1 rfl q0) rfl
    have e6 : evSs (callE P gv sb n) gv sb F_take.body [some (.ref 0), some (.int many), none, none, none, none, none] (bagM ex a b c cs) = .rt (.int v) (bagM ex a' b c cs) := bNx first o4
    rw [e6]
    exact fin
end
end PI
/-! Q12: the law's own polynomials of ints. -/
namespace PI
open PySem

def cr (l : List Int) : List Rat := l.map fun (z : Int) => (z : Rat)
theorem fr_int (z : Int) : AV.tup [.int z, .int 1] = fr (z : Rat) := rfl
theorem cr_len {l : List Int} : (cr l).length = l.length := by simp [cr]
def trimI : List Int → List Int
  | [] => []
  | a :: p => if trimI p = [] ∧ a = 0 then [] else a :: trimI p
theorem cr_nil {l : List Int} : cr l = [] ↔ l = [] := by simp [cr]
theorem cr_trim : ∀ {l : List Int}, cr (trimI l) = trim (cr l)
  | [] => rfl
  | a :: l => by
    have ih := cr_trim (l := l)
    show cr (if trimI l = [] ∧ a = 0 then [] else a :: trimI l) = if trim (cr l) = [] ∧ (a : Rat) = 0 then [] else (a : Rat) :: trim (cr l)
    rw [← ih]
    have e : ((a : Rat) = 0) ↔ a = 0 := by
      constructor
      · intro h; exact_mod_cast h
      · intro h; rw [h]; rfl
    by_cases h : trimI l = [] ∧ a = 0
    · rw [if_pos h, if_pos ⟨cr_nil.mpr h.1, e.mpr h.2⟩]; rfl
    · rw [if_neg h, if_neg fun z => h ⟨cr_nil.mp z.1, e.mp z.2⟩]; rfl
theorem trimI_snoc : ∀ {l : List Int}, trimI (l ++ [0]) = trimI l
  | [] => by simp [trimI]
  | a :: l => by
    show (if trimI (l ++ [0]) = [] ∧ a = 0 then [] else a :: trimI (l ++ [0])) = _
    rw [trimI_snoc]; rfl
theorem trimI_last : ∀ {l : List Int} {a : Int}, a ≠ 0 → trimI (l ++ [a]) = l ++ [a]
  | [], a, h => by simp [trimI, h]
  | b :: l, a, h => by
    show (if trimI (l ++ [a]) = [] ∧ b = 0 then [] else b :: trimI (l ++ [a])) = _
    rw [trimI_last h]
    rw [if_neg (by simp)]
    rfl
theorem iv_len {l : List Int} : (iv l).length = l.length := by simp [iv]
theorem iv_purs : ∀ l : List Int, purs (iv l) = true
  | [] => rfl
  | a :: l => iv_purs l
theorem iv_lay : ∀ l : List Int, PyData.canLayAll0 (dVs (iv l)) = true ∧ PyData.depthAll (dVs (iv l)) = 0
  | [] => ⟨rfl, rfl⟩
  | a :: l => ⟨(iv_lay l).1, by show max 0 (PyData.depthAll (dVs (iv l))) = 0; rw [(iv_lay l).2]; rfl⟩
theorem iv_shaped (l : List Int) : SeqAt.shaped (.list (dVs (iv l))) = true := by
  unfold SeqAt.shaped
  rw [Bool.and_eq_true, decide_eq_true_eq]
  exact ⟨(iv_lay l).1, by show PyData.depthAll (dVs (iv l)) + 1 ≤ 64; rw [(iv_lay l).2]; decide⟩
theorem toD_lst {m : Mem} {v : AV} {l : List Int} (h : lstOf m v = some (iv l)) : toD m v = some (.list (dVs (iv l))) := by
  cases v with
  | frl ys => cases h; exact toD_pur (v := .frl (iv l)) (iv_purs l)
  | scr ys => cases h; exact toD_pur (v := .scr (iv l)) (iv_purs l)
  | ref i =>
    have h2 : (match m[i]? with
      | some (.lst xs) => some xs
      | none => none) = some (iv l) := h
    show (match m[i]? with
      | some (.lst xs) => (pDs (rfK m 7) xs).map PyData.list
      | none => none) = _
    split at h2
    · rename_i xs e
      cases h2
      show (pDs (rfK m 7) (iv l)).map PyData.list = _
      rw [pDs_pur (iv_purs l)]
      rfl
    · cases h2
  | _ => cases h
/-- a list of ints against the empty one -/
theorem eq_ivnil {m : Mem} {v : AV} {l : List Int} (h : lstOf m v = some (iv l)) : eqE m v (.frl []) = some (decide (l = [])) := by
  unfold eqE
  rw [toD_lst h, toD_pur (v := .frl []) rfl]
  show (if (SeqAt.shaped (.list (dVs (iv l))) && SeqAt.shaped (.list [])) = true then some (PyData.eqvAll (dVs (iv l)) []) else none) = _
  rw [iv_shaped]
  cases l with
  | nil => rfl
  | cons a l => rfl
theorem cut_last {l : List AV} {a : AV} : cutA (l ++ [a]) none (some (-1)) = l := by
  unfold cutA
  rw [HT.sIx_none]
  have : HT.sIx (l ++ [a]).length (l ++ [a]).length (some (-1)) = l.length := by
    show (if (-1 : Int) < 0 then ((-1 : Int) + ((l ++ [a]).length : Int)).toNat else min (-1 : Int).toNat (l ++ [a]).length) = _
    rw [if_pos (by decide), List.length_append, List.length_singleton]
    omega
  rw [this]
  simp
def F_ltrim : FD := ⟨1, 1,
    [.wh (.and [.cmp .ne (.v 0) (.lst []), .cmp .eq (.sub (.v 0) (.neg (.int 1))) (.int 0)]) [.set 0 (.slc (.v 0) none (some (.neg (.int 1))))],
      .ret (.v 0)]⟩
section
variable {P : Nat → Option FD} {gv : Nat → AV} {sb : Nat → Nat → Option Bool} {m : Mem} {n k : Nat}
theorem at_last {l : List Int} {a : Int} : L2.atI (iv (l ++ [a])) (-1) = some (.int a) := by
  unfold iv
  rw [List.map_append]
  exact L2.atI_last _ _
theorem ltrim_loop {F : Nat → List AV → Mem → Res AV} : ∀ (l : List Int) (v : AV) (f : Nat), lstOf m v = some (iv l) → l.length < f → ∃ w, (w = v ∨ w = .frl (iv (trimI l))) ∧ lstOf m w = some (iv (trimI l)) ∧
    whLoop (fun env m => evE F gv (.and [.cmp .ne (.v 0) (.lst []), .cmp .eq (.sub (.v 0) (.neg (.int 1))) (.int 0)]) env m) (fun env m => evSs F gv sb [.set 0 (.slc (.v 0) none (some (.neg (.int 1))))] env m) f [some v] m = .nx [some w] m := by
  intro l
  induction l using snocRec with
  | nil =>
    intro v f h hf
    obtain ⟨f, rfl⟩ : ∃ g, f = g + 1 := ⟨f - 1, by omega⟩
    refine ⟨v, .inl rfl, h, wh_end (rAndF (rCmp (evE_v rfl) (rLst rNil okLen_nil) ?_))⟩
    show (eqE m v (.frl [])).map (!·) = _
    rw [eq_ivnil h]; rfl
  | snoc l a ih =>
    intro v f h hf
    rw [List.length_append, List.length_singleton] at hf
    obtain ⟨f, rfl⟩ : ∃ g, f = g + 1 := ⟨f - 1, by omega⟩
    have c1 : cmpE m .ne v (.frl []) = some true := by
      show (eqE m v (.frl [])).map (!·) = _
      rw [eq_ivnil h, decide_eq_false (by simp)]; rfl
    have c2 : subE m v (-1) = some (.int a) := (sub_lst h).trans at_last
    have c3 : cmpE m .eq (.int a) (.int 0) = some (decide (a = 0)) := eqE_int (m := m)
    have cond : evE F gv (.and [.cmp .ne (.v 0) (.lst []), .cmp .eq (.sub (.v 0) (.neg (.int 1))) (.int 0)]) [some v] m = .ok (.bl (decide (a = 0))) m :=
      rAndT (rCmp (evE_v rfl) (rLst rNil okLen_nil) c1) (rAnd1 (rCmp (rSub (evE_v rfl) (rNeg rfl) c2) rfl c3))
    by_cases z : a = 0
    · subst z
      have s1 : slcE m v none (some (-1)) = some (.frl (iv l)) := by
        rw [slc_lst h]
        unfold iv
        rw [List.map_append]
        show some (AV.frl (cutA (l.map AV.int ++ [.int 0]) none (some (-1)))) = _
        rw [cut_last]
      obtain ⟨w, w1, w2, w3⟩ := ih (.frl (iv l)) f rfl (by omega)
      rw [trimI_snoc]
      refine ⟨w, ?_, w2, ?_⟩
      · rcases w1 with w1 | w1
        · right
          subst w1
          have : iv l = iv (trimI l) := by
            have : some (iv l) = some (iv (trimI l)) := w2
            exact Option.some.inj this
          rw [← this]
        · exact .inr w1
      · rw [wh_step (e2 := [some (.frl (iv l))]) (m2 := m) (by rw [cond]; rfl) (bNx (sSet (rSlc (evE_v rfl) rOn (rOs (rNeg rfl)) s1)) rfl)]
        exact w3
    · rw [trimI_last z]
      exact ⟨v, .inl rfl, h, wh_end (by rw [cond, decide_eq_false z])⟩
theorem ltrim_ok {l : List Int} {v : AV} (h : P k = some F_ltrim) (hv : lstOf m v = some (iv l)) (hl : l.length ≤ 1000) : ∃ w, (w = v ∨ w = .frl (iv (trimI l))) ∧ lstOf m w = some (iv (trimI l)) ∧ callE P gv sb (n + 1) k [v] m = .ok w m := by
  rw [callE_eq h rfl]
  have e0 : ([v].map some ++ List.replicate (F_ltrim.n - F_ltrim.ps) none) = [some v] := rfl
  rw [e0]
  obtain ⟨w, w1, w2, w3⟩ := ltrim_loop (F := callE P gv sb n) (gv := gv) (sb := sb) l v loopK hv (by unfold loopK; omega)
  refine ⟨w, w1, w2, ?_⟩
  have e6 : evSs (callE P gv sb n) gv sb F_ltrim.body [some v] m = .rt w m := bNx w3 (bRt (sRet (evE_v rfl)))
  rw [e6, finC_rt]
theorem ltrim_frl {l : List Int} (h : P k = some F_ltrim) (hl : l.length ≤ 1000) : callE P gv sb (n + 1) k [.frl (iv l)] m = .ok (.frl (iv (trimI l))) m := by
  obtain ⟨w, w1, w2, w3⟩ := ltrim_ok (gv := gv) (sb := sb) (n := n) (m := m) (v := .frl (iv l)) h rfl hl
  rw [w3]
  rcases w1 with w1 | w1
  · subst w1
    have : iv l = iv (trimI l) := by
      have : some (iv l) = some (iv (trimI l)) := w2
      exact Option.some.inj this
    rw [← this]
  · rw [w1]
theorem list_lst {v : AV} {xs : List AV} (h : lstOf m v = some xs) : biE m .list [v] = some (.frl xs) := by
  cases v <;> first | (cases h; done) | (cases h; rfl) | (rename_i j; show (lstOf m (.ref j)).map _ = _; rw [h]; rfl)
def F_lpoly (kl : Nat) : FD := ⟨2, 1, [.ret (.bi .tuple [.lc (.tup [.v 1, .int 1]) [1] (.nm 1) 0 [.call kl [.bi .list [.v 0]]] none])]⟩
theorem iv_mem {l : List Int} {x : AV} (h : x ∈ iv l) : ∃ z, z ∈ l ∧ x = .int z := by
  unfold iv at h
  rw [List.mem_map] at h
  obtain ⟨z, h1, h2⟩ := h
  exact ⟨z, h1, h2.symm⟩
theorem trimI_len : ∀ l : List Int, (trimI l).length ≤ l.length
  | [] => Nat.le_refl _
  | a :: l => by
    unfold trimI
    have := trimI_len l
    split
    · simp
    · simp; exact this
theorem lpoly_ok {kl : Nat} {l : List Int} {v : AV} (h : P k = some (F_lpoly kl)) (hl : P kl = some F_ltrim) (hv : lstOf m v = some (iv l)) (hn : l.length ≤ 1000) : callE P gv sb (n + 2) k [v] m = .ok (pv (trim (cr l))) m := by
  rw [callE_eq h rfl]
  have e0 : ([v].map some ++ List.replicate ((F_lpoly kl).n - (F_lpoly kl).ps) none) = [some v, none] := rfl
  rw [e0]
  have t1 : callE P gv sb (n + 1) kl [.frl (iv l)] m = .ok (.frl (iv (trimI l))) m := ltrim_frl hl hn
  have z := lc_pure (F := callE P gv sb (n + 1)) (gv := gv) (elt := .tup [.v 1, .int 1]) (own := [1]) (tg := .nm 1) (it := 0) (src := [.call kl [.bi .list [.v 0]]]) (env := [some v, none]) (m := m) (xs := iv (trimI l)) (fun x => .tup [x, .int 1]) (rCons (rCall (rCons (rBi (rCons (evE_v rfl) rNil) (list_lst hv)) rNil) t1) rNil) rfl (fun x hx => ?_) (by rw [iv_len]; exact size_ok (Nat.le_trans (trimI_len l) hn))
  · have e1 : (iv (trimI l)).map (fun x => AV.tup [x, .int 1]) = frs (trim (cr l)) := by
      rw [← cr_trim]
      unfold iv frs cr
      rw [List.map_map, List.map_map]
      rfl
    rw [e1] at z
    have e6 : evSs (callE P gv sb (n + 1)) gv sb (F_lpoly kl).body [some v, none] m = .rt (pv (trim (cr l))) m := bRt (sRet (rBi (rCons z rNil) rfl))
    rw [e6, finC_rt]
  · obtain ⟨z, _, rfl⟩ := iv_mem hx
    exact ⟨[some v, some (.int z)], rfl, rTup (rCons (evE_v rfl) (rCons rfl rNil)) (okLen_two _ _)⟩
/-! ### sums of ints -/
def F_lpadd (kl : Nat) : FD := ⟨4, 2,
    [.set 2 (.bi .max [.bi .len [.v 0], .bi .len [.v 1]]),
      .ret (.call kl [.lc (.bin .add (.ite (.cmp .lt (.v 3) (.bi .len [.v 0])) (.sub (.v 0) (.v 3)) (.int 0)) (.ite (.cmp .lt (.v 3) (.bi .len [.v 1])) (.sub (.v 1) (.v 3)) (.int 0))) [3] (.nm 3) 1 [.v 2] none])]⟩
def F_lpneg : FD := ⟨2, 1, [.ret (.lc (.neg (.v 1)) [1] (.nm 1) 0 [.v 0] none)]⟩
def coI (l : List Int) (i : Nat) : Int := l.getD i 0
def addI (p q : List Int) : List Int := (List.range (max p.length q.length)).map fun i => coI p i + coI q i
theorem co_cr {l : List Int} {i : Nat} : co (cr l) i = (coI l i : Rat) := by
  unfold co coI cr
  rw [List.getD_eq_getElem?_getD, List.getD_eq_getElem?_getD, List.getElem?_map]
  cases l[i]? <;> rfl
theorem cr_addI {p q : List Int} : cr (addI p q) = addL (cr p) (cr q) := by
  unfold addI addL
  rw [cr_len, cr_len]
  unfold cr
  rw [List.map_map]
  apply List.map_congr_left
  intro i _
  show ((coI p i + coI q i : Int) : Rat) = co (cr p) i + co (cr q) i
  rw [co_cr, co_cr, Rat.intCast_add]
theorem at_coI {l : List Int} {i : Nat} (h : i < l.length) : L2.atI (iv l) (i : Int) = some (.int (coI l i)) := L2.atI_nat (by unfold iv coI; rw [List.getElem?_map, List.getD_eq_getElem?_getD]; simp [h])
theorem lpneg_ok {l : List Int} (h : P k = some F_lpneg) (hn : l.length ≤ 1000) : callE P gv sb (n + 1) k [.frl (iv l)] m = .ok (.frl (iv (l.map fun z => -z))) m := by
  rw [callE_eq h rfl]
  have e0 : ([AV.frl (iv l)].map some ++ List.replicate (F_lpneg.n - F_lpneg.ps) none) = [some (.frl (iv l)), none] := rfl
  rw [e0]
  have z := lc_pure (F := callE P gv sb n) (gv := gv) (elt := .neg (.v 1)) (own := [1]) (tg := .nm 1) (it := 0) (src := [.v 0]) (env := [some (.frl (iv l)), none]) (m := m) (xs := iv l) (fun x => match x with
    | .int z => .int (-z)
    | _ => .non) (rCons (evE_v rfl) rNil) rfl (fun x hx => ?_) (by rw [iv_len]; exact size_ok hn)
  · have e1 : (iv l).map (fun x => match x with
      | .int z => AV.int (-z)
      | _ => .non) = iv (l.map fun z => -z) := by
      unfold iv
      rw [List.map_map, List.map_map]
      rfl
    rw [e1] at z
    have e6 : evSs (callE P gv sb n) gv sb F_lpneg.body [some (.frl (iv l)), none] m = .rt (.frl (iv (l.map fun z => -z))) m := bRt (sRet z)
    rw [e6, finC_rt]
  · obtain ⟨z, _, rfl⟩ := iv_mem hx
    exact ⟨[some (.frl (iv l)), some (.int z)], rfl, rNeg (evE_v rfl)⟩
theorem lpadd_ok {kl : Nat} {p q : List Int} (h : P k = some (F_lpadd kl)) (hl : P kl = some F_ltrim) (hp : p.length ≤ 400) (hq : q.length ≤ 400) : callE P gv sb (n + 2) k [.frl (iv p), .frl (iv q)] m = .ok (.frl (iv (trimI (addI p q)))) m := by
  rw [callE_eq h rfl]
  have e0 : ([AV.frl (iv p), AV.frl (iv q)].map some ++ List.replicate ((F_lpadd kl).n - (F_lpadd kl).ps) none) = [some (.frl (iv p)), some (.frl (iv q)), none, none] := rfl
  rw [e0]
  have lp : ∀ l : List Int, biE m .len [.frl (iv l)] = some (.int l.length) := fun l => by rw [len_lst rfl, iv_len]
  have part : ∀ (l : List Int) (a : Ex) (i : Nat) (env : Env'), evE (callE P gv sb (n + 1)) gv a env m = .ok (.frl (iv l)) m → env[3]? = some (some (.int i)) → evE (callE P gv sb (n + 1)) gv (.ite (.cmp .lt (.v 3) (.bi .len [a])) (.sub a (.v 3)) (.int 0)) env m = .ok (.int (coI l i)) m := by
    intro l a i env ha hi
    by_cases hlt : i < l.length
    · exact rIteT (rCmp (evE_v hi) (rBi (rCons ha rNil) (lp l)) (by show some (decide ((i : Int) < (l.length : Int))) = _; rw [decide_eq_true (by omega)])) (rSub ha (evE_v hi) ((sub_lst rfl).trans (at_coI hlt)))
    · have : coI l i = 0 := by unfold coI; rw [List.getD_eq_getElem?_getD, List.getElem?_eq_none (by omega)]; rfl
      rw [this]
      exact rIteF (rCmp (evE_v hi) (rBi (rCons ha rNil) (lp l)) (by show some (decide ((i : Int) < (l.length : Int))) = _; rw [decide_eq_false (by omega)])) rfl
  have z := lc_pure (F := callE P gv sb (n + 1)) (gv := gv) (elt := .bin .add (.ite (.cmp .lt (.v 3) (.bi .len [.v 0])) (.sub (.v 0) (.v 3)) (.int 0)) (.ite (.cmp .lt (.v 3) (.bi .len [.v 1])) (.sub (.v 1) (.v 3)) (.int 0))) (own := [3]) (tg := .nm 3) (it := 1) (src := [.v 2]) (env := [some (.frl (iv p)), some (.frl (iv q)), some (.int ((max p.length q.length : Nat) : Int)), none]) (m := m) (fun x => match x with
    | .int z => .int (coI p z.toNat + coI q z.toNat)
    | _ => .non) (rCons (evE_v rfl) rNil) (rng_ok (by omega)) (fun x hx => ?_) (by rw [List.length_map, List.length_range]; exact size_ok (by omega))
  · have e1 : ((List.range (max p.length q.length)).map fun (k : Nat) => AV.int k).map (fun x => match x with
      | .int z => AV.int (coI p z.toNat + coI q z.toNat)
      | _ => .non) = iv (addI p q) := by
      unfold iv addI
      rw [List.map_map, List.map_map]
      rfl
    rw [e1] at z
    have t1 : callE P gv sb (n + 1) kl [.frl (iv (addI p q))] m = .ok (.frl (iv (trimI (addI p q)))) m := ltrim_frl hl (by unfold addI; rw [List.length_map, List.length_range]; omega)
    have e6 : evSs (callE P gv sb (n + 1)) gv sb (F_lpadd kl).body [some (.frl (iv p)), some (.frl (iv q)), none, none] m = .rt (.frl (iv (trimI (addI p q)))) m :=
      bNx (sSet (rBi (rCons (rBi (rCons (evE_v rfl) rNil) (lp p)) (rCons (rBi (rCons (evE_v rfl) rNil) (lp q)) rNil)) maxE)) (bRt (sRet (rCall (rCons z rNil) t1)))
    rw [e6, finC_rt]
  · rw [List.mem_map] at hx
    obtain ⟨i, _, rfl⟩ := hx
    refine ⟨[some (.frl (iv p)), some (.frl (iv q)), some (.int ((max p.length q.length : Nat) : Int)), some (.int i)], rfl, ?_⟩
    dsimp only
    rw [Int.toNat_natCast]
    exact rBin (part p (.v 0) i _ (evE_v rfl) rfl) (part q (.v 1) i _ (evE_v rfl) rfl) rfl
end
end PI
/-! Q13: the law's own product. -/
namespace PI
open PySem

def addAtI : List Int → Nat → Int → List Int → List Int
  | l, _, _, [] => l
  | l, s, c, b :: q => addAtI (l.set s (coI l s + c * b)) (s + 1) c q
def mulGoI : List Int → Nat → List Int → List Int → List Int
  | l, _, [], _ => l
  | l, i, a :: p, q => mulGoI (addAtI l i a q) (i + 1) p q
def mulI (p q : List Int) : List Int := mulGoI (List.replicate (p.length + q.length - 1) 0) 0 p q
theorem cr_set {l : List Int} {s : Nat} {c : Int} : cr (l.set s c) = (cr l).set s (c : Rat) := by unfold cr; rw [List.map_set]
theorem cr_addAtI : ∀ {q l : List Int} {s : Nat} {c : Int}, cr (addAtI l s c q) = addAt (cr l) s (c : Rat) (cr q)
  | [], l, s, c => rfl
  | b :: q, l, s, c => by
    show cr (addAtI (l.set s (coI l s + c * b)) (s + 1) c q) = addAt ((cr l).set s (co (cr l) s + (c : Rat) * (b : Rat))) (s + 1) c (cr q)
    rw [cr_addAtI, cr_set, co_cr, Rat.intCast_add, Rat.intCast_mul]
theorem cr_mulGoI : ∀ {p q l : List Int} {i : Nat}, cr (mulGoI l i p q) = mulGo (cr l) i (cr p) (cr q)
  | [], q, l, i => rfl
  | a :: p, q, l, i => by
    show cr (mulGoI (addAtI l i a q) (i + 1) p q) = mulGo (addAt (cr l) i (a : Rat) (cr q)) (i + 1) (cr p) (cr q)
    rw [cr_mulGoI, cr_addAtI]
theorem cr_mulI {p q : List Int} : cr (mulI p q) = mulA (cr p) (cr q) := by
  unfold mulI mulA
  rw [cr_mulGoI, cr_len, cr_len]
  congr 1
  unfold cr
  rw [List.map_replicate]
  rfl
theorem addAtI_len : ∀ {q l : List Int} {s : Nat} {c : Int}, (addAtI l s c q).length = l.length
  | [], l, s, c => rfl
  | b :: q, l, s, c => by
    show (addAtI (l.set s _) (s + 1) c q).length = _
    rw [addAtI_len, List.length_set]
theorem mulGoI_len : ∀ {p q l : List Int} {i : Nat}, (mulGoI l i p q).length = l.length
  | [], q, l, i => rfl
  | a :: p, q, l, i => by
    show (mulGoI (addAtI l i a q) (i + 1) p q).length = _
    rw [mulGoI_len, addAtI_len]
def F_lpmul (kl : Nat) : FD := ⟨5, 2,
    [.set 2 (.mk (.bin .mul (.lst [.int 0]) (.bi .max [.int 0, .bin .sub (.bin .add (.bi .len [.v 0]) (.bi .len [.v 1])) (.int 1)]))),
      .for_ (.nm 3) 1 [.bi .len [.v 0]] [.for_ (.nm 4) 1 [.bi .len [.v 1]] [.subs (.v 2) (.bin .add (.v 3) (.v 4)) (.bin .add (.sub (.v 2) (.bin .add (.v 3) (.v 4))) (.bin .mul (.sub (.v 0) (.v 3)) (.sub (.v 1) (.v 4))))]],
      .ret (.call kl [.v 2])]⟩
section
variable {P : Nat → Option FD} {gv : Nat → AV} {sb : Nat → Nat → Option Bool} {m : Mem} {n k : Nat}
theorem mul_lstI {j : Int} {m : Mem} (h : -1000 ≤ j) (h2 : j ≤ 1000) : mulE m (.frl [.int 0]) (.int j) = some (.frl (iv (List.replicate j.toNat 0))) := by
  show (if decide (-(2 ^ 63) ≤ j ∧ j < 2 ^ 63 ∧ [AV.int 0].length * j.toNat ≤ sizeLine) = true then some (AV.frl (repL [.int 0] j.toNat)) else none) = _
  rw [if_pos]
  · unfold repL iv
    rw [rep_one, List.map_replicate]
  · rw [decide_eq_true_eq]
    refine ⟨by omega, by omega, size_ok ?_⟩
    show 1 * j.toNat ≤ 1000
    omega
theorem set_iv {l : List Int} {s : Nat} {c : Int} : (iv l).set s (.int c) = iv (l.set s c) := by unfold iv; rw [List.map_set]
theorem row_loopI {F : Nat → List AV → Mem → Res AV} {p q0 : List Int} {i : Nat} {a : Int} (hi : i < p.length) (ha : coI p i = a) (hs : ∀ x ∈ p, x.natAbs < 2 ^ 64) (hs2 : ∀ x ∈ q0, x.natAbs < 2 ^ 64) : ∀ (q q1 : List Int) (l : List Int) (w4 : Option AV), q0 = q1 ++ q → i + q1.length + q.length ≤ l.length →
    ∃ w4', forLoop (.nm 4) (fun env m => evSs F gv sb [.subs (.v 2) (.bin .add (.v 3) (.v 4)) (.bin .add (.sub (.v 2) (.bin .add (.v 3) (.v 4))) (.bin .mul (.sub (.v 0) (.v 3)) (.sub (.v 1) (.v 4))))] env m) ((List.range' q1.length q.length).map fun (k : Nat) => AV.int k) [some (.frl (iv p)), some (.frl (iv q0)), some (.ref m.length), some (.int i), w4] (m ++ [.lst (iv l)]) =
      .nx [some (.frl (iv p)), some (.frl (iv q0)), some (.ref m.length), some (.int i), w4'] (m ++ [.lst (iv (addAtI l (i + q1.length) a q))])
  | [], q1, l, w4, hq, hl => ⟨w4, rfl⟩
  | b :: q, q1, l, w4, hq, hl => by
    rw [List.length_cons] at hl
    have hlt : i + q1.length < l.length := by omega
    have eq : q0 = (q1 ++ [b]) ++ q := by rw [hq]; simp
    obtain ⟨w4', ih⟩ := row_loopI hi ha hs hs2 q (q1 ++ [b]) (l.set (i + q1.length) (coI l (i + q1.length) + a * b)) (some (.int q1.length)) eq (by rw [List.length_set, List.length_append, List.length_singleton]; omega)
    rw [List.length_append, List.length_singleton] at ih
    have hb : coI q0 q1.length = b := by
      unfold coI
      rw [hq, List.getD_eq_getElem?_getD]
      simp
    have bl : q1.length < q0.length := by rw [hq]; simp
    have am : a ∈ p := by
      rw [← ha]
      unfold coI
      rw [List.getD_eq_getElem?_getD, List.getElem?_eq_getElem hi]
      exact List.getElem_mem _
    have t1 : binE (m ++ [.lst (iv l)]) .mul (.int a) (.int b) = some (.int (a * b)) := mul_int (hs a am) (hs2 b (by rw [hq]; simp))
    have g1 : subE (m ++ [.lst (iv l)]) (.frl (iv p)) (i : Int) = some (.int a) := (sub_lst rfl).trans ((at_coI hi).trans (by rw [ha]))
    have g2 : subE (m ++ [.lst (iv l)]) (.frl (iv q0)) (q1.length : Int) = some (.int b) := (sub_lst rfl).trans ((at_coI bl).trans (by rw [hb]))
    have st : evSs F gv sb [.subs (.v 2) (.bin .add (.v 3) (.v 4)) (.bin .add (.sub (.v 2) (.bin .add (.v 3) (.v 4))) (.bin .mul (.sub (.v 0) (.v 3)) (.sub (.v 1) (.v 4))))] [some (.frl (iv p)), some (.frl (iv q0)), some (.ref m.length), some (.int i), some (.int q1.length)] (m ++ [.lst (iv l)]) =
        .nx [some (.frl (iv p)), some (.frl (iv q0)), some (.ref m.length), some (.int i), some (.int q1.length)] (m ++ [.lst (iv (l.set (i + q1.length) (coI l (i + q1.length) + a * b)))]) := by
      refine bNx (sSubs (rBin (rSub (evE_v rfl) (rBin (evE_v rfl) (evE_v rfl) add_nat) ((sub_lst lst_last).trans (at_coI hlt))) (rBin (rSub (evE_v rfl) (evE_v rfl) g1) (rSub (evE_v rfl) (evE_v rfl) g2) t1) rfl) (evE_v rfl) (rBin (evE_v rfl) (evE_v rfl) add_nat) ((set_last (by rw [iv_len]; exact hlt)).trans ?_)) rfl
      rw [set_iv]
    refine ⟨w4', ?_⟩
    rw [List.length_cons, List.range'_succ, List.map_cons, for_cons (e2 := [some (.frl (iv p)), some (.frl (iv q0)), some (.ref m.length), some (.int i), some (.int q1.length)]) rfl st, ih]
    rfl
theorem prod_loopI {F : Nat → List AV → Mem → Res AV} {p0 q : List Int} (hs : ∀ x ∈ p0, x.natAbs < 2 ^ 64) (hs2 : ∀ x ∈ q, x.natAbs < 2 ^ 64) (hq : q.length ≤ 400) : ∀ (p p1 : List Int) (l : List Int) (w3 w4 : Option AV), p0 = p1 ++ p → p1.length + p.length + q.length ≤ l.length + 1 →
    ∃ w3' w4', forLoop (.nm 3) (fun env m => evSs F gv sb [.for_ (.nm 4) 1 [.bi .len [.v 1]] [.subs (.v 2) (.bin .add (.v 3) (.v 4)) (.bin .add (.sub (.v 2) (.bin .add (.v 3) (.v 4))) (.bin .mul (.sub (.v 0) (.v 3)) (.sub (.v 1) (.v 4))))]] env m) ((List.range' p1.length p.length).map fun (k : Nat) => AV.int k) [some (.frl (iv p0)), some (.frl (iv q)), some (.ref m.length), w3, w4] (m ++ [.lst (iv l)]) =
      .nx [some (.frl (iv p0)), some (.frl (iv q)), some (.ref m.length), w3', w4'] (m ++ [.lst (iv (mulGoI l p1.length p q))])
  | [], p1, l, w3, w4, hp, hl => ⟨w3, w4, rfl⟩
  | a :: p, p1, l, w3, w4, hp, hl => by
    rw [List.length_cons] at hl
    have ep : p0 = (p1 ++ [a]) ++ p := by rw [hp]; simp
    have hi : p1.length < p0.length := by rw [hp]; simp
    have ha : coI p0 p1.length = a := by
      unfold coI
      rw [hp, List.getD_eq_getElem?_getD]
      simp
    obtain ⟨w4', row⟩ := row_loopI (F := F) (gv := gv) (sb := sb) (m := m) hi ha hs hs2 q [] l w4 rfl (by simp only [List.length_nil]; omega)
    obtain ⟨x3, x4, ih⟩ := prod_loopI hs hs2 hq p (p1 ++ [a]) (addAtI l p1.length a q) (some (.int p1.length)) w4' ep (by rw [addAtI_len, List.length_append, List.length_singleton]; omega)
    rw [List.length_append, List.length_singleton] at ih
    refine ⟨x3, x4, ?_⟩
    have r1 : itE (m ++ [.lst (iv l)]) 1 [.int q.length] = some ((List.range' 0 q.length).map fun (k : Nat) => AV.int k) := by
      rw [rng_ok (by omega), List.range_eq_range']
    have lq : biE (m ++ [.lst (iv l)]) .len [.frl (iv q)] = some (.int q.length) := by rw [len_lst rfl, iv_len]
    rw [List.length_cons, List.range'_succ, List.map_cons, for_cons (e2 := [some (.frl (iv p0)), some (.frl (iv q)), some (.ref m.length), some (.int p1.length), w4]) rfl (bNx ((for_ok (rCons (rBi (rCons (evE_v rfl) rNil) lq) rNil) r1).trans row) rfl)]
    exact ih
theorem lpmul_ok {kl : Nat} {p q : List Int} (h : P k = some (F_lpmul kl)) (hl : P kl = some F_ltrim) (hp : p.length ≤ 400) (hq : q.length ≤ 400) (hs : ∀ x ∈ p, x.natAbs < 2 ^ 64) (hs2 : ∀ x ∈ q, x.natAbs < 2 ^ 64) (cl : Cl m) : ∃ w m', callE P gv sb (n + 2) k [.frl (iv p), .frl (iv q)] m = .ok w m' ∧ (m' = m ∨ m' = m ++ [.lst (iv (mulI p q))]) ∧ lstOf m' w = some (iv (trimI (mulI p q))) := by
  rw [callE_eq h rfl]
  have e0 : ([AV.frl (iv p), AV.frl (iv q)].map some ++ List.replicate ((F_lpmul kl).n - (F_lpmul kl).ps) none) = [some (.frl (iv p)), some (.frl (iv q)), none, none, none] := rfl
  rw [e0]
  have lp : ∀ l : List Int, biE m .len [.frl (iv l)] = some (.int l.length) := fun l => by rw [len_lst rfl, iv_len]
  have b2 : binE m .sub (.int ((p.length + q.length : Nat) : Int)) (.int 1) = some (.int (((p.length + q.length : Nat) : Int) - 1)) := rfl
  have b3 : biE m .max [.int 0, .int (((p.length + q.length : Nat) : Int) - 1)] = some (.int ((p.length + q.length - 1 : Nat) : Int)) := by
    show some (AV.int (if (((p.length + q.length : Nat) : Int) - 1) > 0 then _ else _)) = _
    congr 2
    split <;> omega
  have b4 : binE m .mul (.frl [.int 0]) (.int ((p.length + q.length - 1 : Nat) : Int)) = some (.frl (iv (List.replicate (p.length + q.length - 1) 0))) := by
    have := mul_lstI (j := ((p.length + q.length - 1 : Nat) : Int)) (m := m) (by omega) (by omega)
    rw [Int.toNat_natCast] at this
    exact this
  have s1 : evS (callE P gv sb (n + 1)) gv sb (.set 2 (.mk (.bin .mul (.lst [.int 0]) (.bi .max [.int 0, .bin .sub (.bin .add (.bi .len [.v 0]) (.bi .len [.v 1])) (.int 1)])))) [some (.frl (iv p)), some (.frl (iv q)), none, none, none] m = .nx [some (.frl (iv p)), some (.frl (iv q)), some (.ref m.length), none, none] (m ++ [.lst (iv (List.replicate (p.length + q.length - 1) 0))]) :=
    sSet (rMk rfl (rBin (rLst (rCons rfl rNil) (by show okLen 1 = true; decide)) (rBi (rCons rfl (rCons (rBin (rBin (rBi (rCons (evE_v rfl) rNil) (lp p)) (rBi (rCons (evE_v rfl) rNil) (lp q)) add_nat) rfl b2) rNil)) b3) b4))
  obtain ⟨x3, x4, hloop⟩ := prod_loopI (F := callE P gv sb (n + 1)) (gv := gv) (sb := sb) (m := m) hs hs2 hq p [] (List.replicate (p.length + q.length - 1) 0) none none rfl (by simp only [List.length_nil, List.length_replicate]; omega)
  have r1 : itE (m ++ [.lst (iv (List.replicate (p.length + q.length - 1) 0))]) 1 [.int p.length] = some ((List.range' 0 p.length).map fun (k : Nat) => AV.int k) := by
    rw [rng_ok (by omega), List.range_eq_range']
  have lq : biE (m ++ [.lst (iv (List.replicate (p.length + q.length - 1) 0))]) .len [.frl (iv p)] = some (.int p.length) := by rw [len_lst rfl, iv_len]
  obtain ⟨w, w1, w2, w3⟩ := ltrim_ok (gv := gv) (sb := sb) (n := n) (m := m ++ [.lst (iv (mulI p q))]) (l := mulI p q) (v := .ref m.length) hl lst_last (by unfold mulI; rw [mulGoI_len, List.length_replicate]; omega)
  have e6 : evSs (callE P gv sb (n + 1)) gv sb (F_lpmul kl).body [some (.frl (iv p)), some (.frl (iv q)), none, none, none] m = .rt w (m ++ [.lst (iv (mulI p q))]) :=
    bNx s1 (bNx ((for_ok (rCons (rBi (rCons (evE_v rfl) rNil) lq) rNil) r1).trans hloop) (bRt (sRet (rCall (rCons (evE_v rfl) rNil) w3))))
  rw [e6]
  rcases w1 with w1 | w1
  · subst w1
    refine ⟨_, m ++ [.lst (iv (mulI p q))], ?_, .inr rfl, w2⟩
    show Res.ok _ (cutM m.length _ _) = _
    unfold cutM
    rw [if_neg]
    show ¬ ((decide (m.length < m.length) && true) && _) = true
    simp
  · subst w1
    refine ⟨_, m, finC_rtx cl ?_, .inl rfl, rfl⟩
    exact iv_clsd _ _
end
end PI
/-! Q14: the law's own fractions; drawn lists; alike. -/
namespace PI
open PySem

def F_lgcd : FD := ⟨2, 2, [.par 0 1 (.bi .abs [.v 0]) (.bi .abs [.v 1]), .wh (.cmp .gt (.v 1) (.int 0)) [.par 0 1 (.v 1) (.bin .mod (.v 0) (.v 1))], .ret (.v 0)]⟩
def F_lfrac (kg : Nat) : FD := ⟨4, 2,
    [.set 2 (.call kg [.v 0, .v 1]),
      .set 3 (.ite (.cmp .lt (.v 1) (.int 0)) (.neg (.int 1)) (.int 1)),
      .ret (.tup [.bin .fdiv (.bin .mul (.v 3) (.v 0)) (.v 2), .bin .fdiv (.bin .mul (.v 3) (.v 1)) (.v 2)])]⟩
section
variable {P : Nat → Option FD} {gv : Nat → AV} {sb : Nat → Nat → Option Bool} {m : Mem} {n k : Nat}
theorem lgcd_loop {F : Nat → List AV → Mem → Res AV} : ∀ (t f : Nat) (a b : Nat), b < 2 ^ t → 2 * t + 1 ≤ f →
    whLoop (fun env m => evE F gv (.cmp .gt (.v 1) (.int 0)) env m) (fun env m => evSs F gv sb [.par 0 1 (.v 1) (.bin .mod (.v 0) (.v 1))] env m) f [some (.int a), some (.int b)] m = .nx [some (.int (Nat.gcd a b)), some (.int 0)] m := by
  have cond : ∀ a b : Nat, evE F gv (.cmp .gt (.v 1) (.int 0)) [some (.int a), some (.int b)] m = .ok (.bl (decide (b ≠ 0))) m := fun a b => by
    refine rCmp (evE_v rfl) rfl ?_
    show some (decide ((0 : Int) < (b : Int))) = _
    congr 1
    by_cases h : b = 0
    · subst h; rfl
    · rw [decide_eq_true h, decide_eq_true (by omega)]
  have body : ∀ a b : Nat, b ≠ 0 → evSs F gv sb [.par 0 1 (.v 1) (.bin .mod (.v 0) (.v 1))] [some (.int a), some (.int b)] m = .nx [some (.int b), some (.int ((a % b : Nat) : Int))] m := fun a b h => by
    have q : binE m .mod (.int (a : Int)) (.int (b : Int)) = some (.int ((a % b : Nat) : Int)) := by
      rw [mod_pos (by omega)]; rfl
    exact bNx (sPar (evE_v rfl) (rBin (evE_v rfl) (evE_v rfl) q)) rfl
  intro t
  induction t with
  | zero =>
    intro f a b hb hf
    have : b = 0 := by omega
    subst this
    obtain ⟨f, rfl⟩ : ∃ g, f = g + 1 := ⟨f - 1, by omega⟩
    rw [wh_end (by rw [cond]; rfl)]
    simp
  | succ t ih =>
    intro f a b hb hf
    obtain ⟨f, rfl⟩ : ∃ g, f = g + 2 := ⟨f - 2, by omega⟩
    by_cases h : b = 0
    · subst h
      rw [wh_end (by rw [cond]; rfl)]
      simp
    · rw [wh_step (by rw [cond]; simp [h]) (body a b h)]
      have hr := Nat.mod_lt a (Nat.pos_of_ne_zero h)
      by_cases h2 : a % b = 0
      · rw [h2, wh_end (by rw [cond]; rfl), Nat.gcd_comm a b, Nat.gcd_rec b a, h2, Nat.gcd_zero_left]
        rfl
      · rw [wh_step (by rw [cond]; simp [h2]) (body b (a % b) h2), ih f (a % b) (b % (a % b)) ?_ (by omega)]
        · rw [Nat.gcd_comm a b, Nat.gcd_rec b a, Nat.gcd_comm (a % b) b, Nat.gcd_comm b (a % b), Nat.gcd_rec (a % b) b, Nat.gcd_comm]
        · have h3 := Nat.mod_lt b (Nat.pos_of_ne_zero h2)
          have h4 := Nat.div_add_mod b (a % b)
          have h5 : 1 ≤ b / (a % b) := Nat.div_pos (Nat.le_of_lt hr) (Nat.pos_of_ne_zero h2)
          have h6 : a % b ≤ (a % b) * (b / (a % b)) := Nat.le_mul_of_pos_right _ h5
          rw [Nat.pow_succ] at hb
          omega
theorem absE {i : Int} : biE m .abs [.int i] = some (.int (i.natAbs : Int)) := by
  show some (AV.int (if i < 0 then -i else i)) = _
  congr 2
  split <;> omega
theorem lgcd_ok {a b : Int} (h : P k = some F_lgcd) (hb : b.natAbs.log2 < 10000000000) : callE P gv sb (n + 1) k [.int a, .int b] m = .ok (.int (Nat.gcd a.natAbs b.natAbs)) m := by
  rw [callE_eq h rfl]
  have e2 : ([AV.int a, AV.int b].map some ++ List.replicate (F_lgcd.n - F_lgcd.ps) none) = [some (.int a), some (.int b)] := rfl
  rw [e2]
  have e : evSs (callE P gv sb n) gv sb F_lgcd.body [some (.int a), some (.int b)] m = .rt (.int (Nat.gcd a.natAbs b.natAbs)) m :=
    bNx (sPar (rBi (rCons (evE_v rfl) rNil) absE) (rBi (rCons (evE_v rfl) rNil) absE)) (bNx (lgcd_loop (b.natAbs.log2 + 1) loopK _ _ lt_two_log (loopK_le (by omega))) (bRt (sRet (evE_v rfl))))
  rw [e, finC_rt]
theorem lfrac_ok {kg : Nat} {over under : Int} (h : P k = some (F_lfrac kg)) (hg : P kg = some F_lgcd) (hu : under ≠ 0) (h1 : over.natAbs.log2 < 999999) (h2 : under.natAbs.log2 < 9000) : callE P gv sb (n + 2) k [.int over, .int under] m = .ok (fr (Rat.divInt over under)) m := by
  rw [callE_eq h rfl]
  have e0 : ([AV.int over, AV.int under].map some ++ List.replicate ((F_lfrac kg).n - (F_lfrac kg).ps) none) = [some (.int over), some (.int under), none, none] := rfl
  rw [e0]
  have e3 : callE P gv sb (n + 1) kg [.int over, .int under] m = .ok (.int (Nat.gcd over.natAbs under.natAbs)) m := lgcd_ok hg (by omega)
  generalize hs : (if 0 < under then (1 : Int) else -1) = s
  have hs2 : s = 1 ∨ s = -1 := by rw [← hs]; split <;> simp
  have hg0 : (Nat.gcd over.natAbs under.natAbs : Int) ≠ 0 := by
    have : Nat.gcd over.natAbs under.natAbs ≠ 0 := fun z => hu (by
      have := (Nat.gcd_eq_zero_iff.mp z).2
      omega)
    omega
  have hl : Nat.gcd over.natAbs under.natAbs ≤ under.natAbs := Nat.gcd_le_right _ (by omega)
  have d0 : ∀ i : Int, binE m .fdiv (.int i) (.int (Nat.gcd over.natAbs under.natAbs : Int)) = some (.int (i.fdiv (Nat.gcd over.natAbs under.natAbs : Int))) := fun i => by
    show ((if divOk i (Nat.gcd over.natAbs under.natAbs : Int) = true then some (i.fdiv (Nat.gcd over.natAbs under.natAbs : Int)) else none).map AV.int) = _
    rw [if_pos]
    · rfl
    · unfold divOk
      rw [Bool.and_eq_true, decide_eq_true_eq, Bool.not_eq_true']
      refine ⟨hg0, PyProof.noPylong_of_log2 ?_⟩
      show (Nat.gcd over.natAbs under.natAbs).log2 < 9000
      have : (Nat.gcd over.natAbs under.natAbs).log2 ≤ under.natAbs.log2 := by
        rw [Nat.le_log2 (by omega)]
        exact Nat.le_trans (Nat.log2_self_le (by omega)) hl
      omega
  have m0 : ∀ i : Int, i.natAbs.log2 < 999999 → binE m .mul (.int s) (.int i) = some (.int (s * i)) := fun i hi => by
    show (if mulOk s i = true then some (AV.int (s * i)) else none) = _
    rw [if_pos (mulOk_one hs2 hi)]
  have q := made_num (over := over) hu
  rw [hs] at q
  have s2 : evE (callE P gv sb (n + 1)) gv (.ite (.cmp .lt (.v 1) (.int 0)) (.neg (.int 1)) (.int 1)) [some (.int over), some (.int under), some (.int (Nat.gcd over.natAbs under.natAbs)), none] m = .ok (.int s) m := by
    by_cases hp : under < 0
    · have : s = -1 := by rw [← hs, if_neg (by omega)]
      rw [this]
      exact rIteT (rCmp (evE_v rfl) rfl (by show some (decide (under < 0)) = _; rw [decide_eq_true hp])) (rNeg rfl)
    · have : s = 1 := by rw [← hs, if_pos (by omega)]
      rw [this]
      exact rIteF (rCmp (evE_v rfl) rfl (by show some (decide (under < 0)) = _; rw [decide_eq_false hp])) rfl
  have e4 : evSs (callE P gv sb (n + 1)) gv sb (F_lfrac kg).body [some (.int over), some (.int under), none, none] m = .rt (fr (Rat.divInt over under)) m := by
    unfold fr
    rw [← q.1, ← q.2]
    exact bNx (sSet (rCall (rCons (evE_v rfl) (rCons (evE_v rfl) rNil)) e3)) (bNx (sSet s2) (bRt (sRet (rTup (rCons (rBin (rBin (evE_v rfl) (evE_v rfl) (m0 over h1)) (evE_v rfl) (d0 _)) (rCons (rBin (rBin (evE_v rfl) (evE_v rfl) (m0 under (by omega))) (evE_v rfl) (d0 _)) rNil)) (okLen_two _ _)))))
  rw [e4, finC_rt]
/-! ### drawn lists -/
def lcStep (F : Nat → List AV → Mem → Res AV) (gv : Nat → AV) (elt : Ex) (own : List Nat) (tg : Tg) (cond : Option Ex) (env : Env') : AV → Mem → Res (Option AV) := fun x m => match setTg (wipeE env own) tg x with
  | some e2 => match evC F gv cond e2 m with
    | .ok true m => (evE F gv elt e2 m).bind fun y m => .ok (some y) m
    | .ok false m => .ok none m
    | _ => .bad
  | none => .bad
theorem evE_lcS {F : Nat → List AV → Mem → Res AV} {elt : Ex} {own : List Nat} {tg : Tg} {it : Nat} {src : List Ex} {cond : Option Ex} {env : Env'} {m : Mem} : evE F gv (.lc elt own tg it src cond) env m = (evEs F gv src env m).bind fun ss m => match itE m it ss with
    | some xs => (lcLoop (lcStep F gv elt own tg cond env) xs [] m).bind fun ys m => .ok (.frl ys) m
    | none => .bad := rfl
theorem lc_run {F : Nat → List AV → Mem → Res AV} {elt : Ex} {own : List Nat} {tg : Tg} {it : Nat} {src : List Ex} {cond : Option Ex} {env : Env'} {m m1 m2 : Mem} {ss xs ys : List AV} (h1 : evEs F gv src env m = .ok ss m1) (h2 : itE m1 it ss = some xs) (h3 : lcLoop (lcStep F gv elt own tg cond env) xs [] m1 = .ok ys m2) : evE F gv (.lc elt own tg it src cond) env m = .ok (.frl ys) m2 := by
  rw [evE_lcS, h1, bind_ok, h2]
  dsimp only
  rw [h3, bind_ok]
theorem lcStep_ok {F : Nat → List AV → Mem → Res AV} {elt : Ex} {own : List Nat} {tg : Tg} {env e2 : Env'} {m m2 : Mem} {x y : AV} (h1 : setTg (wipeE env own) tg x = some e2) (h2 : evE F gv elt e2 m = .ok y m2) : lcStep F gv elt own tg none env x m = .ok (some y) m2 := by
  unfold lcStep
  rw [h1]
  show (evE F gv elt e2 m).bind _ = _
  rw [h2, bind_ok]
def F_lints (kt kl : Nat) : FD := ⟨3, 2, [.ret (.call kl [.lc (.bin .sub (.call kt [.v 0, .int 7]) (.int 3)) [2] (.nm 2) 1 [.call kt [.v 0, .bin .add (.v 1) (.int 1)]] none])]⟩
def Small (l : List Int) : Prop := ∀ z ∈ l, -3 ≤ z ∧ z ≤ 3
theorem lints_loop {kt : Nat} (h : P kt = some F_take) {cs : List Int} {ex : Mem} {w : Option AV} : ∀ (xs acc : List AV) (N : Nat) (a b c : Int), BagOk N a b c cs → N + xs.length ≤ 1000000 → acc.length + xs.length ≤ 1000 → ∃ zs : List Int, zs.length = xs.length ∧ Small zs ∧ ∃ a' b' c', BagOk (N + xs.length) a' b' c' cs ∧
    lcLoop (lcStep (callE P gv sb (n + 1)) gv (.bin .sub (.call kt [.v 0, .int 7]) (.int 3)) [2] (.nm 2) none [some (.ref 0), w, none]) xs acc (bagM ex a b c cs) = .ok (acc ++ iv zs) (bagM ex a' b' c' cs)
  | [], acc, N, a, b, c, ok, hN, hl => ⟨[], rfl, fun _ h => (by cases h), a, b, c, ok, by simp [lcLoop, iv]⟩
  | x :: xs, acc, N, a, b, c, ok, hN, hl => by
    rw [List.length_cons] at hN hl
    obtain ⟨v, a1, b1, c1, ok1, v0, v7, tk⟩ := take_ok (gv := gv) (sb := sb) (n := n) (ex := ex) (many := 7) h (by decide) (by decide) ok (by omega)
    obtain ⟨zs, z1, z2, a', b', c', ok', lp⟩ := lints_loop h (ex := ex) (w := w) xs (acc ++ [.int (v - 3)]) (N + 1) a1 b1 c1 ok1 (by omega) (by rw [List.length_append, List.length_singleton]; omega)
    refine ⟨(v - 3) :: zs, by simp [z1], fun y hy => ?_, a', b', c', ?_, ?_⟩
    · rcases List.mem_cons.mp hy with e | e
      · rw [e]; omega
      · exact z2 y e
    · have e : N + (xs.length + 1) = N + 1 + xs.length := by omega
      rw [List.length_cons, e]; exact ok'
    · have ev1 : evE (callE P gv sb (n + 1)) gv (.bin .sub (.call kt [.v 0, .int 7]) (.int 3)) [some (.ref 0), w, some x] (bagM ex a b c cs) = .ok (.int (v - 3)) (bagM ex a1 b1 c1 cs) :=
        rBin (rCall (rCons (evE_v rfl) (rCons rfl rNil)) tk) rfl rfl
      unfold lcLoop
      have st : lcStep (callE P gv sb (n + 1)) gv (.bin .sub (.call kt [.v 0, .int 7]) (.int 3)) [2] (.nm 2) none [some (.ref 0), w, none] x (bagM ex a b c cs) = .ok (some (.int (v - 3))) (bagM ex a1 b1 c1 cs) := lcStep_ok rfl ev1
      rw [st]
      show (if decide (acc.length < sizeLine) = true then lcLoop _ xs (acc ++ [.int (v - 3)]) (bagM ex a1 b1 c1 cs) else .bad) = _
      rw [if_pos (by rw [decide_eq_true_eq]; exact size_ok (j := acc.length + 1) (by omega)), lp]
      simp [iv]
theorem lints_ok {kt kl N : Nat} {a b c : Int} {cs : List Int} {ex : Mem} {many : Nat} (h : P k = some (F_lints kt kl)) (ht : P kt = some F_take) (hl : P kl = some F_ltrim) (hm : many ≤ 9) (ok : BagOk N a b c cs) (hN : N ≤ 900000) : ∃ zs : List Int, zs.length ≤ many ∧ Small zs ∧ ∃ a' b' c' N', N' ≤ N + 11 ∧ BagOk N' a' b' c' cs ∧
    callE P gv sb (n + 2) k [.ref 0, .int many] (bagM ex a b c cs) = .ok (.frl (iv (trimI zs))) (bagM ex a' b' c' cs) := by
  rw [callE_eq h rfl]
  have e0 : ([AV.ref 0, AV.int many].map some ++ List.replicate ((F_lints kt kl).n - (F_lints kt kl).ps) none) = [some (.ref 0), some (.int many), none] := rfl
  rw [e0]
  obtain ⟨v, a1, b1, c1, ok1, v0, v7, tk⟩ := take_ok (gv := gv) (sb := sb) (n := n) (ex := ex) (many := ((many + 1 : Nat) : Int)) ht (by omega) (by omega) ok (by omega)
  obtain ⟨j, rfl⟩ : ∃ j : Nat, v = j := ⟨v.toNat, by omega⟩
  obtain ⟨zs, z1, z2, a', b', c', ok', lp⟩ := lints_loop (gv := gv) (sb := sb) (n := n) ht (ex := ex) (w := some (.int many)) ((List.range j).map fun (k : Nat) => AV.int k) [] (N + 1) a1 b1 c1 ok1 (by simp; omega) (by simp; omega)
  rw [List.length_map, List.length_range] at z1 ok'
  refine ⟨zs, by omega, z2, a', b', c', _, by omega, ok', ?_⟩
  have src : evEs (callE P gv sb (n + 1)) gv [.call kt [.v 0, .bin .add (.v 1) (.int 1)]] [some (.ref 0), some (.int many), none] (bagM ex a b c cs) = .ok [.int j] (bagM ex a1 b1 c1 cs) :=
    rCons (rCall (rCons (evE_v rfl) (rCons (rBin (evE_v rfl) rfl (by
      show some (AV.int ((many : Int) + 1)) = _
      rfl)) rNil)) tk) rNil
  have lc : evE (callE P gv sb (n + 1)) gv (.lc (.bin .sub (.call kt [.v 0, .int 7]) (.int 3)) [2] (.nm 2) 1 [.call kt [.v 0, .bin .add (.v 1) (.int 1)]] none) [some (.ref 0), some (.int many), none] (bagM ex a b c cs) = .ok (.frl (iv zs)) (bagM ex a' b' c' cs) := by
    have lp2 : lcLoop (lcStep (callE P gv sb (n + 1)) gv (.bin .sub (.call kt [.v 0, .int 7]) (.int 3)) [2] (.nm 2) none [some (.ref 0), some (.int many), none]) ((List.range j).map fun (k : Nat) => AV.int k) [] (bagM ex a1 b1 c1 cs) = .ok (iv zs) (bagM ex a' b' c' cs) := lp
    exact lc_run src (rng_ok (by omega)) lp2
  have t1 : callE P gv sb (n + 1) kl [.frl (iv zs)] (bagM ex a' b' c' cs) = .ok (.frl (iv (trimI zs))) (bagM ex a' b' c' cs) := ltrim_frl hl (by omega)
  have e6 : evSs (callE P gv sb (n + 1)) gv sb (F_lints kt kl).body [some (.ref 0), some (.int many), none] (bagM ex a b c cs) = .rt (.frl (iv (trimI zs))) (bagM ex a' b' c' cs) := bRt (sRet (rCall (rCons lc rNil) t1))
  rw [e6]
  exact finC_rt (m := bagM ex a' b' c' cs)
end
end PI
/-! Q15: the bag made; the law's monic one. -/
namespace PI
open PySem

def F_lbag : FD := ⟨2, 1,
    [.ret (.mk (.lst [.int 0, .int 1234567891, .int 0, .lc (.bi .abs [.v 1]) [1] (.nm 1) 0 [.slc (.v 0) none (some (.int 63))] none]))]⟩
def F_lmade (kf : Nat) : FD := ⟨2, 1, [.ret (.bi .tuple [.lc (.call kf [.v 1, .sub (.v 0) (.neg (.int 1))]) [1] (.nm 1) 0 [.v 0] none])]⟩
section
variable {P : Nat → Option FD} {gv : Nat → AV} {sb : Nat → Nat → Option Bool} {m : Mem} {n k : Nat}
theorem lbag_ok {ns : List Int} (h : P k = some F_lbag) (hl : ns.length ≤ 63) : ∃ cs, BagOk 0 0 1234567891 0 cs ∧ callE P gv sb (n + 1) k [.scr (iv ns)] [] = .ok (.ref 0) (bagM [] 0 1234567891 0 cs) := by
  refine ⟨ns.map fun z => (z.natAbs : Int), ⟨by decide, ⟨by decide, by decide⟩, ⟨by decide, by decide⟩, by simpa using hl, fun x hx => ?_⟩, ?_⟩
  · rw [List.mem_map] at hx
    obtain ⟨z, _, rfl⟩ := hx
    omega
  rw [callE_eq h rfl]
  have e0 : ([AV.scr (iv ns)].map some ++ List.replicate (F_lbag.n - F_lbag.ps) none) = [some (.scr (iv ns)), none] := rfl
  rw [e0]
  have sl : slcE [] (.scr (iv ns)) none (some 63) = some (.frl (iv ns)) := by
    rw [slc_lst rfl]
    congr 2
    unfold cutA
    rw [HT.sIx_none]
    have : HT.sIx (iv ns).length (iv ns).length (some 63) = (iv ns).length := by
      have := HT.sIx_nat (iv ns).length (iv ns).length 63
      rw [Nat.min_eq_right (by rw [iv_len]; exact hl)] at this
      exact this
    rw [this]
    simp
  have z := lc_pure (F := callE P gv sb n) (gv := gv) (elt := .bi .abs [.v 1]) (own := [1]) (tg := .nm 1) (it := 0) (src := [.slc (.v 0) none (some (.int 63))]) (env := [some (.scr (iv ns)), none]) (m := []) (xs := iv ns) (fun x => match x with
    | .int z => .int (z.natAbs : Int)
    | _ => .non) (rCons (rSlc (evE_v rfl) rOn (rOs rfl) sl) rNil) rfl (fun x hx => ?_) (by rw [iv_len]; exact size_ok (by omega))
  · have e1 : (iv ns).map (fun x => match x with
      | .int z => AV.int (z.natAbs : Int)
      | _ => .non) = iv (ns.map fun z => (z.natAbs : Int)) := by
      unfold iv
      rw [List.map_map, List.map_map]
      rfl
    rw [e1] at z
    have e6 : evSs (callE P gv sb n) gv sb F_lbag.body [some (.scr (iv ns)), none] [] = .rt (.ref 0) (bagM [] 0 1234567891 0 (ns.map fun z => (z.natAbs : Int))) :=
      bRt (sRet (rMk rfl (rLst (rCons rfl (rCons rfl (rCons rfl (rCons z rNil)))) (by show okLen 4 = true; decide))))
    rw [e6]
    rfl
  · obtain ⟨z, _, rfl⟩ := iv_mem hx
    exact ⟨[some (.scr (iv ns)), some (.int z)], rfl, rBi (rCons (evE_v rfl) rNil) absE⟩
theorem lmade_ok {kf kg : Nat} {l : List Int} {d : Int} (h : P k = some (F_lmade kf)) (hf : P kf = some (F_lfrac kg)) (hg : P kg = some F_lgcd) (hd : L2.atI (iv l) (-1) = some (.int d)) (h0 : d ≠ 0) (hl : l.length ≤ 1000) (hs : ∀ z ∈ l, z.natAbs < 2 ^ 64) (hs2 : d.natAbs < 2 ^ 64) : callE P gv sb (n + 3) k [.frl (iv l)] m = .ok (pv (l.map fun z => Rat.divInt z d)) m := by
  rw [callE_eq h rfl]
  have e0 : ([AV.frl (iv l)].map some ++ List.replicate ((F_lmade kf).n - (F_lmade kf).ps) none) = [some (.frl (iv l)), none] := rfl
  rw [e0]
  have z := lc_pure (F := callE P gv sb (n + 2)) (gv := gv) (elt := .call kf [.v 1, .sub (.v 0) (.neg (.int 1))]) (own := [1]) (tg := .nm 1) (it := 0) (src := [.v 0]) (env := [some (.frl (iv l)), none]) (m := m) (xs := iv l) (fun x => match x with
    | .int z => fr (Rat.divInt z d)
    | _ => .non) (rCons (evE_v rfl) rNil) rfl (fun x hx => ?_) (by rw [iv_len]; exact size_ok hl)
  · have e1 : (iv l).map (fun x => match x with
      | .int z => fr (Rat.divInt z d)
      | _ => .non) = frs (l.map fun z => Rat.divInt z d) := by
      unfold iv frs
      rw [List.map_map, List.map_map]
      rfl
    rw [e1] at z
    have e6 : evSs (callE P gv sb (n + 2)) gv sb (F_lmade kf).body [some (.frl (iv l)), none] m = .rt (pv (l.map fun z => Rat.divInt z d)) m := bRt (sRet (rBi (rCons z rNil) rfl))
    rw [e6, finC_rt]
  · obtain ⟨z, hz, rfl⟩ := iv_mem hx
    have a1 := log_lt (hs z hz) (by decide)
    have a2 := log_lt hs2 (by decide)
    exact ⟨[some (.frl (iv l)), some (.int z)], rfl, rCall (rCons (evE_v rfl) (rCons (rSub (evE_v rfl) (rNeg rfl) ((sub_lst rfl).trans hd)) rNil)) (lfrac_ok hf hg h0 (by omega) (by omega))⟩
end
end PI
/-! Q16: texts of numbers; alike. -/
namespace PI
open PySem

/-- plain signs, so many at most -/
def TB (s : Str) (n : Nat) : Prop := (s.cps.toList.all fun c => decide (c < 0x110000)) = true ∧ s.cps.toList.length ≤ n
theorem tb_of (s : String) : TB (Str.ofString s) s.toList.length := by
  rw [Str.ofString_eq_toList]
  refine ⟨?_, by simp⟩
  rw [List.all_eq_true]
  intro c hc
  have hc : c ∈ s.toList.map Char.toNat := hc
  rw [List.mem_map] at hc
  obtain ⟨ch, _, rfl⟩ := hc
  rw [decide_eq_true_eq]
  have := ch.valid
  have : ch.toNat.isValidChar := this
  unfold Nat.isValidChar at this
  omega
theorem TB.app {a b : Str} {m n : Nat} (h : TB a m) (g : TB b n) : TB (a ++ b) (m + n) := by
  have e : (a ++ b).cps.toList = a.cps.toList ++ b.cps.toList := by
    show (a.cps ++ b.cps).toList = _
    simp
  unfold TB
  rw [e, List.all_append, List.length_append, h.1, g.1]
  exact ⟨rfl, Nat.add_le_add h.2 g.2⟩
theorem TB.mono {a : Str} {m n : Nat} (h : TB a m) (g : m ≤ n) : TB a n := ⟨h.1, Nat.le_trans h.2 g⟩
theorem tb_int {i : Int} (h : i.natAbs < 10 ^ 20) : TB (PyData.shown (.int i)) 21 := by
  have e : PyData.shown (.int i) = Str.ofString (toString i) := by unfold PyData.shown; rfl
  rw [e]
  refine (tb_of _).mono ?_
  cases i with
  | ofNat m =>
    show (Nat.repr m).toList.length ≤ 21
    rw [Nat.toList_repr]
    exact (Nat.length_toDigits_le_iff (by decide) (by decide)).mpr (Nat.lt_of_lt_of_le (show m < 10 ^ 20 from h) (by decide))
  | negSucc m =>
    show ("-" ++ Nat.repr (m + 1)).toList.length ≤ 21
    rw [String.toList_append, List.length_append, Nat.toList_repr]
    have := (Nat.length_toDigits_le_iff (b := 10) (n := m + 1) (k := 20) (by decide) (by decide)).mpr h
    have e2 : ("-" : String).toList.length = 1 := by decide
    omega
mutual
/-- ints are small -/
def smallV : AV → Bool
  | .int i => decide (i.natAbs < 10 ^ 20)
  | .tup xs => smallVs xs
  | .frl xs => smallVs xs
  | _ => false
def smallVs : List AV → Bool
  | [] => true
  | x :: xs => smallV x && smallVs xs
end
mutual
def tb : AV → Nat
  | .int _ => 21
  | .tup xs => tbs xs + 3
  | .frl xs => tbs xs + 2
  | _ => 0
def tbs : List AV → Nat
  | [] => 0
  | x :: xs => tb x + 2 + tbs xs
end
theorem tb_join : ∀ {ts : List Str} {ns : List Nat}, ts.length = ns.length → (∀ p ∈ ts.zip ns, TB p.1 p.2) → TB ((Str.ofString ", ").join ts) ((ns.map (· + 2)).sum)
  | [], [], _, _ => ⟨rfl, Nat.le_refl _⟩
  | [t], [n], _, h => (h (t, n) (by simp)).mono (by simp)
  | t :: u :: ts, n :: k :: ns, hl, h => by
    have ih := tb_join (ts := u :: ts) (ns := k :: ns) (by simpa using hl) fun p hp => h p (by simp only [List.zip_cons_cons, List.mem_cons] at hp ⊢; exact .inr hp)
    show TB (t ++ Str.ofString ", " ++ (Str.ofString ", ").join (u :: ts)) _
    have h1 := h (t, n) (by simp)
    exact ((h1.app (tb_of ", ")).app ih).mono (by simp only [List.map_cons, List.sum_cons]; have : (", " : String).toList.length = 2 := by decide
                                                  omega)
theorem tb_from : ∀ {ts : List Str} {ns : List Nat} {k : Nat} {acc : Str} {n : Nat}, ts.length = ns.length → (∀ p ∈ ts.zip ns, TB p.1 p.2) → TB acc n → TB (textFrom k acc ts) (n + (ns.map (· + 2)).sum)
  | [], [], k, acc, n, _, _, h => by simpa [textFrom] using h
  | t :: ts, m :: ns, k, acc, n, hl, h, g => by
    have h1 := h (t, m) (by simp)
    have step : TB (acc ++ Str.ofString (if k > 0 then ", " else "") ++ t) (n + 2 + m) := by
      refine (g.app ?_).app h1
      refine (tb_of _).mono ?_
      split <;> decide
    have ih := tb_from (ts := ts) (ns := ns) (k := k + 1) (by simpa using hl) (fun p hp => h p (by simp only [List.zip_cons_cons, List.mem_cons]; exact .inr hp)) step
    show TB (textFrom (k + 1) (acc ++ Str.ofString (if k > 0 then ", " else "") ++ t) ts) _
    exact ih.mono (by simp only [List.map_cons, List.sum_cons]; omega)
def tbL : List AV → List Nat
  | [] => []
  | x :: xs => tb x :: tbL xs
theorem tbs_sum : ∀ xs : List AV, ((tbL xs).map (· + 2)).sum = tbs xs
  | [] => rfl
  | x :: xs => by
    show (tb x + 2) + ((tbL xs).map (· + 2)).sum = tb x + 2 + tbs xs
    rw [tbs_sum]
mutual
theorem tb_ok : ∀ {v : AV}, smallV v = true → TB (PyData.shown (dV v)) (tb v)
  | .int i, h => tb_int (of_decide_eq_true h)
  | .tup xs, h => by
    obtain ⟨h1, h2⟩ := tbs_ok (v := xs) h
    show TB (tupleText (PyData.shownAll (dVs xs))) (tbs xs + 3)
    have j := tb_join h1 h2
    rw [tbs_sum] at j
    have e : tupleText (PyData.shownAll (dVs xs)) = Str.ofString "(" ++ (Str.ofString ", ").join (PyData.shownAll (dVs xs)) ++ Str.ofString (if ((PyData.shownAll (dVs xs)).length == 1) = true then ",)" else ")") := rfl
    rw [e]
    have k : TB (Str.ofString (if ((PyData.shownAll (dVs xs)).length == 1) = true then ",)" else ")")) 2 := (tb_of _).mono (by split <;> decide)
    have l1 : ("(" : String).toList.length = 1 := by decide
    exact (((tb_of "(").app j).app k).mono (by omega)
  | .frl xs, h => by
    obtain ⟨h1, h2⟩ := tbs_ok (v := xs) h
    show TB (listText (PyData.shownAll (dVs xs))) (tbs xs + 2)
    have j := tb_from (k := 0) h1 h2 (tb_of "[")
    rw [tbs_sum] at j
    have e : listText (PyData.shownAll (dVs xs)) = textFrom 0 (Str.ofString "[") (PyData.shownAll (dVs xs)) ++ Str.ofString "]" := rfl
    rw [e]
    have l1 : ("[" : String).toList.length = 1 := by decide
    have l2 : ("]" : String).toList.length = 1 := by decide
    exact (j.app (tb_of "]")).mono (by omega)
  | .non, h => by cases h
  | .bl _, h => by cases h
  | .str _, h => by cases h
  | .scr _, h => by cases h
  | .ref _, h => by cases h
  | .fn _, h => by cases h
theorem tbs_ok : ∀ {v : List AV}, smallVs v = true → (PyData.shownAll (dVs v)).length = (tbL v).length ∧ ∀ p ∈ (PyData.shownAll (dVs v)).zip (tbL v), TB p.1 p.2
  | [], h => ⟨rfl, fun p hp => by cases hp⟩
  | x :: xs, h => by
    have h : (smallV x && smallVs xs) = true := h
    rw [Bool.and_eq_true] at h
    have a := tb_ok h.1
    obtain ⟨b1, b2⟩ := tbs_ok h.2
    refine ⟨by show _ + 1 = _ + 1; rw [b1], fun p hp => ?_⟩
    have hp : p ∈ (PyData.shown (dV x), tb x) :: (PyData.shownAll (dVs xs)).zip (tbL xs) := hp
    rcases List.mem_cons.mp hp with z | z
    · rw [z]; exact a
    · exact b2 p z
end
mutual
theorem small_ok : ∀ {v : AV}, smallV v = true → pur v = true ∧ (dV v).canLay0 = true ∧ (dV v).showable = true
  | .int i, h => ⟨rfl, rfl, by
    show decide (i.natAbs.log2 < 1920) = true
    rw [decide_eq_true_eq]
    have h : i.natAbs < 10 ^ 20 := of_decide_eq_true h
    have : i.natAbs < 2 ^ 70 := Nat.lt_of_lt_of_le h (by decide)
    have := log_lt this (by decide)
    omega⟩
  | .tup xs, h => small_oks (v := xs) h
  | .frl xs, h => small_oks (v := xs) h
  | .non, h => by cases h
  | .bl _, h => by cases h
  | .str _, h => by cases h
  | .scr _, h => by cases h
  | .ref _, h => by cases h
  | .fn _, h => by cases h
theorem small_oks : ∀ {v : List AV}, smallVs v = true → purs v = true ∧ PyData.canLayAll0 (dVs v) = true ∧ PyData.showableAll (dVs v) = true
  | [], h => ⟨rfl, rfl, rfl⟩
  | x :: xs, h => by
    have h : (smallV x && smallVs xs) = true := h
    rw [Bool.and_eq_true] at h
    obtain ⟨a1, a2, a3⟩ := small_ok h.1
    obtain ⟨b1, b2, b3⟩ := small_oks h.2
    exact ⟨by show (pur x && purs xs) = true; rw [a1, b1]; rfl, by show ((dV x).canLay0 && PyData.canLayAll0 (dVs xs)) = true; rw [a2, b2]; rfl, by show ((dV x).showable && PyData.showableAll (dVs xs)) = true; rw [a3, b3]; rfl⟩
end
def F_alike : FD := ⟨2, 2, [.ret (.and [.cmp .eq (.bi .repr [.v 0]) (.bi .repr [.v 1]), .cmp .eq (.v 0) (.v 1)])]⟩
theorem alike_ok {P : Nat → Option FD} {gv : Nat → AV} {sb : Nat → Nat → Option Bool} {m : Mem} {n k : Nat} {v : AV} (h : P k = some F_alike) (hs : smallV v = true) (hq : isSeqD (dV v) = true) (hd : (dV v).depth ≤ 64) (ht : tb v ≤ sizeLine) : callE P gv sb (n + 1) k [v, v] m = .ok (.bl true) m := by
  rw [callE_eq h rfl]
  have e0 : ([v, v].map some ++ List.replicate (F_alike.n - F_alike.ps) none) = [some v, some v] := rfl
  rw [e0]
  obtain ⟨a1, a2, a3⟩ := small_ok hs
  obtain ⟨t1, t2⟩ := tb_ok hs
  have r : biE m .repr [v] = some (.str (PyData.shown (dV v)).cps.toList) := by
    show reprE m v = _
    unfold reprE
    rw [toD_pur a1]
    show (if (isSeqD (dV v) && PyData.showable (dV v) && decide ((dV v).depth ≤ 64) && okLen (PyData.shown (dV v)).length) = true then some (AV.str (PyData.shown (dV v)).cps.toList) else none) = _
    rw [hq, a3, decide_eq_true hd]
    rw [if_pos]
    show okLen (PyData.shown (dV v)).length = true
    unfold okLen
    rw [decide_eq_true_eq]
    have : (PyData.shown (dV v)).length = (PyData.shown (dV v)).cps.toList.length := by simp [Str.length]
    omega
  have ev1 : eqE m v v = some true := by
    unfold eqE
    rw [toD_pur a1]
    have s : SeqAt.shaped (dV v) = true := by
      unfold SeqAt.shaped
      rw [a2, decide_eq_true hd]; rfl
    show (if (SeqAt.shaped (dV v) && SeqAt.shaped (dV v)) = true then some (PyData.eqv (dV v) (dV v)) else none) = _
    rw [s, SeqAt.eqv_refl _ a2]; rfl
  have es : eqE m (.str (PyData.shown (dV v)).cps.toList) (.str (PyData.shown (dV v)).cps.toList) = some true := by
    unfold eqE
    have z : toD m (.str (PyData.shown (dV v)).cps.toList) = some (.str (toStr (PyData.shown (dV v)).cps.toList)) := rfl
    rw [z, toStr_cps]
    have c : (PyData.str (PyData.shown (dV v))).canLay0 = true := by
      show ((PyData.shown (dV v)).cps.all fun c => decide (c < 0x110000)) = true
      rw [← Array.all_toList]
      exact t1
    have s : SeqAt.shaped (.str (PyData.shown (dV v))) = true := by
      unfold SeqAt.shaped
      rw [c]; rfl
    show (if (SeqAt.shaped (.str (PyData.shown (dV v))) && SeqAt.shaped (.str (PyData.shown (dV v)))) = true then some (PyData.eqv (.str (PyData.shown (dV v))) (.str (PyData.shown (dV v)))) else none) = _
    rw [s, SeqAt.eqv_refl _ c]; rfl
  have e6 : evSs (callE P gv sb n) gv sb F_alike.body [some v, some v] m = .rt (.bl true) m :=
    bRt (sRet (rAndT (rCmp (rBi (rCons (evE_v rfl) rNil) r) (rBi (rCons (evE_v rfl) rNil) r) es) (rAnd1 (rCmp (evE_v rfl) (evE_v rfl) ev1))))
  rw [e6, finC_rt]
end PI
/-! Q17: a common factor goes through Euclid's way. -/
namespace PI
open PySem

theorem tr_mulP {p q : List Rat} : Tr (mulP p q) := tr_trim _
theorem rest_factor {C a b : List Rat} (hC : Tr C) (nC : C ≠ []) (hb : Tr b) (nb : b ≠ []) : trim (divL (mulP C a) (mulP C b)).1 = mulP C (trim (divL a b).1) := by
  obtain ⟨l1, l2⟩ := mulP_len (hC.lead nC) (hb.lead nb) nC nb
  have cl := List.length_pos_iff.mpr nC
  have bl := List.length_pos_iff.mpr nb
  have nCb : mulP C b ≠ [] := fun z => by rw [z] at l1; simp at l1; omega
  have lCb : lead (mulP C b) ≠ 0 := tr_mulP.lead nCb
  obtain ⟨d1, d2⟩ := divL_ok (p := mulP C a) lCb (List.length_pos_iff.mpr nCb)
  obtain ⟨e1, e2⟩ := divL_ok (p := a) (hb.lead nb) bl
  have hm := mulP_le (p := C) (q := trim (divL a b).1)
  have z := short_nil (r := addL (trim (divL (mulP C a) (mulP C b)).1) ((mulP C (trim (divL a b).1)).map fun y => -y)) tr_mulP nCb ⟨addL (trim (divL a b).2) ((trim (divL (mulP C a) (mulP C b)).2).map fun y => -y), fun x => by
    have f1 := d1 x
    have f2 := e1 x
    rw [ev_addL, ev_map_neg, ev_addL, ev_map_neg, ev_mulP]
    rw [ev_mulP, ev_mulP] at f1
    rw [ev_mulP]
    grind⟩ (by
      unfold addL
      rw [List.length_map, List.length_range, List.length_map]
      omega)
  have t1 : trim (trim (divL (mulP C a) (mulP C b)).1) = trim (mulP C (trim (divL a b).1)) := trim_ext fun x => by
    have := z x
    rw [ev_addL, ev_map_neg] at this
    grind
  rw [tr_trim, tr_mulP] at t1
  exact t1
theorem mulP_nil_right {C : List Rat} : mulP C [] = [] := mulP_nil (.inr rfl)
theorem unit_factor {C r : List Rat} (hC : lead C = 1) (nC : C ≠ []) (hr : Tr r) : unitL (mulP C r) = mulP C (unitL r) := by
  by_cases nr : r = []
  · subst nr
    rw [mulP_nil_right]
    show ([] : List Rat) = mulP C []
    rw [mulP_nil_right]
  · have l := (mulP_len (by rw [hC]; decide) (hr.lead nr) nC nr).2
    rw [hC, Rat.one_mul] at l
    have t1 : Tr (unitL (mulP C r)) := unitL_tr tr_mulP
    have t2 : Tr (mulP C (unitL r)) := tr_mulP
    rw [← t1, ← t2]
    exact trim_ext fun x => by rw [ev_unitL, ev_mulP, ev_mulP, ev_unitL, l]; grind
theorem mulP_eq_nil {C r : List Rat} (hC : Tr C) (nC : C ≠ []) (hr : Tr r) : mulP C r = [] ↔ r = [] := by
  constructor
  · intro h
    refine Classical.byContradiction fun nr => ?_
    have l := (mulP_len (hC.lead nC) (hr.lead nr) nC nr).1
    rw [h] at l
    have := List.length_pos_iff.mpr nC
    have := List.length_pos_iff.mpr nr
    simp at l
    omega
  · intro h; rw [h]; exact mulP_nil_right
theorem eucl_factor {C : List Rat} (hC : lead C = 1) (nC : C ≠ []) (tC : Tr C) : ∀ {t : Nat} {a b : List Rat}, Tr b → eucl t (mulP C a) (mulP C b) = mulP C (eucl t a b)
  | 0, a, b, _ => rfl
  | t + 1, a, b, hb => by
    unfold eucl
    by_cases nb : b = []
    · rw [if_pos nb, if_pos ((mulP_eq_nil tC nC hb).mpr nb)]
    · rw [if_neg nb, if_neg fun z => nb ((mulP_eq_nil tC nC hb).mp z), rest_factor tC nC hb nb, unit_factor hC nC (tr_trim _)]
      exact eucl_factor hC nC tC (unitL_tr (tr_trim _))
/-! ### how great the coefficients grow -/
/-- a table of heights by length: s the first two's, w the factor's, L the greatest length -/
structure Tab (h : Nat → Nat) (s w L : Nat) : Prop where
  anti : ∀ i j, i ≤ j → j ≤ L → h j ≤ h i
  one : s ≤ h L
  two : ∀ la lb, la ≤ L → 0 < lb → lb ≤ L → s + (la + 1 - lb) * (s + 1) ≤ h (lb - 1)
  step : ∀ la lb, la ≤ L → 0 < lb → lb < la → h la + (la + 1 - lb) * (h (la - 1) + 1) ≤ h (lb - 1)
  div : ∀ la lb, la ≤ L → 0 < lb → lb < la → (w + h la + 9) + (la + 1 - lb) * ((w + h (la - 1) + 9) + 1) < fitB
  div1 : ∀ la lb, la ≤ L → 0 < lb → lb ≤ L → (w + s + 9) + (la + 1 - lb) * ((w + s + 9) + 1) < fitB
  top : w + h 0 + 9 < fitB
/-- a pair on Euclid's way -/
def Pair (h : Nat → Nat) (s L : Nat) (a b : List Rat) : Prop := Tr a ∧ Tr b ∧ ((Ht s a ∧ Ht s b ∧ a.length ≤ L ∧ b.length ≤ L) ∨ (Ht (h a.length) a ∧ Ht (h (a.length - 1)) b ∧ a.length ≤ L ∧ b.length < a.length))
theorem rest_ht {u v : Nat} {a b : List Rat} (ha : Ht u a) (hb : Ht v b) (h0 : lead b ≠ 0) : Ht (u + (a.length + 1 - b.length) * (v + 1)) (trim (divL a b).1) := by
  obtain ⟨D, d1, d2, d3⟩ := ha
  have := divGo_ht hb h0 (t := a.length + 1 - b.length) (u := u) (r := a) (f := List.replicate (a.length + 1 - b.length) 0) ⟨D, d1, d2, d3, bdl_rep⟩
  obtain ⟨E, e1, e2, e3, e4⟩ := this
  exact Ht.trim ⟨E, e1, e2, e3⟩
theorem Pair.next {h : Nat → Nat} {s w L : Nat} (T : Tab h s w L) {a b : List Rat} (p : Pair h s L a b) (nb : b ≠ []) : Pair h s L b (unitL (trim (divL a b).1)) := by
  obtain ⟨ta, tb, q⟩ := p
  have bl := List.length_pos_iff.mpr nb
  have l0 := tb.lead nb
  have lt := (divL_ok (p := a) l0 bl).2
  have tr := tr_trim (divL a b).1
  have z0 : trim (divL a b).1 = [] ∨ lead (trim (divL a b).1) ≠ 0 := by
    by_cases z : trim (divL a b).1 = []
    · exact .inl z
    · exact .inr (tr.lead z)
  refine ⟨tb, unitL_tr tr, .inr ?_⟩
  rcases q with ⟨ha, hb, la, lb⟩ | ⟨ha, hb, la, lb⟩
  · refine ⟨hb.mono (Nat.le_trans T.one (T.anti _ _ lb (Nat.le_refl _))), ?_, lb, by rw [unitL_len]; exact lt⟩
    exact unitL_ht ((rest_ht ha hb l0).mono (T.two _ _ la bl lb)) z0
  · refine ⟨hb.mono (T.anti _ _ (by omega) (by omega)), ?_, by omega, by rw [unitL_len]; exact lt⟩
    exact unitL_ht ((rest_ht ha hb l0).mono (T.step _ _ la bl lb)) z0
theorem mulP_ht {w u : Nat} {C a : List Rat} (hC : Ht w C) (ha : Ht u a) (hl : C.length ≤ 400) : Ht (w + u + 9) (mulP C a) := (mulA_ht hC ha hl).trim
/-- common of a pair with a common factor -/
theorem common_fac {P : Nat → Option FD} {gv : Nat → AV} {sb : Nat → Nat → Option Bool} {m : Mem} {n : Nat} {ki kc e kmd kp kt ko ks kw kd ktr g0 g1 kcm : Nat} (hk : P kcm = some (F_common kw kd)) (Lb : PolyOk P gv ki kc e kmd kp kt ko ks kw kd ktr g0 g1) (cl : Cl m)
    {h : Nat → Nat} {s w L : Nat} (T : Tab h s w L) {C a b : List Rat} (tC : Tr C) (nC : C ≠ []) (lC : lead C = 1) (hC : Ht w C) (cl2 : C.length ≤ 200) (hL : L ≤ 200) (p : Pair h s L a b) :
    callE P gv sb (n + 6) kcm [pv (mulP C a), pv (mulP C b)] m = .ok (pv (mulP C (unitL (eucl b.length a b)))) m ∧ Tr (eucl b.length a b) := by
  have trE : ∀ {t : Nat} {a b : List Rat}, Tr a → Tr b → Tr (eucl t a b) := by
    intro t
    induction t with
    | zero => exact fun ta _ => ta
    | succ t ih =>
      intro a b ta tb
      unfold eucl
      split
      · exact ta
      · exact ih tb (unitL_tr (tr_trim _))
  have tE := trE (t := b.length) p.1 p.2.1
  refine ⟨?_, tE⟩
  have sH : s ≤ h 0 := Nat.le_trans T.one (T.anti _ _ (Nat.zero_le _) (Nat.le_refl _))
  have ht0 : ∀ {a b : List Rat}, Pair h s L a b → Ht (h 0) a ∧ a.length ≤ L ∧ b.length ≤ L := fun {a b} q => by
    obtain ⟨_, _, q⟩ := q
    rcases q with ⟨ha, hb, la, lb⟩ | ⟨ha, hb, la, lb⟩
    · exact ⟨ha.mono sH, la, lb⟩
    · exact ⟨ha.mono (T.anti _ _ (Nat.zero_le _) la), la, by omega⟩
  have len : ∀ {a : List Rat}, a.length ≤ L → (mulP C a).length ≤ 400 := fun {a} ha => by
    have := mulP_le (p := C) (q := a)
    omega
  have key := common_ok (gv := gv) (sb := sb) (m := m) (n := n) hk Lb cl (fun p o => ∃ a b, p = mulP C a ∧ o = mulP C b ∧ Pair h s L a b) (fun p o ⟨a, b, e1, e2, q⟩ => by
    subst e1 e2
    exact ⟨⟨_, T.top, mulP_ht hC (ht0 q).1 (by omega)⟩, len (ht0 q).2.1, tr_mulP, tr_mulP⟩) (fun p o ⟨a, b, e1, e2, q⟩ ne => by
    subst e1 e2
    have nb : b ≠ [] := fun z => ne (by rw [z]; exact mulP_nil_right)
    have bl := List.length_pos_iff.mpr nb
    have lbb := (mulP_len (tC.lead nC) (q.2.1.lead nb) nC nb).1
    have cpos := List.length_pos_iff.mpr nC
    have diff : (mulP C a).length + 1 - (mulP C b).length ≤ a.length + 1 - b.length := by
      have := mulP_le (p := C) (q := a)
      omega
    refine ⟨⟨?_, len (ht0 q).2.1, len (ht0 q).2.2⟩, b, unitL (trim (divL a b).1), rfl, ?_, q.next T nb⟩
    · obtain ⟨_, _, q⟩ := q
      rcases q with ⟨ha, hb, la, lb⟩ | ⟨ha, hb, la, lb⟩
      · refine ⟨_, _, mulP_ht hC ha (by omega), mulP_ht hC hb (by omega), ?_⟩
        have d := T.div1 _ _ la bl lb
        have := Nat.mul_le_mul_right ((w + s + 9) + 1) diff
        omega
      · refine ⟨_, _, mulP_ht hC ha (by omega), mulP_ht hC hb (by omega), ?_⟩
        have d := T.div _ _ la bl lb
        have := Nat.mul_le_mul_right ((w + h (a.length - 1) + 9) + 1) diff
        omega
    · rw [rest_factor tC nC q.2.1 nb, unit_factor lC nC (tr_trim _)]) (p := mulP C a) (o := mulP C b) ⟨a, b, rfl, rfl, p⟩ (len (ht0 p).2.2)
  rw [key]
  congr 2
  rw [eucl_factor lC nC tC p.2.1]
  -- more turns than needed change nothing
  have more : ∀ {t j : Nat} {a b : List Rat}, Tr b → b.length ≤ t → eucl (t + j) a b = eucl t a b := by
    intro t
    induction t with
    | zero =>
      intro j a b tb hb
      have : b = [] := List.length_eq_zero_iff.mp (Nat.le_zero.mp hb)
      subst this
      cases j with
      | zero => rfl
      | succ j => show eucl (0 + j + 1) a [] = a; unfold eucl; rw [if_pos rfl]
    | succ t ih =>
      intro j a b tb hb
      have e1 : t + 1 + j = (t + j) + 1 := by omega
      rw [e1]
      unfold eucl
      by_cases nb : b = []
      · rw [if_pos nb, if_pos nb]
      · rw [if_neg nb, if_neg nb]
        have lt := (divL_ok (p := a) (tb.lead nb) (List.length_pos_iff.mpr nb)).2
        exact ih (unitL_tr (tr_trim _)) (by rw [unitL_len]; omega)
  have ge : b.length ≤ (mulP C b).length := by
    by_cases nb : b = []
    · rw [nb]; exact Nat.zero_le _
    · have := (mulP_len (tC.lead nC) (p.2.1.lead nb) nC nb).1
      have := List.length_pos_iff.mpr nC
      omega
  obtain ⟨j, hj⟩ : ∃ j, (mulP C b).length = b.length + j := ⟨(mulP C b).length - b.length, by omega⟩
  rw [hj, more p.2.1 (Nat.le_refl _), unit_factor lC nC tE]
end PI
/-! Q18: heights on Euclid's way, closer: the second is shorter from the start. -/
namespace PI
open PySem

def vb (h : Nat → Nat) (s la lb : Nat) : Nat := if lb ≤ 1 then s else h (la - 1)
structure Tb2 (h : Nat → Nat) (s w L : Nat) : Prop where
  anti : ∀ i j, i ≤ j → j ≤ L → h j ≤ h i
  low : s ≤ h 1
  step : ∀ la lb, la ≤ L → 3 ≤ lb → lb < la → h la + (la + 1 - lb) * (h (la - 1) + 1) ≤ h (lb - 1)
  div : ∀ la lb, la ≤ L → 0 < lb → lb < la → (w + h la + 9) + (la + 1 - lb) * ((w + vb h s la lb + 9) + 1) < fitB
  top : w + h 0 + 9 < fitB
def Pair2 (h : Nat → Nat) (s L : Nat) (a b : List Rat) : Prop := Tr a ∧ Tr b ∧ Ht (h a.length) a ∧ Ht (vb h s a.length b.length) b ∧ a.length ≤ L ∧ b.length < a.length
theorem monic_one {r : List Rat} (h : Tr r) (hl : r.length ≤ 1) : Ht 0 (unitL r) := by
  by_cases nr : r = []
  · subst nr
    exact ⟨1, by decide, by decide, fun c hc => by cases hc⟩
  · have l := lead_unitL (h.lead nr) nr
    have ll : (unitL r).length = 1 := by
      rw [unitL_len]
      have := List.length_pos_iff.mpr nr
      omega
    have e : unitL r = [1] := by
      match q : unitL r, ll with
      | [c], _ =>
        rw [q] at l
        have : c = 1 := l
        rw [this]
    rw [e]; exact ht_one
theorem Pair2.next {h : Nat → Nat} {s w L : Nat} (T : Tb2 h s w L) {a b : List Rat} (p : Pair2 h s L a b) (nb : b ≠ []) : Pair2 h s L b (unitL (trim (divL a b).1)) := by
  obtain ⟨ta, tb, ha, hb, la, lb⟩ := p
  have bl := List.length_pos_iff.mpr nb
  have l0 := tb.lead nb
  have lt := (divL_ok (p := a) l0 bl).2
  have tr := tr_trim (divL a b).1
  have z0 : trim (divL a b).1 = [] ∨ lead (trim (divL a b).1) ≠ 0 := by
    by_cases z : trim (divL a b).1 = []
    · exact .inl z
    · exact .inr (tr.lead z)
  refine ⟨tb, unitL_tr tr, ?_, ?_, by omega, by rw [unitL_len]; exact lt⟩
  · unfold vb at hb
    split at hb
    · rename_i h1
      exact hb.mono (Nat.le_trans T.low (T.anti _ _ h1 (by omega)))
    · exact hb.mono (T.anti _ _ (by omega) (by omega))
  · unfold vb
    rw [unitL_len]
    split
    · rename_i h1
      exact (monic_one tr h1).mono (Nat.zero_le _)
    · rename_i h1
      have hb2 : Ht (h (a.length - 1)) b := by
        unfold vb at hb
        rw [if_neg (by omega)] at hb
        exact hb
      exact unitL_ht ((rest_ht ha hb2 l0).mono (T.step _ _ la (by omega) lb)) z0
end PI
/-! Q19: common of two with a monic factor, along any invariant; the closer table. -/
namespace PI
open PySem

theorem eucl_more : ∀ {t j : Nat} {a b : List Rat}, Tr b → b.length ≤ t → eucl (t + j) a b = eucl t a b := by
  intro t
  induction t with
  | zero =>
    intro j a b tb hb
    have : b = [] := List.length_eq_zero_iff.mp (Nat.le_zero.mp hb)
    subst this
    cases j with
    | zero => rfl
    | succ j => show eucl (0 + j + 1) a [] = a; unfold eucl; rw [if_pos rfl]
  | succ t ih =>
    intro j a b tb hb
    have e1 : t + 1 + j = (t + j) + 1 := by omega
    rw [e1]
    unfold eucl
    by_cases nb : b = []
    · rw [if_pos nb, if_pos nb]
    · rw [if_neg nb, if_neg nb]
      have lt := (divL_ok (p := a) (tb.lead nb) (List.length_pos_iff.mpr nb)).2
      exact ih (unitL_tr (tr_trim _)) (by rw [unitL_len]; omega)
/-- what stays along Euclid's way -/
structure Way (w : Nat) (J : List Rat → List Rat → Prop) : Prop where
  ok : ∀ a b, J a b → Tr a ∧ Tr b ∧ a.length ≤ 200 ∧ b.length ≤ 200 ∧ ∃ u, Ht u a ∧ w + u + 9 < fitB
  nx : ∀ a b, J a b → b ≠ [] → J b (unitL (trim (divL a b).1)) ∧ ∃ u v, Ht u a ∧ Ht v b ∧ (w + u + 9) + (a.length + 1 - b.length) * ((w + v + 9) + 1) < fitB
theorem Way.eucl {w : Nat} {J : List Rat → List Rat → Prop} (W : Way w J) : ∀ {t : Nat} {a b : List Rat}, J a b → ∃ o, J (eucl t a b) o
  | 0, a, b, h => ⟨b, h⟩
  | t + 1, a, b, h => by
    unfold PI.eucl
    split
    · exact ⟨b, h⟩
    · rename_i nb
      exact W.eucl (W.nx a b h nb).1
theorem Way.common {P : Nat → Option FD} {gv : Nat → AV} {sb : Nat → Nat → Option Bool} {m : Mem} {n : Nat} {ki kc e kmd kp kt ko ks kw kd ktr g0 g1 kcm : Nat} (hk : P kcm = some (F_common kw kd)) (Lb : PolyOk P gv ki kc e kmd kp kt ko ks kw kd ktr g0 g1) (cl : Cl m)
    {w : Nat} {J : List Rat → List Rat → Prop} (W : Way w J) {C a b : List Rat} (tC : Tr C) (nC : C ≠ []) (lC : lead C = 1) (hC : Ht w C) (cl2 : C.length ≤ 200) (p : J a b) :
    callE P gv sb (n + 6) kcm [pv (mulP C a), pv (mulP C b)] m = .ok (pv (mulP C (unitL (PI.eucl b.length a b)))) m := by
  have len : ∀ {a : List Rat}, a.length ≤ 200 → (mulP C a).length ≤ 400 := fun {a} ha => by
    have := mulP_le (p := C) (q := a)
    omega
  have ok0 := W.ok a b p
  have key := common_ok (gv := gv) (sb := sb) (m := m) (n := n) hk Lb cl (fun p o => ∃ a b, p = mulP C a ∧ o = mulP C b ∧ J a b) (fun p o ⟨a, b, e1, e2, q⟩ => by
    subst e1 e2
    obtain ⟨ta, tb, la, lb, u, hu, hf⟩ := W.ok a b q
    exact ⟨⟨_, hf, mulP_ht hC hu (by omega)⟩, len la, tr_mulP, tr_mulP⟩) (fun p o ⟨a, b, e1, e2, q⟩ ne => by
    subst e1 e2
    obtain ⟨ta, tb, la, lb, _⟩ := W.ok a b q
    have nb : b ≠ [] := fun z => ne (by rw [z]; exact mulP_nil_right)
    have lbb := (mulP_len (tC.lead nC) (tb.lead nb) nC nb).1
    have cpos := List.length_pos_iff.mpr nC
    have bpos := List.length_pos_iff.mpr nb
    have diff : (mulP C a).length + 1 - (mulP C b).length ≤ a.length + 1 - b.length := by
      have := mulP_le (p := C) (q := a)
      omega
    obtain ⟨nx, u, v, hu, hv, hf⟩ := W.nx a b q nb
    refine ⟨⟨⟨_, _, mulP_ht hC hu (by omega), mulP_ht hC hv (by omega), ?_⟩, len la, len lb⟩, b, unitL (trim (divL a b).1), rfl, ?_, nx⟩
    · have := Nat.mul_le_mul_right ((w + v + 9) + 1) diff
      omega
    · rw [rest_factor tC nC tb nb, unit_factor lC nC (tr_trim _)]) (p := mulP C a) (o := mulP C b) ⟨a, b, rfl, rfl, p⟩ (len ok0.2.2.2.1)
  rw [key]
  congr 2
  obtain ⟨o, hJ⟩ := W.eucl (t := b.length) p
  rw [eucl_factor lC nC tC ok0.2.1]
  have ge : b.length ≤ (mulP C b).length := by
    by_cases nb : b = []
    · rw [nb]; exact Nat.zero_le _
    · have := (mulP_len (tC.lead nC) (ok0.2.1.lead nb) nC nb).1
      have := List.length_pos_iff.mpr nC
      omega
  obtain ⟨j, hj⟩ : ∃ j, (mulP C b).length = b.length + j := ⟨(mulP C b).length - b.length, by omega⟩
  rw [hj, eucl_more ok0.2.1 (Nat.le_refl _), unit_factor lC nC (W.ok _ _ hJ).1]
theorem tab_way {h : Nat → Nat} {s w L : Nat} (T : Tab h s w L) (hL : L ≤ 200) : Way w (Pair h s L) where
  ok a b q := by
    have sH : s ≤ h 0 := Nat.le_trans T.one (T.anti _ _ (Nat.zero_le _) (Nat.le_refl _))
    obtain ⟨ta, tb, q⟩ := q
    rcases q with ⟨ha, hb, la, lb⟩ | ⟨ha, hb, la, lb⟩
    · exact ⟨ta, tb, by omega, by omega, _, ha.mono sH, T.top⟩
    · exact ⟨ta, tb, by omega, by omega, _, ha.mono (T.anti _ _ (Nat.zero_le _) la), T.top⟩
  nx a b q nb := by
    refine ⟨q.next T nb, ?_⟩
    have bl := List.length_pos_iff.mpr nb
    obtain ⟨ta, tb, q⟩ := q
    rcases q with ⟨ha, hb, la, lb⟩ | ⟨ha, hb, la, lb⟩
    · exact ⟨_, _, ha, hb, T.div1 _ _ la bl lb⟩
    · exact ⟨_, _, ha, hb, T.div _ _ la bl lb⟩
theorem tb2_way {h : Nat → Nat} {s w L : Nat} (T : Tb2 h s w L) (hL : L ≤ 200) : Way w (Pair2 h s L) where
  ok a b q := by
    obtain ⟨ta, tb, ha, hb, la, lb⟩ := q
    exact ⟨ta, tb, by omega, by omega, _, ha.mono (T.anti _ _ (Nat.zero_le _) la), T.top⟩
  nx a b q nb := by
    refine ⟨q.next T nb, ?_⟩
    have bl := List.length_pos_iff.mpr nb
    obtain ⟨ta, tb, ha, hb, la, lb⟩ := q
    exact ⟨_, _, ha, hb, T.div _ _ la bl lb⟩
end PI
/-! Q20: whole coefficients; how great a root is. -/
namespace PI
open PySem

/-- whole coefficients, so great at most -/
abbrev IB (M : Nat) (p : List Rat) : Prop := BdL 1 M p
theorem IB.ht {M u : Nat} {p : List Rat} (h : IB M p) (hu : M ≤ 2 ^ u) : Ht u p := ⟨1, by decide, Nat.one_le_two_pow, fun c hc => (h c hc).mono hu⟩
theorem IB.mono {M N : Nat} {p : List Rat} (h : IB M p) (g : M ≤ N) : IB N p := fun c hc => (h c hc).mono g
theorem IB.mul {M N L : Nat} {p q : List Rat} (hp : IB M p) (hq : IB N q) (hl : p.length ≤ L) : IB (L * (M * N)) (mulP p q) := by
  intro c hc
  have := mulGo_bd (D := 1 * 1) (N := M * N) (p := p) (q := q) (l := List.replicate (p.length + q.length - 1) 0) (i := 0) (M := 0) (fun a ha b hb => (hp a ha).mul (hq b hb)) bdl_rep
  rw [Nat.zero_add] at this
  exact (this c (trim_mem hc)).mono (Nat.mul_le_mul_right _ hl)
theorem IB.add {M N : Nat} {p q : List Rat} (hp : IB M p) (hq : IB N q) : IB (M + N) (addL p q) := by
  intro c hc
  unfold addL at hc
  rw [List.mem_map] at hc
  obtain ⟨i, _, rfl⟩ := hc
  exact (hp.co i).add (hq.co i)
theorem bd_nat {k : Nat} : Bd 1 k (k : Rat) := ⟨(k : Int), by rw [show ((1 : Nat) : Rat) = 1 from rfl, Rat.mul_one]; rfl, by omega⟩
theorem dE_bd {D M L : Nat} : ∀ {p : List Rat} {k : Nat}, BdL D M p → k + p.length ≤ L + 1 → BdL D (L * M) (dE k p)
  | [], _, _, _ => fun c hc => by cases hc
  | a :: p, k, h, hl => fun c hc => by
    rw [List.length_cons] at hl
    rcases List.mem_cons.mp (show c ∈ (k : Rat) * a :: dE (k + 1) p from hc) with z | z
    · subst z
      have := (bd_nat (k := k)).mul (h a (by simp))
      rw [Nat.one_mul] at this
      exact this.mono (Nat.mul_le_mul_right _ (by omega))
    · exact dE_bd (fun b hb => h b (by simp [hb])) (by omega) c z
theorem dT_bd {D M L : Nat} {p : List Rat} (h : BdL D M p) (hl : p.length ≤ L + 1) : BdL D (L * M) (dT p) := by
  cases p with
  | nil => exact fun c hc => by cases hc
  | cons a p => exact dE_bd (k := 1) (fun b hb => h b (by simp [hb])) (by rw [List.length_cons] at hl; omega)
theorem dT_ht {u : Nat} {p : List Rat} (h : Ht u p) (hl : p.length ≤ 9) : Ht (u + 3) (dT p) := by
  obtain ⟨D, d1, d2, d3⟩ := h
  have e : 2 ^ (u + 3) = 2 ^ u * 8 := Nat.pow_add ..
  refine ⟨D, d1, by omega, fun c hc => (dT_bd (L := 8) d3 hl c hc).mono (by omega)⟩
theorem int_of {M : Nat} : ∀ {p : List Rat}, IB M p → ∃ l : List Int, cr l = p ∧ ∀ z ∈ l, z.natAbs ≤ M
  | [], _ => ⟨[], rfl, fun _ h => by cases h⟩
  | a :: p, h => by
    obtain ⟨l, h1, h2⟩ := int_of (p := p) fun c hc => h c (by simp [hc])
    obtain ⟨z, e, hz⟩ := h a (by simp)
    rw [show ((1 : Nat) : Rat) = 1 from rfl, Rat.mul_one] at e
    refine ⟨z :: l, ?_, fun y hy => ?_⟩
    · show (z : Rat) :: cr l = _
      rw [h1, e]
    · rcases List.mem_cons.mp hy with rfl | hy
      · exact hz
      · exact h2 y hy
/-! ### a root -/
theorem num_eq (r : Rat) : (r.num : Rat) = r * (r.den : Rat) := by
  have h1 := rat_eq r
  have h3 := den_ne r
  have e2 : (((r.den : Int)) : Rat) = (r.den : Rat) := rfl
  rw [e2] at h1 h3
  generalize (r.num : Rat) = a at *
  generalize (r.den : Rat) = b at *
  subst h1
  grind
def hom (N D : Int) : List Int → Int
  | [] => 0
  | x :: l => x * D ^ (l.length + 1) + N * hom N D l
theorem hom_ev {r : Rat} : ∀ {l : List Int}, ((hom r.num (r.den : Int) l : Int) : Rat) = ev (cr l) r * (r.den : Rat) ^ l.length
  | [] => by show ((0 : Int) : Rat) = 0 * _; grind
  | x :: l => by
    show ((x * (r.den : Int) ^ (l.length + 1) + r.num * hom r.num (r.den : Int) l : Int) : Rat) = ((x : Rat) + r * ev (cr l) r) * (r.den : Rat) ^ (l.length + 1)
    rw [Rat.intCast_add, Rat.intCast_mul, Rat.intCast_mul, hom_ev, Rat.intCast_pow]
    have e := num_eq r
    have e2 : (((r.den : Int)) : Rat) = (r.den : Rat) := rfl
    rw [e, e2, Rat.pow_succ]
    grind
theorem hom_last {N D : Int} : ∀ {l : List Int}, l ≠ [] → ∃ z, hom N D l = D * (coI l (l.length - 1) * N ^ (l.length - 1) + D * z)
  | [], h => (h rfl).elim
  | [x], _ => ⟨0, by
    show x * D ^ 1 + N * 0 = D * (x * N ^ 0 + D * 0)
    rw [Int.pow_succ, Int.pow_zero, Int.pow_zero]
    grind⟩
  | x :: y :: l, _ => by
    obtain ⟨z, hz⟩ := hom_last (N := N) (D := D) (l := y :: l) (by simp)
    refine ⟨x * D ^ l.length + N * z, ?_⟩
    show x * D ^ (l.length + 1 + 1) + N * hom N D (y :: l) = D * (coI (y :: l) l.length * N ^ (l.length + 1) + D * (x * D ^ l.length + N * z))
    rw [hz]
    show x * D ^ (l.length + 1 + 1) + N * (D * (coI (y :: l) l.length * N ^ l.length + D * z)) = _
    rw [Int.pow_succ, Int.pow_succ, Int.pow_succ]
    grind
theorem hom_low {N D : Int} (hD : D ≠ 0) (hN : N ≠ 0) (hc : Nat.Coprime N.natAbs D.natAbs) : ∀ {l : List Int}, hom N D l = 0 → (∃ x ∈ l, x ≠ 0) → ∃ x ∈ l, x ≠ 0 ∧ N.natAbs ∣ x.natAbs
  | [], _, ⟨x, h, _⟩ => by cases h
  | x :: l, h, ⟨y, hy, ny⟩ => by
    have h : x * D ^ (l.length + 1) + N * hom N D l = 0 := h
    by_cases hx : x = 0
    · subst hx
      have h2 : hom N D l = 0 := by
        have : N * hom N D l = 0 := by omega
        exact (Int.mul_eq_zero.mp this).resolve_left hN
      obtain ⟨w, w1, w2, w3⟩ := hom_low hD hN hc h2 ⟨y, (List.mem_cons.mp hy).resolve_left ny, ny⟩
      exact ⟨w, by simp [w1], w2, w3⟩
    · refine ⟨x, by simp, hx, ?_⟩
      have d : N ∣ x * D ^ (l.length + 1) := ⟨-hom N D l, by grind⟩
      have d2 := Int.natAbs_dvd_natAbs.mpr d
      rw [Int.natAbs_mul, Int.natAbs_pow] at d2
      exact (hc.pow_right _).dvd_of_dvd_mul_right d2
/-- a root's parts divide the ends -/
theorem root_bd {M : Nat} {p : List Rat} {r : Rat} (h : IB M p) (ne : p ≠ []) (l0 : lead p ≠ 0) (hr : ev p r = 0) : r.den ≤ M ∧ r.num.natAbs ≤ M := by
  obtain ⟨l, e, hl⟩ := int_of h
  have h0 : hom r.num (r.den : Int) l = 0 := by
    have := hom_ev (r := r) (l := l)
    rw [e, hr, Rat.zero_mul] at this
    exact_mod_cast this
  have dn : (r.den : Int) ≠ 0 := by have := r.den_nz; omega
  have nl : l ≠ [] := fun z => ne (by rw [← e, z]; rfl)
  have le : coI l (l.length - 1) ≠ 0 := fun z => l0 (by
    unfold lead
    rw [← e, co_cr, cr_len, z]; rfl)
  have lm : coI l (l.length - 1) ∈ l := by
    have hp := List.length_pos_iff.mpr nl
    unfold coI
    rw [List.getD_eq_getElem?_getD, List.getElem?_eq_getElem (by omega)]
    exact List.getElem_mem _
  have cop : Nat.Coprime r.num.natAbs (r.den : Int).natAbs := r.reduced
  constructor
  · obtain ⟨z, hz⟩ := hom_last (N := r.num) (D := (r.den : Int)) nl
    rw [h0] at hz
    have h1 := (Int.mul_eq_zero.mp hz.symm).resolve_left dn
    have d : (r.den : Int) ∣ coI l (l.length - 1) * r.num ^ (l.length - 1) := ⟨-z, by grind⟩
    have d2 := Int.natAbs_dvd_natAbs.mpr d
    rw [Int.natAbs_mul, Int.natAbs_pow] at d2
    have d3 : r.den ∣ (coI l (l.length - 1)).natAbs := (cop.symm.pow_right _).dvd_of_dvd_mul_right d2
    exact Nat.le_trans (Nat.le_of_dvd (by omega) d3) (hl _ lm)
  · by_cases hN : r.num = 0
    · rw [hN]; exact Nat.zero_le _
    · obtain ⟨x, x1, x2, x3⟩ := hom_low dn hN cop h0 ⟨_, lm, le⟩
      exact Nat.le_trans (Nat.le_of_dvd (by omega) x3) (hl x x1)
end PI
/-! Q21: the squarefree part of A A S, how great it is. -/
namespace PI
open PySem

theorem ev_one {c x : Rat} : ev [c] x = c := by show c + x * 0 = c; grind
def sqr (A S : List Rat) : List Rat := mulP (mulP A A) S
def pa (A S : List Rat) : List Rat := mulP [lead A] (mulP S A)
def pb (A S : List Rat) : List Rat := mulP [lead A] (addL (mulP (dT A) (mulP [2] S)) (mulP (dT S) A))
structure Nice (A S : List Rat) : Prop where
  tA : Tr A
  tS : Tr S
  nA : A ≠ []
  nS : S ≠ []
  bA : IB 3 A
  bS : IB 3 S
  lA : A.length ≤ 4
  lS : S.length ≤ 3
theorem tr_ext {p q : List Rat} (h : Tr p) (g : Tr q) (e : ∀ x, ev p x = ev q x) : p = q := by
  rw [← h, ← g]
  exact trim_ext e
theorem Gcd.extr {g p o q : List Rat} (h : Gcd g p o) (e : ∀ x, ev q x = ev o x) : Gcd g p q := by
  refine ⟨h.l, h.r.ext e, ?_⟩
  obtain ⟨a, b, z⟩ := h.bez
  exact ⟨a, b, fun x => by rw [z, e]⟩
theorem Gcd.extl {g p o q : List Rat} (h : Gcd g p o) (e : ∀ x, ev q x = ev p x) : Gcd g q o := by
  refine ⟨h.l.ext e, h.r, ?_⟩
  obtain ⟨a, b, z⟩ := h.bez
  exact ⟨a, b, fun x => by rw [z, e]⟩
theorem Gcd.fac {g p o : List Rat} (C : List Rat) (h : Gcd g p o) : Gcd (mulP C g) (mulP C p) (mulP C o) := by
  obtain ⟨⟨a, ha⟩, ⟨b, hb⟩, c, d, z⟩ := h
  refine ⟨⟨a, fun x => ?_⟩, ⟨b, fun x => ?_⟩, c, d, fun x => ?_⟩
  · rw [ev_mulP, ev_mulP, ha]; grind
  · rw [ev_mulP, ev_mulP, hb]; grind
  · rw [ev_mulP, ev_mulP, ev_mulP, z]; grind
theorem Gcd.unit {g p o : List Rat} (h : Gcd g p o) (tg : Tr g) (ng : g ≠ []) : Gcd (unitL g) p o := by
  have l := tg.lead ng
  refine h.scale (c := 1 / lead g) ?_ fun x => ev_unitL
  intro z
  have : lead g * (1 / lead g) = 1 := by grind
  rw [z] at this
  grind
theorem tr_one {c : Rat} (h : c ≠ 0) : Tr [c] := tr_of_lead (.inr h)
section
variable {A S : List Rat}
theorem sqr_fac (h : Nice A S) : sqr A S = mulP (unitL A) (pa A S) := by
  refine tr_ext tr_mulP tr_mulP fun x => ?_
  have l := h.tA.lead h.nA
  unfold pa sqr
  rw [ev_mulP, ev_mulP, ev_mulP, ev_unitL, ev_mulP, ev_mulP, ev_one]
  grind
theorem ev_dsq (x : Rat) : ev (dl (sqr A S)) x = ev A x * (2 * ev (dl A) x * ev S x + ev A x * ev (dl S) x) := by
  have h1 := dl_mul (r := sqr A S) (p := mulP A A) (q := S) (fun x => ev_mulP) x
  have h2 := dl_mul (r := mulP A A) (p := A) (q := A) (fun x => ev_mulP) x
  rw [h2, ev_mulP] at h1
  grind
theorem dsq_fac (h : Nice A S) : trim (dT (sqr A S)) = mulP (unitL A) (pb A S) := by
  refine tr_ext (tr_trim _) tr_mulP fun x => ?_
  have l := h.tA.lead h.nA
  unfold pb
  rw [ev_trim, ev_dT, ev_dsq, ev_mulP, ev_unitL, ev_mulP, ev_one, ev_addL, ev_mulP, ev_mulP, ev_mulP, ev_one, ev_dT, ev_dT]
  grind
theorem lead1_ib (h : Nice A S) : IB 3 [lead A] := fun c hc => by
  rw [List.mem_singleton.mp hc]
  exact h.bA _ (lead_mem h.nA)
theorem pa_ib (h : Nice A S) : IB 81 (pa A S) := (IB.mul (L := 1) (lead1_ib h) (IB.mul (L := 3) h.bS h.bA h.lS) (by simp)).mono (by decide)
theorem two_ib : IB 2 [2] := fun c hc => by
  rw [List.mem_singleton.mp hc]
  exact ⟨2, by rw [show ((1 : Nat) : Rat) = 1 from rfl, Rat.mul_one]; rfl, by decide⟩
theorem pb_ib (h : Nice A S) : IB 594 (pb A S) := by
  have a1 : IB (3 * 3) (dT A) := dT_bd h.bA h.lA
  have s1 : IB (2 * 3) (dT S) := dT_bd h.bS h.lS
  have s2 : IB (1 * (2 * 3)) (mulP [2] S) := IB.mul two_ib h.bS (by simp)
  have l1 : (dT A).length ≤ 3 := by rw [dT_len]; have := h.lA; omega
  have l2 : (dT S).length ≤ 2 := by rw [dT_len]; have := h.lS; omega
  exact (IB.mul (L := 1) (lead1_ib h) ((IB.mul (L := 3) a1 s2 l1).add (IB.mul (L := 2) s1 h.bA l2)) (by simp)).mono (by decide)
theorem Nice.lead (h : Nice A S) : PI.lead A ≠ 0 := h.tA.lead h.nA
theorem lead_one {c : Rat} : lead [c] = c := rfl
theorem pa_len (h : Nice A S) : (pa A S).length = A.length + S.length - 1 ∧ pa A S ≠ [] ∧ (pa A S).length ≤ 6 := by
  have ap := List.length_pos_iff.mpr h.nA
  have sp := List.length_pos_iff.mpr h.nS
  have l1 := (mulP_len (h.tS.lead h.nS) h.lead h.nS h.nA).1
  have n1 : mulP S A ≠ [] := fun z => by rw [z] at l1; simp at l1; omega
  have l2 := (mulP_len (p := [PI.lead A]) (q := mulP S A) (by rw [lead_one]; exact h.lead) (tr_mulP.lead n1) (by simp) n1).1
  have e : (pa A S).length = A.length + S.length - 1 := by
    unfold pa
    rw [l2, l1]
    simp
    omega
  refine ⟨e, fun z => ?_, by have := h.lA; have := h.lS; omega⟩
  rw [z] at e
  simp at e
  omega
theorem unitA (h : Nice A S) : Tr (unitL A) ∧ unitL A ≠ [] ∧ PI.lead (unitL A) = 1 ∧ Ht 2 (unitL A) ∧ (unitL A).length = A.length :=
  ⟨unitL_tr h.tA, fun z => h.nA (unitL_nil.mp z), lead_unitL h.lead h.nA, unitL_ht (h.bA.ht (by decide)) (.inr h.lead), unitL_len⟩
theorem sqr_len (h : Nice A S) : (sqr A S).length = 2 * A.length + S.length - 2 ∧ sqr A S ≠ [] ∧ (sqr A S).length ≤ 9 := by
  have ap := List.length_pos_iff.mpr h.nA
  have sp := List.length_pos_iff.mpr h.nS
  obtain ⟨u1, u2, u3, u4, u5⟩ := unitA h
  obtain ⟨p1, p2, p3⟩ := pa_len h
  have l1 := (mulP_len (u1.lead u2) ((show Tr (pa A S) from tr_mulP).lead p2) u2 p2).1
  have e : (sqr A S).length = 2 * A.length + S.length - 2 := by rw [sqr_fac h, l1, u5, p1]; omega
  refine ⟨e, fun z => ?_, by have := h.lA; have := h.lS; omega⟩
  rw [z] at e
  simp at e
  omega
theorem sqr_ht (h : Nice A S) : Ht 9 (sqr A S) := by
  have h1 : IB (4 * (3 * 3)) (mulP A A) := IB.mul h.bA h.bA h.lA
  have h2 : Tr (sqr A S) := tr_mulP
  have h3 : sqr A S = mulP S (mulP A A) := tr_ext tr_mulP tr_mulP fun x => by unfold sqr; rw [ev_mulP, ev_mulP (p := S)]; grind
  rw [h3]
  exact (IB.mul (L := 3) h.bS h1 h.lS).ht (by decide)
theorem pb_len (h : Nice A S) : (pb A S).length < (pa A S).length := by
  obtain ⟨p1, p2, p3⟩ := pa_len h
  have ppos := List.length_pos_iff.mpr p2
  by_cases nb : pb A S = []
  · rw [nb]; exact ppos
  · obtain ⟨u1, u2, u3, u4, u5⟩ := unitA h
    have l1 := (mulP_len (u1.lead u2) ((show Tr (pb A S) from tr_mulP).lead nb) u2 nb).1
    rw [← dsq_fac h] at l1
    have l2 := trim_len (dT (sqr A S))
    rw [dT_len] at l2
    have := (sqr_len h).1
    have := List.length_pos_iff.mpr nb
    have ap := List.length_pos_iff.mpr h.nA
    have sp := List.length_pos_iff.mpr h.nS
    omega
def h1 : Nat → Nat
  | 0 => 171 | 1 => 171 | 2 => 171 | 3 => 70 | 4 => 29 | 5 => 10 | _ => 7
def h2 : Nat → Nat
  | 0 => 1555 | 1 => 1555 | 2 => 1555 | 3 => 631 | 4 => 291 | 5 => 47 | _ => 15
theorem fin7 {P : Nat → Prop} (h : ∀ i, i < 7 → P i) : ∀ i, i ≤ 6 → P i := fun i hi => h i (by omega)
theorem fin77 {P : Nat → Nat → Prop} (h : ∀ i, i < 7 → ∀ j, j < 7 → P i j) : ∀ i j, i ≤ 6 → j ≤ 6 → P i j := fun i j hi hj => h i (by omega) j (by omega)
theorem T1 : Tb2 h1 10 2 6 where
  anti i j hij hj := fin77 (P := fun i j => i ≤ j → h1 j ≤ h1 i) (by decide +kernel) i j (by omega) hj hij
  low := by decide
  step la lb h1' h2' h3' := fin77 (P := fun la lb => 3 ≤ lb → lb < la → h1 la + (la + 1 - lb) * (h1 (la - 1) + 1) ≤ h1 (lb - 1)) (by decide +kernel) la lb h1' (by omega) h2' h3'
  div la lb h1' h2' h3' := fin77 (P := fun la lb => 0 < lb → lb < la → (2 + h1 la + 9) + (la + 1 - lb) * ((2 + vb h1 10 la lb + 9) + 1) < fitB) (by decide +kernel) la lb h1' (by omega) h2' h3'
  top := by decide +kernel
theorem T2 : Tb2 h2 300 0 6 where
  anti i j hij hj := fin77 (P := fun i j => i ≤ j → h2 j ≤ h2 i) (by decide +kernel) i j (by omega) hj hij
  low := by decide
  step la lb h1' h2' h3' := fin77 (P := fun la lb => 3 ≤ lb → lb < la → h2 la + (la + 1 - lb) * (h2 (la - 1) + 1) ≤ h2 (lb - 1)) (by decide +kernel) la lb h1' (by omega) h2' h3'
  div la lb h1' h2' h3' := fin77 (P := fun la lb => 0 < lb → lb < la → (0 + h2 la + 9) + (la + 1 - lb) * ((0 + vb h2 300 la lb + 9) + 1) < fitB) (by decide +kernel) la lb h1' (by omega) h2' h3'
  top := by decide +kernel
theorem way1 (h : Nice A S) : Pair2 h1 10 6 (pa A S) (pb A S) := by
  obtain ⟨p1, p2, p3⟩ := pa_len h
  have bl := pb_len h
  refine ⟨tr_mulP, tr_mulP, ((pa_ib h).ht (u := 7) (by decide)).mono ?_, ((pb_ib h).ht (u := 10) (by decide)).mono ?_, p3, bl⟩
  · exact fin7 (P := fun i => 7 ≤ h1 i) (by decide +kernel) _ p3
  · unfold vb
    split
    · exact Nat.le_refl _
    · exact fin7 (P := fun i => 10 ≤ h1 (i - 1)) (by decide +kernel) _ p3
/-- the greatest common divisor of pa and pb -/
def E1 (A S : List Rat) : List Rat := eucl (pb A S).length (pa A S) (pb A S)
theorem pa_nz (h : Nice A S) : ¬ ∀ x, ev (pa A S) x = 0 := nz_of tr_mulP (pa_len h).2.1
theorem E1_ok (h : Nice A S) : Tr (E1 A S) ∧ E1 A S ≠ [] ∧ (E1 A S).length ≤ 6 ∧ Ht (h1 (E1 A S).length) (E1 A S) ∧ Gcd (E1 A S) (pa A S) (pb A S) := by
  obtain ⟨o, t1, _, t3, _, t5, _⟩ := (tb2_way T1 (by decide)).eucl (t := (pb A S).length) (way1 h)
  have g := eucl_gcd (t := (pb A S).length) (p := pa A S) (o := pb A S) tr_mulP (Nat.le_refl _)
  refine ⟨t1, fun z => ?_, t5, t3, g⟩
  have := g.l.nz (pa_nz h)
  exact this fun x => by rw [show eucl (pb A S).length (pa A S) (pb A S) = [] from z]; rfl
abbrev G1 (A S : List Rat) : List Rat := unitL (E1 A S)
theorem G1_ok (h : Nice A S) : Tr (G1 A S) ∧ G1 A S ≠ [] ∧ PI.lead (G1 A S) = 1 ∧ (G1 A S).length ≤ 6 ∧ Ht (h1 (G1 A S).length) (G1 A S) ∧ Gcd (G1 A S) (pa A S) (pb A S) := by
  obtain ⟨t, n, l, u, g⟩ := E1_ok h
  have le := t.lead n
  refine ⟨unitL_tr t, fun z => n (unitL_nil.mp z), lead_unitL le n, by rw [unitL_len]; exact l, ?_, g.unit t n⟩
  rw [unitL_len]
  exact unitL_ht u (.inr le)
/-- heights by length, one and two looked at -/
def h3 : Nat → Nat
  | 0 => 0 | 1 => 0 | 2 => 7 | 3 => 70 | 4 => 29 | 5 => 10 | _ => 7
theorem G1_ht (h : Nice A S) : Ht (h3 (G1 A S).length) (G1 A S) := by
  obtain ⟨t, n, l, u, v, g⟩ := G1_ok h
  have np := List.length_pos_iff.mpr n
  have c : (G1 A S).length = 1 ∨ (G1 A S).length = 2 ∨ (G1 A S).length = 3 ∨ (G1 A S).length = 4 ∨ (G1 A S).length = 5 ∨ (G1 A S).length = 6 := by omega
  rcases c with c | c | c | c | c | c
  · rw [c]
    exact monic_one (E1_ok h).1 (by rw [unitL_len] at c; omega)
  · -- a root
    match q : G1 A S, c with
    | [c0, c1], _ =>
      rw [q] at l g
      show Ht 7 [c0, c1]
      have e1 : c1 = 1 := l
      subst e1
      have ev2 : ∀ x, ev [c0, 1] x = c0 + x := fun x => by show c0 + x * (1 + x * 0) = _; grind
      have hr : ev (pa A S) (-c0) = 0 := by
        obtain ⟨w, hw⟩ := g.l
        rw [hw, ev2]
        grind
      obtain ⟨r1, r2⟩ := root_bd (pa_ib h) (pa_len h).2.1 ((show Tr (pa A S) from tr_mulP).lead (pa_len h).2.1) hr
      have e2 : c0 * ((-c0).den : Rat) = ((-(-c0).num : Int) : Rat) := by
        rw [Rat.intCast_neg, num_eq]
        grind
      refine ⟨(-c0).den, (-c0).den_pos, Nat.le_trans r1 (by decide), fun x hx => ?_⟩
      rcases List.mem_cons.mp hx with rfl | hx
      · exact ⟨_, e2, by rw [Int.natAbs_neg]; exact Nat.le_trans r2 (by decide)⟩
      · rw [List.mem_singleton.mp hx]
        exact ⟨((-c0).den : Int), by rw [Rat.one_mul]; rfl, Nat.le_trans (by omega) (Nat.le_trans r1 (by decide : 81 ≤ 2 ^ 7))⟩
  all_goals
    rw [c] at v ⊢
    exact v
end
end PI
/-! Q22: the squarefree part: it is squarefree, divides, and its power is divided. -/
namespace PI
open PySem

/-- F, a squarefree part of A A S -/
structure Flat (A S F : List Rat) : Prop where
  t : Tr F
  n : F ≠ []
  l : lead F = 1
  ht : Ht 291 F
  ht2 : Ht (h2 F.length) F
  len : F.length ≤ 6
  /-- A A S = F G with G the greatest of A A S and its derived one -/
  g : ∃ G, Gcd G (sqr A S) (dl (sqr A S)) ∧ ∀ x, ev (sqr A S) x = ev F x * ev G x
section
variable {A S : List Rat}
/-- the greatest common divisor of A A S and its derived one -/
abbrev GG (A S : List Rat) : List Rat := mulP (unitL A) (G1 A S)
theorem GG_ok (h : Nice A S) : Gcd (GG A S) (sqr A S) (dl (sqr A S)) ∧ Tr (GG A S) ∧ GG A S ≠ [] ∧ Ht 200 (GG A S) ∧ (GG A S).length ≤ 400 := by
  obtain ⟨t, n, l, u, v, g⟩ := G1_ok h
  obtain ⟨u1, u2, u3, u4, u5⟩ := unitA h
  have a := (g.fac (unitL A)).extl (q := sqr A S) fun x => by rw [sqr_fac h]
  have b := a.extr (q := dl (sqr A S)) fun x => by rw [← dsq_fac h, ev_trim, ev_dT]
  have lp : (GG A S).length = (unitL A).length + (G1 A S).length - 1 := (mulP_len (u1.lead u2) (t.lead n) u2 n).1
  have up := List.length_pos_iff.mpr u2
  have np := List.length_pos_iff.mpr n
  have v2 : Ht 171 (G1 A S) := v.mono (fin7 (P := fun i => h1 i ≤ 171) (by decide +kernel) _ u)
  refine ⟨b, tr_mulP, fun z => ?_, (mulP_ht u4 v2 (by have := h.lA; omega)).mono (by decide), by have := h.lA; omega⟩
  rw [z] at lp
  simp at lp
  omega
theorem sq_nz (h : Nice A S) : ¬ ∀ x, ev (sqr A S) x = 0 := nz_of tr_mulP (sqr_len h).2.1
/-- A A S over it -/
abbrev QQ (A S : List Rat) : List Rat := trim (divL (sqr A S) (GG A S)).2
theorem div_exact {p d : List Rat} (td : Tr d) (nd : d ≠ []) (h : Dv d p) : (∀ x, ev p x = ev (trim (divL p d).2) x * ev d x) ∧ trim (divL p d).1 = [] := by
  have r := rest_nil td nd h
  refine ⟨fun x => ?_, r⟩
  have := (divL_ok (p := p) (td.lead nd) (List.length_pos_iff.mpr nd)).1 x
  rw [this, r]
  show _ + 0 = _
  grind
theorem quo_ht {u v : Nat} {a b : List Rat} (ha : Ht u a) (hb : Ht v b) (h0 : lead b ≠ 0) : Ht (u + (a.length + 1 - b.length) * (v + 1)) (trim (divL a b).2) := by
  obtain ⟨D, d1, d2, d3⟩ := ha
  have := divGo_ht hb h0 (t := a.length + 1 - b.length) (u := u) (r := a) (f := List.replicate (a.length + 1 - b.length) 0) ⟨D, d1, d2, d3, bdl_rep⟩
  obtain ⟨E, e1, e2, e3, e4⟩ := this
  exact Ht.trim ⟨E, e1, e2, e4⟩
theorem QQ_eq (h : Nice A S) : QQ A S = trim (divL (pa A S) (G1 A S)).2 := by
  obtain ⟨t, n, l, u, v, g⟩ := G1_ok h
  obtain ⟨u1, u2, u3, u4, u5⟩ := unitA h
  obtain ⟨g1, g2, g3, _⟩ := GG_ok h
  have e1 := (div_exact g2 g3 g1.l).1
  have e2 := (div_exact t n g.l).1
  refine tr_ext (tr_trim _) (tr_trim _) fun x => ?_
  refine cancel (d := GG A S) (nz_of g2 g3) (fun y => ?_) x
  rw [← e1 y, sqr_fac h, ev_mulP, e2 y, ev_mulP]
  grind
theorem QQ_ok (h : Nice A S) : Tr (QQ A S) ∧ QQ A S ≠ [] ∧ (QQ A S).length ≤ 6 ∧ Ht 291 (QQ A S) ∧ Ht (h2 (QQ A S).length) (QQ A S) ∧ ∀ x, ev (sqr A S) x = ev (QQ A S) x * ev (GG A S) x := by
  obtain ⟨t, n, l, u, v, g⟩ := G1_ok h
  obtain ⟨p1, p2, p3⟩ := pa_len h
  obtain ⟨g1, g2, g3, _⟩ := GG_ok h
  have e1 := (div_exact g2 g3 g1.l).1
  have e2 := (div_exact t n g.l).1
  have tq : Tr (QQ A S) := tr_trim _
  have nq : QQ A S ≠ [] := fun z => sq_nz h fun x => by
    rw [e1, show trim (divL (sqr A S) (GG A S)).2 = [] from z]
    show 0 * _ = _
    grind
  have np := List.length_pos_iff.mpr n
  have qp := List.length_pos_iff.mpr nq
  have len : (pa A S).length = (QQ A S).length + (G1 A S).length - 1 := by
    rw [← (mulP_len (tq.lead nq) (t.lead n) nq n).1]
    congr 1
    refine tr_ext tr_mulP tr_mulP fun x => ?_
    rw [ev_mulP, e2, ← QQ_eq h]
  have hh : Ht (7 + (QQ A S).length * (h3 (G1 A S).length + 1)) (QQ A S) := by
    have z := quo_ht ((pa_ib h).ht (u := 7) (by decide)) (G1_ht h) (t.lead n)
    have e : (pa A S).length + 1 - (G1 A S).length = (QQ A S).length := by omega
    rw [e, ← QQ_eq h] at z
    exact z
  have tab : ∀ t g, t ≤ 6 → g ≤ 6 → 0 < t ∧ 0 < g ∧ t + g ≤ 7 → 7 + t * (h3 g + 1) ≤ 291 ∧ 7 + t * (h3 g + 1) ≤ h2 t := fin77 (P := fun t g => 0 < t ∧ 0 < g ∧ t + g ≤ 7 → 7 + t * (h3 g + 1) ≤ 291 ∧ 7 + t * (h3 g + 1) ≤ h2 t) (by decide +kernel)
  obtain ⟨b1, b2⟩ := tab (QQ A S).length (G1 A S).length (by omega) u ⟨qp, np, by omega⟩
  exact ⟨tq, nq, by omega, hh.mono b1, hh.mono b2, e1⟩
abbrev FF (A S : List Rat) : List Rat := unitL (QQ A S)
theorem FF_ok (h : Nice A S) : Flat A S (FF A S) := by
  obtain ⟨t, n, l, u, v, e⟩ := QQ_ok h
  have le := t.lead n
  refine ⟨unitL_tr t, fun z => n (unitL_nil.mp z), lead_unitL le n, unitL_ht u (.inr le), by rw [unitL_len]; exact unitL_ht v (.inr le), by rw [unitL_len]; exact l, ?_⟩
  refine ⟨(GG A S).map fun y => y * lead (QQ A S), (GG_ok h).1.scale le fun x => ev_map_mul, fun x => ?_⟩
  rw [e, ev_unitL, ev_map_mul]
  grind
theorem cst_unit {D : List Rat} (t : Tr D) (n : D ≠ []) (c : Cst D) : unitL D = [1] := by
  have l := lead_unitL (t.lead n) n
  have ll : (unitL D).length = 1 := by
    rw [unitL_len]
    have := List.length_pos_iff.mpr n
    unfold Cst at c
    rw [t] at c
    omega
  match q : unitL D, ll with
  | [c], _ =>
    rw [q] at l
    have : c = 1 := l
    rw [this]
theorem Flat.derht {F : List Rat} (f : Flat A S F) : Ht 294 (trim (dT F)) := (dT_ht f.ht (by have := f.len; omega)).trim
theorem Flat.way {F : List Rat} (f : Flat A S F) : Pair2 h2 300 6 F (trim (dT F)) := by
  have fl := f.len
  have fp := List.length_pos_iff.mpr f.n
  have tl := trim_len (dT F)
  rw [dT_len] at tl
  refine ⟨f.t, tr_trim _, f.ht2, ?_, f.len, by omega⟩
  unfold vb
  split
  · exact f.derht.mono (by decide)
  · rename_i c
    have e : ∀ l, l ≤ 6 → 3 ≤ l → h2 l + 3 ≤ h2 (l - 1) := fin7 (P := fun l => 3 ≤ l → h2 l + 3 ≤ h2 (l - 1)) (by decide +kernel)
    exact ((dT_ht f.ht2 (by omega)).trim).mono (e _ fl (by omega))
theorem Flat.sqfree {F : List Rat} (h : Nice A S) (f : Flat A S F) : unitL (eucl (trim (dT F)).length F (trim (dT F))) = [1] := by
  obtain ⟨o, t1, _⟩ := (tb2_way T2 (by decide)).eucl (t := (trim (dT F)).length) f.way
  have g := (eucl_gcd (t := (trim (dT F)).length) (p := F) (o := trim (dT F)) (tr_trim _) (Nat.le_refl _)).extr (q := dl F) fun x => by rw [ev_trim, ev_dT]
  obtain ⟨G, hG, e⟩ := f.g
  refine cst_unit t1 (fun z => ?_) (sqf (sq_nz h) hG e g)
  refine g.l.nz (nz_of f.t f.n) fun x => ?_
  rw [show eucl (trim (dT F)).length F (trim (dT F)) = [] from z]; rfl
theorem Flat.dv {F : List Rat} (f : Flat A S F) : Dv F (sqr A S) := by
  obtain ⟨G, hG, e⟩ := f.g
  exact ⟨G, fun x => by rw [e]; grind⟩
theorem Flat.rest {F : List Rat} (f : Flat A S F) : trim (divL (sqr A S) F).1 = [] := rest_nil f.t f.n f.dv
theorem Flat.power {F : List Rat} (h : Nice A S) (f : Flat A S F) : trim (divL (pwL F (sqr A S).length) (unitL (sqr A S))).1 = [] := by
  have ts : Tr (sqr A S) := tr_mulP
  have ns := (sqr_len h).2.1
  obtain ⟨G, hG, e⟩ := f.g
  have dv : Dv (unitL (sqr A S)) (sqr A S) := by
    refine ⟨[lead (sqr A S)], fun x => ?_⟩
    have := ts.lead ns
    rw [ev_unitL, ev_one]
    grind
  refine rest_nil (unitL_tr ts) (fun z => ns (unitL_nil.mp z)) ((rad (sq_nz h) hG e _ _ ?_ dv).ext fun x => ev_pwL)
  rw [unitL_tr ts, unitL_len]
  exact Nat.le_refl _
end
end PI
/-! Q23: what the law over polynomials calls, in handy forms. -/
namespace PI
open PySem

/-- the numbers of the defs, as the law over polynomials has them -/
structure Lib (P : Nat → Option FD) (gv : Nat → AV) : Prop where
  po : PolyOk P gv 0 1 0 2 3 4 5 12 17 16 7 0 1
  cnt : P 6 = some (F_isCount 0)
  trm : P 8 = some (F_term 0)
  opp : P 9 = some F_opp
  padd : P 10 = some (F_padd 7 3 8)
  pmin : P 11 = some (F_pmin 10 9)
  shift : P 13 = some (F_shifted 0)
  ptim : P 14 = some (F_ptimes 0 3 4 7)
  tpow : P 15 = some (F_toPower 6 0 1 14)
  comm : P 18 = some (F_common 17 16)
  valat : P 19 = some (F_valueAt 0 3 4)
  der : P 20 = some (F_derived 4 7)
  sqf : P 21 = some (F_sqfree 17 16 18 20)
  low : P 22 = some (F_lowest 0 0)
  turn : P 23 = some (F_turned 7)
  bag : P 24 = some F_lbag
  take : P 25 = some F_take
  alike : P 26 = some F_alike
  gcd : P 27 = some F_lgcd
  frac : P 28 = some (F_lfrac 27)
  ltrim : P 29 = some F_ltrim
  lpadd : P 30 = some (F_lpadd 29)
  lpneg : P 31 = some F_lpneg
  lpmul : P 32 = some (F_lpmul 29)
  lpoly : P 33 = some (F_lpoly 29)
  lints : P 34 = some (F_lints 25 29)
  lmade : P 35 = some (F_lmade 28)
/-- short, and small enough -/
structure HL (u : Nat) (p : List Rat) : Prop where
  h : Ht u p
  l : p.length ≤ 200
theorem HL.fit {u : Nat} {p : List Rat} (h : HL u p) (hu : u < fitB) : FitL p := ⟨Nat.le_trans h.l (by decide), h.h.fit hu⟩
theorem HL.neg {u : Nat} {p : List Rat} (h : HL u p) : HL u (p.map fun a => -a) := by
  obtain ⟨⟨D, h1, h2, h3⟩, l⟩ := h
  refine ⟨⟨D, h1, h2, fun c hc => ?_⟩, by rw [List.length_map]; exact l⟩
  rw [List.mem_map] at hc
  obtain ⟨a, ha, rfl⟩ := hc
  exact (h3 a ha).neg
/-! ### texts -/
def SmP (p : List Rat) : Prop := p.length ≤ 200 ∧ ∀ q ∈ p, q.num.natAbs < 10 ^ 20 ∧ q.den < 10 ^ 20
theorem small_fr {q : Rat} (h : q.num.natAbs < 10 ^ 20) (g : q.den < 10 ^ 20) : smallV (fr q) = true := by
  show (decide (q.num.natAbs < 10 ^ 20) && (decide ((q.den : Int).natAbs < 10 ^ 20) && true)) = true
  rw [decide_eq_true h, decide_eq_true (show (q.den : Int).natAbs < 10 ^ 20 from g)]; rfl
theorem small_frs : ∀ {p : List Rat}, (∀ q ∈ p, q.num.natAbs < 10 ^ 20 ∧ q.den < 10 ^ 20) → smallVs (frs p) = true
  | [], _ => rfl
  | a :: p, h => by
    show (smallV (fr a) && smallVs (frs p)) = true
    rw [small_fr (h a (by simp)).1 (h a (by simp)).2, small_frs fun q hq => h q (by simp [hq])]; rfl
theorem tbs_frs : ∀ {p : List Rat}, tbs (frs p) = 51 * p.length
  | [] => rfl
  | a :: p => by
    show 49 + 2 + tbs (frs p) = 51 * (p.length + 1)
    rw [tbs_frs]; omega
theorem SmP.small {p : List Rat} (h : SmP p) : smallV (pv p) = true := small_frs h.2
theorem SmP.tb {p : List Rat} (h : SmP p) : PI.tb (pv p) ≤ 20000 := by
  show tbs (frs p) + 3 ≤ _
  rw [tbs_frs]
  have := h.1
  omega
theorem dV_isSeq {p : List Rat} : isSeqD (dV (pv p)) = true := rfl
theorem pv_depth {p : List Rat} : (dV (pv p)).depth ≤ 2 := (num_ok (pv_num p)).2.2.1
theorem Bd.small {D M : Nat} {c : Rat} (hD : 0 < D) (h : Bd D M c) : c.num.natAbs ≤ M ∧ c.den ≤ D := by
  obtain ⟨z, e, hz⟩ := h
  have hc : c = Rat.divInt z (D : Int) := by
    rw [Rat.divInt_eq_div, ← e]
    have := natCast_ne hD
    have e2 : ((D : Int) : Rat) = (D : Rat) := rfl
    rw [e2]
    grind
  have nz : (D : Int) ≠ 0 := by omega
  have q := made_num (over := z) nz
  have hp : (0 : Int) < (D : Int) := by omega
  rw [if_pos hp, Int.one_mul, Int.one_mul, ← hc] at q
  constructor
  · rw [← q.1]
    refine Nat.le_trans ?_ hz
    rw [Int.fdiv_eq_ediv_of_nonneg _ (Int.natCast_nonneg _)]
    rw [Int.natAbs_ediv_of_dvd (Int.ofNat_dvd_left.mpr (Nat.gcd_dvd_left _ _))]
    exact Nat.div_le_self _ _
  · have h2 := q.2
    rw [Int.fdiv_eq_ediv_of_nonneg _ (Int.natCast_nonneg _)] at h2
    have : ((c.den : Int)) ≤ (D : Int) := by
      rw [← h2]
      exact Int.ediv_le_self _ (by omega)
    omega
theorem BdL.smp {D M : Nat} {p : List Rat} (h : BdL D M p) (hD : 0 < D) (h1 : D < 10 ^ 20) (h2 : M < 10 ^ 20) (hl : p.length ≤ 200) : SmP p :=
  ⟨hl, fun q hq => ⟨Nat.lt_of_le_of_lt ((h q hq).small hD).1 h2, Nat.lt_of_le_of_lt ((h q hq).small hD).2 h1⟩⟩
section
variable {P : Nat → Option FD} {gv : Nat → AV} {sb : Nat → Nat → Option Bool} {m : Mem} (L : Lib P gv)
include L
theorem Lib.aPv {p : List Rat} (h : SmP p) : callE P gv sb 11 26 [pv p, pv p] m = .ok (.bl true) m :=
  alike_ok L.alike h.small rfl (Nat.le_trans pv_depth (by decide)) (Nat.le_trans h.tb (by decide))
theorem Lib.aPv3 {p q r : List Rat} (h : SmP p) (g : SmP q) (f : SmP r) : callE P gv sb 11 26 [.frl [pv p, pv q, pv r], .frl [pv p, pv q, pv r]] m = .ok (.bl true) m := by
  refine alike_ok L.alike ?_ rfl ?_ ?_
  · show (smallV (pv p) && (smallV (pv q) && (smallV (pv r) && true))) = true
    rw [h.small, g.small, f.small]; rfl
  · have a := pv_depth (p := p)
    have b := pv_depth (p := q)
    have c := pv_depth (p := r)
    show max (dV (pv p)).depth (max (dV (pv q)).depth (max (dV (pv r)).depth 0)) + 1 ≤ 64
    omega
  · have a := h.tb
    have b := g.tb
    have c := f.tb
    have e : tb (.frl [pv p, pv q, pv r]) = (tb (pv p) + 2 + (tb (pv q) + 2 + (tb (pv r) + 2 + 0))) + 2 := rfl
    rw [e]
    unfold sizeLine
    omega
theorem Lib.plus {u v : Nat} {p q : List Rat} (hp : HL u p) (hq : HL v q) (hu : u < fitB) (hv : v < fitB) : callE P gv sb 11 10 [pv p, pv q] m = .ok (pv (trim (addL p q))) m :=
  padd_ok (n := 7) L.padd L.po.f L.po.tr L.trm L.po.g0 (hp.fit hu) (hq.fit hv)
theorem Lib.minus {u v : Nat} {p q : List Rat} (hp : HL u p) (hq : HL v q) (hu : u < fitB) (hv : v < fitB) : callE P gv sb 11 11 [pv p, pv q] m = .ok (pv (trim (addL p (q.map fun a => -a)))) m :=
  pmin_ok (n := 9) L.pmin (opp_ok L.opp (Nat.le_trans hq.l (by decide))) (padd_ok (n := 6) L.padd L.po.f L.po.tr L.trm L.po.g0 (hp.fit hu) (hq.neg.fit hv))
theorem Lib.times {u v : Nat} {p q : List Rat} (cl : Cl m) (hp : HL u p) (hq : HL v q) (hu : u + v + 10 ≤ fitB) : callE P gv sb 11 14 [pv p, pv q] m = .ok (pv (mulP p q)) m :=
  ptimes_ok (n := 7) L.ptim L.po.f L.po.g0 L.po.tr cl hp.h hq.h hp.l hq.l hu
theorem Lib.div {u v : Nat} {p q : List Rat} (cl : Cl m) (hp : HL u p) (hq : HL v q) (tq : Tr q) (nq : q ≠ []) (hu : u + (p.length + 1 - q.length) * (v + 1) < fitB) : callE P gv sb 11 16 [pv p, pv q] m = .ok (.tup [pv (trim (divL p q).2), pv (trim (divL p q).1)]) m :=
  L.po.divided (n := 7) cl ⟨⟨u, v, hp.h, hq.h, hu⟩, Nat.le_trans hp.l (by decide), Nat.le_trans hq.l (by decide)⟩ (tq.lead nq) nq
theorem Lib.unit {u : Nat} {p : List Rat} (hp : HL u p) (tp : Tr p) (hu : u < fitB) : callE P gv sb 11 17 [pv p] m = .ok (pv (unitL p)) m :=
  L.po.unit (n := 6) hp.h (by
    by_cases z : p = []
    · exact .inl z
    · exact .inr (tp.lead z)) (Nat.le_trans hp.l (by decide)) hu
theorem Lib.dif {u : Nat} {p : List Rat} (hp : HL u p) (hu : u < fitB) : callE P gv sb 11 20 [pv p] m = .ok (pv (trim (dT p))) m :=
  derived_ok (n := 7) L.der L.po.f L.po.tr L.po.g0 (hp.fit hu)
theorem Lib.poly {l : List Int} {v : AV} (hv : lstOf m v = some (iv l)) (hn : l.length ≤ 1000) : callE P gv sb 11 33 [v] m = .ok (pv (trim (cr l))) m :=
  lpoly_ok (n := 9) L.lpoly L.ltrim hv hn
theorem Lib.draw {ex : Mem} {a b c : Int} {cs : List Int} {N : Nat} {many : Int} (h1 : 0 < many) (h2 : many ≤ 1000) (ok : BagOk N a b c cs) (hN : N ≤ 1000000) : ∃ v a' b' c' : Int, BagOk (N + 1) a' b' c' cs ∧ 0 ≤ v ∧ v < many ∧
    callE P gv sb 11 25 [.ref 0, .int many] (bagM ex a b c cs) = .ok (.int v) (bagM ex a' b' c' cs) :=
  take_ok (n := 10) L.take h1 h2 ok hN
theorem Lib.ints {ex : Mem} {a b c : Int} {cs : List Int} {N many : Nat} (hm : many ≤ 9) (ok : BagOk N a b c cs) (hN : N ≤ 900000) : ∃ zs : List Int, zs.length ≤ many ∧ Small zs ∧ ∃ a' b' c' N', N' ≤ N + 11 ∧ BagOk N' a' b' c' cs ∧
    callE P gv sb 11 34 [.ref 0, .int many] (bagM ex a b c cs) = .ok (.frl (iv (trimI zs))) (bagM ex a' b' c' cs) :=
  lints_ok (n := 9) L.lints L.take L.ltrim hm ok hN
end
/-- a list drawn: small, no nought at its end -/
structure Il (n : Nat) (l : List Int) : Prop where
  s : Small l
  t : trimI l = l
  l : l.length ≤ n
theorem trimI_trimI (l : List Int) : trimI (trimI l) = trimI l := by
  have h : cr (trimI (trimI l)) = cr (trimI l) := by rw [cr_trim, cr_trim, trim_trim]
  have inj : ∀ a b : List Int, cr a = cr b → a = b := by
    intro a
    induction a with
    | nil => intro b h; exact (cr_nil.mp h.symm).symm
    | cons x a ih =>
      intro b h
      cases b with
      | nil => exact cr_nil.mp h
      | cons y b =>
        have h : (x : Rat) :: cr a = (y : Rat) :: cr b := h
        injection h with h1 h2
        rw [ih b h2, show x = y by exact_mod_cast h1]
  exact inj _ _ h
theorem trimI_mem : ∀ {l : List Int} {z : Int}, z ∈ trimI l → z ∈ l := by
  intro l z h
  have : (z : Rat) ∈ trim (cr l) := by
    rw [← cr_trim]
    exact List.mem_map.mpr ⟨z, h, rfl⟩
  have := trim_mem this
  obtain ⟨w, hw, e⟩ := List.mem_map.mp this
  have : w = z := by exact_mod_cast e
  exact this ▸ hw
theorem Il.of {n : Nat} {zs : List Int} (hl : zs.length ≤ n) (hs : Small zs) : Il n (trimI zs) :=
  ⟨fun z hz => hs z (trimI_mem hz), trimI_trimI zs, Nat.le_trans (trimI_len zs) hl⟩
theorem Il.tr {n : Nat} {l : List Int} (h : Il n l) : Tr (cr l) := by
  unfold Tr
  rw [← cr_trim, h.t]
theorem cr_ib {M : Nat} {l : List Int} (h : ∀ z ∈ l, z.natAbs ≤ M) : IB M (cr l) := fun c hc => by
  obtain ⟨z, hz, rfl⟩ := List.mem_map.mp hc
  exact ⟨z, by rw [show ((1 : Nat) : Rat) = 1 from rfl, Rat.mul_one], h z hz⟩
theorem Il.ib {n : Nat} {l : List Int} (h : Il n l) : IB 3 (cr l) := cr_ib fun z hz => by
  have := h.s z hz
  omega
theorem Il.hl {n : Nat} {l : List Int} (h : Il n l) (hn : n ≤ 200) : HL 2 (cr l) := ⟨h.ib.ht (by decide), by rw [cr_len]; exact Nat.le_trans h.l hn⟩
theorem Il.nat {n : Nat} {l : List Int} (h : Il n l) : ∀ x ∈ l, x.natAbs < 2 ^ 64 := fun x hx => by
  have := h.s x hx
  omega
end PI
/-! Q24: the law's turn, first part. -/
namespace PI
open PySem

/-! ### what a statement leaves as it was -/
structure Kp (S : List Nat) (env e' : Env') : Prop where
  len : e'.length = env.length
  g : ∀ i, i ∉ S → e'[i]? = env[i]?
theorem Kp.refl {S : List Nat} {env : Env'} : Kp S env env := ⟨rfl, fun _ _ => rfl⟩
theorem Kp.set1 {i : Nat} {env : Env'} {x : Option AV} : Kp [i] env (env.set i x) := ⟨List.length_set, fun j hj => by
  rw [List.getElem?_set_ne]
  intro z
  exact hj (by simp [z])⟩
theorem Kp.trans {S T : List Nat} {e1 e2 e3 : Env'} (h : Kp S e1 e2) (g : Kp T e2 e3) : Kp (S ++ T) e1 e3 := ⟨g.len.trans h.len, fun i hi => by
  rw [List.mem_append, not_or] at hi
  rw [g.g i hi.2, h.g i hi.1]⟩
theorem Kp.sub {S T : List Nat} {e1 e2 : Env'} (h : Kp S e1 e2) (g : ∀ i ∈ S, i ∈ T) : Kp T e1 e2 := ⟨h.len, fun i hi => h.g i fun z => hi (g i z)⟩
theorem Kp.get {S : List Nat} {e1 e2 : Env'} (h : Kp S e1 e2) {i : Nat} {x : Option (Option AV)} (g : e1[i]? = x) (hi : i ∉ S) : e2[i]? = x := by rw [h.g i hi, g]
theorem get_set {i : Nat} {env : Env'} {x : Option AV} (h : i < env.length) : (env.set i x)[i]? = some x := List.getElem?_set_self h
/-- what stands in the names all along a turn -/
structure St (env : Env') (one other third : List Int) : Prop where
  len : env.length = 22
  b : env[1]? = some (some (.ref 0))
  v10 : env[10]? = some (some (.frl (iv one)))
  v11 : env[11]? = some (some (.frl (iv other)))
  v12 : env[12]? = some (some (.frl (iv third)))
  v13 : env[13]? = some (some (pv (cr one)))
  v14 : env[14]? = some (some (pv (cr other)))
  v15 : env[15]? = some (some (pv (cr third)))
theorem St.kp {env e' : Env'} {one other third : List Int} (s : St env one other third) {S : List Nat} (k : Kp S env e') (h : (S.all fun i => decide (i ∉ [1, 10, 11, 12, 13, 14, 15])) = true) : St e' one other third := by
  have n : ∀ i, i ∈ [1, 10, 11, 12, 13, 14, 15] → i ∉ S := fun i hi hs => of_decide_eq_true (List.all_eq_true.mp h i hs) hi
  exact ⟨k.len.trans s.len, k.get s.b (n _ (by decide)), k.get s.v10 (n _ (by decide)), k.get s.v11 (n _ (by decide)), k.get s.v12 (n _ (by decide)), k.get s.v13 (n _ (by decide)), k.get s.v14 (n _ (by decide)), k.get s.v15 (n _ (by decide))⟩
section
variable {P : Nat → Option FD} {gv : Nat → AV} {sb : Nat → Nat → Option Bool} {m : Mem} {env : Env'}
theorem ne_self {k : Nat} {v : AV} (h : num k v = true) (hk : k ≤ 64) : cmpE m .ne v v = some false := by
  show (eqE m v v).map (!·) = _
  rw [eqE_num h h hk hk]
  simp
theorem ne_pv {p q : List Rat} (h : p = q) : cmpE m .ne (pv p) (pv q) = some false := by
  subst h
  exact ne_self (pv_num p) (by decide)
theorem len_pv {p : List Rat} : biE m .len [pv p] = some (.int p.length) := by
  show some (AV.int (frs p).length) = _; rw [frs_len]
theorem ne_ivnil {l : List Int} : cmpE m .ne (.frl (iv l)) (.frl []) = some (decide (l ≠ [])) := by
  show (eqE m _ _).map (!·) = _
  rw [eq_ivnil rfl]
  simp
theorem eqc_ivnil {l : List Int} : cmpE m .eq (.frl (iv l)) (.frl []) = some (decide (l = [])) := eq_ivnil rfl
theorem quo_len {a b : List Rat} : (trim (divL a b).2).length ≤ a.length + 1 - b.length := by
  have h1 := trim_len (divL a b).2
  have h2 := (divGo_len (t := a.length + 1 - b.length) (r := a) (f := List.replicate (a.length + 1 - b.length) 0) (o := b)).2
  rw [List.length_replicate] at h2
  unfold divL at h1 ⊢
  omega
theorem rest_len {a b : List Rat} : (trim (divL a b).1).length ≤ a.length := by
  have h1 := trim_len (divL a b).1
  have h2 := (divGo_len (t := a.length + 1 - b.length) (r := a) (f := List.replicate (a.length + 1 - b.length) 0) (o := b)).1
  unfold divL at h1 ⊢
  omega
theorem nil_iff {n : Nat} {l : List Int} (h : Il n l) : cr l ≠ [] ↔ l ≠ [] := by rw [Ne, cr_nil]
/-! ### the statements -/
def B1 : Sm := .setT [10, 11, 12] (.tup [(.call 34 [.v 1, .int 4]), (.call 34 [.v 1, .int 4]), (.call 34 [.v 1, .int 3])])
def B2 : Sm := .par3 13 14 15 (.call 33 [.v 10]) (.call 33 [.v 11]) (.call 33 [.v 12])
def B3 : Sm := .set 3 (.lst [.call 33 [.call 30 [.v 10, .v 11]], .call 33 [.call 30 [.v 10, .call 31 [.v 11]]], .call 33 [.call 32 [.v 10, .v 11]]])
def B4 : Sm := .ite (.not (.call 26 [.lst [.call 10 [.v 13, .v 14], .call 11 [.v 13, .v 14], .call 14 [.v 13, .v 14]], .v 3])) [.ret (.bl false)] []
def B5 : Sm := .for_ (.nm 4) 0 [.tup [.tup [.v 13, .tup []], .tup [.v 14, .tup []]]] [.tryc [.ex (.call 16 [.sub (.v 4) (.int 0), .sub (.v 4) (.int 1)]),
      .ret (.bl false)] 0 [.pass]]
def B6 : Sm := .ite (.cmp .ne (.v 11) (.lst [])) [.setT [19, 20] (.call 16 [.v 13, .v 14]),
      .ite (.or [.cmp .ne (.call 10 [.call 14 [.v 19, .v 14], .v 20]) (.v 13), .and [.cmp .ge (.bi .len [.v 20]) (.bi .len [.v 14]), .cmp .ne (.v 14) (.tup [])]]) [.ret (.bl false)] [],
      .ite (.cmp .ne (.call 16 [.call 14 [.v 13, .v 14], .v 14]) (.tup [.v 13, .tup []])) [.ret (.bl false)] []] []
theorem blk1 (L : Lib P gv) (he : env.length = 22) (hb : env[1]? = some (some (.ref 0))) {ex : Mem} {a b c : Int} {cs : List Int} {N : Nat} (ok : BagOk N a b c cs) (hN : N ≤ 800000) : ∃ one other third, Il 4 one ∧ Il 4 other ∧ Il 3 third ∧ ∃ a' b' c' N', N' ≤ N + 33 ∧ BagOk N' a' b' c' cs ∧ ∃ e', e'.length = 22 ∧ e'[0]? = env[0]? ∧ e'[1]? = some (some (.ref 0)) ∧ e'[10]? = some (some (.frl (iv one))) ∧ e'[11]? = some (some (.frl (iv other))) ∧ e'[12]? = some (some (.frl (iv third))) ∧
    evS (callE P gv sb 11) gv sb B1 env (bagM ex a b c cs) = .nx e' (bagM ex a' b' c' cs) := by
  obtain ⟨z1, l1, s1, a1, b1, c1, N1, n1, ok1, t1⟩ := L.ints (sb := sb) (ex := ex) (many := 4) (by decide) ok (by omega)
  obtain ⟨z2, l2, s2, a2, b2, c2, N2, n2, ok2, t2⟩ := L.ints (sb := sb) (ex := ex) (many := 4) (by decide) ok1 (by omega)
  obtain ⟨z3, l3, s3, a3, b3, c3, N3, n3, ok3, t3⟩ := L.ints (sb := sb) (ex := ex) (many := 3) (by decide) ok2 (by omega)
  refine ⟨trimI z1, trimI z2, trimI z3, .of l1 s1, .of l2 s2, .of l3 s3, a3, b3, c3, N3, by omega, ok3, ((env.set 10 (some (.frl (iv (trimI z1))))).set 11 (some (.frl (iv (trimI z2))))).set 12 (some (.frl (iv (trimI z3)))), ?_, ?_, ?_, ?_, ?_, ?_, ?_⟩
  · simp [he]
  · simp
  · simp [hb]
  · simp [he]
  · simp [he]
  · simp [he]
  · exact sSetT (rTup (rCons (rCall (rCons (evE_v hb) (rCons rfl rNil)) t1) (rCons (rCall (rCons (evE_v hb) (rCons rfl rNil)) t2) (rCons (rCall (rCons (evE_v hb) (rCons rfl rNil)) t3) rNil))) (by show okLen 3 = true; decide)) rfl
theorem trim_cr {n : Nat} {l : List Int} (h : Il n l) : trim (cr l) = cr l := h.tr
theorem blk2 (L : Lib P gv) {one other third : List Int} (h1 : Il 4 one) (h2 : Il 4 other) (h3 : Il 3 third) (he : env.length = 22) (hb : env[1]? = some (some (.ref 0))) (v10 : env[10]? = some (some (.frl (iv one)))) (v11 : env[11]? = some (some (.frl (iv other)))) (v12 : env[12]? = some (some (.frl (iv third)))) :
    ∃ e', evS (callE P gv sb 11) gv sb B2 env m = .nx e' m ∧ St e' one other third ∧ e'[0]? = env[0]? := by
  have t1 : callE P gv sb 11 33 [.frl (iv one)] m = .ok (pv (cr one)) m := by
    have := L.poly (sb := sb) (m := m) (l := one) (v := .frl (iv one)) rfl (Nat.le_trans h1.l (by decide))
    rw [h1.tr] at this
    exact this
  have t2 : callE P gv sb 11 33 [.frl (iv other)] m = .ok (pv (cr other)) m := by
    have := L.poly (sb := sb) (m := m) (l := other) (v := .frl (iv other)) rfl (Nat.le_trans h2.l (by decide))
    rw [h2.tr] at this
    exact this
  have t3 : callE P gv sb 11 33 [.frl (iv third)] m = .ok (pv (cr third)) m := by
    have := L.poly (sb := sb) (m := m) (l := third) (v := .frl (iv third)) rfl (Nat.le_trans h3.l (by decide))
    rw [h3.tr] at this
    exact this
  refine ⟨((env.set 13 (some (pv (cr one)))).set 14 (some (pv (cr other)))).set 15 (some (pv (cr third))), sPar3 (rCall (rCons (evE_v v10) rNil) t1) (rCall (rCons (evE_v v11) rNil) t2) (rCall (rCons (evE_v v12) rNil) t3), ⟨?_, ?_, ?_, ?_, ?_, ?_, ?_, ?_⟩, ?_⟩
  · simp [he]
  · simp [hb]
  · simp [v10]
  · simp [v11]
  · simp [v12]
  · simp [he]
  · simp [he]
  · simp [he]
  · simp
theorem cr_neg {l : List Int} : cr (l.map fun z => -z) = (cr l).map fun q => -q := by
  unfold cr
  rw [List.map_map, List.map_map]
  refine List.map_congr_left fun z _ => ?_
  show ((-z : Int) : Rat) = -(z : Rat)
  rw [Rat.intCast_neg]
theorem trim_crI {l : List Int} : trim (cr (trimI l)) = trim (cr l) := by rw [cr_trim, trim_trim]
theorem blk3 (L : Lib P gv) {one other third : List Int} (h1 : Il 4 one) (h2 : Il 4 other) (s : St env one other third) {ex : Mem} {a b c : Int} {cs : List Int} (hx : ExOk ex) : ∃ ex', ExOk ex' ∧
    evS (callE P gv sb 11) gv sb B3 env (bagM ex a b c cs) = .nx (env.set 3 (some (.frl [pv (trim (addL (cr one) (cr other))), pv (trim (addL (cr one) ((cr other).map fun q => -q))), pv (mulP (cr one) (cr other))]))) (bagM ex' a b c cs) := by
  have l1 := h1.l
  have l2 := h2.l
  have t1 : callE P gv sb 11 30 [.frl (iv one), .frl (iv other)] (bagM ex a b c cs) = .ok (.frl (iv (trimI (addI one other)))) (bagM ex a b c cs) := lpadd_ok (n := 9) L.lpadd L.ltrim (by omega) (by omega)
  have la : ∀ p q : List Int, p.length ≤ 4 → q.length ≤ 4 → (trimI (addI p q)).length ≤ 1000 := fun p q hp hq => Nat.le_trans (trimI_len _) (by unfold addI; rw [List.length_map, List.length_range]; omega)
  have t2 := L.poly (sb := sb) (m := bagM ex a b c cs) (l := trimI (addI one other)) (v := .frl (iv (trimI (addI one other)))) rfl (la _ _ l1 l2)
  rw [trim_crI, cr_addI] at t2
  have t3 : callE P gv sb 11 31 [.frl (iv other)] (bagM ex a b c cs) = .ok (.frl (iv (other.map fun z => -z))) (bagM ex a b c cs) := lpneg_ok (n := 10) L.lpneg (by omega)
  have t4 : callE P gv sb 11 30 [.frl (iv one), .frl (iv (other.map fun z => -z))] (bagM ex a b c cs) = .ok (.frl (iv (trimI (addI one (other.map fun z => -z))))) (bagM ex a b c cs) := lpadd_ok (n := 9) L.lpadd L.ltrim (by omega) (by rw [List.length_map]; omega)
  have t5 := L.poly (sb := sb) (m := bagM ex a b c cs) (l := trimI (addI one (other.map fun z => -z))) (v := .frl (iv (trimI (addI one (other.map fun z => -z))))) rfl (la _ _ l1 (by rw [List.length_map]; exact l2))
  rw [trim_crI, cr_addI, cr_neg] at t5
  obtain ⟨w, m', t6, hm', hw⟩ := lpmul_ok (gv := gv) (sb := sb) (n := 9) (m := bagM ex a b c cs) (p := one) (q := other) L.lpmul L.ltrim (by omega) (by omega) h1.nat h2.nat (bag_cl hx)
  have lm : (trimI (mulI one other)).length ≤ 1000 := Nat.le_trans (trimI_len _) (by unfold mulI; rw [mulGoI_len, List.length_replicate]; omega)
  have t7 := L.poly (sb := sb) hw lm
  rw [trim_crI, cr_mulI] at t7
  have key : evS (callE P gv sb 11) gv sb B3 env (bagM ex a b c cs) = .nx (env.set 3 (some (.frl [pv (trim (addL (cr one) (cr other))), pv (trim (addL (cr one) ((cr other).map fun q => -q))), pv (mulP (cr one) (cr other))]))) m' :=
    sSet (rLst (rCons (rCall (rCons (rCall (rCons (evE_v s.v10) (rCons (evE_v s.v11) rNil)) t1) rNil) t2) (rCons (rCall (rCons (rCall (rCons (evE_v s.v10) (rCons (rCall (rCons (evE_v s.v11) rNil) t3) rNil)) t4) rNil) t5) (rCons (rCall (rCons (rCall (rCons (evE_v s.v10) (rCons (evE_v s.v11) rNil)) t6) rNil) t7) rNil))) (by show okLen 3 = true; decide))
  rcases hm' with rfl | rfl
  · exact ⟨ex, hx, key⟩
  · refine ⟨ex ++ [AO.lst (iv (mulI one other))], fun o ho => ?_, key⟩
    rcases List.mem_append.mp ho with z | z
    · exact hx o z
    · exact ⟨_, List.mem_singleton.mp z⟩
theorem blk4 (L : Lib P gv) (cl : Cl m) {one other third : List Int} (h1 : Il 4 one) (h2 : Il 4 other) (s : St env one other third) (h3 : env[3]? = some (some (.frl [pv (trim (addL (cr one) (cr other))), pv (trim (addL (cr one) ((cr other).map fun q => -q))), pv (mulP (cr one) (cr other))]))) :
    evS (callE P gv sb 11) gv sb B4 env m = .nx env m := by
  have H1 := h1.hl (by decide)
  have H2 := h2.hl (by decide)
  have l1 : (cr one).length ≤ 4 := by rw [cr_len]; exact h1.l
  have l2 : (cr other).length ≤ 4 := by rw [cr_len]; exact h2.l
  have fb : fitB = 4400 := rfl
  have t1 := L.plus (sb := sb) (m := m) H1 H2 (by omega) (by omega)
  have t2 := L.minus (sb := sb) (m := m) H1 H2 (by omega) (by omega)
  have t3 := L.times (sb := sb) cl H1 H2 (by omega)
  have hn : IB 3 ((cr other).map fun q => -q) := fun x hx => by
    obtain ⟨y, hy, rfl⟩ := List.mem_map.mp hx
    exact (h2.ib y hy).neg
  have la : ∀ p q : List Rat, p.length ≤ 4 → q.length ≤ 4 → (trim (addL p q)).length ≤ 200 := fun p q hp hq => Nat.le_trans (trim_len _) (by unfold addL; rw [List.length_map, List.length_range]; omega)
  have p1 : SmP (trim (addL (cr one) (cr other))) := BdL.smp (D := 1) (M := 6) (fun x hx => (IB.add h1.ib h2.ib) x (trim_mem hx)) (by decide) (by decide) (by decide) (la _ _ l1 l2)
  have p2 : SmP (trim (addL (cr one) ((cr other).map fun q => -q))) := BdL.smp (D := 1) (M := 6) (fun x hx => (IB.add h1.ib hn) x (trim_mem hx)) (by decide) (by decide) (by decide) (la _ _ l1 (by rw [List.length_map]; exact l2))
  have p3 : SmP (mulP (cr one) (cr other)) := BdL.smp (D := 1) (M := 36) (IB.mul (L := 4) h1.ib h2.ib l1) (by decide) (by decide) (by decide) (by have := mulP_le (p := cr one) (q := cr other); omega)
  have t4 := L.aPv3 (sb := sb) (m := m) p1 p2 p3
  exact sIfSkip (rNot (rCall (rCons (rLst (rCons (rCall (rCons (evE_v s.v13) (rCons (evE_v s.v14) rNil)) t1) (rCons (rCall (rCons (evE_v s.v13) (rCons (evE_v s.v14) rNil)) t2) (rCons (rCall (rCons (evE_v s.v13) (rCons (evE_v s.v14) rNil)) t3) rNil))) (by show okLen 3 = true; decide)) (rCons (evE_v h3) rNil)) t4)) rfl
theorem blk5 (L : Lib P gv) (hs : sb 0 0 = some true) {one other third : List Int} (s : St env one other third) : ∃ e', evS (callE P gv sb 11) gv sb B5 env m = .nx e' m ∧ Kp [4] env e' := by
  have body : ∀ (env : Env') (p : List Rat), env.length = 22 → env[4]? = some (some (.tup [pv p, .tup []])) → evSs (callE P gv sb 11) gv sb [.tryc [.ex (.call 16 [.sub (.v 4) (.int 0), .sub (.v 4) (.int 1)]), .ret (.bl false)] 0 [.pass]] env m = .nx env m := by
    intro env p he h4
    have t : callE P gv sb 11 16 [pv p, .tup []] m = .exc 0 [] m := divided_nil (n := 10) L.po.d
    have e1 : evSs (callE P gv sb 11) gv sb [.ex (.call 16 [.sub (.v 4) (.int 0), .sub (.v 4) (.int 1)]), .ret (.bl false)] env m = .exc 0 [] env m :=
      bExc (sExX (rCallX (rCons (rSub (i := 0) (evE_v h4) rfl rfl) (rCons (rSub (i := 1) (evE_v h4) rfl rfl) rNil)) t))
    have e2 : evS (callE P gv sb 11) gv sb (.tryc [.ex (.call 16 [.sub (.v 4) (.int 0), .sub (.v 4) (.int 1)]), .ret (.bl false)] 0 [.pass]) env m = .nx env m := by
      show tryR sb 0 (fun env m => evSs (callE P gv sb 11) gv sb [.pass] env m) (evSs (callE P gv sb 11) gv sb [.ex (.call 16 [.sub (.v 4) (.int 0), .sub (.v 4) (.int 1)]), .ret (.bl false)] env m) = _
      rw [e1]
      show (match sb 0 0 with
        | some true => evSs (callE P gv sb 11) gv sb [.pass] env m
        | some false => .exc 0 [] env m
        | none => .bad) = _
      rw [hs]
      rfl
    exact bNx e2 rfl
  refine ⟨(env.set 4 (some (.tup [pv (cr one), .tup []]))).set 4 (some (.tup [pv (cr other), .tup []])), ?_, (Kp.set1.trans Kp.set1).sub (by decide)⟩
  refine (for_ok (ss := [.tup [.tup [pv (cr one), .tup []], .tup [pv (cr other), .tup []]]]) (xs := [.tup [pv (cr one), .tup []], .tup [pv (cr other), .tup []]]) (rCons (rTup (rCons (rTup (rCons (evE_v s.v13) (rCons (rTup rNil okLen_nil) rNil)) (by show okLen 2 = true; decide)) (rCons (rTup (rCons (evE_v s.v14) (rCons (rTup rNil okLen_nil) rNil)) (by show okLen 2 = true; decide)) rNil)) (by show okLen 2 = true; decide)) rNil) rfl).trans ?_
  rw [for_cons (e2 := env.set 4 (some (.tup [pv (cr one), .tup []]))) rfl (body _ (cr one) (by simp [s.len]) (by simp [s.len]))]
  rw [for_cons (e2 := (env.set 4 (some (.tup [pv (cr one), .tup []]))).set 4 (some (.tup [pv (cr other), .tup []]))) rfl (body _ (cr other) (by simp [s.len]) (by simp [s.len]))]
  rfl
theorem blk6 (L : Lib P gv) (cl : Cl m) {one other third : List Int} (h1 : Il 4 one) (h2 : Il 4 other) (s : St env one other third) : ∃ e', evS (callE P gv sb 11) gv sb B6 env m = .nx e' m ∧ Kp [19, 20] env e' := by
  by_cases no : other = []
  · exact ⟨env, sIfSkip (rCmp (evE_v s.v11) (rLst rNil okLen_nil) (by rw [ne_ivnil, decide_eq_false (by simpa using no)])) rfl, .refl⟩
  · have H1 := h1.hl (by decide)
    have H2 := h2.hl (by decide)
    have l1 : (cr one).length ≤ 4 := by rw [cr_len]; exact h1.l
    have l2 : (cr other).length ≤ 4 := by rw [cr_len]; exact h2.l
    have fb : fitB = 4400 := rfl
    have nB : cr other ≠ [] := (nil_iff h2).mpr no
    have tB := h2.tr
    have le := tB.lead nB
    generalize hA : cr one = A at *
    generalize hB : cr other = B at *
    have tA : Tr A := by rw [← hA]; exact h1.tr
    obtain ⟨d1, d2⟩ := divL_ok (p := A) le (List.length_pos_iff.mpr nB)
    have bm : (A.length + 1 - B.length) * (2 + 1) ≤ 5 * 3 := Nat.mul_le_mul_right _ (by omega)
    have t1 := L.div (sb := sb) cl H1 H2 tB nB (by omega)
    have q1 : HL 17 (trim (divL A B).2) := ⟨(quo_ht H1.h H2.h le).mono (by omega), by have := quo_len (a := A) (b := B); omega⟩
    have r1 : HL 17 (trim (divL A B).1) := ⟨(rest_ht H1.h H2.h le).mono (by omega), by have := rest_len (a := A) (b := B); omega⟩
    have t2 := L.times (sb := sb) cl q1 H2 (by omega)
    have lq := mulP_le (p := trim (divL A B).2) (q := B)
    have lq2 := quo_len (a := A) (b := B)
    have m1 : HL 28 (mulP (trim (divL A B).2) B) := ⟨(mulP_ht q1.h H2.h (by omega)).mono (by omega), by omega⟩
    have t3 := L.plus (sb := sb) (m := m) m1 r1 (by omega) (by omega)
    have e3 : trim (addL (mulP (trim (divL A B).2) B) (trim (divL A B).1)) = A := tr_ext (tr_trim _) tA fun x => by rw [ev_trim, ev_addL, ev_mulP, d1]
    rw [e3] at t3
    have t4 := L.times (sb := sb) cl H1 H2 (by omega)
    have lm := mulP_le (p := A) (q := B)
    have m2 : HL 13 (mulP A B) := ⟨(mulP_ht H1.h H2.h (by omega)).mono (by omega), by omega⟩
    have bm2 : ((mulP A B).length + 1 - B.length) * (2 + 1) ≤ 8 * 3 := Nat.mul_le_mul_right _ (by omega)
    have t5 := L.div (sb := sb) cl m2 H2 tB nB (by omega)
    obtain ⟨x1, x2⟩ := div_exact (p := mulP A B) tB nB ((Dv.refl B).mul_left A)
    have e5 : trim (divL (mulP A B) B).2 = A := tr_ext (tr_trim _) tA fun x => cancel (d := B) (nz_of tB nB) (fun y => by rw [← x1 y, ev_mulP]) x
    rw [e5, x2] at t5
    have k : Kp [19, 20] env ((env.set 19 (some (pv (trim (divL A B).2)))).set 20 (some (pv (trim (divL A B).1)))) := Kp.set1.trans Kp.set1
    have g19 : ((env.set 19 (some (pv (trim (divL A B).2)))).set 20 (some (pv (trim (divL A B).1))))[19]? = some (some (pv (trim (divL A B).2))) := by simp [s.len]
    have g20 : ((env.set 19 (some (pv (trim (divL A B).2)))).set 20 (some (pv (trim (divL A B).1))))[20]? = some (some (pv (trim (divL A B).1))) := by simp [s.len]
    have g13 := k.get s.v13 (by decide)
    have g14 := k.get s.v14 (by decide)
    have v13 := s.v13
    have v14 := s.v14
    rw [hA] at g13 v13
    rw [hB] at g14 v14
    refine ⟨(env.set 19 (some (pv (trim (divL A B).2)))).set 20 (some (pv (trim (divL A B).1))), ?_, k⟩
    refine (sIteT (rCmp (evE_v s.v11) (rLst rNil okLen_nil) (by rw [ne_ivnil, decide_eq_true no]))).trans ?_
    have c2 : cmpE m .ge (.int (trim (divL A B).1).length) (.int B.length) = some false := by
      show some (decide (_ ≤ _)) = _
      rw [decide_eq_false (by omega)]
    have c3 : cmpE m .ne (.tup [pv A, pv []]) (.tup [pv A, .tup []]) = some false := ne_self (k := 3) (v := .tup [pv A, pv []]) (by
      show (num 2 (pv A) && (num 2 (pv []) && true)) = true
      rw [pv_num, pv_num]; rfl) (by decide)
    refine bNx (e1 := (env.set 19 (some (pv (trim (divL A B).2)))).set 20 (some (pv (trim (divL A B).1)))) (m1 := m) (sSetT (rCall (rCons (evE_v v13) (rCons (evE_v v14) rNil)) t1) rfl) (bNx (e1 := (env.set 19 (some (pv (trim (divL A B).2)))).set 20 (some (pv (trim (divL A B).1)))) (m1 := m) ?_ (bNx (e1 := (env.set 19 (some (pv (trim (divL A B).2)))).set 20 (some (pv (trim (divL A B).1)))) (m1 := m) ?_ rfl))
    · exact sIfSkip (rOrF (rCmp (rCall (rCons (rCall (rCons (evE_v g19) (rCons (evE_v g14) rNil)) t2) (rCons (evE_v g20) rNil)) t3) (evE_v g13) (ne_pv rfl)) (rOr1 (rAndF (rCmp (rBi (rCons (evE_v g20) rNil) len_pv) (rBi (rCons (evE_v g14) rNil) len_pv) c2)))) rfl
    · exact sIfSkip (rCmp (rCall (rCons (rCall (rCons (evE_v g13) (rCons (evE_v g14) rNil)) t4) (rCons (evE_v g14) rNil)) t5) (rTup (rCons (evE_v g13) (rCons (rTup rNil okLen_nil) rNil)) (by show okLen 2 = true; decide)) c3) rfl
end
end PI
/-! Q25: the law's turn, second part: what is common, what is squarefree. -/
namespace PI
open PySem

def B7 : Sm := .set 5 (.call 18 [.call 14 [.v 13, .v 15], .call 14 [.v 14, .v 15]])
def B8 : Sm := .ite (.or [.and [.cmp .eq (.v 10) (.lst []), .cmp .eq (.v 11) (.lst [])], .cmp .eq (.v 12) (.lst [])]) [.ite (.cmp .ne (.v 5) (.tup [])) [.ret (.bl false)] []] [.ite (.or [.cmp .ne (.sub (.v 5) (.neg (.int 1))) (.tup [.int 1, .int 1]), .cmp .ne (.sub (.call 16 [.call 14 [.v 13, .v 15], .v 5]) (.int 1)) (.tup []), .cmp .ne (.sub (.call 16 [.call 14 [.v 14, .v 15], .v 5]) (.int 1)) (.tup [])]) [.ret (.bl false)] [],
      .ite (.or [.cmp .ne (.sub (.call 16 [.v 5, .call 17 [.v 15]]) (.int 1)) (.tup []), .not (.call 26 [.call 17 [.v 15], .call 35 [.v 12]])]) [.ret (.bl false)] []]
def B9 : Sm := .set 6 (.call 14 [.call 14 [.v 13, .v 13], .v 15])
def B10 : Sm := .ite (.cmp .ne (.v 6) (.tup [])) [.set 16 (.call 21 [.v 6]),
      .ite (.or [.cmp .ne (.call 18 [.v 16, .call 20 [.v 16]]) (.tup [.tup [.int 1, .int 1]]), .cmp .ne (.sub (.call 16 [.v 6, .v 16]) (.int 1)) (.tup []), .cmp .ne (.sub (.call 16 [.call 15 [.v 16, .bi .len [.v 6]], .call 17 [.v 6]]) (.int 1)) (.tup [])]) [.ret (.bl false)] []] []
def h4 : Nat → Nat
  | 0 => 144 | 1 => 59 | 2 => 24 | 3 => 9 | _ => 4
theorem fin55 {P : Nat → Nat → Prop} (h : ∀ i, i < 5 → ∀ j, j < 5 → P i j) : ∀ i j, i ≤ 4 → j ≤ 4 → P i j := fun i j hi hj => h i (by omega) j (by omega)
theorem T4 : Tab h4 4 2 4 where
  anti i j hij hj := fin55 (P := fun i j => i ≤ j → h4 j ≤ h4 i) (by decide +kernel) i j (by omega) hj hij
  one := by decide
  two la lb a b c := fin55 (P := fun la lb => 0 < lb → 4 + (la + 1 - lb) * (4 + 1) ≤ h4 (lb - 1)) (by decide +kernel) la lb a c b
  step la lb a b c := fin55 (P := fun la lb => 0 < lb → lb < la → h4 la + (la + 1 - lb) * (h4 (la - 1) + 1) ≤ h4 (lb - 1)) (by decide +kernel) la lb a (by omega) b c
  div la lb a b c := fin55 (P := fun la lb => 0 < lb → lb < la → (2 + h4 la + 9) + (la + 1 - lb) * ((2 + h4 (la - 1) + 9) + 1) < fitB) (by decide +kernel) la lb a (by omega) b c
  div1 la lb a b c := fin55 (P := fun la lb => 0 < lb → (2 + 4 + 9) + (la + 1 - lb) * ((2 + 4 + 9) + 1) < fitB) (by decide +kernel) la lb a c b
  top := by decide +kernel
/-- what is common of A S and B S -/
structure Both (A B S G : List Rat) : Prop where
  t : Tr G
  n : G ≠ []
  l : lead G = 1
  h : HL 155 G
  d1 : Dv G (mulP A S)
  d2 : Dv G (mulP B S)
  d3 : Dv (unitL S) G
section
variable {P : Nat → Option FD} {gv : Nat → AV} {sb : Nat → Nat → Option Bool} {m : Mem} {env : Env'}
theorem both_fac {A S : List Rat} (tS : Tr S) (nS : S ≠ []) : mulP A S = mulP (unitL S) (mulP [lead S] A) := by
  refine tr_ext tr_mulP tr_mulP fun x => ?_
  have := tS.lead nS
  rw [ev_mulP, ev_mulP, ev_unitL, ev_mulP, ev_one]
  grind
theorem common_both (L : Lib P gv) (cl : Cl m) {A B S : List Rat} (bA : IB 3 A) (bB : IB 3 B) (bS : IB 3 S) (tA : Tr A) (tB : Tr B) (tS : Tr S) (nS : S ≠ []) (lA : A.length ≤ 4) (lB : B.length ≤ 4) (lS : S.length ≤ 3) :
    ∃ G, callE P gv sb 11 18 [pv (mulP A S), pv (mulP B S)] m = .ok (pv G) m ∧ (A = [] → B = [] → G = []) ∧ (¬ (A = [] ∧ B = []) → Both A B S G) := by
  have lS0 := tS.lead nS
  have b1 : IB 3 [lead S] := fun c hc => by
    rw [List.mem_singleton.mp hc]
    exact bS _ (lead_mem nS)
  have a1 : Ht 4 (mulP [lead S] A) := (IB.mul (L := 1) b1 bA (by simp)).ht (by decide)
  have a2 : Ht 4 (mulP [lead S] B) := (IB.mul (L := 1) b1 bB (by simp)).ht (by decide)
  have c1 : (mulP [lead S] A).length ≤ 4 := by have := mulP_le (p := [lead S]) (q := A); simp at this; omega
  have c2 : (mulP [lead S] B).length ≤ 4 := by have := mulP_le (p := [lead S]) (q := B); simp at this; omega
  have pr : Pair h4 4 4 (mulP [lead S] A) (mulP [lead S] B) := ⟨tr_mulP, tr_mulP, .inl ⟨a1, a2, c1, c2⟩⟩
  have tC : Tr (unitL S) := unitL_tr tS
  have nC : unitL S ≠ [] := fun z => nS (unitL_nil.mp z)
  have lC := lead_unitL lS0 nS
  have hC : Ht 2 (unitL S) := unitL_ht (bS.ht (by decide)) (.inr lS0)
  have cC : (unitL S).length ≤ 3 := by rw [unitL_len]; exact lS
  have W := tab_way T4 (by decide)
  have key := W.common (n := 5) (sb := sb) (m := m) L.comm L.po cl tC nC lC hC (by omega) pr
  rw [← both_fac tS nS, ← both_fac tS nS] at key
  refine ⟨_, key, fun za zb => ?_, fun nz => ?_⟩
  · subst za zb
    rw [mulP_nil_right]
    show mulP (unitL S) (unitL []) = []
    exact mulP_nil_right
  · obtain ⟨o, tE, to, pE⟩ := W.eucl (t := (mulP [lead S] B).length) pr
    have g := eucl_gcd (t := (mulP [lead S] B).length) (p := mulP [lead S] A) (o := mulP [lead S] B) tr_mulP (Nat.le_refl _)
    generalize hE : PI.eucl (mulP [lead S] B).length (mulP [lead S] A) (mulP [lead S] B) = E at *
    have nE : E ≠ [] := by
      intro z
      have z1 : ∀ {X : List Rat}, Tr X → Dv E (mulP [lead S] X) → X = [] := fun {X} tX d => Classical.byContradiction fun nX => by
        have nx := nz_of tX nX
        refine d.nz (fun y => nx fun x => ?_) fun x => by rw [z]; rfl
        have := y x
        rw [ev_mulP, ev_one] at this
        rcases Rat.mul_eq_zero.mp this with w | w
        · exact absurd w lS0
        · exact w
      exact nz ⟨z1 tA g.l, z1 tB g.r⟩
    have hE0 : Ht 144 E ∧ E.length ≤ 4 := by
      rcases pE with ⟨ha, hb, la, lb⟩ | ⟨ha, hb, la, lb⟩
      · exact ⟨ha.mono (by decide), la⟩
      · exact ⟨ha.mono (T4.anti _ _ (Nat.zero_le _) la), la⟩
    have lE := tE.lead nE
    have tU : Tr (unitL E) := unitL_tr tE
    have nU : unitL E ≠ [] := fun z => nE (unitL_nil.mp z)
    have lU := lead_unitL lE nE
    have cU : (unitL E).length ≤ 4 := by rw [unitL_len]; exact hE0.2
    obtain ⟨ml, mlead⟩ := mulP_len (tC.lead nC) (tU.lead nU) nC nU
    have G := (g.unit tE nE).fac (unitL S)
    rw [← both_fac tS nS, ← both_fac tS nS] at G
    have p1 := List.length_pos_iff.mpr nC
    have p2 := List.length_pos_iff.mpr nU
    have hU : Ht 144 (unitL E) := unitL_ht hE0.1 (.inr lE)
    have hG : HL 155 (mulP (unitL S) (unitL E)) := ⟨(mulP_ht hC hU (by omega)).mono (by omega), by omega⟩
    have ld : lead (mulP (unitL S) (unitL E)) = 1 := by rw [mlead, lC, lU, Rat.one_mul]
    have nG : mulP (unitL S) (unitL E) ≠ [] := fun z => by
      rw [z] at ml
      simp at ml
      omega
    have dd : Dv (unitL S) (mulP (unitL S) (unitL E)) := ⟨unitL E, fun x => by rw [ev_mulP, Rat.mul_comm]⟩
    exact ⟨tr_mulP, nG, ld, hG, G.l, G.r, dd⟩
theorem common_nil (L : Lib P gv) (cl : Cl m) : callE P gv sb 11 18 [pv [], pv []] m = .ok (pv []) m := by
  have := common_ok (n := 5) (gv := gv) (sb := sb) (m := m) L.comm L.po cl (fun p o => p = [] ∧ o = []) (fun p o ⟨a, b⟩ => by
    subst a b
    exact ⟨⟨0, by decide +kernel, 1, by decide, by decide, fun c hc => by cases hc⟩, by decide, rfl, rfl⟩) (fun p o ⟨a, b⟩ n => (n b).elim) (p := []) (o := []) ⟨rfl, rfl⟩ (by decide)
  exact this
theorem blk7 (L : Lib P gv) (cl : Cl m) {one other third : List Int} (h1 : Il 4 one) (h2 : Il 4 other) (h3 : Il 3 third) (s : St env one other third) :
    ∃ G, evS (callE P gv sb 11) gv sb B7 env m = .nx (env.set 5 (some (pv G))) m ∧ ((one = [] ∧ other = []) ∨ third = [] → G = []) ∧ (¬ ((one = [] ∧ other = []) ∨ third = []) → Both (cr one) (cr other) (cr third) G) := by
  have H1 := h1.hl (by decide)
  have H2 := h2.hl (by decide)
  have H3 := h3.hl (by decide)
  have fb : fitB = 4400 := rfl
  have t1 := L.times (sb := sb) cl H1 H3 (by omega)
  have t2 := L.times (sb := sb) cl H2 H3 (by omega)
  by_cases n3 : third = []
  · subst n3
    have e : cr [] = [] := rfl
    rw [e, mulP_nil_right] at t1 t2
    have v15 := s.v15
    rw [e] at v15
    exact ⟨[], sSet (rCall (rCons (rCall (rCons (evE_v s.v13) (rCons (evE_v v15) rNil)) t1) (rCons (rCall (rCons (evE_v s.v14) (rCons (evE_v v15) rNil)) t2) rNil)) (common_nil L cl)), fun _ => rfl, fun z => (z (.inr rfl)).elim⟩
  · obtain ⟨G, g1, g2, g3⟩ := common_both (sb := sb) L cl h1.ib h2.ib h3.ib h1.tr h2.tr h3.tr ((nil_iff h3).mpr n3) (by rw [cr_len]; exact h1.l) (by rw [cr_len]; exact h2.l) (by rw [cr_len]; exact h3.l)
    refine ⟨G, sSet (rCall (rCons (rCall (rCons (evE_v s.v13) (rCons (evE_v s.v15) rNil)) t1) (rCons (rCall (rCons (evE_v s.v14) (rCons (evE_v s.v15) rNil)) t2) rNil)) g1), fun z => ?_, fun z => g3 fun y => z (.inl ⟨cr_nil.mp y.1, cr_nil.mp y.2⟩)⟩
    rcases z with ⟨z1, z2⟩ | z
    · exact g2 (cr_nil.mpr z1) (cr_nil.mpr z2)
    · exact absurd z n3
theorem cond8 {F : Nat → List AV → Mem → Res AV} {one other third : List Int} (s : St env one other third) : evE F gv (.or [.and [.cmp .eq (.v 10) (.lst []), .cmp .eq (.v 11) (.lst [])], .cmp .eq (.v 12) (.lst [])]) env m = .ok (.bl (decide ((one = [] ∧ other = []) ∨ third = []))) m := by
  have c1 : evE F gv (.cmp .eq (.v 10) (.lst [])) env m = .ok (.bl (decide (one = []))) m := rCmp (evE_v s.v10) (rLst rNil okLen_nil) eqc_ivnil
  have c2 : evE F gv (.cmp .eq (.v 11) (.lst [])) env m = .ok (.bl (decide (other = []))) m := rCmp (evE_v s.v11) (rLst rNil okLen_nil) eqc_ivnil
  have c3 : evE F gv (.cmp .eq (.v 12) (.lst [])) env m = .ok (.bl (decide (third = []))) m := rCmp (evE_v s.v12) (rLst rNil okLen_nil) eqc_ivnil
  have c12 : evE F gv (.and [.cmp .eq (.v 10) (.lst []), .cmp .eq (.v 11) (.lst [])]) env m = .ok (.bl (decide (one = [] ∧ other = []))) m := by
    by_cases z : one = []
    · rw [decide_eq_true z] at c1
      rw [show decide (one = [] ∧ other = []) = decide (other = []) by simp [z]]
      exact rAndT c1 (rAnd1 c2)
    · rw [decide_eq_false z] at c1
      rw [decide_eq_false fun y => z y.1]
      exact rAndF c1
  by_cases z : one = [] ∧ other = []
  · rw [decide_eq_true z] at c12
    rw [decide_eq_true (Or.inl z)]
    exact rOrT c12
  · rw [decide_eq_false z] at c12
    rw [show decide ((one = [] ∧ other = []) ∨ third = []) = decide (third = []) by simp [z]]
    exact rOrF c12 (rOr1 c3)
theorem sub_last {p : List Rat} (h : p ≠ []) : subE m (pv p) (-1) = some (fr (lead p)) := last_co (List.length_pos_iff.mpr h)
theorem fr_one : fr 1 = .tup [.int 1, .int 1] := rfl
theorem last_iv {l : List Int} (h : l ≠ []) : L2.atI (iv l) (-1) = some (.int (coI l (l.length - 1))) := by
  have e := List.dropLast_concat_getLast h
  have : coI l (l.length - 1) = l.getLast h := by
    unfold coI
    rw [List.getD_eq_getElem?_getD, List.getLast_eq_getElem, List.getElem?_eq_getElem (by have := List.length_pos_iff.mpr h; omega)]
    rfl
  rw [this]
  have z := at_last (l := l.dropLast) (a := l.getLast h)
  rw [e] at z
  exact z
theorem tup_sub1 {a b : AV} : subE m (.tup [a, b]) 1 = some b := rfl
theorem blk8 (L : Lib P gv) (cl : Cl m) {one other third : List Int} (h1 : Il 4 one) (h2 : Il 4 other) (h3 : Il 3 third) (s : St env one other third) {G : List Rat} (v5 : env[5]? = some (some (pv G))) (g1 : (one = [] ∧ other = []) ∨ third = [] → G = []) (g2 : ¬ ((one = [] ∧ other = []) ∨ third = []) → Both (cr one) (cr other) (cr third) G) :
    evS (callE P gv sb 11) gv sb B8 env m = .nx env m := by
  by_cases z : (one = [] ∧ other = []) ∨ third = []
  · have c := cond8 (F := callE P gv sb 11) (gv := gv) (m := m) s
    rw [decide_eq_true z] at c
    refine (sIteT c).trans (bNx (sIfSkip (rCmp (evE_v v5) (rTup rNil okLen_nil) ?_) rfl) rfl)
    rw [g1 z]
    exact ne_pv (q := []) rfl
  · have c := cond8 (F := callE P gv sb 11) (gv := gv) (m := m) s
    rw [decide_eq_false z] at c
    obtain ⟨tG, nG, lG, HG, d1, d2, d3⟩ := g2 z
    have H1 := h1.hl (by decide)
    have H2 := h2.hl (by decide)
    have H3 := h3.hl (by decide)
    have fb : fitB = 4400 := rfl
    have n3 : third ≠ [] := fun y => z (.inr y)
    have nS : cr third ≠ [] := (nil_iff h3).mpr n3
    have l1 : (cr one).length ≤ 4 := by rw [cr_len]; exact h1.l
    have l2 : (cr other).length ≤ 4 := by rw [cr_len]; exact h2.l
    have l3 : (cr third).length ≤ 3 := by rw [cr_len]; exact h3.l
    have lS := h3.tr.lead nS
    have t1 := L.times (sb := sb) cl H1 H3 (by omega)
    have t2 := L.times (sb := sb) cl H2 H3 (by omega)
    have q1 := mulP_le (p := cr one) (q := cr third)
    have q2 := mulP_le (p := cr other) (q := cr third)
    have M1 : HL 13 (mulP (cr one) (cr third)) := ⟨(mulP_ht H1.h H3.h (by omega)).mono (by decide), by omega⟩
    have M2 : HL 13 (mulP (cr other) (cr third)) := ⟨(mulP_ht H2.h H3.h (by omega)).mono (by decide), by omega⟩
    have b1 : ((mulP (cr one) (cr third)).length + 1 - G.length) * (155 + 1) ≤ 7 * 156 := Nat.mul_le_mul_right _ (by omega)
    have b2 : ((mulP (cr other) (cr third)).length + 1 - G.length) * (155 + 1) ≤ 7 * 156 := Nat.mul_le_mul_right _ (by omega)
    have t3 := L.div (sb := sb) cl M1 HG tG nG (by omega)
    have t4 := L.div (sb := sb) cl M2 HG tG nG (by omega)
    rw [rest_nil tG nG d1] at t3
    rw [rest_nil tG nG d2] at t4
    have t5 := L.unit (sb := sb) (m := m) H3 h3.tr (by omega)
    have HU : HL 2 (unitL (cr third)) := ⟨unitL_ht (h3.ib.ht (by decide)) (.inr lS), by rw [unitL_len]; omega⟩
    have tU : Tr (unitL (cr third)) := unitL_tr h3.tr
    have nU : unitL (cr third) ≠ [] := fun y => nS (unitL_nil.mp y)
    have b3 : (G.length + 1 - (unitL (cr third)).length) * (2 + 1) ≤ 201 * 3 := Nat.mul_le_mul_right _ (by have := HG.l; omega)
    have t6 := L.div (sb := sb) cl HG HU tU nU (by omega)
    rw [rest_nil tU nU d3] at t6
    have d0 : coI third (third.length - 1) ≠ 0 := fun y => lS (by
      unfold lead
      rw [co_cr, cr_len, y]; rfl)
    have lm : coI third (third.length - 1) ∈ third := by
      have hp := List.length_pos_iff.mpr n3
      unfold coI
      rw [List.getD_eq_getElem?_getD, List.getElem?_eq_getElem (by omega)]
      exact List.getElem_mem _
    have t7 : callE P gv sb 11 35 [.frl (iv third)] m = .ok (pv (third.map fun y => Rat.divInt y (coI third (third.length - 1)))) m :=
      lmade_ok (n := 8) L.lmade L.frac L.gcd (last_iv n3) d0 (by have := h3.l; omega) h3.nat (h3.nat _ lm)
    have e7 : (third.map fun y => Rat.divInt y (coI third (third.length - 1))) = unitL (cr third) := by
      unfold unitL
      rw [if_neg nS]
      unfold cr
      rw [List.map_map]
      refine List.map_congr_left fun y _ => ?_
      show Rat.divInt y _ = (y : Rat) * (1 / lead (cr third))
      unfold lead
      rw [co_cr, cr_len, Rat.divInt_eq_div]
      have : ((coI third (third.length - 1) : Int) : Rat) ≠ 0 := by
        intro w
        exact d0 (by exact_mod_cast w)
      grind
    rw [e7] at t7
    obtain ⟨D, D0, D1, D2⟩ := HU.h
    have t8 := L.aPv (sb := sb) (m := m) (D2.smp D0 (Nat.lt_of_le_of_lt D1 (by decide)) (by decide) HU.l)
    have cG : cmpE m .ne (fr (lead G)) (.tup [.int 1, .int 1]) = some false := by
      rw [lG]
      exact ne_self (k := 1) (v := fr 1) (fr_num 1) (by decide)
    have c0 : cmpE m .ne (pv []) (.tup []) = some false := ne_pv (q := []) rfl
    refine (sIteF c).trans ?_
    exact (bNx (e1 := env) (m1 := m) (sIfSkip (rOrF (rCmp (rSub (evE_v v5) (rNeg rfl) (sub_last nG)) (rTup (rCons rfl (rCons rfl rNil)) (by show okLen 2 = true; decide)) cG) (rOrF (rCmp (rSub (rCall (rCons (rCall (rCons (evE_v s.v13) (rCons (evE_v s.v15) rNil)) t1) (rCons (evE_v v5) rNil)) t3) rfl tup_sub1) (rTup rNil okLen_nil) c0) (rOr1 (rCmp (rSub (rCall (rCons (rCall (rCons (evE_v s.v14) (rCons (evE_v s.v15) rNil)) t2) (rCons (evE_v v5) rNil)) t4) rfl tup_sub1) (rTup rNil okLen_nil) c0)))) rfl) (bNx (e1 := env) (m1 := m) (sIfSkip (rOrF (rCmp (rSub (rCall (rCons (evE_v v5) (rCons (rCall (rCons (evE_v s.v15) rNil) t5) rNil)) t6) rfl tup_sub1) (rTup rNil okLen_nil) c0) (rOr1 (rNot (rCall (rCons (rCall (rCons (evE_v s.v15) rNil) t5) (rCons (rCall (rCons (evE_v s.v12) rNil) t7) rNil)) t8)))) rfl) rfl))
theorem blk9 (L : Lib P gv) (cl : Cl m) {one other third : List Int} (h1 : Il 4 one) (h3 : Il 3 third) (s : St env one other third) :
    evS (callE P gv sb 11) gv sb B9 env m = .nx (env.set 6 (some (pv (sqr (cr one) (cr third))))) m := by
  have H1 := h1.hl (by decide)
  have H3 := h3.hl (by decide)
  have fb : fitB = 4400 := rfl
  have l1 : (cr one).length ≤ 4 := by rw [cr_len]; exact h1.l
  have q1 := mulP_le (p := cr one) (q := cr one)
  have t1 := L.times (sb := sb) cl H1 H1 (by omega)
  have M1 : HL 13 (mulP (cr one) (cr one)) := ⟨(mulP_ht H1.h H1.h (by omega)).mono (by decide), by omega⟩
  have t2 := L.times (sb := sb) cl M1 H3 (by omega)
  exact sSet (rCall (rCons (rCall (rCons (evE_v s.v13) (rCons (evE_v s.v13) rNil)) t1) (rCons (evE_v s.v15) rNil)) t2)
theorem pwL_len {p : List Rat} {n k : Nat} (h : p.length ≤ k + 1) : (pwL p n).length ≤ n * k + 1 := by
  induction n with
  | zero => rw [Nat.zero_mul]; exact Nat.le_refl 1
  | succ n ih =>
    have := mulP_le (p := pwL p n) (q := p)
    show (mulP (pwL p n) p).length ≤ _
    rw [Nat.succ_mul]
    omega
theorem blk10 (L : Lib P gv) (cl : Cl m) {one other third : List Int} (h1 : Il 4 one) (h3 : Il 3 third) (s : St env one other third) (v6 : env[6]? = some (some (pv (sqr (cr one) (cr third))))) :
    ∃ e', evS (callE P gv sb 11) gv sb B10 env m = .nx e' m ∧ Kp [16] env e' := by
  by_cases z : sqr (cr one) (cr third) = []
  · refine ⟨env, sIfSkip (rCmp (evE_v v6) (rTup rNil okLen_nil) ?_) rfl, .refl⟩
    rw [z]
    exact ne_pv (q := []) rfl
  · have n1 : cr one ≠ [] := fun y => z (by unfold sqr; rw [y, mulP_nil (.inl rfl), mulP_nil (.inl rfl)])
    have n3 : cr third ≠ [] := fun y => z (by unfold sqr; rw [y, mulP_nil_right])
    have N : Nice (cr one) (cr third) := ⟨h1.tr, h3.tr, n1, n3, h1.ib, h3.ib, by rw [cr_len]; exact h1.l, by rw [cr_len]; exact h3.l⟩
    generalize cr one = A at *
    generalize cr third = S at *
    have fb : fitB = 4400 := rfl
    obtain ⟨sl, sn, sl9⟩ := sqr_len N
    have ts : Tr (sqr A S) := tr_mulP
    have HS : HL 9 (sqr A S) := ⟨sqr_ht N, by omega⟩
    obtain ⟨u1, u2, u3, u4, u5⟩ := unitA N
    obtain ⟨gg, tg, ng, hg, lg⟩ := GG_ok N
    obtain ⟨tq, nq, lq, hq, hq2, eq⟩ := QQ_ok N
    have F := FF_ok N
    -- squarefree
    have k1 : callE P gv sb 10 20 [pv (sqr A S)] m = .ok (pv (trim (dT (sqr A S)))) m := derived_ok (n := 6) L.der L.po.f L.po.tr L.po.g0 (HS.fit (by omega))
    have k2 : callE P gv sb 10 18 [pv (sqr A S), pv (trim (dT (sqr A S)))] m = .ok (pv (GG A S)) m := by
      have := (tb2_way T1 (by decide)).common (n := 4) (sb := sb) (m := m) L.comm L.po cl u1 u2 u3 u4 (by have := N.lA; omega) (way1 N)
      rw [← sqr_fac N, ← dsq_fac N] at this
      exact this
    have b1 : ((sqr A S).length + 1 - (GG A S).length) * (200 + 1) ≤ 10 * 201 := Nat.mul_le_mul_right _ (by omega)
    have k3 : callE P gv sb 10 16 [pv (sqr A S), pv (GG A S)] m = .ok (.tup [pv (QQ A S), pv (trim (divL (sqr A S) (GG A S)).1)]) m := L.po.divided (n := 6) cl ⟨⟨9, 200, HS.h, hg, by omega⟩, by omega, by omega⟩ (tg.lead ng) ng
    have k4 : callE P gv sb 10 17 [pv (QQ A S)] m = .ok (pv (FF A S)) m := L.po.unit (n := 5) hq (.inr (tq.lead nq)) (by omega) (by omega)
    have t1 : callE P gv sb 11 21 [pv (sqr A S)] m = .ok (pv (FF A S)) m := sqfree_ok (n := 10) L.sqf sn k1 k2 k3 k4
    generalize FF A S = X at *
    have fl := F.len
    have HX : HL 291 X := ⟨F.ht, by omega⟩
    have t2 := L.dif (sb := sb) (m := m) HX (by omega)
    have t3 : callE P gv sb 11 18 [pv X, pv (trim (dT X))] m = .ok (pv [1]) m := by
      have := (tb2_way T2 (by decide)).common (n := 5) (sb := sb) (m := m) L.comm L.po cl (C := [1]) (tr_one (by decide)) (by simp) rfl ht_one (by simp) F.way
      have e1 : ∀ {p : List Rat}, Tr p → mulP [1] p = p := fun {p} tp => tr_ext tr_mulP tp fun x => by rw [ev_mulP, ev_one]; grind
      rw [e1 F.t, e1 (tr_trim _), F.sqfree N, e1 (tr_one (by decide))] at this
      exact this
    have b2 : ((sqr A S).length + 1 - X.length) * (291 + 1) ≤ 10 * 292 := Nat.mul_le_mul_right _ (by omega)
    have t4 := L.div (sb := sb) cl HS HX F.t F.n (by omega)
    rw [F.rest] at t4
    have t5 : callE P gv sb 11 15 [pv X, .int (sqr A S).length] m = .ok (pv (pwL X (sqr A S).length)) m := toPower_ok (n := 6) (u := 291) L.tpow L.cnt L.po.f L.ptim L.po.g0 L.po.g1 L.po.tr cl F.ht (by omega) sl9 (by omega)
    have t6 := L.unit (sb := sb) (m := m) HS ts (by omega)
    have HU : HL 9 (unitL (sqr A S)) := ⟨unitL_ht HS.h (.inr (ts.lead sn)), by rw [unitL_len]; omega⟩
    have pl := pwL_len (p := X) (n := (sqr A S).length) (k := 5) (by omega)
    have b3 : (sqr A S).length * 5 ≤ 9 * 5 := Nat.mul_le_mul_right _ sl9
    have HP : HL 2700 (pwL X (sqr A S).length) := ⟨(pwL_ht F.ht (by omega) sl9).1.mono (Nat.le_trans (Nat.mul_le_mul_right _ sl9) (by decide)), by omega⟩
    have tU : Tr (unitL (sqr A S)) := unitL_tr ts
    have nU : unitL (sqr A S) ≠ [] := fun y => sn (unitL_nil.mp y)
    have b4 : ((pwL X (sqr A S).length).length + 1 - (unitL (sqr A S)).length) * (9 + 1) ≤ 47 * 10 := Nat.mul_le_mul_right _ (by omega)
    have t7 := L.div (sb := sb) cl HP HU tU nU (by omega)
    rw [F.power N] at t7
    have k : Kp [16] env (env.set 16 (some (pv X))) := Kp.set1
    have g16 : (env.set 16 (some (pv X)))[16]? = some (some (pv X)) := get_set (by rw [s.len]; decide)
    have g6 := k.get v6 (by decide)
    have c1 : cmpE m .ne (pv [1]) (.tup [.tup [.int 1, .int 1]]) = some false := ne_pv (q := [1]) rfl
    have c0 : cmpE m .ne (pv []) (.tup []) = some false := ne_pv (q := []) rfl
    refine ⟨env.set 16 (some (pv X)), ?_, k⟩
    refine (sIteT (rCmp (evE_v v6) (rTup rNil okLen_nil) (by rw [ne_nil, decide_eq_true z]))).trans ?_
    exact bNx (e1 := env.set 16 (some (pv X))) (m1 := m) (sSet (rCall (rCons (evE_v v6) rNil) t1)) (bNx (e1 := env.set 16 (some (pv X))) (m1 := m) (sIfSkip (rOrF (rCmp (rCall (rCons (evE_v g16) (rCons (rCall (rCons (evE_v g16) rNil) t2) rNil)) t3) (rTup (rCons (rTup (rCons rfl (rCons rfl rNil)) (by show okLen 2 = true; decide)) rNil) (by show okLen 1 = true; decide)) c1) (rOrF (rCmp (rSub (rCall (rCons (evE_v g6) (rCons (evE_v g16) rNil)) t4) rfl tup_sub1) (rTup rNil okLen_nil) c0) (rOr1 (rCmp (rSub (rCall (rCons (rCall (rCons (evE_v g16) (rCons (rBi (rCons (evE_v g6) rNil) len_pv) rNil)) t5) (rCons (rCall (rCons (evE_v g6) rNil) t6) rNil)) t7) rfl tup_sub1) (rTup rNil okLen_nil) c0)))) rfl) rfl)
end
end PI
/-! Q26: the law's turn, third part: values, derived, turned, shifted, lowest. -/
namespace PI
open PySem

def B11 : Sm := .set 7 (.call 28 [.bin .sub (.call 25 [.v 1, .int 9]) (.int 4), .bin .add (.int 1) (.call 25 [.v 1, .int 3])])
def B12 : Sm := .setT [17, 18] (.tup [(.int 0), (.int 1)])
def B13b : Sm := .par 17 18 (.bin .add (.bin .mul (.v 17) (.sub (.v 7) (.int 0))) (.bin .mul (.bin .mul (.v 8) (.v 18)) (.sub (.v 7) (.int 1)))) (.bin .mul (.v 18) (.sub (.v 7) (.int 1)))
def B13 : Sm := .for_ (.nm 8) 0 [.rev (.v 10)] [B13b]
def B14 : Sm := .ite (.cmp .ne (.call 19 [.v 13, .v 7]) (.call 28 [.v 17, .v 18])) [.ret (.bl false)] []
def B15 : Sm := .ite (.or [.not (.call 26 [.call 20 [.v 13], .call 33 [.lc (.bin .mul (.v 21) (.sub (.v 10) (.v 21))) [21] (.nm 21) 1 [.int 1, .bi .len [.v 10]] none]]), .not (.call 26 [.call 23 [.v 13], .call 33 [.rev (.v 10)]])]) [.ret (.bl false)] []
def B16 : Sm := .set 9 (.call 25 [.v 1, .int 4])
def B17 : Sm := .ite (.not (.call 26 [.call 13 [.v 13, .v 9], .ite (.cmp .ne (.v 10) (.lst [])) (.call 33 [.bin .add (.bin .mul (.lst [.int 0]) (.v 9)) (.v 10)]) (.tup [])])) [.ret (.bl false)] []
def B18 : Sm := .ite (.and [.cmp .ne (.v 10) (.lst []), .or [.cmp .ne (.call 22 [.v 13]) (.bi .min [.lc (.v 21) [21] (.nm 21) 1 [.bi .len [.v 10]] (some (.cmp .ne (.sub (.v 10) (.v 21)) (.int 0)))]), .cmp .ne (.call 12 [.v 13, .tup [.int 0, .int 1]]) (.tup [])]]) [.ret (.bl false)] []
/-- a drawn fraction -/
structure At (c : Rat) : Prop where
  n : c.num.natAbs ≤ 4
  d : c.den ≤ 3
theorem At.bd {c : Rat} (h : At c) : Bd c.den 4 c := ⟨c.num, (num_eq c).symm, h.n⟩
theorem p40 : 2 ^ 40 ≤ 2 ^ fitB := Nat.pow_le_pow_right (by decide) (by unfold fitB; omega)
theorem At.fit {c : Rat} (h : At c) : Fit c := by
  have := p40
  exact h.bd.fit c.den_pos (by have := h.d; omega) (by omega)
theorem ev_bd {c : Rat} (hc : At c) : ∀ {r : List Rat}, IB 3 r → Bd (c.den ^ r.length) (100 ^ r.length) (ev r c)
  | [], _ => Bd.zero
  | a :: r, h => by
    have ih := ev_bd hc (r := r) fun x hx => h x (by simp [hx])
    have m := hc.bd.mul ih
    have s := (h a (by simp)).scale (k := c.den ^ (r.length + 1))
    rw [Nat.one_mul] at s
    have e : c.den * c.den ^ r.length = c.den ^ (r.length + 1) := by rw [Nat.pow_succ, Nat.mul_comm]
    rw [e] at m
    refine (s.add m).mono ?_
    have b1 : c.den ^ (r.length + 1) ≤ 3 ^ (r.length + 1) := Nat.pow_le_pow_left hc.d _
    have b2 : 3 ^ r.length ≤ 100 ^ r.length := Nat.pow_le_pow_left (by decide) _
    rw [List.length_cons, Nat.pow_succ 100]
    rw [Nat.pow_succ 3] at b1
    omega
section
variable {P : Nat → Option FD} {gv : Nat → AV} {sb : Nat → Nat → Option Bool} {m : Mem} {env : Env'}
theorem at_of {x y : Int} (h1 : x.natAbs ≤ 4) (h2 : 0 < y) (h3 : y ≤ 3) : At (Rat.divInt x y) := by
  have yz : ((y : Int) : Rat) ≠ 0 := by
    intro z
    have : y = 0 := by exact_mod_cast z
    omega
  have b : Bd y.toNat 4 (Rat.divInt x y) := ⟨x, by
    have e : ((y.toNat : Nat) : Rat) = (y : Rat) := by
      have : ((y.toNat : Int)) = y := Int.toNat_of_nonneg (by omega)
      rw [← this]; rfl
    rw [e, Rat.divInt_eq_div]
    grind, h1⟩
  have := b.small (by omega)
  exact ⟨this.1, by omega⟩
theorem blk11 (L : Lib P gv) {one other third : List Int} (s : St env one other third) {ex : Mem} {a b c : Int} {cs : List Int} {N : Nat} (ok : BagOk N a b c cs) (hN : N ≤ 900000) : ∃ q, At q ∧ ∃ a' b' c', BagOk (N + 2) a' b' c' cs ∧
    evS (callE P gv sb 11) gv sb B11 env (bagM ex a b c cs) = .nx (env.set 7 (some (fr q))) (bagM ex a' b' c' cs) := by
  obtain ⟨v, a1, b1, c1, ok1, v0, v9, t1⟩ := L.draw (sb := sb) (ex := ex) (many := 9) (by decide) (by decide) ok (by omega)
  obtain ⟨w, a2, b2, c2, ok2, w0, w3, t2⟩ := L.draw (sb := sb) (ex := ex) (many := 3) (by decide) (by decide) ok1 (by omega)
  have x4 : (v - 4).natAbs ≤ 4 := by omega
  have l1 := log_lt (n := (v - 4).natAbs) (k := 64) (by omega) (by decide)
  have l2 := log_lt (n := (1 + w).natAbs) (k := 64) (by omega) (by decide)
  have t3 : callE P gv sb 11 28 [.int (v - 4), .int (1 + w)] (bagM ex a2 b2 c2 cs) = .ok (fr (Rat.divInt (v - 4) (1 + w))) (bagM ex a2 b2 c2 cs) := lfrac_ok (n := 9) L.frac L.gcd (by omega) (by omega) (by omega)
  exact ⟨_, at_of x4 (by omega) (by omega), a2, b2, c2, ok2, sSet (rCall (rCons (rBin (rCall (rCons (evE_v s.b) (rCons rfl rNil)) t1) rfl rfl) (rCons (rBin rfl (rCall (rCons (evE_v s.b) (rCons rfl rNil)) t2) rfl) rNil)) t3)⟩
structure Hor (c : Rat) (qs : List Int) (o : Int) (u : Nat) : Prop where
  e : (o : Rat) = ev (cr qs.reverse) c * (u : Rat)
  p : 0 < u
  u : u ≤ 3 ^ qs.length
  o : o.natAbs ≤ 100 ^ qs.length
theorem Hor.next {c : Rat} (hc : At c) {qs : List Int} {o : Int} {u : Nat} (h : Hor c qs o u) {y : Int} (hy : y.natAbs ≤ 3) : Hor c (qs ++ [y]) (o * c.num + y * (u : Int) * (c.den : Int)) (u * c.den) := by
  refine ⟨?_, Nat.mul_pos h.p c.den_pos, ?_, ?_⟩
  · rw [List.reverse_append]
    show _ = ((y : Rat) + c * ev (cr qs.reverse) c) * _
    have e1 := h.e
    have e2 := num_eq c
    rw [Rat.intCast_add, Rat.intCast_mul, Rat.intCast_mul, Rat.intCast_mul, Rat.natCast_mul, e1, e2]
    have e3 : (((u : Int)) : Rat) = (u : Rat) := rfl
    have e4 : (((c.den : Int)) : Rat) = (c.den : Rat) := rfl
    rw [e3, e4]
    grind
  · rw [List.length_append, List.length_singleton, Nat.pow_succ]
    exact Nat.mul_le_mul h.u hc.d
  · rw [List.length_append, List.length_singleton, Nat.pow_succ]
    have a1 := Int.natAbs_add_le (o * c.num) (y * (u : Int) * (c.den : Int))
    rw [Int.natAbs_mul, Int.natAbs_mul, Int.natAbs_mul, Int.natAbs_natCast, Int.natAbs_natCast] at a1
    have a2 := Nat.mul_le_mul h.o hc.n
    have a3 := Nat.mul_le_mul (Nat.mul_le_mul hy h.u) hc.d
    have b2 : 3 ^ qs.length ≤ 100 ^ qs.length := Nat.pow_le_pow_left (by decide) _
    omega
theorem horner {F : Nat → List AV → Mem → Res AV} {c : Rat} (hc : At c) : ∀ (ys qs : List Int) (env : Env') (o : Int) (u : Nat), env.length = 22 → env[7]? = some (some (fr c)) → env[17]? = some (some (.int o)) → env[18]? = some (some (.int u)) → Hor c qs o u → (∀ y ∈ ys, y.natAbs ≤ 3) → qs.length + ys.length ≤ 4 →
    ∃ e' o' u', forLoop (.nm 8) (fun env m => evSs F gv sb [B13b] env m) (iv ys) env m = .nx e' m ∧ Kp [8, 17, 18] env e' ∧ e'[17]? = some (some (.int o')) ∧ e'[18]? = some (some (.int (u' : Nat))) ∧ Hor c (qs ++ ys) o' u'
  | [], qs, env, o, u, he, h7, h17, h18, h, _, _ => ⟨env, o, u, rfl, .refl, h17, h18, by rw [List.append_nil]; exact h⟩
  | y :: ys, qs, env, o, u, he, h7, h17, h18, h, hy, hl => by
    rw [List.length_cons] at hl
    have y3 := hy y (by simp)
    have hn := h.next hc y3
    have k8 : Kp [8] env (env.set 8 (some (.int y))) := Kp.set1
    have f7 := k8.get h7 (by decide)
    have f17 := k8.get h17 (by decide)
    have f18 := k8.get h18 (by decide)
    have f8 : (env.set 8 (some (.int y)))[8]? = some (some (.int y)) := get_set (by omega)
    have k2 : Kp [8, 17, 18] env (((env.set 8 (some (.int y))).set 17 (some (.int (o * c.num + y * (u : Int) * (c.den : Int))))).set 18 (some (.int ((u * c.den : Nat) : Int)))) := ((k8.trans Kp.set1).trans Kp.set1).sub (by decide)
    obtain ⟨e', o', u', r1, r2, r3, r4, r5⟩ := horner hc ys (qs ++ [y]) (((env.set 8 (some (.int y))).set 17 (some (.int (o * c.num + y * (u : Int) * (c.den : Int))))).set 18 (some (.int ((u * c.den : Nat) : Int)))) _ _ (by simp [he]) (k2.get h7 (by decide)) (by simp [he]) (by simp [he]) hn (fun z hz => hy z (by simp [hz])) (by rw [List.length_append, List.length_singleton]; omega)
    refine ⟨e', o', u', ?_, (k2.trans r2).sub (by decide), r3, r4, by rw [List.append_assoc] at r5; exact r5⟩
    have q1 : 100 ^ qs.length ≤ 100 ^ 4 := Nat.pow_le_pow_right (by decide) (by omega)
    have q2 : 3 ^ qs.length ≤ 3 ^ 4 := Nat.pow_le_pow_right (by decide) (by omega)
    have ho := h.o
    have hu := h.u
    have cn := hc.n
    have cd := hc.d
    have q3 : ((y * (u : Int)).natAbs) ≤ 3 * 81 := by
      rw [Int.natAbs_mul, Int.natAbs_natCast]
      exact Nat.mul_le_mul y3 (by omega)
    have m1 : binE m .mul (.int o) (.int c.num) = some (.int (o * c.num)) := mul_int (by omega) (by omega)
    have m2 : binE m .mul (.int y) (.int u) = some (.int (y * u)) := mul_int (by omega) (by omega)
    have m3 : binE m .mul (.int (y * u)) (.int c.den) = some (.int (y * u * c.den)) := mul_int (by omega) (by omega)
    have m4 : binE m .mul (.int u) (.int c.den) = some (.int ((u * c.den : Nat) : Int)) := by
      rw [mul_int (by omega) (by omega)]
      rw [Int.natCast_mul]
    have body : evS F gv sb B13b (env.set 8 (some (.int y))) m = .nx (((env.set 8 (some (.int y))).set 17 (some (.int (o * c.num + y * (u : Int) * (c.den : Int))))).set 18 (some (.int ((u * c.den : Nat) : Int)))) m :=
      sPar (rBin (rBin (evE_v f17) (rSub (evE_v f7) rfl (sub_fr _).1) m1) (rBin (rBin (evE_v f8) (evE_v f18) m2) (rSub (evE_v f7) rfl (sub_fr _).2) m3) rfl) (rBin (evE_v f18) (rSub (evE_v f7) rfl (sub_fr _).2) m4)
    show forLoop _ _ (.int y :: iv ys) env m = _
    rw [for_cons (e2 := env.set 8 (some (.int y))) rfl (bNx body rfl)]
    exact r1
theorem rev_frl {xs : List AV} : revE m (.frl xs) = some (.frl xs.reverse) := rfl
theorem iv_rev {l : List Int} : (iv l).reverse = iv l.reverse := by unfold iv; rw [List.map_reverse]
theorem blk13 {F : Nat → List AV → Mem → Res AV} {one other third : List Int} (h1 : Il 4 one) (s : St env one other third) {q : Rat} (hq : At q) (v7 : env[7]? = some (some (fr q))) :
    ∃ e' o u, evSs F gv sb [B12, B13] env m = .nx e' m ∧ Kp [8, 17, 18] env e' ∧ e'[17]? = some (some (.int o)) ∧ e'[18]? = some (some (.int (u : Nat))) ∧ Hor q one.reverse o u := by
  have k : Kp [17, 18] env ((env.set 17 (some (.int 0))).set 18 (some (.int 1))) := Kp.set1.trans Kp.set1
  obtain ⟨e', o, u, r1, r2, r3, r4, r5⟩ := horner (F := F) (gv := gv) (sb := sb) (m := m) hq one.reverse [] ((env.set 17 (some (.int 0))).set 18 (some (.int 1))) 0 1 (by simp [s.len]) (k.get v7 (by decide)) (by simp [s.len]) (by simp [s.len]) ⟨by show ((0 : Int) : Rat) = 0 * _; grind, by decide, by decide, by decide⟩ (fun y hy => by
    have := h1.s y (List.mem_reverse.mp hy)
    omega) (by rw [List.length_reverse, List.length_nil]; have := h1.l; omega)
  refine ⟨e', o, u, ?_, (k.trans r2).sub (by decide), r3, r4, r5⟩
  have s1 : evS F gv sb B12 env m = .nx ((env.set 17 (some (.int 0))).set 18 (some (.int 1))) m := sSetT (rTup (rCons rfl (rCons rfl rNil)) (by show okLen 2 = true; decide)) rfl
  have s2 : evS F gv sb B13 ((env.set 17 (some (.int 0))).set 18 (some (.int 1))) m = .nx e' m := by
    refine (for_ok (ss := [.frl (iv one.reverse)]) (xs := iv one.reverse) (rCons (rRev (evE_v (k.get s.v10 (by decide))) (by rw [rev_frl, iv_rev])) rNil) rfl).trans r1
  exact bNx s1 (bNx s2 rfl)
theorem blk14 (L : Lib P gv) {one other third : List Int} (h1 : Il 4 one) (s : St env one other third) {q : Rat} (hq : At q) (v7 : env[7]? = some (some (fr q))) {o : Int} {u : Nat} (v17 : env[17]? = some (some (.int o))) (v18 : env[18]? = some (some (.int u))) (h : Hor q one.reverse o u) :
    evS (callE P gv sb 11) gv sb B14 env m = .nx env m := by
  have l1 : (cr one).length ≤ 4 := by rw [cr_len]; exact h1.l
  have H1 := h1.hl (by decide)
  have fb : fitB = 4400 := rfl
  have pp := p40
  have t1 : callE P gv sb 11 19 [pv (cr one), fr q] m = .ok (fr (ev (cr one) q)) m := by
    refine valueAt_ok (n := 7) L.valat L.po.f L.po.g0 hq.fit (fun a r e => ?_) (H1.h.fit (by omega))
    have hr : IB 3 r := fun x hx => h1.ib x (by rw [e]; simp [hx])
    have lr : r.length ≤ 4 := by rw [e, List.length_append] at l1; omega
    have b := ev_bd hq hr
    have c1 : q.den ^ r.length ≤ 3 ^ 4 := Nat.le_trans (Nat.pow_le_pow_left hq.d _) (Nat.pow_le_pow_right (by decide) lr)
    have c2 : 100 ^ r.length ≤ 100 ^ 4 := Nat.pow_le_pow_right (by decide) lr
    have c3 : 0 < q.den ^ r.length := Nat.pow_pos q.den_pos
    have c4 : q.den * q.den ^ r.length ≤ 3 * 3 ^ 4 := Nat.mul_le_mul hq.d c1
    exact ⟨b.fit c3 (by omega) (by omega), (hq.bd.mul b).fit (Nat.mul_pos q.den_pos c3) (by omega) (by omega)⟩
  have ho := h.o
  have hu := h.u
  have hp := h.p
  rw [List.length_reverse] at ho hu
  have q1 : 100 ^ one.length ≤ 100 ^ 4 := Nat.pow_le_pow_right (by decide) h1.l
  have q2 : 3 ^ one.length ≤ 3 ^ 4 := Nat.pow_le_pow_right (by decide) h1.l
  have g1 := log_lt (n := o.natAbs) (k := 64) (by omega) (by decide)
  have g2 := log_lt (n := ((u : Int)).natAbs) (k := 64) (by omega) (by decide)
  have t2 : callE P gv sb 11 28 [.int o, .int u] m = .ok (fr (Rat.divInt o u)) m := lfrac_ok (n := 9) L.frac L.gcd (by omega) (by omega) (by omega)
  have e : Rat.divInt o u = ev (cr one) q := by
    have e1 := h.e
    rw [List.reverse_reverse] at e1
    have e3 : (((u : Int)) : Rat) = (u : Rat) := rfl
    rw [Rat.divInt_eq_div, e1, e3]
    have := natCast_ne hp
    grind
  rw [e] at t2
  exact sIfSkip (rCmp (rCall (rCons (evE_v s.v13) (rCons (evE_v v7) rNil)) t1) (rCall (rCons (evE_v v17) (rCons (evE_v v18) rNil)) t2) (ne_self (k := 1) (fr_num _) (by decide))) rfl
theorem dE_range : ∀ {p : List Rat} {k : Nat}, dE k p = (List.range p.length).map fun (i : Nat) => ((k + i : Nat) : Rat) * co p i
  | [], k => rfl
  | a :: p, k => by
    show (k : Rat) * a :: dE (k + 1) p = _
    rw [List.length_cons, List.range_succ_eq_map, List.map_cons, List.map_map, dE_range]
    congr 1
    refine List.map_congr_left fun i _ => ?_
    show ((k + 1 + i : Nat) : Rat) * co p i = ((k + (i + 1) : Nat) : Rat) * co (a :: p) (i + 1)
    rw [co_cons, Nat.add_assoc, Nat.add_comm 1 i]
def dI (l : List Int) : List Int := (List.range (l.length - 1)).map fun (i : Nat) => ((1 + i : Nat) : Int) * coI l (1 + i)
theorem cr_dI {l : List Int} : cr (dI l) = dT (cr l) := by
  cases l with
  | nil => rfl
  | cons a l =>
    show cr ((List.range l.length).map _) = dE 1 (cr l)
    rw [dE_range, cr_len]
    unfold cr
    rw [List.map_map]
    refine List.map_congr_left fun i _ => ?_
    show (((1 + i : Nat) : Int) * coI (a :: l) (1 + i) : Int) = ((1 + i : Nat) : Rat) * co (cr l) i
    rw [Rat.intCast_mul, co_cr, Nat.add_comm 1 i]
    rfl
theorem len_iv {l : List Int} : biE m .len [.frl (iv l)] = some (.int l.length) := by rw [len_lst rfl, iv_len]
theorem inR_one : inR 1 = true := by
  unfold inR
  rw [decide_eq_true_eq]
  constructor <;> omega
theorem itE2 {i j : Int} : itE m 1 [.int i, .int j] = (if (inR i && inR j) = true then some ((List.range (j - i).toNat).map fun (k : Nat) => AV.int (i + (k : Int))) else none) := rfl
theorem itE_from1 {j : Nat} (h : j ≤ 1000) : itE m 1 [.int 1, .int j] = some ((List.range (j - 1)).map fun (k : Nat) => AV.int (1 + (k : Int))) := by
  have e2 : ((j : Int) - 1).toNat = j - 1 := by omega
  rw [itE2, if_pos (by rw [inR_one, small_int h]; rfl), e2]
theorem blk15 (L : Lib P gv) {one other third : List Int} (h1 : Il 4 one) (s : St env one other third) :
    evS (callE P gv sb 11) gv sb B15 env m = .nx env m := by
  have l0 := h1.l
  have l1 : (cr one).length ≤ 4 := by rw [cr_len]; exact h1.l
  have H1 := h1.hl (by decide)
  have fb : fitB = 4400 := rfl
  have t1 := L.dif (sb := sb) (m := m) H1 (by omega)
  have it := itE_from1 (m := m) (j := one.length) (by omega)
  have lc : evE (callE P gv sb 11) gv (.lc (.bin .mul (.v 21) (.sub (.v 10) (.v 21))) [21] (.nm 21) 1 [.int 1, .bi .len [.v 10]] none) env m = .ok (.frl (iv (dI one))) m := by
    have z := lc_pure (F := callE P gv sb 11) (gv := gv) (elt := .bin .mul (.v 21) (.sub (.v 10) (.v 21))) (own := [21]) (tg := .nm 21) (it := 1) (src := [.int 1, .bi .len [.v 10]]) (env := env) (m := m) (fun x => match x with
      | .int z => .int (z * coI one z.toNat)
      | _ => .non) (rCons rfl (rCons (rBi (rCons (evE_v s.v10) rNil) len_iv) rNil)) it (fun x hx => ?_) (by rw [List.length_map, List.length_range]; exact size_ok (by omega))
    · have e1 : ((List.range (one.length - 1)).map fun (k : Nat) => AV.int (1 + (k : Int))).map (fun x => match x with
        | .int z => AV.int (z * coI one z.toNat)
        | _ => .non) = iv (dI one) := by
        unfold iv dI
        rw [List.map_map, List.map_map]
        refine List.map_congr_left fun i _ => ?_
        show AV.int ((1 + (i : Int)) * coI one (1 + (i : Int)).toNat) = AV.int (((1 + i : Nat) : Int) * coI one (1 + i))
        have e : (1 + (i : Int)).toNat = 1 + i := by omega
        have e3 : (1 + (i : Int)) = ((1 + i : Nat) : Int) := by omega
        rw [e, e3]
      rw [e1] at z
      exact z
    · rw [List.mem_map] at hx
      obtain ⟨i, hi, rfl⟩ := hx
      rw [List.mem_range] at hi
      refine ⟨(wipeE env [21]).set 21 (some (.int (1 + (i : Int)))), rfl, ?_⟩
      have g21 : ((wipeE env [21]).set 21 (some (.int (1 + (i : Int)))))[21]? = some (some (.int (1 + (i : Int)))) := by
        show ((env.set 21 none).set 21 _)[21]? = _
        simp [s.len]
      have g10 : ((wipeE env [21]).set 21 (some (.int (1 + (i : Int)))))[10]? = some (some (.frl (iv one))) := by
        show ((env.set 21 none).set 21 _)[10]? = _
        simp [s.v10]
      have e : (1 + (i : Int)) = ((1 + i : Nat) : Int) := by omega
      have cm : coI one (1 + i) ∈ one := by
        unfold coI
        rw [List.getD_eq_getElem?_getD, List.getElem?_eq_getElem (by omega)]
        exact List.getElem_mem _
      have c3 := h1.s _ cm
      have sb1 : subE m (.frl (iv one)) (1 + (i : Int)) = some (.int (coI one (1 + i))) := by
        rw [e]
        exact (sub_lst rfl).trans (at_coI (by omega))
      have e2 : (1 + (i : Int)).toNat = 1 + i := by omega
      dsimp only
      rw [e2]
      exact rBin (evE_v g21) (rSub (evE_v g10) (evE_v g21) sb1) (mul_int (by omega) (by omega))
  have t2 := L.poly (sb := sb) (m := m) (l := dI one) (v := .frl (iv (dI one))) rfl (by unfold dI; rw [List.length_map, List.length_range]; omega)
  rw [cr_dI] at t2
  have s1 : SmP (trim (dT (cr one))) := BdL.smp (D := 1) (M := 3 * 3) (fun x hx => (dT_bd h1.ib l1) x (trim_mem hx)) (by decide) (by decide) (by decide) (by have := trim_len (dT (cr one)); rw [dT_len] at this; omega)
  have t3 := L.aPv (sb := sb) (m := m) s1
  have t4 : callE P gv sb 11 23 [pv (cr one)] m = .ok (pv (trim (cr one).reverse)) m := turned_ok (n := 9) L.turn L.po.tr L.po.g0 (by omega)
  have t5 := L.poly (sb := sb) (m := m) (l := one.reverse) (v := .frl (iv one.reverse)) rfl (by rw [List.length_reverse]; omega)
  have e5 : cr one.reverse = (cr one).reverse := by unfold cr; rw [List.map_reverse]
  rw [e5] at t5
  have s2 : SmP (trim (cr one).reverse) := BdL.smp (D := 1) (M := 3) (fun x hx => h1.ib x (List.mem_reverse.mp (trim_mem hx))) (by decide) (by decide) (by decide) (by have := trim_len (cr one).reverse; rw [List.length_reverse] at this; omega)
  have t6 := L.aPv (sb := sb) (m := m) s2
  exact sIfSkip (rOrF (rNot (rCall (rCons (rCall (rCons (evE_v s.v13) rNil) t1) (rCons (rCall (rCons lc rNil) t2) rNil)) t3)) (rOr1 (rNot (rCall (rCons (rCall (rCons (evE_v s.v13) rNil) t4) (rCons (rCall (rCons (rRev (evE_v s.v10) (by rw [rev_frl, iv_rev])) rNil) t5) rNil)) t6)))) rfl
theorem blk16 (L : Lib P gv) {one other third : List Int} (s : St env one other third) {ex : Mem} {a b c : Int} {cs : List Int} {N : Nat} (ok : BagOk N a b c cs) (hN : N ≤ 900000) : ∃ j : Nat, j ≤ 3 ∧ ∃ a' b' c', BagOk (N + 1) a' b' c' cs ∧
    evS (callE P gv sb 11) gv sb B16 env (bagM ex a b c cs) = .nx (env.set 9 (some (.int j))) (bagM ex a' b' c' cs) := by
  obtain ⟨v, a1, b1, c1, ok1, v0, v9, t1⟩ := L.draw (sb := sb) (ex := ex) (many := 4) (by decide) (by decide) ok (by omega)
  obtain ⟨j, rfl⟩ : ∃ j : Nat, v = j := ⟨v.toNat, by omega⟩
  exact ⟨j, by omega, a1, b1, c1, ok1, sSet (rCall (rCons (evE_v s.b) (rCons rfl rNil)) t1)⟩
theorem cr_app {p q : List Int} : cr (p ++ q) = cr p ++ cr q := by unfold cr; rw [List.map_append]
theorem cr_rep {j : Nat} : cr (List.replicate j 0) = List.replicate j 0 := by unfold cr; rw [List.map_replicate]; rfl
theorem blk17 (L : Lib P gv) {one other third : List Int} (h1 : Il 4 one) (s : St env one other third) {j : Nat} (hj : j ≤ 3) (v9 : env[9]? = some (some (.int j))) :
    evS (callE P gv sb 11) gv sb B17 env m = .nx env m := by
  have l0 := h1.l
  have l1 : (cr one).length ≤ 4 := by rw [cr_len]; exact h1.l
  have t1 : callE P gv sb 11 13 [pv (cr one), .int j] m = .ok (pv (if cr one = [] then [] else List.replicate j 0 ++ cr one)) m := shifted_ok (n := 10) L.shift L.po.g0 (by omega) (by omega)
  by_cases n1 : one = []
  · have e : cr one = [] := cr_nil.mpr n1
    rw [if_pos e] at t1
    have t2 := L.aPv (sb := sb) (m := m) (p := []) ⟨by decide, fun q h => by cases h⟩
    exact sIfSkip (rNot (rCall (rCons (rCall (rCons (evE_v s.v13) (rCons (evE_v v9) rNil)) t1) (rCons (rIteF (rCmp (evE_v s.v10) (rLst rNil okLen_nil) (by rw [ne_ivnil, decide_eq_false (by simpa using n1)])) (rTup rNil okLen_nil)) rNil)) t2)) rfl
  · have e : cr one ≠ [] := (nil_iff h1).mpr n1
    rw [if_neg e] at t1
    have m1 : binE m .mul (.frl [.int 0]) (.int j) = some (.frl (iv (List.replicate j 0))) := by
      have := mul_lstI (j := (j : Int)) (m := m) (by omega) (by omega)
      rw [Int.toNat_natCast] at this
      exact this
    have m2 : binE m .add (.frl (iv (List.replicate j 0))) (.frl (iv one)) = some (.frl (iv (List.replicate j 0 ++ one))) := by
      show (if okLen ((iv (List.replicate j 0)).length + (iv one).length) = true then some (AV.frl (iv (List.replicate j 0) ++ iv one)) else none) = _
      rw [if_pos]
      · unfold iv
        rw [List.map_append]
      · unfold okLen
        rw [decide_eq_true_eq, iv_len, iv_len, List.length_replicate]
        exact size_ok (by omega)
    have t2 := L.poly (sb := sb) (m := m) (l := List.replicate j 0 ++ one) (v := .frl (iv (List.replicate j 0 ++ one))) rfl (by rw [List.length_append, List.length_replicate]; omega)
    have e2 : trim (cr (List.replicate j 0 ++ one)) = List.replicate j 0 ++ cr one := by
      rw [cr_app, cr_rep]
      refine trim_last fun a ha => ?_
      rw [List.getLast?_append] at ha
      have l := h1.tr.lead e
      have : (cr one).getLast? = some (lead (cr one)) := by
        unfold lead co
        rw [List.getLast?_eq_getElem?, List.getD_eq_getElem?_getD, List.getElem?_eq_getElem (by have := List.length_pos_iff.mpr e; omega)]
        rfl
      rw [this] at ha
      have : lead (cr one) = a := by simpa using ha
      rw [← this]; exact l
    rw [e2] at t2
    have s1 : SmP (List.replicate j 0 ++ cr one) := BdL.smp (D := 1) (M := 3) (fun x hx => by
      rcases List.mem_append.mp hx with z | z
      · rw [(List.mem_replicate.mp z).2]; exact .zero
      · exact h1.ib x z) (by decide) (by decide) (by decide) (by rw [List.length_append, List.length_replicate]; omega)
    have t3 := L.aPv (sb := sb) (m := m) s1
    exact sIfSkip (rNot (rCall (rCons (rCall (rCons (evE_v s.v13) (rCons (evE_v v9) rNil)) t1) (rCons (rIteT (rCmp (evE_v s.v10) (rLst rNil okLen_nil) (by rw [ne_ivnil, decide_eq_true n1])) (rCall (rCons (rBin (rBin (rLst (rCons rfl rNil) (by show okLen 1 = true; decide)) (evE_v v9) m1) (evE_v s.v10) m2) rNil) t2)) rNil)) t3)) rfl
theorem lows_ge : ∀ {p : List Rat} {j i : Nat}, i ∈ lows j p → j ≤ i
  | [], j, i, h => by cases h
  | a :: p, j, i, h => by
    unfold lows at h
    split at h
    · rcases List.mem_cons.mp h with z | z
      · omega
      · have := lows_ge z
        omega
    · have := lows_ge h
      omega
theorem lows_asc : ∀ {p : List Rat} {j i : Nat} {is : List Nat}, lows j p = i :: is → ∀ k ∈ is, i ≤ k
  | [], j, i, is, h => by cases h
  | a :: p, j, i, is, h => by
    unfold lows at h
    split at h
    · injection h with h1 h2
      subst h1 h2
      intro k hk
      have := lows_ge hk
      omega
    · exact lows_asc h
theorem lows_nil : ∀ {p : List Rat} {j : Nat}, lows j p = [] → ∀ a ∈ p, a = 0
  | [], j, _ => fun a h => by cases h
  | b :: p, j, h => by
    unfold lows at h
    split at h
    · cases h
    · rename_i hb
      intro a ha
      rcases List.mem_cons.mp ha with z | z
      · rw [z]; exact Classical.byContradiction hb
      · exact lows_nil h a z
theorem fold_min : ∀ {xs : List Int} {x : Int}, (∀ y ∈ xs, x ≤ y) → xs.foldl (fun a b => if b < a then b else a) x = x
  | [], x, _ => rfl
  | y :: xs, x, h => by
    rw [List.foldl_cons, if_neg (by have := h y (by simp); omega)]
    exact fold_min fun z hz => h z (by simp [hz])
theorem ints_nat : ∀ {js : List Nat}, intsOf (js.map fun (i : Nat) => AV.int i) = some (js.map fun (i : Nat) => (i : Int))
  | [] => rfl
  | j :: js => by
    show (intsOf (js.map fun (i : Nat) => AV.int i)).map (fun l => (j : Int) :: l) = _
    rw [ints_nat]; rfl
theorem nonz : ∀ {l0 l pre : List Int}, l0 = pre ++ l → ((List.range' pre.length l.length).map fun (k : Nat) => AV.int k).filterMap (fun x => match x with
    | .int z => if coI l0 z.toNat ≠ 0 then some (.int z) else none
    | _ => none) = (lows pre.length (cr l)).map fun (i : Nat) => AV.int i
  | l0, [], pre, h => rfl
  | l0, a :: l, pre, h => by
    rw [List.length_cons, List.range'_succ, List.map_cons, List.filterMap_cons]
    have e : coI l0 pre.length = a := by
      rw [h]
      unfold coI
      rw [List.getD_eq_getElem?_getD, List.getElem?_append_right (Nat.le_refl _), Nat.sub_self]; rfl
    have e2 : (match AV.int (pre.length : Nat) with
      | .int z => if coI l0 z.toNat ≠ 0 then some (AV.int z) else none
      | _ => none) = if a ≠ 0 then some (AV.int (pre.length : Nat)) else none := by
      show (if coI l0 ((pre.length : Nat) : Int).toNat ≠ 0 then _ else _) = _
      rw [Int.toNat_natCast, e]
    rw [e2]
    have ih := nonz (l0 := l0) (l := l) (pre := pre ++ [a]) (by rw [h, List.append_assoc]; rfl)
    rw [List.length_append, List.length_singleton] at ih
    show _ = (if (a : Rat) ≠ 0 then pre.length :: lows (pre.length + 1) (cr l) else lows (pre.length + 1) (cr l)).map _
    by_cases ha : a = 0
    · rw [if_neg (fun z => z ha), if_neg (fun z => z (by rw [ha]; rfl))]
      exact ih
    · rw [if_pos ha, if_pos (fun z => ha (by exact_mod_cast z)), List.map_cons, ← ih]
theorem blk18 (L : Lib P gv) {one other third : List Int} (h1 : Il 4 one) (s : St env one other third) :
    evS (callE P gv sb 11) gv sb B18 env m = .nx env m := by
  have l0 := h1.l
  have l1 : (cr one).length ≤ 4 := by rw [cr_len]; exact h1.l
  have H1 := h1.hl (by decide)
  have fb : fitB = 4400 := rfl
  by_cases n1 : one = []
  · exact sIfSkip (rAndF (rCmp (evE_v s.v10) (rLst rNil okLen_nil) (by rw [ne_ivnil, decide_eq_false (by simpa using n1)]))) rfl
  · have e : cr one ≠ [] := (nil_iff h1).mpr n1
    obtain ⟨j, js, hj⟩ : ∃ j js, lows 0 (cr one) = j :: js := by
      cases q : lows 0 (cr one) with
      | nil =>
        have := trim_nil_iff.mpr (lows_nil q)
        rw [h1.tr] at this
        exact absurd this e
      | cons j js => exact ⟨j, js, rfl⟩
    have t1 : callE P gv sb 11 22 [pv (cr one)] m = .ok (.int j) m := lowest_ok (n := 10) L.low L.po.g0 (by omega) hj
    have lc : evE (callE P gv sb 11) gv (.lc (.v 21) [21] (.nm 21) 1 [.bi .len [.v 10]] (some (.cmp .ne (.sub (.v 10) (.v 21)) (.int 0)))) env m = .ok (.frl ((j :: js).map fun (i : Nat) => AV.int i)) m := by
      have z := lc_cond (F := callE P gv sb 11) (gv := gv) (elt := .v 21) (c := .cmp .ne (.sub (.v 10) (.v 21)) (.int 0)) (own := [21]) (tg := .nm 21) (it := 1) (src := [.bi .len [.v 10]]) (env := env) (m := m) (fun x => match x with
        | .int z => if coI one z.toNat ≠ 0 then some (.int z) else none
        | _ => none) (rCons (rBi (rCons (evE_v s.v10) rNil) len_iv) rNil) (rng_ok (by omega)) (fun x hx => ?_) (by rw [List.length_map, List.length_range]; exact size_ok (by omega))
      · rw [z, List.range_eq_range']
        have := nonz (l0 := one) (l := one) (pre := []) rfl
        rw [List.length_nil, hj] at this
        rw [this]
      · rw [List.mem_map] at hx
        obtain ⟨i, hi, rfl⟩ := hx
        rw [List.mem_range] at hi
        refine ⟨(wipeE env [21]).set 21 (some (.int (i : Int))), rfl, ?_⟩
        have g21 : ((wipeE env [21]).set 21 (some (.int (i : Int))))[21]? = some (some (.int (i : Int))) := by
          show ((env.set 21 none).set 21 _)[21]? = _
          simp [s.len]
        have g10 : ((wipeE env [21]).set 21 (some (.int (i : Int))))[10]? = some (some (.frl (iv one))) := by
          show ((env.set 21 none).set 21 _)[10]? = _
          simp [s.v10]
        have c : evE (callE P gv sb 11) gv (.cmp .ne (.sub (.v 10) (.v 21)) (.int 0)) ((wipeE env [21]).set 21 (some (.int (i : Int)))) m = .ok (.bl (decide (coI one i ≠ 0))) m := by
          refine rCmp (rSub (evE_v g10) (evE_v g21) ((sub_lst rfl).trans (at_coI hi))) rfl ?_
          show (eqE m (.int (coI one i)) (.int 0)).map (!·) = _
          rw [eqE_int]; simp
        dsimp only
        rw [Int.toNat_natCast]
        by_cases hc : coI one i = 0
        · right
          rw [decide_eq_false (fun z => z hc)] at c
          exact ⟨c, by rw [if_neg (fun z => z hc)]⟩
        · left
          rw [decide_eq_true hc] at c
          exact ⟨c, _, by rw [if_pos hc], evE_v g21⟩
    have mn : biE m .min [.frl ((j :: js).map fun (i : Nat) => AV.int i)] = some (.int j) := by
      show ((some ((j :: js).map fun (i : Nat) => AV.int i)).bind intsOf).bind (fun ns => (minI ns).map AV.int) = _
      rw [Option.bind_some, ints_nat, Option.bind_some]
      show ((some ((js.map fun (i : Nat) => (i : Int)).foldl (fun a b => if b < a then b else a) (j : Int))).map AV.int) = _
      rw [fold_min]
      · rfl
      · intro y hy
        obtain ⟨k, hk, rfl⟩ := List.mem_map.mp hy
        have := lows_asc hj k hk
        omega
    have c1 : cmpE m .ne (.int j) (.int j) = some false := ne_self (k := 0) rfl (by decide)
    have t2 : callE P gv sb 11 12 [pv (cr one), fr 0] m = .ok (pv []) m := by
      have := scaled_ok (sb := sb) (m := m) (n := 7) (c := 0) L.po.s L.po.f L.po.g0 (H1.fit (by omega)) fit_zero
      rw [if_pos rfl] at this
      exact this
    have f0 : evE (callE P gv sb 11) gv (.tup [.int 0, .int 1]) env m = .ok (fr 0) m := rTup (rCons rfl (rCons rfl rNil)) (by show okLen 2 = true; decide)
    exact sIfSkip (rAndT (rCmp (evE_v s.v10) (rLst rNil okLen_nil) (by rw [ne_ivnil, decide_eq_true n1])) (rAnd1 (rOrF (rCmp (rCall (rCons (evE_v s.v13) rNil) t1) (rBi (rCons lc rNil) mn) c1) (rOr1 (rCmp (rCall (rCons (evE_v s.v13) (rCons f0 rNil)) t2) (rTup rNil okLen_nil) (ne_pv (q := []) rfl)))))) rfl
end
end PI
/-! Q27: the law over polynomials, whole. -/
namespace PI
open PySem

theorem SRes.seq_seq {r : SRes} {f g : Env' → Mem → SRes} : (r.seq f).seq g = r.seq fun e m => (f e m).seq g := by cases r <;> rfl
theorem evSs_app {F : Nat → List AV → Mem → Res AV} {gv : Nat → AV} {sb : Nat → Nat → Option Bool} : ∀ {a b : List Sm} {env : Env'} {m : Mem}, evSs F gv sb (a ++ b) env m = (evSs F gv sb a env m).seq (evSs F gv sb b)
  | [], b, env, m => rfl
  | s :: a, b, env, m => by
    rw [List.cons_append, evSs_cons, evSs_cons, SRes.seq_seq]
    congr 1
    funext e m
    exact evSs_app
def turnB : List Sm := [B1, B2, B3, B4, B5, B6, B7, B8, B9, B10, B11, B12, B13, B14, B15, B16, B17, B18]
def F_k70 : FD := ⟨22, 1, [.set 1 (.call 24 [.v 0]), .for_ (.nm 2) 1 [.int 6] turnB, .ret (.bl true)]⟩
section
variable {P : Nat → Option FD} {gv : Nat → AV} {sb : Nat → Nat → Option Bool}
theorem turn_ok (L : Lib P gv) (hs : sb 0 0 = some true) {env : Env'} (he : env.length = 22) (hb : env[1]? = some (some (.ref 0))) {ex : Mem} {a b c : Int} {cs : List Int} {N : Nat} (hx : ExOk ex) (ok : BagOk N a b c cs) (hN : N ≤ 700000) :
    ∃ e' ex' a' b' c' N', e'.length = 22 ∧ e'[1]? = some (some (.ref 0)) ∧ ExOk ex' ∧ N' ≤ N + 40 ∧ BagOk N' a' b' c' cs ∧ evSs (callE P gv sb 11) gv sb turnB env (bagM ex a b c cs) = .nx e' (bagM ex' a' b' c' cs) := by
  obtain ⟨one, other, third, i1, i2, i3, a1, b1, c1, N1, n1, ok1, e1, l1, _, q1, w10, w11, w12, s1⟩ := blk1 (sb := sb) L he hb (ex := ex) ok (by omega)
  obtain ⟨e2, s2, st2, _⟩ := blk2 (sb := sb) (m := bagM ex a1 b1 c1 cs) L i1 i2 i3 l1 q1 w10 w11 w12
  obtain ⟨ex3, hx3, s3⟩ := blk3 (sb := sb) L i1 i2 st2 (a := a1) (b := b1) (c := c1) (cs := cs) hx
  have k3 := Kp.set1 (i := 3) (env := e2) (x := some (.frl [pv (trim (addL (cr one) (cr other))), pv (trim (addL (cr one) ((cr other).map fun q => -q))), pv (mulP (cr one) (cr other))]))
  have st3 := st2.kp k3 (by decide)
  have v3 := get_set (i := 3) (env := e2) (x := some (.frl [pv (trim (addL (cr one) (cr other))), pv (trim (addL (cr one) ((cr other).map fun q => -q))), pv (mulP (cr one) (cr other))])) (by rw [st2.len]; decide)
  have cl := bag_cl (a := a1) (b := b1) (c := c1) (cs := cs) hx3
  have s4 := blk4 (sb := sb) L cl i1 i2 st3 v3
  obtain ⟨e5, s5, k5⟩ := blk5 (m := bagM ex3 a1 b1 c1 cs) L hs st3
  have st5 := st3.kp k5 (by decide)
  obtain ⟨e6, s6, k6⟩ := blk6 (sb := sb) L cl i1 i2 st5
  have st6 := st5.kp k6 (by decide)
  obtain ⟨G, s7, g1, g2⟩ := blk7 (sb := sb) L cl i1 i2 i3 st6
  have st7 := st6.kp (Kp.set1 (i := 5) (x := some (pv G))) (by decide)
  have v5 := get_set (i := 5) (env := e6) (x := some (pv G)) (by rw [st6.len]; decide)
  have s8 := blk8 (sb := sb) L cl i1 i2 i3 st7 v5 g1 g2
  have s9 := blk9 (sb := sb) L cl i1 i3 st7
  have st9 := st7.kp (Kp.set1 (i := 6) (x := some (pv (sqr (cr one) (cr third))))) (by decide)
  have v6 := get_set (i := 6) (env := e6.set 5 (some (pv G))) (x := some (pv (sqr (cr one) (cr third)))) (by rw [st7.len]; decide)
  obtain ⟨e10, s10, k10⟩ := blk10 (sb := sb) L cl i1 i3 st9 v6
  have st10 := st9.kp k10 (by decide)
  obtain ⟨q, hq, a2, b2, c2, ok2, s11⟩ := blk11 (sb := sb) L st10 (ex := ex3) ok1 (by omega)
  have st11 := st10.kp (Kp.set1 (i := 7) (x := some (fr q))) (by decide)
  have v7 := get_set (i := 7) (env := e10) (x := some (fr q)) (by rw [st10.len]; decide)
  obtain ⟨e13, o, u, s13, k13, v17, v18, hor⟩ := blk13 (F := callE P gv sb 11) (gv := gv) (sb := sb) (m := bagM ex3 a2 b2 c2 cs) i1 st11 hq v7
  have st13 := st11.kp k13 (by decide)
  have v7' := k13.get v7 (by decide)
  have s14 := blk14 (sb := sb) (m := bagM ex3 a2 b2 c2 cs) L i1 st13 hq v7' v17 v18 hor
  have s15 := blk15 (sb := sb) (m := bagM ex3 a2 b2 c2 cs) L i1 st13
  obtain ⟨j, hj, a3, b3, c3, ok3, s16⟩ := blk16 (sb := sb) L st13 (ex := ex3) ok2 (by omega)
  have st16 := st13.kp (Kp.set1 (i := 9) (x := some (.int j))) (by decide)
  have v9 := get_set (i := 9) (env := e13) (x := some (.int j)) (by rw [st13.len]; decide)
  have s17 := blk17 (sb := sb) (m := bagM ex3 a3 b3 c3 cs) L i1 st16 hj v9
  have s18 := blk18 (sb := sb) (m := bagM ex3 a3 b3 c3 cs) L i1 st16
  refine ⟨e13.set 9 (some (.int j)), ex3, a3, b3, c3, N1 + 2 + 1, st16.len, st16.b, hx3, by omega, ok3, ?_⟩
  have tail : evSs (callE P gv sb 11) gv sb [B14, B15, B16, B17, B18] e13 (bagM ex3 a2 b2 c2 cs) = .nx (e13.set 9 (some (.int j))) (bagM ex3 a3 b3 c3 cs) :=
    bNx s14 (bNx s15 (bNx s16 (bNx s17 (bNx s18 rfl))))
  have mid : evSs (callE P gv sb 11) gv sb ([B12, B13] ++ [B14, B15, B16, B17, B18]) (e10.set 7 (some (fr q))) (bagM ex3 a2 b2 c2 cs) = .nx (e13.set 9 (some (.int j))) (bagM ex3 a3 b3 c3 cs) := by
    rw [evSs_app, s13]
    exact tail
  exact bNx s1 (bNx s2 (bNx s3 (bNx s4 (bNx s5 (bNx s6 (bNx s7 (bNx s8 (bNx s9 (bNx s10 (bNx s11 mid))))))))))
theorem turns_ok (L : Lib P gv) (hs : sb 0 0 = some true) {cs : List Int} : ∀ (xs : List AV) (env : Env') (ex : Mem) (a b c : Int) (N : Nat), env.length = 22 → env[1]? = some (some (.ref 0)) → ExOk ex → BagOk N a b c cs → N + 40 * xs.length ≤ 700000 →
    ∃ e' m', forLoop (.nm 2) (fun env m => evSs (callE P gv sb 11) gv sb turnB env m) xs env (bagM ex a b c cs) = .nx e' m'
  | [], env, ex, a, b, c, N, _, _, _, _, _ => ⟨env, _, rfl⟩
  | x :: xs, env, ex, a, b, c, N, he, hb, hx, ok, hN => by
    rw [List.length_cons] at hN
    obtain ⟨e', ex', a', b', c', N', r1, r2, r3, r4, r5, r6⟩ := turn_ok (env := env.set 2 (some x)) L hs (by simp [he]) (by simp [hb]) hx ok (by omega)
    obtain ⟨e2, m2, h⟩ := turns_ok L hs xs e' ex' a' b' c' N' r1 r2 r3 r5 (by omega)
    exact ⟨e2, m2, (for_cons (e2 := env.set 2 (some x)) rfl r6).trans h⟩
theorem k70_ok (L : Lib P gv) (hs : sb 0 0 = some true) (h : P 36 = some F_k70) {ns : List Int} (hl : ns.length ≤ 63) : ∃ m, callE P gv sb 12 36 [.scr (ns.map .int)] [] = .ok (.bl true) m := by
  obtain ⟨cs, ok, t⟩ := lbag_ok (gv := gv) (sb := sb) (n := 10) L.bag hl
  obtain ⟨e', m', hf⟩ := turns_ok (sb := sb) L hs ((List.range 6).map fun (k : Nat) => AV.int k) ([some (.scr (iv ns)), some (.ref 0)] ++ List.replicate 20 none) [] 0 1234567891 0 0 rfl rfl (fun o ho => by cases ho) ok (by decide)
  rw [callE_eq h rfl]
  have e0 : ([AV.scr (ns.map .int)].map some ++ List.replicate (F_k70.n - F_k70.ps) none) = some (.scr (iv ns)) :: List.replicate 21 none := rfl
  rw [e0]
  have e6 : evSs (callE P gv sb 11) gv sb F_k70.body (some (.scr (iv ns)) :: List.replicate 21 none) [] = .rt (.bl true) m' := by
    refine bNx (e1 := [some (.scr (iv ns)), some (.ref 0)] ++ List.replicate 20 none) (m1 := bagM [] 0 1234567891 0 cs) (sSet (rCall (rCons (evE_v rfl) rNil) t)) ?_
    exact bNx ((for_ok (ss := [.int 6]) (xs := (List.range 6).map fun (k : Nat) => AV.int k) (rCons rfl rNil) (rng_ok (j := 6) (by decide))).trans hf) (bRt (sRet rfl))
  rw [e6]
  exact ⟨_, rfl⟩
end
end PI
namespace K70
open PySem PySem.Spec PyProof.Rows L2 PI
abbrev PP := PySem.Challenge.pw_streamwebs_k70_polynomials
def top (i : Nat) : Stmt := PP.main.body.getD i (.Pass ⟨0, 0, 0, 0⟩)
def dOf (i : Nat) : He.DefD := match top i with
  | .FunctionDef n a b _ _ _ sc _ _ _ => ⟨(n, none), n, n, a, b, sc, [], []⟩
  | _ => ⟨("", none), "", "", ⟨[], [], none, [], [], none, []⟩, [], ⟨.function, [], false, false, []⟩, [], []⟩
/-! the program of k70 as data of the evaluator: printed by gen.py -/
def f_is_int : FD := ⟨1, 1,
    [.ret (.and [.isi (.v 0) .int, .not (.isi (.v 0) .bool)])]⟩
def f_common_divisor : FD := ⟨2, 2,
    [.par 0 1 (.bi .abs [.v 0]) (.bi .abs [.v 1]),
      .wh (.cmp .ne (.v 1) (.int 0)) [.par 0 1 (.v 1) (.bin .mod (.v 0) (.v 1))],
      .ret (.v 0)]⟩
def f_made : FD := ⟨4, 2,
    [.ite (.or [.not (.call 0 [.v 0]), .not (.call 0 [.v 1]), .cmp .eq (.v 1) (.int 0)]) [.rais 0] [],
      .set 2 (.call 1 [.v 0, .v 1]),
      .set 3 (.ite (.cmp .gt (.v 1) (.int 0)) (.int 1) (.neg (.int 1))),
      .ret (.tup [.bin .fdiv (.bin .mul (.v 3) (.v 0)) (.v 2), .bin .fdiv (.bin .mul (.v 3) (.v 1)) (.v 2)])]⟩
def f_plus : FD := ⟨2, 2,
    [.ret (.call 2 [.bin .add (.bin .mul (.sub (.v 0) (.int 0)) (.sub (.v 1) (.int 1))) (.bin .mul (.sub (.v 1) (.int 0)) (.sub (.v 0) (.int 1))), .bin .mul (.sub (.v 0) (.int 1)) (.sub (.v 1) (.int 1))])]⟩
def f_times : FD := ⟨2, 2,
    [.ret (.call 2 [.bin .mul (.sub (.v 0) (.int 0)) (.sub (.v 1) (.int 0)), .bin .mul (.sub (.v 0) (.int 1)) (.sub (.v 1) (.int 1))])]⟩
def f_over_by : FD := ⟨2, 2,
    [.ret (.call 2 [.bin .mul (.sub (.v 0) (.int 0)) (.sub (.v 1) (.int 1)), .bin .mul (.sub (.v 0) (.int 1)) (.sub (.v 1) (.int 0))])]⟩
def f_is_count : FD := ⟨1, 1,
    [.ret (.and [.call 0 [.v 0], .cmp .ge (.v 0) (.int 0)])]⟩
def f_trimmed : FD := ⟨2, 1,
    [.set 1 (.bi .len [.v 0]),
      .wh (.and [.cmp .gt (.v 1) (.int 0), .cmp .eq (.sub (.v 0) (.bin .sub (.v 1) (.int 1))) (.g 0)]) [.aug 1 .sub (.int 1)],
      .ret (.bi .tuple [.slc (.v 0) none (some (.v 1))])]⟩
def f_term : FD := ⟨2, 2,
    [.ret (.ite (.chn .le .lt (.int 0) (.v 1) (.bi .len [.v 0])) (.sub (.v 0) (.v 1)) (.g 0))]⟩
def f_opposite : FD := ⟨3, 1,
    [.ret (.bi .tuple [.lc (.tup [.neg (.v 1), .v 2]) [1, 2] (.tu [1, 2]) 0 [.v 0] none])]⟩
def f_poly_plus : FD := ⟨4, 2,
    [.set 2 (.bi .max [.bi .len [.v 0], .bi .len [.v 1]]),
      .ret (.call 7 [.lc (.call 3 [.call 8 [.v 0, .v 3], .call 8 [.v 1, .v 3]]) [3] (.nm 3) 1 [.v 2] none])]⟩
def f_poly_minus : FD := ⟨2, 2,
    [.ret (.call 10 [.v 0, .call 9 [.v 1]])]⟩
def f_scaled : FD := ⟨3, 2,
    [.ret (.ite (.cmp .eq (.v 1) (.g 0)) (.tup []) (.bi .tuple [.lc (.call 4 [.v 2, .v 1]) [2] (.nm 2) 0 [.v 0] none]))]⟩
def f_shifted : FD := ⟨2, 2,
    [.ret (.ite (.cmp .eq (.v 0) (.tup [])) (.tup []) (.bin .add (.bin .mul (.tup [.g 0]) (.v 1)) (.v 0)))]⟩
def f_poly_times : FD := ⟨7, 2,
    [.ite (.or [.cmp .eq (.v 0) (.tup []), .cmp .eq (.v 1) (.tup [])]) [.ret (.tup [])] [],
      .set 2 (.mk (.bin .mul (.lst [.g 0]) (.bin .sub (.bin .add (.bi .len [.v 0]) (.bi .len [.v 1])) (.int 1)))),
      .for_ (.tu [3, 4]) 2 [.v 0] [.ite (.cmp .ne (.v 4) (.g 0)) [.for_ (.tu [5, 6]) 2 [.v 1] [.subs (.v 2) (.bin .add (.v 3) (.v 5)) (.call 3 [.sub (.v 2) (.bin .add (.v 3) (.v 5)), .call 4 [.v 4, .v 6]])]] []],
      .ret (.call 7 [.v 2])]⟩
def f_to_power : FD := ⟨4, 2,
    [.ite (.not (.call 6 [.v 1])) [.rais 0] [],
      .set 2 (.tup [.g 1]),
      .for_ (.nm 3) 1 [.v 1] [.set 2 (.call 14 [.v 2, .v 0])],
      .ret (.v 2)]⟩
def f_divided : FD := ⟨10, 2,
    [.ite (.cmp .eq (.v 1) (.tup [])) [.rais 0] [],
      .par 3 4 (.mk (.bi .list [.v 0])) (.mk (.bin .mul (.lst [.g 0]) (.bi .max [.int 0, .bin .add (.bin .sub (.bi .len [.v 0]) (.bi .len [.v 1])) (.int 1)]))),
      .for_ (.nm 2) 1 [.bin .sub (.bi .len [.v 0]) (.bi .len [.v 1]), .neg (.int 1), .neg (.int 1)] [.set 5 (.call 5 [.sub (.v 3) (.bin .sub (.bin .add (.v 2) (.bi .len [.v 1])) (.int 1)), .sub (.v 1) (.neg (.int 1))]),
      .subs (.v 4) (.v 2) (.v 5),
      .ite (.cmp .ne (.v 5) (.g 0)) [.for_ (.tu [6, 7]) 2 [.v 1] [.setT [8, 9] (.call 4 [.v 5, .v 7]),
      .subs (.v 3) (.bin .add (.v 2) (.v 6)) (.call 3 [.sub (.v 3) (.bin .add (.v 2) (.v 6)), .tup [.neg (.v 8), .v 9]])]] []],
      .ret (.tup [.call 7 [.v 4], .call 7 [.v 3]])]⟩
def f_with_unit : FD := ⟨1, 1,
    [.ret (.ite (.cmp .eq (.v 0) (.tup [])) (.tup []) (.call 12 [.v 0, .call 5 [.g 1, .sub (.v 0) (.neg (.int 1))]]))]⟩
def f_common : FD := ⟨2, 2,
    [.wh (.cmp .ne (.v 1) (.tup [])) [.par 0 1 (.v 1) (.call 17 [.sub (.call 16 [.v 0, .v 1]) (.int 1)])],
      .ret (.call 17 [.v 0])]⟩
def f_value_at : FD := ⟨4, 2,
    [.set 2 (.g 0),
      .for_ (.nm 3) 0 [.rev (.v 0)] [.set 2 (.call 3 [.call 4 [.v 2, .v 1], .v 3])],
      .ret (.v 2)]⟩
def f_derived : FD := ⟨3, 1,
    [.ret (.call 7 [.slc (.lc (.call 4 [.tup [.v 1, .int 1], .v 2]) [1, 2] (.tu [1, 2]) 2 [.v 0] none) (some (.int 1)) none])]⟩
def f_squarefree : FD := ⟨1, 1,
    [.ite (.cmp .eq (.v 0) (.tup [])) [.ret (.tup [])] [],
      .ret (.call 17 [.sub (.call 16 [.v 0, .call 18 [.v 0, .call 20 [.v 0]]]) (.int 0)])]⟩
def f_lowest : FD := ⟨4, 1,
    [.set 1 (.lc (.v 2) [2, 3] (.tu [2, 3]) 2 [.v 0] (some (.cmp .ne (.v 3) (.g 0)))),
      .ite (.cmp .eq (.v 1) (.lst [])) [.rais 0] [],
      .ret (.sub (.v 1) (.int 0))]⟩
def f_turned : FD := ⟨1, 1,
    [.ret (.call 7 [.bi .list [.rev (.v 0)]])]⟩
def f__law_bag : FD := ⟨2, 1,
    [.ret (.mk (.lst [.int 0, .int 1234567891, .int 0, .lc (.bi .abs [.v 1]) [1] (.nm 1) 0 [.slc (.v 0) none (some (.int 63))] none]))]⟩
def f__law_take : FD := ⟨7, 2,
    [.ite (.cmp .eq (.sub (.v 0) (.int 0)) (.int 0)) [.set 4 (.sub (.bin .add (.slc (.sub (.v 0) (.int 3)) (some (.sub (.v 0) (.int 2))) none) (.lst [.int 0])) (.int 0)),
      .augs (.v 0) (.int 2) .add (.int 1),
      .ite (.cmp .ge (.v 4) (.bin .pow (.int 10) (.int 18))) [.subs (.v 0) (.int 0) (.v 4)] [],
      .set 5 (.bin .add (.bin .add (.bin .mul (.sub (.v 0) (.int 1)) (.int 48271)) (.bin .mod (.bi .int [.v 4]) (.int 2147483647))) (.bin .mul (.int 7919) (.sub (.v 0) (.int 2)))),
      .subs (.v 0) (.int 1) (.bin .mod (.bi .int [.v 5]) (.int 2147483647))] [],
      .ite (.cmp .gt (.sub (.v 0) (.int 0)) (.int 0)) [.set 6 (.bin .mod (.bi .int [.sub (.v 0) (.int 0)]) (.v 1)),
      .subs (.v 0) (.int 0) (.bin .fdiv (.bi .int [.sub (.v 0) (.int 0)]) (.v 1)),
      .ret (.v 6)] [],
      .set 2 (.bin .mod (.bi .int [.bin .mul (.bin .add (.sub (.v 0) (.int 1)) (.int 1)) (.int 39373)]) (.int 1000000007)),
      .set 3 (.bin .mod (.bi .int [.bin .mul (.bin .mod (.bi .int [.bin .mul (.v 2) (.v 2)]) (.int 998244353)) (.int 30011)]) (.int 998244353)),
      .ret (.bin .mod (.bi .int [.bin .fdiv (.v 3) (.int 7)]) (.v 1))]⟩
def f__law_alike : FD := ⟨2, 2,
    [.ret (.and [.cmp .eq (.bi .repr [.v 0]) (.bi .repr [.v 1]), .cmp .eq (.v 0) (.v 1)])]⟩
def f__law_gcd : FD := ⟨2, 2,
    [.par 0 1 (.bi .abs [.v 0]) (.bi .abs [.v 1]),
      .wh (.cmp .gt (.v 1) (.int 0)) [.par 0 1 (.v 1) (.bin .mod (.v 0) (.v 1))],
      .ret (.v 0)]⟩
def f__law_fraction : FD := ⟨4, 2,
    [.set 2 (.call 27 [.v 0, .v 1]),
      .set 3 (.ite (.cmp .lt (.v 1) (.int 0)) (.neg (.int 1)) (.int 1)),
      .ret (.tup [.bin .fdiv (.bin .mul (.v 3) (.v 0)) (.v 2), .bin .fdiv (.bin .mul (.v 3) (.v 1)) (.v 2)])]⟩
def f__law_trim : FD := ⟨1, 1,
    [.wh (.and [.cmp .ne (.v 0) (.lst []), .cmp .eq (.sub (.v 0) (.neg (.int 1))) (.int 0)]) [.set 0 (.slc (.v 0) none (some (.neg (.int 1))))],
      .ret (.v 0)]⟩
def f__law_padd : FD := ⟨4, 2,
    [.set 2 (.bi .max [.bi .len [.v 0], .bi .len [.v 1]]),
      .ret (.call 29 [.lc (.bin .add (.ite (.cmp .lt (.v 3) (.bi .len [.v 0])) (.sub (.v 0) (.v 3)) (.int 0)) (.ite (.cmp .lt (.v 3) (.bi .len [.v 1])) (.sub (.v 1) (.v 3)) (.int 0))) [3] (.nm 3) 1 [.v 2] none])]⟩
def f__law_pneg : FD := ⟨2, 1,
    [.ret (.lc (.neg (.v 1)) [1] (.nm 1) 0 [.v 0] none)]⟩
def f__law_pmul : FD := ⟨5, 2,
    [.set 2 (.mk (.bin .mul (.lst [.int 0]) (.bi .max [.int 0, .bin .sub (.bin .add (.bi .len [.v 0]) (.bi .len [.v 1])) (.int 1)]))),
      .for_ (.nm 3) 1 [.bi .len [.v 0]] [.for_ (.nm 4) 1 [.bi .len [.v 1]] [.subs (.v 2) (.bin .add (.v 3) (.v 4)) (.bin .add (.sub (.v 2) (.bin .add (.v 3) (.v 4))) (.bin .mul (.sub (.v 0) (.v 3)) (.sub (.v 1) (.v 4))))]],
      .ret (.call 29 [.v 2])]⟩
def f__law_poly : FD := ⟨2, 1,
    [.ret (.bi .tuple [.lc (.tup [.v 1, .int 1]) [1] (.nm 1) 0 [.call 29 [.bi .list [.v 0]]] none])]⟩
def f__law_ints : FD := ⟨3, 2,
    [.ret (.call 29 [.lc (.bin .sub (.call 25 [.v 0, .int 7]) (.int 3)) [2] (.nm 2) 1 [.call 25 [.v 0, .bin .add (.v 1) (.int 1)]] none])]⟩
def f__law_made : FD := ⟨2, 1,
    [.ret (.bi .tuple [.lc (.call 28 [.v 1, .sub (.v 0) (.neg (.int 1))]) [1] (.nm 1) 0 [.v 0] none])]⟩
def f_law : FD := ⟨22, 1,
    [.set 1 (.call 24 [.v 0]),
      .for_ (.nm 2) 1 [.int 6] [.setT [10, 11, 12] (.tup [(.call 34 [.v 1, .int 4]), (.call 34 [.v 1, .int 4]), (.call 34 [.v 1, .int 3])]),
      .par3 13 14 15 (.call 33 [.v 10]) (.call 33 [.v 11]) (.call 33 [.v 12]),
      .set 3 (.lst [.call 33 [.call 30 [.v 10, .v 11]], .call 33 [.call 30 [.v 10, .call 31 [.v 11]]], .call 33 [.call 32 [.v 10, .v 11]]]),
      .ite (.not (.call 26 [.lst [.call 10 [.v 13, .v 14], .call 11 [.v 13, .v 14], .call 14 [.v 13, .v 14]], .v 3])) [.ret (.bl false)] [],
      .for_ (.nm 4) 0 [.tup [.tup [.v 13, .tup []], .tup [.v 14, .tup []]]] [.tryc [.ex (.call 16 [.sub (.v 4) (.int 0), .sub (.v 4) (.int 1)]),
      .ret (.bl false)] 0 [.pass]],
      .ite (.cmp .ne (.v 11) (.lst [])) [.setT [19, 20] (.call 16 [.v 13, .v 14]),
      .ite (.or [.cmp .ne (.call 10 [.call 14 [.v 19, .v 14], .v 20]) (.v 13), .and [.cmp .ge (.bi .len [.v 20]) (.bi .len [.v 14]), .cmp .ne (.v 14) (.tup [])]]) [.ret (.bl false)] [],
      .ite (.cmp .ne (.call 16 [.call 14 [.v 13, .v 14], .v 14]) (.tup [.v 13, .tup []])) [.ret (.bl false)] []] [],
      .set 5 (.call 18 [.call 14 [.v 13, .v 15], .call 14 [.v 14, .v 15]]),
      .ite (.or [.and [.cmp .eq (.v 10) (.lst []), .cmp .eq (.v 11) (.lst [])], .cmp .eq (.v 12) (.lst [])]) [.ite (.cmp .ne (.v 5) (.tup [])) [.ret (.bl false)] []] [.ite (.or [.cmp .ne (.sub (.v 5) (.neg (.int 1))) (.tup [.int 1, .int 1]), .cmp .ne (.sub (.call 16 [.call 14 [.v 13, .v 15], .v 5]) (.int 1)) (.tup []), .cmp .ne (.sub (.call 16 [.call 14 [.v 14, .v 15], .v 5]) (.int 1)) (.tup [])]) [.ret (.bl false)] [],
      .ite (.or [.cmp .ne (.sub (.call 16 [.v 5, .call 17 [.v 15]]) (.int 1)) (.tup []), .not (.call 26 [.call 17 [.v 15], .call 35 [.v 12]])]) [.ret (.bl false)] []],
      .set 6 (.call 14 [.call 14 [.v 13, .v 13], .v 15]),
      .ite (.cmp .ne (.v 6) (.tup [])) [.set 16 (.call 21 [.v 6]),
      .ite (.or [.cmp .ne (.call 18 [.v 16, .call 20 [.v 16]]) (.tup [.tup [.int 1, .int 1]]), .cmp .ne (.sub (.call 16 [.v 6, .v 16]) (.int 1)) (.tup []), .cmp .ne (.sub (.call 16 [.call 15 [.v 16, .bi .len [.v 6]], .call 17 [.v 6]]) (.int 1)) (.tup [])]) [.ret (.bl false)] []] [],
      .set 7 (.call 28 [.bin .sub (.call 25 [.v 1, .int 9]) (.int 4), .bin .add (.int 1) (.call 25 [.v 1, .int 3])]),
      .setT [17, 18] (.tup [(.int 0), (.int 1)]),
      .for_ (.nm 8) 0 [.rev (.v 10)] [.par 17 18 (.bin .add (.bin .mul (.v 17) (.sub (.v 7) (.int 0))) (.bin .mul (.bin .mul (.v 8) (.v 18)) (.sub (.v 7) (.int 1)))) (.bin .mul (.v 18) (.sub (.v 7) (.int 1)))],
      .ite (.cmp .ne (.call 19 [.v 13, .v 7]) (.call 28 [.v 17, .v 18])) [.ret (.bl false)] [],
      .ite (.or [.not (.call 26 [.call 20 [.v 13], .call 33 [.lc (.bin .mul (.v 21) (.sub (.v 10) (.v 21))) [21] (.nm 21) 1 [.int 1, .bi .len [.v 10]] none]]), .not (.call 26 [.call 23 [.v 13], .call 33 [.rev (.v 10)]])]) [.ret (.bl false)] [],
      .set 9 (.call 25 [.v 1, .int 4]),
      .ite (.not (.call 26 [.call 13 [.v 13, .v 9], .ite (.cmp .ne (.v 10) (.lst [])) (.call 33 [.bin .add (.bin .mul (.lst [.int 0]) (.v 9)) (.v 10)]) (.tup [])])) [.ret (.bl false)] [],
      .ite (.and [.cmp .ne (.v 10) (.lst []), .or [.cmp .ne (.call 22 [.v 13]) (.bi .min [.lc (.v 21) [21] (.nm 21) 1 [.bi .len [.v 10]] (some (.cmp .ne (.sub (.v 10) (.v 21)) (.int 0)))]), .cmp .ne (.call 12 [.v 13, .tup [.int 0, .int 1]]) (.tup [])]]) [.ret (.bl false)] []],
      .ret (.bl true)]⟩
def tops : List (Nat × List PySem.Str × List PySem.Str × FD) := [
  (5, ((["thing"] : List PySem.Str)), ((["thing"] : List PySem.Str)), f_is_int),
  (6, ((["one", "other"] : List PySem.Str)), ((["one", "other"] : List PySem.Str)), f_common_divisor),
  (7, ((["over", "under", "its", "sign"] : List PySem.Str)), ((["over", "under"] : List PySem.Str)), f_made),
  (8, ((["one", "other"] : List PySem.Str)), ((["one", "other"] : List PySem.Str)), f_plus),
  (9, ((["one", "other"] : List PySem.Str)), ((["one", "other"] : List PySem.Str)), f_times),
  (10, ((["one", "other"] : List PySem.Str)), ((["one", "other"] : List PySem.Str)), f_over_by),
  (12, ((["thing"] : List PySem.Str)), ((["thing"] : List PySem.Str)), f_is_count),
  (16, ((["terms", "many"] : List PySem.Str)), ((["terms"] : List PySem.Str)), f_trimmed),
  (17, ((["poly", "power"] : List PySem.Str)), ((["poly", "power"] : List PySem.Str)), f_term),
  (18, ((["poly", "over", "under"] : List PySem.Str)), ((["poly"] : List PySem.Str)), f_opposite),
  (19, ((["one", "other", "many", "power"] : List PySem.Str)), ((["one", "other"] : List PySem.Str)), f_poly_plus),
  (20, ((["one", "other"] : List PySem.Str)), ((["one", "other"] : List PySem.Str)), f_poly_minus),
  (21, ((["poly", "fraction", "one"] : List PySem.Str)), ((["poly", "fraction"] : List PySem.Str)), f_scaled),
  (22, ((["poly", "many"] : List PySem.Str)), ((["poly", "many"] : List PySem.Str)), f_shifted),
  (23, ((["one", "other", "found", "at", "mine", "place", "its"] : List PySem.Str)), ((["one", "other"] : List PySem.Str)), f_poly_times),
  (24, ((["poly", "many", "found", "lap"] : List PySem.Str)), ((["poly", "many"] : List PySem.Str)), f_to_power),
  (25, ((["one", "other", "at", "rest", "found", "factor", "place", "its", "over", "under"] : List PySem.Str)), ((["one", "other"] : List PySem.Str)), f_divided),
  (26, ((["poly"] : List PySem.Str)), ((["poly"] : List PySem.Str)), f_with_unit),
  (27, ((["one", "other"] : List PySem.Str)), ((["one", "other"] : List PySem.Str)), f_common),
  (28, ((["poly", "fraction", "found", "one"] : List PySem.Str)), ((["poly", "fraction"] : List PySem.Str)), f_value_at),
  (29, ((["poly", "power", "one"] : List PySem.Str)), ((["poly"] : List PySem.Str)), f_derived),
  (30, ((["poly"] : List PySem.Str)), ((["poly"] : List PySem.Str)), f_squarefree),
  (31, ((["poly", "powers", "power", "one"] : List PySem.Str)), ((["poly"] : List PySem.Str)), f_lowest),
  (32, ((["poly"] : List PySem.Str)), ((["poly"] : List PySem.Str)), f_turned),
  (34, ((["script", "cell"] : List PySem.Str)), ((["script"] : List PySem.Str)), f__law_bag),
  (35, ((["bag", "many", "begin", "second", "cell", "stirred", "value"] : List PySem.Str)), ((["bag", "many"] : List PySem.Str)), f__law_take),
  (36, ((["found", "due"] : List PySem.Str)), ((["found", "due"] : List PySem.Str)), f__law_alike),
  (37, ((["one", "other"] : List PySem.Str)), ((["one", "other"] : List PySem.Str)), f__law_gcd),
  (38, ((["over", "under", "shared", "sign"] : List PySem.Str)), ((["over", "under"] : List PySem.Str)), f__law_fraction),
  (39, ((["poly"] : List PySem.Str)), ((["poly"] : List PySem.Str)), f__law_trim),
  (40, ((["one", "other", "many", "k"] : List PySem.Str)), ((["one", "other"] : List PySem.Str)), f__law_padd),
  (41, ((["poly", "term_v"] : List PySem.Str)), ((["poly"] : List PySem.Str)), f__law_pneg),
  (42, ((["one", "other", "found", "k", "m"] : List PySem.Str)), ((["one", "other"] : List PySem.Str)), f__law_pmul),
  (43, ((["terms", "term_v"] : List PySem.Str)), ((["terms"] : List PySem.Str)), f__law_poly),
  (44, ((["bag", "many", "k"] : List PySem.Str)), ((["bag", "many"] : List PySem.Str)), f__law_ints),
  (45, ((["poly", "term_v"] : List PySem.Str)), ((["poly"] : List PySem.Str)), f__law_made),
  (46, ((["script", "bag", "turn", "due", "odd", "both", "square", "at", "term_v", "many", "one", "other", "third", "mine", "its", "shared", "flat", "over", "under", "quotient", "rest", "k"] : List PySem.Str)), ((["script"] : List PySem.Str)), f_law)]
def consts : List (PySem.Str × AV) := [("NIL", .tup [.int 0, .int 1]), ("UNIT", .tup [.int 1, .int 1])]
def pd : PD := ⟨consts, tops.map fun q => ⟨dOf q.1, q.2.1, q.2.2.1, q.2.2.2⟩, ((["Nothing"] : List PySem.Str)), [[true]], ((["isinstance", "int", "bool", "abs", "len", "tuple", "max", "range", "enumerate", "list", "repr", "min"] : List PySem.Str))⟩
-- names by number: 0=is_int 1=common_divisor 2=made 3=plus 4=times 5=over_by 6=is_count 7=trimmed 8=term 9=opposite 10=poly_plus 11=poly_minus 12=scaled 13=shifted 14=poly_times 15=to_power 16=divided 17=with_unit 18=common 19=value_at 20=derived 21=squarefree 22=lowest 23=turned 24=_law_bag 25=_law_take 26=_law_alike 27=_law_gcd 28=_law_fraction 29=_law_trim 30=_law_padd 31=_law_pneg 32=_law_pmul 33=_law_poly 34=_law_ints 35=_law_made 36=law
theorem ok : pd.ok = true := by decide +kernel
end K70
namespace K70
open PySem PySem.Spec PyProof.Rows L2 PI
abbrev R : PySem.W.OpenRow := PySem.W.OpenLaw.row PySem.Challenge.rw_streamwebs_k70_polynomials
abbrev hk : PySem.W.Hook := pd.hook 4
def ob (s : PySem.W.SharedT) : Bool × He.AlD := pd.obs 4 (HandSHeadRun.getT s)
theorem ob_eq (s : PySem.W.SharedT) : ob s = hk.obs s.abs := PD.obs_eq (HandSHeadRun.getT_eq s)
def names : List PySem.Str := ((["_wall", "StreamError", "Nothing", "is_int", "common_divisor", "made", "plus", "times", "over_by", "is_count", "NIL", "UNIT", "trimmed", "term", "opposite", "poly_plus", "poly_minus", "scaled", "shifted", "poly_times", "to_power", "divided", "with_unit", "common", "value_at", "derived", "squarefree", "lowest", "turned", "_law_bag", "_law_take", "_law_alike"] : List PySem.Str) ++ (["_law_gcd", "_law_fraction", "_law_trim", "_law_padd", "_law_pneg", "_law_pmul", "_law_poly", "_law_ints", "_law_made"] : List PySem.Str))
theorem run (w : World) : HandSHeadRun.RunEq R (PySem.W.view R.prog [46]) hk ob 4000 names w := by
  intro os
  kernel_rfl
theorem lib : Lib pd.prg.P pd.prg.gv where
  po := ⟨⟨rfl, rfl, rfl, rfl, rfl⟩, rfl, rfl, rfl, rfl, rfl, rfl, rfl⟩
  cnt := rfl
  trm := rfl
  opp := rfl
  padd := rfl
  pmin := rfl
  shift := rfl
  ptim := rfl
  tpow := rfl
  comm := rfl
  valat := rfl
  der := rfl
  sqf := rfl
  low := rfl
  turn := rfl
  bag := rfl
  take := rfl
  alike := rfl
  gcd := rfl
  frac := rfl
  ltrim := rfl
  lpadd := rfl
  lpneg := rfl
  lpmul := rfl
  lpoly := rfl
  lints := rfl
  lmade := rfl
theorem yes (ns : List Int) (h : ns.length ≤ 63) : pd.yes 12 36 ns := k70_ok lib rfl rfl h
end K70
open PySem PySem.W PySem.Calls PyProof.Rows
theorem PySem.Challenge.cw_streamwebs_k70_polynomials_holds : PySem.Challenge.rw_streamwebs_k70_polynomials.Holds := by
  w_on; o_law
  refine HandSHeadRun.head_any (r := OpenLaw.row PySem.Challenge.rw_streamwebs_k70_polynomials) (q := view (OpenLaw.row PySem.Challenge.rw_streamwebs_k70_polynomials).prog [46]) (H := K70.hk) (ob := K70.ob) (M := 4000) (loose := K70.names) (d := HandSHeadRun.topDef (OpenLaw.row PySem.Challenge.rw_streamwebs_k70_polynomials).prog 46) (kwd := []) K70.ob_eq
    (by kernel_rfl) (fun s => by kernel_rfl) K70.run (by kernel_rfl) (by kernel_rfl) (by kernel_rfl) (by rfl) (by first | assumption | decide +kernel) (by decide +kernel) ⟨rfl, rfl, rfl, rfl, rfl, by decide +kernel⟩ ?hw ?hc
  case hw => w_witness2
  case hc => exact PI.walkG (l := PySem.Challenge.rw_streamwebs_k70_polynomials) (most := 63) (n := 12) (kl := 36) (dl := ⟨K70.dOf 46, ((["script", "bag", "turn", "due", "odd", "both", "square", "at", "term_v", "many", "one", "other", "third", "mine", "its", "shared", "flat", "over", "under", "quotient", "rest", "k"] : List PySem.Str)), ["script"], K70.f_law⟩) (x := "script") rfl (by decide) (by kernel_rfl) ⟨rfl, by decide, by decide⟩ K70.ok (by rfl) (by kernel_rfl) rfl K70.yes
