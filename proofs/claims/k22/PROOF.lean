import PyProof.Rows.All
import PySem.Challenge.RW_wiresquares_k22_whole_needless
import Wide.All
import OpenK.AllK
import Wide.FinOn
import HandS.ForExc
import HandS.Comp
import HandS.Deep
import HandS.Iter
import HandS.Dict
import HandS.Text
import HandS.TupAny
import HandS.TupLe
import HandS.Defaults
import HandS.HeadHook1
import HandS.HeadHook2
import HandS.ExcCtx
import HandS.HotCalls
import HandS.IsInst
import HandS.ExcIs
import HandS.Zip
import KE.GoesMore
import HandS.SortInts
import HandS.TupSets
import HandS.SetFor
import HandS.Strs
import HandS.Head0
import HandS.Head1
import HandS.Head2
import HandS.HeadEnd
import HandS.Conv
import KE.SortCalls
import HandS.SortOrd
set_option Elab.async false
set_option linter.all false
set_option maxRecDepth 100000
set_option maxHeartbeats 4000000
/-! DL1: data (D), what may come (M), what stands for what (Rep), the worlds' step. -/
namespace DL
open PySem PySem.Spec PyProof.Rows L2

inductive D where
  | non | bl (b : Bool) | int (i : Int) | str (s : Str) | tup (l : List D) | lst (l : List D) | obj (n : Nat) | exc (c : Str) | scr (is : List Int) | dic (kvs : List (List Key × D))

structure Cell where
  cls : Str
  fs : List (Str × D)
abbrev Store := List Cell

inductive Out (α : Type) where
  | ok (a : α) (S : Store)
  | ex (c : Str) (S : Store)
  | bad

def M (α : Type) : Type := Store → Out α
def M.bind' {α β : Type} (x : M α) (f : α → M β) : M β := fun S => match x S with
  | .ok a S' => f a S'
  | .ex c S' => .ex c S'
  | .bad => .bad
instance : Monad M where
  pure a := fun S => .ok a S
  bind := M.bind'
def M.bad {α : Type} : M α := fun _ => .bad
def M.raise {α : Type} (c : Str) : M α := fun S => .ex c S

/-- under a condition; nothing looks at it by running -/
noncomputable def gd {α : Type} (P : Prop) (x : M α) : M α := @ite _ P (Classical.propDecidable P) x M.bad
theorem gd_pos {α : Type} {P : Prop} {x : M α} (h : P) : gd P x = x := @if_pos _ (Classical.propDecidable P) h _ _ _
theorem gd_neg {α : Type} {P : Prop} {x : M α} (h : ¬ P) : gd P x = M.bad := @if_neg _ (Classical.propDecidable P) h _ _ _
@[simp] theorem M.pure_bind {α β : Type} (a : α) (f : α → M β) : (pure a >>= f) = f a := rfl
@[simp] theorem M.raise_bind {α β : Type} (c : Str) (f : α → M β) : ((M.raise c : M α) >>= f) = M.raise c := rfl
@[simp] theorem M.bad_bind {α β : Type} (f : α → M β) : ((M.bad : M α) >>= f) = M.bad := rfl
theorem M.bind_assoc {α β γ : Type} (x : M α) (f : α → M β) (g : β → M γ) : ((x >>= f) >>= g) = (x >>= fun a => f a >>= g) := by
  funext S
  show M.bind' (M.bind' x f) g S = M.bind' x (fun a => M.bind' (f a) g) S
  unfold M.bind'
  cases x S <;> rfl
theorem M.bind_pure {α : Type} (x : M α) : (x >>= pure) = x := by
  funext S
  show M.bind' x (fun a S => .ok a S) S = x S
  unfold M.bind'
  cases x S <;> rfl

structure Wd where
  B : Hp
  ad : List (Addr × Addr)
  S : Store
  exs : List (Addr × Str)

mutual
inductive Rep (K : PySem.W.Frag) (w : Wd) : V → D → Prop
  | non : Rep K w .non .non
  | bl (b : Bool) : Rep K w (.bl b) (.bl b)
  | int (i : Int) : Rep K w (.int i) (.int i)
  | str (x : Str) : Rep K w (.str x) (.str x)
  | lst {a : Addr} {xs : List V} {ds : List D} : w.B a = some (.lst xs) → RepAll K w xs ds → Rep K w (.ref a) (.lst ds)
  | tup {a : Addr} {xs : List V} {ds : List D} : SqT K w.B a xs → RepAll K w xs ds → Rep K w (.ref a) (.tup ds)
  | obj {n : Nat} {p : Addr × Addr} : w.ad[n]? = some p → Rep K w (.ref p.1) (.obj n)
  | exc {a : Addr} {c : Str} : (a, c) ∈ w.exs → Rep K w (.ref a) (.exc c)
  | scr {a : Addr} {is : List Int} : SqL K w.B a (is.map V.int) → Rep K w (.ref a) (.scr is)
inductive RepAll (K : PySem.W.Frag) (w : Wd) : List V → List D → Prop
  | nil : RepAll K w [] []
  | cons {v : V} {vs : List V} {d : D} {ds : List D} : Rep K w v d → RepAll K w vs ds → RepAll K w (v :: vs) (d :: ds)
end

def RepF (K : PySem.W.Frag) (w : Wd) (vs : List (Str × V)) (fs : List (Str × D)) : Prop :=
  vs.map (·.1) = fs.map (·.1) ∧ RepAll K w (vs.map (·.2)) (fs.map (·.2))

structure OkW (K : PySem.W.Frag) (w : Wd) (H : Hp) : Prop where
  sub : ∀ a o, w.B a = some o → H a = some o
  len : w.ad.length = w.S.length
  obj : ∀ (n : Nat) (p : Addr × Addr) (c : Cell), w.ad[n]? = some p → w.S[n]? = some c → ∃ vs, H p.1 = some (.ins (He.ga K c.cls) p.2 vs) ∧ RepF K w vs c.fs ∧ vs.length ≤ 900 ∧ w.B p.1 = none
  inj : ∀ (n m : Nat) (p q : Addr × Addr), w.ad[n]? = some p → w.ad[m]? = some q → p.1 = q.1 → n = m

structure Step (w : Wd) (H : Hp) (w' : Wd) (H' : Hp) : Prop where
  b : ∀ a o, w.B a = some o → w'.B a = some o
  ad : ∃ more, w'.ad = w.ad ++ more ∧ ∀ p ∈ more, H p.1 = none
  h : ∀ a o, H a = some o → (∀ C dx fs, o ≠ .ins C dx fs) → H' a = some o
  i : ∀ a C dx fs, H a = some (.ins C dx fs) → ∃ fs', H' a = some (.ins C dx fs')
  f : ∀ a o, w'.B a = some o → w.B a = some o ∨ H a = none
  e : w'.exs = w.exs

theorem Step.refl (w : Wd) (H : Hp) : Step w H w H := ⟨fun _ _ h => h, ⟨[], (List.append_nil _).symm, fun _ h => nomatch h⟩, fun _ _ h _ => h, fun _ _ _ fs h => ⟨fs, h⟩, fun _ _ h => .inl h, rfl⟩
theorem Step.there {w w' : Wd} {H H' : Hp} (s : Step w H w' H') {a : Addr} {o : HO} (h : H a = some o) : ∃ o', H' a = some o' := by
  by_cases c : ∃ C dx fs, o = .ins C dx fs
  · obtain ⟨C, dx, fs, rfl⟩ := c
    obtain ⟨fs', e⟩ := s.i a C dx fs h
    exact ⟨_, e⟩
  · exact ⟨o, s.h a o h fun C dx fs e => c ⟨C, dx, fs, e⟩⟩
theorem Step.free {w w' : Wd} {H H' : Hp} (s : Step w H w' H') {a : Addr} (h : H' a = none) : H a = none := by
  cases e : H a with
  | none => rfl
  | some o =>
    obtain ⟨o', e'⟩ := s.there e
    rw [h] at e'; cases e'
theorem Step.trans {w w1 w2 : Wd} {H H1 H2 : Hp} (s : Step w H w1 H1) (t : Step w1 H1 w2 H2) : Step w H w2 H2 where
  b := fun a o h => t.b a o (s.b a o h)
  ad := by
    obtain ⟨m1, e1, f1⟩ := s.ad
    obtain ⟨m2, e2, f2⟩ := t.ad
    refine ⟨m1 ++ m2, by rw [e2, e1, List.append_assoc], fun p hp => ?_⟩
    rcases List.mem_append.mp hp with h | h
    · exact f1 p h
    · exact s.free (f2 p h)
  h := fun a o h n => t.h a o (s.h a o h n) n
  i := fun a C dx fs h => by
    obtain ⟨fs', e⟩ := s.i a C dx fs h
    exact t.i a C dx fs' e
  f := fun a o h => by
    rcases t.f a o h with h | h
    · exact s.f a o h
    · exact .inr (s.free h)
  e := t.e.trans s.e

theorem sqL_mono {K : PySem.W.Frag} {B B' : Hp} {a : Addr} {xs : List V} (h : ∀ a o, B a = some o → B' a = some o) (q : SqL K B a xs) : SqL K B' a xs := by
  rcases q with (q | ⟨o, q⟩) | q
  · exact .inl (.inl (h _ _ q))
  · exact .inl (.inr ⟨o, h _ _ q⟩)
  · exact .inr q
theorem sqT_mono {K : PySem.W.Frag} {B B' : Hp} {a : Addr} {xs : List V} (h : ∀ a o, B a = some o → B' a = some o) (q : SqT K B a xs) : SqT K B' a xs := by
  rcases q with (q | ⟨o, q⟩) | q
  · exact .inl (.inl (h _ _ q))
  · exact .inl (.inr ⟨o, h _ _ q⟩)
  · exact .inr q

/-- what Rep leans on grows -/
structure Le (w w' : Wd) : Prop where
  b : ∀ a o, w.B a = some o → w'.B a = some o
  ad : ∃ more, w'.ad = w.ad ++ more
  e : ∀ p ∈ w.exs, p ∈ w'.exs
theorem Le.refl (w : Wd) : Le w w := ⟨fun _ _ h => h, ⟨[], (List.append_nil _).symm⟩, fun _ h => h⟩
theorem Step.le {w w' : Wd} {H H' : Hp} (s : Step w H w' H') : Le w w' := ⟨s.b, let ⟨m, e, _⟩ := s.ad; ⟨m, e⟩, fun p h => by rw [s.e]; exact h⟩
theorem Le.at {w w' : Wd} (l : Le w w') {n : Nat} {p : Addr × Addr} (h : w.ad[n]? = some p) : w'.ad[n]? = some p := by
  obtain ⟨m, e⟩ := l.ad
  rw [e, List.getElem?_append_left (by have := (List.getElem?_eq_some_iff.mp h).1; exact this)]
  exact h
mutual
theorem Rep.mono {K : PySem.W.Frag} {w w' : Wd} (l : Le w w') : ∀ {v : V} {d : D}, Rep K w v d → Rep K w' v d
  | _, _, .non => .non
  | _, _, .bl b => .bl b
  | _, _, .int i => .int i
  | _, _, .str x => .str x
  | _, _, .lst h r => .lst (l.b _ _ h) (RepAll.mono l r)
  | _, _, .tup h r => .tup (sqT_mono l.b h) (RepAll.mono l r)
  | _, _, .obj h => .obj (l.at h)
  | _, _, .exc h => .exc (l.e _ h)
  | _, _, .scr h => .scr (sqL_mono l.b h)
theorem RepAll.mono {K : PySem.W.Frag} {w w' : Wd} (l : Le w w') : ∀ {vs : List V} {ds : List D}, RepAll K w vs ds → RepAll K w' vs ds
  | _, _, .nil => .nil
  | _, _, .cons h r => .cons (Rep.mono l h) (RepAll.mono l r)
end

section
variable {K : PySem.W.Frag} {w : Wd}
theorem RepAll.length : ∀ {vs : List V} {ds : List D}, RepAll K w vs ds → vs.length = ds.length
  | _, _, .nil => rfl
  | _, _, .cons _ t => congrArg (· + 1) (RepAll.length t)
theorem RepAll.append : ∀ {vs vs' : List V} {ds ds' : List D}, RepAll K w vs ds → RepAll K w vs' ds' → RepAll K w (vs ++ vs') (ds ++ ds')
  | _, _, _, _, .nil, h => h
  | _, _, _, _, .cons a t, h => .cons a (RepAll.append t h)
theorem RepAll.get : ∀ {vs : List V} {ds : List D} {i : Nat} {d : D}, RepAll K w vs ds → ds[i]? = some d → ∃ v, vs[i]? = some v ∧ Rep K w v d
  | _, _, _, _, .nil, e => by simp at e
  | _, _, 0, _, .cons r _, e => by simp at e; subst e; exact ⟨_, rfl, r⟩
  | _, _, i + 1, d, .cons _ t, e => by
    obtain ⟨u, h1, h2⟩ := RepAll.get (i := i) (d := d) t (by simpa using e)
    exact ⟨u, by simpa using h1, h2⟩
theorem RepAll.getV {vs : List V} {ds : List D} {i : Nat} {v : V} (r : RepAll K w vs ds) (e : vs[i]? = some v) : ∃ d, ds[i]? = some d ∧ Rep K w v d := by
  have h1 : i < vs.length := (List.getElem?_eq_some_iff.mp e).1
  have h2 : i < ds.length := by rw [← r.length]; exact h1
  obtain ⟨u, e2, q⟩ := r.get (List.getElem?_eq_getElem h2)
  rw [e] at e2; cases e2
  exact ⟨_, List.getElem?_eq_getElem h2, q⟩
theorem RepAll.take : ∀ {vs : List V} {ds : List D} (n : Nat), RepAll K w vs ds → RepAll K w (vs.take n) (ds.take n)
  | _, _, 0, _ => by rw [List.take_zero, List.take_zero]; exact .nil
  | _, _, _ + 1, .nil => .nil
  | _, _, n + 1, .cons r t => .cons r (RepAll.take n t)
theorem RepAll.drop : ∀ {vs : List V} {ds : List D} (n : Nat), RepAll K w vs ds → RepAll K w (vs.drop n) (ds.drop n)
  | _, _, 0, r => r
  | _, _, _ + 1, .nil => .nil
  | _, _, n + 1, .cons _ t => RepAll.drop n t
theorem RepAll.reverse {vs : List V} {ds : List D} (h : RepAll K w vs ds) : RepAll K w vs.reverse ds.reverse := by
  induction vs generalizing ds with
  | nil => cases h; exact .nil
  | cons v vs ih =>
    cases h with
    | cons a t =>
      rw [List.reverse_cons, List.reverse_cons]
      exact (ih t).append (.cons a .nil)
theorem RepAll.replicate {vs : List V} {ds : List D} (h : RepAll K w vs ds) : ∀ k : Nat, RepAll K w (List.replicate k vs).flatten (List.replicate k ds).flatten
  | 0 => .nil
  | k + 1 => by
    rw [List.replicate_succ, List.replicate_succ, List.flatten_cons, List.flatten_cons]
    exact h.append (RepAll.replicate h k)
theorem RepAll.ints : ∀ {vs : List V} {is : List Int}, RepAll K w vs (is.map D.int) → vs = is.map V.int
  | _, [], h => by cases h; rfl
  | _, i :: r, h => by
    cases h with
    | cons a t =>
      cases a
      rw [List.map_cons, RepAll.ints t]
theorem RepAll.ofInts : ∀ {is : List Int}, RepAll K w (is.map V.int) (is.map D.int)
  | [] => .nil
  | _ :: _ => .cons (.int _) RepAll.ofInts
theorem RepAll.bls : ∀ {vs : List V} {is : List Bool}, RepAll K w vs (is.map D.bl) → vs = is.map V.bl
  | _, [], h => by cases h; rfl
  | _, i :: r, h => by
    cases h with
    | cons a t =>
      cases a
      rw [List.map_cons, RepAll.bls t]
theorem RepAll.strs : ∀ {vs : List V} {is : List Str}, RepAll K w vs (is.map D.str) → vs = is.map V.str
  | _, [], h => by cases h; rfl
  | _, i :: r, h => by
    cases h with
    | cons a t =>
      cases a
      rw [List.map_cons, RepAll.strs t]
theorem RepAll.ofStrs : ∀ {is : List Str}, RepAll K w (is.map V.str) (is.map D.str)
  | [] => .nil
  | _ :: _ => .cons (.str _) RepAll.ofStrs
end

/-! ### new things -/
/-- a new immutable object at p -/
def Wd.add (w : Wd) (p : Addr) (o : HO) : Wd := { w with B := upd w.B p o }
section
variable {K : PySem.W.Frag} {w : Wd} {H : Hp} {p : Addr} {o : HO}
theorem OkW.free (k : OkW K w H) (hp : H p = none) : w.B p = none := by
  cases e : w.B p with
  | none => rfl
  | some o =>
    rw [k.sub p o e] at hp; cases hp
theorem Le.add (hb : w.B p = none) : Le w (w.add p o) := ⟨fun a u h => by
    show upd w.B p o a = some u
    rw [upd_ne (ne_of_none h hb)]; exact h, ⟨[], (List.append_nil _).symm⟩, fun _ h => h⟩
theorem RepF.mono {w' : Wd} (l : Le w w') {vs : List (Str × V)} {fs : List (Str × D)} (r : RepF K w vs fs) : RepF K w' vs fs := ⟨r.1, r.2.mono l⟩
theorem OkW.add (k : OkW K w H) (hp : H p = none) : OkW K (w.add p o) (upd H p o) where
  sub := fun a u h => by
    by_cases e : a = p
    · subst e
      have h' : upd w.B a o a = some u := h
      rw [upd_same] at h'; rw [upd_same]; exact h'
    · have h' : upd w.B p o a = some u := h
      rw [upd_ne e] at h'
      rw [upd_ne e]
      exact k.sub a u h'
  len := k.len
  obj := fun n q c h1 h2 => by
    obtain ⟨vs, e1, e2, e3, e4⟩ := k.obj n q c h1 h2
    have ne : q.1 ≠ p := ne_of_none e1 hp
    refine ⟨vs, by rw [upd_ne ne]; exact e1, e2.mono (Le.add (k.free hp)), e3, ?_⟩
    show upd w.B p o q.1 = none
    rw [upd_ne ne]; exact e4
  inj := k.inj
theorem Step.add (k : OkW K w H) (hp : H p = none) : Step w H (w.add p o) (upd H p o) where
  b := (Le.add (k.free hp)).b
  ad := ⟨[], (List.append_nil _).symm, fun _ h => nomatch h⟩
  h := fun a u h _ => by rw [upd_ne (ne_of_none h hp)]; exact h
  i := fun a C dx fs h => ⟨fs, by rw [upd_ne (ne_of_none h hp)]; exact h⟩
  f := fun a u h => by
    by_cases e : a = p
    · rw [e]; exact .inr hp
    · have h' : upd w.B p o a = some u := h
      rw [upd_ne e] at h'
      exact .inl h'
  e := rfl
theorem Wd.add_at : (w.add p o).B p = some o := upd_same
/-- a new tracked cell that is none of the world's: an owned list -/
theorem OkW.cell (k : OkW K w H) (hp : H p = none) : OkW K w (upd H p o) where
  sub := fun a u h => by rw [upd_ne (ne_of_none (k.sub a u h) hp)]; exact k.sub a u h
  len := k.len
  obj := fun n q c h1 h2 => by
    obtain ⟨vs, e1, e2, e3, e4⟩ := k.obj n q c h1 h2
    exact ⟨vs, by rw [upd_ne (ne_of_none e1 hp)]; exact e1, e2, e3, e4⟩
  inj := k.inj
theorem Step.cell (hp : H p = none) : Step w H w (upd H p o) where
  b := fun _ _ h => h
  ad := ⟨[], (List.append_nil _).symm, fun _ h => nomatch h⟩
  h := fun a u h _ => by rw [upd_ne (ne_of_none h hp)]; exact h
  i := fun a C dx fs h => ⟨fs, by rw [upd_ne (ne_of_none h hp)]; exact h⟩
  f := fun a u h => .inl h
  e := rfl
end
end DL

/-! DL2: the judgements, names, constants, operators. -/
namespace DL
open PySem PySem.Spec PyProof.Rows L2

theorem nIn {i : Nat} {l : List Nat} (h : l.contains i = false) : i ∉ l := fun z => by
  rw [List.contains_iff_mem.mpr z] at h; cases h
theorem yIn {i : Nat} {l : List Nat} (h : l.contains i = true) : i ∈ l := List.contains_iff_mem.mp h
theorem nonesIn {js l : List Nat} (h : (js.all fun j => !l.contains j) = true) : ∀ j ∈ js, j ∉ l := fun j hj => nIn (by
  have := List.all_eq_true.mp h j hj
  simpa using this)
abbrev En := List (Option D)
structure Mo where
  wx : WX
  own : List Nat
  xs : List (Addr × Str)

def EnvN (K : PySem.W.Frag) (w : Wd) (o : List Nat) (σ : L2.St) (ρ : En) : Prop := σ.length = ρ.length ∧ ∀ i d, i ∉ o → ρ[i]? = some (some d) → ∃ v, σ[i]? = some (some v) ∧ Rep K w v d
theorem EnvN.mono {K : PySem.W.Frag} {w w' : Wd} {o : List Nat} {σ : L2.St} {ρ : En} (l : Le w w') (e : EnvN K w o σ ρ) : EnvN K w' o σ ρ := ⟨e.1, fun i d hi h =>
  let ⟨v, h1, h2⟩ := e.2 i d hi h
  ⟨v, h1, h2.mono l⟩⟩

/-- what an owned cell at p holds -/
def OwnAt (K : PySem.W.Frag) (w : Wd) (H : Hp) (p : Addr) (d : D) : Prop :=
  (∃ ds xs, d = .lst ds ∧ H p = some (.lst xs) ∧ RepAll K w xs ds) ∨
  (∃ kds kvs, d = .dic kds ∧ H p = some (.dT kvs) ∧ kvs.map (·.1) = kds.map (·.1) ∧ RepAll K w (kvs.map (·.2)) (kds.map (·.2)))
theorem OwnAt.there {K : PySem.W.Frag} {w : Wd} {H : Hp} {p : Addr} {d : D} (a : OwnAt K w H p d) : ∃ o, H p = some o ∧ (∀ C dx fs, o ≠ .ins C dx fs) := by
  rcases a with ⟨ds, xs, _, h, _⟩ | ⟨ds, xs, _, h, _⟩
  · exact ⟨_, h, fun _ _ _ z => by cases z⟩
  · exact ⟨_, h, fun _ _ _ z => by cases z⟩
theorem OwnAt.step {K : PySem.W.Frag} {w w' : Wd} {H H' : Hp} {p : Addr} {d : D} (a : OwnAt K w H p d) (l : Le w w') (h : ∀ o, H p = some o → (∀ C dx fs, o ≠ .ins C dx fs) → H' p = some o) : OwnAt K w' H' p d := by
  rcases a with ⟨ds, xs, e, e2, r⟩ | ⟨ds, xs, e, e2, k, r⟩
  · exact .inl ⟨ds, xs, e, h _ e2 (fun _ _ _ z => by cases z), r.mono l⟩
  · exact .inr ⟨ds, xs, e, h _ e2 (fun _ _ _ z => by cases z), k, r.mono l⟩

def Owns (K : PySem.W.Frag) (w : Wd) (H : Hp) (o : List Nat) (σ : L2.St) (ρ : En) : Prop := ∀ i ∈ o, ∀ d, ρ[i]? = some (some d) → ∃ p, σ[i]? = some (some (.ref p)) ∧ w.B p = none ∧ OwnAt K w H p d
def EnvOk (K : PySem.W.Frag) (w : Wd) (H : Hp) (o : List Nat) (σ : L2.St) (ρ : En) : Prop := EnvN K w o σ ρ ∧ Owns K w H o σ ρ
theorem Step.noB {w w' : Wd} {H H' : Hp} {p : Addr} {u : HO} (t : Step w H w' H') (hb : w.B p = none) (hp : H p = some u) : w'.B p = none := by
  cases q : w'.B p with
  | none => rfl
  | some u2 =>
    rcases t.f p u2 q with z | z
    · rw [hb] at z; cases z
    · rw [hp] at z; cases z
theorem EnvOk.step {K : PySem.W.Frag} {w w' : Wd} {H H' : Hp} {o : List Nat} {σ : L2.St} {ρ : En} (e : EnvOk K w H o σ ρ) (t : Step w H w' H') : EnvOk K w' H' o σ ρ := ⟨e.1.mono t.le, fun i hi d h => by
  obtain ⟨p, e1, e3, a⟩ := e.2 i hi d h
  obtain ⟨u, hu, _⟩ := a.there
  exact ⟨p, e1, t.noB e3 hu, a.step t.le (t.h p)⟩⟩
section
variable {α β γ δ : Type}
def Post (K : PySem.W.Frag) (R : Wd → β → α → Prop) (w : Wd) (H : Hp) (r : Out α) (E : Str → Hp → Prop) (Q : β → Hp → Prop) : Prop := match r with
  | .ok d S' => ∀ v H' w', Step w H w' H' → OkW K w' H' → w'.S = S' → R w' v d → Q v H'
  | .ex c S' => ∀ H' w', Step w H w' H' → OkW K w' H' → w'.S = S' → E c H'
  | .bad => False
def XG (X : Cx) (m : Mo) (w : Wd) : Prop := w.exs = m.xs ∧ ∀ p ∈ m.xs, ∃ oe vs, (p.1, oe) ∈ X.pn ∧ L2N.Zn (.ref (He.ga X.K p.2)) none oe ∧ oe.data = .fields vs
def EW (X : Cx) (m : Mo) (σ : L2.St) : Str → Hp → Prop := fun c H' => m.wx (.ref (He.ga X.K c)) none σ H'
def td (X : Cx) (m : Mo) (R : Wd → β → α → Prop) (f : En → M α) : L2.St → Hp → (β → Hp → Prop) → Prop := fun σ H Q =>
  ∃ w ρ, OkW X.K w H ∧ EnvOk X.K w H m.own σ ρ ∧ XG X m w ∧ Post X.K R w H (f ρ w.S) (EW X m σ) Q

abbrev RB : Wd → Bool → Bool → Prop := fun _ a b => a = b
def DE (X : Cx) (m : Mo) (e : Expr) (f : En → M D) : Prop := PE X e (td X m (Rep X.K) f)
def DA (X : Cx) (m : Mo) (es : List Expr) (f : En → M (List D)) : Prop := PA X es (td X m (RepAll X.K) f)
def DT (X : Cx) (m : Mo) (e : Expr) (f : En → M Bool) : Prop := PT X e (td X m RB f)

theorem Post.step {K : PySem.W.Frag} {R : Wd → β → α → Prop} {w w' : Wd} {H H' : Hp} {r : Out α} {E : Str → Hp → Prop} {Q : β → Hp → Prop} (s : Step w H w' H') (p : Post K R w H r E Q) : Post K R w' H' r E Q := by
  cases r with
  | ok d S' => exact fun v H2 w2 t o e q => p v H2 w2 (s.trans t) o e q
  | ex c S' => exact fun H2 w2 t o e => p H2 w2 (s.trans t) o e
  | bad => exact p
theorem Post.imp {K : PySem.W.Frag} {R : Wd → β → α → Prop} {w : Wd} {H : Hp} {r : Out α} {E E' : Str → Hp → Prop} {Q Q' : β → Hp → Prop} (p : Post K R w H r E Q) (hE : ∀ c H, E c H → E' c H) (hQ : ∀ v H, Q v H → Q' v H) : Post K R w H r E' Q' := by
  cases r with
  | ok d S' => exact fun v H2 w2 t o e q => hQ _ _ (p v H2 w2 t o e q)
  | ex c S' => exact fun H2 w2 t o e => hE _ _ (p H2 w2 t o e)
  | bad => exact p
/-- a value that stands already -/
theorem Post.val {K : PySem.W.Frag} {R : Wd → β → α → Prop} {w : Wd} {H : Hp} {d : α} {v : β} {E : Str → Hp → Prop} {Q : β → Hp → Prop} (p : Post K R w H (.ok d w.S) E Q) (o : OkW K w H) (r : R w v d) : Q v H := p v H w (Step.refl w H) o rfl r
theorem Post.newT {K : PySem.W.Frag} {w : Wd} {H : Hp} {ds : List D} {xs : List V} {E : Str → Hp → Prop} {Q : V → Hp → Prop} {p : Addr} (q : Post K (Rep K) w H (.ok (.tup ds) w.S) E Q) (o : OkW K w H) (hp : H p = none) (r : RepAll K w xs ds) : Q (.ref p) (upd H p (.tup xs)) :=
  q (.ref p) _ (w.add p (.tup xs)) (Step.add o hp) (o.add hp) rfl (.tup (SqT.of Wd.add_at) (r.mono (Le.add (o.free hp))))
theorem Post.newL {K : PySem.W.Frag} {w : Wd} {H : Hp} {ds : List D} {xs : List V} {E : Str → Hp → Prop} {Q : V → Hp → Prop} {p : Addr} (q : Post K (Rep K) w H (.ok (.lst ds) w.S) E Q) (o : OkW K w H) (hp : H p = none) (r : RepAll K w xs ds) : Q (.ref p) (upd H p (.lst xs)) :=
  q (.ref p) _ (w.add p (.lst xs)) (Step.add o hp) (o.add hp) rfl (.lst Wd.add_at (r.mono (Le.add (o.free hp))))

theorem PE.imp {X : Cx} {e : Expr} {t t' : TE} (h : PE X e t) (i : ∀ σ H Q, t' σ H Q → t σ H Q) : PE X e t' := ⟨fun p s σ H Q I q => h.run p s σ H Q I (i σ H Q q)⟩
theorem PA.imp {X : Cx} {e : List Expr} {t t' : TA} (h : PA X e t) (i : ∀ σ H Q, t' σ H Q → t σ H Q) : PA X e t' := ⟨fun ps p s σ H Q I q => h.run ps p s σ H Q I (i σ H Q q)⟩
theorem PT.imp {X : Cx} {e : Expr} {t t' : TT} (h : PT X e t) (i : ∀ σ H Q, t' σ H Q → t σ H Q) : PT X e t' := ⟨fun p s σ H Q I q => h.run p s σ H Q I (i σ H Q q)⟩

/-- one thing first, then the rest: what stands behind the first -/
theorem td_bind {X : Cx} {m : Mo} {R1 : Wd → β → α → Prop} {R2 : Wd → δ → γ → Prop} {f : En → M α} {g : En → α → M γ} {σ : L2.St} {H : Hp} {Q : δ → Hp → Prop} {Q1 : β → Hp → Prop}
    (h : td X m R2 (fun ρ => f ρ >>= g ρ) σ H Q)
    (k : ∀ w ρ x a H1, OkW X.K w H1 → EnvOk X.K w H1 m.own σ ρ → XG X m w → R1 w x a → Post X.K R2 w H1 (g ρ a w.S) (EW X m σ) Q → Q1 x H1) : td X m R1 f σ H Q1 := by
  obtain ⟨w, ρ, o, e, g', p⟩ := h
  refine ⟨w, ρ, o, e, g', ?_⟩
  have p' : Post X.K R2 w H (M.bind' (f ρ) (g ρ) w.S) (EW X m σ) Q := p
  unfold M.bind' at p'
  cases r : f ρ w.S with
  | ok a S' =>
    rw [r] at p'
    intro v H1 w1 st ok1 es rv
    subst es
    exact k w1 ρ v a H1 ok1 (e.step st) ⟨st.e.trans g'.1, g'.2⟩ rv (p'.step st)
  | ex c S' =>
    rw [r] at p'
    exact p'
  | bad =>
    rw [r] at p'
    exact p'
end

/-! ### the shapes of rules -/
section
variable {X : Cx} {m : Mo} {a b c : Expr} {f g : En → M D}
/-- what a two-place operation must do on data -/
def Op2 (X : Cx) (r : R2) (op : D → D → M D) : Prop := ∀ (w : Wd) (H : Hp) (x y : V) (a b : D) (E : Str → Hp → Prop) (Q : VK), OkW X.K w H → Rep X.K w x a → Rep X.K w y b → Post X.K (Rep X.K) w H (op a b w.S) E Q → r x y H Q
def Op1 (X : Cx) (r : V → Hp → VK → Prop) (op : D → M D) : Prop := ∀ (w : Wd) (H : Hp) (x : V) (a : D) (E : Str → Hp → Prop) (Q : VK), OkW X.K w H → Rep X.K w x a → Post X.K (Rep X.K) w H (op a w.S) E Q → r x H Q
def OpN (X : Cx) (r : List V → Hp → VK → Prop) (op : List D → M D) : Prop := ∀ (w : Wd) (H : Hp) (xs : List V) (as : List D) (E : Str → Hp → Prop) (Q : VK), OkW X.K w H → RepAll X.K w xs as → Post X.K (Rep X.K) w H (op as w.S) E Q → r xs H Q

def bin (op : D → D → M D) (f g : En → M D) : En → M D := fun ρ => f ρ >>= fun a => g ρ >>= fun b => op a b
def un (op : D → M D) (f : En → M D) : En → M D := fun ρ => f ρ >>= op
def nop (op : List D → M D) (f : En → M (List D)) : En → M D := fun ρ => f ρ >>= op

theorem td_two {r : R2} {op : D → D → M D} (ho : Op2 X r op) {σ : L2.St} {H : Hp} {Q : VK} (h : td X m (Rep X.K) (bin op f g) σ H Q) :
    td X m (Rep X.K) f σ H fun x H1 => td X m (Rep X.K) g σ H1 fun y H2 => r x y H2 Q := by
  refine td_bind h fun w ρ x a H1 o e xg rx p => ?_
  have p' : Post X.K (Rep X.K) w H1 (M.bind' (g ρ) (op a) w.S) (EW X m σ) Q := p
  refine ⟨w, ρ, o, e, xg, ?_⟩
  unfold M.bind' at p'
  cases q : g ρ w.S with
  | ok b S' =>
    rw [q] at p'
    intro y H2 w2 st ok2 es ry
    subst es
    exact ho w2 H2 x y a b _ Q ok2 (rx.mono st.le) ry (p'.step st)
  | ex c S' => rw [q] at p'; exact p'
  | bad => rw [q] at p'; exact p'
theorem de_op {op : Operator} {pos : Pos} {r : R2} {od : D → D → M D} (ho : OpR X (binaryOp op) r) (hd : Op2 X r od) (ha : DE X m a f) (hb : DE X m b g) : DE X m (.BinOp a op b pos) (bin od f g) :=
  PE.imp (pe_op ho ha hb) fun _ _ _ h => td_two hd h
theorem de_cmpR {op : CmpOp} {pos : Pos} {r : R2} {od : D → D → M D} (ho : OpR X (compareOp op) r) (hd : Op2 X r od) (ha : DE X m a f) (hb : DE X m b g) (hm : behindInMarks op b = false) : DE X m (.Compare a [op] [b] pos) (bin od f g) :=
  PE.imp (pe_cmpR ho ha hb hm) fun _ _ _ h => td_two hd h
theorem de_un {op : UnaryOp} {pos : Pos} {r : V → Hp → VK → Prop} {od : D → M D} (ho : UnR X (unaryOp op) r) (hd : Op1 X r od) (ha : DE X m a f) : DE X m (.UnaryOp op a pos) (un od f) :=
  PE.imp (pe_un ho ha) fun σ H Q h => td_bind h fun w ρ x a H1 o e xg rx p => hd w H1 x a _ Q o rx p
/-! ### argument lists -/
def anil : En → M (List D) := fun _ => pure []
def acons (f : En → M D) (g : En → M (List D)) : En → M (List D) := fun ρ => f ρ >>= fun a => g ρ >>= fun as => pure (a :: as)
theorem da_nil : DA X m [] anil := PA.imp pa_nil fun σ H Q h => by
  obtain ⟨w, ρ, o, e, xg, p⟩ := h
  exact Post.val (v := []) p o .nil
theorem da_cons {es : List Expr} {g : En → M (List D)} (ha : DE X m a f) (hr : DA X m es g) (hs : starEach (a :: es) X.env = (false, eval a X.env) :: starEach es X.env := by rfl) : DA X m (a :: es) (acons f g) :=
  PA.imp (pa_cons ha hr hs) fun σ H Q h => by
    refine td_bind h fun w ρ x a H1 o e xg rx p => ?_
    have p' : Post X.K (RepAll X.K) w H1 (M.bind' (g ρ) (fun as => pure (a :: as)) w.S) (EW X m σ) Q := p
    refine ⟨w, ρ, o, e, xg, ?_⟩
    unfold M.bind' at p'
    cases q : g ρ w.S with
    | ok b S' =>
      rw [q] at p'
      intro y H2 w2 st ok2 es ry
      subst es
      exact (p'.step st).val ok2 (.cons (rx.mono st.le) ry)
    | ex c S' => rw [q] at p'; exact p'
    | bad => rw [q] at p'; exact p'
theorem td_nop {r : List V → Hp → VK → Prop} {op : List D → M D} (hd : OpN X r op) {f : En → M (List D)} {σ : L2.St} {H : Hp} {Q : VK} (h : td X m (Rep X.K) (nop op f) σ H Q) : td X m (RepAll X.K) f σ H fun xs H1 => r xs H1 Q :=
  td_bind h fun w ρ x a H1 o e xg rx p => hd w H1 x a _ Q o rx p

/-! ### names, constants -/
def getv (i : Nat) : En → M D := fun ρ => match ρ[i]? with
  | some (some d) => pure d
  | _ => M.bad
theorem de_var (i : Nat) {x : Str} {pos : Pos} (ho : i ∉ m.own := by exact nIn rfl) (hN : X.N[i]? = some x := by rfl) (hv : Vis X.env.scope x := by first | exact Or.inl rfl | exact Or.inr (Or.inl rfl) | exact Or.inr (Or.inr rfl))
    (hd : (x == ("__debug__" : Str)) = false := by decide) (hcd : (x == ("__classdict__" : Str)) = false := by decide) : DE X m (.Name x pos) (getv i) :=
  PE.imp (pe_var hN hv hd hcd) fun σ H Q h => by
    obtain ⟨w, ρ, o, e, xg, p⟩ := h
    unfold getv at p
    cases q : ρ[i]? with
    | none => rw [q] at p; exact p.elim
    | some od =>
      cases od with
      | none => rw [q] at p; exact p.elim
      | some d =>
        rw [q] at p
        obtain ⟨v, h1, h2⟩ := e.1.2 i d ho q
        exact ⟨v, h1, Post.val p o h2⟩
def cst (d : D) : En → M D := fun _ => pure d
theorem td_cst {d : D} {v : V} (h : ∀ w, Rep X.K w v d) {σ : L2.St} {H : Hp} {Q : VK} (q : td X m (Rep X.K) (cst d) σ H Q) : Q v H := by
  obtain ⟨w, ρ, o, e, xg, p⟩ := q
  exact Post.val p o (h w)
theorem de_int {i : Int} {j : Nat} {pos : Pos} : DE X m (.Constant (.int i) j pos) (cst (.int i)) := PE.imp pe_int fun _ _ _ q => td_cst (fun _ => .int i) q
theorem de_bl {i : Bool} {j : Nat} {pos : Pos} : DE X m (.Constant (.bool i) j pos) (cst (.bl i)) := PE.imp pe_bl fun _ _ _ q => td_cst (fun _ => .bl i) q
theorem de_non {j : Nat} {pos : Pos} : DE X m (.Constant .none j pos) (cst .non) := PE.imp pe_non fun _ _ _ q => td_cst (fun _ => .non) q
theorem de_str {x : Str} {j : Nat} {pos : Pos} : DE X m (.Constant (.str x) j pos) (cst (.str x)) := PE.imp pe_str fun _ _ _ q => td_cst (fun _ => .str x) q
theorem de_gint {x : Str} {pos : Pos} {i : Int} (h : ∃ t, X.mg x = some (.int i t)) (hg : Gl X x := by rfl) (hd : (x == ("__debug__" : Str)) = false := by decide) : DE X m (.Name x pos) (cst (.int i)) := by
  obtain ⟨t, h⟩ := h
  exact PE.imp (pe_glob (v := .int i) hg h ⟨t, rfl⟩ hd) fun _ _ _ q => td_cst (fun _ => .int i) q
theorem de_gstr {x : Str} {pos : Pos} {i : Str} (h : ∃ t, X.mg x = some (.str i t)) (hg : Gl X x := by rfl) (hd : (x == ("__debug__" : Str)) = false := by decide) : DE X m (.Name x pos) (cst (.str i)) := by
  obtain ⟨t, h⟩ := h
  exact PE.imp (pe_glob (v := .str i) hg h ⟨t, rfl⟩ hd) fun _ _ _ q => td_cst (fun _ => .str i) q
/-- a module's tuple -/
theorem de_gtup {x : Str} {pos : Pos} {ds : List D} {xs : List V} (h : X.mg x = some (.ref (He.ga X.K x))) (hs : ∀ H, SqT X.K H (He.ga X.K x) xs) (hr : ∀ w, RepAll X.K w xs ds) (hg : Gl X x := by rfl) (hd : (x == ("__debug__" : Str)) = false := by decide) :
    DE X m (.Name x pos) (cst (.tup ds)) :=
  PE.imp (pe_glob (v := .ref (He.ga X.K x)) hg h rfl hd) fun _ _ _ q => td_cst (fun w => .tup (hs _) (hr w)) q

/-! ### displays -/
def LIM : Nat := 16777216
theorem LIM_eq : LIM = sizeLine := by rw [sizeLine_eq]; rfl
def mkTup (as : List D) : M D := if as.length ≤ LIM then pure (.tup as) else M.bad
def mkLst (as : List D) : M D := if as.length ≤ LIM then pure (.lst as) else M.bad
theorem de_tup {es : List Expr} {f : En → M (List D)} {k : Nat} {pos : Pos} (h : DA X m es f) : DE X m (.Tuple es k pos) (nop mkTup f) :=
  PE.imp (pe_tup h) fun σ H Q q => td_nop (r := fun xs H1 Q => xs.length ≤ sizeLine ∧ ∀ p, H1 p = none → Q (.ref p) (upd H1 p (.tup xs))) (fun w H xs as E Q o r p => by
    unfold mkTup at p
    by_cases hl : as.length ≤ LIM
    · rw [if_pos hl] at p
      exact ⟨by rw [r.length, ← LIM_eq]; exact hl, fun q hq => Post.newT p o hq r⟩
    · rw [if_neg hl] at p; exact p.elim) q
theorem de_lst {es : List Expr} {f : En → M (List D)} {pos : Pos} (h : DA X m es f) : DE X m (.List es pos) (nop mkLst f) :=
  PE.imp (pe_lst h) fun σ H Q q => td_nop (r := fun xs H1 Q => xs.length ≤ sizeLine ∧ ∀ p, H1 p = none → Q (.ref p) (upd H1 p (.lst xs))) (fun w H xs as E Q o r p => by
    unfold mkLst at p
    by_cases hl : as.length ≤ LIM
    · rw [if_pos hl] at p
      exact ⟨by rw [r.length, ← LIM_eq]; exact hl, fun q hq => Post.newL p o hq r⟩
    · rw [if_neg hl] at p; exact p.elim) q

/-! ### operators -/
def D.add : D → D → M D
  | .int i, .int j => pure (.int (i + j))
  | .str x, .str y => if x.length + y.length ≤ LIM then pure (.str (x ++ y)) else M.bad
  | .tup x, .tup y => if x.length + y.length ≤ LIM then pure (.tup (x ++ y)) else M.bad
  | .lst x, .lst y => if x.length + y.length ≤ LIM then pure (.lst (x ++ y)) else M.bad
  | _, _ => M.bad
def D.sub : D → D → M D
  | .int i, .int j => pure (.int (i - j))
  | _, _ => M.bad
noncomputable def D.mul : D → D → M D
  | .int i, .int j => gd ((-(2 ^ 64) < i ∧ i < 2 ^ 64) ∨ (-(2 ^ 64) < j ∧ j < 2 ^ 64)) (pure (.int (i * j)))
  | .lst x, .int k => gd (-(2 ^ 63) ≤ k ∧ k < 2 ^ 63 ∧ x.length * k.toNat ≤ LIM) (pure (.lst (List.replicate k.toNat x).flatten))
  | _, _ => M.bad
noncomputable def D.mod : D → D → M D
  | .int i, .int j => gd (0 < j) (pure (.int (i % j)))
  | _, _ => M.bad
noncomputable def D.fdiv : D → D → M D
  | .int i, .int j => gd (0 < j ∧ j < 1073741824) (pure (.int (i / j)))
  | _, _ => M.bad
def rAddD (K : PySem.W.Frag) : R2 := fun x y H Q => (((rI0 fun i j => .int (i + j)) x y H Q ∨ (∃ i j, x = .str i ∧ y = .str j ∧ i.length + j.length ≤ sizeLine ∧ Q (.str (i ++ j)) H)) ∨ rCatA K x y H Q) ∨ rCat x y H Q
theorem or_add : OpR X (binaryOp .Add) (rAddD X.K) := ((op_add.or op_add_str).or op_catA).or op_cat
theorem nil_of {K : PySem.W.Frag} {w : Wd} {xs : List V} {ds : List D} (r : RepAll K w xs ds) : xs = [] ↔ ds = [] := by
  cases r with
  | nil => exact ⟨fun _ => rfl, fun _ => rfl⟩
  | cons _ _ => exact ⟨fun z => (by cases z), fun z => (by cases z)⟩
theorem o2_add : Op2 X (rAddD X.K) D.add := by
  intro w H x y a b E Q o rx ry p
  cases rx with
  | int i =>
    cases ry with
    | int j => exact .inl (.inl (.inl ⟨i, j, rfl, rfl, Post.val p o (.int _)⟩))
    | _ => exact p.elim
  | str i =>
    cases ry with
    | str j =>
      unfold D.add at p
      simp only at p
      by_cases hl : i.length + j.length ≤ LIM
      · rw [if_pos hl] at p
        exact .inl (.inl (.inr ⟨i, j, rfl, rfl, by rw [← LIM_eq]; exact hl, Post.val p o (.str _)⟩))
      · rw [if_neg hl] at p; exact p.elim
    | _ => exact p.elim
  | @tup p1 xs ds hx rx =>
    cases ry with
    | @tup p2 ys es hy ry =>
      unfold D.add at p
      simp only at p
      by_cases hl : ds.length + es.length ≤ LIM
      · rw [if_pos hl] at p
        refine .inl (.inr ⟨p1, p2, xs, ys, rfl, rfl, sqT_mono o.sub hx, sqT_mono o.sub hy, by rw [rx.length, ry.length, ← LIM_eq]; exact hl, fun e => ?_, fun e1 e2 => ?_, fun e1 e2 q hq => ?_⟩)
        · have e' := (nil_of rx).mp e
          subst e'
          exact Post.val p o (.tup hy ry)
        · have e' := (nil_of ry).mp e2
          subst e'
          rw [List.append_nil] at p
          exact Post.val p o (.tup hx rx)
        · exact Post.newT p o hq (rx.append ry)
      · rw [if_neg hl] at p; exact p.elim
    | _ => exact p.elim
  | @lst p1 xs ds hx rx =>
    cases ry with
    | @lst p2 ys es hy ry =>
      unfold D.add at p
      simp only at p
      by_cases hl : ds.length + es.length ≤ LIM
      · rw [if_pos hl] at p
        exact .inr ⟨p1, p2, xs, ys, rfl, rfl, o.sub _ _ hx, o.sub _ _ hy, by rw [rx.length, ry.length, ← LIM_eq]; exact hl, fun q hq => Post.newL p o hq (rx.append ry)⟩
      · rw [if_neg hl] at p; exact p.elim
    | _ => exact p.elim
  | _ => exact p.elim
theorem de_add {pos : Pos} (ha : DE X m a f) (hb : DE X m b g) : DE X m (.BinOp a .Add b pos) (bin D.add f g) := de_op or_add o2_add ha hb
theorem o2_sub : Op2 X (rI0 fun i j => .int (i - j)) D.sub := by
  intro w H x y a b E Q o rx ry p
  cases rx with
  | int i =>
    cases ry with
    | int j => exact ⟨i, j, rfl, rfl, Post.val p o (.int _)⟩
    | _ => exact p.elim
  | _ => exact p.elim
theorem de_sub {pos : Pos} (ha : DE X m a f) (hb : DE X m b g) : DE X m (.BinOp a .Sub b pos) (bin D.sub f g) := de_op op_sub o2_sub ha hb
theorem o2_mod : Op2 X (rI (fun _ j => 0 < j) fun i j => .int (i % j)) D.mod := by
  intro w H x y a b E Q o rx ry p
  cases rx with
  | int i =>
    cases ry with
    | int j =>
      unfold D.mod at p
      simp only at p
      by_cases hl : 0 < j
      · rw [gd_pos hl] at p
        exact ⟨i, j, rfl, rfl, hl, Post.val p o (.int _)⟩
      · rw [gd_neg hl] at p; exact p.elim
    | _ => exact p.elim
  | _ => exact p.elim
theorem de_mod {pos : Pos} (ha : DE X m a f) (hb : DE X m b g) : DE X m (.BinOp a .Mod b pos) (bin D.mod f g) := de_op op_mod o2_mod ha hb
theorem o2_fdiv : Op2 X (rI CDiv fun i j => .int (i / j)) D.fdiv := by
  intro w H x y a b E Q o rx ry p
  cases rx with
  | int i =>
    cases ry with
    | int j =>
      unfold D.fdiv at p
      simp only at p
      by_cases hl : 0 < j ∧ j < 1073741824
      · rw [gd_pos hl] at p
        exact ⟨i, j, rfl, rfl, hl, Post.val p o (.int _)⟩
      · rw [gd_neg hl] at p; exact p.elim
    | _ => exact p.elim
  | _ => exact p.elim
theorem de_fdiv {pos : Pos} (ha : DE X m a f) (hb : DE X m b g) : DE X m (.BinOp a .FloorDiv b pos) (bin D.fdiv f g) := de_op op_fdiv o2_fdiv ha hb
def rMulD : R2 := fun x y H Q => (rI CMul fun i j => .int (i * j)) x y H Q ∨ rRep x y H Q
theorem or_mul : OpR X (binaryOp .Mult) rMulD := op_mul.or op_rep
theorem o2_mul : Op2 X rMulD D.mul := by
  intro w H x y a b E Q o rx ry p
  cases rx with
  | int i =>
    cases ry with
    | int j =>
      unfold D.mul at p
      simp only at p
      by_cases hl : (-(2 ^ 64) < i ∧ i < 2 ^ 64) ∨ (-(2 ^ 64) < j ∧ j < 2 ^ 64)
      · rw [gd_pos hl] at p
        exact .inl ⟨i, j, rfl, rfl, hl, Post.val p o (.int _)⟩
      · rw [gd_neg hl] at p; exact p.elim
    | _ => exact p.elim
  | @lst p1 xs ds hx rx =>
    cases ry with
    | int k =>
      unfold D.mul at p
      simp only at p
      by_cases hl : -(2 ^ 63) ≤ k ∧ k < 2 ^ 63 ∧ ds.length * k.toNat ≤ LIM
      · rw [gd_pos hl] at p
        exact .inr ⟨p1, k, xs, rfl, rfl, o.sub _ _ hx, hl.1, hl.2.1, by rw [rx.length, ← LIM_eq]; exact hl.2.2, fun q hq => Post.newL p o hq (rx.replicate _)⟩
      · rw [gd_neg hl] at p; exact p.elim
    | _ => exact p.elim
  | _ => exact p.elim
theorem de_mul {pos : Pos} (ha : DE X m a f) (hb : DE X m b g) : DE X m (.BinOp a .Mult b pos) (bin D.mul f g) := de_op or_mul o2_mul ha hb
def D.neg : D → M D
  | .int i => pure (.int (-i))
  | _ => M.bad
theorem o1_neg : Op1 X (rU fun i => .int (-i)) D.neg := by
  intro w H x a E Q o rx p
  cases rx with
  | int i => exact ⟨i, rfl, Post.val p o (.int _)⟩
  | _ => exact p.elim
theorem de_neg {pos : Pos} (ha : DE X m a f) : DE X m (.UnaryOp .USub a pos) (un D.neg f) := de_un un_neg o1_neg ha
end
end DL

/-! DL3: equality, order, tests, subscripts. -/
namespace DL
open PySem PySem.Spec PyProof.Rows L2

mutual
def D.toP : D → PyData
  | .non => .none
  | .bl b => .bool b
  | .int i => .int i
  | .str x => .str x
  | .tup l => .tuple (D.toPs l)
  | .lst l => .list (D.toPs l)
  | .scr is => .list (is.map .int)
  | .obj _ => .dict []
  | .exc _ => .dict []
  | .dic _ => .dict []
def D.toPs : List D → List PyData
  | [] => []
  | d :: ds => d.toP :: D.toPs ds
end
mutual
def D.fine : D → Nat → Bool
  | .non, _ => true
  | .bl _, _ => true
  | .int _, _ => true
  | .str x, _ => x.cps.all (· < 0x110000)
  | .tup l, n => match n with
    | 0 => false
    | n + 1 => D.fineAll l n
  | .lst l, n => match n with
    | 0 => false
    | n + 1 => D.fineAll l n
  | .scr _, n => decide (0 < n)
  | .obj _, _ => false
  | .exc _, _ => false
  | .dic _, _ => false
def D.fineAll : List D → Nat → Bool
  | [], _ => true
  | d :: ds, n => d.fine n && D.fineAll ds n
end
def D.eqv (a b : D) : Bool := PyData.eqv a.toP b.toP
theorem ints_lay : ∀ is : List Int, PyData.canLayAll0 (is.map PyData.int) = true ∧ PyData.depthAll (is.map PyData.int) = 0
  | [] => ⟨rfl, rfl⟩
  | i :: r => by
    obtain ⟨h1, h2⟩ := ints_lay r
    refine ⟨?_, ?_⟩
    · rw [List.map_cons]; unfold PyData.canLayAll0; rw [h1]; rfl
    · rw [List.map_cons]; unfold PyData.depthAll; rw [h2]; rfl
mutual
theorem D.fine_lay : ∀ (d : D) (n : Nat), d.fine n = true → d.toP.canLay0 = true ∧ d.toP.depth ≤ n
  | .non, _, _ => ⟨rfl, Nat.zero_le _⟩
  | .bl _, _, _ => ⟨rfl, Nat.zero_le _⟩
  | .int _, _, _ => ⟨rfl, Nat.zero_le _⟩
  | .str x, _, h => ⟨by unfold D.fine at h; unfold D.toP PyData.canLay0 PySem.PyData.strOk; exact h, Nat.zero_le _⟩
  | .tup l, n, h => by
    cases n with
    | zero => exact absurd h (by unfold D.fine; exact Bool.false_ne_true)
    | succ n =>
      have h' : D.fineAll l n = true := by unfold D.fine at h; exact h
      obtain ⟨h1, h2⟩ := D.fineAll_lay l n h'
      exact ⟨by unfold D.toP PyData.canLay0; exact h1, by unfold D.toP PyData.depth; omega⟩
  | .lst l, n, h => by
    cases n with
    | zero => exact absurd h (by unfold D.fine; exact Bool.false_ne_true)
    | succ n =>
      have h' : D.fineAll l n = true := by unfold D.fine at h; exact h
      obtain ⟨h1, h2⟩ := D.fineAll_lay l n h'
      exact ⟨by unfold D.toP PyData.canLay0; exact h1, by unfold D.toP PyData.depth; omega⟩
  | .scr is, n, h => by
    have h' : 0 < n := by unfold D.fine at h; exact of_decide_eq_true h
    obtain ⟨h1, h2⟩ := ints_lay is
    exact ⟨by unfold D.toP PyData.canLay0; exact h1, by unfold D.toP PyData.depth; omega⟩
  | .obj _, _, h => absurd h (by unfold D.fine; exact Bool.false_ne_true)
  | .exc _, _, h => absurd h (by unfold D.fine; exact Bool.false_ne_true)
  | .dic _, _, h => absurd h (by unfold D.fine; exact Bool.false_ne_true)
theorem D.fineAll_lay : ∀ (l : List D) (n : Nat), D.fineAll l n = true → PyData.canLayAll0 (D.toPs l) = true ∧ PyData.depthAll (D.toPs l) ≤ n
  | [], _, _ => ⟨rfl, Nat.zero_le _⟩
  | d :: ds, n, h => by
    have h' : d.fine n = true ∧ D.fineAll ds n = true := by unfold D.fineAll at h; exact Bool.and_eq_true_iff.mp h
    obtain ⟨h1, h2⟩ := D.fine_lay d n h'.1
    obtain ⟨h3, h4⟩ := D.fineAll_lay ds n h'.2
    exact ⟨by unfold D.toPs PyData.canLayAll0; rw [h1, h3]; rfl, by unfold D.toPs PyData.depthAll; omega⟩
end
theorem fine_shaped {d : D} (h : d.fine 64 = true) : SeqAt.shaped d.toP = true := by
  obtain ⟨h1, h2⟩ := D.fine_lay d 64 h
  unfold SeqAt.shaped
  rw [h1, decide_eq_true h2]; rfl
theorem dp_ints {K : PySem.W.Frag} {H : Hp} : ∀ is : List Int, DpAll K H (is.map V.int) (is.map PyData.int)
  | [] => .nil
  | _ :: _ => .cons (.int _) (dp_ints _)
mutual
theorem Rep.dp {K : PySem.W.Frag} {w : Wd} {H : Hp} (sub : ∀ a o, w.B a = some o → H a = some o) : ∀ {v : V} {d : D} {n : Nat}, d.fine n = true → Rep K w v d → Dp K H v d.toP
  | _, _, _, _, .non => by unfold D.toP; exact .non
  | _, _, _, _, .bl b => by unfold D.toP; exact .bl b
  | _, _, _, _, .int i => by unfold D.toP; exact .int i
  | _, _, _, _, .str x => by unfold D.toP; exact .str x
  | _, .lst ds, n, h, .lst hx r => by
    unfold D.toP
    cases n with
    | zero => exact absurd h (by unfold D.fine; exact Bool.false_ne_true)
    | succ n => exact .lst (SqL.of (sub _ _ hx)) (RepAll.dp sub (n := n) (by unfold D.fine at h; exact h) r)
  | _, .tup ds, n, h, .tup hx r => by
    unfold D.toP
    cases n with
    | zero => exact absurd h (by unfold D.fine; exact Bool.false_ne_true)
    | succ n => exact .tup (sqT_mono sub hx) (RepAll.dp sub (n := n) (by unfold D.fine at h; exact h) r)
  | _, _, _, h, .obj _ => absurd h (by unfold D.fine; exact Bool.false_ne_true)
  | _, _, _, h, .exc _ => absurd h (by unfold D.fine; exact Bool.false_ne_true)
  | _, .scr is, _, _, .scr hx => by unfold D.toP; exact .lst (sqL_mono sub hx) (dp_ints is)
theorem RepAll.dp {K : PySem.W.Frag} {w : Wd} {H : Hp} (sub : ∀ a o, w.B a = some o → H a = some o) : ∀ {vs : List V} {ds : List D} {n : Nat}, D.fineAll ds n = true → RepAll K w vs ds → DpAll K H vs (D.toPs ds)
  | _, _, _, _, .nil => by unfold D.toPs; exact .nil
  | _, d :: ds, n, h, .cons a t => by
    have h' : d.fine n = true ∧ D.fineAll ds n = true := by unfold D.fineAll at h; exact Bool.and_eq_true_iff.mp h
    unfold D.toPs
    exact .cons (Rep.dp sub h'.1 a) (RepAll.dp sub h'.2 t)
end

section
variable {X : Cx} {m : Mo} {a b c : Expr} {f g : En → M D}
def D.eq (a b : D) : M D := if a.fine 64 && b.fine 64 then pure (.bl (a.eqv b)) else M.bad
def D.ne (a b : D) : M D := if a.fine 64 && b.fine 64 then pure (.bl (!a.eqv b)) else M.bad
theorem o2_eq : Op2 X (rEqD X.K) D.eq := by
  intro w H x y a b E Q o rx ry p
  unfold D.eq at p
  by_cases h : (a.fine 64 && b.fine 64) = true
  · rw [if_pos h] at p
    obtain ⟨h1, h2⟩ := Bool.and_eq_true_iff.mp h
    exact ⟨a.toP, b.toP, rx.dp o.sub h1, ry.dp o.sub h2, fine_shaped h1, fine_shaped h2, Post.val p o (.bl _)⟩
  · rw [if_neg h] at p; exact p.elim
theorem o2_ne : Op2 X (rNeD X.K) D.ne := by
  intro w H x y a b E Q o rx ry p
  unfold D.ne at p
  by_cases h : (a.fine 64 && b.fine 64) = true
  · rw [if_pos h] at p
    obtain ⟨h1, h2⟩ := Bool.and_eq_true_iff.mp h
    exact ⟨a.toP, b.toP, rx.dp o.sub h1, ry.dp o.sub h2, fine_shaped h1, fine_shaped h2, Post.val p o (.bl _)⟩
  · rw [if_neg h] at p; exact p.elim
/-- a comparison: its operator's rule, what it does on data, the mark -/
structure CmpOk (X : Cx) (op : CmpOp) (od : D → D → M D) (b : Expr) : Prop where
  ex : ∃ r, OpR X (compareOp op) r ∧ Op2 X r od
  hm : behindInMarks op b = false
theorem cm_eq {k : Nat} (hr : Room k X.A) : CmpOk X .Eq D.eq b := ⟨⟨_, op_eqD hr.units, o2_eq⟩, nomark _⟩
theorem cm_ne {k : Nat} (hr : Room k X.A) : CmpOk X .NotEq D.ne b := ⟨⟨_, op_neD hr.units, o2_ne⟩, nomark _⟩
def intCmp (p : Int → Int → Bool) : D → D → M D
  | .int i, .int j => pure (.bl (p i j))
  | _, _ => M.bad
theorem o2_int {p : Int → Int → Bool} : Op2 X (rI0 fun i j => .bl (p i j)) (intCmp p) := by
  intro w H x y a b E Q o rx ry q
  cases rx with
  | int i =>
    cases ry with
    | int j => exact ⟨i, j, rfl, rfl, Post.val q o (.bl _)⟩
    | _ => exact q.elim
  | _ => exact q.elim
def D.gt : D → D → M D := intCmp fun i j => decide (j < i)
def D.ge : D → D → M D := intCmp fun i j => decide (j ≤ i)
def D.le : D → D → M D
  | .int i, .int j => pure (.bl (decide (i ≤ j)))
  | .str i, .str j => pure (.bl (!decide (j.cps.toList < i.cps.toList)))
  | _, _ => M.bad
theorem cm_gt : CmpOk X .Gt D.gt b := ⟨⟨_, op_gt, o2_int⟩, nomark _⟩
theorem cm_ge : CmpOk X .GtE D.ge b := ⟨⟨_, op_ge, o2_int⟩, nomark _⟩
theorem cm_le : CmpOk X .LtE D.le b := ⟨⟨_, op_le.or op_le_str, by
  intro w H x y a b E Q o rx ry q
  cases rx with
  | int i =>
    cases ry with
    | int j => exact .inl ⟨i, j, rfl, rfl, Post.val q o (.bl _)⟩
    | _ => exact q.elim
  | str i =>
    cases ry with
    | str j => exact .inr ⟨i, j, rfl, rfl, Post.val q o (.bl _)⟩
    | _ => exact q.elim
  | _ => exact q.elim⟩, nomark _⟩

/-! ### < of data at any depth -/
mutual
def D.cmpb : D → D → Nat → Bool
  | .int _, .int _, _ => true
  | .str _, .str _, _ => true
  | .tup x, .tup y, n => match n with
    | 0 => false
    | n + 1 => D.fineAll x n && D.fineAll y n && D.cmpAll x y n
  | _, _, _ => false
def D.cmpAll : List D → List D → Nat → Bool
  | x :: xs, y :: ys, n => D.cmpb x y n && D.cmpAll xs ys n
  | _, _, _ => true
end
mutual
def D.ltb : D → D → Bool
  | .int i, .int j => decide (i < j)
  | .str i, .str j => decide (i.cps.toList < j.cps.toList)
  | .tup x, .tup y => D.ltAll x y
  | _, _ => false
def D.ltAll : List D → List D → Bool
  | [], [] => false
  | [], _ :: _ => true
  | _ :: _, [] => false
  | x :: xs, y :: ys => if x.eqv y then D.ltAll xs ys else D.ltb x y
end
def eqAtD (xs ys : List D) (j : Nat) : Bool := match xs[j]?, ys[j]? with
  | some a, some b => a.eqv b
  | _, _ => false
def ltAtD (xs ys : List D) (j : Nat) : Bool := match xs[j]?, ys[j]? with
  | some a, some b => a.ltb b
  | _, _ => false
theorem lexAt_D : ∀ (xs ys : List D), Ob.lexAt (eqAtD xs ys) (ltAtD xs ys) (decide (xs.length < ys.length)) 0 (min xs.length ys.length) = D.ltAll xs ys
  | [], [] => by unfold D.ltAll; rfl
  | [], _ :: _ => by unfold D.ltAll; simp [Ob.lexAt]
  | _ :: _, [] => by unfold D.ltAll; simp [Ob.lexAt]
  | x :: xs, y :: ys => by
    have ih := lexAt_D xs ys
    have shift : ∀ (k i : Nat) (z : Bool), Ob.lexAt (eqAtD (x :: xs) (y :: ys)) (ltAtD (x :: xs) (y :: ys)) z (i + 1) k = Ob.lexAt (eqAtD xs ys) (ltAtD xs ys) z i k := by
      intro k
      induction k with
      | zero => intro i z; rfl
      | succ k ih => intro i z; rw [Ob.lexAt_succ, Ob.lexAt_succ, ih]; rfl
    rw [List.length_cons, List.length_cons, Nat.add_min_add_right, Ob.lexAt_succ, shift, D.ltAll, ← ih]
    have e : decide (xs.length + 1 < ys.length + 1) = decide (xs.length < ys.length) := by simp
    rw [e]
    rfl
section
variable {pins : List (Addr × Obj)} {σ : L2.St} {H : Hp} {s : Shared} {w : Wd}
theorem eqAt_of (I : Inv X pins σ H s) (sub : ∀ a o, w.B a = some o → H a = some o) {A : Around} {n : Nat} {x y : V} {u v : Value} {a b : D} (rx : Rep X.K w x a) (ry : Rep X.K w y b) (vx : RelV x u) (vy : RelV y v) (fa : a.fine n = true) (fb : b.fine n = true)
    (hu : A.units + n < cLine) : SeqAt.EqAt A s u v (a.eqv b) := by
  obtain ⟨as, r1⟩ := Dp.reads I _ _ _ (rx.dp sub fa) vx
  obtain ⟨bs, r2⟩ := Dp.reads I _ _ _ (ry.dp sub fb) vy
  obtain ⟨l1, d1⟩ := D.fine_lay a n fa
  obtain ⟨l2, d2⟩ := D.fine_lay b n fb
  exact SeqAt.eqAt_reads _ _ A s u v as bs r1 r2 l1 l2 (by have : min a.toP.depth b.toP.depth ≤ a.toP.depth := Nat.min_le_left _ _; omega)
theorem fine_at {n : Nat} {d : D} : ∀ {xs : List D} {j : Nat}, D.fineAll xs n = true → xs[j]? = some d → d.fine n = true
  | [], _, _, e => by simp at e
  | x :: xs, 0, h, e => by
    simp at e; subst e
    unfold D.fineAll at h
    exact (Bool.and_eq_true_iff.mp h).1
  | x :: xs, j + 1, h, e => by
    unfold D.fineAll at h
    exact fine_at (j := j) (xs := xs) (Bool.and_eq_true_iff.mp h).2 (by simpa using e)
theorem at_both {vs : List V} {us : List Value} {ds : List D} (r : RepAll X.K w vs ds) (v : Vals vs us) {j : Nat} (h : j < us.length) : ∃ x d, RelV x us[j] ∧ Rep X.K w x d ∧ ds[j]? = some d := by
  have h1 : j < vs.length := by rw [v.length]; exact h
  have h2 : j < ds.length := by rw [← r.length]; exact h1
  obtain ⟨x, e1, q⟩ := r.get (List.getElem?_eq_getElem h2)
  obtain ⟨u, e2, q2⟩ := v.get e1
  rw [List.getElem?_eq_getElem h] at e2
  cases e2
  exact ⟨x, ds[j], q2, q, List.getElem?_eq_getElem h2⟩
theorem cmp_at {n : Nat} {d e : D} : ∀ {xs ys : List D} {j : Nat}, D.cmpAll xs ys n = true → xs[j]? = some d → ys[j]? = some e → D.cmpb d e n = true
  | [], _, _, _, e, _ => by simp at e
  | _ :: _, [], _, _, _, e => by simp at e
  | x :: xs, y :: ys, 0, h, e, e2 => by
    simp at e e2; subst e; subst e2
    unfold D.cmpAll at h
    exact (Bool.and_eq_true_iff.mp h).1
  | x :: xs, y :: ys, j + 1, h, e, e2 => by
    unfold D.cmpAll at h
    exact cmp_at (j := j) (Bool.and_eq_true_iff.mp h).2 (by simpa using e) (by simpa using e2)
theorem rcLt_of (I : Inv X pins σ H s) (sub : ∀ a o, w.B a = some o → H a = some o) : ∀ (n : Nat) {a b : D} {A : Around} {x y : V} {u v : Value}, a.cmpb b n = true → Rep X.K w x a → Rep X.K w y b → RelV x u → RelV y v → A.units + n < cLine → Ob.RcOp .Lt A s u v (a.ltb b) := by
  have base : ∀ (n : Nat) {a b : D} {A : Around} {x y : V} {u v : Value}, a.cmpb b n = true → (∀ l, a ≠ .tup l) → Rep X.K w x a → Rep X.K w y b → RelV x u → RelV y v → Ob.RcOp .Lt A s u v (a.ltb b) := by
    intro n a b A x y u v h nt rx ry vx vy
    cases rx with
    | int i =>
      cases ry with
      | int j =>
        obtain ⟨t, rfl⟩ := vx
        obtain ⟨t', rfl⟩ := vy
        unfold D.ltb
        exact Ob.RcOp.lt_int i j t t'
      | _ => unfold D.cmpb at h; cases h
    | str i =>
      cases ry with
      | str j =>
        obtain ⟨t, rfl⟩ := vx
        obtain ⟨t', rfl⟩ := vy
        unfold D.ltb
        intro prog w E Q q
        exact (PyProof.Rows.lt_str q : wpAny (model prog w) A (compareOp .Lt (.str i t) (.str j t')) Q E s)
      | _ => unfold D.cmpb at h; cases h
    | tup _ _ => exact absurd rfl (nt _)
    | _ => unfold D.cmpb at h; cases h
  intro n
  induction n with
  | zero =>
    intro a b A x y u v h rx ry vx vy hu
    by_cases t : ∃ l, a = .tup l
    · obtain ⟨l, rfl⟩ := t
      cases b with
      | tup l2 => unfold D.cmpb at h; cases h
      | _ => unfold D.cmpb at h; cases h
    · exact base 0 h (fun l e => t ⟨l, e⟩) rx ry vx vy
  | succ n ih =>
    intro a b A x y u v h rx ry vx vy hu
    by_cases t : ∃ l, a = .tup l
    · obtain ⟨xs, rfl⟩ := t
      cases rx with
      | @tup p1 vs1 _ hx rx =>
        cases b with
        | tup ys =>
          cases ry with
          | @tup p2 vs2 _ hy ry =>
            cases vx
            cases vy
            have h' : (D.fineAll xs n && D.fineAll ys n && D.cmpAll xs ys n) = true := by unfold D.cmpb at h; exact h
            obtain ⟨h12, h3⟩ := Bool.and_eq_true_iff.mp h'
            obtain ⟨h1, h2⟩ := Bool.and_eq_true_iff.mp h12
            obtain ⟨its, rv, ht, hz⟩ := I.tuple (sqT_mono sub hx)
            obtain ⟨its2, rv2, ht2, hz2⟩ := I.tuple (sqT_mono sub hy)
            have hu1 : A.in1.units + n < cLine := by show A.units + 1 + n < cLine; omega
            have key := Ob.RcOp.tuples_lt (A := A) (e := eqAtD xs ys) (r := ltAtD xs ys) (show s.heap.IsTuple p1 its.toArray from ht) (show s.heap.IsTuple p2 its2.toArray from ht2) (by omega)
              (fun j j1 j2 => by
                have k1 : j < its.length := by simpa using j1
                have k2 : j < its2.length := by simpa using j2
                obtain ⟨x1, d1, q1, r1, e1⟩ := at_both rx rv k1
                obtain ⟨x2, d2, q2, r2, e2⟩ := at_both ry rv2 k2
                have z := eqAt_of I sub (A := A.in1) r1 r2 q1 q2 (fine_at (xs := xs) h1 e1) (fine_at (xs := ys) h2 e2) hu1
                have ee : eqAtD xs ys j = d1.eqv d2 := by unfold eqAtD; rw [e1, e2]
                rw [ee]
                simpa using z)
              (fun j j1 j2 z => by
                have k1 : j < its.length := by simpa using j1
                have k2 : j < its2.length := by simpa using j2
                obtain ⟨x1, d1, q1, r1, e1⟩ := at_both rx rv k1
                obtain ⟨x2, d2, q2, r2, e2⟩ := at_both ry rv2 k2
                have z := ih (A := A.in1) (cmp_at h3 e1 e2) r1 r2 q1 q2 hu1
                have ee : ltAtD xs ys j = d1.ltb d2 := by unfold ltAtD; rw [e1, e2]
                rw [ee]
                simpa using z)
            have ll : its.length = xs.length := by rw [← rv.length, rx.length]
            have ll2 : its2.length = ys.length := by rw [← rv2.length, ry.length]
            rw [List.size_toArray, List.size_toArray, ll, ll2, lexAt_D] at key
            unfold D.ltb
            exact key
        | _ => unfold D.cmpb at h; cases h
    · exact base (n + 1) h (fun l e => t ⟨l, e⟩) rx ry vx vy
end
def D.lt (a b : D) : M D := if a.cmpb b 64 then pure (.bl (a.ltb b)) else M.bad
def rLtD (K : PySem.W.Frag) : R2 := fun x y H Q => ∃ w a b, OkW K w H ∧ Rep K w x a ∧ Rep K w y b ∧ a.cmpb b 64 = true ∧ Q (.bl (a.ltb b)) H
theorem op_ltD {k : Nat} (hr : Room k X.A) : OpR X (compareOp .Lt) (rLtD X.K) := by
  intro pins s σ H x y v u Q I rx ry h
  obtain ⟨w, a, b, o, ra, rb, hc, q⟩ := h
  exact (rcLt_of I o.sub 64 (A := X.A) hc ra rb rx ry hr.units X.prog X.w X.xe (EP X pins σ Q) ⟨.bl (a.ltb b), H, I, rfl, q⟩ : wpAny (model X.prog X.w) X.A (compareOp .Lt v u) (EP X pins σ Q) X.xe s)
theorem cm_lt {k : Nat} (hr : Room k X.A) : CmpOk X .Lt D.lt b := ⟨⟨_, op_ltD hr, by
  intro w H x y a b E Q o rx ry p
  unfold D.lt at p
  by_cases h : a.cmpb b 64 = true
  · rw [if_pos h] at p
    exact ⟨w, a, b, o, rx, ry, h, Post.val p o (.bl _)⟩
  · rw [if_neg h] at p; exact p.elim⟩, nomark _⟩

/-! ### in, not in -/
def D.inn : D → D → M D
  | a, .lst l => if a.fine 64 && D.fineAll l 63 then pure (.bl (l.any fun z => z.eqv a)) else M.bad
  | a, .tup l => if a.fine 64 && D.fineAll l 63 then pure (.bl (l.any fun z => z.eqv a)) else M.bad
  | .str i, .str j => pure (.bl (!(Builtin.Str.occurrences j i 0 j.length 1).isEmpty))
  | _, _ => M.bad
def D.nin : D → D → M D
  | a, .lst l => if a.fine 64 && D.fineAll l 63 then pure (.bl (!l.any fun z => z.eqv a)) else M.bad
  | a, .tup l => if a.fine 64 && D.fineAll l 63 then pure (.bl (!l.any fun z => z.eqv a)) else M.bad
  | .str i, .str j => pure (.bl (!(!(Builtin.Str.occurrences j i 0 j.length 1).isEmpty)))
  | _, _ => M.bad
def rInTD (K : PySem.W.Frag) (neg : Bool) : R2 := fun x y H Q => ∃ d ds, Dp K H x d ∧ Dp K H y (.tuple ds) ∧ SeqAt.shaped d = true ∧ SeqAt.shaped (.tuple ds) = true ∧ Q (.bl (if neg then !(ds.any fun z => PyData.eqv z d) else ds.any fun z => PyData.eqv z d)) H
theorem op_inTD (hu : X.A.units + 65 < cLine) : OpR X (compareOp .In) (rInTD X.K false) := by
  intro pins s σ H x y v u Q I rx ry h
  obtain ⟨d, ds, hd, he, sd, se, q⟩ := h
  obtain ⟨as, r1⟩ := Dp.reads I d x v hd rx
  obtain ⟨bs, r2⟩ := Dp.reads I (.tuple ds) y u he ry
  exact SeqAt.in_tuple_reads r2 r1 (SeqAt.canLay_of_shaped se) (SeqAt.canLay_of_shaped sd) (room_in_shaped sd hu) ⟨.bl _, H, I, rfl, q⟩
theorem op_notInTD (hu : X.A.units + 65 < cLine) : OpR X (compareOp .NotIn) (rInTD X.K true) := by
  intro pins s σ H x y v u Q I rx ry h
  obtain ⟨d, ds, hd, he, sd, se, q⟩ := h
  obtain ⟨as, r1⟩ := Dp.reads I d x v hd rx
  obtain ⟨bs, r2⟩ := Dp.reads I (.tuple ds) y u he ry
  exact SeqAt.notIn_tuple_reads r2 r1 (SeqAt.canLay_of_shaped se) (SeqAt.canLay_of_shaped sd) (room_in_shaped sd hu) ⟨.bl _, H, I, rfl, q⟩
theorem any_toPs (a : D) : ∀ l : List D, (D.toPs l).any (fun z => PyData.eqv z a.toP) = l.any fun z => z.eqv a
  | [] => by unfold D.toPs; rfl
  | d :: ds => by
    unfold D.toPs
    rw [List.any_cons, List.any_cons, any_toPs a ds]
    rfl
theorem fineL {l : List D} (h : D.fineAll l 63 = true) : (D.lst l).fine 64 = true := by unfold D.fine; exact h
theorem fineT {l : List D} (h : D.fineAll l 63 = true) : (D.tup l).fine 64 = true := by unfold D.fine; exact h
theorem room65 {k : Nat} {A : Around} (hr : Room k A) : A.units + 65 < cLine := by have := hr.un; omega
theorem cm_in {k : Nat} (hr : Room k X.A) (hm : behindInMarks .In b = false) : CmpOk X .In D.inn b := ⟨⟨_, ((op_inD (room65 hr)).or (op_inTD (room65 hr))).or op_in_str, by
  intro w H x y a b E Q o rx ry p
  cases ry with
  | @lst p1 xs ds hx rds =>
    have p' : Post X.K (Rep X.K) w H ((if a.fine 64 && D.fineAll ds 63 then pure (.bl (ds.any fun z => z.eqv a)) else M.bad : M D) w.S) E Q := by unfold D.inn at p; exact p
    by_cases h : (a.fine 64 && D.fineAll ds 63) = true
    · rw [if_pos h] at p'
      obtain ⟨h1, h2⟩ := Bool.and_eq_true_iff.mp h
      refine .inl (.inl ⟨a.toP, D.toPs ds, rx.dp o.sub h1, ?_, fine_shaped h1, ?_, ?_⟩)
      · have z := (Rep.lst hx rds).dp o.sub (fineL h2)
        unfold D.toP at z; exact z
      · have z := fine_shaped (fineL h2)
        unfold D.toP at z; exact z
      · rw [any_toPs]; exact Post.val p' o (.bl _)
    · rw [if_neg h] at p'; exact p'.elim
  | @tup p1 xs ds hx rds =>
    have p' : Post X.K (Rep X.K) w H ((if a.fine 64 && D.fineAll ds 63 then pure (.bl (ds.any fun z => z.eqv a)) else M.bad : M D) w.S) E Q := by unfold D.inn at p; exact p
    by_cases h : (a.fine 64 && D.fineAll ds 63) = true
    · rw [if_pos h] at p'
      obtain ⟨h1, h2⟩ := Bool.and_eq_true_iff.mp h
      refine .inl (.inr ⟨a.toP, D.toPs ds, rx.dp o.sub h1, ?_, fine_shaped h1, ?_, ?_⟩)
      · have z := (Rep.tup hx rds).dp o.sub (fineT h2)
        unfold D.toP at z; exact z
      · have z := fine_shaped (fineT h2)
        unfold D.toP at z; exact z
      · rw [if_neg Bool.false_ne_true, any_toPs]; exact Post.val p' o (.bl _)
    · rw [if_neg h] at p'; exact p'.elim
  | str j =>
    cases rx with
    | str i => exact .inr ⟨i, j, rfl, rfl, Post.val p o (.bl _)⟩
    | _ => exact p.elim
  | _ => cases a <;> exact p.elim⟩, hm⟩
theorem cm_nin {k : Nat} (hr : Room k X.A) (hm : behindInMarks .NotIn b = false) : CmpOk X .NotIn D.nin b := ⟨⟨_, ((op_notInD (room65 hr)).or (op_notInTD (room65 hr))).or op_notin_str, by
  intro w H x y a b E Q o rx ry p
  cases ry with
  | @lst p1 xs ds hx rds =>
    have p' : Post X.K (Rep X.K) w H ((if a.fine 64 && D.fineAll ds 63 then pure (.bl (!ds.any fun z => z.eqv a)) else M.bad : M D) w.S) E Q := by unfold D.nin at p; exact p
    by_cases h : (a.fine 64 && D.fineAll ds 63) = true
    · rw [if_pos h] at p'
      obtain ⟨h1, h2⟩ := Bool.and_eq_true_iff.mp h
      refine .inl (.inl ⟨a.toP, D.toPs ds, rx.dp o.sub h1, ?_, fine_shaped h1, ?_, ?_⟩)
      · have z := (Rep.lst hx rds).dp o.sub (fineL h2)
        unfold D.toP at z; exact z
      · have z := fine_shaped (fineL h2)
        unfold D.toP at z; exact z
      · rw [any_toPs]; exact Post.val p' o (.bl _)
    · rw [if_neg h] at p'; exact p'.elim
  | @tup p1 xs ds hx rds =>
    have p' : Post X.K (Rep X.K) w H ((if a.fine 64 && D.fineAll ds 63 then pure (.bl (!ds.any fun z => z.eqv a)) else M.bad : M D) w.S) E Q := by unfold D.nin at p; exact p
    by_cases h : (a.fine 64 && D.fineAll ds 63) = true
    · rw [if_pos h] at p'
      obtain ⟨h1, h2⟩ := Bool.and_eq_true_iff.mp h
      refine .inl (.inr ⟨a.toP, D.toPs ds, rx.dp o.sub h1, ?_, fine_shaped h1, ?_, ?_⟩)
      · have z := (Rep.tup hx rds).dp o.sub (fineT h2)
        unfold D.toP at z; exact z
      · have z := fine_shaped (fineT h2)
        unfold D.toP at z; exact z
      · rw [if_pos rfl, any_toPs]; exact Post.val p' o (.bl _)
    · rw [if_neg h] at p'; exact p'.elim
  | str j =>
    cases rx with
    | str i => exact .inr ⟨i, j, rfl, rfl, Post.val p o (.bl _)⟩
    | _ => exact p.elim
  | _ => cases a <;> exact p.elim⟩, hm⟩
/-! ### is None -/
def D.isN : D → M D
  | .non => pure (.bl true)
  | .bl _ | .int _ | .str _ | .tup _ | .lst _ | .obj _ | .scr _ | .exc _ | .dic _ => pure (.bl false)
def D.isNN : D → M D
  | .non => pure (.bl false)
  | .bl _ | .int _ | .str _ | .tup _ | .lst _ | .obj _ | .scr _ | .exc _ | .dic _ => pure (.bl true)
def D.is_ : D → D → M D
  | a, .non => D.isN a
  | _, _ => M.bad
def D.isn_ : D → D → M D
  | a, .non => D.isNN a
  | _, _ => M.bad
theorem o2_isN : Op2 X (fun x y H Q => y = .non ∧ Q (.bl (decide (x = .non))) H) D.is_ := by
  intro w H x y a b E Q o rx ry p
  cases ry with
  | non =>
    refine ⟨rfl, ?_⟩
    cases rx <;> exact Post.val p o (.bl _)
  | _ => exact p.elim
theorem o2_isNN : Op2 X (fun x y H Q => y = .non ∧ Q (.bl (!decide (x = .non))) H) D.isn_ := by
  intro w H x y a b E Q o rx ry p
  cases ry with
  | non =>
    refine ⟨rfl, ?_⟩
    cases rx <;> exact Post.val p o (.bl _)
  | _ => exact p.elim
theorem cm_is : CmpOk X .Is D.is_ b := ⟨⟨_, op_isN, o2_isN⟩, nomark _⟩
theorem cm_isn : CmpOk X .IsNot D.isn_ b := ⟨⟨_, op_notN, o2_isNN⟩, nomark _⟩

/-! ### comparisons as values, as tests -/
theorem de_cmp {op : CmpOp} {od : D → D → M D} {pos : Pos} (hc : CmpOk X op od b) (ha : DE X m a f) (hb : DE X m b g) : DE X m (.Compare a [op] [b] pos) (bin od f g) := by
  obtain ⟨⟨r, h1, h2⟩, hm⟩ := hc
  exact de_cmpR h1 h2 ha hb hm
def D.tr : D → M Bool
  | .bl b => pure b
  | _ => M.bad
def tst (f : En → M D) : En → M Bool := fun ρ => f ρ >>= D.tr
theorem td_tst {σ : L2.St} {H : Hp} {Q : Bool → Hp → Prop} (h : td X m RB (tst f) σ H Q) : td X m (Rep X.K) f σ H fun x H1 => ∃ k, x = .bl k ∧ Q k H1 :=
  td_bind h fun w ρ x a H1 o e xg rx p => by
    cases rx with
    | bl b => exact ⟨b, rfl, Post.val p o rfl⟩
    | _ => exact p.elim
theorem td_mono {α β : Type} {R : Wd → β → α → Prop} {f : En → M α} {σ : L2.St} {H : Hp} {Q Q' : β → Hp → Prop} (h : td X m R f σ H Q) (i : ∀ v H, Q v H → Q' v H) : td X m R f σ H Q' := by
  obtain ⟨w, ρ, o, e, xg, p⟩ := h
  exact ⟨w, ρ, o, e, xg, p.imp (fun _ _ z => z) i⟩
/-- an expression that is plain as a test -/
theorem dt_of (h : DE X m a f) (he : ∀ whole, isTrue a X.env whole = (do let v ← whole; standAt a.pos; holding [v] (truthy v)) := by intro _; rfl) : DT X m a (tst f) :=
  PT.imp (pt_val h he) fun σ H Q q => td_tst q
theorem dt_cmp {op : CmpOp} {od : D → D → M D} {pos : Pos} (hc : CmpOk X op od b) (ha : DE X m a f) (hb : DE X m b g) : DT X m (.Compare a [op] [b] pos) (tst (bin od f g)) := by
  obtain ⟨⟨r, h1, h2⟩, hm⟩ := hc
  exact PT.imp (pt_cmpR h1 ha hb hm) fun σ H Q q => td_two h2 (td_tst q)
/-- a < b < c -/
def chn (o1 o2 : D → D → M D) (f g h : En → M D) : En → M D := fun ρ => f ρ >>= fun a => g ρ >>= fun b => o1 a b >>= fun r => match r with
  | .bl true => h ρ >>= fun c => o2 b c
  | .bl false => pure (.bl false)
  | _ => M.bad
end
end DL

/-! DL4: chains, and, or, if; subscripts, slices; calls of built-ins. -/
namespace DL
open PySem PySem.Spec PyProof.Rows L2

theorem Post.bind {α β γ δ : Type} {K : PySem.W.Frag} {R1 : Wd → β → α → Prop} {R2 : Wd → δ → γ → Prop} {w : Wd} {H : Hp} {x : M α} {k : α → M γ} {E : Str → Hp → Prop} {Q : δ → Hp → Prop} {Q1 : β → Hp → Prop}
    (h : Post K R2 w H ((x >>= k) w.S) E Q)
    (i : ∀ v a H1 w1, Step w H w1 H1 → OkW K w1 H1 → R1 w1 v a → Post K R2 w1 H1 (k a w1.S) E Q → Q1 v H1) : Post K R1 w H (x w.S) E Q1 := by
  have h' : Post K R2 w H (M.bind' x k w.S) E Q := h
  unfold M.bind' at h'
  cases r : x w.S with
  | ok a S' =>
    rw [r] at h'
    intro v H1 w1 st ok1 es rv
    subst es
    exact i v a H1 w1 st ok1 rv (h'.step st)
  | ex c S' => rw [r] at h'; exact h'
  | bad => rw [r] at h'; exact h'

section
variable {X : Cx} {m : Mo} {a b c e : Expr} {f g h : En → M D}

/-! ### chains -/
theorem td_chn {r r' : R2} {o1 o2 : D → D → M D} (h1 : Op2 X r o1) (h2 : Op2 X r' o2) {σ : L2.St} {H : Hp} {Q : VK} (p : td X m (Rep X.K) (chn o1 o2 f g h) σ H Q) : tChain r r' (td X m (Rep X.K) f) (td X m (Rep X.K) g) (td X m (Rep X.K) h) σ H Q := by
  refine td_bind p fun w ρ x a H1 o e xg rx p => ?_
  refine ⟨w, ρ, o, e, xg, Post.bind p fun y b H2 w2 st2 ok2 ry p2 => ?_⟩
  refine h1 w2 H2 x y a b _ _ ok2 (rx.mono st2.le) ry (Post.bind p2 fun z k H3 w3 st3 ok3 rz p3 => ?_)
  cases rz with
  | bl k =>
    refine ⟨k, rfl, ?_⟩
    cases k with
    | true =>
      rw [if_pos rfl]
      refine ⟨w3, ρ, ok3, e.step (st2.trans st3), ⟨(st2.trans st3).e.trans xg.1, xg.2⟩, Post.bind p3 fun u c H4 w4 st4 ok4 ru p4 => ?_⟩
      exact h2 w4 H4 y u b c _ _ ok4 (ry.mono (st3.trans st4).le) ru p4
    | false =>
      rw [if_neg Bool.false_ne_true]
      exact Post.val p3 ok3 (.bl false)
  | _ => exact p3.elim
theorem de_chain {op op' : CmpOp} {o1 o2 : D → D → M D} {pos : Pos} (h1 : CmpOk X op o1 b) (h2 : CmpOk X op' o2 c) (ha : DE X m a f) (hb : DE X m b g) (hc : DE X m c h) (hm : lastMarks [op, op'] [b, c] = false := by with_unfolding_all rfl) :
    DE X m (.Compare a [op, op'] [b, c] pos) (chn o1 o2 f g h) := by
  obtain ⟨⟨r, k1, k2⟩, _⟩ := h1
  obtain ⟨⟨r', k3, k4⟩, _⟩ := h2
  exact PE.imp (pe_chain k1 k3 ha hb hc hm) fun σ H Q q => td_chn k2 k4 q
theorem dt_chain {op op' : CmpOp} {o1 o2 : D → D → M D} {pos : Pos} (h1 : CmpOk X op o1 b) (h2 : CmpOk X op' o2 c) (ha : DE X m a f) (hb : DE X m b g) (hc : DE X m c h) (hm : lastMarks [op, op'] [b, c] = false := by with_unfolding_all rfl) :
    DT X m (.Compare a [op, op'] [b, c] pos) (tst (chn o1 o2 f g h)) := by
  obtain ⟨⟨r, k1, k2⟩, _⟩ := h1
  obtain ⟨⟨r', k3, k4⟩, _⟩ := h2
  exact PT.imp (pt_chain k1 k3 ha hb hc hm) fun σ H Q q => td_chn k2 k4 (td_tst q)

/-! ### and, or, not -/
variable {rest : List Expr} {pos : Pos} {ft gt : En → M Bool}
def DW (X : Cx) (m : Mo) (e : Expr) (f : En → M Bool) : Prop := PW X e (td X m RB f)
theorem DW.t (h : DW X m e ft) : DT X m e ft := PW.pt h
theorem PW.imp {X : Cx} {e : Expr} {t t' : TT} (h : PW X e t) (i : ∀ σ H Q, t' σ H Q → t σ H Q) : PW X e t' := ⟨fun w p s σ H Q I q => h.run w p s σ H Q I (i σ H Q q)⟩
def andt (f g : En → M Bool) : En → M Bool := fun ρ => f ρ >>= fun c => if c then g ρ else pure false
def ort (f g : En → M Bool) : En → M Bool := fun ρ => f ρ >>= fun c => if c then pure true else g ρ
def nott (f : En → M Bool) : En → M Bool := fun ρ => f ρ >>= fun c => pure (!c)
theorem dw_and1 (ha : DT X m a ft) : DW X m (.BoolOp .And [a] pos) ft := pw_and1 ha
theorem dw_or1 (ha : DT X m a ft) : DW X m (.BoolOp .Or [a] pos) ft := pw_or1 ha
theorem dw_and (ha : DT X m a ft) (hb : DW X m (.BoolOp .And (b :: rest) pos) gt) : DW X m (.BoolOp .And (a :: b :: rest) pos) (andt ft gt) :=
  PW.imp (pw_and ha hb) fun σ H Q q => td_bind q fun w ρ x k H1 o e xg rx p => by
    cases rx
    cases x with
    | true => exact iteT ⟨w, ρ, o, e, xg, p⟩
    | false => exact iteF (Post.val p o rfl)
theorem dw_or (ha : DT X m a ft) (hb : DW X m (.BoolOp .Or (b :: rest) pos) gt) : DW X m (.BoolOp .Or (a :: b :: rest) pos) (ort ft gt) :=
  PW.imp (pw_or ha hb) fun σ H Q q => td_bind q fun w ρ x k H1 o e xg rx p => by
    cases rx
    cases x with
    | false => exact iteF ⟨w, ρ, o, e, xg, p⟩
    | true => exact iteT (Post.val p o rfl)
theorem dt_not (ha : DT X m a ft) : DT X m (.UnaryOp .Not a pos) (nott ft) :=
  PT.imp (pt_not ha) fun σ H Q q => td_bind q fun w ρ x k H1 o e xg rx p => by
    cases rx
    exact Post.val p o rfl
def andv (f g : En → M D) : En → M D := fun ρ => f ρ >>= fun a => match a with
  | .bl true => g ρ
  | .bl false => pure (.bl false)
  | _ => M.bad
def orv (f g : En → M D) : En → M D := fun ρ => f ρ >>= fun a => match a with
  | .bl false => g ρ
  | .bl true => pure (.bl true)
  | _ => M.bad
def D.nt : D → M D
  | .bl b => pure (.bl (!b))
  | _ => M.bad
theorem de_one {op : BoolOp} (ha : DE X m a f) : DE X m (.BoolOp op [a] pos) f := pe_one ha
theorem de_and (ha : DE X m a f) (hb : DE X m (.BoolOp .And (b :: rest) pos) g) : DE X m (.BoolOp .And (a :: b :: rest) pos) (andv f g) :=
  PE.imp (pe_and ha hb) fun σ H Q q => td_bind q fun w ρ x k H1 o e xg rx p => by
    cases rx with
    | bl c =>
      refine ⟨c, rfl, ?_⟩
      cases c with
      | true => exact iteT ⟨w, ρ, o, e, xg, p⟩
      | false => exact iteF (Post.val p o (.bl _))
    | _ => exact p.elim
theorem de_or (ha : DE X m a f) (hb : DE X m (.BoolOp .Or (b :: rest) pos) g) : DE X m (.BoolOp .Or (a :: b :: rest) pos) (orv f g) :=
  PE.imp (pe_or ha hb) fun σ H Q q => td_bind q fun w ρ x k H1 o e xg rx p => by
    cases rx with
    | bl c =>
      refine ⟨c, rfl, ?_⟩
      cases c with
      | false => exact iteF ⟨w, ρ, o, e, xg, p⟩
      | true => exact iteT (Post.val p o (.bl _))
    | _ => exact p.elim
theorem de_not (ha : DE X m a f) : DE X m (.UnaryOp .Not a pos) (un D.nt f) :=
  PE.imp (pe_not ha) fun σ H Q q => td_bind q fun w ρ x k H1 o e xg rx p => by
    cases rx with
    | bl c => exact ⟨c, rfl, Post.val p o (.bl _)⟩
    | _ => exact p.elim
def ifx (c : En → M Bool) (f g : En → M D) : En → M D := fun ρ => c ρ >>= fun b => if b then f ρ else g ρ
theorem de_if (hc : DT X m c ft) (ha : DE X m a f) (hb : DE X m b g) : DE X m (.IfExp c a b pos) (ifx ft f g) :=
  PE.imp (pe_ifExp hc ha hb) fun σ H Q q => td_bind q fun w ρ x k H1 o e xg rx p => by
    cases rx
    cases x with
    | true => exact iteT ⟨w, ρ, o, e, xg, p⟩
    | false => exact iteF ⟨w, ρ, o, e, xg, p⟩

/-! ### subscripts -/
def opt {α : Type} (f : α → D) : Option α → M D
  | some x => pure (f x)
  | none => M.bad
def D.idx : D → D → M D
  | .lst l, .int i => opt id (atI l i)
  | .tup l, .int i => opt id (atI l i)
  | .scr l, .int i => opt D.int (atI l i)
  | .str z, .int i => if z.length ≤ LIM then opt (fun c => D.str ⟨#[c]⟩) (atI z.cps.toList i) else M.bad
  | _, _ => M.bad
theorem atI_rep {K : PySem.W.Frag} {w : Wd} {xs : List V} {ds : List D} {i : Int} {d : D} (r : RepAll K w xs ds) (h : atI ds i = some d) : ∃ v, atI xs i = some v ∧ Rep K w v d := by
  unfold atI at h ⊢
  rw [r.length]
  cases q : ixN ds.length i with
  | none => rw [q] at h; cases h
  | some j =>
    rw [q] at h
    exact r.get h
theorem o2_idx : Op2 X (rIx X.K) D.idx := by
  intro w H x y a b E Q o rx ry p
  cases ry with
  | int i =>
    cases rx with
    | @lst p1 xs ds hx rx =>
      have p' : Post X.K (Rep X.K) w H (opt id (atI ds i) w.S) E Q := p
      cases q : atI ds i with
      | none => rw [q] at p'; exact p'.elim
      | some d =>
        rw [q] at p'
        obtain ⟨v, e1, r1⟩ := atI_rep rx q
        exact .inl ⟨p1, xs, i, v, rfl, rfl, SqL.of (o.sub _ _ hx), e1, Post.val p' o r1⟩
    | @tup p1 xs ds hx rx =>
      have p' : Post X.K (Rep X.K) w H (opt id (atI ds i) w.S) E Q := p
      cases q : atI ds i with
      | none => rw [q] at p'; exact p'.elim
      | some d =>
        rw [q] at p'
        obtain ⟨v, e1, r1⟩ := atI_rep rx q
        exact .inr (.inl ⟨p1, xs, i, v, rfl, rfl, sqT_mono o.sub hx, e1, Post.val p' o r1⟩)
    | @scr p1 is hx =>
      have p' : Post X.K (Rep X.K) w H (opt D.int (atI is i) w.S) E Q := p
      cases q : atI is i with
      | none => rw [q] at p'; exact p'.elim
      | some d =>
        rw [q] at p'
        refine .inl ⟨p1, _, i, .int d, rfl, rfl, sqL_mono o.sub hx, ?_, Post.val p' o (.int _)⟩
        unfold atI at q ⊢
        rw [List.length_map]
        cases q2 : ixN is.length i with
        | none => rw [q2] at q; cases q
        | some j =>
          rw [q2] at q
          show (is.map V.int)[j]? = _
          rw [List.getElem?_map]
          have q' : is[j]? = some d := q
          rw [q']; rfl
    | str z =>
      unfold D.idx at p
      simp only at p
      by_cases hl : z.length ≤ LIM
      · rw [if_pos hl] at p
        cases q : atI z.cps.toList i with
        | none => rw [q] at p; exact p.elim
        | some d =>
          rw [q] at p
          exact .inr (.inr ⟨z, i, d, rfl, rfl, by rw [← LIM_eq]; exact hl, q, Post.val p o (.str _)⟩)
      · rw [if_neg hl] at p; exact p.elim
    | _ => exact p.elim
  | _ => cases a <;> exact p.elim
theorem de_idx (ha : DE X m a f) (hb : DE X m b g) (hs : PlainIx b := by exact fun _ _ => rfl) : DE X m (.Subscript a b pos) (bin D.idx f g) :=
  PE.imp (pe_ix ix_seq ha hb hs) fun _ _ _ q => td_two o2_idx q

/-! ### slices -/
def DO (X : Cx) (m : Mo) (e : Option Expr) (f : En → M (Option Int)) : Prop := PO X e (td X m (fun _ a b => a = b) f)
theorem PO.imp {X : Cx} {e : Option Expr} {t t' : TO} (h : PO X e t) (i : ∀ σ H Q, t' σ H Q → t σ H Q) : PO X e t' := ⟨fun p s σ H Q I q => h.run p s σ H Q I (i σ H Q q)⟩
def nopart : En → M (Option Int) := fun _ => pure none
def D.toInt : D → M (Option Int)
  | .int i => pure (some i)
  | _ => M.bad
def part (f : En → M D) : En → M (Option Int) := fun ρ => f ρ >>= D.toInt
theorem do_none : DO X m none nopart := PO.imp po_none fun σ H Q q => by
  obtain ⟨w, ρ, o, e, xg, p⟩ := q
  exact Post.val p o rfl
theorem do_some (ha : DE X m a f) : DO X m (some a) (part f) := PO.imp (po_some ha) fun σ H Q q => td_bind q fun w ρ x k H1 o e xg rx p => by
  cases rx with
  | int i => exact ⟨i, rfl, Post.val p o rfl⟩
  | _ => exact p.elim
def cutD (xs : List D) (lo hi : Option Int) : List D := (xs.drop (HT.sIx xs.length 0 lo)).take (HT.sIx xs.length xs.length hi - HT.sIx xs.length 0 lo)
def D.slice (lo hi : Option Int) : D → M D
  | .lst l => pure (.lst (cutD l lo hi))
  | .tup l => pure (.tup (cutD l lo hi))
  | .str z => if z.length ≤ LIM then pure (.str (cutS z lo hi)) else M.bad
  | _ => M.bad
def slc (f : En → M D) (l u : En → M (Option Int)) : En → M D := fun ρ => f ρ >>= fun a => l ρ >>= fun lo => u ρ >>= fun hi => D.slice lo hi a
def rSlD (K : PySem.W.Frag) : V → Option Int → Option Int → Hp → VK → Prop := fun x lo hi H Q => (rSlL K x lo hi H Q ∨ rSlA K x lo hi H Q) ∨ rSlS x lo hi H Q
theorem cutD_rep {K : PySem.W.Frag} {w : Wd} {xs : List V} {ds : List D} {lo hi : Option Int} (r : RepAll K w xs ds) : RepAll K w (cutV xs lo hi) (cutD ds lo hi) := by
  unfold cutV cutD
  rw [r.length]
  exact (r.drop _).take _
theorem cutD_whole {ds : List D} {lo hi : Option Int} (h : HT.sIx ds.length 0 lo = 0 ∧ HT.sIx ds.length ds.length hi = ds.length) : cutD ds lo hi = ds := by
  unfold cutD
  rw [h.1, h.2, List.drop_zero, Nat.sub_zero, List.take_length]
theorem de_slice {lo hi : Option Expr} {fl fu : En → M (Option Int)} {p2 : Pos} (ha : DE X m a f) (hl : DO X m lo fl) (hu : DO X m hi fu) : DE X m (.Subscript a (.Slice lo hi none p2) pos) (slc f fl fu) :=
  PE.imp (pe_slice ((sl_list.or sl_tupA).or sl_str) ha hl hu) fun σ H Q q => by
    refine td_bind q fun w ρ x a H1 o e xg rx p => ?_
    refine ⟨w, ρ, o, e, xg, Post.bind p fun l lo H2 w2 st2 ok2 rl p2 => ?_⟩
    cases rl
    refine ⟨w2, ρ, ok2, e.step st2, ⟨st2.e.trans xg.1, xg.2⟩, Post.bind p2 fun u hi H3 w3 st3 ok3 ru p3 => ?_⟩
    cases ru
    have rx3 := (rx.mono st2.le).mono st3.le
    cases rx3 with
    | @lst p1 xs ds hx ry =>
      exact .inl (.inl ⟨p1, xs, rfl, SqL.of (ok3.sub _ _ hx), fun q hq => Post.newL p3 ok3 hq (cutD_rep ry)⟩)
    | @tup p1 xs ds hx ry =>
      refine .inl (.inr ⟨p1, xs, rfl, sqT_mono ok3.sub hx, fun z => ?_, fun z q hq => Post.newT p3 ok3 hq (cutD_rep ry)⟩)
      rw [ry.length] at z
      have p4 : Post X.K (Rep X.K) w3 H3 (Out.ok (.tup (cutD ds l u)) w3.S) _ Q := p3
      rw [cutD_whole z] at p4
      exact Post.val p4 ok3 (.tup hx ry)
    | str z =>
      unfold D.slice at p3
      simp only at p3
      by_cases hl : z.length ≤ LIM
      · rw [if_pos hl] at p3
        exact .inr ⟨z, rfl, by rw [← LIM_eq]; exact hl, Post.val p3 ok3 (.str _)⟩
      · rw [if_neg hl] at p3; exact p3.elim
    | _ => exact p3.elim

/-! ### calls of built-ins by name -/
variable {es : List Expr} {fs : En → M (List D)} {x : Str} {p : Pos} {id T : String} {r : List V → Hp → VK → Prop} {op : List D → M D}
theorem de_callB (hc : CallR X (.builtin id) r) (hd : OpN X r op) (hg : Gl X x) (hm : X.mg x = none) (hv : bootBuiltins x = some (.builtin id)) (ha : DA X m (e :: es) fs) (hn : x ≠ "__name__" := by decide) (hdb : (x == ("__debug__" : Str)) = false := by decide)
    (he : starEach (e :: es) X.env = (false, eval e X.env) :: starEach es X.env := by rfl) (hpl : (backTo pos (starEach es X.env)).any (·.1) = false := by rfl) : DE X m (.Call (.Name x p) (e :: es) [] pos) (nop op fs) :=
  PE.imp (pe_callB hc hg hm hv ha hn hdb he hpl) fun σ H Q q => td_nop hd q
theorem de_callTy (hc : CallR X (.type T) r) (hd : OpN X r op) (hg : Gl X x) (hm : X.mg x = none) (hv : bootBuiltins x = some (.type T)) (ha : DA X m (e :: es) fs) (hn : x ≠ "__name__" := by decide) (hdb : (x == ("__debug__" : Str)) = false := by decide)
    (he : starEach (e :: es) X.env = (false, eval e X.env) :: starEach es X.env := by rfl) (hpl : (backTo pos (starEach es X.env)).any (·.1) = false := by rfl) : DE X m (.Call (.Name x p) (e :: es) [] pos) (nop op fs) :=
  PE.imp (pe_callTy hc hg hm hv ha hn hdb he hpl) fun σ H Q q => td_nop hd q

def one (op : D → M D) : List D → M D
  | [a] => op a
  | _ => M.bad
theorem on_one {r : V → Hp → VK → Prop} {op : D → M D} (h : Op1 X r op) : OpN X (fun xs H Q => ∃ x, xs = [x] ∧ r x H Q) (one op) := by
  intro w H xs as E Q o rx p
  cases rx with
  | nil => exact p.elim
  | cons rx t =>
    cases t with
    | nil => exact ⟨_, rfl, h w H _ _ E Q o rx p⟩
    | cons _ _ => exact p.elim
theorem CallR.imp {X : Cx} {f : Value} {r r' : List V → Hp → VK → Prop} (h : CallR X f r) (i : ∀ xs H Q, r' xs H Q → r xs H Q) : CallR X f r' := fun p s σ H xs us Q I v q => h p s σ H xs us Q I v (i _ _ _ q)
def D.len : D → M D
  | .lst l => pure (.int l.length)
  | .tup l => pure (.int l.length)
  | .scr l => pure (.int l.length)
  | .str z => if z.length ≤ LIM then pure (.int z.length) else M.bad
  | _ => M.bad
theorem cb_len : OpN X (fun xs H Q => ∃ x n, xs = [x] ∧ LenV X.K x H n ∧ Q (.int n) H) (one D.len) := by
  intro w H xs as E Q o rx p
  cases rx with
  | nil => exact p.elim
  | cons rx t =>
    cases t with
    | cons _ _ => exact p.elim
    | nil =>
      cases rx with
      | @lst p1 xs ds hx rx => exact ⟨_, ds.length, rfl, .inl ⟨xs, SqL.of (o.sub _ _ hx), rx.length.symm⟩, Post.val p o (.int _)⟩
      | @tup p1 xs ds hx rx => exact ⟨_, ds.length, rfl, .inr ⟨xs, sqT_mono o.sub hx, rx.length.symm⟩, Post.val p o (.int _)⟩
      | @scr p1 is hx => exact ⟨_, is.length, rfl, .inl ⟨_, sqL_mono o.sub hx, (List.length_map _).symm⟩, Post.val p o (.int _)⟩
      | str z =>
        unfold one D.len at p
        simp only at p
        by_cases hl : z.length ≤ LIM
        · rw [if_pos hl] at p
          exact ⟨_, z.length, rfl, ⟨by rw [← LIM_eq]; exact hl, rfl⟩, Post.val p o (.int _)⟩
        · rw [if_neg hl] at p; exact p.elim
      | _ => exact p.elim
theorem de_len (hg : Gl X "len") (hm : X.mg "len" = none) (ha : DA X m [e] fs) (he : starEach [e] X.env = [(false, eval e X.env)] := by rfl) : DE X m (.Call (.Name "len" p) [e] [] pos) (nop (one D.len) fs) :=
  de_callB call_len cb_len hg hm (PySem.boot_len) ha (he := he)
def D.list : D → M D
  | .lst l => pure (.lst l)
  | .tup l => pure (.lst l)
  | _ => M.bad
theorem cb_list : OpN X (fun xs H Q => ∃ p ys, xs = [.ref p] ∧ (SqL X.K H p ys ∨ SqT X.K H p ys) ∧ ∀ l, H l = none → Q (.ref l) (upd H l (.lst ys))) (one D.list) := by
  intro w H xs as E Q o rx p
  cases rx with
  | nil => exact p.elim
  | cons rx t =>
    cases t with
    | cons _ _ => exact p.elim
    | nil =>
      cases rx with
      | @lst p1 xs ds hx rx => exact ⟨p1, xs, rfl, .inl (SqL.of (o.sub _ _ hx)), fun q hq => Post.newL p o hq rx⟩
      | @tup p1 xs ds hx rx => exact ⟨p1, xs, rfl, .inr (sqT_mono o.sub hx), fun q hq => Post.newL p o hq rx⟩
      | _ => exact p.elim
theorem de_list (hg : Gl X "list") (hm : X.mg "list" = none) (ha : DA X m [e] fs) (he : starEach [e] X.env = [(false, eval e X.env)] := by rfl) : DE X m (.Call (.Name "list" p) [e] [] pos) (nop (one D.list) fs) :=
  de_callTy call_list_of cb_list hg hm PyProof.Rows.boot_list ha (he := he)
def D.tuple : D → M D
  | .lst l => pure (.tup l)
  | .tup l => pure (.tup l)
  | _ => M.bad
theorem cb_tuple : OpN X (fun xs H Q => ∃ p ys, xs = [.ref p] ∧ ((SqL X.K H p ys ∧ ∀ l, H l = none → Q (.ref l) (upd H l (.tup ys))) ∨ (SqT X.K H p ys ∧ Q (.ref p) H))) (one D.tuple) := by
  intro w H xs as E Q o rx p
  cases rx with
  | nil => exact p.elim
  | cons rx t =>
    cases t with
    | cons _ _ => exact p.elim
    | nil =>
      cases rx with
      | @lst p1 xs ds hx rx => exact ⟨p1, xs, rfl, .inl ⟨SqL.of (o.sub _ _ hx), fun q hq => Post.newT p o hq rx⟩⟩
      | @tup p1 xs ds hx rx => exact ⟨p1, xs, rfl, .inr ⟨sqT_mono o.sub hx, Post.val p o (.tup hx rx)⟩⟩
      | _ => exact p.elim
theorem de_tuple (hg : Gl X "tuple") (hm : X.mg "tuple" = none) (ha : DA X m [e] fs) (he : starEach [e] X.env = [(false, eval e X.env)] := by rfl) : DE X m (.Call (.Name "tuple" p) [e] [] pos) (nop (one D.tuple) fs) :=
  de_callTy call_tuple_of cb_tuple hg hm PyProof.Rows.boot_tuple ha (he := he)
def D.toI : D → M D
  | .int i => pure (.int i)
  | .bl b => pure (.int (if b then 1 else 0))
  | .str x => if x.length ≤ 640 then (match PySem.intText? x with
    | some n => pure (.int n)
    | none => M.bad) else M.bad
  | _ => M.bad
def rToI : List V → Hp → VK → Prop := fun xs H Q => ((∃ i, xs = [.int i] ∧ Q (.int i) H) ∨ ∃ k, xs = [.bl k] ∧ Q (.int (if k then 1 else 0)) H) ∨ ∃ a n, xs = [.str a] ∧ PySem.intText? a = some n ∧ a.length ≤ 640 ∧ Q (.int n) H
theorem cb_int : OpN X rToI (one D.toI) := by
  intro w H xs as E Q o rx p
  cases rx with
  | nil => exact p.elim
  | cons rx t =>
    cases t with
    | cons _ _ => exact p.elim
    | nil =>
      cases rx with
      | int i => exact .inl (.inl ⟨i, rfl, Post.val p o (.int _)⟩)
      | bl b => exact .inl (.inr ⟨b, rfl, Post.val p o (.int _)⟩)
      | str z =>
        unfold one D.toI at p
        simp only at p
        by_cases hl : z.length ≤ 640
        · rw [if_pos hl] at p
          cases q : PySem.intText? z with
          | none => rw [q] at p; exact p.elim
          | some n =>
            rw [q] at p
            exact .inr ⟨z, n, rfl, q, hl, Post.val p o (.int _)⟩
        · rw [if_neg hl] at p; exact p.elim
      | _ => exact p.elim
theorem de_toInt (hg : Gl X "int") (hm : X.mg "int" = none) (ha : DA X m [e] fs) (he : starEach [e] X.env = [(false, eval e X.env)] := by rfl) : DE X m (.Call (.Name "int" p) [e] [] pos) (nop (one D.toI) fs) :=
  de_callTy (call_int1.or call_int_str) cb_int hg hm PyProof.Rows.boot_int ha (he := he)
noncomputable def D.toS : D → M D
  | .int i => gd (i.natAbs.log2 < 1920) (pure (.str (toString i)))
  | _ => M.bad
theorem cb_str : OpN X (fun xs H Q => ∃ i, xs = [.int i] ∧ i.natAbs.log2 < 1920 ∧ Q (.str (toString i)) H) (one D.toS) := by
  intro w H xs as E Q o rx p
  cases rx with
  | nil => exact p.elim
  | cons rx t =>
    cases t with
    | cons _ _ => exact p.elim
    | nil =>
      cases rx with
      | int i =>
        unfold one D.toS at p
        simp only at p
        by_cases hl : i.natAbs.log2 < 1920
        · rw [gd_pos hl] at p
          exact ⟨i, rfl, hl, Post.val p o (.str _)⟩
        · rw [gd_neg hl] at p; exact p.elim
      | _ => exact p.elim
theorem de_toStr (hg : Gl X "str") (hm : X.mg "str" = none) (ha : DA X m [e] fs) (he : starEach [e] X.env = [(false, eval e X.env)] := by rfl) : DE X m (.Call (.Name "str" p) [e] [] pos) (nop (one D.toS) fs) :=
  de_callTy call_str_int cb_str hg hm PyProof.Rows.boot_str ha (he := he)
def toBls : List D → Option (List Bool)
  | [] => some []
  | .bl b :: r => (toBls r).map (b :: ·)
  | _ :: _ => none
theorem toBls_eq : ∀ {l : List D} {bs : List Bool}, toBls l = some bs → l = bs.map D.bl
  | [], bs, h => by cases h; rfl
  | d :: r, bs, h => by
    cases d with
    | bl b =>
      have h' : (toBls r).map (b :: ·) = some bs := h
      cases q : toBls r with
      | none => rw [q] at h'; cases h'
      | some cs =>
        rw [q] at h'
        cases h'
        rw [toBls_eq q]; rfl
    | _ => cases h
theorem toBls_map : ∀ bs : List Bool, toBls (bs.map D.bl) = some bs
  | [] => rfl
  | b :: r => by
    show (toBls (r.map D.bl)).map (b :: ·) = _
    rw [toBls_map r]; rfl
def D.all : D → M D
  | .lst l => opt (fun bs => D.bl (bs.all _root_.id)) (toBls l)
  | _ => M.bad
theorem cb_all : OpN X (rAll X.K) (one D.all) := by
  intro w H xs as E Q o rx p
  cases rx with
  | nil => exact p.elim
  | cons rx t =>
    cases t with
    | cons _ _ => exact p.elim
    | nil =>
      cases rx with
      | @lst p1 xs ds hx rx =>
        have p' : Post X.K (Rep X.K) w H (opt (fun bs => D.bl (bs.all _root_.id)) (toBls ds) w.S) E Q := p
        cases q : toBls ds with
        | none => rw [q] at p'; exact p'.elim
        | some bs =>
          rw [q] at p'
          have e := toBls_eq q
          subst e
          have e2 := rx.bls
          subst e2
          exact ⟨p1, bs, rfl, SqL.of (o.sub _ _ hx), Post.val p' o (.bl _)⟩
      | _ => exact p.elim
theorem de_all (hc : X.calm = true) (hg : Gl X "all") (hm : X.mg "all" = none) (ha : DA X m [e] fs) (he : starEach [e] X.env = [(false, eval e X.env)] := by rfl) : DE X m (.Call (.Name "all" p) [e] [] pos) (nop (one D.all) fs) :=
  de_callB (cr_all hc) cb_all hg hm PyProof.Rows.boot_all ha (he := he)
def two (op : D → D → M D) : List D → M D
  | [a, b] => op a b
  | _ => M.bad
def D.max2 : D → D → M D
  | .int i, .int j => pure (.int (if j > i then j else i))
  | _, _ => M.bad
def D.min2 : D → D → M D
  | .int i, .int j => pure (.int (if j < i then j else i))
  | _, _ => M.bad
theorem cb_max2 : OpN X (fun xs H Q => ∃ i j, xs = [.int i, .int j] ∧ Q (.int (if j > i then j else i)) H) (two D.max2) := by
  intro w H xs as E Q o rx p
  match as, rx with
  | [], .nil => exact p.elim
  | [_], .cons _ .nil => exact p.elim
  | _ :: _ :: _ :: _, .cons _ (.cons _ (.cons _ _)) => exact p.elim
  | [a, b], .cons r1 (.cons r2 .nil) =>
    cases r1 with
    | int i =>
      cases r2 with
      | int j => exact ⟨i, j, rfl, Post.val p o (.int _)⟩
      | _ => exact p.elim
    | _ => exact p.elim
theorem cb_min2 : OpN X (fun xs H Q => ∃ i j, xs = [.int i, .int j] ∧ Q (.int (if j < i then j else i)) H) (two D.min2) := by
  intro w H xs as E Q o rx p
  match as, rx with
  | [], .nil => exact p.elim
  | [_], .cons _ .nil => exact p.elim
  | _ :: _ :: _ :: _, .cons _ (.cons _ (.cons _ _)) => exact p.elim
  | [a, b], .cons r1 (.cons r2 .nil) =>
    cases r1 with
    | int i =>
      cases r2 with
      | int j => exact ⟨i, j, rfl, Post.val p o (.int _)⟩
      | _ => exact p.elim
    | _ => exact p.elim
theorem de_max2 {e2 : Expr} (hc : X.calm = true) (hg : Gl X "max") (hm : X.mg "max" = none) (ha : DA X m [e, e2] fs) (he : starEach [e, e2] X.env = (false, eval e X.env) :: starEach [e2] X.env := by rfl) (hpl : (backTo pos (starEach [e2] X.env)).any (·.1) = false := by rfl) : DE X m (.Call (.Name "max" p) [e, e2] [] pos) (nop (two D.max2) fs) :=
  de_callB (call_max2 hc) cb_max2 hg hm PyProof.Rows.boot_max ha (he := he) (hpl := hpl)
theorem de_min2 {e2 : Expr} (hc : X.calm = true) (hg : Gl X "min") (hm : X.mg "min" = none) (ha : DA X m [e, e2] fs) (he : starEach [e, e2] X.env = (false, eval e X.env) :: starEach [e2] X.env := by rfl) (hpl : (backTo pos (starEach [e2] X.env)).any (·.1) = false := by rfl) : DE X m (.Call (.Name "min" p) [e, e2] [] pos) (nop (two D.min2) fs) :=
  de_callB (call_min2 hc) cb_min2 hg hm PyProof.Rows.boot_min ha (he := he) (hpl := hpl)
end
end DL

/-! DL5: statements. -/
namespace DL
open PySem PySem.Spec PyProof.Rows L2

inductive Fl where
  | nx (ρ : En)
  | rt (d : D)

def Mo.to (m : Mo) (o : List Nat) : Mo := { m with own := o }

structure SOk (X : Cx) (m : Mo) (w0 : Wd) (H0 : Hp) (w : Wd) (H : Hp) (σ : L2.St) (ρ : En) : Prop where
  st : Step w0 H0 w H
  ok : OkW X.K w H
  env : EnvN X.K w m.own σ ρ
  own : ∀ i ∈ m.own, ∀ d, ρ[i]? = some (some d) → ∃ p, σ[i]? = some (some (.ref p)) ∧ w.B p = none ∧ H0 p = none ∧ OwnAt X.K w H p d
  dis : ∀ i ∈ m.own, ∀ j ∈ m.own, i ≠ j → ∀ d e p, ρ[i]? = some (some d) → ρ[j]? = some (some e) → σ[i]? = some (some (.ref p)) → σ[j]? = some (some (.ref p)) → False
  xg : XG X m w
  len : σ.length = ρ.length

def PostF (X : Cx) (m : Mo) (o' : List Nat) (w0 : Wd) (H0 : Hp) (w : Wd) (r : Out Fl) (Dn : Ends) : Prop := match r with
  | .ok (.nx ρ') S' => ∀ σ' H' w', SOk X (m.to o') w0 H0 w' H' σ' ρ' → Le w w' → w'.S = S' → Dn.nx σ' H'
  | .ok (.rt d) S' => ∀ v H' w', Step w0 H0 w' H' → OkW X.K w' H' → w'.S = S' → Rep X.K w' v d → Dn.rt v H'
  | .ex c S' => ∀ H' w', Step w0 H0 w' H' → OkW X.K w' H' → w'.S = S' → ∀ σ', m.wx (.ref (He.ga X.K c)) none σ' H'
  | .bad => False
def tds (X : Cx) (m : Mo) (o' : List Nat) (F : En → M Fl) : TS := fun Dn σ H => ∃ w0 H0 w ρ, SOk X m w0 H0 w H σ ρ ∧ PostF X m o' w0 H0 w (F ρ w.S) Dn
def DS (X : Cx) (m : Mo) (o' : List Nat) (st : Stmt) (F : En → M Fl) : Prop := PS X st (tds X m o' F)
def DSs (X : Cx) (m : Mo) (o' : List Nat) (st : List Stmt) (F : En → M Fl) : Prop := PSs X st (tds X m o' F)
theorem PS.imp {X : Cx} {e : Stmt} {t t' : TS} (h : PS X e t) (i : ∀ D σ H, t' D σ H → t D σ H) : PS X e t' := ⟨fun p s σ H D I q => h.run p s σ H D I (i D σ H q)⟩
theorem PSs.imp {X : Cx} {e : List Stmt} {t t' : TS} (h : PSs X e t) (i : ∀ D σ H, t' D σ H → t D σ H) : PSs X e t' := ⟨fun p s σ H D I q => h.run p s σ H D I (i D σ H q)⟩

theorem Le.trans {w w1 w2 : Wd} (a : Le w w1) (b : Le w1 w2) : Le w w2 := ⟨fun x u h => b.b x u (a.b x u h), by
  obtain ⟨m1, e1⟩ := a.ad
  obtain ⟨m2, e2⟩ := b.ad
  exact ⟨m1 ++ m2, by rw [e2, e1, List.append_assoc]⟩, fun p h => b.e p (a.e p h)⟩
section
variable {X : Cx} {m : Mo} {o o' o1 : List Nat} {w0 w w1 : Wd} {H0 H H1 : Hp} {σ : L2.St} {ρ : En}
theorem PostF.le {r : Out Fl} {Dn : Ends} (l : Le w w1) (p : PostF X m o' w0 H0 w r Dn) : PostF X m o' w0 H0 w1 r Dn := by
  cases r with
  | ok f S' =>
    cases f with
    | nx ρ' => exact fun σ' H' w' s l2 es => p σ' H' w' s (l.trans l2) es
    | rt d => exact p
  | ex c S' => exact p
  | bad => exact p

theorem SOk.envOk (s : SOk X m w0 H0 w H σ ρ) : EnvOk X.K w H m.own σ ρ := ⟨s.env, fun i hi d e => let ⟨p, e1, e3, _, a⟩ := s.own i hi d e; ⟨p, e1, e3, a⟩⟩
/-- the world grows -/
theorem SOk.step (s : SOk X m w0 H0 w H σ ρ) (t : Step w H w1 H1) (ok : OkW X.K w1 H1) : SOk X m w0 H0 w1 H1 σ ρ where
  st := s.st.trans t
  ok := ok
  env := s.env.mono t.le
  own := fun i hi d e => by
    obtain ⟨p, e1, e3, e4, a⟩ := s.own i hi d e
    refine ⟨p, e1, ?_, e4, a.step t.le (t.h p)⟩
    cases q : w1.B p with
    | none => rfl
    | some u =>
      rcases t.f p u q with z | z
      · rw [e3] at z; cases z
      · obtain ⟨o, h, _⟩ := a.there
        rw [h] at z; cases z
  dis := s.dis
  xg := ⟨t.e.trans s.xg.1, s.xg.2⟩
  len := s.len
/-- slots stored: js and no others -/
structure EnvTo (K : PySem.W.Frag) (w : Wd) (js : List Nat) (σ : L2.St) (ρ : En) (σ' : L2.St) (ρ' : En) : Prop where
  len : σ'.length = ρ'.length
  len2 : σ'.length = σ.length
  out : ∀ j, j ∉ js → σ'[j]? = σ[j]? ∧ ρ'[j]? = ρ[j]?
  inn : ∀ j, j ∈ js → ∀ e, ρ'[j]? = some (some e) → ∃ v, σ'[j]? = some (some v) ∧ Rep K w v e
theorem SOk.to (s : SOk X m w0 H0 w H σ ρ) {js : List Nat} {σ' : L2.St} {ρ' : En} (t : EnvTo X.K w js σ ρ σ' ρ') (h1 : ∀ j ∈ o', j ∈ m.own ∧ j ∉ js) (h2 : ∀ j ∈ m.own, j ∈ o' ∨ j ∈ js) : SOk X (m.to o') w0 H0 w H σ' ρ' where
  st := s.st
  ok := s.ok
  env := ⟨t.len, fun i d hi e => by
    by_cases hj : i ∈ js
    · exact t.inn i hj d e
    · have hn : i ∉ m.own := fun z => (h2 i z).elim hi hj
      rw [(t.out i hj).2] at e
      rw [(t.out i hj).1]
      exact s.env.2 i d hn e⟩
  own := fun i hi ds e => by
    obtain ⟨a, b⟩ := h1 i hi
    rw [(t.out i b).2] at e
    rw [(t.out i b).1]
    exact s.own i a ds e
  dis := fun i hi j hj ne d e p k1 k2 k3 k4 => by
    obtain ⟨a, b⟩ := h1 i hi
    obtain ⟨a2, b2⟩ := h1 j hj
    rw [(t.out i b).2] at k1
    rw [(t.out j b2).2] at k2
    rw [(t.out i b).1] at k3
    rw [(t.out j b2).1] at k4
    exact s.dis i a j a2 ne d e p k1 k2 k3 k4
  xg := s.xg
  len := t.len
theorem EnvTo.set {K : PySem.W.Frag} {w : Wd} {i : Nat} {v : V} {d : D} (hl : σ.length = ρ.length) (r : Rep K w v d) : EnvTo K w [i] σ ρ (σ.set i (some v)) (ρ.set i (some d)) where
  len := by rw [List.length_set, List.length_set]; exact hl
  len2 := List.length_set
  out := fun j hj => by
    have ne : i ≠ j := fun z => hj (by rw [z]; exact List.mem_singleton.mpr rfl)
    exact ⟨List.getElem?_set_ne ne, List.getElem?_set_ne ne⟩
  inn := fun j hj e h => by
    have ej := List.mem_singleton.mp hj
    subst ej
    by_cases hlt : j < ρ.length
    · rw [List.getElem?_set_self hlt] at h
      cases h
      exact ⟨v, List.getElem?_set_self (by rw [hl]; exact hlt), r⟩
    · rw [List.getElem?_eq_none (by rw [List.length_set]; omega)] at h; cases h
/-- slot i is stored: o' is own without i -/
structure Rem (own o' : List Nat) (i : Nat) : Prop where
  a : ∀ j ∈ o', j ∈ own ∧ j ≠ i
  b : ∀ j ∈ own, j ∈ o' ∨ j = i
def remB (own o' : List Nat) (i : Nat) : Bool := (o'.all fun j => own.contains j && !(j == i)) && own.all fun j => o'.contains j || j == i
theorem rem_of {own o' : List Nat} {i : Nat} (h : remB own o' i = true) : Rem own o' i := by
  unfold remB at h
  rw [Bool.and_eq_true] at h
  refine ⟨fun j hj => ?_, fun j hj => ?_⟩
  · have := List.all_eq_true.mp h.1 j hj
    simpa using this
  · have := List.all_eq_true.mp h.2 j hj
    simpa using this
theorem SOk.set {i : Nat} {v : V} {d : D} (s : SOk X m w0 H0 w H σ ρ) (r : Rep X.K w v d) (h : Rem m.own o' i) : SOk X (m.to o') w0 H0 w H (σ.set i (some v)) (ρ.set i (some d)) :=
  s.to (EnvTo.set s.len r) (fun j hj => ⟨(h.a j hj).1, fun z => (h.a j hj).2 (List.mem_singleton.mp z)⟩) fun j hj => (h.b j hj).imp (fun z => z) fun z => List.mem_singleton.mpr z

/-! ### blocks -/
def sq (F G : En → M Fl) : En → M Fl := fun ρ => F ρ >>= fun fl => match fl with
  | .nx ρ' => G ρ'
  | .rt d => pure (.rt d)
def skp : En → M Fl := fun ρ => pure (.nx ρ)
variable {st : Stmt} {rest : List Stmt} {F G : En → M Fl} {e : Expr} {f : En → M D} {pos : Pos}
theorem dss_nil : DSs X m m.own [] skp := PSs.imp pss_nil fun D σ H h => by
  obtain ⟨w0, H0, w, ρ, s, p⟩ := h
  exact p σ H w s (Le.refl w) rfl
theorem PostF.sq {Dn : Ends} {w : Wd} (p : PostF X m o' w0 H0 w (sq F G ρ w.S) Dn) : PostF X m o1 w0 H0 w (F ρ w.S) { Dn with nx := tds X (m.to o1) o' G Dn } := by
  have p' : PostF X m o' w0 H0 w (M.bind' (F ρ) (fun fl => match fl with | .nx ρ' => G ρ' | .rt d => pure (.rt d)) w.S) Dn := p
  unfold M.bind' at p'
  cases q : F ρ w.S with
  | ok fl S' =>
    rw [q] at p'
    cases fl with
    | nx ρ' =>
      intro σ' H' w' s' le es
      subst es
      exact ⟨w0, H0, w', ρ', s', PostF.le le p'⟩
    | rt d => exact p'
  | ex c S' => rw [q] at p'; exact p'
  | bad => rw [q] at p'; exact p'
theorem dss_cons (h1 : DS X m o1 st F) (h2 : DSs X (m.to o1) o' rest G) : DSs X m o' (st :: rest) (sq F G) :=
  PSs.imp (pss_cons h1 h2) fun D σ H h => by
    obtain ⟨w0, H0, w, ρ, s, p⟩ := h
    exact ⟨w0, H0, w, ρ, s, PostF.sq p⟩
theorem dss_one (h1 : DS X m o' st F) : DSs X m o' [st] F := pss_one h1
/-- an owned thing is given up: from here on a list is data like any other -/
theorem SOk.freeze (s : SOk X m w0 H0 w H σ ρ) {i : Nat} (hi : i ∈ m.own) (hr : Rem m.own o' i) (nd : ∀ kds, ρ[i]? ≠ some (some (.dic kds))) : ∃ w', SOk X (m.to o') w0 H0 w' H σ ρ ∧ Le w w' ∧ w'.S = w.S := by
  by_cases hl : ∃ d, ρ[i]? = some (some d)
  · obtain ⟨d, e⟩ := hl
    obtain ⟨p, e1, e3, e4, a⟩ := s.own i hi d e
    rcases a with ⟨ds, xs, rfl, e2, r⟩ | ⟨kds, _, rfl, _⟩
    · have lw : Le w (w.add p (.lst xs)) := Le.add e3
      refine ⟨w.add p (.lst xs), ⟨?_, ?_, ⟨s.len, fun j d hj ej => ?_⟩, fun j hj d' ej => ?_, fun a ha b hb => s.dis a (hr.a a ha).1 b (hr.a b hb).1, s.xg, s.len⟩, lw, rfl⟩
      · refine ⟨fun a u h => lw.b a u (s.st.b a u h), s.st.ad, s.st.h, s.st.i, fun a u h => ?_, s.st.e⟩
        by_cases z : a = p
        · subst z; exact .inr e4
        · have h' : upd w.B p (.lst xs) a = some u := h
          rw [upd_ne z] at h'
          exact s.st.f a u h'
      · refine ⟨fun a u h => ?_, s.ok.len, fun n q c k1 k2 => ?_, s.ok.inj⟩
        · have h' : upd w.B p (.lst xs) a = some u := h
          by_cases z : a = p
          · subst z; rw [upd_same] at h'; cases h'; exact e2
          · rw [upd_ne z] at h'; exact s.ok.sub a u h'
        · obtain ⟨vs, q1, q2, q3, q4⟩ := s.ok.obj n q c k1 k2
          refine ⟨vs, q1, q2.mono lw, q3, ?_⟩
          have ne : q.1 ≠ p := fun z => by rw [z, e2] at q1; cases q1
          show upd w.B p (.lst xs) q.1 = none
          rw [upd_ne ne]; exact q4
      · by_cases z : j = i
        · subst z
          rw [e] at ej
          cases ej
          exact ⟨.ref p, e1, .lst Wd.add_at (r.mono lw)⟩
        · have hn : j ∉ m.own := fun k => (hr.b j k).elim hj z
          obtain ⟨v, k1, k2⟩ := s.env.2 j d hn ej
          exact ⟨v, k1, k2.mono lw⟩
      · obtain ⟨hjm, z⟩ := hr.a j hj
        obtain ⟨p2, k1, k3, k4, k5⟩ := s.own j hjm d' ej
        refine ⟨p2, k1, ?_, k4, k5.step lw fun _ h _ => h⟩
        have ne : p2 ≠ p := fun q => s.dis j hjm i hi z _ _ p2 ej e k1 (by rw [q]; exact e1)
        show upd w.B p (.lst xs) p2 = none
        rw [upd_ne ne]; exact k3
    · exact absurd e (nd kds)
  · refine ⟨w, ⟨s.st, s.ok, ⟨s.len, fun j d hj ej => ?_⟩, fun j hj => s.own j (hr.a j hj).1, fun a ha b hb => s.dis a (hr.a a ha).1 b (hr.a b hb).1, s.xg, s.len⟩, Le.refl w, rfl⟩
    by_cases z : j = i
    · subst z; exact absurd ⟨d, ej⟩ hl
    · exact s.env.2 j d (fun k => (hr.b j k).elim hj z) ej
def nodic (i : Nat) (F : En → M Fl) : En → M Fl := fun ρ => match ρ[i]? with
  | some (some (.dic _)) => M.bad
  | _ => F ρ
theorem td_freeze {Dn : Ends} (i : Nat) (hi : i ∈ m.own) (hr : Rem m.own o1 i) (h : tds X m o' (nodic i F) Dn σ H) : tds X (m.to o1) o' F Dn σ H := by
  obtain ⟨w0, H0, w, ρ, s, p⟩ := h
  by_cases c : ∃ kds, ρ[i]? = some (some (.dic kds))
  · obtain ⟨kds, e⟩ := c
    unfold nodic at p
    rw [e] at p
    exact p.elim
  · obtain ⟨w', s', le, es⟩ := s.freeze hi hr fun kds e => c ⟨kds, e⟩
    refine ⟨w0, H0, w', ρ, s', ?_⟩
    have e2 : nodic i F ρ = F ρ := by
      unfold nodic
      split
      · exact absurd ⟨_, by assumption⟩ c
      · rfl
    rw [e2] at p
    rw [es]
    exact p.le le
theorem dss_freeze (i : Nat) {sts : List Stmt} (o1 : List Nat) (h : DSs X (m.to o1) o' sts F) (hi : i ∈ m.own := by exact yIn rfl) (hr : Rem m.own o1 i := by exact rem_of rfl) : DSs X m o' sts (nodic i F) :=
  PSs.imp h fun D σ H q => td_freeze i hi hr q

/-! ### simple statements -/
theorem ds_pass : DS X m m.own (.Pass pos) skp := PS.imp ps_pass fun D σ H h => by
  obtain ⟨w0, H0, w, ρ, s, p⟩ := h
  exact p σ H w s (Le.refl w) rfl
/-- from a state into the evaluation of an expression -/
theorem SOk.eval {α β : Type} {R : Wd → β → α → Prop} {f : En → M α} {k : α → M Fl} {Dn : Ends} {Q : β → Hp → Prop} (s : SOk X m w0 H0 w H σ ρ) (wxs : ∀ c σ1 σ2 H, m.wx c none σ1 H → m.wx c none σ2 H) (p : PostF X m o' w0 H0 w ((f ρ >>= k) w.S) Dn)
    (i : ∀ v d w1 H1, SOk X m w0 H0 w1 H1 σ ρ → R w1 v d → PostF X m o' w0 H0 w1 (k d w1.S) Dn → Q v H1) : td X m R f σ H Q := by
  refine ⟨w, ρ, s.ok, s.envOk, s.xg, ?_⟩
  have p' : PostF X m o' w0 H0 w (M.bind' (f ρ) k w.S) Dn := p
  unfold M.bind' at p'
  cases q : f ρ w.S with
  | ok d S' =>
    rw [q] at p'
    intro v H1 w1 st ok1 es rv
    subst es
    exact i v d w1 H1 (s.step st ok1) rv (p'.le st.le)
  | ex c S' =>
    rw [q] at p'
    intro H1 w1 st ok1 es
    exact p' H1 w1 (s.st.trans st) ok1 es σ
  | bad => rw [q] at p'; exact p'
def retF (f : En → M D) : En → M Fl := fun ρ => f ρ >>= fun d => pure (.rt d)
def expF (f : En → M D) : En → M Fl := fun ρ => f ρ >>= fun _ => pure (.nx ρ)
def setF (i : Nat) (f : En → M D) : En → M Fl := fun ρ => f ρ >>= fun d => pure (.nx (ρ.set i (some d)))
def ifF (c : En → M Bool) (F G : En → M Fl) : En → M Fl := fun ρ => c ρ >>= fun b => if b then F ρ else G ρ
/-- what is wished of an exception asks no slot -/
def PlainW (w : WX) : Prop := ∀ c σ1 σ2 H, w c none σ1 H → w c none σ2 H
abbrev Mo.Plain (m : Mo) : Prop := PlainW m.wx
variable (pl : m.Plain)
include pl
theorem ds_ret (he : DE X m e f) : DS X m o' (.Return (some e) pos) (retF f) := PS.imp (ps_ret he) fun D σ H h => by
  obtain ⟨w0, H0, w, ρ, s, p⟩ := h
  exact s.eval pl p fun v d w1 H1 s1 r p1 => p1 v H1 w1 s1.st s1.ok rfl r
theorem ds_retN : DS X m o' (.Return none pos) (fun _ => pure (.rt .non)) := PS.imp ps_retN fun D σ H h => by
  obtain ⟨w0, H0, w, ρ, s, p⟩ := h
  exact p .non H w s.st s.ok rfl .non
theorem ds_expr (he : DE X m e f) (hs : swapsWith e none pos.line X.env = pure false := by rfl) : DS X m m.own (.Expr e pos) (expF f) := PS.imp (ps_expr he hs) fun D σ H h => by
  obtain ⟨w0, H0, w, ρ, s, p⟩ := h
  exact s.eval pl p fun v d w1 H1 s1 r p1 => p1 σ H1 w1 s1 (Le.refl w1) rfl
theorem ds_set (i : Nat) (o' : List Nat) {x : Str} {pos' : Pos} (hN : X.N.Nodup) (he : DE X m e f) (hi : X.N[i]? = some x := by rfl) (hx : Loc X.env.scope x := by first | exact Or.inl rfl | exact Or.inr rfl) (hr : Rem m.own o' i := by exact rem_of rfl)
    (hs : swapsWith e (some (.Name x pos')) pos.line X.env = pure false := by rfl) (hf : X.fn x = true ∨ X.env.scope.names.lookup x = some .local := by first | exact .inl rfl | exact .inr rfl) :
    DS X m o' (.Assign [.Name x pos'] e pos) (setF i f) := PS.imp (ps_set hN hi hx he hs hf) fun D σ H h => by
  obtain ⟨w0, H0, w, ρ, s, p⟩ := h
  exact s.eval pl p fun v d w1 H1 s1 r p1 => p1 _ H1 w1 (s1.set r hr) (Le.refl w1) rfl
theorem ds_if {c : Expr} {a b : List Stmt} {ft : En → M Bool} (hc : DT X m c ft) (ha : DSs X m o' a F) (hb : DSs X m o' b G) : DS X m o' (.If c a b pos) (ifF ft F G) := PS.imp (ps_if hc ha hb) fun D σ H h => by
  obtain ⟨w0, H0, w, ρ, s, p⟩ := h
  exact s.eval pl p fun v d w1 H1 s1 r p1 => by
    cases r
    cases v with
    | true => exact iteT ⟨w0, H0, w1, ρ, s1, p1⟩
    | false => exact iteF ⟨w0, H0, w1, ρ, s1, p1⟩
end
end DL

/-! DL6: owned lists, loops. -/
namespace DL
open PySem PySem.Spec PyProof.Rows L2

section
variable {X : Cx} {m : Mo} {o o' o1 : List Nat} {w0 w w1 : Wd} {H0 H H1 : Hp} {σ : L2.St} {ρ : En} {st : Stmt} {rest : List Stmt} {F G : En → M Fl} {e a b : Expr} {f : En → M D} {pos : Pos} {es : List Expr} {fs : En → M (List D)}

/-! ### a fresh list, owned -/
/-- a list's value that is new: nobody else holds it -/
def tdN (X : Cx) (m : Mo) (f : En → M (List D)) : TE := fun σ H Q => ∃ w ρ, OkW X.K w H ∧ EnvOk X.K w H m.own σ ρ ∧ XG X m w ∧ (match f ρ w.S with
  | .ok ds S' => ∀ p H1 H' w' xs, Step w H w' H1 → OkW X.K w' H1 → w'.S = S' → H1 p = none → H' = upd H1 p (.lst xs) → RepAll X.K w' xs ds → Q (.ref p) H'
  | .ex c S' => ∀ H' w', Step w H w' H' → OkW X.K w' H' → w'.S = S' → EW X m σ c H'
  | .bad => False)
def DN (X : Cx) (m : Mo) (e : Expr) (f : En → M (List D)) : Prop := PE X e (tdN X m f)
def lim (f : En → M (List D)) : En → M (List D) := fun ρ => f ρ >>= fun as => if as.length ≤ LIM then pure as else M.bad
theorem dn_lst (h : DA X m es fs) : DN X m (.List es pos) (lim fs) := PE.imp (pe_lst h) fun σ H Q q => by
  obtain ⟨w, ρ, o, e, xg, p⟩ := q
  refine ⟨w, ρ, o, e, xg, ?_⟩
  unfold lim at p
  have p' := p
  cases r : fs ρ w.S with
  | ok as S' =>
    have r2 : (fs ρ >>= fun as => (if as.length ≤ LIM then pure as else M.bad : M (List D))) w.S = (if as.length ≤ LIM then pure as else M.bad : M (List D)) S' := by
      show M.bind' (fs ρ) _ w.S = _
      unfold M.bind'
      rw [r]
    rw [r2] at p'
    by_cases hl : as.length ≤ LIM
    · rw [if_pos hl] at p'
      intro v H1 w1 st ok1 es rv
      exact ⟨by rw [rv.length, ← LIM_eq]; exact hl, fun q hq => p' q H1 _ w1 v st ok1 es hq rfl rv⟩
    · rw [if_neg hl] at p'; exact p'.elim
  | ex c S' =>
    have r2 : (fs ρ >>= fun as => (if as.length ≤ LIM then pure as else M.bad : M (List D))) w.S = .ex c S' := by
      show M.bind' (fs ρ) _ w.S = _
      unfold M.bind'
      rw [r]
    rw [r2] at p'
    exact p'
  | bad =>
    have r2 : (fs ρ >>= fun as => (if as.length ≤ LIM then pure as else M.bad : M (List D))) w.S = .bad := by
      show M.bind' (fs ρ) _ w.S = _
      unfold M.bind'
      rw [r]
    rw [r2] at p'
    exact p'.elim
def setOF (i : Nat) (f : En → M (List D)) : En → M Fl := fun ρ => f ρ >>= fun ds => pure (.nx (ρ.set i (some (.lst ds))))
/-- slot i becomes owned -/
structure Add (own o' : List Nat) (i : Nat) : Prop where
  at_ : i ∈ o'
  a : ∀ j ∈ o', j ∈ own ∨ j = i
  b : ∀ j ∈ own, j ∈ o'
def addB (own o' : List Nat) (i : Nat) : Bool := o'.contains i && ((o'.all fun j => own.contains j || j == i) && own.all fun j => o'.contains j)
theorem add_of {own o' : List Nat} {i : Nat} (h : addB own o' i = true) : Add own o' i := by
  unfold addB at h
  rw [Bool.and_eq_true, Bool.and_eq_true] at h
  refine ⟨by simpa using h.1, fun j hj => ?_, fun j hj => ?_⟩
  · have := List.all_eq_true.mp h.2.1 j hj
    simpa using this
  · have := List.all_eq_true.mp h.2.2 j hj
    simpa using this
theorem SOk.setO {i : Nat} {p : Addr} {xs : List V} {ds : List D} (s : SOk X m w0 H0 w H σ ρ) (hp : H p = none) (r : RepAll X.K w xs ds) (h : Add m.own o' i) : SOk X (m.to o') w0 H0 w (upd H p (.lst xs)) (σ.set i (some (.ref p))) (ρ.set i (some (.lst ds))) where
  st := s.st.trans (Step.cell hp)
  ok := s.ok.cell hp
  env := ⟨by rw [List.length_set, List.length_set]; exact s.len, fun j d hj ej => by
    have ne : i ≠ j := fun z => hj (by rw [← z]; exact h.at_)
    rw [List.getElem?_set_ne ne] at ej
    rw [List.getElem?_set_ne ne]
    exact s.env.2 j d (fun z => hj (h.b j z)) ej⟩
  own := fun j hj d ej => by
    by_cases ne : i = j
    · subst ne
      by_cases hlt : i < ρ.length
      · rw [List.getElem?_set_self hlt] at ej
        cases ej
        exact ⟨p, List.getElem?_set_self (by rw [s.len]; exact hlt), s.ok.free hp, s.st.free hp, .inl ⟨ds, xs, rfl, upd_same, r⟩⟩
      · rw [List.getElem?_eq_none (by rw [List.length_set]; omega)] at ej; cases ej
    · rw [List.getElem?_set_ne ne] at ej
      rw [List.getElem?_set_ne ne]
      have hjm : j ∈ m.own := (h.a j hj).resolve_right fun z => ne z.symm
      obtain ⟨p2, k1, k2, k3, k4⟩ := s.own j hjm d ej
      refine ⟨p2, k1, k2, k3, k4.step (Le.refl w) fun u hu _ => ?_⟩
      rw [upd_ne (ne_of_none hu hp)]; exact hu
  dis := fun x hx y hy ne d e q k1 k2 k3 k4 => by
    have old : ∀ {z : Nat} {u : D}, z ∈ m.own → ρ[z]? = some (some u) → σ[z]? = some (some (.ref p)) → False := fun {z u} hz ez sz => by
      obtain ⟨p2, j1, j2, j3, j4⟩ := s.own z hz u ez
      rw [sz] at j1
      cases j1
      obtain ⟨u, hu, _⟩ := j4.there
      rw [hp] at hu; cases hu
    by_cases h1 : i = x
    · subst h1
      have ny : i ≠ y := ne
      rw [List.getElem?_set_ne ny] at k2 k4
      have hym : y ∈ m.own := (h.a y hy).resolve_right fun z => ny z.symm
      by_cases hlt : i < σ.length
      · rw [List.getElem?_set_self hlt] at k3
        cases k3
        exact old hym k2 k4
      · rw [List.getElem?_eq_none (by rw [List.length_set]; omega)] at k3; cases k3
    · rw [List.getElem?_set_ne h1] at k1 k3
      have hxm : x ∈ m.own := (h.a x hx).resolve_right fun z => h1 z.symm
      by_cases h2 : i = y
      · subst h2
        by_cases hlt : i < σ.length
        · rw [List.getElem?_set_self hlt] at k4
          cases k4
          exact old hxm k1 k3
        · rw [List.getElem?_eq_none (by rw [List.length_set]; omega)] at k4; cases k4
      · rw [List.getElem?_set_ne h2] at k2 k4
        have hym : y ∈ m.own := (h.a y hy).resolve_right fun z => h2 z.symm
        exact s.dis x hxm y hym ne d e q k1 k2 k3 k4
  xg := s.xg
  len := by rw [List.length_set, List.length_set]; exact s.len
theorem ds_setO (pl : m.Plain) (i : Nat) (o' : List Nat) {x : Str} {pos' : Pos} (hN : X.N.Nodup) (he : DN X m e fs) (hi : X.N[i]? = some x := by rfl) (hx : Loc X.env.scope x := by first | exact Or.inl rfl | exact Or.inr rfl) (hr : Add m.own o' i := by exact add_of rfl)
    (hs : swapsWith e (some (.Name x pos')) pos.line X.env = pure false := by rfl) (hf : X.fn x = true ∨ X.env.scope.names.lookup x = some .local := by first | exact .inl rfl | exact .inr rfl) :
    DS X m o' (.Assign [.Name x pos'] e pos) (setOF i fs) := PS.imp (ps_set hN hi hx he hs hf) fun D σ H h => by
  obtain ⟨w0, H0, w, ρ, s, p⟩ := h
  refine ⟨w, ρ, s.ok, s.envOk, s.xg, ?_⟩
  have p' : PostF X m o' w0 H0 w (M.bind' (fs ρ) (fun ds => pure (.nx (ρ.set i (some (.lst ds))))) w.S) D := p
  unfold M.bind' at p'
  cases q : fs ρ w.S with
  | ok ds S' =>
    rw [q] at p'
    intro pp H1 H' w' xs st ok1 es hp eH rv
    subst es
    subst eH
    exact p' _ _ w' ((s.step st ok1).setO hp rv hr) st.le rfl
  | ex c S' =>
    rw [q] at p'
    intro H1 w1 st ok1 es
    exact p' H1 w1 (s.st.trans st) ok1 es σ
  | bad => rw [q] at p'; exact p'

/-! ### append, extend to an owned list -/
theorem Step.own {p : Addr} {o o2 : HO} (s : Step w0 H0 w H) (h0 : H0 p = none) (hp : H p = some o) (hi : ∀ C dx fs, o ≠ .ins C dx fs) : Step w0 H0 w (upd H p o2) where
  b := s.b
  ad := s.ad
  h := fun a u h n => by
    rw [upd_ne (ne_of_none h h0)]
    exact s.h a u h n
  i := fun a C dx fs h => by
    rw [upd_ne (ne_of_none h h0)]
    exact s.i a C dx fs h
  f := s.f
  e := s.e
theorem OkW.own {K : PySem.W.Frag} {p : Addr} {o o2 : HO} (k : OkW K w H) (hb : w.B p = none) (hp : H p = some o) (hi : ∀ C dx fs, o ≠ .ins C dx fs) : OkW K w (upd H p o2) where
  sub := fun a u h => by
    rw [upd_ne (ne_of_none h hb)]
    exact k.sub a u h
  len := k.len
  obj := fun n q c h1 h2 => by
    obtain ⟨vs, e1, e2, e3, e4⟩ := k.obj n q c h1 h2
    refine ⟨vs, ?_, e2, e3, e4⟩
    have ne : q.1 ≠ p := fun z => by
      rw [z, hp] at e1
      exact hi _ _ _ (Option.some.inj e1)
    rw [upd_ne ne]; exact e1
  inj := k.inj
/-- the owned thing in slot i is changed -/
theorem SOk.change {i : Nat} {p : Addr} {o2 : HO} {d d' : D} (s : SOk X m w0 H0 w H σ ρ) (hi : i ∈ m.own) (ei : ρ[i]? = some (some d)) (es : σ[i]? = some (some (.ref p))) (new : OwnAt X.K w (upd H p o2) p d') : SOk X m w0 H0 w (upd H p o2) σ (ρ.set i (some d')) := by
  obtain ⟨p', k1, k2, k3, k4⟩ := s.own i hi d ei
  rw [es] at k1
  cases k1
  obtain ⟨u, hu, hn⟩ := k4.there
  have hlt : i < ρ.length := (List.getElem?_eq_some_iff.mp ei).1
  refine ⟨s.st.own k3 hu hn, s.ok.own k2 hu hn, ⟨by rw [List.length_set]; exact s.len, fun j e hj ej => ?_⟩, fun j hj e ej => ?_, fun x hx y hy ne d1 d2 q z1 z2 z3 z4 => ?_, s.xg, by rw [List.length_set]; exact s.len⟩
  · have ne : i ≠ j := fun z => hj (by rw [← z]; exact hi)
    rw [List.getElem?_set_ne ne] at ej
    exact s.env.2 j e hj ej
  · by_cases ne : i = j
    · subst ne
      rw [List.getElem?_set_self hlt] at ej
      cases ej
      exact ⟨p, es, k2, k3, new⟩
    · rw [List.getElem?_set_ne ne] at ej
      obtain ⟨p2, j1, j2, j3, j4⟩ := s.own j hj e ej
      refine ⟨p2, j1, j2, j3, j4.step (Le.refl w) fun u hu2 _ => ?_⟩
      have np : p2 ≠ p := fun z => s.dis i hi j hj ne d e p ei ej es (by rw [← z]; exact j1)
      rw [upd_ne np]; exact hu2
  · have back : ∀ {z : Nat} {d1 : D}, (ρ.set i (some d'))[z]? = some (some d1) → ∃ d2, ρ[z]? = some (some d2) := fun {z d1} h => by
      by_cases q : i = z
      · subst q; exact ⟨d, ei⟩
      · rw [List.getElem?_set_ne q] at h; exact ⟨_, h⟩
    obtain ⟨e1, f1⟩ := back z1
    obtain ⟨e2, f2⟩ := back z2
    exact s.dis x hx y hy ne e1 e2 q f1 f2 z3 z4
def appF (i : Nat) (f : En → M D) : En → M Fl := fun ρ => match ρ[i]? with
  | some (some (.lst ds)) => f ρ >>= fun d => if ds.length < LIM then pure (.nx (ρ.set i (some (.lst (ds ++ [d]))))) else M.bad
  | _ => M.bad
theorem ds_append (pl : m.Plain) (i : Nat) {x : Str} {p1 p2 p3 : Pos} (hi : i ∈ m.own)
    (hp : PE X (.Call (.Attribute (.Name x p1) "append" p2) [e] [] p3) (tBM X.K "list" rAppend (tVar i) (tCons (td X m (Rep X.K) f) tNil)))
    (hs : swapsWith (.Call (.Attribute (.Name x p1) "append" p2) [e] [] p3) none pos.line X.env = pure false) :
    DS X m m.own (.Expr (.Call (.Attribute (.Name x p1) "append" p2) [e] [] p3) pos) (appF i f) := PS.imp (ps_expr hp hs) fun D σ H h => by
  obtain ⟨w0, H0, w, ρ, s, p⟩ := h
  unfold appF at p
  cases ei : ρ[i]? with
  | none => rw [ei] at p; exact p.elim
  | some od =>
    cases od with
    | none => rw [ei] at p; exact p.elim
    | some dd =>
      rw [ei] at p
      cases dd with
      | lst ds =>
        obtain ⟨pp, e1, e2, e3, e4⟩ := s.own i hi _ ei
        refine ⟨.ref pp, e1, ?_, ?_⟩
        · rcases e4 with ⟨_, xs, _, h1, _⟩ | ⟨_, _, z, _⟩
          · exact .inl ⟨rfl, xs, SqL.of h1⟩
          · cases z
        · refine s.eval pl p fun v d w1 H1 s1 r p1 => ?_
          obtain ⟨pp', k1, k2, k3, k4⟩ := s1.own i hi _ ei
          rw [e1] at k1
          cases k1
          rcases k4 with ⟨ds', xs, ed, h1, rx⟩ | ⟨_, _, z, _⟩
          · cases ed
            by_cases hl : ds.length < LIM
            · rw [if_pos hl] at p1
              refine ⟨pp, xs, v, rfl, rfl, h1, by rw [rx.length, ← LIM_eq]; exact hl, ?_⟩
              exact p1 _ _ w1 (s1.change hi ei e1 (.inl ⟨_, _, rfl, upd_same, rx.append (.cons r .nil)⟩)) (Le.refl w1) rfl
            · rw [if_neg hl] at p1; exact p1.elim
          · cases z
      | _ => exact p.elim
def extF (i : Nat) (f : En → M D) : En → M Fl := fun ρ => match ρ[i]? with
  | some (some (.lst ds)) => f ρ >>= fun d => match d with
    | .lst es => if ds.length + es.length ≤ LIM then pure (.nx (ρ.set i (some (.lst (ds ++ es))))) else M.bad
    | _ => M.bad
  | _ => M.bad
theorem ds_extend (pl : m.Plain) (i : Nat) {x : Str} {p1 p2 p3 : Pos} (hi : i ∈ m.own)
    (hp : PE X (.Call (.Attribute (.Name x p1) "extend" p2) [e] [] p3) (tBM X.K "list" rExtend (tVar i) (tCons (td X m (Rep X.K) f) tNil)))
    (hs : swapsWith (.Call (.Attribute (.Name x p1) "extend" p2) [e] [] p3) none pos.line X.env = pure false) :
    DS X m m.own (.Expr (.Call (.Attribute (.Name x p1) "extend" p2) [e] [] p3) pos) (extF i f) := PS.imp (ps_expr hp hs) fun D σ H h => by
  obtain ⟨w0, H0, w, ρ, s, p⟩ := h
  unfold extF at p
  cases ei : ρ[i]? with
  | none => rw [ei] at p; exact p.elim
  | some od =>
    cases od with
    | none => rw [ei] at p; exact p.elim
    | some dd =>
      rw [ei] at p
      cases dd with
      | lst ds =>
        obtain ⟨pp, e1, e2, e3, e4⟩ := s.own i hi _ ei
        refine ⟨.ref pp, e1, ?_, ?_⟩
        · rcases e4 with ⟨_, xs, _, h1, _⟩ | ⟨_, _, z, _⟩
          · exact .inl ⟨rfl, xs, SqL.of h1⟩
          · cases z
        · refine s.eval pl p fun v d w1 H1 s1 r p1 => ?_
          obtain ⟨pp', k1, k2, k3, k4⟩ := s1.own i hi _ ei
          rw [e1] at k1
          cases k1
          rcases k4 with ⟨ds', xs, ed, h1, rx⟩ | ⟨_, _, z, _⟩
          · cases ed
            cases r with
            | @lst pb ys es hy ry =>
              have p2 : PostF X m m.own w0 H0 w1 ((if ds.length + es.length ≤ LIM then pure (.nx (ρ.set i (some (.lst (ds ++ es))))) else M.bad : M Fl) w1.S) D := p1
              by_cases hl : ds.length + es.length ≤ LIM
              · rw [if_pos hl] at p2
                refine ⟨pp, pb, xs, ys, rfl, rfl, h1, s1.ok.sub _ _ hy, by rw [rx.length, ry.length, ← LIM_eq]; exact hl, ?_⟩
                exact p2 _ _ w1 (s1.change hi ei e1 (.inl ⟨_, _, rfl, upd_same, rx.append ry⟩)) (Le.refl w1) rfl
              · rw [if_neg hl] at p2; exact p2.elim
            | _ => exact p1.elim
          · cases z
      | _ => exact p.elim

/-! ### targets -/
structure TgOk (X : Cx) (g : TG) (τ : En → D → Option En) (js : List Nat) : Prop where
  go : ∀ (w : Wd) (H : Hp) (v : V) (d : D) (σ : L2.St) (ρ ρ' : En) (Q : L2.St → Hp → Prop), OkW X.K w H → Rep X.K w v d → σ.length = ρ.length → τ ρ d = some ρ' → (∀ σ', EnvTo X.K w js σ ρ σ' ρ' → Q σ' H) → g v σ H Q
def tgN (i : Nat) : En → D → Option En := fun ρ d => some (ρ.set i (some d))
theorem tg_name {i : Nat} : TgOk X (gName i) (tgN i) [i] where
  go := fun w H v d σ ρ ρ' Q o r hl e k => by
    cases e
    exact k _ (EnvTo.set hl r)
def setAll : List Nat → List D → En → Option En
  | [], [], ρ => some ρ
  | i :: is, d :: ds, ρ => setAll is ds (ρ.set i (some d))
  | _, _, _ => none
def tgT (is : List Nat) : En → D → Option En := fun ρ d => match d with
  | .tup ds => setAll is ds ρ
  | _ => none
/-- several names in a row -/
inductive GsOk : TGs → List Nat → Prop
  | nil : GsOk gNil []
  | cons {i : Nat} {is : List Nat} {t : TGs} : GsOk t is → GsOk (gCons (gName i) t) (i :: is)
theorem setAll_len : ∀ {is : List Nat} {ds : List D} {ρ ρ' : En}, setAll is ds ρ = some ρ' → is.length = ds.length
  | [], [], _, _, _ => rfl
  | _ :: _, _ :: _, _, _, h => congrArg (· + 1) (setAll_len (by unfold setAll at h; exact h))
  | [], _ :: _, _, _, h => by cases h
  | _ :: _, [], _, _, h => by cases h
theorem gs_go {w : Wd} {H : Hp} {Q : L2.St → Hp → Prop} : ∀ {t : TGs} {is : List Nat}, GsOk t is → ∀ {xs : List V} {ds : List D} {σ : L2.St} {ρ ρ' : En}, RepAll X.K w xs ds → σ.length = ρ.length → setAll is ds ρ = some ρ' → (∀ σ', EnvTo X.K w is σ ρ σ' ρ' → Q σ' H) → t xs σ H Q
  | _, _, .nil, [], [], σ, ρ, ρ', .nil, hl, e, k => by
    cases e
    exact ⟨rfl, k σ ⟨hl, rfl, fun j _ => ⟨rfl, rfl⟩, fun j hj => nomatch hj⟩⟩
  | _, _, .nil, _ :: _, _ :: _, _, _, _, .cons _ _, _, e, _ => by cases e
  | _, i :: is, .cons g, [], [], _, _, _, .nil, _, e, _ => by cases e
  | _, i :: is, .cons g, x :: xs, d :: ds, σ, ρ, ρ', .cons r rs, hl, e, k => by
    refine ⟨x, xs, rfl, ?_⟩
    have s1 := EnvTo.set (K := X.K) (i := i) hl r
    refine gs_go g rs s1.len (by unfold setAll at e; exact e) fun σ' t => k σ' ⟨t.len, t.len2.trans s1.len2, fun j hj => ?_, fun j hj u hu => ?_⟩
    · have h1 : j ∉ is := fun z => hj (List.mem_cons_of_mem _ z)
      have h2 : j ∉ [i] := fun z => hj (by rw [List.mem_singleton.mp z]; exact List.mem_cons_self)
      obtain ⟨a, b⟩ := t.out j h1
      obtain ⟨c, d⟩ := s1.out j h2
      exact ⟨a.trans c, b.trans d⟩
    · by_cases h1 : j ∈ is
      · exact t.inn j h1 u hu
      · have h2 : j = i := (List.mem_cons.mp hj).resolve_right h1
        obtain ⟨a, b⟩ := t.out j h1
        rw [b] at hu
        rw [a]
        exact s1.inn j (by rw [h2]; exact List.mem_singleton.mpr rfl) u hu
theorem tg_tup {is : List Nat} {t : TGs} (h : GsOk t is) : TgOk X (gTup X.K is.length t) (tgT is) is where
  go := fun w H v d σ ρ ρ' Q o r hl e k => by
    cases r with
    | @tup p xs ds hx rx =>
      have e' : setAll is ds ρ = some ρ' := e
      exact ⟨p, xs, rfl, sqT_mono o.sub hx, by rw [rx.length]; exact (setAll_len e').symm, gs_go h rx hl e' k⟩
    | _ => cases e

/-! ### what is walked -/
/-- from the world w on, J yields these -/
structure Yields (X : Cx) (J : It) (w : Wd) (ds : List D) : Prop where
  go : ∀ i w2 H2, Le w w2 → OkW X.K w2 H2 → i < ds.length → J.go i H2 ∧ ∀ x H3, J.yld i H2 x H3 → ∃ w3 d, Step w2 H2 w3 H3 ∧ OkW X.K w3 H3 ∧ w3.S = w2.S ∧ ds[i]? = some d ∧ Rep X.K w3 x d
  stop : ∀ w2 H2, Le w w2 → OkW X.K w2 H2 → J.stop ds.length H2
def PostI (X : Cx) (w : Wd) (H : Hp) (r : Out (List D)) (E : Str → Hp → Prop) (R : It → Hp → Prop) : Prop := match r with
  | .ok ds S' => ∀ J H' w', Step w H w' H' → OkW X.K w' H' → w'.S = S' → Yields X J w' ds → R J H'
  | .ex c S' => ∀ H' w', Step w H w' H' → OkW X.K w' H' → w'.S = S' → E c H'
  | .bad => False
def tdi (X : Cx) (m : Mo) (g : En → M (List D)) : TI := fun σ H R => ∃ w ρ, OkW X.K w H ∧ EnvOk X.K w H m.own σ ρ ∧ XG X m w ∧ PostI X w H (g ρ w.S) (EW X m σ) R
theorem PostI.step {r : Out (List D)} {E : Str → Hp → Prop} {R : It → Hp → Prop} (s : Step w H w1 H1) (p : PostI X w H r E R) : PostI X w1 H1 r E R := by
  cases r with
  | ok ds S' => exact fun J H' w' t => p J H' w' (s.trans t)
  | ex c S' => exact fun H' w' t => p H' w' (s.trans t)
  | bad => exact p
theorem PostI.here {ds : List D} {J : It} {E : Str → Hp → Prop} {R : It → Hp → Prop} (p : PostI X w H (.ok ds w.S) E R) (o : OkW X.K w H) (y : Yields X J w ds) : R J H := p J H w (Step.refl w H) o rfl y
def DI (X : Cx) (m : Mo) (tg iter : Expr) (g : En → M (List D)) : Prop := PI X tg iter (tdi X m g)
theorem PI.imp {X : Cx} {tg e : Expr} {t t' : TI} (h : PI X tg e t) (i : ∀ σ H R, t' σ H R → t σ H R) : PI X tg e t' := ⟨fun p s σ H R I q => h.run p s σ H R I (i σ H R q)⟩
def D.itemsL : D → M (List D)
  | .lst l => pure l
  | _ => M.bad
def D.itemsT : D → M (List D)
  | .tup l => pure l
  | _ => M.bad
def itr {α : Type} (k : α → M (List D)) (f : En → M α) : En → M (List D) := fun ρ => f ρ >>= k
theorem td_itr {α β : Type} {R0 : Wd → β → α → Prop} {f : En → M α} {k : α → M (List D)} {σ : L2.St} {H : Hp} {R : It → Hp → Prop} {Q : β → Hp → Prop} (h : tdi X m (itr k f) σ H R)
    (i : ∀ w1 H1 v d, OkW X.K w1 H1 → R0 w1 v d → PostI X w1 H1 (k d w1.S) (EW X m σ) R → Q v H1) : td X m R0 f σ H Q := by
  obtain ⟨w, ρ, o, e, xg, p⟩ := h
  refine ⟨w, ρ, o, e, xg, ?_⟩
  have p' : PostI X w H (M.bind' (f ρ) k w.S) (EW X m σ) R := p
  unfold M.bind' at p'
  cases q : f ρ w.S with
  | ok d S' =>
    rw [q] at p'
    intro v H1 w1 st ok1 es rv
    subst es
    exact i w1 H1 v d ok1 rv (p'.step st)
  | ex c S' => rw [q] at p'; exact p'
  | bad => rw [q] at p'; exact p'
theorem di_list {tg : Expr} (ha : DE X m a f) : DI X m tg a (itr D.itemsL f) := PI.imp (pi_list ha) fun σ H R q =>
  td_itr q fun w1 H1 v d o r p => by
    cases r with
    | @lst p1 xs ds hx rx =>
      refine ⟨p1, rfl, ⟨xs, SqL.of (o.sub _ _ hx)⟩, PostI.here p o ⟨fun i w2 H2 st ok hi => ?_, fun w2 H2 st ok => ?_⟩⟩
      · have hL : SqL X.K H2 p1 xs := SqL.of (ok.sub _ _ (st.b _ _ hx))
        obtain ⟨v, e1, r1⟩ := rx.get (List.getElem?_eq_getElem hi)
        refine ⟨⟨xs, v, hL, e1⟩, fun x H3 y => ?_⟩
        obtain ⟨e3, y⟩ := y
        subst e3
        have ev := y xs hL
        rw [e1] at ev
        cases ev
        exact ⟨w2, ds[i], Step.refl _ _, ok, rfl, List.getElem?_eq_getElem hi, r1.mono st⟩
      · exact ⟨xs, SqL.of (ok.sub _ _ (st.b _ _ hx)), by rw [rx.length]; exact Nat.le_refl _⟩
    | _ => exact p.elim
theorem di_tup {tg : Expr} (ha : DE X m a f) : DI X m tg a (itr D.itemsT f) := PI.imp (pi_tup ha) fun σ H R q =>
  td_itr q fun w1 H1 v d o r p => by
    cases r with
    | @tup p1 xs ds hx rx =>
      refine ⟨p1, rfl, ⟨xs, sqT_mono o.sub hx⟩, PostI.here p o ⟨fun i w2 H2 st ok hi => ?_, fun w2 H2 st ok => ?_⟩⟩
      · have hL : SqT X.K H2 p1 xs := sqT_mono (fun a u h => ok.sub _ _ (st.b a u h)) hx
        obtain ⟨v, e1, r1⟩ := rx.get (List.getElem?_eq_getElem hi)
        refine ⟨⟨xs, v, hL, e1⟩, fun x H3 y => ?_⟩
        obtain ⟨e3, y⟩ := y
        subst e3
        have ev := y xs hL
        rw [e1] at ev
        cases ev
        exact ⟨w2, ds[i], Step.refl _ _, ok, rfl, List.getElem?_eq_getElem hi, r1.mono st⟩
      · exact ⟨xs, sqT_mono (fun a u h => ok.sub _ _ (st.b a u h)) hx, by rw [rx.length]; exact Nat.le_refl _⟩
    | _ => exact p.elim
def rngD (lo : Int) (n : Nat) : List D := (List.range n).map fun (i : Nat) => D.int (lo + (i : Int))
theorem rngD_len (lo : Int) (n : Nat) : (rngD lo n).length = n := by unfold rngD; rw [List.length_map, List.length_range]
theorem yields_range {w : Wd} (lo : Int) (n : Nat) : Yields X (Itr lo n) w (rngD lo n) where
  go := fun i w2 H2 st ok hi => by
    rw [rngD_len] at hi
    refine ⟨hi, fun x H3 y => ?_⟩
    obtain ⟨e3, ex⟩ := y
    subst e3
    subst ex
    exact ⟨w2, .int (lo + i), Step.refl _ _, ok, rfl, by unfold rngD; rw [List.getElem?_map, List.getElem?_range hi]; rfl, .int _⟩
  stop := fun w2 H2 st ok => by
    show n ≤ (rngD lo n).length
    rw [rngD_len]; exact Nat.le_refl _
noncomputable def rng1 (j : D) : M (List D) := match j with
  | .int j => gd (-(2 ^ 62) ≤ j ∧ j < 2 ^ 62) (pure (rngD 0 j.toNat))
  | _ => M.bad
noncomputable def rng2 (i j : D) : M (List D) := match i, j with
  | .int i, .int j => gd (-(2 ^ 62) ≤ i ∧ i < 2 ^ 62 ∧ -(2 ^ 62) ≤ j ∧ j < 2 ^ 62) (pure (rngD i (j - i).toNat))
  | _, _ => M.bad
def on1 {α : Type} (k : D → M α) : List D → M α
  | [a] => k a
  | _ => M.bad
def on2 {α : Type} (k : D → D → M α) : List D → M α
  | [a, b] => k a b
  | _ => M.bad
theorem on1_inv {K : PySem.W.Frag} {w : Wd} {vs : List V} {ds : List D} (r : RepAll K w vs ds) : (∃ v d, vs = [v] ∧ ds = [d] ∧ Rep K w v d) ∨ ∀ {α : Type} (k : D → M α), on1 k ds = M.bad := by
  match ds, r with
  | [], .nil => exact .inr fun _ => rfl
  | [d], .cons r .nil => exact .inl ⟨_, _, rfl, rfl, r⟩
  | _ :: _ :: _, .cons _ (.cons _ _) => exact .inr fun _ => rfl
theorem on2_inv {K : PySem.W.Frag} {w : Wd} {vs : List V} {ds : List D} (r : RepAll K w vs ds) : (∃ v1 v2 d1 d2, vs = [v1, v2] ∧ ds = [d1, d2] ∧ Rep K w v1 d1 ∧ Rep K w v2 d2) ∨ ∀ {α : Type} (k : D → D → M α), on2 k ds = M.bad := by
  match ds, r with
  | [], .nil => exact .inr fun _ => rfl
  | [d], .cons r .nil => exact .inr fun _ => rfl
  | [d, e], .cons r (.cons r2 .nil) => exact .inl ⟨_, _, _, _, rfl, rfl, r, r2⟩
  | _ :: _ :: _ :: _, .cons _ (.cons _ (.cons _ _)) => exact .inr fun _ => rfl
theorem di_range1 {tg : Expr} {p : Pos} (hg : Gl X "range") (hm : X.mg "range" = none) (ha : DA X m [a] fs) (hs : starEach [a] X.env = [(false, eval a X.env)] := by rfl) : DI X m tg (.Call (.Name "range" p) [a] [] pos) (itr (on1 rng1) fs) :=
  PI.imp (pi_range1 hg hm ha hs) fun σ H R q => td_itr q fun w1 H1 v d o r p => by
    rcases on1_inv r with ⟨v, d, rfl, rfl, r1⟩ | z
    · cases r1 with
      | int j =>
        have p' : PostI X w1 H1 ((gd (-(2 ^ 62) ≤ j ∧ j < 2 ^ 62) (pure (rngD 0 j.toNat)) : M (List D)) w1.S) (EW X m σ) R := p
        by_cases hj : -(2 ^ 62) ≤ j ∧ j < 2 ^ 62
        · rw [gd_pos hj] at p'
          exact ⟨j, rfl, hj.1, hj.2, PostI.here p' o (yields_range 0 j.toNat)⟩
        · rw [gd_neg hj] at p'; exact p'.elim
      | _ => exact p.elim
    · rw [z] at p; exact p.elim
theorem di_range2 {tg : Expr} {p : Pos} (hg : Gl X "range") (hm : X.mg "range" = none) (ha : DA X m [a, b] fs) (hs : starEach [a, b] X.env = [(false, eval a X.env), (false, eval b X.env)] := by rfl) (hs2 : starEach [b] X.env = [(false, eval b X.env)] := by rfl) :
    DI X m tg (.Call (.Name "range" p) [a, b] [] pos) (itr (on2 rng2) fs) :=
  PI.imp (pi_range2 hg hm ha hs hs2) fun σ H R q => td_itr q fun w1 H1 v d o r p => by
    rcases on2_inv r with ⟨v1, v2, d1, d2, rfl, rfl, r1, r2⟩ | z
    · cases r1 with
      | int i =>
        cases r2 with
        | int j =>
          have p' : PostI X w1 H1 ((gd (-(2 ^ 62) ≤ i ∧ i < 2 ^ 62 ∧ -(2 ^ 62) ≤ j ∧ j < 2 ^ 62) (pure (rngD i (j - i).toNat)) : M (List D)) w1.S) (EW X m σ) R := p
          by_cases hj : -(2 ^ 62) ≤ i ∧ i < 2 ^ 62 ∧ -(2 ^ 62) ≤ j ∧ j < 2 ^ 62
          · rw [gd_pos hj] at p'
            exact ⟨i, j, rfl, hj, PostI.here p' o (yields_range i (j - i).toNat)⟩
          · rw [gd_neg hj] at p'; exact p'.elim
        | _ => exact p.elim
      | _ => exact p.elim
    · rw [z] at p; exact p.elim

/-! ### for -/
def loopF (τ : En → D → Option En) (body : En → M Fl) : List D → En → M Fl
  | [], ρ => pure (.nx ρ)
  | d :: r, ρ => match τ ρ d with
    | none => M.bad
    | some ρ1 => body ρ1 >>= fun fl => match fl with
      | .nx ρ2 => loopF τ body r ρ2
      | .rt v => pure (.rt v)
def forF (it : En → M (List D)) (τ : En → D → Option En) (body : En → M Fl) : En → M Fl := fun ρ => it ρ >>= fun ds => loopF τ body ds ρ
theorem ds_for (pl : m.Plain) {tg iter : Expr} {body : List Stmt} {it : En → M (List D)} {g : TG} {τ : En → D → Option En} {js : List Nat} {B : En → M Fl} (hp : PassesOwn (model X.prog X.w) X.A X.env X.xe) (hc : X.calm = true)
    (hi : DI X m tg iter it) (hg : PG X tg g) (ht : TgOk X g τ js) (hj : ∀ j ∈ js, j ∉ m.own) (hb : DSs X m m.own body B) (hs : ∀ x, foldedSetIterable iter X.env x = pure x := by intro _; rfl) :
    DS X m m.own (.For tg iter body [] pos) (forF it τ B) := PS.imp (ps_for hp hc hi hg hb hs) fun Dn σ H h => by
  obtain ⟨w0, H0, w, ρ, s, p⟩ := h
  refine ⟨w, ρ, s.ok, s.envOk, s.xg, ?_⟩
  have p' : PostF X m m.own w0 H0 w (M.bind' (it ρ) (fun ds => loopF τ B ds ρ) w.S) Dn := p
  unfold M.bind' at p'
  cases q : it ρ w.S with
  | ex c S' =>
    rw [q] at p'
    intro H1 w1 st ok1 es
    exact p' H1 w1 (s.st.trans st) ok1 es σ
  | bad => rw [q] at p'; exact p'
  | ok ds S' =>
    rw [q] at p'
    intro J HJ wJ stJ okJ es Y
    subst es
    have p2 : PostF X m m.own w0 H0 wJ (loopF τ B ds ρ wJ.S) Dn := PostF.le stJ.le p'
    refine ⟨fun i n σ H => n = ds.length - i ∧ i ≤ ds.length ∧ ∃ w1 ρ1, SOk X m w0 H0 w1 H σ ρ1 ∧ Le wJ w1 ∧ PostF X m m.own w0 H0 w1 (loopF τ B (ds.drop i) ρ1 w1.S) Dn,
      ⟨ds.length, by simp, Nat.zero_le _, wJ, ρ, s.step stJ okJ, Le.refl _, by rw [List.drop_zero]; exact p2⟩, ?_⟩
    rintro i n σ1 H1 ⟨rfl, hi, w1, ρ1, s1, st1, p3⟩
    by_cases hlt : i < ds.length
    · right
      obtain ⟨hgo, hy⟩ := Y.go i w1 H1 st1 s1.ok hlt
      refine ⟨hgo, fun σ' H' => ∃ w2 ρ2, SOk X m w0 H0 w2 H' σ' ρ2 ∧ Le wJ w2 ∧ PostF X m m.own w0 H0 w2 (loopF τ B (ds.drop (i + 1)) ρ2 w2.S) Dn, fun σ' H' ⟨w2, ρ2, k1, k2, k3⟩ => ⟨ds.length - (i + 1), by omega, rfl, hlt, w2, ρ2, k1, k2, k3⟩, fun x H2 y => ?_⟩
      obtain ⟨w2, d, st2, ok2, es2, ed, rd⟩ := hy x H2 y
      rw [List.drop_eq_getElem_cons hlt] at p3
      have ed' : ds[i] = d := by rw [List.getElem?_eq_getElem hlt] at ed; exact Option.some.inj ed
      rw [ed'] at p3
      have s2 := s1.step st2 ok2
      unfold loopF at p3
      cases qt : τ ρ1 d with
      | none => rw [qt] at p3; exact p3.elim
      | some ρt =>
        rw [qt] at p3
        refine ht.go w2 H2 x d σ1 ρ1 ρt _ ok2 rd s2.len qt fun σt t => ?_
        have st' : SOk X m w0 H0 w2 H2 σt ρt := s2.to (o' := m.own) t (fun j hj' => ⟨hj', fun z => hj j z hj'⟩) fun j hj' => .inl hj'
        refine ⟨w0, H0, w2, ρt, st', ?_⟩
        have p4 : PostF X m m.own w0 H0 w1 (M.bind' (B ρt) (fun fl => match fl with | .nx ρ2 => loopF τ B (ds.drop (i + 1)) ρ2 | .rt v => pure (.rt v)) w1.S) Dn := p3
        rw [← es2] at p4
        have p5 := PostF.le st2.le p4
        unfold M.bind' at p5
        cases qb : B ρt w2.S with
        | ok fl S3 =>
          rw [qb] at p5
          cases fl with
          | nx ρ2 =>
            intro σ3 H3 w3 s3 l3 es3
            subst es3
            exact ⟨w3, ρ2, s3, (st1.trans st2.le).trans l3, PostF.le l3 p5⟩
          | rt v => exact p5
        | ex c S3 => rw [qb] at p5; exact p5
        | bad => rw [qb] at p5; exact p5
    · left
      have e : i = ds.length := by omega
      subst e
      refine ⟨Y.stop w1 H1 st1 s1.ok, ?_⟩
      rw [List.drop_length] at p3
      exact p3 σ1 H1 w1 s1 (Le.refl _) rfl
/-! ### while -/
def whileF (c : En → M Bool) (body : En → M Fl) : Nat → En → M Fl
  | 0, _ => M.bad
  | n + 1, ρ => c ρ >>= fun t => if t then (body ρ >>= fun fl => match fl with
      | .nx ρ2 => whileF c body n ρ2
      | .rt v => pure (.rt v)) else pure (.nx ρ)
theorem ds_while (pl : m.Plain) (n : Nat) {c : Expr} {body : List Stmt} {ft : En → M Bool} {B : En → M Fl} (hp : PassesOwn (model X.prog X.w) X.A X.env X.xe) (hc : DT X m c ft) (hb : DSs X m m.own body B) :
    DS X m m.own (.While c body [] pos) (whileF ft B n) := PS.imp (ps_while hp hc hb) fun Dn σ H h => by
  obtain ⟨w0, H0, w, ρ, s, p⟩ := h
  refine ⟨fun n σ H => ∃ w1 ρ1, SOk X m w0 H0 w1 H σ ρ1 ∧ PostF X m m.own w0 H0 w1 (whileF ft B n ρ1 w1.S) Dn, ⟨n, w, ρ, s, p⟩, ?_⟩
  rintro n σ1 H1 ⟨w1, ρ1, s1, p1⟩
  cases n with
  | zero => exact p1.elim
  | succ n =>
    have p2 : PostF X m m.own w0 H0 w1 ((ft ρ1 >>= fun t => if t then (B ρ1 >>= fun fl => match fl with | .nx ρ2 => whileF ft B n ρ2 | .rt v => pure (.rt v)) else pure (.nx ρ1)) w1.S) Dn := p1
    refine s1.eval pl p2 fun v d w2 H2 s2 r p3 => ?_
    cases r
    cases v with
    | true =>
      refine iteT ⟨fun σ' H' => ∃ w1 ρ1, SOk X m w0 H0 w1 H' σ' ρ1 ∧ PostF X m m.own w0 H0 w1 (whileF ft B n ρ1 w1.S) Dn, fun σ' H' h => ⟨n, Nat.lt_succ_self n, h⟩, w0, H0, w2, ρ1, s2, ?_⟩
      have p4 : PostF X m m.own w0 H0 w2 (M.bind' (B ρ1) (fun fl => match fl with | .nx ρ2 => whileF ft B n ρ2 | .rt v => pure (.rt v)) w2.S) Dn := p3
      unfold M.bind' at p4
      cases qb : B ρ1 w2.S with
      | ok fl S3 =>
        rw [qb] at p4
        cases fl with
        | nx ρ2 =>
          intro σ3 H3 w3 s3 l3 es3
          subst es3
          exact ⟨w3, ρ2, s3, PostF.le l3 p4⟩
        | rt v => exact p4
      | ex c S3 => rw [qb] at p4; exact p4
      | bad => rw [qb] at p4; exact p4
    | false => exact iteF (p3 σ1 H2 w2 s2 (Le.refl _) rfl)
end
end DL

/-! DL7: zip, enumerate; comprehensions. -/
namespace DL
open PySem PySem.Spec PyProof.Rows L2

/-! ### enumerate of a tuple -/
theorem enumNew {v : Value} {o : Obj} {G : Heap → Prop} (B : Begins v o G) :
    Meets (Builtin.«enumerate.__new__» ⟨[.type "enumerate", v], []⟩) (fun _ R s => G s.heap ∧ R (.ok (.ret (.ref (s.heap.push o).objs.size)))
      { s with heap := (s.heap.push o).push { cls := .type "enumerate", data := .fields #[.none, .bool false, .ref s.heap.objs.size, rawInt 0, .none, .none] } }) :=
  .of_wp fun prog w A R s hh => by
    obtain ⟨hp, gn, dr, tk, os⟩ := s
    obtain ⟨hG, hR⟩ := hh
    have sb := sub_enumerate
    have it1 : ∀ {A' : Around} {E : Value → Shared → Prop} {Q : Value → Shared → Prop}, Q (.ref hp.objs.size) ⟨hp.push o, gn, dr, tk, os⟩ → wpAny (model prog w) A' (pyIter v) Q E ⟨hp, gn, dr, tk, os⟩ :=
      fun q => B.iter prog w _ _ ⟨hp, gn, dr, tk, os⟩ _ hG q
    wp_walk using it1
    refine wpAny_stack_any fun st => wpAny_pure ?_
    split
    · rename_i c _ _ _ _ _
      cases (c == Value.type "enumerate")
      · wp_walk using it1
        exact ⟨_, rfl, hR⟩
      · wp_walk using it1
        exact ⟨_, rfl, hR⟩
    · wp_walk using it1
      exact ⟨_, rfl, hR⟩
theorem enumTup {prog : Program} {w : World} {A : Around} {E : Value → Shared → Prop} {s : Shared} {t : Addr} {items : Array Value} {Q : Value → Shared → Prop} (ht : s.heap.IsTuple t items)
    (k : ∀ h', IsEnum h' (s.heap.objs.size + 1) s.heap.objs.size 0 .none → h'.IsTupleIter s.heap.objs.size t 0 → (∀ b o, s.heap.get? b = some o → h'.get? b = some o) → Q (.ref (s.heap.objs.size + 1)) { s with heap := h' }) :
    wpAny (model prog w) A (call (.type "enumerate") [.ref t]) Q E s := by
  let io : Obj := { cls := .type "tuple_iterator", data := .fields #[.ref t, .int 0 0] }
  have sz : (s.heap.push io).objs.size = s.heap.objs.size + 1 := Heap.size_push ..
  refine callType_new F.called_enumerate (by decide) (F.typeCall_enumerate_1 _) (F.newCall_enumerate_1 _) (fun ob => F.args_object_init_2 ob _) F.entry_enumerate_new (enumNew (begins_tuple t items)) ⟨ht, ?_⟩
  show _ ∧ _
  rw [sz]
  have new : IsEnum ((s.heap.push io).push { cls := .type "enumerate", data := .fields #[.none, .bool false, .ref s.heap.objs.size, rawInt 0, .none, .none] }) (s.heap.objs.size + 1) s.heap.objs.size 0 .none := by
    have z := Heap.get?_push_size (s.heap.push io) (o := { cls := .type "enumerate", data := .fields #[.none, .bool false, .ref s.heap.objs.size, rawInt 0, .none, .none] }) rfl
    rw [sz] at z; exact z
  exact ⟨⟨_, new, rfl⟩, k _ new ⟨_, Heap.get?_push_of_some _ (Heap.get?_push_size _ rfl), rfl, rfl⟩ fun b o x => Heap.get?_push_of_some _ (Heap.get?_push_of_some _ x)⟩
/-- the tuple at a, each item in a new pair with its place -/
def Iet (K : PySem.W.Frag) (a : Addr) : It :=
  ⟨fun i H => ∃ (xs : List V) (x : V), SqT K H a xs ∧ xs[i]? = some x, fun i H v H' => ∃ T x, v = .ref T ∧ H T = none ∧ H' = upd H T (.tup [.int (i : Nat), x]) ∧ ∀ xs, SqT K H a xs → xs[i]? = some x, fun i H => ∃ xs : List V, SqT K H a xs ∧ xs.length ≤ i⟩
theorem turnIet {P : Program} {w : World} {K : PySem.W.Frag} {elts : List Expr} {kk : Nat} {tpos : Pos} (a e it : Addr) :
    Turn P w K (.Tuple elts kk tpos) (Iet K a) [e, it] e (fun i h => (∃ old, IsEnum h e it ((i : Nat) : Int) old) ∧ h.IsTupleIter it a i ∧ e ≠ it) where
  mem := by simp
  obj := fun i h st b hb => by
    obtain ⟨⟨old, he⟩, ⟨o, ho, hc, hd⟩, _⟩ := st
    have two : b = e ∨ b = it := by simpa using hb
    rcases two with z | z
    · rw [z]; exact ⟨_, he, fun v q => nomatch q⟩
    · rw [z]; exact ⟨o, ho, fun v q => by rw [hd] at q; cases q⟩
  keep := fun i h h' st k => by
    obtain ⟨⟨old, he⟩, hi, hne⟩ := st
    exact ⟨⟨old, k e (by simp) _ he⟩, hi.at fun o q => k it (by simp) o q, hne⟩
  item := by
    intro X hP hw hK hc i pins s σ H E I hf st hg
    subst hP hw hK
    obtain ⟨⟨old, he⟩, hit, hne⟩ := st
    obtain ⟨xs, x, hq, hx⟩ := hg
    obtain ⟨its, rv, p, hz⟩ := I.tuple hq
    obtain ⟨u, hu, ru⟩ := rv.get hx
    have lte : e < s.heap.objs.size := Heap.lt_size he
    have lti : it < s.heap.objs.size := by obtain ⟨_, q, _⟩ := hit; exact Heap.lt_size q
    have hta : a ≠ it := by
      rintro rfl
      obtain ⟨o1, h1, h2, _⟩ := hit
      obtain ⟨o2, h3, h4, _⟩ := p
      rw [h1] at h3
      cases h3
      rw [h2] at h4
      exact absurd h4 (by decide +kernel)
    have hta2 : a ≠ e := by
      rintro rfl
      obtain ⟨o2, h3, h4, _⟩ := p
      rw [he] at h3
      cases h3
      exact absurd (show Value.type "enumerate" = Value.type "tuple" from h4) (by decide +kernel)
    have D := Draws.tuple (prog := X.prog) (w := X.w) (A := X.A.in1) (I.ok.hd hc) it a hta its.toArray
    have hlt : i < its.toArray.size := by
      rw [List.size_toArray, ← rv.length]
      exact (List.getElem?_eq_some_iff.mp hx).1
    refine wpAny_pyNext_enum_itemD D he ⟨hit, p⟩ hlt hne (by simp [hne, Ne.symm hta2]) fun y h' tk hy ho hst' hT hsz hk => ?_
    have ey : u = y := by
      have z : its.toArray[i]? = some u := by simpa using hu
      have z2 : its.toArray[i]? = some y := hy
      rw [z] at z2
      exact Option.some.inj z2
    subst ey
    refine ⟨_, rfl, wpAny_letOwnedTupleGo_enum (s := { s with heap := h', toks := tk + 1 }) ho fun h'' he' sb => ?_⟩
    have at2 : h''.get? s.heap.objs.size = some { cls := .type "tuple", data := .seq #[.int i tk, u] } := (sb.2 _ (Nat.ne_of_gt lte)).trans hT
    have ok2 : ObjOk X.prog X.w (upd H s.heap.objs.size (.tup [.int (i : Nat), x])) h'' s.heap.objs.size (.tup [.int (i : Nat), x]) :=
      ⟨by show 2 ≤ sizeLine; decide, [.int i tk, u], .cons ⟨_, rfl⟩ (.cons ru .nil), ⟨_, at2, rfl, _, rfl⟩⟩
    have J : Inv X pins σ (upd H s.heap.objs.size (.tup [.int (i : Nat), x])) { s with heap := h'', toks := tk + 1 } :=
      I.turnedNew (ch := [e, it]) (fun b ob hb q => (sb.2 b (fun z => hb (by simp [z]))).trans (hk b ob (fun z => hb (by simp [z])) (fun z => hb (by simp [z])) q)) hf (Nat.le_refl _) ok2
    refine ⟨.ref s.heap.objs.size, _, J, rfl, ⟨_, x, rfl, I.hok.fresh (Nat.le_refl _), rfl, fun ys hy => by rw [I.tuple_inj hy hq]; exact hx⟩, ⟨⟨u, ?_⟩, hst'.1.at fun o q => (sb.2 it (Ne.symm hne)).trans q, hne⟩, fun b hb => ?_⟩
    · have e1 : ((i + 1 : Nat) : Int) = (i : Int) + 1 := by omega
      rw [e1]
      exact he'
    · have two : b = e ∨ b = it := by simpa using hb
      have ltb : b < s.heap.objs.size := by
        rcases two with z | z
        · rw [z]; exact lte
        · rw [z]; exact lti
      rw [upd_ne (Nat.ne_of_lt ltb)]
      exact (hf b hb).1
  done := by
    intro X hP hw hK hc i pins s σ H E I hf st hg
    subst hP hw hK
    obtain ⟨⟨old, he⟩, hit, hne⟩ := st
    obtain ⟨xs, hq, hx⟩ := hg
    obtain ⟨its, rv, p, hz⟩ := I.tuple hq
    obtain ⟨f0, f1, f2, f3, f4, f5⟩ := hf it (by simp)
    have hta : a ≠ it := by
      rintro rfl
      obtain ⟨o1, h1, h2, _⟩ := hit
      obtain ⟨o2, h3, h4, _⟩ := p
      rw [h1] at h3
      cases h3
      rw [h2] at h4
      exact absurd h4 (by decide +kernel)
    unfold pyNext
    have ty : s.TypeIs (.ref e) "enumerate" := ⟨_, he, rfl⟩
    refine wpAny_bind (wpAny_attempt (wpAny_callSpecial?_slot (name := Str.ofString "__next__") ty F.slot_enumerate_next (wpAny_call_entry F.slot_enumerate_next ty F.entry_enumerate_next ?_ (F.args_enumerate_next_1 _))))
    show wpAny _ _ (field (.ref e) 2 >>= _) _ _ _
    refine wpAny_bind (wpAny_field he rfl (x := .ref it) rfl (wpAny_bind ?_))
    refine wpAny_nextOf_tuple_end (I.ok.hd hc) hit p (by rw [Array.getElem?_eq_none (by rw [List.size_toArray, ← rv.length]; exact hx)]) fun h' x hx' so => ?_
    obtain ⟨o, ho, hc'⟩ := so
    exact wpAny_bind (wpAny_isInstance (T := "StopIteration") (b := true) ⟨o, ho, hc'⟩ isSubtype_stop (wpAny_pure ⟨rfl, I.turned (t' := s.toks) (fun b o hb q => hx' b o hb q) f0 f1 f3 f4 f5⟩))
  self := fun A i s Q E st h => let ⟨⟨_, he⟩, _⟩ := st; wpAny_pyIter_enum he h
def iEnT (K : PySem.W.Frag) (ta : TA) : TI := fun σ H R => ta σ H fun vs H1 => ∃ a xs, vs = [.ref a] ∧ ((SqL K H1 a xs ∧ R (Ite K a) H1) ∨ (SqT K H1 a xs ∧ R (Iet K a) H1))
theorem pi_en {X : Cx} {e : Expr} {ta : TA} {p pos tpos : Pos} {elts : List Expr} {kk : Nat} (hg : Gl X "enumerate") (hm : X.mg "enumerate" = none) (ha : PA X [e] ta) (hs : starEach [e] X.env = [(false, eval e X.env)] := by rfl) :
    PI X (.Tuple elts kk tpos) (.Call (.Name "enumerate" p) [e] [] pos) (iEnT X.K ta) := by
  refine ⟨fun pins s σ H R I hw => ?_⟩
  refine Call_ (ld_blt I hg hm boot_enumerate (PyProof.Rows.callWith_type1 (thn (ha.run pos pins s σ H _ I hw) fun us s1 ⟨vs, H1, I1, r1, q1⟩ => ?_) hs rfl))
  obtain ⟨a, xs, ex, q⟩ := q1
  subst ex
  cases r1 with
  | cons r rr =>
    cases rr
    cases r
    have fr : ∀ b ∈ [s1.heap.objs.size + 1, s1.heap.objs.size], FpOk X pins H1 b := fun b hb => by
      have two : b = s1.heap.objs.size + 1 ∨ b = s1.heap.objs.size := by simpa using hb
      have le1 : s1.heap.objs.size ≤ b := by rcases two with z | z <;> (rw [z]; omega)
      exact I1.fpOk le1 (I1.hok.fresh le1)
    rcases q with ⟨hq, q⟩ | ⟨hq, q⟩
    · obtain ⟨its, rv, p', hz⟩ := I1.list hq
      refine call_enumerate_list p'.isList fun h' he hit hsz hk => wpAny_pyIter_enum he ?_
      have I2 : Inv X pins σ H1 { s1 with heap := h' } := I1.kept (t' := s1.toks) hk
      exact ⟨s1.heap.objs.size + 1, [s1.heap.objs.size + 1, s1.heap.objs.size], _, _, H1, rfl, I2, turn_enum a (s1.heap.objs.size + 1) s1.heap.objs.size, ⟨⟨.none, he⟩, hit, Nat.succ_ne_self _⟩, fr, q⟩
    · obtain ⟨its, rv, p', hz⟩ := I1.tuple hq
      refine enumTup (show s1.heap.IsTuple a its.toArray from p') fun h' he hit hk => wpAny_pyIter_enum he ?_
      have I2 : Inv X pins σ H1 { s1 with heap := h' } := I1.kept (t' := s1.toks) hk
      exact ⟨s1.heap.objs.size + 1, [s1.heap.objs.size + 1, s1.heap.objs.size], _, _, H1, rfl, I2, turnIet a (s1.heap.objs.size + 1) s1.heap.objs.size, ⟨⟨.none, he⟩, hit, Nat.succ_ne_self _⟩, fr, q⟩

section
variable {X : Cx} {m : Mo} {e a b : Expr} {f : En → M D} {fs : En → M (List D)} {pos tpos : Pos} {elts : List Expr} {kk : Nat}
def enD : Nat → List D → List D
  | _, [] => []
  | i, d :: r => .tup [.int (i : Nat), d] :: enD (i + 1) r
theorem enD_get : ∀ (l : List D) (k i : Nat), (enD k l)[i]? = (l[i]?).map fun d => D.tup [.int ((k + i : Nat) : Int), d]
  | [], _, _ => rfl
  | d :: r, k, 0 => rfl
  | d :: r, k, i + 1 => by
    show (enD (k + 1) r)[i]? = _
    rw [enD_get r (k + 1) i, List.getElem?_cons_succ]
    have : k + 1 + i = k + (i + 1) := by omega
    rw [this]
theorem enD_len : ∀ (l : List D) (k : Nat), (enD k l).length = l.length
  | [], _ => rfl
  | _ :: r, k => congrArg (· + 1) (enD_len r (k + 1))
def D.enum : D → M (List D)
  | .lst l => pure (enD 0 l)
  | .tup l => pure (enD 0 l)
  | _ => M.bad
theorem pair_new {w2 : Wd} {H2 : Hp} {T : Addr} {x y : V} {c d : D} (ok : OkW X.K w2 H2) (nT : H2 T = none) (rx : Rep X.K w2 x c) (ry : Rep X.K w2 y d) :
    Step w2 H2 (w2.add T (.tup [x, y])) (upd H2 T (.tup [x, y])) ∧ OkW X.K (w2.add T (.tup [x, y])) (upd H2 T (.tup [x, y])) ∧ Rep X.K (w2.add T (.tup [x, y])) (.ref T) (.tup [c, d]) := by
  have lw : Le w2 (w2.add T (.tup [x, y])) := Le.add (ok.free nT)
  exact ⟨Step.add ok nT, ok.add nT, .tup (SqT.of Wd.add_at) (.cons (rx.mono lw) (.cons (ry.mono lw) .nil))⟩
theorem di_enum {p : Pos} (hg : Gl X "enumerate") (hm : X.mg "enumerate" = none) (ha : DA X m [e] fs) (hs : starEach [e] X.env = [(false, eval e X.env)] := by rfl) : DI X m (.Tuple elts kk tpos) (.Call (.Name "enumerate" p) [e] [] pos) (itr (on1 D.enum) fs) :=
  PI.imp (pi_en hg hm ha hs) fun σ H R q => td_itr q fun w1 H1 v d o r p => by
    rcases on1_inv r with ⟨v, d, rfl, rfl, r1⟩ | z
    · cases r1 with
      | @lst p1 xs ds hx rx =>
        refine ⟨p1, xs, rfl, .inl ⟨SqL.of (o.sub _ _ hx), PostI.here (ds := enD 0 ds) p o ⟨fun i w2 H2 st ok hi => ?_, fun w2 H2 st ok => ?_⟩⟩⟩
        · rw [enD_len] at hi
          have hL : SqL X.K H2 p1 xs := SqL.of (ok.sub _ _ (st.b _ _ hx))
          obtain ⟨v, e1, r1⟩ := rx.get (List.getElem?_eq_getElem hi)
          refine ⟨⟨xs, v, hL, e1⟩, fun x H3 y => ?_⟩
          obtain ⟨T, u, eT, nT, eH, hu⟩ := y
          subst eT
          subst eH
          have ev := hu xs hL
          rw [e1] at ev
          cases ev
          obtain ⟨k1, k2, k3⟩ := pair_new ok nT (.int (i : Nat)) (r1.mono st)
          exact ⟨_, _, k1, k2, rfl, by rw [enD_get, List.getElem?_eq_getElem hi, Nat.zero_add]; rfl, k3⟩
        · exact ⟨xs, SqL.of (ok.sub _ _ (st.b _ _ hx)), by rw [rx.length, enD_len]; exact Nat.le_refl _⟩
      | @tup p1 xs ds hx rx =>
        refine ⟨p1, xs, rfl, .inr ⟨sqT_mono o.sub hx, PostI.here (ds := enD 0 ds) p o ⟨fun i w2 H2 st ok hi => ?_, fun w2 H2 st ok => ?_⟩⟩⟩
        · rw [enD_len] at hi
          have hL : SqT X.K H2 p1 xs := sqT_mono (fun a u h => ok.sub _ _ (st.b a u h)) hx
          obtain ⟨v, e1, r1⟩ := rx.get (List.getElem?_eq_getElem hi)
          refine ⟨⟨xs, v, hL, e1⟩, fun x H3 y => ?_⟩
          obtain ⟨T, u, eT, nT, eH, hu⟩ := y
          subst eT
          subst eH
          have ev := hu xs hL
          rw [e1] at ev
          cases ev
          obtain ⟨k1, k2, k3⟩ := pair_new ok nT (.int (i : Nat)) (r1.mono st)
          exact ⟨_, _, k1, k2, rfl, by rw [enD_get, List.getElem?_eq_getElem hi, Nat.zero_add]; rfl, k3⟩
        · exact ⟨xs, sqT_mono (fun a u h => ok.sub _ _ (st.b a u h)) hx, by rw [rx.length, enD_len]; exact Nat.le_refl _⟩
      | _ => exact p.elim
    · rw [z] at p; exact p.elim
def ziD : List D → List D → List D
  | a :: r, b :: t => .tup [a, b] :: ziD r t
  | _, _ => []
theorem ziD_get : ∀ (l k : List D) (i : Nat) (a b : D), l[i]? = some a → k[i]? = some b → (ziD l k)[i]? = some (.tup [a, b])
  | [], _, _, _, _, h, _ => by simp at h
  | _ :: _, [], _, _, _, _, h => by simp at h
  | a :: r, b :: t, 0, _, _, h, h2 => by simp at h h2; subst h; subst h2; rfl
  | a :: r, b :: t, i + 1, _, _, h, h2 => ziD_get r t i _ _ (by simpa using h) (by simpa using h2)
theorem ziD_len : ∀ (l k : List D), (ziD l k).length = min l.length k.length
  | [], _ => by simp [ziD]
  | _ :: _, [] => by simp [ziD]
  | _ :: r, _ :: t => by
    show (ziD r t).length + 1 = min (r.length + 1) (t.length + 1)
    rw [ziD_len r t]; omega
def D.zip : D → D → M (List D)
  | .lst l, .lst k => pure (ziD l k)
  | .tup l, .tup k => pure (ziD l k)
  | _, _ => M.bad
theorem di_zip {p : Pos} (hg : Gl X "zip") (hm : X.mg "zip" = none) (ha : DA X m [a, b] fs) (hs : starEach [a, b] X.env = (false, eval a X.env) :: starEach [b] X.env := by rfl) (hpl : (backTo pos (starEach [b] X.env)).any (·.1) = false := by rfl) :
    DI X m (.Tuple elts kk tpos) (.Call (.Name "zip" p) [a, b] [] pos) (itr (on2 D.zip) fs) :=
  PI.imp (RZ.pi_zipA hg hm ha hs hpl) fun σ H R q => td_itr q fun w1 H1 v d o r p => by
    rcases on2_inv r with ⟨v1, v2, d1, d2, rfl, rfl, r1, r2⟩ | z
    · cases r1 with
      | @lst p1 xs ds hx rx =>
        cases r2 with
        | @lst p2 ys es hy ry =>
          refine ⟨p1, p2, xs, ys, rfl, .inl ⟨SqL.of (o.sub _ _ hx), SqL.of (o.sub _ _ hy), PostI.here (ds := ziD ds es) p o ⟨fun i w2 H2 st ok hi => ?_, fun w2 H2 st ok => ?_⟩⟩⟩
          · rw [ziD_len] at hi
            have i1 : i < ds.length := by omega
            have i2 : i < es.length := by omega
            have hL : SqL X.K H2 p1 xs := SqL.of (ok.sub _ _ (st.b _ _ hx))
            have hL2 : SqL X.K H2 p2 ys := SqL.of (ok.sub _ _ (st.b _ _ hy))
            obtain ⟨v, e1, r1⟩ := rx.get (List.getElem?_eq_getElem i1)
            obtain ⟨v2, e2, r2⟩ := ry.get (List.getElem?_eq_getElem i2)
            refine ⟨⟨xs, ys, v, v2, hL, hL2, e1, e2⟩, fun x H3 y => ?_⟩
            obtain ⟨T, u, u2, eT, nT, eH, hu, hu2⟩ := y
            subst eT
            subst eH
            have ev := hu xs hL
            rw [e1] at ev
            cases ev
            have ev2 := hu2 ys hL2
            rw [e2] at ev2
            cases ev2
            obtain ⟨k1, k2, k3⟩ := pair_new ok nT (r1.mono st) (r2.mono st)
            exact ⟨_, _, k1, k2, rfl, ziD_get _ _ _ _ _ (List.getElem?_eq_getElem i1) (List.getElem?_eq_getElem i2), k3⟩
          · exact ⟨xs, ys, SqL.of (ok.sub _ _ (st.b _ _ hx)), SqL.of (ok.sub _ _ (st.b _ _ hy)), by rw [rx.length, ry.length, ziD_len]; omega⟩
        | _ => exact p.elim
      | @tup p1 xs ds hx rx =>
        cases r2 with
        | @tup p2 ys es hy ry =>
          refine ⟨p1, p2, xs, ys, rfl, .inr ⟨sqT_mono o.sub hx, sqT_mono o.sub hy, PostI.here (ds := ziD ds es) p o ⟨fun i w2 H2 st ok hi => ?_, fun w2 H2 st ok => ?_⟩⟩⟩
          · rw [ziD_len] at hi
            have i1 : i < ds.length := by omega
            have i2 : i < es.length := by omega
            have hL : SqT X.K H2 p1 xs := sqT_mono (fun a u h => ok.sub _ _ (st.b a u h)) hx
            have hL2 : SqT X.K H2 p2 ys := sqT_mono (fun a u h => ok.sub _ _ (st.b a u h)) hy
            obtain ⟨v, e1, r1⟩ := rx.get (List.getElem?_eq_getElem i1)
            obtain ⟨v2, e2, r2⟩ := ry.get (List.getElem?_eq_getElem i2)
            refine ⟨⟨xs, ys, v, v2, hL, hL2, e1, e2⟩, fun x H3 y => ?_⟩
            obtain ⟨T, u, u2, eT, nT, eH, hu, hu2⟩ := y
            subst eT
            subst eH
            have ev := hu xs hL
            rw [e1] at ev
            cases ev
            have ev2 := hu2 ys hL2
            rw [e2] at ev2
            cases ev2
            obtain ⟨k1, k2, k3⟩ := pair_new ok nT (r1.mono st) (r2.mono st)
            exact ⟨_, _, k1, k2, rfl, ziD_get _ _ _ _ _ (List.getElem?_eq_getElem i1) (List.getElem?_eq_getElem i2), k3⟩
          · exact ⟨xs, ys, sqT_mono (fun a u h => ok.sub _ _ (st.b a u h)) hx, sqT_mono (fun a u h => ok.sub _ _ (st.b a u h)) hy, by rw [rx.length, ry.length, ziD_len]; omega⟩
        | _ => exact p.elim
      | _ => exact p.elim
    · rw [z] at p; exact p.elim
end
end DL

/-! DL8: list comprehensions. -/
namespace DL
open PySem PySem.Spec PyProof.Rows L2

def nox {α : Type} (x : M α) : M α := fun S => match x S with
  | .ex _ _ => .bad
  | r => r
def wipeD : En → List Nat → En
  | ρ, [] => ρ
  | ρ, v :: vs => (wipeD ρ vs).set v none
theorem wipeD_len (ρ : En) : ∀ vs, (wipeD ρ vs).length = ρ.length
  | [] => rfl
  | v :: vs => by unfold wipeD; rw [List.length_set, wipeD_len ρ vs]
theorem wipeD_some {ρ : En} {i : Nat} {x : D} : ∀ {vs : List Nat}, (wipeD ρ vs)[i]? = some (some x) → ρ[i]? = some (some x) ∧ i ∉ vs
  | [], h => ⟨h, by simp⟩
  | v :: vs, h => by
    unfold wipeD at h
    by_cases hi : v = i
    · subst hi
      by_cases hv : v < (wipeD ρ vs).length
      · rw [List.getElem?_set_self hv] at h; cases h
      · rw [List.getElem?_eq_none (by simpa using hv)] at h; cases h
    · rw [List.getElem?_set_ne hi] at h
      obtain ⟨h1, h2⟩ := wipeD_some h
      exact ⟨h1, by simp only [List.mem_cons, not_or]; exact ⟨fun e => hi e.symm, h2⟩⟩
theorem wipe_in {σ : L2.St} {i : Nat} : ∀ {vs : List Nat}, i ∈ vs → i < σ.length → (wipe σ vs)[i]? = some none
  | v :: vs, h, hl => by
    unfold wipe
    by_cases e : v = i
    · subst e
      exact List.getElem?_set_self (by rw [wipe_length]; exact hl)
    · rw [List.getElem?_set_ne e]
      exact wipe_in ((List.mem_cons.mp h).resolve_left fun z => e z.symm) hl
theorem wipe_eq {σ σ2 : L2.St} {vs js : List Nat} (hl : σ2.length = σ.length) (h : ∀ j, j ∉ js → σ2[j]? = (wipe σ vs)[j]?) (hj : ∀ j ∈ js, j ∈ vs) : wipe σ2 vs = wipe σ vs := by
  apply List.ext_getElem?
  intro i
  by_cases hi : i ∈ vs
  · by_cases hlt : i < σ.length
    · rw [wipe_in hi hlt, wipe_in hi (by rw [hl]; exact hlt)]
    · rw [List.getElem?_eq_none (by rw [wipe_length]; omega), List.getElem?_eq_none (by rw [wipe_length]; omega)]
  · rw [wipe_out hi]
    exact h i fun z => hi (hj i z)

def Mo.blk (m : Mo) : Mo := ⟨fun _ _ _ _ => False, m.own, []⟩
def DTs (X : Cx) (m : Mo) (ifs : List Expr) (f : En → M Bool) : Prop := PTs X ifs (td X m RB f)
def always : En → M Bool := fun _ => pure true
section
variable {X : Cx} {m : Mo} {o o' o1 : List Nat} {w0 w w1 w2 : Wd} {H0 H H1 H2 : Hp} {σ : L2.St} {ρ : En} {F G : En → M Fl} {e a b : Expr} {f : En → M D} {pos : Pos} {es : List Expr} {fs : En → M (List D)} {ft : En → M Bool}
theorem dts_nil : DTs X m [] always := ⟨fun pins s σ H Q I h => pts_nil.run pins s σ H Q I (by
  obtain ⟨w, ρ, o, e, xg, p⟩ := h
  exact Post.val (d := true) (v := true) p o rfl)⟩
theorem dts_one (h : DT X m e ft) : DTs X m [e] ft := pts_one h

/-- compL: acc is not carried -/
def compL (τ : En → D → Option En) (c : En → M Bool) (e : En → M D) (ρ : En) : List D → M (List D)
  | [] => pure []
  | d :: r => match τ ρ d with
    | none => M.bad
    | some ρ1 => nox (c ρ1) >>= fun b => if b then nox (e ρ1) >>= fun x => compL τ c e ρ r >>= fun xs => pure (x :: xs) else compL τ c e ρ r
def compF (it : En → M (List D)) (τ : En → D → Option En) (vs : List Nat) (c : En → M Bool) (e : En → M D) : En → M (List D) := fun ρ => it ρ >>= fun ds => if ds.length ≤ LIM then compL τ c e (wipeD ρ vs) ds else M.bad

def del (H : Hp) (p : Addr) : Hp := fun a => if a = p then none else H a
theorem del_ne {p a : Addr} (h : a ≠ p) : del H p a = H a := if_neg h
theorem del_at {p : Addr} : del H p p = none := if_pos rfl
theorem del_upd {p : Addr} {o : HO} (h : H p = some o) : H = upd (del H p) p o := by
  funext a
  by_cases e : a = p
  · subst e; rw [upd_same]; exact h
  · rw [upd_ne e, del_ne e]
theorem Step.del {p : Addr} (s : Step w0 H0 w H) (h0 : H0 p = none) : Step w0 H0 w (del H p) where
  b := s.b
  ad := s.ad
  h := fun a u h n => by
    rw [del_ne (ne_of_none h h0)]
    exact s.h a u h n
  i := fun a C dx fs h => by
    rw [del_ne (ne_of_none h h0)]
    exact s.i a C dx fs h
  f := s.f
  e := s.e
theorem OkW.del {K : PySem.W.Frag} {p : Addr} {o : HO} (k : OkW K w H) (hb : w.B p = none) (hp : H p = some o) (hi : ∀ C dx fs, o ≠ .ins C dx fs) : OkW K w (del H p) where
  sub := fun a u h => by
    rw [del_ne (ne_of_none h hb)]
    exact k.sub a u h
  len := k.len
  obj := fun n q c h1 h2 => by
    obtain ⟨vs, e1, e2, e3, e4⟩ := k.obj n q c h1 h2
    refine ⟨vs, ?_, e2, e3, e4⟩
    have ne : q.1 ≠ p := fun z => by
      rw [z, hp] at e1
      exact hi _ _ _ (Option.some.inj e1)
    rw [del_ne ne]; exact e1
  inj := k.inj
/-- the rest of a comprehension's list, what stands already ahead of it -/
def PostL (K : PySem.W.Frag) (w0 : Wd) (H0 : Hp) (D : Addr) (acc : List DL.D) (w : Wd) (r : Out (List DL.D)) (Q : VK) : Prop := match r with
  | .ok ds S' => ∀ H' w' xs, Step w0 H0 w' H' → OkW K w' H' → Le w w' → w'.S = S' → w'.B D = none → H' D = some (.lst xs) → RepAll K w' xs (acc ++ ds) → Q (.ref D) H'
  | _ => False
theorem PostL.le {K : PySem.W.Frag} {A : Addr} {acc : List D} {r : Out (List D)} {Q : VK} (l : Le w w1) (p : PostL K w0 H0 A acc w r Q) : PostL K w0 H0 A acc w1 r Q := by
  cases r with
  | ok ds S' => exact fun H' w' xs s o l2 => p H' w' xs s o (l.trans l2)
  | _ => exact p
/-- what the block starts a turn's parts with -/
theorem td_nox {α β : Type} {R : Wd → β → α → Prop} {Y : Cx} {x : En → M α} {ρ : En} {Q : β → Hp → Prop} (hK : Y.K = X.K) (o : OkW X.K w H) (en : EnvOk X.K w H m.own σ ρ) (hx : w.exs = [])
    (k : ∃ a S', x ρ w.S = .ok a S' ∧ ∀ v H' w', Step w H w' H' → OkW X.K w' H' → w'.S = S' → R w' v a → Q v H') : td Y m.blk R x σ H Q := by
  obtain ⟨a, S', e, k⟩ := k
  refine ⟨w, ρ, by rw [hK]; exact o, by rw [hK]; exact en, ⟨hx, fun p hp => nomatch hp⟩, ?_⟩
  rw [e, hK]
  exact k
theorem nox_inv {α β : Type} {x : M α} {g : α → M β} {S : Store} : (∃ a S', x S = .ok a S' ∧ (nox x >>= g) S = g a S') ∨ (nox x >>= g) S = .bad := by
  show (∃ a S', x S = .ok a S' ∧ M.bind' (nox x) g S = g a S') ∨ M.bind' (nox x) g S = .bad
  unfold M.bind' nox
  cases x S with
  | ok a S' => exact .inl ⟨a, S', rfl, rfl⟩
  | ex c S' => exact .inr rfl
  | bad => exact .inr rfl
theorem bind_bad {α β : Type} {x : M α} {g : α → M β} {S : Store} (h : x S = .bad) : (x >>= g) S = .bad := by
  show M.bind' x g S = .bad
  unfold M.bind'; rw [h]
theorem bind_ok {α β : Type} {x : M α} {g : α → M β} {S S' : Store} {a : α} (h : x S = .ok a S') : (x >>= g) S = g a S' := by
  show M.bind' x g S = g a S'
  unfold M.bind'; rw [h]
theorem bind_ex {α β : Type} {x : M α} {g : α → M β} {S S' : Store} {c : Str} (h : x S = .ex c S') : (x >>= g) S = .ex c S' := by
  show M.bind' x g S = _
  unfold M.bind'; rw [h]
/-- an address that no part of a turn touches -/
theorem Step.keepD {A : Addr} {xs : List V} (s : Step w H w1 H1) (hb : w.B A = none) (h : H A = some (.lst xs)) : w1.B A = none ∧ H1 A = some (.lst xs) := by
  refine ⟨?_, s.h A _ h fun _ _ _ z => by cases z⟩
  cases q : w1.B A with
  | none => rfl
  | some u =>
    rcases s.f A u q with z | z
    · rw [hb] at z; cases z
    · rw [h] at z; cases z
theorem td_comp {own : List (Str × Nat)} {js : List Nat} {it : En → M (List D)} {g : TG} {τ : En → D → Option En} {Y : Cx} (hK : Y.K = X.K) (hx : m.xs = []) (hτ : TgOk X g τ js) (hj : ∀ j ∈ js, j ∈ own.map (·.2)) (hjo : ∀ j ∈ js, j ∉ m.own) {Q : VK}
    (h : tdN X m (compF it τ (own.map (·.2)) ft f) σ H Q) : tLc (tdi X m it) g (td Y m.blk RB ft) (td Y m.blk (Rep Y.K) f) (own.map (·.2)) σ H Q := by
  generalize own.map (·.2) = vs at hj h ⊢
  obtain ⟨w, ρ, o, en, xg, p⟩ := h
  refine ⟨w, ρ, o, en, xg, ?_⟩
  unfold compF at p
  have wx0 : w.exs = [] := xg.1.trans hx
  cases q : it ρ w.S with
  | ex c S' => rw [bind_ex q] at p; exact p
  | bad => rw [bind_bad q] at p; exact p.elim
  | ok ds S' =>
    rw [bind_ok q] at p
    intro J H1 w1 st1 ok1 es Y1 A hA
    subst es
    by_cases hlim : ds.length ≤ LIM
    · rw [if_pos hlim] at p
      have hHA : H A = none := st1.free hA
      have pL : PostL X.K w H A [] w1 (compL τ ft f (wipeD ρ vs) ds w1.S) Q := by
        cases q2 : compL τ ft f (wipeD ρ vs) ds w1.S with
        | ok rs S2 =>
          rw [q2] at p
          intro H' w' xs s3 o3 l3 e3 b3 hl3 r3
          exact p A (del H' A) H' w' xs (s3.del hHA) (o3.del b3 hl3 fun _ _ _ z => by cases z) e3 del_at (del_upd hl3) r3
        | ex c S2 =>
          -- a comprehension's block lets no exception out
          exfalso
          clear p
          have none : ∀ (l : List D) (S S2 : Store) (c : Str), compL τ ft f (wipeD ρ vs) l S ≠ .ex c S2 := by
            intro l
            induction l with
            | nil => intro S S2 c z; cases z
            | cons d r ih =>
              intro S S2 c z
              unfold compL at z
              cases qt : τ (wipeD ρ vs) d with
              | none => rw [qt] at z; cases z
              | some ρ1 =>
                rw [qt] at z
                simp only at z
                rcases nox_inv (x := ft ρ1) (g := fun b => if b then nox (f ρ1) >>= fun x => compL τ ft f (wipeD ρ vs) r >>= fun xs => pure (x :: xs) else compL τ ft f (wipeD ρ vs) r) (S := S) with ⟨b, S', _, z2⟩ | z2
                · rw [z2] at z
                  cases b with
                  | false => exact ih S' S2 c z
                  | true =>
                    have z' : (nox (f ρ1) >>= fun x => compL τ ft f (wipeD ρ vs) r >>= fun xs => pure (x :: xs)) S' = .ex c S2 := z
                    rcases nox_inv (x := f ρ1) (g := fun x => compL τ ft f (wipeD ρ vs) r >>= fun xs => pure (x :: xs)) (S := S') with ⟨x, S3, _, z3⟩ | z3
                    · rw [z3] at z'
                      cases q5 : compL τ ft f (wipeD ρ vs) r S3 with
                      | ok a S4 => rw [bind_ok q5] at z'; cases z'
                      | ex c' S4 => exact ih _ _ _ q5
                      | bad => rw [bind_bad q5] at z'; cases z'
                    · rw [z3] at z'; cases z'
                · rw [z2] at z; cases z
          exact none _ _ _ _ q2
        | bad => rw [q2] at p; exact p.elim
      clear p
      refine ⟨fun i n H2 => n = ds.length - i ∧ i ≤ ds.length ∧ ∃ w2 acc xs, Step w H w2 H2 ∧ OkW X.K w2 H2 ∧ Le w1 w2 ∧ w2.B A = none ∧ H2 A = some (.lst xs) ∧ RepAll X.K w2 xs acc ∧ acc.length ≤ i ∧ PostL X.K w H A acc w2 (compL τ ft f (wipeD ρ vs) (ds.drop i) w2.S) Q,
        ⟨ds.length, by simp, Nat.zero_le _, w1, [], [], st1.trans (Step.cell hA), ok1.cell hA, Le.refl _, ok1.free hA, upd_same, .nil, Nat.le_refl _, by rw [List.drop_zero]; exact pL⟩, ?_⟩
      rintro i n H2 ⟨rfl, hi, w2, acc, xs, s2, o2, l2, b2, h2, r2, la, p2⟩
      have ex2 : ∀ {w3 : Wd} {H3 : Hp}, Step w H w3 H3 → w3.exs = [] := fun s => s.e.trans wx0
      by_cases hlt : i < ds.length
      · right
        obtain ⟨hgo, hy⟩ := Y1.go i w2 H2 l2 o2 hlt
        refine ⟨hgo, fun H' => ∃ w2 acc xs, Step w H w2 H' ∧ OkW X.K w2 H' ∧ Le w1 w2 ∧ w2.B A = none ∧ H' A = some (.lst xs) ∧ RepAll X.K w2 xs acc ∧ acc.length ≤ i + 1 ∧ PostL X.K w H A acc w2 (compL τ ft f (wipeD ρ vs) (ds.drop (i + 1)) w2.S) Q,
          fun H' ⟨w2, acc, xs, k⟩ => ⟨ds.length - (i + 1), by omega, rfl, hlt, w2, acc, xs, k⟩, fun x H3 y => ?_⟩
        obtain ⟨w3, d, s3, o3, e3, ed, rd⟩ := hy x H3 y
        obtain ⟨b3, h3⟩ := s3.keepD b2 h2
        rw [List.drop_eq_getElem_cons hlt] at p2
        have ed' : ds[i] = d := by rw [List.getElem?_eq_getElem hlt] at ed; exact Option.some.inj ed
        rw [ed'] at p2
        unfold compL at p2
        cases qt : τ (wipeD ρ vs) d with
        | none => rw [qt] at p2; exact p2.elim
        | some ρ1 =>
          rw [qt] at p2
          simp only at p2
          refine hτ.go w3 H3 x d (wipe σ vs) (wipeD ρ vs) ρ1 _ o3 rd (by rw [wipe_length, wipeD_len]; exact en.1.1) qt fun σ1 t => ⟨wipe_eq (t.len2.trans (wipe_length _ _)) (fun j hj' => (t.out j hj').1) hj, ?_⟩
          have en1 : ∀ {w4 : Wd} {H4 : Hp}, Step w3 H3 w4 H4 → EnvOk X.K w4 H4 m.own σ1 ρ1 := fun {w4 H4} l => ⟨⟨t.len, fun i u hi e => by
            by_cases z : i ∈ js
            · obtain ⟨v, k1, k2⟩ := t.inn i z u e
              exact ⟨v, k1, k2.mono l.le⟩
            · rw [(t.out i z).2] at e
              rw [(t.out i z).1]
              obtain ⟨e, hv⟩ := wipeD_some e
              rw [wipe_out hv]
              obtain ⟨v, k1, k2⟩ := en.1.2 i u hi e
              exact ⟨v, k1, k2.mono (s2.le.trans (s3.le.trans l.le))⟩⟩, fun i hi u e => by
            have z : i ∉ js := fun q => hjo i q hi
            rw [(t.out i z).2] at e
            rw [(t.out i z).1]
            obtain ⟨e, hv⟩ := wipeD_some e
            rw [wipe_out hv]
            obtain ⟨p, k1, k2, k3⟩ := en.2 i hi u e
            obtain ⟨o, ho, _⟩ := k3.there
            have s24 := (s2.trans s3).trans l
            exact ⟨p, k1, s24.noB k2 ho, k3.step s24.le (s24.h p)⟩⟩
          rw [← e3] at p2
          rcases nox_inv (x := ft ρ1) (g := fun b => if b then nox (f ρ1) >>= fun x => compL τ ft f (wipeD ρ vs) (ds.drop (i + 1)) >>= fun xs => pure (x :: xs) else compL τ ft f (wipeD ρ vs) (ds.drop (i + 1))) (S := w3.S) with ⟨b, S', q3, z2⟩ | z2
          · rw [z2] at p2
            refine td_nox hK o3 (en1 (Step.refl _ _)) (ex2 (s2.trans s3)) ⟨b, S', q3, fun b' H4 w4 s4 o4 e4 eb => ?_⟩
            have eb : b' = b := eb
            subst eb
            subst e4
            obtain ⟨b4, h4⟩ := s4.keepD b3 h3
            have s04 := (s2.trans s3).trans s4
            have l4 := l2.trans (s3.le.trans s4.le)
            have r4 := r2.mono (s3.le.trans s4.le)
            cases b' with
            | false =>
              exact iteF ⟨w4, acc, xs, s04, o4, l4, b4, h4, r4, Nat.le_succ_of_le la, PostL.le (s3.le.trans s4.le) p2⟩
            | true =>
              have p3 : PostL X.K w H A acc w2 ((nox (f ρ1) >>= fun x => compL τ ft f (wipeD ρ vs) (ds.drop (i + 1)) >>= fun xs => pure (x :: xs)) w4.S) Q := p2
              rcases nox_inv (x := f ρ1) (g := fun x => compL τ ft f (wipeD ρ vs) (ds.drop (i + 1)) >>= fun xs => pure (x :: xs)) (S := w4.S) with ⟨x5, S5, q5, z3⟩ | z3
              · rw [z3] at p3
                refine iteT (td_nox hK o4 (en1 s4) (ex2 s04) ⟨x5, S5, q5, fun v H5 w5 s5 o5 e5 rv => ?_⟩)
                rw [hK] at rv
                subst e5
                obtain ⟨b5, h5⟩ := s5.keepD b4 h4
                have s05 := s04.trans s5
                have r5 := r4.mono s5.le
                refine ⟨xs, h5, by rw [r5.length, ← LIM_eq]; omega, w5, acc ++ [x5], xs ++ [v], s05.own hHA h5 (fun _ _ _ z => by cases z), o5.own b5 h5 (fun _ _ _ z => by cases z), l4.trans s5.le, b5, upd_same, r5.append (.cons rv .nil), by rw [List.length_append]; exact Nat.succ_le_succ la, ?_⟩
                have p4 := PostL.le ((s3.le.trans s4.le).trans s5.le) p3
                cases q6 : compL τ ft f (wipeD ρ vs) (ds.drop (i + 1)) w5.S with
                | ok rs S6 =>
                  rw [bind_ok q6] at p4
                  intro H' w' ys k1 k2 k3 k4 k5 k6 k7
                  refine p4 H' w' ys k1 k2 k3 k4 k5 k6 ?_
                  rw [List.append_assoc] at k7
                  exact k7
                | ex c S6 => rw [bind_ex q6] at p4; exact p4
                | bad => rw [bind_bad q6] at p4; exact p4
              · rw [z3] at p3; exact p3.elim
          · rw [z2] at p2; exact p2.elim
      · left
        have e : i = ds.length := by omega
        subst e
        refine ⟨Y1.stop w2 H2 l2 o2, ?_⟩
        rw [List.drop_length] at p2
        exact p2 H2 w2 xs s2 o2 (Le.refl _) rfl b2 h2 (by rw [List.append_nil]; exact r2)
    · rw [if_neg hlim] at p; exact p.elim

variable {tg iter elt : Expr} {ifs : List Expr} {scope : Scope} {own : List (Str × Nat)} {js : List Nat} {it : En → M (List D)} {g : TG} {τ : En → D → Option En}
theorem dn_comp (own : List (Str × Nat)) (hc : X.calm = true) (hN : X.N.Nodup) (hx : m.xs = []) (hi : DI X m tg iter it)
    (ok : BlkOk X.N X.env.scope scope own) (hg : ∀ (s : Shared) (H : Hp) (C : Addr) (cl : List (Str × Addr)) (fp : List Addr), PG (X.blk s H scope (compEnvC scope cl C X.env) fp) tg g) (hτ : TgOk X g τ js) (hj : ∀ j ∈ js, j ∈ own.map (·.2)) (hjo : ∀ j ∈ js, j ∉ m.own)
    (ht : ∀ (s : Shared) (H : Hp) (C : Addr) (cl : List (Str × Addr)) (fp : List Addr), DTs (X.blk s H scope (compEnvC scope cl C X.env) fp) m.blk ifs ft)
    (he : ∀ (s : Shared) (H : Hp) (C : Addr) (cl : List (Str × Addr)) (fp : List Addr), DE (X.blk s H scope (compEnvC scope cl C X.env) fp) m.blk elt f) (hs : ∀ x, foldedSetIterable iter X.env x = pure x := by intro _; rfl) :
    DN X m (.ListComp elt [⟨tg, iter, ifs, 0⟩] scope pos) (compF it τ (own.map (·.2)) ft f) :=
  PE.imp (pe_lc (tt := td { X with pn := [] } m.blk RB ft) (te := td { X with pn := [] } m.blk (Rep X.K) f) hc hN hi ok hg ht he hs) fun σ H Q q => td_comp (X := X) (Y := { X with pn := [] }) rfl hx hτ hj hjo q
/-- name = a new list -/
def DSN (X : Cx) (m : Mo) (i : Nat) (st : Stmt) (fs : En → M (List D)) : Prop := PS X st (tAsg (tdN X m fs) (gName i))
theorem dsn_e (i : Nat) {x : Str} {pos' : Pos} (hN : X.N.Nodup) (he : DN X m e fs) (hi : X.N[i]? = some x := by rfl) (hx : Loc X.env.scope x := by first | exact Or.inl rfl | exact Or.inr rfl)
    (hs : swapsWith e (some (.Name x pos')) pos.line X.env = pure false := by rfl) (hf : X.fn x = true ∨ X.env.scope.names.lookup x = some .local := by first | exact .inl rfl | exact .inr rfl) :
    DSN X m i (.Assign [.Name x pos'] e pos) fs := ps_set hN hi hx he hs hf
theorem dsn_lc (i : Nat) {y : Str} {py spos : Pos} (own : List (Str × Nat)) (hc : X.calm = true) (hN : X.N.Nodup) (hx : m.xs = []) (hi : DI X m tg iter it)
    (ok : BlkOk X.N X.env.scope scope own) (hg : ∀ (s : Shared) (H : Hp) (C : Addr) (cl : List (Str × Addr)) (fp : List Addr), PG (X.blk s H scope (compEnvC scope cl C X.env) fp) tg g) (hτ : TgOk X g τ js) (hj : ∀ j ∈ js, j ∈ own.map (·.2)) (hjo : ∀ j ∈ js, j ∉ m.own)
    (ht : ∀ (s : Shared) (H : Hp) (C : Addr) (cl : List (Str × Addr)) (fp : List Addr), DTs (X.blk s H scope (compEnvC scope cl C X.env) fp) m.blk ifs ft)
    (he : ∀ (s : Shared) (H : Hp) (C : Addr) (cl : List (Str × Addr)) (fp : List Addr), DE (X.blk s H scope (compEnvC scope cl C X.env) fp) m.blk elt f)
    (hsw : swapsWith (.ListComp elt [⟨tg, iter, ifs, 0⟩] scope pos) (some (.Name y py)) spos.line X.env = pure true) (hs : ∀ x, foldedSetIterable iter X.env x = pure x := by intro _; rfl) (hy : X.N[i]? = some y := by rfl) (hyl : X.env.scope.names.lookup y = some .local := by rfl) :
    DSN X m i (.Assign [.Name y py] (.ListComp elt [⟨tg, iter, ifs, 0⟩] scope pos) spos) (compF it τ (own.map (·.2)) ft f) :=
  PS.imp (ps_setLc (tt := td { X with pn := [] } m.blk RB ft) (te := td { X with pn := [] } m.blk (Rep X.K) f) hc hN hy hyl hsw hi ok hg ht he hs) fun Dn σ H q => td_comp (X := X) (Y := { X with pn := [] }) (Q := fun x H1 => gName i x σ H1 Dn.nx) rfl hx hτ hj hjo q
variable {st : Stmt}
theorem ds_own (pl : m.Plain) {i : Nat} (o' : List Nat) (h : DSN X m i st fs) (hr : Add m.own o' i := by exact add_of rfl) : DS X m o' st (setOF i fs) := PS.imp h fun D σ H h => by
  obtain ⟨w0, H0, w, ρ, s, p⟩ := h
  refine ⟨w, ρ, s.ok, s.envOk, s.xg, ?_⟩
  unfold setOF at p
  cases q : fs ρ w.S with
  | ok ds S' =>
    rw [bind_ok q] at p
    intro pp H1 H' w' xs st ok1 es hp eH rv
    subst es
    subst eH
    exact p _ _ w' ((s.step st ok1).setO hp rv hr) st.le rfl
  | ex c S' =>
    rw [bind_ex q] at p
    intro H1 w1 st ok1 es
    exact p H1 w1 (s.st.trans st) ok1 es σ
  | bad => rw [bind_bad q] at p; exact p
def lstF (fs : En → M (List D)) : En → M D := fun ρ => fs ρ >>= fun ds => pure (.lst ds)
theorem tdN_lst {σ : L2.St} {H : Hp} {Q : VK} (h : td X m (Rep X.K) (lstF fs) σ H Q) : tdN X m fs σ H Q := by
  obtain ⟨w, ρ, o, e, xg, p⟩ := h
  refine ⟨w, ρ, o, e, xg, ?_⟩
  unfold lstF at p
  cases q : fs ρ w.S with
  | ok ds S' =>
    rw [bind_ok q] at p
    intro pp H1 H' w' xs st ok1 es hp eH rv
    subst es
    subst eH
    exact Post.newL (p.step st) ok1 hp rv
  | ex c S' => rw [bind_ex q] at p; exact p
  | bad => rw [bind_bad q] at p; exact p
theorem de_ofN (h : DN X m e fs) : DE X m e (lstF fs) := PE.imp h fun σ H Q q => tdN_lst q
theorem ds_plain (pl : m.Plain) {i : Nat} (o' : List Nat) (h : DSN X m i st fs) (hr : Rem m.own o' i := by exact rem_of rfl) : DS X m o' st (setF i (lstF fs)) := PS.imp h fun D σ H h => by
  obtain ⟨w0, H0, w, ρ, s, p⟩ := h
  refine tdN_lst (s.eval pl p fun v d w1 H1 s1 r p1 => p1 _ H1 w1 (s1.set r hr) (Le.refl w1) rfl)
end
end DL

/-! DL9: own defs: calls, bodies; raise. -/
namespace DL
open PySem PySem.Spec PyProof.Rows L2

theorem takesF {X : Cx} : L2N.Takes X (fun _ _ _ _ => False) := fun u s' x => by
  obtain ⟨a, B, sI, pins, σ, H, cls, d, _, _, _, _, _, _, _, _, z⟩ := x
  exact z.elim
/-- what a def promises: F on data -/
def spD (K : PySem.W.Frag) (F : List D → M D) : Sp := fun vs H Q E => ∃ w ds, OkW K w H ∧ w.exs = [] ∧ RepAll K w vs ds ∧ Post K (Rep K) w H (F ds w.S) (fun c H' => E (.ref (He.ga K c)) none H') Q
/-- a def's mirror: N slots, n parameters -/
def fnF (N n : Nat) (G : En → M Fl) : List D → M D := fun ds => if ds.length = n then (G (ds.map some ++ List.replicate (N - n) none) >>= fun fl => match fl with
  | .nx _ => pure .non
  | .rt d => pure d) else M.bad
structure Prom (P : Program) (w : World) (K : PySem.W.Frag) (mg : Str → Option Value) (x : Str) (k : Nat) (ps : List Str) (F : List D → M D) : Prop where
  ok : ∃ fd, (∀ base, FnOk P w K mg base (L2N.CX P w) k (He.ga K x) fd ps (spD K F)) ∧ ∀ (s : Shared) (us : List Value), us.length = ps.length → BindsTo s fd ⟨us, []⟩ (ps.zip us)
  kp : PySem.W.keepIn K (.ref (He.ga K x)) = true
  gl : mg x = some (.ref (He.ga K x))

section
variable {X : Cx} {m : Mo} {e : Expr} {es : List Expr} {fs : En → M (List D)} {p pos p2 : Pos} {x : Str} {k : Nat} {ps : List Str} {F : List D → M D}
theorem de_call (h : Prom X.prog X.w X.K X.mg x k ps F) (hr : Room k X.A) (tk : L2N.Takes X m.wx) (hx : m.xs = []) (ha : DA X m (e :: es) fs) (hg : Gl X x := by rfl) (hdb : (x == ("__debug__" : Str)) = false := by decide)
    (he : starEach (e :: es) X.env = (false, eval e X.env) :: starEach es X.env := by rfl) (hpl : (backTo pos (starEach es X.env)).any (·.1) = false := by rfl) : DE X m (.Call (.Name x p) (e :: es) [] pos) (nop F fs) := by
  obtain ⟨fd, hf, hb0⟩ := h.ok
  have hb : Binds X.K fd ps [] := fun s us _ hl => by
    rw [List.append_nil] at hl ⊢
    exact hb0 s us hl
  exact PE.imp (pe_callS (hf X.base) hr hg h.gl h.kp hb (fun σ => L2N.passAt tk σ) ha hdb he hpl) fun σ H Q q => td_bind q fun w ρ xs as H1 o en xg rx p => ⟨w, as, o, xg.1.trans hx, rx, p⟩
theorem ds_raise {o' : List Nat} {msg : Str} {j : Nat} {pos' : Pos} (hc : X.calm = true) (tk : L2N.Takes X m.wx) (hC : (He.Fa.exc x).ok X.K = true) (gC : X.mg x = some (.ref (He.ga X.K x))) (hg : Gl X x := by rfl) (hdb : (x == ("__debug__" : Str)) = false := by decide) :
    DS X m o' (.Raise (some (.Call (.Name x p) [.Constant (.str msg) j p2] [] pos)) none pos') (fun _ => M.raise x) := by
  obtain ⟨h1, h2, h3, h4⟩ := He.exc_ok hC
  exact PS.imp (L2N.ps_raise hc tk (L2N.pmk_own PySem.F.excBase_ValueError h1 gC h2 (raises_own h3 h4) hg hdb)) fun Dn σ H h => by
    obtain ⟨w0, H0, w, ρ, s, p⟩ := h
    exact p H w s.st s.ok rfl σ
end

theorem start_get {K : PySem.W.Frag} {w : Wd} {vs : List V} {ds : List D} (r : RepAll K w vs ds) (n : Nat) : EnvN K w [] (vs.map some ++ List.replicate n none) (ds.map some ++ List.replicate n none) := by
  refine ⟨by simp [r.length], fun i d _ h => ?_⟩
  by_cases hi : i < ds.length
  · rw [List.getElem?_append_left (by simpa using hi), List.getElem?_map] at h
    rw [List.getElem?_append_left (by simpa [r.length] using hi), List.getElem?_map]
    cases q : ds[i]? with
    | none => rw [q] at h; cases h
    | some d' =>
      rw [q] at h
      cases h
      obtain ⟨v, e1, e2⟩ := r.get q
      exact ⟨v, by rw [e1]; rfl, e2⟩
  · rw [List.getElem?_append_right (by simpa using hi), List.getElem?_replicate] at h
    split at h <;> cases h
def mDef (E : XK) : Mo := ⟨fun c d _ H => E c d H, [], []⟩
theorem mDef_pl {E : XK} : (mDef E).Plain := fun _ _ _ _ h => h
theorem mDef_tk {P : Program} {w : World} {K : PySem.W.Frag} {mg : Str → Option Value} {base : Heap} {N : List Str} {qual : Str} {scope : Scope} {f : Addr} {cd : Value} {A : Around} {outer : List Env} {s : Shared} {H : Hp} {E : XK} : L2N.Takes (cxOf (L2N.CX P w) P w K mg base N qual scope f cd A outer s H E) (mDef E).wx :=
  L2N.takes_of rfl rfl rfl rfl
section
variable {P : Program} {w : World} {K : PySem.W.Frag} {mg : Str → Option Value} {x qual : Str} {params : Arguments} {body : List Stmt} {scope : Scope} {f : Addr} {fd : FuncData} {N ps : List Str} {k : Nat} {o' : List Nat} {G : En → M Fl}
theorem def_ok (Fd : FunD K x qual params body scope [] [] f fd) (hf : f = He.ga K x) (hb : ∀ (s : Shared) (us : List Value), us.length = ps.length → BindsTo s fd ⟨us, []⟩ (ps.zip us)) (gl : mg x = some (.ref (He.ga K x))) (S : FnScope N ps scope)
    (hbody : ∀ (base : Heap) (cdv : Value) (A : Around) (outer : List Env) (s : Shared) (H : Hp) (E : XK), Room k (A.deeper (envOfC qual scope s.heap.objs.size f cdv)) → DSs (cxOf (L2N.CX P w) P w K mg base N qual scope f cdv A outer s H E) (mDef E) o' body G) :
    Prom P w K mg x (k + 1) ps (fnF N.length ps.length G) := by
  subst hf
  refine ⟨⟨fd, fun base => ?_, hb⟩, Fd.kp, gl⟩
  refine Fd.ok S (fun vs H Q E h => ?_) fun cdv A outer s H vs Q E hr h => ?_
  · obtain ⟨w, ds, o, hx, r, p⟩ := h
    unfold fnF at p
    by_cases hl : ds.length = ps.length
    · exact r.length.trans hl
    · rw [if_neg hl] at p; exact p.elim
  · obtain ⟨w1, ds, o, hx, r, p⟩ := h
    unfold fnF at p
    by_cases hl : ds.length = ps.length
    · rw [if_pos hl] at p
      refine ⟨_, hbody base cdv A outer s H E hr, w1, H, w1, ds.map some ++ List.replicate (N.length - ps.length) none, ?_, ?_⟩
      · have e0 := start_get r (N.length - ps.length)
        have es : L2.start N vs = vs.map some ++ List.replicate (N.length - ps.length) none := by unfold L2.start; rw [r.length, hl]
        rw [es]
        exact ⟨Step.refl _ _, o, e0, fun i hi => (List.not_mem_nil (show i ∈ ([] : List Nat) from hi)).elim, fun i hi => (List.not_mem_nil (show i ∈ ([] : List Nat) from hi)).elim, ⟨hx, fun p hp => (List.not_mem_nil (show p ∈ ([] : List (Addr × Str)) from hp)).elim⟩, e0.1⟩
      · cases q : G (ds.map some ++ List.replicate (N.length - ps.length) none) w1.S with
        | ok fl S' =>
          rw [bind_ok q] at p
          cases fl with
          | nx ρ' =>
            intro σ' H' w' s' le es
            exact p .non H' w' s'.st s'.ok es .non
          | rt d => exact p
        | ex c S' =>
          rw [bind_ex q] at p
          exact fun H' w' st ok1 es σ' => p H' w' st ok1 es
        | bad => rw [bind_bad q] at p; exact p
    · rw [if_neg hl] at p; exact p.elim
end
end DL

/-! DL10: isinstance, slices by steps, sorted and sets of ints. -/
namespace DL
open PySem PySem.Spec PyProof.Rows L2

section
variable {X : Cx} {m : Mo} {a b c e : Expr} {f g h : En → M D} {pos p2 : Pos} {es : List Expr} {fs : En → M (List D)}
/-! ### isinstance -/
def D.ty : D → Option String
  | .non => some "NoneType"
  | .bl _ => some "bool"
  | .int _ => some "int"
  | .str _ => some "str"
  | .tup _ => some "tuple"
  | .lst _ => some "list"
  | .scr _ => some "list"
  | _ => none
def tyIs (t T : String) : Bool := t == T || (t == "bool" && T == "int")
def D.isi (T : String) (d : D) : M D := match d.ty with
  | some t => pure (.bl (tyIs t T))
  | none => M.bad
theorem tyT {K : PySem.W.Frag} {w : Wd} {H : Hp} {a : Addr} {xs : List V} (sub : ∀ a o, w.B a = some o → H a = some o) (h : SqT K w.B a xs) : TyX K H (.ref a) (.type "tuple") := by
  rcases h with (h | ⟨o, h⟩) | ⟨o, its, n, h1, h2, _⟩
  · exact .base (.tup (sub _ _ h))
  · exact .fTuple (sub _ _ h)
  · exact .kTuple h1 h2
theorem tyL {K : PySem.W.Frag} {w : Wd} {H : Hp} {a : Addr} {xs : List V} (sub : ∀ a o, w.B a = some o → H a = some o) (h : SqL K w.B a xs) : TyX K H (.ref a) (.type "list") := by
  rcases h with (h | ⟨o, h⟩) | ⟨o, its, n, h1, h2, _⟩
  · exact .base (.lst (sub _ _ h))
  · exact .base (.frz (sub _ _ h))
  · exact .kList h1 h2
theorem Rep.tyx {K : PySem.W.Frag} {w : Wd} {H : Hp} (sub : ∀ a o, w.B a = some o → H a = some o) {v : V} {d : D} {t : String} (r : Rep K w v d) (h : d.ty = some t) : TyX K H v (.type t) := by
  cases r with
  | non => cases h; exact .base .non
  | bl b => cases h; exact .base (.bl b)
  | int b => cases h; exact .base (.int b)
  | str b => cases h; exact .base (.str b)
  | lst hx rx => cases h; exact .base (.lst (sub _ _ hx))
  | tup hx rx => cases h; exact tyT sub hx
  | obj _ => cases h
  | exc _ => cases h
  | scr hx => cases h; exact tyL sub hx
inductive IsT5 : String → Prop
  | int : IsT5 "int"
  | bl : IsT5 "bool"
  | str : IsT5 "str"
  | tup : IsT5 "tuple"
  | lst : IsT5 "list"
theorem kit5 {K : PySem.W.Frag} {d : D} {t T : String} (hT : IsT5 T) (h : d.ty = some t) : PySem.W.kitOne K (.type t) (.type T) = some (tyIs t T) := by
  have ht : t = "NoneType" ∨ t = "bool" ∨ t = "int" ∨ t = "str" ∨ t = "tuple" ∨ t = "list" := by
    cases d <;> cases h <;> simp
  cases hT <;> rcases ht with rfl | rfl | rfl | rfl | rfl | rfl <;> exact kit_ty (by decide +kernel)
def isiN (T : String) (f : En → M D) : En → M D := un (D.isi T) f
theorem de_isi {T : Str} {p p3 : Pos} {n : String} (hT : IsT5 n) (he : PE X (.Name T p3) (fun _ H Q => Q (.ty n) H)) (hg : Gl X "isinstance") (hm : X.mg "isinstance" = none) (ha : DE X m a f)
    (s1 : starEach [a, .Name T p3] X.env = (false, eval a X.env) :: starEach [.Name T p3] X.env := by rfl) (s2 : starEach [.Name T p3] X.env = (false, eval (.Name T p3) X.env) :: starEach [] X.env := by rfl)
    (hpl : (backTo pos (starEach [.Name T p3] X.env)).any (·.1) = false := by rfl) :
    DE X m (.Call (.Name "isinstance" p) [a, .Name T p3] [] pos) (isiN n f) :=
  PE.imp (pe_callB call_isi hg hm PyProof.Rows.boot_isinstance (pa_cons ha (pa_cons he pa_nil s2) s1) (by decide) (by decide) s1 hpl) fun σ H Q q => by
    refine td_bind q fun w ρ x d H1 o en xg rx p => ?_
    unfold D.isi at p
    cases ht : d.ty with
    | none => rw [ht] at p; exact p.elim
    | some t =>
      rw [ht] at p
      exact ⟨x, .ty n, .type t, .type n, tyIs t n, rfl, .ty n, rx.tyx o.sub ht, kit5 hT ht, Post.val p o (.bl _)⟩

/-! ### slices by steps -/
def pickD (xs : List D) (lo hi st : Option Int) : List D := (sliceRange (sliceBounds lo hi st xs.length).1 (sliceBounds lo hi st xs.length).2.1 (sliceBounds lo hi st xs.length).2.2).filterMap (xs[·]?)
def pickV (xs : List V) (lo hi st : Option Int) : List V := (sliceRange (sliceBounds lo hi st xs.length).1 (sliceBounds lo hi st xs.length).2.1 (sliceBounds lo hi st xs.length).2.2).filterMap (xs[·]?)
theorem fm_rep {K : PySem.W.Frag} {w : Wd} {xs : List V} {ds : List D} (r : RepAll K w xs ds) : ∀ is : List Nat, RepAll K w (is.filterMap (xs[·]?)) (is.filterMap (ds[·]?))
  | [] => .nil
  | i :: is => by
    have ih := fm_rep r is
    cases q : ds[i]? with
    | none =>
      have q2 : xs[i]? = none := by
        rw [List.getElem?_eq_none_iff] at q ⊢
        rw [r.length]; exact q
      rw [List.filterMap_cons_none q2, List.filterMap_cons_none q]
      exact ih
    | some d =>
      obtain ⟨v, e1, e2⟩ := r.get q
      rw [List.filterMap_cons_some e1, List.filterMap_cons_some q]
      exact .cons e2 ih
theorem fm_vals {xs : List V} {us : List Value} (r : Vals xs us) : ∀ is : List Nat, Vals (is.filterMap (xs[·]?)) (is.filterMap (us.toArray[·]?))
  | [] => .nil
  | i :: is => by
    have ih := fm_vals r is
    cases q : xs[i]? with
    | none =>
      have q2 : us.toArray[i]? = none := by
        rw [List.getElem?_eq_none_iff] at q
        rw [List.getElem?_toArray, List.getElem?_eq_none_iff, ← r.length]; exact q
      rw [List.filterMap_cons_none q, List.filterMap_cons_none q2]
      exact ih
    | some d =>
      obtain ⟨v, e1, e2⟩ := r.get q
      rw [List.filterMap_cons_some q, List.filterMap_cons_some (by rw [List.getElem?_toArray]; exact e1)]
      exact .cons e2 ih
theorem pe_slice3 {lo hi : Option Expr} {st : Expr} {te : TE} {tl th tk : TO} (he : PE X a te) (hl : PO X lo tl) (hu : PO X hi th) (hk : PO X (some st) tk) :
    PE X (.Subscript a (.Slice lo hi (some st) p2) pos) (fun σ H Q => te σ H fun x H1 => tl σ H1 fun l H2 => th σ H2 fun u H3 => tk σ H3 fun k H4 => ∃ A xs, x = .ref A ∧ SqL X.K H4 A xs ∧ k ≠ some 0 ∧ ∀ p, H4 p = none → Q (.ref p) (upd H4 p (.lst (pickV xs l u k)))) := by
  refine ⟨fun pins s σ H Q I h => ?_⟩
  refine Subscript_ (thn (he.run pins s σ H _ I h) fun v s1 ⟨x, H1, I1, r1, q1⟩ => ?_)
  refine wpAny_Slice (thn (hl.run pins s1 σ H1 _ I1 q1) fun vl s2 ⟨l, H2, I2, pl, q2⟩ => thn (hu.run pins s2 σ H2 _ I2 q2) fun vu s3 ⟨u, H3, I3, pu, q3⟩ => thn (hk.run pins s3 σ H3 _ I3 q3) fun vk s4 ⟨k, H4, I4, pk, q4⟩ => ?_)
  have I5 : Inv X pins σ H4 { s4 with heap := s4.heap.push { cls := .type "slice", data := .fields #[vl, vu, vk] } } := I4.kept (t' := s4.toks) fun b ob q => Heap.get?_push_of_some _ q
  obtain ⟨A, xs, rfl, hx, k0, q⟩ := q4
  cases r1
  obtain ⟨its, r, ht, hz⟩ := I5.list hx
  have hlen := r.length
  show wpAny (model X.prog X.w) X.A (subscriptTail a (.Slice lo hi (some st) p2) (.ref A) (.ref s4.heap.objs.size)) (EP X pins σ Q) X.xe { s4 with heap := s4.heap.push { cls := .type "slice", data := .fields #[vl, vu, vk] } }
  refine tail_any (ops := [.ref A, .ref s4.heap.objs.size]) ht.isList.typeIs slot_list_getitem.lookup ?_ (by with_unfolding_all rfl)
  refine wpAny_getItem_list_slice ht.isList (Heap.IsSliceOf.new ..) pl pu pk k0 ?_ (by rw [List.size_toArray] <;> omega)
  have hv : Vals (pickV xs l u k) (slicePick its.toArray l u k).toList := by
    unfold pickV slicePick
    rw [List.size_toArray, ← hlen]
    exact fm_vals r _
  have hle : (slicePick its.toArray l u k).size ≤ its.toArray.size := slicePick_size_le its.toArray l u k
  refine ⟨.ref _, _, I5.laid (t' := s4.toks) (o := .lst (pickV xs l u k)) (fun b ob q => Heap.get?_push_of_some _ q) (Nat.le_refl _) ?_, rfl, q _ (I5.hok.fresh (Nat.le_refl _))⟩
  refine ⟨?_, _, 0, hv, Heap.get?_push_size _ rfl⟩
  have e1 : (pickV xs l u k).length = (slicePick its.toArray l u k).size := by rw [hv.length, Array.length_toList]
  rw [e1]
  have hs : its.toArray.size ≤ sizeLine := by rw [List.size_toArray]; omega
  exact Nat.le_trans hle hs

def D.slice3 (lo hi st : Option Int) : D → M D
  | .lst l => if st = some 0 then M.bad else pure (.lst (pickD l lo hi st))
  | _ => M.bad
def slc3 (f : En → M D) (l u k : En → M (Option Int)) : En → M D := fun ρ => f ρ >>= fun a => l ρ >>= fun lo => u ρ >>= fun hi => k ρ >>= fun st => D.slice3 lo hi st a
theorem de_slice3 {lo hi : Option Expr} {st : Expr} {fl fu fk : En → M (Option Int)} (ha : DE X m a f) (hl : DO X m lo fl) (hu : DO X m hi fu) (hk : DO X m (some st) fk) : DE X m (.Subscript a (.Slice lo hi (some st) p2) pos) (slc3 f fl fu fk) :=
  PE.imp (pe_slice3 ha hl hu hk) fun σ H Q q => by
    refine td_bind q fun w ρ x a H1 o e xg rx p => ?_
    refine ⟨w, ρ, o, e, xg, Post.bind p fun l lo H2 w2 st2 ok2 rl p2 => ?_⟩
    cases rl
    refine ⟨w2, ρ, ok2, e.step st2, ⟨st2.e.trans xg.1, xg.2⟩, Post.bind p2 fun u hi H3 w3 st3 ok3 ru p3 => ?_⟩
    cases ru
    refine ⟨w3, ρ, ok3, (e.step st2).step st3, ⟨st3.e.trans (st2.e.trans xg.1), xg.2⟩, Post.bind p3 fun k st H4 w4 st4 ok4 rk p4 => ?_⟩
    cases rk
    have rx4 := ((rx.mono st2.le).mono st3.le).mono st4.le
    cases rx4 with
    | @lst p1 xs ds hx ry =>
      unfold D.slice3 at p4
      simp only at p4
      by_cases hk0 : k = some 0
      · rw [if_pos hk0] at p4; exact p4.elim
      · rw [if_neg hk0] at p4
        refine ⟨p1, xs, rfl, SqL.of (ok4.sub _ _ hx), hk0, fun q hq => Post.newL p4 ok4 hq ?_⟩
        unfold pickV pickD
        rw [ry.length]
        exact fm_rep ry _
    | _ => exact p4.elim

/-! ### sorted, set: ints -/
def D.isInt : D → Bool
  | .int _ => true
  | _ => false
def D.iv : D → Int
  | .int i => i
  | _ => 0
theorem isInts : ∀ {l : List D}, l.all D.isInt = true → l = (l.map D.iv).map D.int
  | [], _ => rfl
  | d :: r, h => by
    rw [List.all_cons, Bool.and_eq_true] at h
    cases d with
    | int i => rw [List.map_cons, List.map_cons, ← isInts h.2]; rfl
    | _ => cases h.1
/-- put in order -/
def ins (lt : D → D → Bool) (x : D) : List D → List D
  | [] => [x]
  | y :: r => if lt y x then y :: ins lt x r else x :: y :: r
def isort : List D → List D
  | [] => []
  | x :: r => ins D.ltb x (isort r)
theorem ins_perm {lt : D → D → Bool} {x : D} : ∀ l, (ins lt x l).Perm (x :: l)
  | [] => .refl _
  | y :: r => by
    unfold ins
    split
    · exact (List.Perm.cons y (ins_perm r)).trans (.swap x y r)
    · exact .refl _
theorem isort_perm : ∀ l, (isort l).Perm l
  | [] => .refl _
  | x :: r => (ins_perm _).trans (.cons x (isort_perm r))
theorem ins_int {x : Int} : ∀ {l : List Int}, l.Pairwise (· ≤ ·) → ∃ l' : List Int, ins D.ltb (.int x) (l.map D.int) = l'.map D.int ∧ l'.Pairwise (· ≤ ·) ∧ ∀ z ∈ l', z = x ∨ z ∈ l
  | [], _ => ⟨[x], rfl, List.pairwise_singleton _ _, fun z hz => .inl (List.mem_singleton.mp hz)⟩
  | y :: r, h => by
    rw [List.map_cons]
    unfold ins
    by_cases c : y < x
    · rw [if_pos (show D.ltb (.int y) (.int x) = true from by unfold D.ltb; exact decide_eq_true c)]
      obtain ⟨l', e, p, hm⟩ := ins_int (x := x) (List.pairwise_cons.mp h).2
      refine ⟨y :: l', by rw [e]; rfl, List.pairwise_cons.mpr ⟨fun z hz => ?_, p⟩, fun z hz => ?_⟩
      · rcases hm z hz with rfl | hz
        · exact Int.le_of_lt c
        · exact (List.pairwise_cons.mp h).1 z hz
      · rcases List.mem_cons.mp hz with rfl | hz
        · exact .inr List.mem_cons_self
        · exact (hm z hz).imp id (List.mem_cons_of_mem _)
    · rw [if_neg (show ¬ D.ltb (.int y) (.int x) = true from by unfold D.ltb; rw [decide_eq_true_iff]; exact c)]
      refine ⟨x :: y :: r, rfl, List.pairwise_cons.mpr ⟨fun z hz => ?_, h⟩, fun z hz => List.mem_cons.mp hz⟩
      rcases List.mem_cons.mp hz with rfl | hz
      · omega
      · have := (List.pairwise_cons.mp h).1 z hz
        omega
theorem isort_ints : ∀ l : List Int, ∃ l' : List Int, isort (l.map D.int) = l'.map D.int ∧ l'.Pairwise (· ≤ ·) ∧ l'.Perm l
  | [] => ⟨[], rfl, .nil, .refl _⟩
  | x :: r => by
    obtain ⟨l', e, p, _⟩ := isort_ints r
    obtain ⟨l2, e2, p2, _⟩ := ins_int (x := x) p
    have e3 : isort ((x :: r).map D.int) = l2.map D.int := by
      rw [List.map_cons]
      show ins D.ltb (.int x) (isort (r.map D.int)) = _
      rw [e, e2]
    refine ⟨l2, e3, p2, ?_⟩
    have q := isort_perm ((x :: r).map D.int)
    rw [e3] at q
    have q2 := q.map D.iv
    rw [List.map_map, List.map_map] at q2
    have e4 : (D.iv ∘ D.int) = (id : Int → Int) := rfl
    rw [e4, List.map_id, List.map_id] at q2
    exact q2
theorem le_uniq : ∀ {a b : List Int}, a.Perm b → a.Pairwise (· ≤ ·) → b.Pairwise (· ≤ ·) → a = b := fun hp h1 h2 => hp.eq_of_pairwise (le := (· ≤ ·)) (fun _ _ _ _ h h' => Int.le_antisymm h h') h1 h2
def D.sorted : D → M D
  | .lst l => if l.all D.isInt then pure (.lst (isort l)) else M.bad
  | _ => M.bad
theorem cb_sorted : OpN X (rSortedI X.K) (one D.sorted) := by
  intro w H xs as E Q o rx p
  rcases on1_inv rx with ⟨v, d, rfl, rfl, r1⟩ | z
  · cases r1 with
    | @lst p1 xs ds hx ry =>
      have p' : Post X.K (Rep X.K) w H ((if ds.all D.isInt then pure (.lst (isort ds)) else M.bad : M D) w.S) E Q := p
      by_cases hi : ds.all D.isInt = true
      · rw [if_pos hi] at p'
        have e := isInts hi
        have ry' := ry
        rw [e] at ry' p'
        have ex := ry'.ints
        refine ⟨p1, ds.map D.iv, rfl, by rw [← ex]; exact SqL.of (o.sub _ _ hx), fun ns' q pm pw hq => ?_⟩
        obtain ⟨l', e2, k1, k2⟩ := isort_ints (ds.map D.iv)
        have e3 : ns' = l' := le_uniq (pm.trans k2.symm) pw k1
        subst e3
        rw [e2] at p'
        exact Post.newL p' o hq RepAll.ofInts
      · rw [if_neg hi] at p'; exact p'.elim
    | _ => exact p.elim
  · have z' := z D.sorted
    have : one D.sorted as = on1 D.sorted as := by
      match as with
      | [] => rfl
      | [_] => rfl
      | _ :: _ :: _ => rfl
    rw [this, z'] at p
    exact p.elim
theorem de_sorted {p : Pos} (hg : Gl X "sorted") (hm : X.mg "sorted" = none) (ha : DA X m [a] fs) (he : starEach [a] X.env = (false, eval a X.env) :: starEach [] X.env := by rfl) :
    DE X m (.Call (.Name "sorted" p) [a] [] pos) (nop (one D.sorted) fs) := de_callB cr_sortedI cb_sorted hg hm PyProof.Rows.boot_sorted ha (he := he)
end
end DL

/-! DL11: sets of what a list or a tuple holds. -/
namespace DL
open PySem PySem.Spec PyProof.Rows L2

section
variable {P : Program} {w : World} {A : Around} {E : Value → Shared → Prop} {s : Shared}
/-- what one item's adding must do -/
def AddStep (P : Program) (w : World) (A : Around) (S : Addr) (h0 : Heap) (Z : Nat → Heap → Prop) (i : Nat) (v : Value) : Prop :=
  ∀ (s : Shared) (E : Value → Shared → Prop) (Q : Bool → Shared → Prop), (∀ b o, h0.get? b = some o → s.heap.get? b = some o) → Z i s.heap →
    (∀ b h' tk, s.toks ≤ tk → Heap.SameBut S s.heap h' → Z (i + 1) h' → Q b { s with heap := h', toks := tk }) → wpAny (model P w) A (setAdd S v) Q E s
theorem set_loop_gen {I : Addr} {fp wr : List Addr} {G : Array GenState → Array GenState → Prop} {n : Nat} {Pv : Nat → Value → Prop} {St : Nat → Shared → Prop} {R : Result → Shared → Prop}
    (W : WalksS P w A.in1 I fp wr G n Pv St) (S : Addr) (hSf : S ∉ fp) (Z : Nat → Heap → Prop) (h0 : Heap) (hS0 : h0.get? S = none) (hw0 : ∀ b ∈ wr, h0.get? b = none)
    (zk : ∀ i h h', Z i h → (∀ b o, h0.get? b = some o → h'.get? b = some o) → (∀ o, h.get? S = some o → h'.get? S = some o) → Z i h')
    (zs : ∀ i v, Pv i v → AddStep P w A.in1 S h0 Z i v) :
    ∀ (k i : Nat) (s : Shared), n - i = k → i ≤ n → St i s → (∀ b o, h0.get? b = some o → s.heap.get? b = some o) → Z i s.heap →
      (∀ s', Moved (S :: wr) G s s' → Z n s'.heap → (∀ b o, h0.get? b = some o → s'.heap.get? b = some o) → R (.ok (.ret .none)) s') →
      codeAny (model P w) A (.builtin "set.update.loop" ⟨[.ref S, .ref I], []⟩) R s := by
  have hSw : S ∉ wr := fun h => hSf (W.sub _ h)
  have hsub : ∀ b ∈ wr, b ∈ S :: wr := fun b hb => List.mem_cons_of_mem _ hb
  have keepM : ∀ {s s' : Shared}, Moved wr G s s' → (∀ b o, h0.get? b = some o → s.heap.get? b = some o) → ∀ b o, h0.get? b = some o → s'.heap.get? b = some o := fun hm hkp b o e =>
    hm.heap b o (fun hb => by rw [hw0 b hb] at e; cases e) (hkp b o e)
  intro k
  induction k with
  | zero =>
    intro i s hk' hi hst hkp hZ hR
    have hin : i = n := by omega
    subst hin
    refine codeAny_builtin F.entry_set_update_loop ?_
    rw [Around.under_plainId F.plain_set_update_loop _]
    show wpAny _ A.in1 (pyNext (.ref I) >>= _) _ _ s
    refine wpAny_bind (W.done s _ _ hst fun s' hm => ?_)
    exact wpAny_pure (hR s' (hm.mono hsub) (zk _ _ _ hZ (keepM hm hkp) fun o e => hm.heap S o hSw e) (keepM hm hkp))
  | succ k ih =>
    intro i s hk' hi hst hkp hZ hR
    have hlt : i < n := by omega
    refine codeAny_builtin F.entry_set_update_loop ?_
    rw [Around.under_plainId F.plain_set_update_loop _]
    show wpAny _ A.in1 (pyNext (.ref I) >>= _) _ _ s
    refine wpAny_bind (W.item i s _ _ hlt hst fun v s' hP hst' hm => ?_)
    show wpAny _ A.in1 (holding [v] (setAdd S v) >>= _) _ _ s'
    refine wpAny_bind (wpAny_holding ?_)
    refine zs i v hP s' _ _ (keepM hm hkp) (zk _ _ _ hZ (keepM hm hkp) fun o e => hm.heap S o hSw e) fun b h' tk htk hsb hZ2 => ?_
    have hkp2 : ∀ b o, h0.get? b = some o → h'.get? b = some o := fun b o e => (hsb.2 b (fun z => by rw [z, hS0] at e; cases e)).trans (keepM hm hkp b o e)
    refine wpAny_pure ⟨plainId_quiet F.plain_set_update_loop _, ih (i + 1) _ (by omega) hlt (W.frame _ s' _ _ hst' htk fun b hb o e => ?_) hkp2 hZ2 fun s'' hm'' hZ'' hkp'' => ?_⟩
    · rw [hsb.2 b (fun h : b = S => hSf (by rw [← h]; exact hb))]; exact e
    · refine hR s'' (Moved.trans W.gtrans ((hm.mono hsub).then_heap htk fun b o hb e => ?_) hm'') hZ'' hkp''
      rw [hsb.2 b (fun h : b = S => hb (by rw [h]; exact List.mem_cons_self))]; exact e

theorem callType_codesC {T newId initId : String} {args : List Value} {Q Q₁ : Value → Shared → Prop} (ft : TypeCalled T newId initId)
    (hct : checkTypeCall T ⟨args, []⟩ = pure ())
    (hnew : codeAny (model P w) A.in1 (.call (.builtin newId) ⟨.type T :: args, []⟩) (wants Q₁ E) s)
    (hnext : ∀ obj s₁, Q₁ obj s₁ → s₁.TypeIs obj T ∧ codeAny (model P w) A.in1 (.call (.builtin initId) ⟨obj :: args, []⟩) (wants (fun r s₂ => r = .none ∧ Q obj s₂) E) s₁) :
    wpAny (model P w) A (call (.type T) args) Q E s := by
  obtain ⟨c, tl, hmro⟩ := ft.mro
  have hmade := ft.made
  have hsub := ft.sub
  refine wpAny_call (codeAny_of_tree ?_)
  show wpAny _ _ (callAny (.type T) _) _ _ _
  refine wpAny_pure ⟨Code.quiet_builtin _ (by decide +kernel), codeAny_builtin F.entry_type_call ?_⟩
  rw [Around.under_plain (weight_type_call_type T args []) rfl]
  have h1 := ft.notType
  have h2 := ft.canCreate
  repeat (any_goals (first | assumption | wp_step))
  refine codeAny_mono hnew fun r s₁ hr => ?_
  cases r with
  | error e => exact hr
  | ok fl =>
    cases fl with
    | ret obj =>
      obtain ⟨hT, hI⟩ := hnext _ _ hr
      have hli := ft.init.lookup
      have hbi := ft.init.bind obj
      repeat (any_goals (first | assumption | wp_step))
      refine codeAny_mono hI fun r₂ s₂ hr₂ => ?_
      cases r₂ with
      | error e => exact hr₂
      | ok fl₂ =>
        cases fl₂ with
        | ret r =>
          obtain ⟨rfl, hq⟩ := hr₂
          repeat (any_goals (first | assumption | wp_step))
        | _ => exact hr₂.elim
    | _ => exact hr.elim

/-- set(xs), xs a list -/
theorem call_set_list {l : Addr} {items : Array Value} (Z : Nat → Heap → Prop) {Q : Value → Shared → Prop} (hh : A.handled = none) (hl : s.heap.IsList l items)
    (z0 : ∀ h : Heap, h.get? s.heap.objs.size = some { cls := .type "set", dict := none, data := .set #[] 0 (.fresh 0 0 (!w.params.followText "set-order")) } → (∀ b o, s.heap.get? b = some o → h.get? b = some o) → Z 0 h)
    (zk : ∀ i h h', Z i h → (∀ b o, s.heap.get? b = some o → h'.get? b = some o) → (∀ o, h.get? s.heap.objs.size = some o → h'.get? s.heap.objs.size = some o) → Z i h')
    (zs : ∀ A' : Around, A'.units ≤ A.units + 3 → ∀ i v, items[i]? = some v → AddStep P w A' s.heap.objs.size s.heap Z i v)
    (h : ∀ (h' : Heap) (tk : Nat), Z items.size h' → (∀ b o, s.heap.get? b = some o → h'.get? b = some o) → Q (.ref s.heap.objs.size) { s with heap := h', toks := tk }) :
    wpAny (model P w) A (call (.type "set") [.ref l]) Q E s := by
  refine callType_codesC F.called_set (F.typeCall_set_1 (.ref l)) (code_set_led1 (.ref l) (E := E) (Q₁ := fun obj s₁ => obj = .ref s.heap.objs.size ∧ s₁ = { s with heap := s.heap.push { cls := .type "set", dict := none, data := .set #[] 0 (.fresh 0 0 (!w.params.followText "set-order")) } }) ⟨rfl, rfl⟩) fun obj s₁ e => ?_
  obtain ⟨rfl, rfl⟩ := e
  have hS : (s.heap.push { cls := .type "set", dict := none, data := .set #[] 0 (.fresh 0 0 (!w.params.followText "set-order")) }).get? s.heap.objs.size = some { cls := .type "set", dict := none, data := .set #[] 0 (.fresh 0 0 (!w.params.followText "set-order")) } := Heap.get?_push_size _ rfl
  have hT : Shared.TypeIs { s with heap := s.heap.push { cls := .type "set", dict := none, data := .set #[] 0 (.fresh 0 0 (!w.params.followText "set-order")) } } (.ref s.heap.objs.size) "set" := ⟨_, hS, rfl⟩
  refine ⟨hT, codeAny_call_builtin F.called_set.init.plain F.entry_set_init (check_set_init_1 hT ?_)⟩
  obtain ⟨ol, hol, hcl, nl, hdl⟩ := hl
  obtain ⟨ocls, odict, odata, oslots⟩ := ol
  simp only at hcl hdl
  subst hcl; subst hdl
  have hol' : (s.heap.push { cls := .type "set", dict := none, data := .set #[] 0 (.fresh 0 0 (!w.params.followText "set-order")) }).get? l = some { cls := .type "list", dict := odict, data := .seq items nl, slots := oslots } := Heap.get?_push_of_some _ hol
  have hsls := F.sub_list_set
  have hslf := F.sub_list_frozenset
  have hne : (Value.type "list" == Value.type "dict") = false := by decide
  have hl1 : (s.heap.push { cls := .type "set", dict := none, data := .set #[] 0 (.fresh 0 0 (!w.params.followText "set-order")) }).IsList l items := ⟨_, hol', rfl, nl, rfl⟩
  unfold Builtin.«set.__init__» noKeywords Builtin.Frozenset.updateFrom
  generalize hPI : pyIter = PI
  wp_walk
  subst hPI
  refine wpAny_pyIter_list hl1 ?_
  refine wpAny_bind (wpAny_runValue ?_)
  have hlS : l < s.heap.objs.size := Heap.lt_size hol
  have hh3 : A.in1.in1.in1.handled = none := by simp [hh]
  have hneI : l ≠ (s.heap.push { cls := .type "set", dict := none, data := .set #[] 0 (.fresh 0 0 (!w.params.followText "set-order")) }).objs.size := by
    rw [Heap.size_push]; exact Nat.ne_of_lt (Nat.lt_succ_of_lt hlS)
  have hSf : s.heap.objs.size ∉ [(s.heap.push { cls := .type "set", dict := none, data := .set #[] 0 (.fresh 0 0 (!w.params.followText "set-order")) }).objs.size, l] := by
    rw [Heap.size_push]; simp only [List.mem_cons, List.mem_singleton, List.not_mem_nil, or_false, not_or]
    exact ⟨Nat.ne_of_lt (Nat.lt_succ_self _), Nat.ne_of_gt hlS⟩
  have none_of : ∀ b, s.heap.objs.size ≤ b → s.heap.get? b = none := fun b hb => by
    cases q : s.heap.get? b with
    | none => rfl
    | some o => exact absurd (Nat.lt_of_lt_of_le (Heap.lt_size q) hb) (Nat.lt_irrefl _)
  refine set_loop_gen ((Walks.list hh3 _ l hneI items).toS) s.heap.objs.size hSf Z s.heap (none_of _ (Nat.le_refl _)) (fun b hb => none_of b (by
      rw [List.mem_singleton.mp hb, Heap.size_push]
      exact Nat.le_succ _)) zk (fun i v hv => zs _ ?hu i v hv) (items.size - 0) 0 _ (by omega) (Nat.zero_le _)
    ⟨⟨_, Heap.get?_push_size _ rfl, rfl, rfl⟩, (hl1.push _)⟩ (fun b o e => Heap.get?_push_of_some _ (Heap.get?_push_of_some _ e)) ?hS0 ?hR
  case hu => show A.units + 1 + 1 + 1 ≤ A.units + 3; omega
  case hS0 =>
    exact z0 _ (Heap.get?_push_of_some _ hS) fun b o e => Heap.get?_push_of_some _ (Heap.get?_push_of_some _ e)
  case hR =>
    intro s' hm hZ hkp
    obtain ⟨h', g2, d', tk', os'⟩ := s'
    have eg : g2 = s.gens := hm.gens
    have ed : d' = s.drawn := hm.drawn
    have eo : os' = s.os := hm.os
    subst eg; subst ed; subst eo
    show wpAny _ _ _ _ _ _
    refine wpAny_pure ?_
    show wpAny _ _ (ret Value.none) _ _ _
    exact wpAny_pure ⟨rfl, h h' tk' hZ hkp⟩

/-- set(xs), xs a tuple -/
theorem call_set_tuple {l : Addr} {items : Array Value} (Z : Nat → Heap → Prop) {Q : Value → Shared → Prop} (hh : A.handled = none) (hl : s.heap.IsTuple l items)
    (z0 : ∀ h : Heap, h.get? s.heap.objs.size = some { cls := .type "set", dict := none, data := .set #[] 0 (.fresh 0 0 (!w.params.followText "set-order")) } → (∀ b o, s.heap.get? b = some o → h.get? b = some o) → Z 0 h)
    (zk : ∀ i h h', Z i h → (∀ b o, s.heap.get? b = some o → h'.get? b = some o) → (∀ o, h.get? s.heap.objs.size = some o → h'.get? s.heap.objs.size = some o) → Z i h')
    (zs : ∀ A' : Around, A'.units ≤ A.units + 3 → ∀ i v, items[i]? = some v → AddStep P w A' s.heap.objs.size s.heap Z i v)
    (h : ∀ (h' : Heap) (tk : Nat), Z items.size h' → (∀ b o, s.heap.get? b = some o → h'.get? b = some o) → Q (.ref s.heap.objs.size) { s with heap := h', toks := tk }) :
    wpAny (model P w) A (call (.type "set") [.ref l]) Q E s := by
  refine callType_codesC F.called_set (F.typeCall_set_1 (.ref l)) (code_set_led1 (.ref l) (E := E) (Q₁ := fun obj s₁ => obj = .ref s.heap.objs.size ∧ s₁ = { s with heap := s.heap.push { cls := .type "set", dict := none, data := .set #[] 0 (.fresh 0 0 (!w.params.followText "set-order")) } }) ⟨rfl, rfl⟩) fun obj s₁ e => ?_
  obtain ⟨rfl, rfl⟩ := e
  have hS : (s.heap.push { cls := .type "set", dict := none, data := .set #[] 0 (.fresh 0 0 (!w.params.followText "set-order")) }).get? s.heap.objs.size = some { cls := .type "set", dict := none, data := .set #[] 0 (.fresh 0 0 (!w.params.followText "set-order")) } := Heap.get?_push_size _ rfl
  have hT : Shared.TypeIs { s with heap := s.heap.push { cls := .type "set", dict := none, data := .set #[] 0 (.fresh 0 0 (!w.params.followText "set-order")) } } (.ref s.heap.objs.size) "set" := ⟨_, hS, rfl⟩
  refine ⟨hT, codeAny_call_builtin F.called_set.init.plain F.entry_set_init (check_set_init_1 hT ?_)⟩
  obtain ⟨ol, hol, hcl, nl, hdl⟩ := hl
  obtain ⟨ocls, odict, odata, oslots⟩ := ol
  simp only at hcl hdl
  subst hcl; subst hdl
  have hol' : (s.heap.push { cls := .type "set", dict := none, data := .set #[] 0 (.fresh 0 0 (!w.params.followText "set-order")) }).get? l = some { cls := .type "tuple", dict := odict, data := .seq items nl, slots := oslots } := Heap.get?_push_of_some _ hol
  have hsls := F.sub_tuple_set
  have hslf := F.sub_tuple_frozenset
  have hne : (Value.type "tuple" == Value.type "dict") = false := by decide
  have hl1 : (s.heap.push { cls := .type "set", dict := none, data := .set #[] 0 (.fresh 0 0 (!w.params.followText "set-order")) }).IsTuple l items := ⟨_, hol', rfl, nl, rfl⟩
  unfold Builtin.«set.__init__» noKeywords Builtin.Frozenset.updateFrom
  generalize hPI : pyIter = PI
  wp_walk
  subst hPI
  refine wpAny_pyIter_tuple hl1 ?_
  refine wpAny_bind (wpAny_runValue ?_)
  have hlS : l < s.heap.objs.size := Heap.lt_size hol
  have hh3 : A.in1.in1.in1.handled = none := by simp [hh]
  have hneI : l ≠ (s.heap.push { cls := .type "set", dict := none, data := .set #[] 0 (.fresh 0 0 (!w.params.followText "set-order")) }).objs.size := by
    rw [Heap.size_push]; exact Nat.ne_of_lt (Nat.lt_succ_of_lt hlS)
  have hSf : s.heap.objs.size ∉ [(s.heap.push { cls := .type "set", dict := none, data := .set #[] 0 (.fresh 0 0 (!w.params.followText "set-order")) }).objs.size, l] := by
    rw [Heap.size_push]; simp only [List.mem_cons, List.mem_singleton, List.not_mem_nil, or_false, not_or]
    exact ⟨Nat.ne_of_lt (Nat.lt_succ_self _), Nat.ne_of_gt hlS⟩
  have none_of : ∀ b, s.heap.objs.size ≤ b → s.heap.get? b = none := fun b hb => by
    cases q : s.heap.get? b with
    | none => rfl
    | some o => exact absurd (Nat.lt_of_lt_of_le (Heap.lt_size q) hb) (Nat.lt_irrefl _)
  refine set_loop_gen ((Walks.tuple hh3 _ l hneI items).toS) s.heap.objs.size hSf Z s.heap (none_of _ (Nat.le_refl _)) (fun b hb => none_of b (by
      rw [List.mem_singleton.mp hb, Heap.size_push]
      exact Nat.le_succ _)) zk (fun i v hv => zs _ ?hu i v hv) (items.size - 0) 0 _ (by omega) (Nat.zero_le _)
    ⟨⟨_, Heap.get?_push_size _ rfl, rfl, rfl⟩, (hl1.push _)⟩ (fun b o e => Heap.get?_push_of_some _ (Heap.get?_push_of_some _ e)) ?hS0 ?hR
  case hu => show A.units + 1 + 1 + 1 ≤ A.units + 3; omega
  case hS0 =>
    exact z0 _ (Heap.get?_push_of_some _ hS) fun b o e => Heap.get?_push_of_some _ (Heap.get?_push_of_some _ e)
  case hR =>
    intro s' hm hZ hkp
    obtain ⟨h', g2, d', tk', os'⟩ := s'
    have eg : g2 = s.gens := hm.gens
    have ed : d' = s.drawn := hm.drawn
    have eo : os' = s.os := hm.os
    subst eg; subst ed; subst eo
    show wpAny _ _ _ _ _ _
    refine wpAny_pure ?_
    show wpAny _ _ (ret Value.none) _ _ _
    exact wpAny_pure ⟨rfl, h h' tk' hZ hkp⟩
end
end DL

/-! DL12: sorted(set(xs)), len(set(xs)), xs a list or a tuple of ints. -/
namespace DL
open PySem PySem.Spec PyProof.Rows L2

theorem eqv_int (i j : Int) : (D.int i).eqv (.int j) = decide (i = j) := by
  unfold D.eqv D.toP
  by_cases h : i = j
  · subst h
    rw [decide_eq_true rfl]
    simp [PyData.eqv]
  · rw [decide_eq_false h]
    simp [PyData.eqv, h]
/-- without those that are twice, of a row in order -/
def uniq : List D → List D
  | [] => []
  | x :: r => match uniq r with
    | [] => [x]
    | y :: t => if x.eqv y then y :: t else x :: y :: t
theorem uniq_ints : ∀ {l : List Int}, l.Pairwise (· ≤ ·) → ∃ l' : List Int, uniq (l.map D.int) = l'.map D.int ∧ l'.Pairwise (· < ·) ∧ (∀ z, z ∈ l' ↔ z ∈ l) ∧ l'.head? = l.head?
  | [], _ => ⟨[], rfl, .nil, fun _ => Iff.rfl, rfl⟩
  | x :: r, h => by
    obtain ⟨l', e, p, hm, hh⟩ := uniq_ints (List.pairwise_cons.mp h).2
    rw [List.map_cons]
    unfold uniq
    rw [e]
    cases l' with
    | nil =>
      refine ⟨[x], rfl, List.pairwise_singleton _ _, fun z => ?_, rfl⟩
      have : r = [] := by
        cases r with
        | nil => rfl
        | cons a b => exact absurd ((hm a).mpr List.mem_cons_self) List.not_mem_nil
      subst this
      exact Iff.rfl
    | cons y t =>
      have hx : x ≤ y := (List.pairwise_cons.mp h).1 y ((hm y).mp List.mem_cons_self)
      simp only [List.map_cons]
      rw [eqv_int]
      by_cases c : x = y
      · subst c
        rw [if_pos (decide_eq_true rfl)]
        refine ⟨x :: t, rfl, p, fun z => ?_, rfl⟩
        rw [hm z]
        constructor
        · exact List.mem_cons_of_mem _
        · intro hz
          rcases List.mem_cons.mp hz with rfl | hz
          · exact (hm z).mp List.mem_cons_self
          · exact hz
      · rw [if_neg (by rw [decide_eq_true_iff]; exact c)]
        refine ⟨x :: y :: t, rfl, List.pairwise_cons.mpr ⟨fun z hz => ?_, p⟩, fun z => ?_, rfl⟩
        · rcases List.mem_cons.mp hz with rfl | hz
          · omega
          · have := (List.pairwise_cons.mp p).1 z hz
            omega
        · rw [List.mem_cons, hm z, List.mem_cons]
theorem lt_uniq {a b : List Int} (h1 : a.Pairwise (· < ·)) (h2 : b.Pairwise (· < ·)) (h : ∀ z, z ∈ a ↔ z ∈ b) : a = b := by
  have n1 : a.Nodup := h1.imp fun h => Int.ne_of_lt h
  have n2 : b.Nodup := h2.imp fun h => Int.ne_of_lt h
  exact le_uniq ((List.perm_ext_iff_of_nodup n1 n2).mpr h) (h1.imp Int.le_of_lt) (h2.imp Int.le_of_lt)

section
variable {X : Cx} {m : Mo} {a b c e : Expr} {f g h : En → M D} {pos p2 : Pos} {es : List Expr} {fs : En → M (List D)}
def rSetI (K : PySem.W.Frag) (w : World) : List V → Hp → VK → Prop := fun xs H Q => ∃ (l : Addr) (ns : List Int), xs = [V.ref l] ∧ (SqL K H l (ns.map V.int) ∨ SqT K H l (ns.map V.int)) ∧ ns.length + 1 < scanBound ∧
  ∀ p n, H p = none → n ≤ ns.length → Q (.ref p) (upd H p (SetO w p (fun j => decide (j ∈ ns)) n))
/-- a set's state behind i items -/
def ZI (w : World) (S : Addr) (ns : List Int) (i : Nat) (h : Heap) : Prop := ∃ c, c ≤ i ∧ SetR w h S (fun j => decide (j ∈ ns.take i)) c
theorem zi_step {P : Program} {w : World} {A : Around} {S : Addr} {h0 : Heap} {ns : List Int} {i : Nat} {z : Int} {t : Tok} (hb : ns.length + 1 < scanBound) (hz : ns[i]? = some z) : AddStep P w A S h0 (ZI w S ns) i (.int z t) := by
  intro s E Q _ hZ q
  obtain ⟨c, hc, hS⟩ := hZ
  have hi : i < ns.length := (List.getElem?_eq_some_iff.mp hz).1
  unfold setAdd
  refine wpAny_holding ?_
  refine wpAny_bind ((intKind P w).pyHash (k := z) (intKind_is _ _ _ _) ?_)
  refine setR_add_hashed (s := { s with toks := s.toks + 1 }) hS (by omega) fun h' hsb hS2 => ?_
  refine q _ h' (s.toks + 1) (Nat.le_succ _) hsb ⟨_, ?_, hS2.congr fun j => ?_⟩
  · split <;> omega
  · rw [List.take_add_one, hz]
    simp [List.mem_append]
theorem cr_setI (hc : X.calm = true) : CallR X (.type "set") (rSetI X.K X.w) := by
  intro pins s σ H xs us Q I r h
  obtain ⟨l, ns, rfl, hl, hb, q⟩ := h
  rw [Vals.ref1 r]
  have fin : ∀ (h' : Heap) (tk n : Nat), n ≤ ns.length → SetR X.w h' s.heap.objs.size (fun j => decide (j ∈ ns)) n → (∀ b o, s.heap.get? b = some o → h'.get? b = some o) → EP X pins σ Q (.ref s.heap.objs.size) { s with heap := h', toks := tk } := fun h' tk n hn R k =>
    ⟨.ref _, upd H s.heap.objs.size (SetO X.w s.heap.objs.size (fun j => decide (j ∈ ns)) n), I.laid (t' := tk) k (Nat.le_refl _) (setO_new R), rfl, q _ n (I.hok.fresh (Nat.le_refl _)) hn⟩
  have z0 : ∀ h : Heap, h.get? s.heap.objs.size = some { cls := .type "set", dict := none, data := .set #[] 0 (.fresh 0 0 (!X.w.params.followText "set-order")) } → (∀ b o, s.heap.get? b = some o → h.get? b = some o) → ZI X.w s.heap.objs.size ns 0 h := fun h ho _ =>
    ⟨0, Nat.le_refl _, setR_new_at ho⟩
  have zk : ∀ i h h', ZI X.w s.heap.objs.size ns i h → (∀ b o, s.heap.get? b = some o → h'.get? b = some o) → (∀ o, h.get? s.heap.objs.size = some o → h'.get? s.heap.objs.size = some o) → ZI X.w s.heap.objs.size ns i h' := fun i h h' z _ k => by
    obtain ⟨c, hc, hS⟩ := z
    exact ⟨c, hc, hS.at k⟩
  rcases hl with hl | hl
  · obtain ⟨its, rv, pl, hz⟩ := I.list hl
    have hi := rv.ints
    have hlen : its.toArray.size = ns.length := by rw [List.size_toArray, ← rv.length, List.length_map]
    refine call_set_list (ZI X.w s.heap.objs.size ns) (I.ok.hd hc) pl.isList z0 zk (fun A' _ i v hv => ?_) fun h' tk hZ k => ?_
    · have hlt : i < ns.length := by rw [← hlen]; exact (Array.getElem?_eq_some_iff.mp hv).1
      obtain ⟨t, e⟩ := PyProof.Rows.IntsAre.int_at hi i v (by simpa using hv)
      rw [List.getD_eq_getElem?_getD, List.getElem?_eq_getElem hlt] at e
      rw [e]
      exact zi_step hb (List.getElem?_eq_getElem hlt)
    · obtain ⟨c, hc', hS⟩ := hZ
      rw [hlen] at hc'
      exact fin h' tk c hc' (hS.congr fun j => by rw [hlen, List.take_length]) k
  · obtain ⟨its, rv, pl, hz⟩ := I.tuple hl
    have hi := rv.ints
    have hlen : its.toArray.size = ns.length := by rw [List.size_toArray, ← rv.length, List.length_map]
    refine call_set_tuple (ZI X.w s.heap.objs.size ns) (I.ok.hd hc) (show s.heap.IsTuple l its.toArray from pl) z0 zk (fun A' _ i v hv => ?_) fun h' tk hZ k => ?_
    · have hlt : i < ns.length := by rw [← hlen]; exact (Array.getElem?_eq_some_iff.mp hv).1
      obtain ⟨t, e⟩ := PyProof.Rows.IntsAre.int_at hi i v (by simpa using hv)
      rw [List.getD_eq_getElem?_getD, List.getElem?_eq_getElem hlt] at e
      rw [e]
      exact zi_step hb (List.getElem?_eq_getElem hlt)
    · obtain ⟨c, hc', hS⟩ := hZ
      rw [hlen] at hc'
      exact fin h' tk c hc' (hS.congr fun j => by rw [hlen, List.take_length]) k
def rLenSet (w : World) : List V → Hp → VK → Prop := fun vs H Q => ∃ (a : Addr) (S : Int → Bool) (n : Nat), vs = [V.ref a] ∧ H a = some (SetO w a S n) ∧ ∀ ns : List Int, ns.Nodup → (∀ k : Int, k ∈ ns ↔ S k = true) → Q (.int ns.length) H
theorem cr_lenSet : CallR X (.builtin "len") (rLenSet X.w) := by
  intro pins s σ H vs us Q I r h
  obtain ⟨a, S, n, rfl, ha, q⟩ := h
  obtain ⟨o, es, ep, t, ho, hex, hd, g, nd, hm, hb, hf, hn, hr, hl⟩ := setO_get I ha
  rw [Vals.ref1 r]
  refine call_len_set ho hex hd hf (by unfold scanBound at hb; omega) ⟨.int es.size, H, I.tok _, ⟨_, rfl⟩, ?_⟩
  have := q (es.toList.map keyOf) nd fun k => (hm k).symm
  rw [List.length_map, Array.length_toList] at this
  exact this
/-- the ints of a list or a tuple -/
def intsD : D → Option (List Int)
  | .lst l => if l.all D.isInt then some (l.map D.iv) else none
  | .tup l => if l.all D.isInt then some (l.map D.iv) else none
  | _ => none
def D.itemsD : D → Option (List D)
  | .lst l => some l
  | .tup l => some l
  | _ => none
/-- a row whose set is made -/
def okSet (l : List D) : Bool := l.all D.isInt && decide (l.length < 64)
def D.sortedSet (d : D) : M D := match d.itemsD with
  | some l => if okSet l then pure (.lst (uniq (isort l))) else M.bad
  | none => M.bad
def D.lenSet (d : D) : M D := match d.itemsD with
  | some l => if okSet l then pure (.int (uniq (isort l)).length) else M.bad
  | none => M.bad
theorem rep_items {K : PySem.W.Frag} {w : Wd} {H : Hp} {v : V} {d : D} {l : List D} (o : OkW K w H) (r : Rep K w v d) (h : d.itemsD = some l) : ∃ p xs, v = .ref p ∧ (SqL K H p xs ∨ SqT K H p xs) ∧ RepAll K w xs l := by
  cases r with
  | @lst p xs ds hx rx => cases h; exact ⟨p, xs, rfl, .inl (SqL.of (o.sub _ _ hx)), rx⟩
  | @tup p xs ds hx rx => cases h; exact ⟨p, xs, rfl, .inr (sqT_mono o.sub hx), rx⟩
  | _ => cases h
theorem uniq_isort {l : List D} (h : l.all D.isInt = true) : ∃ ns : List Int, uniq (isort l) = ns.map D.int ∧ ns.Pairwise (· < ·) ∧ ∀ k, k ∈ ns ↔ k ∈ l.map D.iv := by
  have e := isInts h
  obtain ⟨l', e2, k1, k2⟩ := isort_ints (l.map D.iv)
  obtain ⟨l3, e3, p3, m3, _⟩ := uniq_ints k1
  rw [← e] at e2
  rw [e2, e3]
  exact ⟨l3, rfl, p3, fun k => (m3 k).trans k2.mem_iff⟩
/-- a set, then a use of it -/
theorem pe_ofSet {id : String} {x : Str} {p q : Pos} {r : List V → Hp → VK → Prop} (hc : X.calm = true) (hr : CallR X (.builtin id) r) (hg : Gl X x) (hm : X.mg x = none) (hv : bootBuiltins x = some (.builtin id)) (hg2 : Gl X "set") (hm2 : X.mg "set" = none) {te : TE} (ha : PE X a te)
    (hn : x ≠ "__name__") (hdb : (x == ("__debug__" : Str)) = false)
    (s1 : starEach [a] X.env = (false, eval a X.env) :: starEach [] X.env := by rfl) (s2 : starEach [.Call (.Name "set" p2) [a] [] q] X.env = (false, eval (.Call (.Name "set" p2) [a] [] q) X.env) :: starEach [] X.env := by rfl) :
    PE X (.Call (.Name x p) [.Call (.Name "set" p2) [a] [] q] [] pos) (tCB r (tCons (tCB (rSetI X.K X.w) (tCons te tNil)) tNil)) :=
  pe_callB hr hg hm hv (pa_cons (pe_callTy (cr_setI hc) hg2 hm2 PyProof.Rows.boot_set (pa_cons ha pa_nil s1) (by decide) (by decide) s1 rfl) pa_nil s2) hn hdb s2 rfl
theorem de_sortedSet {p q : Pos} (hc : X.calm = true) (hg : Gl X "sorted") (hm : X.mg "sorted" = none) (hg2 : Gl X "set") (hm2 : X.mg "set" = none) (ha : DE X m a f)
    (s1 : starEach [a] X.env = (false, eval a X.env) :: starEach [] X.env := by rfl) (s2 : starEach [.Call (.Name "set" p2) [a] [] q] X.env = (false, eval (.Call (.Name "set" p2) [a] [] q) X.env) :: starEach [] X.env := by rfl) :
    DE X m (.Call (.Name "sorted" p) [.Call (.Name "set" p2) [a] [] q] [] pos) (un D.sortedSet f) :=
  PE.imp (pe_ofSet hc (cr_sortedSet hc) hg hm PyProof.Rows.boot_sorted hg2 hm2 ha (by decide) (by decide) s1 s2) fun σ H Q qq => by
    refine td_bind qq fun w ρ x d H1 o en xg rx p => ?_
    unfold D.sortedSet at p
    cases hd : d.itemsD with
    | none => rw [hd] at p; exact p.elim
    | some l =>
      rw [hd] at p
      simp only at p
      by_cases ho : okSet l = true
      · rw [if_pos ho] at p
        have ho' := ho
        unfold okSet at ho'
        rw [Bool.and_eq_true, decide_eq_true_iff] at ho'
        obtain ⟨hi, hl⟩ := ho'
        obtain ⟨P, xs, rfl, hs, ry⟩ := rep_items o rx hd
        have e := isInts hi
        have ry' := ry
        rw [e] at ry'
        have ex := ry'.ints
        obtain ⟨ns, e2, pw, mm⟩ := uniq_isort hi
        rw [e2] at p
        refine ⟨P, l.map D.iv, rfl, by rw [← ex]; exact hs, by rw [List.length_map]; unfold scanBound; omega, fun A n hA hn => ?_⟩
        refine ⟨A, _, n, rfl, upd_same, by rw [List.length_map] at hn; omega, fun ns' B hp hmm hlen hB => ?_⟩
        have e3 : ns' = ns := lt_uniq hp pw fun z => by rw [hmm z, mm z, decide_eq_true_iff]
        subst e3
        exact Post.newL (p.step (Step.cell hA)) (o.cell hA) hB RepAll.ofInts
      · rw [if_neg ho] at p; exact p.elim
theorem de_lenSet {p q : Pos} (hc : X.calm = true) (hg : Gl X "len") (hm : X.mg "len" = none) (hg2 : Gl X "set") (hm2 : X.mg "set" = none) (ha : DE X m a f)
    (s1 : starEach [a] X.env = (false, eval a X.env) :: starEach [] X.env := by rfl) (s2 : starEach [.Call (.Name "set" p2) [a] [] q] X.env = (false, eval (.Call (.Name "set" p2) [a] [] q) X.env) :: starEach [] X.env := by rfl) :
    DE X m (.Call (.Name "len" p) [.Call (.Name "set" p2) [a] [] q] [] pos) (un D.lenSet f) :=
  PE.imp (pe_ofSet hc cr_lenSet hg hm PySem.boot_len hg2 hm2 ha (by decide) (by decide) s1 s2) fun σ H Q qq => by
    refine td_bind qq fun w ρ x d H1 o en xg rx p => ?_
    unfold D.lenSet at p
    cases hd : d.itemsD with
    | none => rw [hd] at p; exact p.elim
    | some l =>
      rw [hd] at p
      simp only at p
      by_cases ho : okSet l = true
      · rw [if_pos ho] at p
        have ho' := ho
        unfold okSet at ho'
        rw [Bool.and_eq_true, decide_eq_true_iff] at ho'
        obtain ⟨hi, hl⟩ := ho'
        obtain ⟨P, xs, rfl, hs, ry⟩ := rep_items o rx hd
        have e := isInts hi
        have ry' := ry
        rw [e] at ry'
        have ex := ry'.ints
        obtain ⟨ns, e2, pw, mm⟩ := uniq_isort hi
        rw [e2, List.length_map] at p
        refine ⟨P, l.map D.iv, rfl, by rw [← ex]; exact hs, by rw [List.length_map]; unfold scanBound; omega, fun A n hA hn => ?_⟩
        refine ⟨A, _, n, rfl, upd_same, fun ns' nd hmm => ?_⟩
        have e3 : ns'.length = ns.length := ((List.perm_ext_iff_of_nodup nd (pw.imp fun h => Int.ne_of_lt h)).mpr fun z => by rw [hmm z, mm z, decide_eq_true_iff]).length_eq
        rw [e3]
        exact Post.val (p.step (Step.cell hA)) (o.cell hA) (.int _)
      · rw [if_neg ho] at p; exact p.elim
end
end DL

/-! DL13: what is walked: a list or a tuple; a, b = x; an if whose test reads an owned list. -/
namespace DL
open PySem PySem.Spec PyProof.Rows L2

section
variable {X : Cx} {m : Mo} {a b c e : Expr} {f g h : En → M D} {pos p2 : Pos} {es : List Expr} {fs : En → M (List D)} {ft : En → M Bool} {o o' o1 : List Nat} {F G : En → M Fl} {st : Stmt}
theorem PI.or {tg iter : Expr} {t t' : TI} (h : PI X tg iter t) (h' : PI X tg iter t') : PI X tg iter (fun σ H R => t σ H R ∨ t' σ H R) := ⟨fun pins s σ H R I q => q.elim (h.run pins s σ H R I) (h'.run pins s σ H R I)⟩
def D.items : D → M (List D)
  | .lst l => pure l
  | .tup l => pure l
  | _ => M.bad
theorem di_seq {tg : Expr} (ha : DE X m a f) : DI X m tg a (itr D.items f) :=
  PI.imp (PI.or (di_list (tg := tg) ha) (di_tup (tg := tg) ha)) fun σ H R q => by
    obtain ⟨w, ρ, o, e, xg, p⟩ := q
    unfold itr at p
    cases r : f ρ w.S with
    | ex c S' =>
      rw [bind_ex r] at p
      exact .inl ⟨w, ρ, o, e, xg, by unfold itr; rw [bind_ex r]; exact p⟩
    | bad => rw [bind_bad r] at p; exact p.elim
    | ok d S' =>
      rw [bind_ok r] at p
      cases d with
      | lst l => exact .inl ⟨w, ρ, o, e, xg, by unfold itr; rw [bind_ok r]; exact p⟩
      | tup l => exact .inr ⟨w, ρ, o, e, xg, by unfold itr; rw [bind_ok r]; exact p⟩
      | _ => exact p.elim
/-! ### a, b = x -/
def setTF (τ : En → D → Option En) (f : En → M D) : En → M Fl := fun ρ => f ρ >>= fun d => match τ ρ d with
  | some ρ' => pure (.nx ρ')
  | none => M.bad
/-- js are stored: o' is own without them -/
structure Rems (own o' js : List Nat) : Prop where
  a : ∀ j ∈ o', j ∈ own ∧ j ∉ js
  b : ∀ j ∈ own, j ∈ o' ∨ j ∈ js
def remsB (own o' js : List Nat) : Bool := (o'.all fun j => own.contains j && !(js.contains j)) && own.all fun j => o'.contains j || js.contains j
theorem rems_of {own o' js : List Nat} (h : remsB own o' js = true) : Rems own o' js := by
  unfold remsB at h
  rw [Bool.and_eq_true] at h
  refine ⟨fun j hj => ?_, fun j hj => ?_⟩
  · have := List.all_eq_true.mp h.1 j hj
    simpa using this
  · have := List.all_eq_true.mp h.2 j hj
    simpa using this
theorem ds_setT (pl : m.Plain) (o' : List Nat) {tg : Expr} {gt : TG} {τ : En → D → Option En} {js : List Nat} (he : DE X m e f) (hg : PG X tg gt) (ht : TgOk X gt τ js) (hr : Rems m.own o' js := by exact rems_of rfl) (hs : swapsWithSole [tg] e pos.line X.env = pure false := by rfl) (hw : swappedStores [tg] e X.env = pure none := by rfl)
    (h1 : (assignEach [tg] X.env).map (·.2) = [assign tg X.env] := by rfl) : DS X m o' (.Assign [tg] e pos) (setTF τ f) := PS.imp (ps_asg he hg hs hw h1) fun D σ H h => by
  obtain ⟨w0, H0, w, ρ, s, p⟩ := h
  refine s.eval pl p fun v d w1 H1 s1 r p1 => ?_
  cases q : τ ρ d with
  | none => rw [q] at p1; exact p1.elim
  | some ρ' =>
    rw [q] at p1
    exact ht.go w1 H1 v d σ ρ ρ' _ s1.ok r s1.len q fun σ' t => p1 σ' H1 w1 (s1.to t hr.a hr.b) (Le.refl w1) rfl

/-! ### an owned list, read in a test -/
def bor (ft : En → M Bool) : En → M Bool := fun ρ S => match S with
  | [] => (match ft ρ [] with
    | .ok b [] => .ok b []
    | _ => .bad)
  | _ :: _ => .bad
def ifB (i : Nat) (c : En → M Bool) (F G : En → M Fl) : En → M Fl := fun ρ => match ρ[i]? with
  | some (some (.lst _)) => bor c ρ >>= fun b => if b then F ρ else G ρ
  | _ => M.bad
theorem ds_ifB (i : Nat) (o1 : List Nat) {c : Expr} {A B : List Stmt} (hc : DT X (m.to o1) c ft) (ha : DSs X m o' A F) (hb : DSs X m o' B G) (hi : i ∈ m.own := by exact yIn rfl) (hr : Rem m.own o1 i := by exact rem_of rfl) : DS X m o' (.If c A B pos) (ifB i ft F G) := PS.imp (ps_if hc ha hb) fun Dn σ H h => by
  obtain ⟨w0, H0, w, ρ, s, p⟩ := h
  unfold ifB at p
  have key : ∀ ds, ρ[i]? = some (some (.lst ds)) → PostF X m o' w0 H0 w ((bor ft ρ >>= fun b => if b then F ρ else G ρ) w.S) Dn → td X (m.to o1) RB ft σ H fun b H1 => if b = true then tds X m o' F Dn σ H1 else tds X m o' G Dn σ H1 := by
    intro ds e p
    obtain ⟨P, e1, e3, e4, own⟩ := s.own i hi _ e
    rcases own with ⟨ds', xs, ed, e2, r⟩ | ⟨_, _, ed, _⟩
    · cases ed
      obtain ⟨w', s', le, es⟩ := s.freeze hi hr fun kds z => by rw [e] at z; cases z
      refine ⟨w', ρ, s'.ok, s'.envOk, s'.xg, ?_⟩
      cases hS : w.S with
      | cons c r =>
        rw [hS] at p
        exact p.elim
      | nil =>
        rw [hS] at p
        have hS' : w'.S = [] := es.trans hS
        rw [hS']
        have p2 : PostF X m o' w0 H0 w (M.bind' (bor ft ρ) (fun b => if b then F ρ else G ρ) []) Dn := p
        unfold M.bind' bor at p2
        simp only at p2
        cases q : ft ρ [] with
        | ex c S' => rw [q] at p2; exact p2.elim
        | bad => rw [q] at p2; exact p2.elim
        | ok b S' =>
          rw [q] at p2
          cases S' with
          | cons _ _ => exact p2.elim
          | nil =>
            intro v H1 w1 st1 ok1 es1 eb
            have eb : v = b := eb
            subst eb
            -- back in the world w, the heap grown
            have had : w.ad = [] := List.eq_nil_of_length_eq_zero (by rw [s.ok.len, hS]; rfl)
            have keep : ∀ a u, w.B a = some u → H1 a = some u := fun a u hu => ok1.sub a u (st1.b a u (le.b a u hu))
            have ok2 : OkW X.K w H1 := ⟨keep, s.ok.len, fun n q c h1 h2 => (by rw [had] at h1; cases h1), s.ok.inj⟩
            have st2 : Step w H w H1 := ⟨fun _ _ h => h, ⟨[], (List.append_nil _).symm, fun _ h => nomatch h⟩, st1.h, st1.i, fun a u hu => .inl hu, rfl⟩
            have s2 := s.step st2 ok2
            have p3 : PostF X m o' w0 H0 w ((if v then F ρ else G ρ) w.S) Dn := by rw [hS]; exact p2
            cases v with
            | true => exact iteT ⟨w0, H0, w, ρ, s2, p3⟩
            | false => exact iteF ⟨w0, H0, w, ρ, s2, p3⟩
    · cases ed
  cases e : ρ[i]? with
  | none => rw [e] at p; exact p.elim
  | some od =>
    cases od with
    | none => rw [e] at p; exact p.elim
    | some d =>
      cases d with
      | lst ds => rw [e] at p; exact key ds e p
      | _ => rw [e] at p; exact p.elim
end
end DL

/-! DL14: the written part's facts, the Hook, a law's end. -/
namespace DL
open PySem PySem.Spec PyProof.Rows L2

structure Ev (fa : List He.Fa) (fn : List He.DefD) (ex : PySem.W.Frag → Bool) (K : PySem.W.Frag) (mg : Str → Option Value) : Prop where
  g : ∃ h : Heap, K.In h ∧ h.Ns mainGlobals mg
  c : He.SaysD fa fn K
  x : ex K = true
section
variable {fa : List He.Fa} {fn : List He.DefD} {ex : PySem.W.Frag → Bool} {K : PySem.W.Frag} {mg : Str → Option Value} {P : Program} {w : World} {base : Heap}
theorem Ev.glo (E : Ev fa fn ex K mg) (i : Nat) {x : Str} (h : fa[i]? = some (.glo x) := by rfl) : mg x = some (.ref (He.ga K x)) := by
  obtain ⟨hp, k, g⟩ := E.g
  exact He.glo_ok k g (E.c.fact i h)
theorem Ev.free (E : Ev fa fn ex K mg) (i : Nat) {x : Str} (h : fa[i]? = some (.free x) := by rfl) : mg x = none := by
  obtain ⟨hp, k, g⟩ := E.g
  exact He.free_ok k g (E.c.fact i h)
theorem Ev.int (E : Ev fa fn ex K mg) (i : Nat) {x : Str} {n : Int} (h : fa[i]? = some (.int x n) := by rfl) : ∃ t, mg x = some (.int n t) := by
  obtain ⟨hp, k, g⟩ := E.g
  exact He.int_ok k g (E.c.fact i h)
theorem Ev.str (E : Ev fa fn ex K mg) (i : Nat) {x z : Str} (h : fa[i]? = some (.str x z) := by rfl) : ∃ t, mg x = some (.str z t) := by
  obtain ⟨hp, k, g⟩ := E.g
  exact He.str_ok k g (E.c.fact i h)
theorem Ev.exc (E : Ev fa fn ex K mg) (i : Nat) {x : Str} (h : fa[i]? = some (.exc x) := by rfl) : (He.Fa.exc x).ok K = true := E.c.fact i h
theorem Ev.exm (E : Ev fa fn ex K mg) (i : Nat) {x y : Str} {b : Bool} (h : fa[i]? = some (.exm x y b) := by rfl) : PySem.W.exmOne K (.ref (He.ga K x)) (.ref (He.ga K y)) = some b := He.exm_ok (E.c.fact i h)
/-- a def's promise -/
theorem Ev.prom (E : Ev fa fn ex K mg) (i j : Nat) (x : Str) (st : Stmt) (N ps : List Str) (nN nP k : Nat) (o' : List Nat) (G : En → M Fl) (hN : N.length = nN) (hP : ps.length = nP) (hd : fn[i]? = some ⟨(x, none), x, x, defArgs st, defBody st, defScope st, [], []⟩) (hj : fa[j]? = some (.glo x)) (S : FnScope N ps (defScope st))
    (hb : ∀ (kV doc pm : Value) (an : Option Addr) (cdv ct : Value) (us : List Value), us.length = ps.length → bindArgs (PySem.W.fnOf x x (defArgs st) (defBody st) (defScope st) .none kV doc pm an cdv ct) ⟨us, []⟩ = pure (ps.zip us))
    (hbody : ∀ (base : Heap) (cdv : Value) (A : Around) (outer : List Env) (s : Shared) (H : Hp) (E : XK), Room k (A.deeper (envOfC x (defScope st) s.heap.objs.size (He.ga K x) cdv)) →
      DSs (cxOf (L2N.CX P w) P w K mg base N x (defScope st) (He.ga K x) cdv A outer s H E) (mDef E) o' (defBody st) G) : Prom P w K mg x (k + 1) ps (fnF nN nP G) := by
  subst hN hP
  obtain ⟨fd, F⟩ := E.c.def_ i hd
  have F' : FunD K x x (defArgs st) (defBody st) (defScope st) [] [] (He.ga K x) fd := F
  exact def_ok F' rfl (F'.bindsA hb) (E.glo j hj) S hbody
end
theorem mDef_po {P : Program} {w : World} {K : PySem.W.Frag} {mg : Str → Option Value} {base : Heap} {N : List Str} {qual : Str} {scope : Scope} {f : Addr} {cd : Value} {A : Around} {outer : List Env} {s : Shared} {H : Hp} {E : XK} :
    PassesOwn (model P w) (cxOf (L2N.CX P w) P w K mg base N qual scope f cd A outer s H E).A (cxOf (L2N.CX P w) P w K mg base N qual scope f cd A outer s H E).env (cxOf (L2N.CX P w) P w K mg base N qual scope f cd A outer s H E).xe := passes_of rfl
section
variable {X : Cx} {m : Mo} {e : Expr} {f : En → M D} {p1 p2 p3 : Pos} {x : Str} {i : Nat}
/-- a built-in type's name -/
theorem pe_ty {T : Str} {n : String} {p : Pos} (hg : Gl X T) (hm : X.mg T = none) (hv : bootBuiltins T = some (.type n)) (hn : T ≠ "__name__" := by decide) (hd : (T == ("__debug__" : Str)) = false := by decide) : PE X (.Name T p) (fun _ H Q => Q (.ty n) H) :=
  ⟨fun pins s σ H Q I h => ld_blt I hg hm hv ⟨.ty n, H, I, rfl, h⟩ hn hd⟩
theorem pe_bm_append (ho : PE X (.Name x p1) (tVar i)) (he : DE X m e f)
    (hbase : attributeBase (.Name x p1) "append" X.env (eval (.Name x p1) X.env) = eval (.Name x p1) X.env := by rfl)
    (hfew : ((backTo p3 (starEach [e] X.env)).all (fun x => !x.1) && (backToKw p3 (keywordEach [] X.env)).all (fun x => x.1.isSome)
      && decide ([e].length + ([] : List Keyword).length + (if ([] : List Keyword).isEmpty then 0 else 1) < 30)) = true := by rfl)
    (hline : (p2.endLine == p3.line) = true := by rfl) (hs : starEach [e] X.env = (false, eval e X.env) :: starEach [] X.env := by rfl) (hplain : (backTo p3 (starEach [] X.env)).any (·.1) = false := by rfl) :
    PE X (.Call (.Attribute (.Name x p1) "append" p2) [e] [] p3) (tBM X.K "list" rAppend (tVar i) (tCons (td X m (Rep X.K) f) tNil)) :=
  pe_bm PySem.F.plainAttrs_list PySem.F.slot_list_append PySem.F.type_list_append mt_append ho (pa_cons he pa_nil hs) hbase hfew hline hs hplain
theorem pe_bm_extend (ho : PE X (.Name x p1) (tVar i)) (he : DE X m e f)
    (hbase : attributeBase (.Name x p1) "extend" X.env (eval (.Name x p1) X.env) = eval (.Name x p1) X.env := by rfl)
    (hfew : ((backTo p3 (starEach [e] X.env)).all (fun x => !x.1) && (backToKw p3 (keywordEach [] X.env)).all (fun x => x.1.isSome)
      && decide ([e].length + ([] : List Keyword).length + (if ([] : List Keyword).isEmpty then 0 else 1) < 30)) = true := by rfl)
    (hline : (p2.endLine == p3.line) = true := by rfl) (hs : starEach [e] X.env = (false, eval e X.env) :: starEach [] X.env := by rfl) (hplain : (backTo p3 (starEach [] X.env)).any (·.1) = false := by rfl) :
    PE X (.Call (.Attribute (.Name x p1) "extend" p2) [e] [] p3) (tBM X.K "list" rExtend (tVar i) (tCons (td X m (Rep X.K) f) tNil)) :=
  pe_bm PySem.F.plainAttrs_list PySem.F.slot_list_extend PySem.F.type_list_extend mt_extend ho (pa_cons he pa_nil hs) hbase hfew hline hs hplain
end
/-! ### the Hook -/
abbrev AlQ : Type := He.AlD × Bool
def obsQ (n : Nat) (fa : List He.Fa) (fn : List He.DefD) (ex : PySem.W.Frag → Bool) (g : Addr → Option Obj) : AlQ := (He.obsD fa fn (He.frG g (He.asD g n)), ex (He.frG g (He.asD g n)))
def hookQ (n : Nat) (fa : List He.Fa) (fn : List He.DefD) (ex : PySem.W.Frag → Bool) : PySem.W.Hook where
  α := AlQ
  obs := fun s => obsQ n fa fn ex s.heap.get?
  val := fun _ => (He.valD fn, true)
  says := fun _ h => ∃ K : PySem.W.Frag, K.In h ∧ He.SaysD fa fn K ∧ ex K = true
  of := fun _ _ e => ⟨_, He.frG_in, congrArg (fun z : AlQ => z.1) e, congrArg (fun z : AlQ => z.2) e⟩
  keeps := fun _ _ _ ⟨K, hK, c⟩ k => ⟨K, PySem.W.Frag.In.keeps hK k, c⟩
theorem obsQ_eq {n : Nat} {fa : List He.Fa} {fn : List He.DefD} {ex : PySem.W.Frag → Bool} {g : Addr → Option Obj} {s : Shared} (h : ∀ a, g a = s.heap.get? a) : obsQ n fa fn ex g = (hookQ n fa fn ex).obs s := by
  have e : g = s.heap.get? := funext h
  rw [e] <;> rfl
/-! ### the end -/
theorem fn_cx {P : Program} {w : World} {K : PySem.W.Frag} {mg : Str → Option Value} {base : Heap} {CX CX' : CXT} {k : Nat} {f : Addr} {fd : FuncData} {ps : List Str} {sp : Sp} (F : FnOk P w K mg base CX k f fd ps sp)
    (h : ∀ o H s E u s', CX o H s E u s' → CX' o H s E u s') : FnOk P w K mg base CX' k f fd ps sp :=
  ⟨F.len, fun A outer s H args us vs Q E hr he hb hv hs => codeAny_mono (F.run A outer s H args us vs Q E hr he hb hv hs) fun r s' q => by
    cases r with
    | error e => exact h _ _ _ _ _ _ q
    | ok fl => cases fl <;> exact q⟩
theorem Prom.at {P : Program} {w : World} {K : PySem.W.Frag} {mg : Str → Option Value} {x y : Str} {k : Nat} {F : List D → M D} {f : Addr} (h : Prom P w K mg x k [y] F) (hf : mg x = some (.ref f)) :
    ∃ fd : FuncData, (∀ (s : Shared) (v : Value), BindsTo s fd ⟨[v], []⟩ [(y, v)]) ∧ ∀ base : Heap, K.In base → base.Ns mainGlobals mg → FnOk P w K mg base (L2N.CX P w) k f fd [y] (spD K F) := by
  obtain ⟨fd, h1, h2⟩ := h.ok
  have e := hf.symm.trans h.gl
  cases e
  exact ⟨fd, fun s v => h2 s [v] rfl, fun base _ _ => h1 base⟩
theorem sp_law {K : PySem.W.Frag} {F : List D → M D} {H : Hp} {a : Addr} {ns : List Int} (hF : F [.scr ns] [] = .ok (.bl true) []) (hS : SqL K H a (ns.map V.int)) : spD K F [.ref a] H (fun v _ => v = .bl true) fun _ _ _ => False := by
  refine ⟨⟨H, [], [], []⟩, [.scr ns], ⟨fun _ _ h => h, rfl, fun n p c h => by simp at h, fun n m p q h => by simp at h⟩, rfl, .cons (.scr hS) .nil, ?_⟩
  rw [show (⟨H, [], [], []⟩ : Wd).S = [] from rfl, hF]
  intro v H' w' st ok1 es r
  cases r
  rfl
theorem cx_none {P : Program} {w : World} (H : Hp) (s : Shared) (e : Value) (s' : Shared) (h : L2N.CX P w [] H s (fun _ _ _ => False) e s') : False := by
  obtain ⟨a, B, H', cls, d, _, _, _, _, _, _, _, z⟩ := h
  exact z
end DL

/-! DL15: in, not in an owned list. -/
namespace DL
open PySem PySem.Spec PyProof.Rows L2

section
variable {X : Cx} {m : Mo} {a b c e : Expr} {f g h : En → M D} {pos p2 : Pos} {x : Str}
def innO (i : Nat) (f : En → M D) : En → M D := fun ρ => f ρ >>= fun a => match ρ[i]? with
  | some (some (.lst ds)) => D.inn a (.lst ds)
  | _ => M.bad
def ninO (i : Nat) (f : En → M D) : En → M D := fun ρ => f ρ >>= fun a => match ρ[i]? with
  | some (some (.lst ds)) => D.nin a (.lst ds)
  | _ => M.bad
theorem inO_go {neg : Bool} {w : Wd} {H : Hp} {P : Addr} {xs : List V} {ds : List D} {x : V} {a : D} {E : Str → Hp → Prop} {Q : VK} (o : OkW X.K w H) (hP : H P = some (.lst xs)) (ry : RepAll X.K w xs ds) (rx : Rep X.K w x a)
    (p : Post X.K (Rep X.K) w H ((if neg then D.nin a (.lst ds) else D.inn a (.lst ds)) w.S) E Q) : ∃ d es, Dp X.K H x d ∧ Dp X.K H (.ref P) (.list es) ∧ SeqAt.shaped d = true ∧ SeqAt.shaped (.list es) = true ∧ Q (.bl (if neg then !(es.any fun z => PyData.eqv z d) else es.any fun z => PyData.eqv z d)) H := by
  have p' : Post X.K (Rep X.K) w H ((if a.fine 64 && D.fineAll ds 63 then pure (.bl (if neg then !(ds.any fun z => z.eqv a) else ds.any fun z => z.eqv a)) else M.bad : M D) w.S) E Q := by
    cases neg
    · unfold D.inn at p; exact p
    · unfold D.nin at p; exact p
  by_cases h : (a.fine 64 && D.fineAll ds 63) = true
  · rw [if_pos h] at p'
    obtain ⟨h1, h2⟩ := Bool.and_eq_true_iff.mp h
    refine ⟨a.toP, D.toPs ds, rx.dp o.sub h1, .lst (SqL.of hP) (ry.dp o.sub h2), fine_shaped h1, ?_, ?_⟩
    · have z := fine_shaped (fineL h2)
      unfold D.toP at z; exact z
    · rw [any_toPs]
      exact Post.val p' o (.bl _)
  · rw [if_neg h] at p'; exact p'.elim

theorem td_innO {i : Nat} {σ : L2.St} {H : Hp} {Q : VK} (hi : i ∈ m.own) (h : td X m (Rep X.K) (innO i f) σ H Q) : tOp (rInD X.K) (td X m (Rep X.K) f) (tVar i) σ H Q := by
  refine td_bind h fun w ρ x a H1 o en xg rx p => ?_
  cases ei : ρ[i]? with
  | none => rw [ei] at p; exact p.elim
  | some od =>
    cases od with
    | none => rw [ei] at p; exact p.elim
    | some d =>
      rw [ei] at p
      cases d with
      | lst ds =>
        obtain ⟨P, e1, e2, own⟩ := en.2 i hi _ ei
        rcases own with ⟨ds', xs, ed, hP, ry⟩ | ⟨_, _, ed, _⟩
        · cases ed
          obtain ⟨d, es, k1, k2, k3, k4, k5⟩ := inO_go (neg := false) o hP ry rx p
          exact ⟨.ref P, e1, d, es, k1, k2, k3, k4, k5⟩
        · cases ed
      | _ => exact p.elim
theorem de_innO (i : Nat) {k : Nat} (hr : Room k X.A) (ha : DE X m a f) (hv : PE X b (tVar i)) (hi : i ∈ m.own := by exact yIn rfl) (hm : behindInMarks .In b = false := by rfl) : DE X m (.Compare a [.In] [b] pos) (innO i f) :=
  PE.imp (pe_cmpR (op_inD (room65 hr)) ha hv hm) fun _ _ _ q => td_innO hi q
theorem dt_innO (i : Nat) {k : Nat} (hr : Room k X.A) (ha : DE X m a f) (hv : PE X b (tVar i)) (hi : i ∈ m.own := by exact yIn rfl) (hm : behindInMarks .In b = false := by rfl) : DT X m (.Compare a [.In] [b] pos) (tst (innO i f)) :=
  PT.imp (pt_cmpR (op_inD (room65 hr)) ha hv hm) fun _ _ _ q => td_innO hi (td_tst q)

theorem td_ninO {i : Nat} {σ : L2.St} {H : Hp} {Q : VK} (hi : i ∈ m.own) (h : td X m (Rep X.K) (ninO i f) σ H Q) : tOp (rNotInD X.K) (td X m (Rep X.K) f) (tVar i) σ H Q := by
  refine td_bind h fun w ρ x a H1 o en xg rx p => ?_
  cases ei : ρ[i]? with
  | none => rw [ei] at p; exact p.elim
  | some od =>
    cases od with
    | none => rw [ei] at p; exact p.elim
    | some d =>
      rw [ei] at p
      cases d with
      | lst ds =>
        obtain ⟨P, e1, e2, own⟩ := en.2 i hi _ ei
        rcases own with ⟨ds', xs, ed, hP, ry⟩ | ⟨_, _, ed, _⟩
        · cases ed
          obtain ⟨d, es, k1, k2, k3, k4, k5⟩ := inO_go (neg := true) o hP ry rx p
          exact ⟨.ref P, e1, d, es, k1, k2, k3, k4, k5⟩
        · cases ed
      | _ => exact p.elim
theorem de_ninO (i : Nat) {k : Nat} (hr : Room k X.A) (ha : DE X m a f) (hv : PE X b (tVar i)) (hi : i ∈ m.own := by exact yIn rfl) (hm : behindInMarks .NotIn b = false := by rfl) : DE X m (.Compare a [.NotIn] [b] pos) (ninO i f) :=
  PE.imp (pe_cmpR (op_notInD (room65 hr)) ha hv hm) fun _ _ _ q => td_ninO hi q
theorem dt_ninO (i : Nat) {k : Nat} (hr : Room k X.A) (ha : DE X m a f) (hv : PE X b (tVar i)) (hi : i ∈ m.own := by exact yIn rfl) (hm : behindInMarks .NotIn b = false := by rfl) : DT X m (.Compare a [.NotIn] [b] pos) (tst (ninO i f)) :=
  PT.imp (pt_cmpR (op_notInD (room65 hr)) ha hv hm) fun _ _ _ q => td_ninO hi (td_tst q)
end
end DL

/-! DL16: xs.index(x), xs.count(x) of a list. -/
namespace DL
open PySem PySem.Spec PyProof.Rows L2

section
variable {X : Cx} {m : Mo} {a b c e : Expr} {f g h : En → M D} {pos p2 : Pos} {x : Str}
def rCountD (K : PySem.W.Frag) : V → List V → Hp → VK → Prop := fun x xs H Q => ∃ (a : Addr) (y : V) (d : PyData) (ds : List PyData), x = V.ref a ∧ xs = [y] ∧ Dp K H (V.ref a) (.list ds) ∧ Dp K H y d ∧
  SeqAt.shaped (.list ds) = true ∧ SeqAt.shaped d = true ∧ Q (.int (ds.countP fun z => PyData.eqv z d : Nat)) H
theorem mt_countD (hu : X.A.units + 65 < cLine) : MtR X "list.count" (rCountD X.K) := by
  intro pins s σ H x xs v us Q I rx rxs h
  obtain ⟨a, y, d, ds, rfl, rfl, hl, hy, sl, sd, q⟩ := h
  cases rx
  obtain ⟨uy, rfl, ry⟩ := rxs.one
  obtain ⟨bs, r1⟩ := Dp.reads I d y uy hy ry
  have hxs : PyData.canLayAll0 ds = true := SeqAt.canLay_of_shaped sl
  have hroom : X.A.units + 1 + min (PyData.depthAll ds) d.depth < cLine := room_in_shaped sd hu
  cases hl with
  | lst hs ha =>
    obtain ⟨its, rv, ⟨⟨cls, dd, data, sls⟩, n, ho, hc, hdn, hdt⟩, hlen⟩ := I.list hs
    simp only at hc hdt
    subst hc hdt
    obtain ⟨as, h4⟩ := Dp.readsAll I ds _ its ha rv
    have hmap : its.map (SeqAt.readOf s.heap) = ds := SeqAt.readsAll_map ds its as hxs h4
    refine call_meets PySem.F.slot_list_count ⟨_, ho, rfl⟩ PySem.F.entry_list_count (PySem.F.args_list_count_2 _ _)
      (SeqAt.list_countAt a its.toArray n dd sls uy (fun u => PyData.eqv (SeqAt.readOf s.heap u) d)) ⟨ho, SeqAt.items_eqAt (vs := its.toArray) (show ReadsAll s.heap its.toArray.toList ds as from h4) r1 hxs (SeqAt.canLay_of_shaped sd) hroom, ?_⟩
    refine ⟨.int (ds.countP fun z => PyData.eqv z d : Nat), H, I.tok _, ⟨s.toks, ?_⟩, q⟩
    have e : (its.toArray.toList.countP fun u => PyData.eqv (SeqAt.readOf s.heap u) d) = ds.countP fun z => PyData.eqv z d := by
      rw [← hmap, List.countP_map]
      rfl
    show Value.int ((its.toArray.toList.countP (fun u => PyData.eqv (SeqAt.readOf s.heap u) d) : Nat) : Int) s.toks = _
    rw [e]
def firstD (a : D) : List D → Option Nat
  | [] => none
  | d :: r => if d.eqv a then some 0 else (firstD a r).map (· + 1)
theorem firstD_some {a : D} : ∀ {l : List D} {j : Nat}, firstD a l = some j → (∃ z, l[j]? = some z ∧ z.eqv a = true) ∧ ∀ (m : Nat) (z : D), m < j → l[m]? = some z → z.eqv a = false
  | [], j, h => by cases h
  | d :: r, j, h => by
    unfold firstD at h
    by_cases hd : d.eqv a = true
    · rw [if_pos hd] at h
      cases h
      exact ⟨⟨d, rfl, hd⟩, fun m z hm => absurd hm (Nat.not_lt_zero m)⟩
    · rw [if_neg hd] at h
      cases q : firstD a r with
      | none => rw [q] at h; cases h
      | some k =>
        rw [q] at h
        cases h
        obtain ⟨⟨z, h1, h2⟩, h3⟩ := firstD_some q
        refine ⟨⟨z, by simpa using h1, h2⟩, fun m z' hm hz => ?_⟩
        cases m with
        | zero =>
          simp at hz
          subst hz
          exact (Bool.not_eq_true _).mp hd
        | succ m => exact h3 m z' (by have : m + 1 < k + 1 := hm; omega) (by simpa using hz)
theorem toPs_get : ∀ (l : List D) (i : Nat), (D.toPs l)[i]? = (l[i]?).map D.toP
  | [], _ => by unfold D.toPs; rfl
  | d :: r, 0 => by unfold D.toPs; rfl
  | d :: r, i + 1 => by
    unfold D.toPs
    rw [List.getElem?_cons_succ, List.getElem?_cons_succ]
    exact toPs_get r i
def D.index : D → D → M D
  | .lst l, a => if a.fine 64 && D.fineAll l 63 then (match firstD a l with
    | some j => pure (.int (j : Nat))
    | none => M.bad) else M.bad
  | _, _ => M.bad
def D.count : D → D → M D
  | .lst l, a => if a.fine 64 && D.fineAll l 63 then pure (.int ((l.countP fun z => z.eqv a : Nat) : Int)) else M.bad
  | _, _ => M.bad
theorem countP_toPs (a : D) : ∀ l : List D, (D.toPs l).countP (fun z => PyData.eqv z a.toP) = l.countP fun z => z.eqv a
  | [] => by unfold D.toPs; rfl
  | d :: r => by
    unfold D.toPs
    rw [List.countP_cons, List.countP_cons, countP_toPs a r]
    rfl
/-- a method of a list, one argument -/
def lmF (op : List D → D → M D) (f g : En → M D) : En → M D := fun ρ => f ρ >>= fun a => match a with
  | .lst l => g ρ >>= fun b => op l b
  | _ => M.bad
theorem td_lm {r : V → List V → Hp → VK → Prop} {op : List D → D → M D} {σ : L2.St} {H : Hp} {Q : VK}
    (hop : ∀ (w : Wd) (H : Hp) (x y : V) (l : List D) (b : D) (E : Str → Hp → Prop) (Q : VK), OkW X.K w H → Rep X.K w x (.lst l) → Rep X.K w y b → Post X.K (Rep X.K) w H (op l b w.S) E Q → r x [y] H Q)
    (h : td X m (Rep X.K) (lmF op f g) σ H Q) : tBM X.K "list" r (td X m (Rep X.K) f) (tCons (td X m (Rep X.K) g) tNil) σ H Q := by
  refine td_bind h fun w ρ x a H1 o en xg rx p => ?_
  cases rx with
  | @lst p1 xs ds hx ry =>
    have rx' : Rep X.K w (.ref p1) (.lst ds) := .lst hx ry
    refine ⟨.inl ⟨rfl, xs, SqL.of (o.sub _ _ hx)⟩, w, ρ, o, en, xg, Post.bind p fun y b H2 w2 st2 ok2 rb p2 => ?_⟩
    exact hop w2 H2 _ y ds b _ Q ok2 (rx'.mono st2.le) rb p2
  | _ => exact p.elim
theorem hop_index (w : Wd) (H : Hp) (x y : V) (l : List D) (b : D) (E : Str → Hp → Prop) (Q : VK) (o : OkW X.K w H) (rx : Rep X.K w x (.lst l)) (ry : Rep X.K w y b) (p : Post X.K (Rep X.K) w H (D.index (.lst l) b w.S) E Q) : rIndexD X.K x [y] H Q := by
  cases rx with
  | @lst p1 xs _ hx rl =>
    have p' : Post X.K (Rep X.K) w H ((if b.fine 64 && D.fineAll l 63 then (match firstD b l with
      | some j => pure (.int (j : Nat))
      | none => M.bad) else M.bad : M D) w.S) E Q := p
    by_cases h : (b.fine 64 && D.fineAll l 63) = true
    · rw [if_pos h] at p'
      obtain ⟨h1, h2⟩ := Bool.and_eq_true_iff.mp h
      cases q : firstD b l with
      | none => rw [q] at p'; exact p'.elim
      | some j =>
        rw [q] at p'
        obtain ⟨⟨z, e1, e2⟩, e3⟩ := firstD_some q
        have dl := (Rep.lst hx rl).dp o.sub (fineL h2)
        have sl := fine_shaped (fineL h2)
        unfold D.toP at dl sl
        refine ⟨p1, y, b.toP, D.toPs l, j, z.toP, rfl, rfl, dl, ry.dp o.sub h1, sl, fine_shaped h1, by rw [toPs_get, e1]; rfl, e2, fun m z' hm hz => ?_, Post.val p' o (.int _)⟩
        rw [toPs_get] at hz
        cases q2 : l[m]? with
        | none => rw [q2] at hz; cases hz
        | some z2 =>
          rw [q2] at hz
          cases hz
          exact e3 m z2 hm q2
    · rw [if_neg h] at p'; exact p'.elim
theorem hop_count (w : Wd) (H : Hp) (x y : V) (l : List D) (b : D) (E : Str → Hp → Prop) (Q : VK) (o : OkW X.K w H) (rx : Rep X.K w x (.lst l)) (ry : Rep X.K w y b) (p : Post X.K (Rep X.K) w H (D.count (.lst l) b w.S) E Q) : rCountD X.K x [y] H Q := by
  cases rx with
  | @lst p1 xs _ hx rl =>
    have p' : Post X.K (Rep X.K) w H ((if b.fine 64 && D.fineAll l 63 then pure (.int ((l.countP fun z => z.eqv b : Nat) : Int)) else M.bad : M D) w.S) E Q := p
    by_cases h : (b.fine 64 && D.fineAll l 63) = true
    · rw [if_pos h] at p'
      obtain ⟨h1, h2⟩ := Bool.and_eq_true_iff.mp h
      have dl := (Rep.lst hx rl).dp o.sub (fineL h2)
      have sl := fine_shaped (fineL h2)
      unfold D.toP at dl sl
      exact ⟨p1, y, b.toP, D.toPs l, rfl, rfl, dl, ry.dp o.sub h1, sl, fine_shaped h1, by rw [countP_toPs]; exact Post.val p' o (.int _)⟩
    · rw [if_neg h] at p'; exact p'.elim
def idxF (f g : En → M D) : En → M D := lmF (fun l b => D.index (.lst l) b) f g
def cntF (f g : En → M D) : En → M D := lmF (fun l b => D.count (.lst l) b) f g
/-- room in any context -/
def Rm (X : Cx) : Prop := X.A.units + 65 < cLine
theorem rm_of {k : Nat} (hr : Room k X.A) : Rm X := room65 hr
theorem de_index {o : Expr} {p1 p3 : Pos} (hu : Rm X) (ho : DE X m o f) (ha : DE X m a g)
    (hbase : attributeBase o "index" X.env (eval o X.env) = eval o X.env := by rfl)
    (hfew : ((backTo p3 (starEach [a] X.env)).all (fun x => !x.1) && (backToKw p3 (keywordEach [] X.env)).all (fun x => x.1.isSome)
      && decide ([a].length + ([] : List Keyword).length + (if ([] : List Keyword).isEmpty then 0 else 1) < 30)) = true := by rfl)
    (hline : (p1.endLine == p3.line) = true := by rfl) (hs : starEach [a] X.env = (false, eval a X.env) :: starEach [] X.env := by rfl) (hplain : (backTo p3 (starEach [] X.env)).any (·.1) = false := by rfl) :
    DE X m (.Call (.Attribute o "index" p1) [a] [] p3) (idxF f g) :=
  PE.imp (pe_bm PySem.F.plainAttrs_list PySem.F.slot_list_index PySem.F.type_list_index (mt_indexD hu) ho (pa_cons ha pa_nil hs) hbase hfew hline hs hplain) fun _ _ _ q => td_lm hop_index q
theorem de_count {o : Expr} {p1 p3 : Pos} (hu : Rm X) (ho : DE X m o f) (ha : DE X m a g)
    (hbase : attributeBase o "count" X.env (eval o X.env) = eval o X.env := by rfl)
    (hfew : ((backTo p3 (starEach [a] X.env)).all (fun x => !x.1) && (backToKw p3 (keywordEach [] X.env)).all (fun x => x.1.isSome)
      && decide ([a].length + ([] : List Keyword).length + (if ([] : List Keyword).isEmpty then 0 else 1) < 30)) = true := by rfl)
    (hline : (p1.endLine == p3.line) = true := by rfl) (hs : starEach [a] X.env = (false, eval a X.env) :: starEach [] X.env := by rfl) (hplain : (backTo p3 (starEach [] X.env)).any (·.1) = false := by rfl) :
    DE X m (.Call (.Attribute o "count" p1) [a] [] p3) (cntF f g) :=
  PE.imp (pe_bm PySem.F.plainAttrs_list PySem.F.slot_list_count PySem.F.type_list_count (mt_countD hu) ho (pa_cons ha pa_nil hs) hbase hfew hline hs hplain) fun _ _ _ q => td_lm hop_count q
end
end DL

/-! DL17: list(range(..)), tuple(range(..)). -/
namespace DL
open PySem PySem.Spec PyProof.Rows L2

section
variable {X : Cx} {m : Mo} {a b c e : Expr} {f g h : En → M D} {pos p2 p : Pos} {x : Str}
noncomputable def lrg (mk : List D → D) (i j : Int) : M D := gd (RgOk i j) (pure (mk (rngD i (j - i).toNat)))
noncomputable def lrg1 (mk : List D → D) (f : En → M D) : En → M D := fun ρ => f ρ >>= fun d => match d with
  | .int j => lrg mk 0 j
  | _ => M.bad
noncomputable def lrg2 (mk : List D → D) (f g : En → M D) : En → M D := fun ρ => f ρ >>= fun d => match d with
  | .int i => g ρ >>= fun d => match d with
    | .int j => lrg mk i j
    | _ => M.bad
  | _ => M.bad
theorem rgV_rep {K : PySem.W.Frag} {w : Wd} (a b : Int) : RepAll K w (rgV a b) (rngD a (b - a).toNat) := by
  unfold rgV rngD
  generalize List.range (b - a).toNat = l
  induction l with
  | nil => exact .nil
  | cons x r ih => exact .cons (.int _) ih
/-- what a range's bounds must do -/
def kRg (K : PySem.W.Frag) (lst : Bool) (a b : Int) (H : Hp) (Q : VK) : Prop := RgOk a b ∧ ∀ q, H q = none → Q (.ref q) (upd H q (if lst then .lst (rgV a b) else .tup (rgV a b)))
theorem lrg_go {lst : Bool} {w : Wd} {H : Hp} {i j : Int} {E : Str → Hp → Prop} {Q : VK} (o : OkW X.K w H) (p : Post X.K (Rep X.K) w H (lrg (if lst then D.lst else D.tup) i j w.S) E Q) : kRg X.K lst i j H Q := by
  unfold lrg at p
  by_cases hj : RgOk i j
  · rw [gd_pos hj] at p
    refine ⟨hj, fun q hq => ?_⟩
    cases lst
    · exact Post.newT p o hq (rgV_rep i j)
    · exact Post.newL p o hq (rgV_rep i j)
  · rw [gd_neg hj] at p; exact p.elim
theorem td_lrg1 {lst : Bool} {σ : L2.St} {H : Hp} {Q : VK} (h : td X m (Rep X.K) (lrg1 (if lst then D.lst else D.tup) f) σ H Q) : tRg1 (td X m (Rep X.K) f) σ H fun a b H1 => kRg X.K lst a b H1 Q := by
  refine td_bind h fun w ρ x a H1 o en xg rx p => ?_
  cases rx with
  | int j => exact ⟨j, rfl, lrg_go o p⟩
  | _ => exact p.elim
theorem td_lrg2 {lst : Bool} {σ : L2.St} {H : Hp} {Q : VK} (h : td X m (Rep X.K) (lrg2 (if lst then D.lst else D.tup) f g) σ H Q) : tRg2 (td X m (Rep X.K) f) (td X m (Rep X.K) g) σ H fun a b H1 => kRg X.K lst a b H1 Q := by
  refine td_bind h fun w ρ x a H1 o en xg rx p => ?_
  cases rx with
  | int i =>
    refine ⟨w, ρ, o, en, xg, Post.bind p fun y b H2 w2 st2 ok2 rb p2 => ?_⟩
    cases rb with
    | int j => exact ⟨i, j, rfl, rfl, lrg_go ok2 p2⟩
    | _ => exact p2.elim
  | _ => exact p.elim
theorem de_lrg1 {p1 : Pos} (hc : X.calm = true) (hg : Gl X "list") (hm : X.mg "list" = none) (hg2 : Gl X "range") (hm2 : X.mg "range" = none) (ha : DE X m a f) (na : starEach [a] X.env = (false, eval a X.env) :: starEach [] X.env := by rfl)
    (nr : starEach [.Call (.Name "range" p) [a] [] p2] X.env = (false, eval (.Call (.Name "range" p) [a] [] p2) X.env) :: starEach [] X.env := by rfl) :
    DE X m (.Call (.Name "list" p1) [.Call (.Name "range" p) [a] [] p2] [] pos) (lrg1 D.lst f) :=
  PE.imp (pe_listRg hc hg hm (prg_1 hg2 hm2 ha na) nr) fun _ _ _ q => td_lrg1 (lst := true) q
theorem de_trg1 {p1 : Pos} (hc : X.calm = true) (hg : Gl X "tuple") (hm : X.mg "tuple" = none) (hg2 : Gl X "range") (hm2 : X.mg "range" = none) (ha : DE X m a f) (na : starEach [a] X.env = (false, eval a X.env) :: starEach [] X.env := by rfl)
    (nr : starEach [.Call (.Name "range" p) [a] [] p2] X.env = (false, eval (.Call (.Name "range" p) [a] [] p2) X.env) :: starEach [] X.env := by rfl) :
    DE X m (.Call (.Name "tuple" p1) [.Call (.Name "range" p) [a] [] p2] [] pos) (lrg1 D.tup f) :=
  PE.imp (pe_tupRg hc hg hm (prg_1 hg2 hm2 ha na) nr) fun _ _ _ q => td_lrg1 (lst := false) q
theorem de_lrg2 {p1 : Pos} (hc : X.calm = true) (hg : Gl X "list") (hm : X.mg "list" = none) (hg2 : Gl X "range") (hm2 : X.mg "range" = none) (ha : DE X m a f) (hb : DE X m b g) (na : starEach [a, b] X.env = (false, eval a X.env) :: starEach [b] X.env := by rfl)
    (nb : starEach [b] X.env = (false, eval b X.env) :: starEach [] X.env := by rfl) (hp : (backTo p2 (starEach [b] X.env)).any (·.1) = false := by rfl)
    (nr : starEach [.Call (.Name "range" p) [a, b] [] p2] X.env = (false, eval (.Call (.Name "range" p) [a, b] [] p2) X.env) :: starEach [] X.env := by rfl) :
    DE X m (.Call (.Name "list" p1) [.Call (.Name "range" p) [a, b] [] p2] [] pos) (lrg2 D.lst f g) :=
  PE.imp (pe_listRg hc hg hm (prg_2 hg2 hm2 ha hb na nb hp) nr) fun _ _ _ q => td_lrg2 (lst := true) q
theorem de_trg2 {p1 : Pos} (hc : X.calm = true) (hg : Gl X "tuple") (hm : X.mg "tuple" = none) (hg2 : Gl X "range") (hm2 : X.mg "range" = none) (ha : DE X m a f) (hb : DE X m b g) (na : starEach [a, b] X.env = (false, eval a X.env) :: starEach [b] X.env := by rfl)
    (nb : starEach [b] X.env = (false, eval b X.env) :: starEach [] X.env := by rfl) (hp : (backTo p2 (starEach [b] X.env)).any (·.1) = false := by rfl)
    (nr : starEach [.Call (.Name "range" p) [a, b] [] p2] X.env = (false, eval (.Call (.Name "range" p) [a, b] [] p2) X.env) :: starEach [] X.env := by rfl) :
    DE X m (.Call (.Name "tuple" p1) [.Call (.Name "range" p) [a, b] [] p2] [] pos) (lrg2 D.tup f g) :=
  PE.imp (pe_tupRg hc hg hm (prg_2 hg2 hm2 ha hb na nb hp) nr) fun _ _ _ q => td_lrg2 (lst := false) q
end
end DL

/-! DL18: sets of tuples of ints. -/
namespace DL
open PySem PySem.Spec PyProof.Rows L2

section
variable {X : Cx} {m : Mo} {a b c e : Expr} {f g h : En → M D} {pos p2 : Pos}
def ZT (P : Program) (w : World) (S : Addr) (ks : List (Addr × List Int)) (i : Nat) (h : Heap) : Prop := ∃ L es ep t, SetTR P w h S L es ep t ∧ Got ks i L
theorem zt_keep {P : Program} {w : World} {S : Addr} {ks : List (Addr × List Int)} {h0 : Heap} (hk : ∀ p ∈ ks, IsT P w h0 p.2 p.1) {i : Nat} {h h' : Heap} (z : ZT P w S ks i h) (k0 : ∀ b o, h0.get? b = some o → h'.get? b = some o) (kS : ∀ o, h.get? S = some o → h'.get? S = some o) : ZT P w S ks i h' := by
  obtain ⟨L, es, ep, t, R, g⟩ := z
  exact ⟨L, es, ep, t, R.keep kS fun p hp => isT_keep (hk p (List.mem_of_mem_take (g.sub p hp))) k0, g⟩
theorem zt_step {P : Program} {w : World} {A : Around} {S : Addr} {h0 : Heap} {ks : List (Addr × List Int)} (hk : ∀ p ∈ ks, IsT P w h0 p.2 p.1) (hfew : ks.length < 64) (hu : A.units < cLine) {i : Nat} {p : Addr × List Int} (hp : ks[i]? = some p) : AddStep P w A S h0 (ZT P w S ks) i (.ref p.1) := by
  intro s E Q hkp hZ q
  obtain ⟨L, es, ep, t, R, g⟩ := hZ
  have hx : IsT P w s.heap p.2 p.1 := isT_keep (hk p (List.mem_of_getElem? hp)) hkp
  have hi : i < ks.length := (List.getElem?_eq_some_iff.mp hp).1
  unfold setAdd
  refine wpAny_holding ?_
  refine wpAny_bind (wpAny_pyHash_tuple hu hx ?_)
  refine add_at (s := { s with toks := s.toks + (p.2.length + 1) }) R hx hu (by have := g.len; omega) fun b h' L' es' ep' t' hsb hS2 c1 c2 => ?_
  refine q b h' _ (Nat.le_add_right _ _) hsb ⟨L', es', ep', t', hS2, ?_⟩
  rcases Classical.em (p.2 ∈ L.map (·.2)) with c | c
  · rw [c1 c]; exact g.same hp c
  · exact g.more hp (c2 c)
def rSetT (K : PySem.W.Frag) (P : Program) (w : World) : List V → Hp → VK → Prop := fun xs H Q => ∃ (l : Addr) (ks : List (Addr × List Int)), xs = [V.ref l] ∧ (SqL K H l (ks.map fun p => V.ref p.1) ∨ SqT K H l (ks.map fun p => V.ref p.1)) ∧ (∀ p ∈ ks, SqT K H p.1 (p.2.map V.int)) ∧ ks.length < 64 ∧
  ∀ a L, H a = none → (∀ p ∈ L, p ∈ ks) → (∀ p ∈ ks, p.2 ∈ L.map (·.2)) → (L.map (·.2)).Nodup → Q (.ref a) (upd H a (SetTO P w a L))
theorem cr_setT (hc : X.calm = true) (hu : X.A.units + 65 < cLine) : CallR X (.type "set") (rSetT X.K X.prog X.w) := by
  intro pins s σ H xs us Q I r h
  obtain ⟨l, ks, rfl, hl, hk, hf, q⟩ := h
  rw [Vals.ref1 r]
  have hn : H s.heap.objs.size = none := I.hok.fresh (Nat.le_refl _)
  have hk0 : ∀ p ∈ ks, IsT X.prog X.w s.heap p.2 p.1 := fun p hp => I.isT (hk p hp)
  have fin : ∀ (h' : Heap) (tk : Nat), ZT X.prog X.w s.heap.objs.size ks ks.length h' → (∀ b o, s.heap.get? b = some o → h'.get? b = some o) → EP X pins σ Q (.ref s.heap.objs.size) { s with heap := h', toks := tk } := fun h' tk z k => by
    obtain ⟨L, es, ep, t, R, g⟩ := z
    refine ⟨.ref s.heap.objs.size, upd H s.heap.objs.size (SetTO X.prog X.w s.heap.objs.size L), I.laid (t' := tk) k (Nat.le_refl _) (setTO_new R.t0), rfl, q _ L hn (fun p hp => ?_) (fun p hp => ?_) R.nd⟩
    · exact List.mem_of_mem_take (g.sub p hp)
    · exact g.all p (by rw [List.take_length]; exact hp)
  have z0 : ∀ h : Heap, h.get? s.heap.objs.size = some { cls := .type "set", dict := none, data := .set #[] 0 (.fresh 0 0 (!X.w.params.followText "set-order")) } → (∀ b o, s.heap.get? b = some o → h.get? b = some o) → ZT X.prog X.w s.heap.objs.size ks 0 h := fun h ho _ =>
    ⟨[], _, _, _, setTR_fresh ho, Got.zero ks⟩
  have zk : ∀ i h h', ZT X.prog X.w s.heap.objs.size ks i h → (∀ b o, s.heap.get? b = some o → h'.get? b = some o) → (∀ o, h.get? s.heap.objs.size = some o → h'.get? s.heap.objs.size = some o) → ZT X.prog X.w s.heap.objs.size ks i h' := fun i h h' z k0 kS => zt_keep hk0 z k0 kS
  rcases hl with hl | hl
  · obtain ⟨its, rv, pl, hz⟩ := I.list hl
    have e := refs_of_vals rv
    have hlen : its.toArray.size = ks.length := by rw [List.size_toArray, e, List.length_map]
    refine call_set_list (ZT X.prog X.w s.heap.objs.size ks) (I.ok.hd hc) pl.isList z0 zk (fun A' hA i v hv => ?_) fun h' tk hZ k => fin h' tk (by rw [← hlen]; exact hZ) k
    rw [List.getElem?_toArray, e, List.getElem?_map] at hv
    cases q2 : ks[i]? with
    | none => rw [q2] at hv; cases hv
    | some p =>
      rw [q2] at hv
      cases hv
      exact zt_step hk0 hf (by omega) q2
  · obtain ⟨its, rv, pl, hz⟩ := I.tuple hl
    have e := refs_of_vals rv
    have hlen : its.toArray.size = ks.length := by rw [List.size_toArray, e, List.length_map]
    refine call_set_tuple (ZT X.prog X.w s.heap.objs.size ks) (I.ok.hd hc) (show s.heap.IsTuple l its.toArray from pl) z0 zk (fun A' hA i v hv => ?_) fun h' tk hZ k => fin h' tk (by rw [← hlen]; exact hZ) k
    rw [List.getElem?_toArray, e, List.getElem?_map] at hv
    cases q2 : ks[i]? with
    | none => rw [q2] at hv; cases hv
    | some p =>
      rw [q2] at hv
      cases hv
      exact zt_step hk0 hf (by omega) q2
def rLenSetT (K : PySem.W.Frag) (P : Program) (w : World) : List V → Hp → VK → Prop := fun vs H Q => ∃ (a : Addr) (L : List (Addr × List Int)), vs = [V.ref a] ∧ H a = some (SetTO P w a L) ∧ (∀ p ∈ L, SqT K H p.1 (p.2.map V.int)) ∧ Q (.int L.length) H
theorem cr_lenSetT : CallR X (.builtin "len") (rLenSetT X.K X.prog X.w) := by
  intro pins s σ H vs us Q I r h
  obtain ⟨a, L, rfl, ha, hk, q⟩ := h
  have R0 : SetT0 X.prog X.w s.heap a L := (I.hok a _ ha).1
  obtain ⟨es, ep, t, R⟩ := R0.full fun p hp => I.isT (hk p hp)
  obtain ⟨o, ho, hex, hd⟩ := R.ob
  rw [Vals.ref1 r]
  have hs := R.size
  have hf := R.few
  refine call_len_set ho hex hd R.fits (by omega) ⟨.int L.length, H, I.tok _, ⟨_, by rw [hs]⟩, q⟩
theorem callR_or {f : Value} {r1 r2 : List V → Hp → VK → Prop} (h1 : CallR X f r1) (h2 : CallR X f r2) : CallR X f fun xs H Q => r1 xs H Q ∨ r2 xs H Q := fun p s σ H xs us Q I v q =>
  q.elim (fun q => h1 p s σ H xs us Q I v q) fun q => h2 p s σ H xs us Q I v q
/-- a tuple of ints -/
def tupI : D → Option (List Int)
  | .tup l => if l.all D.isInt then some (l.map D.iv) else none
  | _ => none
def tupsI : List D → Option (List (List Int))
  | [] => some []
  | d :: r => match tupI d, tupsI r with
    | some k, some ks => some (k :: ks)
    | _, _ => none
theorem rep_tupI {K : PySem.W.Frag} {w : Wd} {H : Hp} {v : V} {d : D} {k : List Int} (o : OkW K w H) (r : Rep K w v d) (h : tupI d = some k) : ∃ p, v = .ref p ∧ SqT K H p (k.map V.int) := by
  cases r with
  | @tup p xs ds hx rx =>
    unfold tupI at h
    simp only at h
    by_cases hi : ds.all D.isInt = true
    · rw [if_pos hi] at h
      cases h
      have e := isInts hi
      rw [e] at rx
      have ex := rx.ints
      refine ⟨p, rfl, ?_⟩
      rw [← ex]
      exact sqT_mono o.sub hx
    · rw [if_neg hi] at h; cases h
  | _ => cases h
theorem rep_tupsI {K : PySem.W.Frag} {w : Wd} {H : Hp} (o : OkW K w H) : ∀ {xs : List V} {l : List D} {ks : List (List Int)}, RepAll K w xs l → tupsI l = some ks → ∃ L : List (Addr × List Int), xs = L.map (fun p => V.ref p.1) ∧ L.map (·.2) = ks ∧ ∀ p ∈ L, SqT K H p.1 (p.2.map V.int)
  | _, [], ks, .nil, h => by
    cases h
    exact ⟨[], rfl, rfl, fun p hp => by cases hp⟩
  | _, d :: r, ks, .cons rx rr, h => by
    unfold tupsI at h
    cases q1 : tupI d with
    | none => rw [q1] at h; cases h
    | some k =>
      cases q2 : tupsI r with
      | none => rw [q1, q2] at h; cases h
      | some ks' =>
        rw [q1, q2] at h
        cases h
        obtain ⟨p, rfl, hp⟩ := rep_tupI o rx q1
        obtain ⟨L, rfl, rfl, hL⟩ := rep_tupsI o rr q2
        refine ⟨(p, k) :: L, rfl, rfl, fun z hz => ?_⟩
        rcases List.mem_cons.mp hz with rfl | hz
        · exact hp
        · exact hL z hz
def nubK : List (List Int) → List (List Int)
  | [] => []
  | x :: r => if x ∈ nubK r then nubK r else x :: nubK r
theorem mem_nubK {x : List Int} : ∀ {l : List (List Int)}, x ∈ nubK l ↔ x ∈ l
  | [] => Iff.rfl
  | y :: r => by
    unfold nubK
    by_cases h : y ∈ nubK r
    · rw [if_pos h, mem_nubK (l := r), List.mem_cons]
      constructor
      · exact .inr
      · rintro (rfl | z)
        · exact mem_nubK.mp h
        · exact z
    · rw [if_neg h, List.mem_cons, List.mem_cons, mem_nubK (l := r)]
theorem nodup_nubK : ∀ l : List (List Int), (nubK l).Nodup
  | [] => List.nodup_nil
  | y :: r => by
    unfold nubK
    by_cases h : y ∈ nubK r
    · rw [if_pos h]; exact nodup_nubK r
    · rw [if_neg h]; exact List.nodup_cons.mpr ⟨h, nodup_nubK r⟩
def D.lenSet2 (d : D) : M D := match d.itemsD with
  | some l => if okSet l then D.lenSet d else match tupsI l with
    | some ks => if ks.length < 64 then pure (.int ((nubK ks).length : Nat)) else M.bad
    | none => M.bad
  | none => M.bad
theorem de_lenSet2 {p q : Pos} (hu : Rm X) (hc : X.calm = true) (hg : Gl X "len") (hm : X.mg "len" = none) (hg2 : Gl X "set") (hm2 : X.mg "set" = none) (ha : DE X m a f)
    (s1 : starEach [a] X.env = (false, eval a X.env) :: starEach [] X.env := by rfl) (s2 : starEach [.Call (.Name "set" p2) [a] [] q] X.env = (false, eval (.Call (.Name "set" p2) [a] [] q) X.env) :: starEach [] X.env := by rfl) :
    DE X m (.Call (.Name "len" p) [.Call (.Name "set" p2) [a] [] q] [] pos) (un D.lenSet2 f) :=
  PE.imp (pe_callB (callR_or cr_lenSet cr_lenSetT) hg hm PySem.boot_len (pa_cons (pe_callTy (callR_or (cr_setI hc) (cr_setT hc hu)) hg2 hm2 PyProof.Rows.boot_set (pa_cons ha pa_nil s1) (by decide) (by decide) s1 rfl) pa_nil s2) (by decide) (by decide) s2 rfl) fun σ H Q qq => by
    refine td_bind qq fun w ρ x d H1 o en xg rx p => ?_
    unfold D.lenSet2 at p
    cases hd : d.itemsD with
    | none => rw [hd] at p; exact p.elim
    | some l =>
      rw [hd] at p
      simp only at p
      by_cases ho : okSet l = true
      · rw [if_pos ho] at p
        unfold D.lenSet at p
        rw [hd] at p
        simp only at p
        rw [if_pos ho] at p
        have ho' := ho
        unfold okSet at ho'
        rw [Bool.and_eq_true, decide_eq_true_iff] at ho'
        obtain ⟨hi, hl⟩ := ho'
        obtain ⟨P, xs, rfl, hs, ry⟩ := rep_items o rx hd
        have e := isInts hi
        have ry' := ry
        rw [e] at ry'
        have ex := ry'.ints
        obtain ⟨ns, e2, pw, mm⟩ := uniq_isort hi
        rw [e2, List.length_map] at p
        refine .inl ⟨P, l.map D.iv, rfl, by rw [← ex]; exact hs, by rw [List.length_map]; unfold scanBound; omega, fun A n hA hn => .inl ?_⟩
        refine ⟨A, _, n, rfl, upd_same, fun ns' nd hmm => ?_⟩
        have e3 : ns'.length = ns.length := ((List.perm_ext_iff_of_nodup nd (pw.imp fun h => Int.ne_of_lt h)).mpr fun z => by rw [hmm z, mm z, decide_eq_true_iff]).length_eq
        rw [e3]
        exact Post.val (p.step (Step.cell hA)) (o.cell hA) (.int _)
      · rw [if_neg ho] at p
        cases hk : tupsI l with
        | none => rw [hk] at p; exact p.elim
        | some ks =>
          rw [hk] at p
          simp only at p
          by_cases hl : ks.length < 64
          · rw [if_pos hl] at p
            obtain ⟨P, xs, rfl, hs, ry⟩ := rep_items o rx hd
            obtain ⟨L, rfl, rfl, hL⟩ := rep_tupsI o ry hk
            rw [List.length_map] at hl
            refine .inr ⟨P, L, rfl, hs, hL, hl, fun A L' hA h1 h2 nd => .inr ?_⟩
            refine ⟨A, L', rfl, upd_same, fun z hz => sqT_mono (fun c u hc => by
              have hne : c ≠ A := fun e => by rw [e, hA] at hc; cases hc
              rw [upd_ne hne]; exact hc) (hL z (h1 z hz)), ?_⟩
            have e3 : L'.length = (nubK (L.map (·.2))).length := by
              rw [← List.length_map (f := fun p : Addr × List Int => p.2)]
              refine ((List.perm_ext_iff_of_nodup nd (nodup_nubK _)).mpr fun z => ?_).length_eq
              rw [mem_nubK]
              constructor
              · intro hz
                obtain ⟨y, hy, rfl⟩ := List.mem_map.mp hz
                exact List.mem_map.mpr ⟨y, h1 y hy, rfl⟩
              · intro hz
                obtain ⟨y, hy, rfl⟩ := List.mem_map.mp hz
                exact h2 y hy
            rw [e3]
            exact Post.val (p.step (Step.cell hA)) (o.cell hA) (.int _)
          · rw [if_neg hl] at p; exact p.elim
end
end DL

/-! DL19: rows of data in order: what sorting compares. -/
namespace DL
open PySem PySem.Spec PyProof.Rows L2

theorem ltAll_toks (n : Nat) (ih : ∀ a b : D, a.cmpb b n = true → W.alike a.toP b.toP = true ∧ a.toP ≠ .none ∧ W.dataLt a.toP b.toP = a.ltb b) : ∀ xs ys : List D, D.cmpAll xs ys n = true →
    W.alikeAll (D.toPs xs) (D.toPs ys) = true ∧ PyProof.Rows.lexLt itemOrd (W.keyToksAll (D.toPs xs)) (W.keyToksAll (D.toPs ys)) = D.ltAll xs ys
  | [], [], _ => ⟨by simp [D.toPs, W.alikeAll], by unfold D.ltAll; exact lex_irrefl _⟩
  | [], y :: ys, _ => ⟨by simp [D.toPs, W.alikeAll], by
    unfold D.ltAll D.toPs
    rw [W.toks_all_cons]
    simp only [W.keyToksAll]
    rw [lex_diff (O := itemOrd) (by simp)]
    rfl⟩
  | x :: xs, [], _ => ⟨by simp [D.toPs, W.alikeAll], by
    unfold D.ltAll D.toPs
    rw [W.toks_all_cons]
    simp only [W.keyToksAll]
    rw [lex_diff (O := itemOrd) (by simp)]
    rfl⟩
  | x :: xs, y :: ys, h => by
    unfold D.cmpAll at h
    rw [Bool.and_eq_true] at h
    obtain ⟨a1, a2, a3⟩ := ih x y h.1
    obtain ⟨b1, b2⟩ := ltAll_toks n ih xs ys h.2
    unfold D.toPs
    refine ⟨by unfold W.alikeAll; rw [a1, b1]; rfl, ?_⟩
    unfold D.ltAll
    by_cases e : x.eqv y = true
    · rw [if_pos e, W.dataLt_all_yes a1 e, b2]
    · rw [if_neg e, W.dataLt_all_no a1 (show x.eqv y = false by simpa using e), a3]
theorem cmp_alike : ∀ (n : Nat) (a b : D), a.cmpb b n = true → W.alike a.toP b.toP = true ∧ a.toP ≠ .none ∧ W.dataLt a.toP b.toP = a.ltb b := by
  have base : ∀ (n : Nat) (a b : D), a.cmpb b n = true → (∀ l, a ≠ .tup l) → W.alike a.toP b.toP = true ∧ a.toP ≠ .none ∧ W.dataLt a.toP b.toP = a.ltb b := by
    intro n a b h nt
    cases a with
    | int i =>
      cases b with
      | int j => exact ⟨by simp [D.toP, W.alike], by simp [D.toP], by unfold D.ltb; exact W.dataLt_int i j⟩
      | _ => unfold D.cmpb at h; cases h
    | str i =>
      cases b with
      | str j => exact ⟨by simp [D.toP, W.alike], by simp [D.toP], by unfold D.ltb; exact W.dataLt_str i j⟩
      | _ => unfold D.cmpb at h; cases h
    | tup l => exact absurd rfl (nt l)
    | _ => unfold D.cmpb at h; cases h
  intro n
  induction n with
  | zero =>
    intro a b h
    cases a with
    | tup l => cases b <;> (unfold D.cmpb at h; cases h)
    | _ => exact base 0 _ b h fun l e => by cases e
  | succ n ih =>
    intro a b h
    cases a with
    | tup xs =>
      cases b with
      | tup ys =>
        have h' : (D.fineAll xs n && D.fineAll ys n && D.cmpAll xs ys n) = true := by unfold D.cmpb at h; exact h
        rw [Bool.and_eq_true] at h'
        obtain ⟨b1, b2⟩ := ltAll_toks n ih xs ys h'.2
        refine ⟨by unfold D.toP W.alike; exact b1, by simp [D.toP], ?_⟩
        unfold D.toP D.ltb
        rw [W.dataLt_tuple, b2]
      | _ => unfold D.cmpb at h; cases h
    | _ => exact base _ _ b h fun l e => by cases e
/-! ### the order on values -/
theorem swo_data (kp : Value → PyData) : SrtO.Swo fun v u => W.dataLt (kp v) (kp u) where
  asym := fun x y h => by
    cases q : W.dataLt (kp y) (kp x) with
    | false => rfl
    | true =>
      have := lex_trans (O := itemOrd) _ _ _ h q
      rw [lex_irrefl] at this
      cases this
  tr := fun x y z h1 h2 => by
    cases q : W.dataLt (kp z) (kp x) with
    | false => rfl
    | true =>
      rcases lex_negTrans (O := itemOrd) _ (W.keyToks (kp y)) _ q with r | r
      · exact absurd r (by rw [show PyProof.Rows.lexLt itemOrd (W.keyToks (kp z)) (W.keyToks (kp y)) = false from h2]; exact Bool.false_ne_true)
      · exact absurd r (by rw [show PyProof.Rows.lexLt itemOrd (W.keyToks (kp y)) (W.keyToks (kp x)) = false from h1]; exact Bool.false_ne_true)
section
variable {prog : Program} {w : World} {A : Around} {E : Value → Shared → Prop} {s : Shared}
/-- tuple.__lt__, called as sorting calls it -/
theorem tup_lt_call {Q : Value → Shared → Prop} {l b : Addr} {its its2 : Array Value} {e r : Nat → Bool} (hl : s.heap.IsTuple l its) (hb : s.heap.IsTuple b its2)
    (he : ∀ j (j1 : j < its.size) (j2 : j < its2.size), SeqAt.EqAt A.in1 s its[j] its2[j] (e j)) (hr : ∀ j (j1 : j < its.size) (j2 : j < its2.size), e j = false → SeqAt.RcLt A.in1 s its[j] its2[j] (r j))
    (q : Q (.bool (SeqAt.firstLt e r (decide (its.size < its2.size)) (List.range (min its.size its2.size)))) s) : wpAny (model prog w) A (call (.builtin "tuple.__lt__") [.ref l, .ref b]) Q E s := by
  obtain ⟨⟨c1, d1, da1, s1⟩, ho, hc, n, hd⟩ := id hl
  obtain ⟨⟨c2, d2, da2, s2⟩, ho2, hc2, n2, hd2⟩ := id hb
  simp only at hc hd hc2 hd2
  subst hc
  subst hd
  subst hc2
  subst hd2
  exact call_meets F.slot_tuple_lt ⟨_, ho, rfl⟩ F.entry_tuple_lt (F.args_tuple_lt_2 _ _) (SeqAt.tuple_ltAt l b its its2 n n2 d1 d2 s1 s2 e r) ⟨ho, ho2, he, hr, q⟩
theorem one_lt_tup {xs ys : List PyData} {a b : Value} {as bs : List Addr} {Q : Bool → Shared → Prop} (ra : Reads s.heap a (.tuple xs) as) (rb : Reads s.heap b (.tuple ys) bs) (h : W.alikeAll xs ys = true)
    (hu : A.units + min (PyData.tuple xs).depth (PyData.tuple ys).depth < cLine) (hq : Q (W.dataLt (.tuple xs) (.tuple ys)) s) : wpAny (model prog w) A (oneLt' true a b) Q E s := by
  cases ra with
  | @tuple l o vs n _ as₁ h1 h2 h3 h4 =>
    cases rb with
    | @tuple l' o' vs' n' _ bs₁ k1 k2 k3 k4 =>
      have n1 : vs.size = xs.length := by simpa using SeqAt.ReadsAll.length _ _ _ h4
      have n2 : vs'.size = ys.length := by simpa using SeqAt.ReadsAll.length _ _ _ k4
      have hu' : A.units < cLine := by omega
      have hu2 : A.in1.units + min (PyData.depthAll xs) (PyData.depthAll ys) < cLine := SeqAt.room_in hu
      rw [W.dataLt_tuple, ← W.firstLt_toks xs ys h, ← n1, ← n2] at hq
      rw [oneLt'_eq, if_pos rfl]
      refine wpAny_bind (wpAny_cRoomFor hu' ?_)
      refine wpAny_bind (wpAny_callSpecialIfBound?_slot (T := "tuple") ⟨o, h1, h2⟩ F.slot_tuple_lt (tup_lt_call (e := SeqAt.pairEq xs ys) (r := fun j => W.dataLt (xs.getD j .none) (ys.getD j .none)) ⟨o, h1, h2, n, h3⟩ ⟨o', k1, k2, n', k3⟩ ?_ ?_ ?_))
      · intro j j1 j2
        have := W.eqAt_alikeAll xs ys A.in1 s vs.toList vs'.toList _ _ h4 k4 h hu2 j (by simpa using j1) (by simpa using j2)
        simpa using this
      · intro j j1 j2 hj
        have := W.rcLt_alikeAll xs ys A.in1 s vs.toList vs'.toList _ _ h4 k4 h hu2 j (by simpa using j1) (by simpa using j2) hj
        simpa using this
      · exact wpAny_truthy_bool hq
theorem firsts_any : ∀ (vs : List Value) {Q : List (Option Value) → Shared → Prop}, (∀ v ∈ vs, ∃ xs as, Reads s.heap v (.tuple xs) as) →
    (∀ fs : List (Option Value), fs.length = vs.length → (∀ (i : Nat) (v : Value) (xs : List PyData) (as : List Addr), vs[i]? = some v → Reads s.heap v (.tuple xs) as → ∃ f, fs[i]? = some f ∧ (f.isSome = true ↔ xs ≠ [])) → Q fs s) →
    wpAny (model prog w) A (vs.mapM firstOfTuple') Q E s
  | [], _, _, h => by rw [List.mapM_nil]; exact wpAny_pure (h [] rfl fun i v _ _ e => by simp at e)
  | v :: vs, Q, hv, h => by
    rw [List.mapM_cons]
    refine wpAny_bind ?_
    obtain ⟨xs, as, r⟩ := hv v List.mem_cons_self
    have keep := r
    cases r with
    | @tuple a o its n _ as₁ h1 h2 h3 h4 =>
      rw [W.kas_first_eq]
      refine wpAny_bind (W.Looks.here (show W.Looks (model prog w) s.heap (typeOf (.ref a)) o.cls from (W.Looks.ld h1).andThen .now) ?_)
      rw [h2, if_neg (by first | decide | simp)]
      refine wpAny_bind (listItems_at h1 h3 (wpAny_pure ?_))
      have hl : its.size = xs.length := by simpa using SeqAt.ReadsAll.length _ _ _ h4
      refine wpAny_bind (firsts_any vs (Q := fun bs s' => wpAny (model prog w) A (pure (its[0]? :: bs)) Q E s') (fun u hu => hv u (List.mem_cons_of_mem _ hu)) fun fs hlen hfs => wpAny_pure (h _ (by rw [List.length_cons, hlen, List.length_cons]) fun i u ys bs e ru => ?_))
      cases i with
      | zero =>
        simp only [List.getElem?_cons_zero, Option.some.injEq] at e
        subst e
        refine ⟨its[0]?, rfl, ?_⟩
        have e3 : ys.length = xs.length := by
          cases ru with
          | @tuple _ o2 its2 n2 _ _ g1 g2 g3 g4 =>
            rw [h1] at g1
            cases g1
            rw [h3] at g3
            cases g3
            have : its.size = ys.length := by simpa using SeqAt.ReadsAll.length _ _ _ g4
            omega
        cases ys with
        | nil =>
          have z : its[0]? = none := Array.getElem?_eq_none (by rw [hl, ← e3]; exact Nat.le_refl 0)
          rw [z]
          exact ⟨fun z => (by cases z), fun z => absurd rfl z⟩
        | cons y t =>
          have z : 0 < its.size := by rw [hl, ← e3]; exact Nat.succ_pos _
          rw [Array.getElem?_eq_getElem z]
          exact ⟨fun _ z => (by cases z), fun _ => rfl⟩
      | succ i => exact hfs i u ys bs (by simpa using e) ru
theorem alike_tup {x y : PyData} {xs : List PyData} (h : W.alike x y = true) (e : x = .tuple xs) : ∃ ys, y = .tuple ys := by
  subst e
  cases y <;> first | exact ⟨_, rfl⟩ | (exfalso; simp [W.alike] at h)
theorem eachIs_map {h : Heap} {kp : Value → PyData} : ∀ {vs : List Value}, (∀ v ∈ vs, ∃ as, Reads h v (kp v) as) → W.EachIs (fun v d => ∃ as, Reads h v d as) vs (vs.map kp)
  | [], _ => .nil
  | v :: vs, hv => .cons (hv v List.mem_cons_self) (eachIs_map fun u hu => hv u (List.mem_cons_of_mem _ hu))
theorem data_sortable {vs : List Value} {kp : Value → PyData} {a : Addr} (h2 : 2 ≤ vs.length) (hR : ∀ h' : Heap, (∀ b o, b ≠ a → s.heap.get? b = some o → h'.get? b = some o) → ∀ v ∈ vs, ∃ as, Reads h' v (kp v) as)
    (hal : ∀ v ∈ vs, ∀ u ∈ vs, W.alike (kp v) (kp u) = true) (hn : ∀ v ∈ vs, kp v ≠ .none) (hu : ∀ v ∈ vs, A.units + (kp v).depth < cLine) : SrtO.SortableO prog w A s a vs fun v u => W.dataLt (kp v) (kp u) := by
  intro h' keep
  have hr := hR h' keep
  have hmem : ∀ d ∈ vs.map kp, ∃ v ∈ vs, kp v = d := fun d hd => List.mem_map.mp hd
  have hal2 : W.AllAlike (vs.map kp) := fun d hd d' hd' => by
    obtain ⟨v, hv, rfl⟩ := hmem d hd
    obtain ⟨u, hu', rfl⟩ := hmem d' hd'
    exact hal v hv u hu'
  by_cases hs : W.Sortable (vs.map kp)
  · have S := W.SortsAt.data (prog := prog) (w := w) (A := A) (s := { s with heap := h' }) (eachIs_map hr) hal2 hs fun d hd => by
      obtain ⟨v, hv, rfl⟩ := hmem d hd
      exact hu v hv
    obtain ⟨kd, hlt, hk⟩ := S.kind
    refine ⟨kd, fun Q E q => hk h2 E q, fun p q hp hq => ?_⟩
    obtain ⟨as, r1⟩ := hr p.1 hp
    obtain ⟨bs, r2⟩ := hr q.1 hq
    exact hlt _ p.1 q.1 _ _ (W.dataKind_some hal2 (List.mem_map.mpr ⟨_, hp, rfl⟩) r1) (W.dataKind_some hal2 (List.mem_map.mpr ⟨_, hq, rfl⟩) r2) ⟨rfl, rfl⟩
  · have ht : ∀ v ∈ vs, ∃ xs, kp v = .tuple xs := by
      by_cases c : ∃ v ∈ vs, ∃ xs, kp v = .tuple xs
      · obtain ⟨v, hv, xs, e⟩ := c
        exact fun u hu' => alike_tup (hal v hv u hu') e
      · exact absurd (Or.inr fun d hd => by
          obtain ⟨v, hv, rfl⟩ := hmem d hd
          exact ⟨hn v hv, fun xs e => c ⟨v, hv, xs, e⟩⟩) hs
    have hemp : ∃ v ∈ vs, kp v = .tuple [] := by
      refine Classical.byContradiction fun c => hs (Or.inl fun d hd => ?_)
      obtain ⟨v, hv, rfl⟩ := hmem d hd
      obtain ⟨xs, e⟩ := ht v hv
      cases xs with
      | nil => exact absurd ⟨v, hv, e⟩ c
      | cons x r => exact ⟨x, r, e⟩
    have hrt : ∀ v ∈ vs, ∃ xs as, Reads h' v (.tuple xs) as := fun v hv => by
      obtain ⟨xs, e⟩ := ht v hv
      obtain ⟨as, r⟩ := hr v hv
      rw [e] at r
      exact ⟨xs, as, r⟩
    have hcmp : ∀ f : Bool, ∀ (p q : Keyed), p.1 ∈ vs → q.1 ∈ vs → wpAny (model prog w) A (oneLt' f p.1 q.1) (fun r s1 => s1 = { s with heap := h' } ∧ r = SrtO.lt2 (fun v u => W.dataLt (kp v) (kp u)) p q) (fun _ _ => False) { s with heap := h' } := by
      intro f p q hp hq
      obtain ⟨xs, e1⟩ := ht p.1 hp
      obtain ⟨ys, e2⟩ := ht q.1 hq
      obtain ⟨as, r1⟩ := hr p.1 hp
      obtain ⟨bs, r2⟩ := hr q.1 hq
      have hal3 := hal p.1 hp q.1 hq
      have hu3 : A.units + min (kp p.1).depth (kp q.1).depth < cLine := Nat.lt_of_le_of_lt (Nat.add_le_add_left (Nat.min_le_left _ _) _) (hu p.1 hp)
      show wpAny _ _ _ (fun r s1 => s1 = _ ∧ r = W.dataLt (kp p.1) (kp q.1)) _ _
      cases f with
      | false => exact W.oneLt_alike (fun z => (by cases z)) r1 r2 hal3 (hn p.1 hp) hu3 ⟨rfl, rfl⟩
      | true =>
        rw [e1] at r1 hal3 hu3 ⊢
        rw [e2] at r2 hal3 hu3 ⊢
        exact one_lt_tup r1 r2 (by simpa [W.alike] using hal3) hu3 ⟨rfl, rfl⟩
    have hty : ∀ v ∈ vs, W.Looks (model prog w) h' (typeOf v) (.type "tuple") := fun v hv => by
      obtain ⟨xs, as, r⟩ := hrt v hv
      exact W.looks_reads r
    -- which of the two kinds: by the first
    cases vs with
    | nil => exact absurd h2 (by simp)
    | cons v0 vr =>
      obtain ⟨xs0, as0, r0⟩ := hrt v0 List.mem_cons_self
      have hkind : ∀ (Q : SortKind → Shared → Prop) (E : Value → Shared → Prop), Q (if xs0 = [] then oneType' else general') { s with heap := h' } → wpAny (model prog w) A (keyKind' (v0 :: vr).toArray) Q E { s with heap := h' } := by
        intro Q E q
        rw [keyKind'_eq, List.mapM_toArray, map_eq_pure_bind]
        refine wpAny_bind (wpAny_bind (firsts_any (s := { s with heap := h' }) (v0 :: vr) hrt fun fs hlen hfs => wpAny_pure ?_))
        obtain ⟨ve, hve, ee⟩ := hemp
        obtain ⟨ie, hie, eie⟩ := List.mem_iff_getElem.mp hve
        obtain ⟨ase, re⟩ := hr ve hve
        rw [ee] at re
        obtain ⟨fe, f1, f2⟩ := hfs ie ve [] ase (by rw [List.getElem?_eq_getElem hie, eie]) re
        have hnone : fe = none := by
          cases fe with
          | none => rfl
          | some x => exact absurd (f2.mp rfl) (by simp)
        subst hnone
        have hall : (fs.toArray.all fun x => x.isSome) = false := by
          rw [List.all_toArray]
          refine Bool.eq_false_iff.mpr fun z => ?_
          have := List.all_eq_true.mp z none (List.mem_of_getElem? f1)
          cases this
        obtain ⟨f0, g1, g2⟩ := hfs 0 v0 xs0 as0 rfl r0
        have h0 : fs.toArray[0]? = some f0 := by rw [List.getElem?_toArray]; exact g1
        rw [hall, if_neg Bool.false_ne_true, h0]
        by_cases hx : xs0 = []
        · rw [if_pos hx] at q
          have hf0 : f0 = none := by
            cases f0 with
            | none => rfl
            | some x => exact absurd hx (g2.mp rfl)
          subst hf0
          rw [if_neg (by simp)]
          rw [oneTypeOnly'_eq, List.mapM_toArray, map_eq_pure_bind]
          refine wpAny_bind (wpAny_bind (wpAny_bind (W.kas_mapM (r := Value.type "tuple") _ (fun v hv Q' hq => (hty v hv).here hq) (wpAny_pure ?_))))
          have e1 : ((List.map (fun _ => Value.type "tuple") (v0 :: vr)).toArray.all fun x => x == Value.type "tuple") = true := by
            rw [List.all_toArray, List.all_map]
            exact List.all_eq_true.mpr fun _ _ => rfl
          have e2 : (List.map (fun _ => Value.type "tuple") (v0 :: vr)).toArray[0]? = some (Value.type "tuple") := by simp
          rw [e2]
          simp only [e1, if_true]
          exact wpAny_pure (wpAny_pure q)
        · rw [if_neg hx] at q
          have hf0 : f0.isSome = true := g2.mpr hx
          rw [if_pos (show ((some f0).bind _root_.id).isSome = true from hf0)]
          exact wpAny_pure q
      refine ⟨_, hkind, fun p q hp hq => ?_⟩
      by_cases hx : xs0 = []
      · rw [if_pos hx]
        rw [keyLt'_oneType]
        exact hcmp true p q hp hq
      · rw [if_neg hx]
        exact hcmp false p q hp hq
end
end DL

/-! DL20: sorted(x), x a list, a tuple or a set of data of any kind that < orders. -/
namespace DL
open PySem PySem.Spec PyProof.Rows L2

section
variable {prog : Program} {w : World} {A : Around} {E : Value → Shared → Prop} {s : Shared}
/-- all that stood stands; nothing of the outside has changed -/
structure Ext (s s1 : Shared) : Prop where
  h : ∀ b o, s.heap.get? b = some o → s1.heap.get? b = some o
  n : s.heap.objs.size ≤ s1.heap.objs.size
  g : s1.gens = s.gens
  o : s1.os = s.os
theorem collect_tup {l : Addr} {vs : List Value} {Q : List Value → Shared → Prop} (hl : s.heap.IsTuple l vs.toArray) (hz : vs.length ≤ sizeLine)
    (q : Q vs { s with heap := (s.heap.push (seqObj "list" #[] 0)).update s.heap.objs.size (Obj.mapSeq (· ++ vs.toArray)) }) : wpAny (model prog w) A (collect (.ref l)) Q E s := by
  obtain ⟨o, ho, hc, n, hd⟩ := id hl
  unfold collect
  refine wpAny_bind (wpAny_runValue (codeAny_builtin F.entry_proto_collect ?_))
  show wpAny _ _ (do again (.builtin "list.__iadd__" ⟨[← newList [], .ref l], []⟩)) _ _ s
  refine wpAny_bind (wpAny_newList (wpAny_pure ⟨Code.quiet_builtin _ (by decide +kernel), codeAny_builtin F.entry_list_iadd ?_⟩))
  show wpAny _ _ (Builtin.List.listExtendWith (.ref s.heap.objs.size) (.ref l) (.ref s.heap.objs.size)) _ _ { s with heap := s.heap.push (seqObj "list" #[] 0) }
  unfold Builtin.List.listExtendWith
  have h2 : (s.heap.push (seqObj "list" #[] 0)).get? l = some o := Heap.get?_push_of_some _ ho
  refine wpAny_bind (wpAny_typeOf (T := "tuple") ⟨o, h2, hc⟩ ?_)
  have t1 : (Value.type "tuple" == Value.type "tuple") = true := rfl
  rw [if_pos (by rw [t1]; simp)]
  refine wpAny_bind (listItems_at h2 hd ?_)
  have h3 : (s.heap.push (seqObj "list" #[] 0)).get? s.heap.objs.size = some (seqObj "list" #[] 0) := Heap.get?_push_size _ rfl
  refine wpAny_bind (listItems_at (xs := #[]) (n := 0) h3 rfl ?_)
  rw [if_neg (by simp)]
  refine wpAny_bind (listUpdate_at (xs := #[]) (n := 0) h3 rfl ?_ (Nat.zero_le _) (by show (#[] ++ vs.toArray).size ≤ sizeLine + 1; simp only [Array.size_append, List.size_toArray, List.length_nil]; omega))
  refine wpAny_pure ?_
  show wpAny (model prog w) A (do
      let u ← load s.heap.objs.size
      match u.data with
      | .seq its _ => pure its.toList
      | _ => unsupported "internal:collect") Q E { s with heap := (s.heap.push (seqObj "list" #[] 0)).update s.heap.objs.size (Obj.mapSeq (· ++ vs.toArray)) }
  refine wpAny_bind (wpAny_load (get?_update_seq h3 _) ?_)
  show wpAny _ _ (pure ((#[] : Array Value) ++ vs.toArray).toList) Q E _
  rw [show ((#[] : Array Value) ++ vs.toArray).toList = vs by simp]
  exact wpAny_pure q
theorem ext_copy (s : Shared) (vs : List Value) : Ext s { s with heap := (s.heap.push (seqObj "list" #[] 0)).update s.heap.objs.size (Obj.mapSeq (· ++ vs.toArray)) } where
  h := fun b o e => by
    have hlt : b < s.heap.objs.size := Heap.lt_size e
    show Heap.get? _ b = _
    rw [Heap.get?_update_ne _ _ _ _ (Nat.ne_of_lt hlt)]
    exact Heap.get?_push_of_some _ e
  n := by
    show _ ≤ ((s.heap.push (seqObj "list" #[] 0)).update _ _).objs.size
    rw [Heap.size_update, size_push']
    exact Nat.le_succ _
  g := rfl
  o := rfl
/-- sorted(x), whatever is gathered from x -/
theorem sorted_go {x : Value} {ltv : Value → Value → Bool} (O : SrtO.Swo ltv) {Q : Value → Shared → Prop} (Pv : List Value → Prop)
    (hcol : ∀ Q' : List Value → Shared → Prop, (∀ s1 vs, Pv vs → Ext s s1 → Q' vs s1) → wpAny (model prog w) A.in1 (collect x) Q' E s)
    (hz : ∀ vs, Pv vs → vs.length ≤ sizeLine)
    (hS : ∀ s1 vs, Pv vs → 2 ≤ vs.length → ∀ a, (∀ b o, s.heap.get? b = some o → b ≠ a ∧ s1.heap.get? b = some o) → SrtO.SortableO prog w A.in1.in1 s1 a vs ltv)
    (hQ : ∀ s1 p vs out c, Pv vs → SrtO.Srtd ltv out → SrtO.Stb ltv out vs → Ext s s1 → s.heap.objs.size ≤ p → s1.heap.get? p = some (seqObj "list" out.toArray c) → Q (.ref p) s1) :
    wpAny (model prog w) A (call (.builtin "sorted") [x]) Q E s := by
  apply Calls.call_function_entry kind_sorted plain_sorted entry_sorted (args_sorted1 _)
  unfold Builtin.«sorted»
  refine wpAny_bind (m := checkCount "sorted" 1 1 _) (wpAny_pure ?_)
  refine wpAny_bind (hcol _ fun s1 vs pv ex => ?_)
  have hzv := hz vs pv
  refine wpAny_bind (wpAny_newList ?_ hzv)
  have hoL : (s1.heap.push (seqObj "list" vs.toArray 0)).get? s1.heap.objs.size = some (seqObj "list" vs.toArray 0) := Heap.get?_push_size _ rfl
  have k2 : ∀ b o, s.heap.get? b = some o → b ≠ s1.heap.objs.size ∧ (s1.heap.push (seqObj "list" vs.toArray 0)).get? b = some o := fun b o e => by
    have e1 := ex.h b o e
    exact ⟨Nat.ne_of_lt (Heap.lt_size e1), Heap.get?_push_of_some _ e1⟩
  refine wpAny_bind (wpAny_holding (wpAny_call_entry slot_list_sort ⟨_, hoL, rfl⟩ entry_list_sort (SrtO.list_sort_ord (s := { s1 with heap := s1.heap.push (seqObj "list" vs.toArray 0) }) O hoL hzv
    (fun h2 => hS { s1 with heap := s1.heap.push (seqObj "list" vs.toArray 0) } vs pv h2 _ k2) fun out hs hb => ⟨_, rfl, ?_⟩) (args_list_sort _)))
  obtain ⟨c, hc⟩ := sortedHeap_at (vs := vs) (out := out.toArray) hoL
  refine wpAny_pure ⟨_, rfl, hQ _ s1.heap.objs.size vs out c pv hs hb ⟨fun b o e => ?_, ?_, ex.g, ex.o⟩ ex.n hc⟩
  · obtain ⟨e1, e2⟩ := k2 b o e
    show (sortedHeap (s1.heap.push (seqObj "list" vs.toArray 0)) s1.heap.objs.size vs out.toArray).get? b = some o
    rw [sortedHeap_old e1 (Heap.lt_size e2)]
    exact e2
  · have : s1.heap.objs.size < (sortedHeap (s1.heap.push (seqObj "list" vs.toArray 0)) s1.heap.objs.size vs out.toArray).objs.size := Heap.lt_size hc
    exact Nat.le_of_lt (Nat.lt_of_le_of_lt ex.n this)
end
/-! ### rows side by side -/
theorem each_perm {α β : Type} {R : α → β → Prop} {l l' : List β} (p : l.Perm l') : ∀ {m : List α}, W.EachIs R m l → ∃ m', m'.Perm m ∧ W.EachIs R m' l' := by
  induction p with
  | nil => intro m h; exact ⟨m, List.Perm.refl _, h⟩
  | cons x _ ih =>
    intro m h
    cases h with
    | cons r t =>
      obtain ⟨m', p', h'⟩ := ih t
      exact ⟨_ :: m', p'.cons _, .cons r h'⟩
  | swap x y l =>
    intro m h
    cases h with
    | cons r t =>
      cases t with
      | cons r2 t => exact ⟨_ :: _ :: _, List.Perm.swap _ _ _, .cons r2 (.cons r t)⟩
  | trans _ _ ih1 ih2 =>
    intro m h
    obtain ⟨m1, p1, h1⟩ := ih1 h
    obtain ⟨m2, p2, h2⟩ := ih2 h1
    exact ⟨m2, p2.trans p1, h2⟩
theorem each_memR {α β : Type} {R : α → β → Prop} {m : List α} {l : List β} (h : W.EachIs R m l) : (∀ x ∈ m, ∃ y ∈ l, R x y) ∧ ∀ y ∈ l, ∃ x ∈ m, R x y := by
  induction h with
  | nil => exact ⟨fun _ h => (by cases h), fun _ h => (by cases h)⟩
  | @cons a b as bs r t ih =>
    refine ⟨fun x hx => ?_, fun y hy => ?_⟩
    · rcases List.mem_cons.mp hx with rfl | hx
      · exact ⟨b, List.mem_cons_self, r⟩
      · obtain ⟨y, hy, q⟩ := ih.1 x hx
        exact ⟨y, List.mem_cons_of_mem _ hy, q⟩
    · rcases List.mem_cons.mp hy with rfl | hy
      · exact ⟨a, List.mem_cons_self, r⟩
      · obtain ⟨x, hx, q⟩ := ih.2 y hy
        exact ⟨x, List.mem_cons_of_mem _ hx, q⟩
theorem each_len {α β : Type} {R : α → β → Prop} {m : List α} {l : List β} (h : W.EachIs R m l) : m.length = l.length := by
  induction h with
  | nil => rfl
  | cons _ _ ih => rw [List.length_cons, List.length_cons, ih]
theorem each_vals : ∀ {ps : List (V × PyData)} {us : List Value}, Vals (ps.map (·.1)) us → W.EachIs (fun p u => RelV p.1 u) ps us
  | [], _, .nil => .nil
  | _ :: _, _, .cons r t => .cons r (each_vals t)
theorem vals_each : ∀ {ps : List (V × PyData)} {us : List Value}, W.EachIs (fun p u => RelV p.1 u) ps us → Vals (ps.map (·.1)) us
  | [], _, .nil => .nil
  | _ :: _, _, .cons r t => .cons r (vals_each t)
theorem each_pw {α β : Type} {R : α → β → Prop} {P : α → α → Prop} {Q : β → β → Prop} (hi : ∀ x y a b, R x a → R y b → Q a b → P x y) {m : List α} {l : List β} (h : W.EachIs R m l) (q : l.Pairwise Q) : m.Pairwise P := by
  induction h with
  | nil => exact List.Pairwise.nil
  | @cons a b as bs r t ih =>
    rw [List.pairwise_cons] at q
    refine List.pairwise_cons.mpr ⟨fun y hy => ?_, ih q.2⟩
    obtain ⟨z, hz, rz⟩ := (each_memR t).1 y hy
    exact hi a y b z r rz (q.1 z hz)
theorem each_strong {α β : Type} {R : α → β → Prop} {m : List α} {l : List β} (h : W.EachIs R m l) : W.EachIs (fun x y => R x y ∧ x ∈ m ∧ y ∈ l) m l := by
  induction h with
  | nil => exact .nil
  | cons r t ih => exact .cons ⟨r, List.mem_cons_self, List.mem_cons_self⟩ (ih.mono fun _ _ q => ⟨q.1, List.mem_cons_of_mem _ q.2.1, List.mem_cons_of_mem _ q.2.2⟩)
section
variable {X : Cx}
/-- sorted(x): x a list, a tuple, a set; ps its items with their data -/
def rSortD (K : PySem.W.Frag) (P : Program) (w : World) : List V → Hp → VK → Prop := fun vs H Q => ∃ (a : Addr) (ps : List (V × PyData)), vs = [V.ref a] ∧
  ((SqL K H a (ps.map (·.1)) ∨ SqT K H a (ps.map (·.1))) ∨ ∃ L : List (Addr × List Int), H a = some (SetTO P w a L) ∧ (∀ p ∈ L, SqT K H p.1 (p.2.map V.int)) ∧ ps.map (·.1) = L.map fun p => V.ref p.1) ∧
  (∀ p ∈ ps, Dp K H p.1 p.2 ∧ p.2.depth ≤ 63 ∧ p.2 ≠ .none) ∧ (∀ p ∈ ps, ∀ q ∈ ps, W.alike p.2 q.2 = true) ∧
  ∀ (zs : List (V × PyData)) (p : Addr), zs.Perm ps → zs.Pairwise (fun y z => W.dataLt z.2 y.2 = false) → H p = none → Q (.ref p) (upd H p (.lst (zs.map (·.1))))
theorem cr_sortD (hc : X.calm = true) (hu : X.A.units + 65 < cLine) : CallR X (.builtin "sorted") (rSortD X.K X.prog X.w) := by
  intro pins s σ H vs us Q I r h
  obtain ⟨a, ps, rfl, hsrc, hd, hal, q⟩ := h
  rw [Vals.ref1 r]
  -- the data of a value
  have kpx : ∃ kp : Value → PyData, ∀ p ∈ ps, ∀ u, RelV p.1 u → kp u = p.2 := by
    refine ⟨fun u => @dite _ (∃ p ∈ ps, RelV p.1 u) (Classical.propDecidable _) (fun z => (Classical.choose z).2) (fun _ => .none), fun p hp u ru => ?_⟩
    have z : ∃ p ∈ ps, RelV p.1 u := ⟨p, hp, ru⟩
    simp only [dif_pos z]
    obtain ⟨h1, h2⟩ := Classical.choose_spec z
    obtain ⟨as1, r1⟩ := Dp.reads I _ _ _ (hd _ h1).1 h2
    obtain ⟨as2, r2⟩ := Dp.reads I _ _ _ (hd p hp).1 ru
    exact W.alike_unique _ _ _ _ _ (hal _ h1 p hp) r1 r2
  obtain ⟨kp, hkp⟩ := kpx
  let Pv : List Value → Prop := fun vs => ∃ ms : List (V × PyData), ms.Perm ps ∧ W.EachIs (fun p u => RelV p.1 u) ms vs
  have hPm : ∀ vs, Pv vs → ∀ v ∈ vs, ∃ p ∈ ps, RelV p.1 v ∧ kp v = p.2 := fun vs ⟨ms, pm, em⟩ v hv => by
    obtain ⟨p, hp, rp⟩ := (each_memR em).2 v hv
    exact ⟨p, pm.mem_iff.mp hp, rp, hkp p (pm.mem_iff.mp hp) v rp⟩
  have hlen : ps.length ≤ sizeLine := by
    rcases hsrc with (hl | hl) | ⟨L, hL, _, e⟩
    · obtain ⟨its, rv, pl, hz⟩ := I.list hl
      rw [List.length_map] at hz; exact hz
    · obtain ⟨its, rv, pl, hz⟩ := I.tuple hl
      rw [List.length_map] at hz; exact hz
    · have R0 : SetT0 X.prog X.w s.heap a L := (I.hok a _ hL).1
      obtain ⟨_, _, _, _, _, _, _, _, _, _, hfew⟩ := R0.ex
      have : ps.length = L.length := by
        have := congrArg List.length e
        rw [List.length_map, List.length_map] at this
        exact this
      rw [this, sizeLine_eq]; omega
  refine sorted_go (swo_data kp) Pv (fun Q' hq => ?_) (fun vs ⟨ms, pm, em⟩ => by rw [← each_len em, pm.length_eq]; exact hlen) (fun s1 vs pv h2 ad hk => ?_) fun s1 p vs out c pv hs hb ex hp hget => ?_
  · rcases hsrc with (hl | hl) | ⟨L, hL, hk, e⟩
    · obtain ⟨its, rv, pl, hz⟩ := I.list hl
      exact collect_list pl.isList (hq _ its ⟨ps, List.Perm.refl _, each_vals rv⟩ (ext_copy s its)) (by rw [← rv.length]; exact hz)
    · obtain ⟨its, rv, pl, hz⟩ := I.tuple hl
      exact collect_tup (show s.heap.IsTuple a its.toArray from pl) (by rw [← rv.length]; exact hz) (hq _ its ⟨ps, List.Perm.refl _, each_vals rv⟩ (ext_copy s its))
    · have R0 : SetT0 X.prog X.w s.heap a L := (I.hok a _ hL).1
      obtain ⟨es, ep, t, R⟩ := R0.full fun p hp => I.isT (hk p hp)
      obtain ⟨o, ho, hex, hdd⟩ := R.ob
      have hsz := R.size
      have hfew := R.few
      refine collect_set (A := X.A.in1) (I.ok.hd hc) ⟨o, ho, hex.1, hdd⟩ R.fits (by unfold scanBound; omega) R.tab.ris R.led fun s1 vs k1 hz g1 o1 pm => hq s1 vs ?_ ⟨k1, hz, g1, o1⟩
      have hes : es.toList.map (·.2) = L.map fun q => Value.ref q.1 := by
        rw [R.rows]
        unfold rowsOf
        rw [List.map_map]
        rfl
      rw [hes] at pm
      have e0 : W.EachIs (fun (p : V × PyData) u => RelV p.1 u) ps (L.map fun q => Value.ref q.1) := each_vals (by rw [e]; exact vals_of_refs L)
      exact each_perm pm.symm e0
  · refine data_sortable h2 (fun h' hk2 v hv => ?_) (fun v hv u hu2 => ?_) (fun v hv => ?_) fun v hv => ?_
    · obtain ⟨p, hp, rp, e⟩ := hPm vs pv v hv
      obtain ⟨as, rd⟩ := Dp.reads I _ _ _ (hd p hp).1 rp
      rw [e]
      exact ⟨as, Reads.keeps (fun b o eb => by
        obtain ⟨n1, n2⟩ := hk b o eb
        exact hk2 b o n1 n2) rd⟩
    · obtain ⟨p, hp, _, e⟩ := hPm vs pv v hv
      obtain ⟨p2, hp2, _, e2⟩ := hPm vs pv u hu2
      rw [e, e2]
      exact hal p hp p2 hp2
    · obtain ⟨p, hp, _, e⟩ := hPm vs pv v hv
      rw [e]; exact (hd p hp).2.2
    · obtain ⟨p, hp, _, e⟩ := hPm vs pv v hv
      rw [e]
      have := (hd p hp).2.1
      show X.A.units + 1 + 1 + p.2.depth < cLine
      omega
  · obtain ⟨ms, pm, em⟩ := pv
    obtain ⟨zs, pz, ez⟩ := each_perm hb.perm.symm em
    have pz2 := pz.trans pm
    have hn : H p = none := I.hok.fresh hp
    have hl2 : (zs.map (·.1)).length ≤ sizeLine := by rw [List.length_map, pz2.length_eq]; exact hlen
    have hv : Vals (zs.map (·.1)) out := vals_each ez
    have J : Inv X pins σ (upd H p (.lst (zs.map (·.1)))) { s with heap := s1.heap, gens := s1.gens, drawn := s1.drawn, toks := s1.toks } :=
      I.call (ch := []) (Un.laid ex.h hp hn) (I.hok.laid ex.h hp ⟨hl2, out, c, hv, hget⟩) (by rw [ex.g]; exact I.bare) (fun _ z => nomatch z)
    have e : s1 = { s with heap := s1.heap, gens := s1.gens, drawn := s1.drawn, toks := s1.toks } := by
      have eo := ex.o
      cases s1
      cases s
      cases eo
      rfl
    rw [e]
    refine ⟨.ref p, _, J, rfl, q zs p pz2 ?_ hn⟩
    refine each_pw (R := fun x y => RelV x.1 y ∧ x ∈ zs ∧ y ∈ out) (fun x y b d rx ry hlt => ?_) (each_strong ez) hs
    have e1 := hkp x (pz2.mem_iff.mp rx.2.1) b rx.1
    have e2 := hkp y (pz2.mem_iff.mp ry.2.1) d ry.1
    rw [← e1, ← e2]
    exact hlt
end
end DL

/-! DL21: sorted(xs), sorted(set(xs)) on data. -/
namespace DL
open PySem PySem.Spec PyProof.Rows L2

/-! ### the order on data -/
theorem eqvAll_cmp (n : Nat) (ih : ∀ a b : D, a.cmpb b n = true → a.eqv b = true → a = b) : ∀ xs ys : List D, D.cmpAll xs ys n = true → PyData.eqvAll (D.toPs xs) (D.toPs ys) = true → xs = ys
  | [], [], _, _ => rfl
  | [], _ :: _, _, e => by simp [D.toPs, PyData.eqvAll] at e
  | _ :: _, [], _, e => by simp [D.toPs, PyData.eqvAll] at e
  | x :: xs, y :: ys, h, e => by
    unfold D.cmpAll at h
    rw [Bool.and_eq_true] at h
    unfold D.toPs PyData.eqvAll at e
    rw [Bool.and_eq_true] at e
    rw [ih x y h.1 e.1, eqvAll_cmp n ih xs ys h.2 e.2]
theorem eqv_cmp : ∀ (n : Nat) (a b : D), a.cmpb b n = true → a.eqv b = true → a = b := by
  intro n
  induction n with
  | zero =>
    intro a b h e
    cases a <;> cases b <;> first | (unfold D.cmpb at h; cases h; done) | skip
    · simp [D.eqv, D.toP, PyData.eqv] at e; rw [e]
    · simp [D.eqv, D.toP, PyData.eqv] at e; rw [e]
  | succ n ih =>
    intro a b h e
    cases a <;> cases b <;> first | (unfold D.cmpb at h; cases h; done) | skip
    · simp [D.eqv, D.toP, PyData.eqv] at e; rw [e]
    · simp [D.eqv, D.toP, PyData.eqv] at e; rw [e]
    · rename_i x y
      have h' : (D.fineAll x n && D.fineAll y n && D.cmpAll x y n) = true := by unfold D.cmpb at h; exact h
      rw [Bool.and_eq_true] at h'
      unfold D.eqv D.toP PyData.eqv at e
      rw [eqvAll_cmp n ih x y h'.2 e]
theorem eqvAll_self (n : Nat) (ih : ∀ a : D, a.cmpb a n = true → a.eqv a = true) : ∀ xs : List D, D.cmpAll xs xs n = true → PyData.eqvAll (D.toPs xs) (D.toPs xs) = true
  | [], _ => by simp [D.toPs, PyData.eqvAll]
  | x :: xs, h => by
    unfold D.cmpAll at h
    rw [Bool.and_eq_true] at h
    unfold D.toPs PyData.eqvAll
    rw [Bool.and_eq_true]
    exact ⟨ih x h.1, eqvAll_self n ih xs h.2⟩
theorem eqv_self : ∀ (n : Nat) (a : D), a.cmpb a n = true → a.eqv a = true := by
  intro n
  induction n with
  | zero =>
    intro a h
    cases a <;> first | (unfold D.cmpb at h; cases h; done) | simp [D.eqv, D.toP, PyData.eqv]
  | succ n ih =>
    intro a h
    cases a <;> first | (unfold D.cmpb at h; cases h; done) | skip
    · simp [D.eqv, D.toP, PyData.eqv]
    · simp [D.eqv, D.toP, PyData.eqv]
    · rename_i x
      have h' : (D.fineAll x n && D.fineAll x n && D.cmpAll x x n) = true := by unfold D.cmpb at h; exact h
      rw [Bool.and_eq_true] at h'
      unfold D.eqv D.toP PyData.eqv
      exact eqvAll_self n ih x h'.2
theorem ltAll_anti (n : Nat) (ih : ∀ a b : D, a.cmpb b n = true → b.cmpb a n = true → a.ltb b = false → b.ltb a = false → a = b) : ∀ xs ys : List D, D.cmpAll xs ys n = true → D.cmpAll ys xs n = true → D.ltAll xs ys = false → D.ltAll ys xs = false → xs = ys
  | [], [], _, _, _, _ => rfl
  | [], _ :: _, _, _, e, _ => by unfold D.ltAll at e; cases e
  | _ :: _, [], _, _, _, e => by unfold D.ltAll at e; cases e
  | x :: xs, y :: ys, h, h2, e, e2 => by
    unfold D.cmpAll at h h2
    rw [Bool.and_eq_true] at h h2
    unfold D.ltAll at e e2
    by_cases q : x.eqv y = true
    · have exy := eqv_cmp n x y h.1 q
      subst exy
      rw [if_pos q] at e e2
      rw [ltAll_anti n ih xs ys h.2 h2.2 e e2]
    · rw [if_neg q] at e
      by_cases q2 : y.eqv x = true
      · exact absurd ((eqv_cmp n y x h2.1 q2) ▸ (by have z := eqv_cmp n y x h2.1 q2; subst z; exact q2)) q
      · rw [if_neg q2] at e2
        have exy := ih x y h.1 h2.1 e e2
        subst exy
        exact absurd (eqv_self n x h.1) q
theorem ltb_anti : ∀ (n : Nat) (a b : D), a.cmpb b n = true → b.cmpb a n = true → a.ltb b = false → b.ltb a = false → a = b := by
  have str_eq : ∀ x y : Str, ¬ x.cps.toList < y.cps.toList → ¬ y.cps.toList < x.cps.toList → x = y := fun x y h1 h2 => W.str_of_cps (List.le_antisymm (List.not_lt.mp h2) (List.not_lt.mp h1))
  intro n
  induction n with
  | zero =>
    intro a b h _ e e2
    cases a <;> cases b <;> first | (unfold D.cmpb at h; cases h; done) | skip
    · unfold D.ltb at e e2
      rw [decide_eq_false_iff_not] at e e2
      congr 1; omega
    · unfold D.ltb at e e2
      rw [decide_eq_false_iff_not] at e e2
      rw [str_eq _ _ e e2]
  | succ n ih =>
    intro a b h h2 e e2
    cases a <;> cases b <;> first | (unfold D.cmpb at h; cases h; done) | skip
    · unfold D.ltb at e e2
      rw [decide_eq_false_iff_not] at e e2
      congr 1; omega
    · unfold D.ltb at e e2
      rw [decide_eq_false_iff_not] at e e2
      rw [str_eq _ _ e e2]
    · rename_i x y
      have h' : (D.fineAll x n && D.fineAll y n && D.cmpAll x y n) = true := by unfold D.cmpb at h; exact h
      have h3 : (D.fineAll y n && D.fineAll x n && D.cmpAll y x n) = true := by unfold D.cmpb at h2; exact h2
      rw [Bool.and_eq_true] at h' h3
      unfold D.ltb at e e2
      rw [ltAll_anti n ih x y h'.2 h3.2 e e2]
/-- all of a row can be compared -/
def CmpL (n : Nat) (l : List D) : Prop := ∀ a ∈ l, ∀ b ∈ l, a.cmpb b n = true
abbrev leD (a b : D) : Prop := b.ltb a = false
theorem CmpL.sub {n : Nat} {l k : List D} (h : CmpL n l) (hs : ∀ a ∈ k, a ∈ l) : CmpL n k := fun a ha b hb => h a (hs a ha) b (hs b hb)
theorem ltb_data {n : Nat} {a b : D} (h : a.cmpb b n = true) : a.ltb b = W.dataLt a.toP b.toP := (cmp_alike n a b h).2.2.symm
theorem ltb_asym {n : Nat} {a b : D} (h : a.cmpb b n = true) (h2 : b.cmpb a n = true) (e : a.ltb b = true) : b.ltb a = false := by
  rw [ltb_data h] at e
  rw [ltb_data h2]
  exact (swo_data (fun v => match v with | .int _ _ => a.toP | _ => b.toP)).asym (.int 0 0) .none e
theorem ltb_tr {n : Nat} {a b c : D} (h1 : b.cmpb a n = true) (h2 : c.cmpb b n = true) (h3 : c.cmpb a n = true) (e1 : b.ltb a = false) (e2 : c.ltb b = false) : c.ltb a = false := by
  rw [ltb_data h1] at e1
  rw [ltb_data h2] at e2
  rw [ltb_data h3]
  exact (swo_data (fun v => match v with | .int _ _ => a.toP | .none => b.toP | _ => c.toP)).tr (.int 0 0) .none (.bool true) e1 e2
theorem mem_insD {x z : D} {l : List D} : z ∈ ins D.ltb x l ↔ z = x ∨ z ∈ l := by rw [(ins_perm l).mem_iff, List.mem_cons]
theorem ins_pw {n : Nat} {x : D} : ∀ {l : List D}, CmpL n (x :: l) → l.Pairwise leD → (ins D.ltb x l).Pairwise leD
  | [], _, _ => List.pairwise_singleton _ _
  | y :: r, h, p => by
    rw [List.pairwise_cons] at p
    have mx : x ∈ x :: y :: r := List.mem_cons_self
    have my : y ∈ x :: y :: r := List.mem_cons_of_mem _ List.mem_cons_self
    have mr : ∀ z ∈ r, z ∈ x :: y :: r := fun z hz => List.mem_cons_of_mem _ (List.mem_cons_of_mem _ hz)
    unfold ins
    by_cases c : y.ltb x = true
    · rw [if_pos c, List.pairwise_cons]
      refine ⟨fun z hz => ?_, ins_pw (h.sub fun a ha => ?_) p.2⟩
      · rcases mem_insD.mp hz with rfl | hz
        · exact ltb_asym (h _ my _ mx) (h _ mx _ my) c
        · exact p.1 z hz
      · rcases List.mem_cons.mp ha with rfl | ha
        · exact mx
        · exact mr a ha
    · rw [if_neg c, List.pairwise_cons]
      have c' : y.ltb x = false := by simpa using c
      refine ⟨fun z hz => ?_, List.pairwise_cons.mpr p⟩
      rcases List.mem_cons.mp hz with rfl | hz
      · exact c'
      · exact ltb_tr (h _ my _ mx) (h _ (mr z hz) _ my) (h _ (mr z hz) _ mx) c' (p.1 z hz)
theorem isort_pw {n : Nat} : ∀ {l : List D}, CmpL n l → (isort l).Pairwise leD
  | [], _ => List.Pairwise.nil
  | x :: r, h => by
    unfold isort
    refine ins_pw (h.sub fun a ha => ?_) (isort_pw (h.sub fun a ha => List.mem_cons_of_mem _ ha))
    rcases List.mem_cons.mp ha with rfl | ha
    · exact List.mem_cons_self
    · exact List.mem_cons_of_mem _ ((isort_perm r).mem_iff.mp ha)
theorem sorted_uniq {n : Nat} {a b : List D} (p : a.Perm b) (h : CmpL n a) (pa : a.Pairwise leD) (pb : b.Pairwise leD) : a = b :=
  p.eq_of_pairwise (le := leD) (fun x y hx hy e1 e2 => ltb_anti n x y (h x hx y (p.mem_iff.mpr hy)) (h y (p.mem_iff.mpr hy) x hx) e2 e1) pa pb
/-- a row that can be put in order -/
def okSort (l : List D) : Bool := l.all fun a => a.fine 63 && l.all fun b => a.cmpb b 63
theorem okSort_iff {l : List D} : okSort l = true ↔ (∀ a ∈ l, a.fine 63 = true) ∧ CmpL 63 l := by
  unfold okSort CmpL
  rw [List.all_eq_true]
  constructor
  · intro h
    refine ⟨fun a ha => ?_, fun a ha b hb => ?_⟩
    · have := h a ha; rw [Bool.and_eq_true] at this; exact this.1
    · have := h a ha; rw [Bool.and_eq_true] at this; exact List.all_eq_true.mp this.2 b hb
  · intro h a ha
    rw [Bool.and_eq_true]
    exact ⟨h.1 a ha, List.all_eq_true.mpr fun b hb => h.2 a ha b hb⟩
def D.srt (d : D) : M D := match d.itemsD with
  | some l => if okSort l then pure (.lst (isort l)) else M.bad
  | none => M.bad
section
variable {X : Cx} {m : Mo} {a : Expr} {f : En → M D} {fs : En → M (List D)} {pos p2 : Pos}
theorem rep_each {K : PySem.W.Frag} {w : Wd} : ∀ {xs : List V} {ds : List D}, RepAll K w xs ds → W.EachIs (fun d (p : V × PyData) => Rep K w p.1 d ∧ p.2 = d.toP) ds ((xs.zip ds).map fun p => (p.1, p.2.toP))
  | _, _, .nil => .nil
  | _, _, .cons r t => .cons ⟨r, rfl⟩ (rep_each t)
theorem each_rep {K : PySem.W.Frag} {w : Wd} : ∀ {ds : List D} {ps : List (V × PyData)}, W.EachIs (fun d (p : V × PyData) => Rep K w p.1 d ∧ p.2 = d.toP) ds ps → RepAll K w (ps.map (·.1)) ds
  | _, _, .nil => .nil
  | _, _, .cons r t => .cons r.1 (each_rep t)
theorem fst_zip {K : PySem.W.Frag} {w : Wd} {xs : List V} {ds : List D} (r : RepAll K w xs ds) : ((xs.zip ds).map fun p => (p.1, p.2.toP)).map (·.1) = xs := by
  rw [List.map_map]
  exact List.map_fst_zip (by rw [r.length]; exact Nat.le_refl _)
theorem srt_go {w : Wd} {H : Hp} {v : V} {d : D} {l : List D} {E : Str → Hp → Prop} {Q : VK} (o : OkW X.K w H) (r : Rep X.K w v d) (hd : d.itemsD = some l) (hok : okSort l = true) (p : Post X.K (Rep X.K) w H (.ok (.lst (isort l)) w.S) E Q) : rSortD X.K X.prog X.w [v] H Q := by
  obtain ⟨hf, hc⟩ := okSort_iff.mp hok
  obtain ⟨P, xs, rfl, hs, ra⟩ := rep_items o r hd
  have e1 := rep_each ra
  have hmem : ∀ q ∈ (xs.zip l).map (fun p => (p.1, p.2.toP)), ∃ dd ∈ l, Rep X.K w q.1 dd ∧ q.2 = dd.toP := (each_memR e1).2
  refine ⟨P, (xs.zip l).map fun p => (p.1, p.2.toP), rfl, .inl (by rw [fst_zip ra]; exact hs), fun q hq => ?_, fun q hq q2 hq2 => ?_, fun zs A pm pw hA => ?_⟩
  · obtain ⟨dd, hdd, r1, e⟩ := hmem q hq
    rw [e]
    obtain ⟨h1, h2⟩ := D.fine_lay dd 63 (hf dd hdd)
    exact ⟨r1.dp o.sub (hf dd hdd), h2, (cmp_alike 63 dd dd (hc dd hdd dd hdd)).2.1⟩
  · obtain ⟨dd, hdd, _, e⟩ := hmem q hq
    obtain ⟨d2, hd2, _, e2⟩ := hmem q2 hq2
    rw [e, e2]
    exact (cmp_alike 63 dd d2 (hc dd hdd d2 hd2)).1
  · obtain ⟨ds', pd, e2⟩ := each_perm pm.symm e1
    have pw2 : ds'.Pairwise leD := by
      refine each_pw (R := fun dd (q : V × PyData) => (Rep X.K w q.1 dd ∧ q.2 = dd.toP) ∧ dd ∈ ds' ∧ q ∈ zs) (fun x y a b rx ry h => ?_) (each_strong e2) pw
      have c1 := hc y (pd.mem_iff.mp ry.2.1) x (pd.mem_iff.mp rx.2.1)
      show y.ltb x = false
      rw [ltb_data c1, ← ry.1.2, ← rx.1.2]
      exact h
    have e3 : ds' = isort l := sorted_uniq (n := 63) (pd.trans (isort_perm l).symm) (hc.sub fun z hz => pd.mem_iff.mp hz) pw2 (isort_pw hc)
    have r3 := each_rep e2
    rw [e3] at r3
    exact Post.newL p o hA r3
theorem cb_srt : OpN X (rSortD X.K X.prog X.w) (one D.srt) := by
  intro w H xs as E Q o rx p
  match as, rx with
  | [d], .cons (v := v) r1 .nil =>
    have p' : Post X.K (Rep X.K) w H (D.srt d w.S) E Q := p
    unfold D.srt at p'
    cases hd : d.itemsD with
    | none => rw [hd] at p'; exact p'.elim
    | some l =>
      rw [hd] at p'
      simp only at p'
      by_cases hok : okSort l = true
      · rw [if_pos hok] at p'
        exact srt_go o r1 hd hok p'
      · rw [if_neg hok] at p'; exact p'.elim
  | [], _ => exact p.elim
  | _ :: _ :: _, _ => exact p.elim
theorem de_srt {p : Pos} (hu : Rm X) (hc : X.calm = true) (hg : Gl X "sorted") (hm : X.mg "sorted" = none) (ha : DA X m [a] fs) (he : starEach [a] X.env = (false, eval a X.env) :: starEach [] X.env := by rfl) :
    DE X m (.Call (.Name "sorted" p) [a] [] pos) (nop (one D.srt) fs) := de_callB (cr_sortD hc hu) cb_srt hg hm PyProof.Rows.boot_sorted ha (he := he)
end
end DL

/-! DL22: sorted(set(xs)), xs ints or tuples of ints of any lengths. -/
namespace DL
open PySem PySem.Spec PyProof.Rows L2

theorem mem_uniq {n : Nat} {z : D} : ∀ {l : List D}, CmpL n l → (z ∈ uniq l ↔ z ∈ l)
  | [], _ => Iff.rfl
  | x :: r, h => by
    have ih := mem_uniq (z := z) (h.sub fun a ha => List.mem_cons_of_mem x ha)
    unfold uniq
    cases q : uniq r with
    | nil =>
      rw [q] at ih
      rw [List.mem_singleton, List.mem_cons]
      constructor
      · exact .inl
      · rintro (e | e)
        · exact e
        · exact absurd (ih.mpr e) (by simp)
    | cons y t =>
      rw [q] at ih
      simp only
      by_cases c : x.eqv y = true
      · rw [if_pos c, ih, List.mem_cons]
        have hy : y ∈ r := by
          have := (mem_uniq (z := y) (h.sub fun a ha => List.mem_cons_of_mem x ha)).mp
          rw [q] at this
          exact this List.mem_cons_self
        have e := eqv_cmp n x y (h x List.mem_cons_self y (List.mem_cons_of_mem _ hy)) c
        constructor
        · exact .inr
        · rintro (rfl | z2)
          · rw [e]; exact hy
          · exact z2
      · rw [if_neg c, List.mem_cons, ih, List.mem_cons]
theorem uniq_sub : ∀ l : List D, ∀ z ∈ uniq l, z ∈ l
  | [], z, h => h
  | x :: r, z, h => by
    unfold uniq at h
    cases q : uniq r with
    | nil =>
      rw [q] at h
      rw [List.mem_singleton] at h
      rw [h]; exact List.mem_cons_self
    | cons y t =>
      rw [q] at h
      simp only at h
      have ih := uniq_sub r
      rw [q] at ih
      split at h
      · exact List.mem_cons_of_mem _ (ih z h)
      · rcases List.mem_cons.mp h with rfl | h
        · exact List.mem_cons_self
        · exact List.mem_cons_of_mem _ (ih z h)
/-- without doubles, in order -/
theorem uniq_pw {n : Nat} : ∀ {l : List D}, CmpL n l → l.Pairwise leD → (uniq l).Pairwise leD ∧ (uniq l).Nodup
  | [], _, _ => ⟨List.Pairwise.nil, List.nodup_nil⟩
  | x :: r, h, p => by
    rw [List.pairwise_cons] at p
    have hr : CmpL n r := h.sub fun a ha => List.mem_cons_of_mem x ha
    obtain ⟨i1, i2⟩ := uniq_pw hr p.2
    have hs := uniq_sub r
    unfold uniq
    cases q : uniq r with
    | nil => exact ⟨List.pairwise_singleton _ _, by simp⟩
    | cons y t =>
      rw [q] at i1 i2 hs
      simp only
      by_cases c : x.eqv y = true
      · rw [if_pos c]; exact ⟨i1, i2⟩
      · rw [if_neg c]
        refine ⟨List.pairwise_cons.mpr ⟨fun z hz => p.1 z (hs z hz), i1⟩, List.nodup_cons.mpr ⟨fun hx => c ?_, i2⟩⟩
        -- x among the rest: then it is the first of them
        have hy : y ∈ r := hs y List.mem_cons_self
        have mx : x ∈ x :: r := List.mem_cons_self
        have my : y ∈ x :: r := List.mem_cons_of_mem _ hy
        have e : x = y := by
          rcases List.mem_cons.mp hx with e | hx
          · exact e
          · have h1 : leD y x := (List.pairwise_cons.mp i1).1 x hx
            have h2 : leD x y := p.1 y hy
            exact ltb_anti n x y (h x mx y my) (h y my x mx) h1 h2
        rw [← e]
        exact eqv_self n x (h x mx x mx)
theorem nodup_uniq_eq {n : Nat} {a b : List D} (h : CmpL n a) (na : a.Nodup) (nb : b.Nodup) (pa : a.Pairwise leD) (pb : b.Pairwise leD) (hm : ∀ z, z ∈ a ↔ z ∈ b) : a = b :=
  sorted_uniq ((List.perm_ext_iff_of_nodup na nb).mpr hm) h pa pb
/-! ### tuples of ints -/
def tupD (k : List Int) : D := .tup (k.map D.int)
theorem tupI_eq {d : D} {k : List Int} (h : tupI d = some k) : d = tupD k := by
  cases d with
  | tup l =>
    unfold tupI at h
    simp only at h
    split at h
    · rename_i hi
      cases h
      unfold tupD
      rw [← isInts hi]
    · cases h
  | _ => cases h
theorem tupsI_eq : ∀ {l : List D} {ks : List (List Int)}, tupsI l = some ks → l = ks.map tupD
  | [], ks, h => by cases h; rfl
  | d :: r, ks, h => by
    unfold tupsI at h
    cases q1 : tupI d with
    | none => rw [q1] at h; cases h
    | some k =>
      cases q2 : tupsI r with
      | none => rw [q1, q2] at h; cases h
      | some ks' =>
        rw [q1, q2] at h
        cases h
        rw [List.map_cons, ← tupI_eq q1, ← tupsI_eq q2]
theorem fine_ints (n : Nat) : ∀ k : List Int, D.fineAll (k.map D.int) n = true
  | [] => by unfold D.fineAll; rfl
  | x :: r => by
    rw [List.map_cons]
    unfold D.fineAll
    rw [fine_ints n r]
    unfold D.fine
    rfl
theorem cmp_ints (n : Nat) : ∀ k l : List Int, D.cmpAll (k.map D.int) (l.map D.int) n = true
  | [], [] => by unfold D.cmpAll; rfl
  | [], _ :: _ => by unfold D.cmpAll; rfl
  | _ :: _, [] => by unfold D.cmpAll; rfl
  | x :: r, y :: t => by
    rw [List.map_cons, List.map_cons]
    unfold D.cmpAll
    rw [cmp_ints n r t]
    unfold D.cmpb
    rfl
theorem tupD_fine (n : Nat) (k : List Int) : (tupD k).fine (n + 1) = true := by
  unfold tupD D.fine
  exact fine_ints n k
theorem tupD_cmp (n : Nat) (k l : List Int) : (tupD k).cmpb (tupD l) (n + 1) = true := by
  unfold tupD D.cmpb
  show (D.fineAll (k.map D.int) n && D.fineAll (l.map D.int) n && D.cmpAll (k.map D.int) (l.map D.int) n) = true
  rw [fine_ints, fine_ints, cmp_ints]; rfl
theorem tupD_inj {k l : List Int} (h : tupD k = tupD l) : k = l := by
  unfold tupD at h
  injection h with h
  have := congrArg (List.map D.iv) h
  rw [List.map_map, List.map_map, show (D.iv ∘ D.int) = (_root_.id : Int → Int) from rfl, List.map_id, List.map_id] at this
  exact this
theorem tups_cmp (n : Nat) (ks : List (List Int)) : CmpL (n + 1) (ks.map tupD) := fun a ha b hb => by
  obtain ⟨k, _, rfl⟩ := List.mem_map.mp ha
  obtain ⟨l, _, rfl⟩ := List.mem_map.mp hb
  exact tupD_cmp n k l
theorem ints_cmp (n : Nat) (ks : List Int) : CmpL n (ks.map D.int) := fun a ha b hb => by
  obtain ⟨k, _, rfl⟩ := List.mem_map.mp ha
  obtain ⟨l, _, rfl⟩ := List.mem_map.mp hb
  unfold D.cmpb; rfl
def D.srtSet (d : D) : M D := match d.itemsD with
  | some l => if okSet l then pure (.lst (uniq (isort l))) else match tupsI l with
    | some ks => if ks.length < 64 then pure (.lst (uniq (isort l))) else M.bad
    | none => M.bad
  | none => M.bad
section
variable {X : Cx} {m : Mo} {a : Expr} {f : En → M D} {pos p2 : Pos}
theorem de_srtSet {p q : Pos} (hu : Rm X) (hc : X.calm = true) (hg : Gl X "sorted") (hm : X.mg "sorted" = none) (hg2 : Gl X "set") (hm2 : X.mg "set" = none) (ha : DE X m a f)
    (s1 : starEach [a] X.env = (false, eval a X.env) :: starEach [] X.env := by rfl) (s2 : starEach [.Call (.Name "set" p2) [a] [] q] X.env = (false, eval (.Call (.Name "set" p2) [a] [] q) X.env) :: starEach [] X.env := by rfl) :
    DE X m (.Call (.Name "sorted" p) [.Call (.Name "set" p2) [a] [] q] [] pos) (un D.srtSet f) :=
  PE.imp (pe_callB (callR_or (cr_sortedSet hc) (cr_sortD hc hu)) hg hm PyProof.Rows.boot_sorted (pa_cons (pe_callTy (callR_or (cr_setI hc) (cr_setT hc hu)) hg2 hm2 PyProof.Rows.boot_set (pa_cons ha pa_nil s1) (by decide) (by decide) s1 rfl) pa_nil s2) (by decide) (by decide) s2 rfl) fun σ H Q qq => by
    refine td_bind qq fun w ρ x d H1 o en xg rx p => ?_
    unfold D.srtSet at p
    cases hd : d.itemsD with
    | none => rw [hd] at p; exact p.elim
    | some l =>
      rw [hd] at p
      simp only at p
      by_cases ho : okSet l = true
      · rw [if_pos ho] at p
        have ho' := ho
        unfold okSet at ho'
        rw [Bool.and_eq_true, decide_eq_true_iff] at ho'
        obtain ⟨hi, hl⟩ := ho'
        obtain ⟨P, xs, rfl, hs, ry⟩ := rep_items o rx hd
        have e := isInts hi
        have ry' := ry
        rw [e] at ry'
        have ex := ry'.ints
        obtain ⟨ns, e2, pw, mm⟩ := uniq_isort hi
        rw [e2] at p
        refine .inl ⟨P, l.map D.iv, rfl, by rw [← ex]; exact hs, by rw [List.length_map]; unfold scanBound; omega, fun A n hA hn => .inl ?_⟩
        refine ⟨A, _, n, rfl, upd_same, by rw [List.length_map] at hn; omega, fun ns' B hp hmm hlen hB => ?_⟩
        have e3 : ns' = ns := lt_uniq hp pw fun z => by rw [hmm z, mm z, decide_eq_true_iff]
        subst e3
        exact Post.newL (p.step (Step.cell hA)) (o.cell hA) hB RepAll.ofInts
      · rw [if_neg ho] at p
        cases hk : tupsI l with
        | none => rw [hk] at p; exact p.elim
        | some ks =>
          rw [hk] at p
          simp only at p
          by_cases hl : ks.length < 64
          · rw [if_pos hl] at p
            obtain ⟨P, xs, rfl, hs, ry⟩ := rep_items o rx hd
            obtain ⟨L, rfl, rfl, hL⟩ := rep_tupsI o ry hk
            have hl2 : L.length < 64 := by rw [List.length_map] at hl; exact hl
            refine .inr ⟨P, L, rfl, hs, hL, hl2, fun A L' hA h1 h2 nd => .inr ?_⟩
            have hsT : ∀ z ∈ L', SqT X.K (upd H1 A (SetTO X.prog X.w A L')) z.1 (z.2.map V.int) := fun z hz => sqT_mono (fun c u hc => by
              have hne : c ≠ A := fun e => by rw [e, hA] at hc; cases hc
              rw [upd_ne hne]; exact hc) (hL z (h1 z hz))
            have dep : ∀ k : List Int, (tupD k).toP.depth ≤ 63 := fun k => (D.fine_lay (tupD k) 63 (tupD_fine 62 k)).2
            refine ⟨A, L'.map fun z => (V.ref z.1, (tupD z.2).toP), rfl, .inr ⟨L', upd_same, hsT, by rw [List.map_map]; rfl⟩, fun z hz => ?_, fun z hz z2 hz2 => ?_, fun zs B pm pw hB => ?_⟩
            · obtain ⟨y, hy, rfl⟩ := List.mem_map.mp hz
              refine ⟨?_, dep y.2, (cmp_alike 63 _ _ (tupD_cmp 62 y.2 y.2)).2.1⟩
              show Dp X.K _ (V.ref y.1) (D.tup (y.2.map D.int)).toP
              have e5 : ∀ k : List Int, D.toPs (k.map D.int) = k.map PyData.int := fun k => by
                induction k with
                | nil => rfl
                | cons x r ih => rw [List.map_cons]; unfold D.toPs; rw [ih]; unfold D.toP; rfl
              unfold D.toP
              rw [e5]
              exact .tup (hsT y hy) (dp_ints y.2)
            · obtain ⟨y, hy, rfl⟩ := List.mem_map.mp hz
              obtain ⟨y2, hy2, rfl⟩ := List.mem_map.mp hz2
              exact (cmp_alike 63 _ _ (tupD_cmp 62 y.2 y2.2)).1
            · -- the rows, as data
              have e0 : ∀ M : List (Addr × List Int), W.EachIs (fun (y : Addr × List Int) (z : V × PyData) => z = (V.ref y.1, (tupD y.2).toP)) M (M.map fun z => (V.ref z.1, (tupD z.2).toP)) := fun M => by
                induction M with
                | nil => exact .nil
                | cons y r ih => exact .cons rfl ih
              obtain ⟨L2, pL, e2⟩ := each_perm pm.symm (e0 L')
              have ez : zs.map (·.1) = L2.map fun y => V.ref y.1 := by
                have : ∀ {M : List (Addr × List Int)} {zz : List (V × PyData)}, W.EachIs (fun (y : Addr × List Int) (z : V × PyData) => z = (V.ref y.1, (tupD y.2).toP)) M zz → zz.map (·.1) = M.map fun y => V.ref y.1 := by
                  intro M zz h
                  induction h with
                  | nil => rfl
                  | cons r _ ih => rw [List.map_cons, List.map_cons, ih, r]
                exact this e2
              have pw2 : (L2.map fun y => tupD y.2).Pairwise leD := by
                refine List.pairwise_map.mpr (each_pw (R := fun (y : Addr × List Int) (z : V × PyData) => z = (V.ref y.1, (tupD y.2).toP)) (fun x y a b rx ry h => ?_) e2 pw)
                show (tupD y.2).ltb (tupD x.2) = false
                rw [ltb_data (tupD_cmp 62 y.2 x.2)]
                rw [rx, ry] at h
                exact h
              have nd2 : (L2.map fun y => tupD y.2).Nodup := by
                have n1 : (L2.map (·.2)).Nodup := (pL.map (·.2)).nodup_iff.mpr nd
                have : L2.map (fun y => tupD y.2) = (L2.map (·.2)).map tupD := by rw [List.map_map]; rfl
                rw [this]
                exact List.Pairwise.map _ (fun x y hne e => hne (tupD_inj e)) n1
              have el := tupsI_eq hk
              have cl : CmpL 63 l := by rw [el]; exact tups_cmp 62 _
              have cs : CmpL 63 (isort l) := cl.sub fun z hz => (isort_perm l).mem_iff.mp hz
              obtain ⟨u1, u2⟩ := uniq_pw cs (isort_pw cl)
              have e3 : (L2.map fun y => tupD y.2) = uniq (isort l) := by
                refine nodup_uniq_eq (n := 63) (fun a ha b hb => ?_) nd2 u2 pw2 u1 fun z => ?_
                · obtain ⟨y, _, rfl⟩ := List.mem_map.mp ha
                  obtain ⟨y2, _, rfl⟩ := List.mem_map.mp hb
                  exact tupD_cmp 62 _ _
                · rw [mem_uniq cs, (isort_perm l).mem_iff, el, List.mem_map, List.mem_map]
                  constructor
                  · rintro ⟨y, hy, rfl⟩
                    exact ⟨y.2, List.mem_map.mpr ⟨y, h1 y (pL.mem_iff.mp hy), rfl⟩, rfl⟩
                  · rintro ⟨k, hk2, rfl⟩
                    obtain ⟨y, hy, rfl⟩ := List.mem_map.mp hk2
                    obtain ⟨y', hy', e'⟩ := List.mem_map.mp (h2 y hy)
                    exact ⟨y', pL.mem_iff.mpr hy', by rw [e']⟩
              rw [ez]
              have ok2 : OkW X.K w (upd H1 A (SetTO X.prog X.w A L')) := o.cell hA
              -- each stands for its tuple
              have toB : ∀ k : List Int, RepAll X.K w (k.map V.int) (k.map D.int) := fun _ => RepAll.ofInts
              have rr : RepAll X.K w (L2.map fun y => V.ref y.1) (L2.map fun y => tupD y.2) := by
                have src : ∀ y ∈ L, Rep X.K w (V.ref y.1) (tupD y.2) := by
                  have each : ∀ {M : List (Addr × List Int)}, RepAll X.K w (M.map fun p => V.ref p.1) ((M.map (·.2)).map tupD) → ∀ y ∈ M, Rep X.K w (V.ref y.1) (tupD y.2) := by
                    intro M
                    induction M with
                    | nil => intro _ y hy; cases hy
                    | cons z r ih =>
                      intro h y hy
                      rw [List.map_cons, List.map_cons, List.map_cons] at h
                      cases h with
                      | cons h1 h2 =>
                        rcases List.mem_cons.mp hy with rfl | hy
                        · exact h1
                        · exact ih h2 y hy
                  rw [el] at ry
                  exact each ry
                have : ∀ M : List (Addr × List Int), (∀ y ∈ M, y ∈ L) → RepAll X.K w (M.map fun y => V.ref y.1) (M.map fun y => tupD y.2) := by
                  intro M
                  induction M with
                  | nil => intro _; exact .nil
                  | cons y r ih => intro h; exact .cons (src y (h y List.mem_cons_self)) (ih fun z hz => h z (List.mem_cons_of_mem _ hz))
                exact this L2 fun y hy => h1 y (pL.mem_iff.mp hy)
              rw [e3] at rr
              exact Post.newL (p.step (Step.cell hA)) ok2 hB rr
          · rw [if_neg hl] at p; exact p.elim
end
end DL

/-! DL23: try, except as; isinstance of what is caught; defs called with it. -/
namespace DL
open PySem PySem.Spec PyProof.Rows L2

/-! ### data without exceptions -/
mutual
def D.noexc : D → Bool
  | .tup l => noexcAll l
  | .lst l => noexcAll l
  | .exc _ => false
  | .dic _ => false
  | _ => true
def noexcAll : List D → Bool
  | [] => true
  | d :: r => d.noexc && noexcAll r
end
def Store.noexc (S : Store) : Bool := S.all fun c => noexcAll (c.fs.map (·.2))
/-- the same world, without what was caught -/
def Wd.exs0 (w : Wd) (l : List (Addr × Str)) : Wd := { w with exs := l }
mutual
theorem Rep.exs0 {K : PySem.W.Frag} {w : Wd} {es : List (Addr × Str)} : ∀ {v : V} {d : D}, Rep K w v d → d.noexc = true → Rep K (w.exs0 es) v d
  | _, _, .non, _ => .non
  | _, _, .bl b, _ => .bl b
  | _, _, .int i, _ => .int i
  | _, _, .str x, _ => .str x
  | _, _, .lst h r, hn => .lst h (RepAll.exs0 r (by unfold D.noexc at hn; exact hn))
  | _, _, .tup h r, hn => .tup h (RepAll.exs0 r (by unfold D.noexc at hn; exact hn))
  | _, _, .obj h, _ => .obj h
  | _, _, .exc h, hn => by unfold D.noexc at hn; cases hn
  | _, _, .scr h, _ => .scr h
theorem RepAll.exs0 {K : PySem.W.Frag} {w : Wd} {es : List (Addr × Str)} : ∀ {vs : List V} {ds : List D}, RepAll K w vs ds → noexcAll ds = true → RepAll K (w.exs0 es) vs ds
  | _, _, .nil, _ => .nil
  | _, _, .cons r rs, hn => by
    unfold noexcAll at hn
    rw [Bool.and_eq_true] at hn
    exact .cons (Rep.exs0 r hn.1) (RepAll.exs0 rs hn.2)
end
theorem OkW.exs0 {K : PySem.W.Frag} {w : Wd} {H : Hp} {es : List (Addr × Str)} (o : OkW K w H) (hn : w.S.noexc = true) : OkW K (w.exs0 es) H where
  sub := o.sub
  len := o.len
  obj := fun n p c h1 h2 => by
    obtain ⟨vs, e1, r, l, b⟩ := o.obj n p c h1 h2
    refine ⟨vs, e1, ⟨r.1, r.2.exs0 ?_⟩, l, b⟩
    exact List.all_eq_true.mp hn c (List.mem_of_getElem? h2)
  inj := o.inj

/-! ### try -/
def askT (tbl : List (Str × Bool)) (c : Str) : Option Bool := tbl.lookup c
def exEn (n i : Nat) (c : Str) : En := (List.replicate n none).set i (some (.exc c))
def tryF (i : Nat) (tbl : List (Str × Bool)) (F G : En → M Fl) : En → M Fl := fun ρ S => match F ρ S with
  | .ok fl S' => .ok fl S'
  | .ex c S' => match askT tbl c with
    | none => .bad
    | some false => .ex c S'
    | some true => match G (exEn ρ.length i c) S' with
      | .ok (.rt d) S2 => if d.noexc && S2.noexc then .ok (.rt d) S2 else .bad
      | _ => .bad
  | .bad => .bad
def plainW (n : Nat) (W : WX) : WX := fun c d _ H => ∀ σ2 : L2.St, σ2.length = n → W c d σ2 H
def mTry (n : Nat) (W : WX) : Mo := ⟨plainW n W, [], []⟩
theorem mTry_pl {n : Nat} {W : WX} : (mTry n W).Plain := fun _ _ _ _ h => h
def mHot (a : Addr) (c : Str) : Mo := ⟨fun _ _ _ _ => False, [], [(a, c)]⟩
theorem mHot_pl {a : Addr} {c : Str} : (mHot a c).Plain := fun _ _ _ _ h => h.elim
theorem mTry_tk {X : Cx} {W : WX} (tk : L2N.Takes X W) : L2N.Takes X (mTry X.N.length W).wx := fun u s' ⟨a, B, sI, pins, σ, H, cls, d, e, I, nb, up, sky, na, os, ag, w⟩ =>
  tk u s' ⟨a, B, sI, pins, σ, H, cls, d, e, I, nb, up, sky, na, os, ag, w σ I.len⟩
section
variable {X : Cx} {w0 w : Wd} {H0 H : Hp} {σ : L2.St} {ρ : En} {m : Mo}
theorem SOk.tr {Y : Cx} (hK : Y.K = X.K) (hx : m.xs = []) (s : SOk X m w0 H0 w H σ ρ) : SOk Y m w0 H0 w H σ ρ where
  st := s.st
  ok := by rw [hK]; exact s.ok
  env := by rw [hK]; exact s.env
  own := by rw [hK]; exact s.own
  dis := s.dis
  xg := ⟨s.xg.1, fun p hp => by rw [hx] at hp; cases hp⟩
  len := s.len
theorem SOk.mo {m' : Mo} (hx : m.xs = []) (hx' : m'.xs = []) (ho : m'.own = m.own) (s : SOk X m w0 H0 w H σ ρ) : SOk X m' w0 H0 w H σ ρ where
  st := s.st
  ok := s.ok
  env := by rw [ho]; exact s.env
  own := by rw [ho]; exact s.own
  dis := by rw [ho]; exact s.dis
  xg := ⟨by rw [hx', ← hx]; exact s.xg.1, fun p hp => by rw [hx'] at hp; cases hp⟩
  len := s.len
/-- what the suite starts with -/
def tsE (K : PySem.W.Frag) (n i : Nat) (G : En → M Fl) : Addr → Value → Option Addr → TS := fun a cls d Dn σ H => ∃ c w, cls = .ref (He.ga K c) ∧ d = none ∧ OkW K w H ∧ w.exs = [(a, c)] ∧ σ.length = n ∧ σ[i]? = some (some (.ref a)) ∧
  (match G (exEn n i c) w.S with
    | .ok (.rt dd) S' => ∀ v H' w', Step w H w' H' → OkW K w' H' → w'.S = S' → Rep K w' v dd → Dn.rt v H'
    | _ => False)
theorem exEn_get {n i j : Nat} {c : Str} {d : D} (h : (exEn n i c)[j]? = some (some d)) : j = i ∧ d = .exc c := by
  unfold exEn at h
  rw [List.getElem?_set] at h
  split at h
  · rename_i e
    split at h
    · cases h; exact ⟨e.symm, rfl⟩
    · cases h
  · rw [List.getElem?_replicate] at h
    split at h <;> cases h
theorem ds_try {x nm : Str} {cv : Value} {i : Nat} {body suite : List Stmt} {b₀ : Stmt} {np pos pos' : Pos} {F G : En → M Fl} {tbl : List (Str × Bool)} (ho : m.own = []) (hx : m.xs = []) (hs : X.stack = X.env :: X.outer) (hf : X.env.frame = some X.env.locals) (hN : X.N.Nodup) (hi : X.N[i]? = some nm) (hln : X.env.kindOf nm = some .local) (hc : Names X x cv) (tk : L2N.Takes X m.wx)
    (hT : ∀ c b, askT tbl c = some b → PySem.W.exmOne X.K (.ref (He.ga X.K c)) cv = some b)
    (hb : ∀ (W : WX) (pn : List (Addr × Obj)) (xe : Value → Shared → Prop), L2N.Takes (X.tr pn xe) (mTry X.N.length W).wx → PassesOwn (model X.prog X.w) X.A X.env xe → DSs (X.tr pn xe) (mTry X.N.length W) [] body F)
    (hsu : ∀ (a : Addr) (c : Str) (oe : Obj) (pn : List (Addr × Obj)), L2N.Zn (.ref (He.ga X.K c)) none oe → (∃ vs, oe.data = .fields vs) → DSs (X.suite a ((a, oe) :: pn)) (mHot a c) [] (b₀ :: suite) G) :
    DS X m [] (.Try body [.ExceptHandler (some (.Name x np)) (some nm) (b₀ :: suite) pos'] [] [] pos) (tryF i tbl F G) := by
  have hmo : ∀ {W : WX}, (mTry X.N.length W).own = m.own := fun {W} => ho.symm
  have main := L2N.ps_try_as (pos := pos) (pos' := pos') (np := np) (tb := fun W => tds X (mTry X.N.length W) [] F) (ts := tsE X.K X.N.length i G) (b₀ := b₀) (suite := suite) (body := body) hs hf hN hi hln hc tk (fun W pn xe tkW po => ?_) (fun a oe cls d pn hz hv => ?_)
  refine ⟨fun pins sh σ H Dn I h => main.run pins sh σ H Dn I ?_⟩
  rotate_left 1
  · refine PSs.imp (hb W pn xe (mTry_tk (X := X.tr pn xe) tkW) po) fun D2 σ H h => ?_
    obtain ⟨w0, H0, w, ρ, s, p⟩ := h
    refine ⟨w0, H0, w, ρ, s.tr (X := X) (Y := X.tr pn xe) rfl rfl, ?_⟩
    cases q : F ρ w.S with
    | ok fl S' =>
      rw [q] at p
      cases fl with
      | nx ρ' => exact fun σ' H' w' s' l e => p σ' H' w' (s'.tr (X := X.tr pn xe) (Y := X) rfl rfl) l e
      | rt d => exact p
    | ex c S' => rw [q] at p; exact p
    | bad => rw [q] at p; exact p
  · refine ⟨fun pins s σ H D2 I h => ?_⟩
    obtain ⟨c, w, e1, e2, o, hx2, hl, hσ, p⟩ := h
    subst e1 e2
    refine (hsu a c oe pn hz hv).run pins s σ H D2 I ⟨w, H, w, exEn X.N.length i c, ?_, ?_⟩
    · have hlen : (exEn X.N.length i c).length = X.N.length := by unfold exEn; simp
      refine ⟨Step.refl _ _, o, ⟨by rw [hl, hlen], fun j d _ h => ?_⟩, fun j hj => (List.not_mem_nil (show j ∈ ([] : List Nat) from hj)).elim, fun j hj => (List.not_mem_nil (show j ∈ ([] : List Nat) from hj)).elim, ⟨hx2, fun p hp => ?_⟩, by rw [hl, hlen]⟩
      · obtain ⟨rfl, rfl⟩ := exEn_get h
        exact ⟨_, hσ, .exc (by rw [hx2]; exact List.mem_cons_self)⟩
      · have : p = (a, c) := by
          have hp' : p ∈ [(a, c)] := hp
          exact List.mem_singleton.mp hp'
        subst this
        obtain ⟨vs, hv⟩ := hv
        exact ⟨oe, vs, List.mem_cons_self, hz, hv⟩
    · cases q : G (exEn X.N.length i c) w.S with
      | ok fl S' =>
        rw [q] at p
        cases fl with
        | nx ρ' => exact p.elim
        | rt d => exact p
      | ex c S' => rw [q] at p; exact p.elim
      | bad => rw [q] at p; exact p.elim
  · obtain ⟨w0, H0, w, ρ, s, p⟩ := h
    refine ⟨w0, H0, w, ρ, s.mo hx rfl hmo, ?_⟩
    have hxs : w.exs = [] := s.xg.1.trans hx
    have hρ : ρ.length = X.N.length := by rw [← s.len]; exact I.len
    unfold tryF at p
    cases q : F ρ w.S with
    | ok fl S' =>
      simp only [q] at p
      cases fl with
      | nx ρ' => exact fun σ' H' w' s' l e => p σ' H' w' (SOk.mo (m := (mTry X.N.length (wAs X.K cv i (tsE X.K X.N.length i G) m.wx Dn)).to []) (m' := m.to []) rfl hx rfl s') l e
      | rt d => exact p
    | ex c S' =>
      simp only [q] at p
      intro H' w' st ok es σ'
      refine fun (σ2 : L2.St) (hl2 : σ2.length = X.N.length) => (?_ : wAs X.K cv i (tsE X.K X.N.length i G) m.wx Dn (.ref (He.ga X.K c)) none σ2 H')
      cases q2 : askT tbl c with
      | none => simp only [q2] at p; exact p.elim
      | some b =>
        simp only [q2] at p
        refine ⟨b, hT c b q2, fun hbt a na => ?_, fun hbf => ?_⟩
        · subst hbt
          have hw : w'.exs = [] := st.e.trans (s.st.e.symm.trans hxs)
          have hi2 : i < σ2.length := by
            rw [hl2]
            exact (List.getElem?_eq_some_iff.mp hi).1
          rw [hρ] at p
          have le1 : Le w' (w'.exs0 [(a, c)]) := ⟨fun _ _ h => h, ⟨[], (List.append_nil _).symm⟩, fun p hp => by rw [hw] at hp; cases hp⟩
          refine ⟨c, w'.exs0 [(a, c)], rfl, rfl, ⟨ok.sub, ok.len, fun n p c h1 h2 => ?_, ok.inj⟩, rfl, by rw [List.length_set]; exact hl2, by rw [List.getElem?_set_self hi2], ?_⟩
          · obtain ⟨vs, e1, r, l, b⟩ := ok.obj n p c h1 h2
            exact ⟨vs, e1, r.mono le1, l, b⟩
          · have es' : (w'.exs0 [(a, c)]).S = S' := es
            rw [es']
            cases q3 : G (exEn X.N.length i c) S' with
            | ok fl S2 =>
              simp only [q3] at p
              cases fl with
              | nx ρ' => exact p.elim
              | rt d =>
                simp only at p
                by_cases hn : (d.noexc && S2.noexc) = true
                · rw [if_pos hn] at p
                  rw [Bool.and_eq_true] at hn
                  intro v H3 w3 st3 ok3 es3 rv
                  refine p v H3 (w3.exs0 []) (st.trans ⟨st3.b, st3.ad, st3.h, st3.i, st3.f, hw.symm⟩) (ok3.exs0 (by rw [es3]; exact hn.2)) es3 (rv.exs0 hn.1)
                · rw [if_neg hn] at p; exact p.elim
            | ex c2 S2 => simp only [q3] at p; exact p.elim
            | bad => simp only [q3] at p; exact p.elim
        · subst hbf
          exact p H' w' st ok es σ2
    | bad => simp only [q] at p; exact p.elim
end
end DL

/-! DM1: mathematics of the mirrors: unfolding, loops, comprehensions. -/
namespace DL
open PySem PySem.Spec PyProof.Rows L2

section
variable {α β γ σ : Type}
theorem pure_eq (a : α) (S : Store) : (pure a : M α) S = .ok a S := rfl
@[simp] theorem nox_pure (a : α) : nox (pure a : M α) = pure a := rfl
@[simp] theorem sq_ap (F G : En → M Fl) (ρ : En) : sq F G ρ = (F ρ >>= fun fl => match fl with
  | .nx ρ' => G ρ'
  | .rt d => pure (.rt d)) := rfl
@[simp] theorem retF_ap (f : En → M D) (ρ : En) : retF f ρ = (f ρ >>= fun d => pure (.rt d)) := rfl
@[simp] theorem expF_ap (f : En → M D) (ρ : En) : expF f ρ = (f ρ >>= fun _ => pure (.nx ρ)) := rfl
@[simp] theorem setF_ap (i : Nat) (f : En → M D) (ρ : En) : setF i f ρ = (f ρ >>= fun d => pure (.nx (ρ.set i (some d)))) := rfl
@[simp] theorem setOF_ap (i : Nat) (f : En → M (List D)) (ρ : En) : setOF i f ρ = (f ρ >>= fun ds => pure (.nx (ρ.set i (some (.lst ds))))) := rfl
@[simp] theorem ifF_ap (c : En → M Bool) (F G : En → M Fl) (ρ : En) : ifF c F G ρ = (c ρ >>= fun b => if b then F ρ else G ρ) := rfl
@[simp] theorem skp_ap (ρ : En) : skp ρ = pure (.nx ρ) := rfl
@[simp] theorem cst_ap (d : D) (ρ : En) : cst d ρ = pure d := rfl
@[simp] theorem bin_ap (op : D → D → M D) (f g : En → M D) (ρ : En) : bin op f g ρ = (f ρ >>= fun a => g ρ >>= fun b => op a b) := rfl
@[simp] theorem un_ap (op : D → M D) (f : En → M D) (ρ : En) : un op f ρ = (f ρ >>= op) := rfl
@[simp] theorem nop_ap (op : List D → M D) (f : En → M (List D)) (ρ : En) : nop op f ρ = (f ρ >>= op) := rfl
@[simp] theorem anil_ap (ρ : En) : anil ρ = pure [] := rfl
@[simp] theorem acons_ap (f : En → M D) (g : En → M (List D)) (ρ : En) : acons f g ρ = (f ρ >>= fun a => g ρ >>= fun as => pure (a :: as)) := rfl
@[simp] theorem tst_ap (f : En → M D) (ρ : En) : tst f ρ = (f ρ >>= D.tr) := rfl
@[simp] theorem tr_bl (b : Bool) : D.tr (.bl b) = pure b := rfl
@[simp] theorem nott_ap (f : En → M Bool) (ρ : En) : nott f ρ = (f ρ >>= fun c => pure (!c)) := rfl
@[simp] theorem andt_ap (f g : En → M Bool) (ρ : En) : andt f g ρ = (f ρ >>= fun c => if c then g ρ else pure false) := rfl
@[simp] theorem ort_ap (f g : En → M Bool) (ρ : En) : ort f g ρ = (f ρ >>= fun c => if c then pure true else g ρ) := rfl
@[simp] theorem andv_ap (f g : En → M D) (ρ : En) : andv f g ρ = (f ρ >>= fun a => match a with
  | .bl true => g ρ
  | .bl false => pure (.bl false)
  | _ => M.bad) := rfl
@[simp] theorem orv_ap (f g : En → M D) (ρ : En) : orv f g ρ = (f ρ >>= fun a => match a with
  | .bl false => g ρ
  | .bl true => pure (.bl true)
  | _ => M.bad) := rfl
@[simp] theorem nt_bl (b : Bool) : D.nt (.bl b) = pure (.bl (!b)) := rfl
@[simp] theorem ifx_ap (c : En → M Bool) (f g : En → M D) (ρ : En) : ifx c f g ρ = (c ρ >>= fun b => if b then f ρ else g ρ) := rfl
@[simp] theorem part_ap (f : En → M D) (ρ : En) : part f ρ = (f ρ >>= D.toInt) := rfl
@[simp] theorem toInt_int (i : Int) : D.toInt (.int i) = pure (some i) := rfl
@[simp] theorem nopart_ap (ρ : En) : nopart ρ = pure none := rfl
@[simp] theorem slc_ap (f : En → M D) (l u : En → M (Option Int)) (ρ : En) : slc f l u ρ = (f ρ >>= fun a => l ρ >>= fun lo => u ρ >>= fun hi => D.slice lo hi a) := rfl
@[simp] theorem slc3_ap (f : En → M D) (l u k : En → M (Option Int)) (ρ : En) : slc3 f l u k ρ = (f ρ >>= fun a => l ρ >>= fun lo => u ρ >>= fun hi => k ρ >>= fun st => D.slice3 lo hi st a) := rfl
@[simp] theorem itr_ap {α : Type} (k : α → M (List D)) (f : En → M α) (ρ : En) : itr k f ρ = (f ρ >>= k) := rfl
@[simp] theorem lstF_ap (fs : En → M (List D)) (ρ : En) : lstF fs ρ = (fs ρ >>= fun ds => pure (.lst ds)) := rfl
@[simp] theorem lim_ap (f : En → M (List D)) (ρ : En) : lim f ρ = (f ρ >>= fun as => if as.length ≤ LIM then pure as else M.bad) := rfl
@[simp] theorem one_ap (op : D → M D) (a : D) : one op [a] = op a := rfl
@[simp] theorem two_ap (op : D → D → M D) (a b : D) : two op [a, b] = op a b := rfl
@[simp] theorem on1_ap (k : D → M α) (a : D) : on1 k [a] = k a := rfl
@[simp] theorem on2_ap (k : D → D → M α) (a b : D) : on2 k [a, b] = k a b := rfl
@[simp] theorem tgN_ap (i : Nat) (ρ : En) (d : D) : tgN i ρ d = some (ρ.set i (some d)) := rfl
@[simp] theorem tgT_ap (is : List Nat) (ρ : En) (ds : List D) : tgT is ρ (.tup ds) = setAll is ds ρ := rfl
@[simp] theorem setAll_nil (ρ : En) : setAll [] [] ρ = some ρ := rfl
@[simp] theorem setAll_cons (i : Nat) (is : List Nat) (d : D) (ds : List D) (ρ : En) : setAll (i :: is) (d :: ds) ρ = setAll is ds (ρ.set i (some d)) := rfl
@[simp] theorem isiN_ap (T : String) (f : En → M D) (ρ : En) : isiN T f ρ = (f ρ >>= D.isi T) := rfl
@[simp] theorem compF_ap (it : En → M (List D)) (τ : En → D → Option En) (vs : List Nat) (c : En → M Bool) (e : En → M D) (ρ : En) : compF it τ vs c e ρ = (it ρ >>= fun ds => if ds.length ≤ LIM then compL τ c e (wipeD ρ vs) ds else M.bad) := rfl
@[simp] theorem forF_ap (it : En → M (List D)) (τ : En → D → Option En) (b : En → M Fl) (ρ : En) : forF it τ b ρ = (it ρ >>= fun ds => loopF τ b ds ρ) := rfl
@[simp] theorem wipeD_nil (ρ : En) : wipeD ρ [] = ρ := rfl
@[simp] theorem wipeD_cons (ρ : En) (v : Nat) (vs : List Nat) : wipeD ρ (v :: vs) = (wipeD ρ vs).set v none := rfl
@[simp] theorem always_ap (ρ : En) : always ρ = pure true := rfl
@[simp] theorem setTF_ap (τ : En → D → Option En) (f : En → M D) (ρ : En) : setTF τ f ρ = (f ρ >>= fun d => match τ ρ d with
  | some ρ' => pure (.nx ρ')
  | none => M.bad) := rfl
@[simp] theorem chn_ap (o1 o2 : D → D → M D) (f g h : En → M D) (ρ : En) : chn o1 o2 f g h ρ = (f ρ >>= fun a => g ρ >>= fun b => o1 a b >>= fun r => match r with
  | .bl true => h ρ >>= fun c => o2 b c
  | .bl false => pure (.bl false)
  | _ => M.bad) := rfl
@[simp] theorem mkTup2 {as : List D} (h : as.length ≤ LIM) : mkTup as = pure (.tup as) := if_pos h
@[simp] theorem mkLst2 {as : List D} (h : as.length ≤ LIM) : mkLst as = pure (.lst as) := if_pos h
theorem LIM_val : LIM = 16777216 := rfl
@[simp] theorem lim_nil : ([] : List D).length ≤ LIM := Nat.zero_le _
@[simp] theorem add_int (i j : Int) : D.add (.int i) (.int j) = pure (.int (i + j)) := rfl
@[simp] theorem sub_int (i j : Int) : D.sub (.int i) (.int j) = pure (.int (i - j)) := rfl
@[simp] theorem neg_int (i : Int) : D.neg (.int i) = pure (.int (-i)) := rfl
theorem mul_int {i j : Int} (h : (-(2 ^ 64) < i ∧ i < 2 ^ 64) ∨ (-(2 ^ 64) < j ∧ j < 2 ^ 64)) : D.mul (.int i) (.int j) = pure (.int (i * j)) := gd_pos h
theorem mod_int {i j : Int} (h : 0 < j) : D.mod (.int i) (.int j) = pure (.int (i % j)) := gd_pos h
theorem fdiv_int {i j : Int} (h : 0 < j ∧ j < 1073741824) : D.fdiv (.int i) (.int j) = pure (.int (i / j)) := gd_pos h
@[simp] theorem gt_int (i j : Int) : D.gt (.int i) (.int j) = pure (.bl (decide (j < i))) := rfl
@[simp] theorem ge_int (i j : Int) : D.ge (.int i) (.int j) = pure (.bl (decide (j ≤ i))) := rfl
@[simp] theorem le_int (i j : Int) : D.le (.int i) (.int j) = pure (.bl (decide (i ≤ j))) := rfl
@[simp] theorem lt_int (i j : Int) : D.lt (.int i) (.int j) = pure (.bl (decide (i < j))) := by
  unfold D.lt D.cmpb D.ltb
  rfl
@[simp] theorem len_lst (l : List D) : D.len (.lst l) = pure (.int l.length) := rfl
@[simp] theorem len_tup (l : List D) : D.len (.tup l) = pure (.int l.length) := rfl
@[simp] theorem len_scr (l : List Int) : D.len (.scr l) = pure (.int l.length) := rfl
@[simp] theorem list_lst (l : List D) : D.list (.lst l) = pure (.lst l) := rfl
@[simp] theorem list_tup (l : List D) : D.list (.tup l) = pure (.lst l) := rfl
@[simp] theorem tuple_lst (l : List D) : D.tuple (.lst l) = pure (.tup l) := rfl
@[simp] theorem tuple_tup (l : List D) : D.tuple (.tup l) = pure (.tup l) := rfl
@[simp] theorem items_lst (l : List D) : D.items (.lst l) = pure l := rfl
@[simp] theorem items_tup (l : List D) : D.items (.tup l) = pure l := rfl
@[simp] theorem all_bls (bs : List Bool) : D.all (.lst (bs.map D.bl)) = pure (.bl (bs.all _root_.id)) := by
  unfold D.all
  show opt _ (toBls _) = _
  rw [toBls_map]
  rfl
theorem rng1_ok {n : Int} (h : 0 ≤ n ∧ n < 2 ^ 62) : rng1 (.int n) = pure (rngD 0 n.toNat) := gd_pos ⟨by omega, h.2⟩
theorem rng2_ok {i j : Int} (h : -(2 ^ 62) ≤ i ∧ i < 2 ^ 62 ∧ -(2 ^ 62) ≤ j ∧ j < 2 ^ 62) : rng2 (.int i) (.int j) = pure (rngD i (j - i).toNat) := gd_pos h
theorem appF_ap {i : Nat} {f : En → M D} {ρ : En} {ds : List D} (h : ρ[i]? = some (some (.lst ds))) (hl : ds.length < LIM) : appF i f ρ = (f ρ >>= fun d => pure (.nx (ρ.set i (some (.lst (ds ++ [d])))))) := by
  unfold appF
  rw [h]
  simp only [hl, if_true]

theorem srt_lst {l : List D} (h : okSort l = true) : D.srt (.lst l) = pure (.lst (isort l)) := by
  show (if okSort l then pure (.lst (isort l)) else M.bad : M D) = _
  rw [if_pos h]
theorem srt_tup {l : List D} (h : okSort l = true) : D.srt (.tup l) = pure (.lst (isort l)) := by
  show (if okSort l then pure (.lst (isort l)) else M.bad : M D) = _
  rw [if_pos h]
theorem okSort_ints (l : List Int) : okSort (l.map D.int) = true := okSort_iff.mpr ⟨fun a ha => by
  obtain ⟨i, _, rfl⟩ := List.mem_map.mp ha
  unfold D.fine; rfl, ints_cmp 63 l⟩
/-! ### comprehensions, loops -/
theorem compL_map {τ : En → D → Option En} {c : En → M Bool} {e : En → M D} {ρ : En} (xs : List α) (f g : α → D) (p : α → Bool)
    (h : ∀ x ∈ xs, ∃ ρ1, τ ρ (f x) = some ρ1 ∧ c ρ1 = pure (p x) ∧ (p x = true → e ρ1 = pure (g x))) : compL τ c e ρ (xs.map f) = pure ((xs.filter p).map g) := by
  induction xs with
  | nil => rfl
  | cons x r ih =>
    obtain ⟨ρ1, h1, h2, h3⟩ := h x List.mem_cons_self
    rw [List.map_cons]
    unfold compL
    rw [h1]
    simp only [h2, nox_pure, M.pure_bind]
    rw [ih fun y hy => h y (List.mem_cons_of_mem _ hy)]
    by_cases hp : p x = true
    · rw [if_pos hp, h3 hp, List.filter_cons_of_pos hp, List.map_cons]
      rfl
    · rw [if_neg hp, List.filter_cons_of_neg hp]
theorem compL_all {τ : En → D → Option En} {e : En → M D} {ρ : En} (xs : List α) (f g : α → D)
    (h : ∀ x ∈ xs, ∃ ρ1, τ ρ (f x) = some ρ1 ∧ e ρ1 = pure (g x)) : compL τ always e ρ (xs.map f) = pure (xs.map g) := by
  rw [compL_map xs f g (fun _ => true) fun x hx => by
    obtain ⟨ρ1, h1, h2⟩ := h x hx
    exact ⟨ρ1, h1, rfl, fun _ => h2⟩]
  rw [List.filter_eq_self.mpr fun _ _ => rfl]
/-- how a turn ends -/
inductive Rs (σ : Type) where
  | nx (s : σ)
  | rt (d : D)
  | ex (c : Str)
def Rs.Is (I : σ → En → Prop) (m : M Fl) : Rs σ → Prop
  | .nx s => ∃ ρ, m = pure (.nx ρ) ∧ I s ρ
  | .rt d => m = pure (.rt d)
  | .ex c => m = M.raise c
def foldR (st : σ → α → Rs σ) : σ → List α → Rs σ
  | s, [] => .nx s
  | s, x :: r => match st s x with
    | .nx s' => foldR st s' r
    | .rt d => .rt d
    | .ex c => .ex c
theorem loop_R {τ : En → D → Option En} {body : En → M Fl} (I : σ → En → Prop) (f : α → D) (st : σ → α → Rs σ) : ∀ (xs : List α) (s : σ) (ρ : En), I s ρ →
    (∀ x ∈ xs, ∀ s ρ, I s ρ → ∃ ρ1, τ ρ (f x) = some ρ1 ∧ (st s x).Is I (body ρ1)) → (foldR st s xs).Is I (loopF τ body (xs.map f) ρ)
  | [], s, ρ, hi, h => ⟨ρ, rfl, hi⟩
  | x :: r, s, ρ, hi, h => by
    obtain ⟨ρ1, h1, h2⟩ := h x List.mem_cons_self s ρ hi
    rw [List.map_cons]
    unfold loopF foldR
    rw [h1]
    cases q : st s x with
    | nx s' =>
      rw [q] at h2
      obtain ⟨ρ2, e, hi2⟩ := h2
      simp only [e, M.pure_bind]
      exact loop_R I f st r s' ρ2 hi2 fun y hy => h y (List.mem_cons_of_mem _ hy)
    | rt d =>
      rw [q] at h2
      have e : body ρ1 = pure (.rt d) := h2
      simp only [e, M.pure_bind]
      rfl
    | ex c =>
      rw [q] at h2
      have e : body ρ1 = M.raise c := h2
      simp only [e, M.raise_bind]
      rfl
/-- a loop that goes through -/
theorem loop_go {τ : En → D → Option En} {body : En → M Fl} (I : σ → En → Prop) (f : α → D) (st : σ → α → σ) (xs : List α) (s : σ) (ρ : En) (hi : I s ρ)
    (h : ∀ x ∈ xs, ∀ s ρ, I s ρ → ∃ ρ1 ρ2, τ ρ (f x) = some ρ1 ∧ body ρ1 = pure (.nx ρ2) ∧ I (st s x) ρ2) : ∃ ρ', loopF τ body (xs.map f) ρ = pure (.nx ρ') ∧ I (xs.foldl st s) ρ' := by
  induction xs generalizing s ρ with
  | nil => exact ⟨ρ, rfl, hi⟩
  | cons x r ih =>
    obtain ⟨ρ1, ρ2, h1, h2, h3⟩ := h x List.mem_cons_self s ρ hi
    obtain ⟨ρ', e, k⟩ := ih (st s x) ρ2 h3 fun y hy => h y (List.mem_cons_of_mem _ hy)
    refine ⟨ρ', ?_, k⟩
    rw [List.map_cons]
    unfold loopF
    rw [h1]
    simp only [h2, M.pure_bind]
    exact e
end
end DL

/-! the mirrors, printed by pr.py and ty.py -/
namespace DL
open PySem PySem.Spec PyProof.Rows L2
def FUEL : Nat := 1000
noncomputable def G_is_number : En → M Fl := (retF (andv (isiN "int" (getv 0)) (andv (un D.nt (isiN "bool" (getv 0))) (chn D.le D.le (getv 1) (getv 0) (getv 2)))))
noncomputable def F_is_number : List D → M D := fnF 3 3 G_is_number
noncomputable def G_is_spot : En → M Fl := (sq (ifF (ort (nott (tst (isiN "tuple" (getv 0)))) (tst (bin D.ne (nop (one D.len) (acons (getv 0) anil)) (cst (.int 2))))) (retF (cst (.bl false))) skp) (retF (andv (nop F_is_number (acons (bin D.idx (getv 0) (cst (.int 0))) (acons (cst (.int 0)) (acons (bin D.sub (cst (.int 6)) (cst (.int 1))) anil)))) (nop F_is_number (acons (bin D.idx (getv 0) (cst (.int 1))) (acons (cst (.int 0)) (acons (bin D.sub (cst (.int 6)) (cst (.int 1))) anil)))))))
noncomputable def F_is_spot : List D → M D := fnF 1 1 G_is_spot
noncomputable def G_are_keys_of : En → M Fl := (sq (ifF (ort (nott (tst (isiN "tuple" (getv 1)))) (nott (tst (nop (one D.all) (acons (lstF (compF (itr D.items (getv 1)) (tgN 2) [2] always (nop F_is_number (acons (getv 2) (acons (cst (.int 0)) (acons (bin D.sub (getv 0) (cst (.int 1))) anil)))))) anil))))) (retF (cst (.bl false))) skp) (retF (nop (one D.all) (acons (lstF (compF (itr (on2 D.zip) (acons (getv 1) (acons (slc (getv 1) (part (cst (.int 1))) nopart) anil))) (tgT [2, 3]) [2, 3] always (bin D.lt (getv 2) (getv 3)))) anil))))
noncomputable def F_are_keys_of : List D → M D := fnF 4 2 G_are_keys_of
noncomputable def G_is_square : En → M Fl := (sq (ifF (ort (nott (tst (isiN "tuple" (getv 0)))) (ort (tst (bin D.ne (nop (one D.len) (acons (getv 0) anil)) (cst (.int 2)))) (nott (tst (isiN "tuple" (bin D.idx (getv 0) (cst (.int 0)))))))) (retF (cst (.bl false))) skp) (sq (ifF (ort (nott (tst (chn D.le D.le (cst (.int 1)) (nop (one D.len) (acons (bin D.idx (getv 0) (cst (.int 0))) anil)) (cst (.int 6))))) (nott (tst (nop (one D.all) (acons (lstF (compF (itr D.items (bin D.idx (getv 0) (cst (.int 0)))) (tgN 1) [1] always (nop F_is_spot (acons (getv 1) anil)))) anil))))) (retF (cst (.bl false))) skp) (retF (andv (bin D.eq (un D.lenSet2 (bin D.idx (getv 0) (cst (.int 0)))) (nop (one D.len) (acons (bin D.idx (getv 0) (cst (.int 0))) anil))) (nop F_are_keys_of (acons (nop (one D.len) (acons (bin D.idx (getv 0) (cst (.int 0))) anil)) (acons (bin D.idx (getv 0) (cst (.int 1))) anil)))))))
noncomputable def F_is_square : List D → M D := fnF 2 1 G_is_square
noncomputable def G_need_square : En → M Fl := (ifF (nott (tst (nop F_is_square (acons (getv 0) anil)))) (fun _ => M.raise "NoSquare") skp)
noncomputable def F_need_square : List D → M D := fnF 1 1 G_need_square
noncomputable def G_need_keys : En → M Fl := (ifF (nott (tst (nop F_are_keys_of (acons (nop (one D.len) (acons (bin D.idx (getv 0) (cst (.int 0))) anil)) (acons (getv 1) anil))))) (fun _ => M.raise "NoKeys") skp)
noncomputable def F_need_keys : List D → M D := fnF 2 2 G_need_keys
noncomputable def G_wires_of : En → M Fl := (retF (nop mkTup (acons (un D.srtSet (lstF (compF (itr D.items (getv 0)) (tgT [1, 2]) [1, 2] always (getv 1)))) (acons (un D.srtSet (lstF (compF (itr D.items (getv 0)) (tgT [1, 2]) [1, 2] always (getv 2)))) anil))))
noncomputable def F_wires_of : List D → M D := fnF 3 1 G_wires_of
noncomputable def G_wires : En → M Fl := (sq (expF (nop F_need_square (acons (getv 0) anil))) (sq (setTF (tgT [1, 2]) (nop F_wires_of (acons (bin D.idx (getv 0) (cst (.int 0))) anil))) (retF (bin D.add (nop (one D.len) (acons (getv 1) anil)) (nop (one D.len) (acons (getv 2) anil))))))
noncomputable def F_wires : List D → M D := fnF 3 1 G_wires
noncomputable def G_tight : En → M Fl := (sq (expF (nop F_need_square (acons (getv 0) anil))) (sq (setTF (tgT [1, 2]) (nop F_wires_of (acons (bin D.idx (getv 0) (cst (.int 0))) anil))) (retF (nop mkTup (acons (nop (one D.tuple) (acons (lstF (compF (itr D.items (bin D.idx (getv 0) (cst (.int 0)))) (tgT [3, 4]) [3, 4] always (nop mkTup (acons (idxF (getv 1) (getv 3)) (acons (idxF (getv 2) (getv 4)) anil))))) anil)) (acons (bin D.idx (getv 0) (cst (.int 1))) anil))))))
noncomputable def F_tight : List D → M D := fnF 5 1 G_tight
noncomputable def G_turned : En → M Fl := (sq (expF (nop F_need_square (acons (getv 0) anil))) (retF (nop mkTup (acons (nop (one D.tuple) (acons (lstF (compF (itr D.items (bin D.idx (getv 0) (cst (.int 0)))) (tgT [1, 2]) [1, 2] always (nop mkTup (acons (getv 2) (acons (getv 1) anil))))) anil)) (acons (bin D.idx (getv 0) (cst (.int 1))) anil)))))
noncomputable def F_turned : List D → M D := fnF 3 1 G_turned
noncomputable def G_with_diodes : En → M Fl := (sq (expF (nop F_need_square (acons (getv 0) anil))) (sq (expF (nop F_need_keys (acons (getv 0) (acons (getv 1) anil)))) (retF (nop mkTup (acons (bin D.idx (getv 0) (cst (.int 0))) (acons (getv 1) anil))))))
noncomputable def F_with_diodes : List D → M D := fnF 2 2 G_with_diodes
noncomputable def G__law_cell : En → M Fl := (sq (ifF (tst (bin D.eq (getv 0) (nop mkLst anil))) (retF (bin D.mul (cst (.int 7)) (getv 1))) skp) (retF (bin D.add (bin D.idx (getv 0) (bin D.mod (getv 1) (nop (one D.len) (acons (getv 0) anil)))) (bin D.mul (cst (.int 6553)) (bin D.fdiv (getv 1) (nop (one D.len) (acons (getv 0) anil)))))))
noncomputable def F__law_cell : List D → M D := fnF 2 2 G__law_cell
noncomputable def G__law_drawn : En → M Fl := (sq (setF 3 (bin D.mod (bin D.add (bin D.mul (bin D.mod (nop F__law_cell (acons (getv 0) (acons (getv 1) anil))) (cst (.int 2147483563))) (cst (.int 69069))) (bin D.mul (cst (.int 104723)) (bin D.add (getv 1) (cst (.int 1))))) (cst (.int 2147483563)))) (sq (setF 3 (bin D.mod (bin D.add (bin D.mul (getv 3) (getv 3)) (bin D.fdiv (getv 3) (cst (.int 3)))) (cst (.int 2147483399)))) (retF (bin D.mod (bin D.fdiv (bin D.mod (bin D.add (bin D.mul (getv 3) (getv 3)) (bin D.fdiv (getv 3) (cst (.int 7)))) (cst (.int 2147483647))) (cst (.int 11))) (getv 2)))))
noncomputable def F__law_drawn : List D → M D := fnF 4 3 G__law_drawn
noncomputable def G__law_square_7 : En → M Fl := (retF (nop mkTup (acons (nop (one D.tuple) (acons (getv 6) anil)) (acons (nop (one D.tuple) (acons (getv 9) anil)) anil))))
noncomputable def G__law_square_6 : En → M Fl := (sq (setF 9 (lstF (compF (itr (on1 rng1) (acons (nop (one D.len) (acons (getv 6) anil)) anil)) (tgN 12) [12] (tst (bin D.eq (nop F__law_drawn (acons (getv 0) (acons (bin D.add (bin D.add (getv 1) (cst (.int 61))) (getv 12)) (acons (getv 8) anil)))) (cst (.int 0)))) (getv 12)))) G__law_square_7)
noncomputable def G__law_square_5 : En → M Fl := (sq (setF 8 (bin D.idx (nop mkLst (acons (cst (.int 2)) (acons (cst (.int 4)) (acons (cst (.int 9)) anil)))) (nop F__law_drawn (acons (getv 0) (acons (bin D.add (getv 1) (cst (.int 60))) (acons (cst (.int 3)) anil)))))) G__law_square_6)
noncomputable def G__law_square_L1_2 : En → M Fl := (setF 6 (bin D.add (getv 6) (bin D.mul (nop mkLst (acons (getv 11) anil)) (nop (one D.toI) (acons (andv (bin D.nin (getv 11) (getv 6)) (bin D.lt (nop (one D.len) (acons (getv 6) anil)) (getv 3))) anil)))))
noncomputable def G__law_square_L1_1 : En → M Fl := (sq (setF 11 (nop mkTup (acons (bin D.add (getv 5) (nop F__law_drawn (acons (getv 0) (acons (getv 10) (acons (getv 4) anil))))) (acons (bin D.sub (bin D.add (nop F__law_drawn (acons (getv 0) (acons (bin D.add (getv 10) (cst (.int 1))) (acons (getv 4) anil)))) (cst (.int 2))) (getv 5)) anil)))) G__law_square_L1_2)
noncomputable def G__law_square_L1 : En → M Fl := (sq (setF 10 (bin D.add (bin D.add (getv 1) (cst (.int 3))) (bin D.mul (cst (.int 2)) (getv 7)))) G__law_square_L1_1)
noncomputable def G__law_square_4 : En → M Fl := (sq (forF (itr (on1 rng1) (acons (bin D.mul (cst (.int 4)) (getv 3)) anil)) (tgN 7) G__law_square_L1) G__law_square_5)
noncomputable def G__law_square_3 : En → M Fl := (sq (setF 6 (lstF (lim anil))) G__law_square_4)
noncomputable def G__law_square_2 : En → M Fl := (sq (setF 5 (nop F__law_drawn (acons (getv 0) (acons (bin D.add (getv 1) (cst (.int 2))) (acons (cst (.int 3)) anil))))) G__law_square_3)
noncomputable def G__law_square_1 : En → M Fl := (sq (setF 4 (bin D.add (cst (.int 2)) (nop F__law_drawn (acons (getv 0) (acons (bin D.add (getv 1) (cst (.int 1))) (acons (cst (.int 2)) anil)))))) G__law_square_2)
noncomputable def G__law_square : En → M Fl := (sq (setF 3 (bin D.add (cst (.int 1)) (nop F__law_drawn (acons (getv 0) (acons (getv 1) (acons (getv 2) anil)))))) G__law_square_1)
noncomputable def F__law_square : List D → M D := fnF 13 3 G__law_square
noncomputable def G__law_set : En → M Fl := (retF (nop (one D.tuple) (acons (lstF (compF (itr (on1 rng1) (acons (getv 2) anil)) (tgN 3) [3] (tst (bin D.gt (nop F__law_drawn (acons (getv 0) (acons (bin D.add (getv 1) (getv 3)) (acons (cst (.int 3)) anil)))) (cst (.int 0)))) (getv 3))) anil)))
noncomputable def F__law_set : List D → M D := fnF 4 3 G__law_set
noncomputable def G__law_wish_1 : En → M Fl := (retF (nop (one D.tuple) (acons (un D.srtSet (getv 4)) anil)))
noncomputable def G__law_wish : En → M Fl := (sq (setF 4 (lstF (compF (itr (on1 rng1) (acons (nop F__law_drawn (acons (getv 0) (acons (getv 1) (acons (bin D.add (getv 3) (cst (.int 1))) anil)))) anil)) (tgN 5) [5] always (nop F__law_set (acons (getv 0) (acons (bin D.add (bin D.add (getv 1) (cst (.int 1))) (bin D.mul (cst (.int 7)) (getv 5))) (acons (getv 2) anil))))))) G__law_wish_1)
noncomputable def F__law_wish : List D → M D := fnF 6 4 G__law_wish
noncomputable def G__law_are_keys_k01_2 : En → M Fl := (retF (bin D.eq (nop (one D.list) (acons (getv 1) anil)) (un D.srtSet (getv 1))))
noncomputable def G__law_are_keys_k01_L1 : En → M Fl := (ifF (ort (tst (isiN "bool" (getv 2))) (ort (nott (tst (isiN "int" (getv 2)))) (nott (tst (chn D.le D.lt (cst (.int 0)) (getv 2) (getv 0)))))) (retF (cst (.bl false))) skp)
noncomputable def G__law_are_keys_k01_1 : En → M Fl := (sq (forF (itr D.items (getv 1)) (tgN 2) G__law_are_keys_k01_L1) G__law_are_keys_k01_2)
noncomputable def G__law_are_keys_k01 : En → M Fl := (sq (ifF (nott (tst (isiN "tuple" (getv 1)))) (retF (cst (.bl false))) skp) G__law_are_keys_k01_1)
noncomputable def F__law_are_keys_k01 : List D → M D := fnF 3 2 G__law_are_keys_k01
noncomputable def G__law_is_square_k01_3 : En → M Fl := (retF (andv (bin D.eq (un D.lenSet2 (bin D.idx (getv 0) (cst (.int 0)))) (nop (one D.len) (acons (bin D.idx (getv 0) (cst (.int 0))) anil))) (nop F__law_are_keys_k01 (acons (nop (one D.len) (acons (bin D.idx (getv 0) (cst (.int 0))) anil)) (acons (bin D.idx (getv 0) (cst (.int 1))) anil)))))
noncomputable def G__law_is_square_k01_L1_1 : En → M Fl := (ifF (tst (bin D.ne (lstF (compF (itr D.items (getv 1)) (tgN 2) [2] (ort (tst (isiN "bool" (getv 2))) (ort (nott (tst (isiN "int" (getv 2)))) (nott (tst (chn D.le D.le (cst (.int 0)) (getv 2) (cst (.int 5))))))) (getv 2))) (nop mkLst anil))) (retF (cst (.bl false))) skp)
noncomputable def G__law_is_square_k01_L1 : En → M Fl := (sq (ifF (ort (nott (tst (isiN "tuple" (getv 1)))) (tst (bin D.ne (nop (one D.len) (acons (getv 1) anil)) (cst (.int 2))))) (retF (cst (.bl false))) skp) G__law_is_square_k01_L1_1)
noncomputable def G__law_is_square_k01_2 : En → M Fl := (sq (forF (itr D.items (bin D.idx (getv 0) (cst (.int 0)))) (tgN 1) G__law_is_square_k01_L1) G__law_is_square_k01_3)
noncomputable def G__law_is_square_k01_1 : En → M Fl := (sq (ifF (nott (tst (chn D.le D.le (cst (.int 1)) (nop (one D.len) (acons (bin D.idx (getv 0) (cst (.int 0))) anil)) (cst (.int 6))))) (retF (cst (.bl false))) skp) G__law_is_square_k01_2)
noncomputable def G__law_is_square_k01 : En → M Fl := (sq (ifF (ort (nott (tst (isiN "tuple" (getv 0)))) (ort (tst (bin D.ne (nop (one D.len) (acons (getv 0) anil)) (cst (.int 2)))) (nott (tst (isiN "tuple" (bin D.idx (getv 0) (cst (.int 0)))))))) (retF (cst (.bl false))) skp) G__law_is_square_k01_1)
noncomputable def F__law_is_square_k01 : List D → M D := fnF 3 1 G__law_is_square_k01
noncomputable def G__law_due_k01_4 : En → M Fl := (retF (nop mkLst (acons (nop (one D.len) (acons (bin D.add (getv 1) (getv 2)) anil)) (acons (nop mkTup (acons (getv 4) (acons (bin D.idx (getv 0) (cst (.int 1))) anil))) (acons (nop mkTup (acons (nop (one D.tuple) (acons (lstF (compF (itr D.items (bin D.idx (getv 0) (cst (.int 0)))) (tgN 5) [5] always (slc3 (getv 5) nopart nopart (part (un D.neg (cst (.int 1))))))) anil)) (acons (bin D.idx (getv 0) (cst (.int 1))) anil))) anil)))))
noncomputable def G__law_due_k01_3 : En → M Fl := (sq (setF 4 (nop (one D.tuple) (acons (lstF (compF (itr D.items (bin D.idx (getv 0) (cst (.int 0)))) (tgN 5) [5] always (nop mkTup (acons (idxF (getv 1) (bin D.idx (getv 5) (cst (.int 0)))) (acons (idxF (getv 2) (bin D.idx (getv 5) (cst (.int 1)))) anil))))) anil))) G__law_due_k01_4)
noncomputable def G__law_due_k01_L1_1 : En → M Fl := (setF 2 (bin D.add (getv 2) (bin D.mul (nop mkLst (acons (getv 3) anil)) (nop (one D.toI) (acons (bin D.ne (lstF (compF (itr D.items (bin D.idx (getv 0) (cst (.int 0)))) (tgN 5) [5] (tst (bin D.eq (bin D.idx (getv 5) (cst (.int 1))) (getv 3))) (getv 5))) (nop mkLst anil)) anil)))))
noncomputable def G__law_due_k01_L1 : En → M Fl := (sq (setF 1 (bin D.add (getv 1) (bin D.mul (nop mkLst (acons (getv 3) anil)) (nop (one D.toI) (acons (bin D.ne (lstF (compF (itr D.items (bin D.idx (getv 0) (cst (.int 0)))) (tgN 5) [5] (tst (bin D.eq (bin D.idx (getv 5) (cst (.int 0))) (getv 3))) (getv 5))) (nop mkLst anil)) anil))))) G__law_due_k01_L1_1)
noncomputable def G__law_due_k01_2 : En → M Fl := (sq (forF (itr (on1 rng1) (acons (cst (.int 6)) anil)) (tgN 3) G__law_due_k01_L1) G__law_due_k01_3)
noncomputable def G__law_due_k01_1 : En → M Fl := (sq (setF 2 (lstF (lim anil))) G__law_due_k01_2)
noncomputable def G__law_due_k01 : En → M Fl := (sq (setF 1 (lstF (lim anil))) G__law_due_k01_1)
noncomputable def F__law_due_k01 : List D → M D := fnF 6 1 G__law_due_k01
noncomputable def G_back_rows_1 : En → M Fl := (retF (lstF (compF (itr D.items (getv 1)) (tgN 5) [5] (andt (tst (bin D.eq (bin D.idx (bin D.idx (getv 3) (getv 5)) (cst (.int 1))) (getv 2))) (tst (bin D.nin (getv 5) (getv 4)))) (bin D.idx (bin D.idx (getv 3) (getv 5)) (cst (.int 0))))))
noncomputable def G_back_rows : En → M Fl := (sq (setTF (tgT [3, 4]) (getv 0)) G_back_rows_1)
noncomputable def F_back_rows : List D → M D := fnF 6 3 G_back_rows
noncomputable def G_with_more : En → M Fl := (retF (bin D.add (getv 0) (lstF (compF (itr (on1 D.enum) (acons (getv 1) anil)) (tgT [2, 3]) [2, 3] (andt (tst (bin D.nin (getv 3) (getv 0))) (tst (bin D.nin (getv 3) (slc (getv 1) nopart (part (getv 2)))))) (getv 3)))))
noncomputable def F_with_more : List D → M D := fnF 4 2 G_with_more
noncomputable def G_columns_from_4 : En → M Fl := (nodic 4 (retF (nop (one D.srt) (acons (getv 4) anil))))
noncomputable def G_columns_from_L1_1 : En → M Fl := (setF 5 (bin D.add (getv 5) (cst (.int 1))))
noncomputable def G_columns_from_L3_1 : En → M Fl := (setF 3 (nop F_with_more (acons (getv 3) (acons (nop F_back_rows (acons (getv 0) (acons (getv 1) (acons (bin D.idx (bin D.idx (bin D.idx (getv 0) (cst (.int 0))) (getv 6)) (cst (.int 1))) anil)))) anil))))
noncomputable def G_columns_from_L3 : En → M Fl := (sq (appF 4 (bin D.idx (bin D.idx (bin D.idx (getv 0) (cst (.int 0))) (getv 6)) (cst (.int 1)))) G_columns_from_L3_1)
noncomputable def G_columns_from_L2 : En → M Fl := (ifF (andt (tst (bin D.eq (bin D.idx (bin D.idx (bin D.idx (getv 0) (cst (.int 0))) (getv 6)) (cst (.int 0))) (bin D.idx (getv 3) (getv 5)))) (tst (ninO 4 (bin D.idx (bin D.idx (bin D.idx (getv 0) (cst (.int 0))) (getv 6)) (cst (.int 1)))))) G_columns_from_L3 skp)
noncomputable def G_columns_from_L1 : En → M Fl := (sq (forF (itr D.items (getv 1)) (tgN 6) G_columns_from_L2) G_columns_from_L1_1)
noncomputable def G_columns_from_3 : En → M Fl := (sq (whileF (tst (bin D.lt (getv 5) (nop (one D.len) (acons (getv 3) anil)))) G_columns_from_L1 FUEL) G_columns_from_4)
noncomputable def G_columns_from_2 : En → M Fl := (sq (setF 5 (cst (.int 0))) G_columns_from_3)
noncomputable def G_columns_from_1 : En → M Fl := (sq (setOF 4 (lim anil)) G_columns_from_2)
noncomputable def G_columns_from : En → M Fl := (sq (setF 3 (lstF (lim (acons (getv 2) anil)))) G_columns_from_1)
noncomputable def F_columns_from : List D → M D := fnF 7 3 G_columns_from
noncomputable def G_keys_seen_2 : En → M Fl := (nodic 2 (retF (getv 2)))
noncomputable def G_keys_seen_L2 : En → M Fl := (appF 2 (getv 3))
noncomputable def G_keys_seen_L1 : En → M Fl := (ifF (tst (bin D.inn (bin D.idx (getv 4) (cst (.int 1))) (nop F_columns_from (acons (getv 0) (acons (getv 1) (acons (bin D.idx (getv 4) (cst (.int 0))) anil)))))) G_keys_seen_L2 skp)
noncomputable def G_keys_seen_1 : En → M Fl := (sq (forF (itr (on1 D.enum) (acons (bin D.idx (getv 0) (cst (.int 0))) anil)) (tgT [3, 4]) G_keys_seen_L1) G_keys_seen_2)
noncomputable def G_keys_seen : En → M Fl := (sq (setOF 2 (lim anil)) G_keys_seen_1)
noncomputable def F_keys_seen : List D → M D := fnF 5 2 G_keys_seen
noncomputable def G_seen_2 : En → M Fl := (retF (nop F_keys_seen (acons (getv 0) (acons (getv 1) anil))))
noncomputable def G_seen_1 : En → M Fl := (sq (expF (nop F_need_keys (acons (getv 0) (acons (getv 1) anil)))) G_seen_2)
noncomputable def G_seen : En → M Fl := (sq (expF (nop F_need_square (acons (getv 0) anil))) G_seen_1)
noncomputable def F_seen : List D → M D := fnF 2 2 G_seen
noncomputable def G_false_keys_2 : En → M Fl := (retF (lstF (compF (itr D.items (nop F_keys_seen (acons (getv 0) (acons (getv 1) anil)))) (tgN 2) [2] (tst (bin D.nin (getv 2) (getv 1))) (getv 2))))
noncomputable def G_false_keys_1 : En → M Fl := (sq (expF (nop F_need_keys (acons (getv 0) (acons (getv 1) anil)))) G_false_keys_2)
noncomputable def G_false_keys : En → M Fl := (sq (expF (nop F_need_square (acons (getv 0) anil))) G_false_keys_1)
noncomputable def F_false_keys : List D → M D := fnF 3 2 G_false_keys
noncomputable def G_is_true_2 : En → M Fl := (retF (bin D.eq (nop F_keys_seen (acons (getv 0) (acons (getv 1) anil))) (nop (one D.list) (acons (getv 1) anil))))
noncomputable def G_is_true_1 : En → M Fl := (sq (expF (nop F_need_keys (acons (getv 0) (acons (getv 1) anil)))) G_is_true_2)
noncomputable def G_is_true : En → M Fl := (sq (expF (nop F_need_square (acons (getv 0) anil))) G_is_true_1)
noncomputable def F_is_true : List D → M D := fnF 2 2 G_is_true
noncomputable def G__law_seen_k02_3 : En → M Fl := (retF (getv 2))
noncomputable def G__law_seen_k02_L1_3 : En → M Fl := (nodic 6 skp)
noncomputable def G__law_seen_k02_L1_2 : En → M Fl := (sq (setF 2 (bin D.add (getv 2) (bin D.mul (nop mkLst (acons (getv 3) anil)) (nop (one D.toI) (acons (innO 6 (nop mkTup (acons (cst (.str "column")) (acons (bin D.idx (bin D.idx (getv 4) (getv 3)) (cst (.int 1))) anil)))) anil))))) G__law_seen_k02_L1_3)
noncomputable def G__law_seen_k02_L4 : En → M Fl := (appF 6 (getv 9))
noncomputable def G__law_seen_k02_L3_3 : En → M Fl := (ifF (andt (tst (innO 6 (getv 10))) (andt (tst (ninO 6 (getv 9))) (tst (bin D.nin (getv 8) (getv 5))))) G__law_seen_k02_L4 skp)
noncomputable def G__law_seen_k02_L5 : En → M Fl := (appF 6 (getv 10))
noncomputable def G__law_seen_k02_L3_2 : En → M Fl := (sq (ifF (andt (tst (innO 6 (getv 9))) (tst (ninO 6 (getv 10)))) G__law_seen_k02_L5 skp) G__law_seen_k02_L3_3)
noncomputable def G__law_seen_k02_L3_1 : En → M Fl := (sq (setF 10 (nop mkTup (acons (cst (.str "column")) (acons (bin D.idx (bin D.idx (getv 4) (getv 8)) (cst (.int 1))) anil)))) G__law_seen_k02_L3_2)
noncomputable def G__law_seen_k02_L3 : En → M Fl := (sq (setF 9 (nop mkTup (acons (cst (.str "row")) (acons (bin D.idx (bin D.idx (getv 4) (getv 8)) (cst (.int 0))) anil)))) G__law_seen_k02_L3_1)
noncomputable def G__law_seen_k02_L2 : En → M Fl := (forF (itr D.items (getv 1)) (tgN 8) G__law_seen_k02_L3)
noncomputable def G__law_seen_k02_L1_1 : En → M Fl := (sq (forF (itr (on1 rng1) (acons (bin D.mul (cst (.int 2)) (nop (one D.len) (acons (getv 4) anil))) anil)) (tgN 7) G__law_seen_k02_L2) G__law_seen_k02_L1_2)
noncomputable def G__law_seen_k02_L1 : En → M Fl := (sq (setOF 6 (lim (acons (nop mkTup (acons (cst (.str "row")) (acons (bin D.idx (bin D.idx (getv 4) (getv 3)) (cst (.int 0))) anil))) anil))) G__law_seen_k02_L1_1)
noncomputable def G__law_seen_k02_2 : En → M Fl := (sq (forF (itr (on1 rng1) (acons (nop (one D.len) (acons (getv 4) anil)) anil)) (tgN 3) G__law_seen_k02_L1) G__law_seen_k02_3)
noncomputable def G__law_seen_k02_1 : En → M Fl := (sq (setF 2 (lstF (lim anil))) G__law_seen_k02_2)
noncomputable def G__law_seen_k02 : En → M Fl := (sq (setTF (tgT [4, 5]) (getv 0)) G__law_seen_k02_1)
noncomputable def F__law_seen_k02 : List D → M D := fnF 11 2 G__law_seen_k02
noncomputable def G__law_serves_k02 : En → M Fl := (retF (bin D.eq (lstF (compF (itr D.items (getv 1)) (tgN 2) [2] (tst (bin D.ne (nop F__law_seen_k02 (acons (getv 0) (acons (getv 2) anil))) (nop (one D.list) (acons (getv 2) anil)))) (getv 2))) (nop mkLst anil)))
noncomputable def F__law_serves_k02 : List D → M D := fnF 3 2 G__law_serves_k02
noncomputable def G__law_every_k02_2 : En → M Fl := (retF (lstF (compF (itr D.items (nop (one D.srt) (acons (lstF (compF (itr D.items (getv 1)) (tgN 4) [4] always (nop mkTup (acons (nop (one D.len) (acons (getv 4) anil)) (acons (getv 4) anil))))) anil))) (tgT [3, 4]) [3, 4] always (getv 4))))
noncomputable def G__law_every_k02_L1 : En → M Fl := (setF 1 (bin D.add (getv 1) (lstF (compF (itr D.items (getv 1)) (tgN 4) [4] always (bin D.add (getv 4) (nop mkTup (acons (getv 2) anil)))))))
noncomputable def G__law_every_k02_1 : En → M Fl := (sq (forF (itr (on1 rng1) (acons (getv 0) anil)) (tgN 2) G__law_every_k02_L1) G__law_every_k02_2)
noncomputable def G__law_every_k02 : En → M Fl := (sq (setF 1 (lstF (lim (acons (nop mkTup anil) anil)))) G__law_every_k02_1)
noncomputable def F__law_every_k02 : List D → M D := fnF 5 1 G__law_every_k02
noncomputable def G_law_k03_16 : En → M Fl := (retF (andv (bin D.eq (nop F_seen (acons (getv 1) (acons (nop mkTup anil) anil))) (nop mkLst anil)) (bin D.eq (nop F_seen (acons (getv 1) (acons (lrg1 D.tup (getv 2)) anil))) (lrg1 D.lst (getv 2)))))
noncomputable def G_law_k03_L1_1 : En → M Fl := (ifF (andt (tst (bin D.eq (getv 13) (nop mkLst (acons (getv 12) anil)))) (tst (bin D.ne (bin D.inn (getv 11) (getv 6)) (bin D.inn (getv 11) (getv 3))))) (retF (cst (.bl false))) skp)
noncomputable def G_law_k03_L1 : En → M Fl := (sq (setF 13 (lstF (compF (itr D.items (bin D.idx (getv 1) (cst (.int 0)))) (tgN 14) [14] (ort (tst (bin D.eq (bin D.idx (getv 14) (cst (.int 0))) (bin D.idx (getv 12) (cst (.int 0))))) (tst (bin D.eq (bin D.idx (getv 14) (cst (.int 1))) (bin D.idx (getv 12) (cst (.int 1)))))) (getv 14)))) G_law_k03_L1_1)
noncomputable def G_law_k03_15 : En → M Fl := (sq (forF (itr (on1 D.enum) (acons (bin D.idx (getv 1) (cst (.int 0))) anil)) (tgT [11, 12]) G_law_k03_L1) G_law_k03_16)
noncomputable def G_law_k03_L2 : En → M Fl := (ifF (andt (tst (bin D.inn (getv 10) (bin D.idx (getv 1) (cst (.int 1))))) (tst (bin D.ne (nop F_seen (acons (getv 1) (acons (nop (one D.tuple) (acons (nop (one D.srt) (acons (bin D.add (getv 3) (nop mkTup (acons (getv 10) anil))) anil)) anil)) anil))) (getv 6)))) (retF (cst (.bl false))) skp)
noncomputable def G_law_k03_14 : En → M Fl := (sq (forF (itr D.items (nop F_false_keys (acons (getv 1) (acons (getv 3) anil)))) (tgN 10) G_law_k03_L2) G_law_k03_15)
noncomputable def G_law_k03_13 : En → M Fl := (sq (ifF (ort (tst (bin D.ne (nop F_turned (acons (nop F_turned (acons (getv 1) anil)) anil)) (getv 1))) (tst (bin D.ne (nop F_tight (acons (nop F_tight (acons (getv 1) anil)) anil)) (nop F_tight (acons (getv 1) anil))))) (retF (cst (.bl false))) skp) G_law_k03_14)
noncomputable def G_law_k03_L3 : En → M Fl := (ifF (ort (tst (bin D.ne (nop F_seen (acons (getv 9) (acons (getv 3) anil))) (getv 6))) (ort (nott (tst (nop F_is_square (acons (getv 9) anil)))) (tst (bin D.ne (nop F_wires (acons (getv 9) anil)) (nop F_wires (acons (getv 1) anil)))))) (retF (cst (.bl false))) skp)
noncomputable def G_law_k03_12 : En → M Fl := (sq (forF (itr D.items (nop mkTup (acons (nop F_tight (acons (getv 1) anil)) (acons (nop F_turned (acons (getv 1) anil)) (acons (nop F_tight (acons (nop F_turned (acons (getv 1) anil)) anil)) anil))))) (tgN 9) G_law_k03_L3) G_law_k03_13)
noncomputable def G_law_k03_11 : En → M Fl := (sq (ifF (nott (tst (nop F_is_true (acons (nop F_with_diodes (acons (getv 1) (acons (lrg1 D.tup (getv 2)) anil))) (acons (getv 5) anil))))) (retF (cst (.bl false))) skp) G_law_k03_12)
noncomputable def G_law_k03_10 : En → M Fl := (sq (ifF (tst (bin D.ne (lstF (compF (itr D.items (nop F_seen (acons (getv 8) (acons (getv 3) anil)))) (tgN 14) [14] (tst (bin D.nin (getv 14) (getv 6))) (getv 14))) (nop mkLst anil))) (retF (cst (.bl false))) skp) G_law_k03_11)
noncomputable def G_law_k03_9 : En → M Fl := (sq (setF 8 (nop F_with_diodes (acons (getv 1) (acons (nop (one D.tuple) (acons (un D.srtSet (bin D.add (bin D.idx (getv 1) (cst (.int 1))) (nop mkTup (acons (getv 7) anil)))) anil)) anil)))) G_law_k03_10)
noncomputable def G_law_k03_8 : En → M Fl := (sq (setF 7 (nop F__law_drawn (acons (getv 0) (acons (cst (.int 120)) (acons (getv 2) anil))))) G_law_k03_9)
noncomputable def G_law_k03_7 : En → M Fl := (sq (ifF (ort (tst (bin D.ne (nop (one D.srt) (acons (bin D.add (nop (one D.list) (acons (getv 3) anil)) (nop F_false_keys (acons (getv 1) (acons (getv 3) anil)))) anil)) (getv 6))) (tst (bin D.ne (nop F_is_true (acons (getv 1) (acons (getv 3) anil))) (bin D.eq (getv 6) (nop (one D.list) (acons (getv 3) anil)))))) (retF (cst (.bl false))) skp) G_law_k03_8)
noncomputable def G_law_k03_6 : En → M Fl := (sq (ifF (tst (bin D.ne (bin D.add (lstF (compF (itr D.items (getv 3)) (tgN 7) [7] (tst (bin D.nin (getv 7) (getv 6))) (getv 7))) (lstF (compF (itr D.items (getv 6)) (tgN 7) [7] (tst (bin D.nin (getv 7) (nop F_seen (acons (getv 1) (acons (getv 5) anil))))) (getv 7)))) (nop mkLst anil))) (retF (cst (.bl false))) skp) G_law_k03_7)
noncomputable def G_law_k03_5 : En → M Fl := (sq (setF 6 (nop F_seen (acons (getv 1) (acons (getv 3) anil)))) G_law_k03_6)
noncomputable def G_law_k03_4 : En → M Fl := (sq (setF 5 (nop (one D.tuple) (acons (un D.srtSet (bin D.add (getv 3) (getv 4))) anil))) G_law_k03_5)
noncomputable def G_law_k03_3 : En → M Fl := (sq (setF 4 (nop F__law_set (acons (getv 0) (acons (cst (.int 110)) (acons (getv 2) anil))))) G_law_k03_4)
noncomputable def G_law_k03_2 : En → M Fl := (sq (setF 3 (nop F__law_set (acons (getv 0) (acons (cst (.int 100)) (acons (getv 2) anil))))) G_law_k03_3)
noncomputable def G_law_k03_1 : En → M Fl := (sq (setF 2 (nop (one D.len) (acons (bin D.idx (getv 1) (cst (.int 0))) anil))) G_law_k03_2)
noncomputable def G_law_k03 : En → M Fl := (sq (setF 1 (nop F__law_square (acons (getv 0) (acons (cst (.int 0)) (acons (cst (.int 6)) anil))))) G_law_k03_1)
noncomputable def F_law_k03 : List D → M D := fnF 15 1 G_law_k03
noncomputable def G_law_k04_7 : En → M Fl := (retF (bin D.eq (nop F_wires (acons (getv 1) anil)) (bin D.add (un D.lenSet2 (lstF (compF (itr D.items (getv 3)) (tgT [12, 13]) [12, 13] always (getv 12)))) (un D.lenSet2 (lstF (compF (itr D.items (getv 3)) (tgT [12, 13]) [12, 13] always (getv 13)))))))
noncomputable def G_law_k04_L1_6 : En → M Fl := (ifF (tst (bin D.ne (lstF (compF (itr D.items (nop mkTup (acons (getv 9) (acons (nop F_turned (acons (getv 9) anil)) (acons (nop F_tight (acons (getv 9) anil)) anil))))) (tgN 11) [11] always (nop F_wires (acons (getv 11) anil)))) (bin D.mul (nop mkLst (acons (nop F_wires (acons (getv 1) anil)) anil)) (cst (.int 3))))) (retF (cst (.bl false))) skp)
noncomputable def G_law_k04_L1_5 : En → M Fl := (sq (ifF (tst (bin D.ne (nop F_with_diodes (acons (nop F_tight (acons (getv 1) anil)) (acons (getv 8) anil))) (nop F_tight (acons (getv 9) anil)))) (retF (cst (.bl false))) skp) G_law_k04_L1_6)
noncomputable def G_law_k04_L1_4 : En → M Fl := (sq (ifF (tst (bin D.ne (nop F_with_diodes (acons (nop F_turned (acons (getv 1) anil)) (acons (getv 8) anil))) (nop F_turned (acons (getv 9) anil)))) (retF (cst (.bl false))) skp) G_law_k04_L1_5)
noncomputable def G_law_k04_L1_3 : En → M Fl := (sq (ifF (ort (tst (bin D.ne (nop F_with_diodes (acons (getv 9) (acons (bin D.idx (getv 1) (cst (.int 1))) anil))) (getv 1))) (nott (tst (nop F_is_square (acons (getv 9) anil))))) (retF (cst (.bl false))) skp) G_law_k04_L1_4)
noncomputable def G_law_k04_L1_2 : En → M Fl := (sq (ifF (ort (tst (bin D.ne (bin D.idx (getv 9) (cst (.int 1))) (getv 8))) (tst (bin D.ne (bin D.idx (getv 9) (cst (.int 0))) (bin D.idx (getv 1) (cst (.int 0)))))) (retF (cst (.bl false))) skp) G_law_k04_L1_3)
noncomputable def G_law_k04_L1_1 : En → M Fl := (sq (setF 9 (nop F_with_diodes (acons (getv 1) (acons (getv 8) anil)))) G_law_k04_L1_2)
noncomputable def G_law_k04_L1 : En → M Fl := (sq (setF 8 (nop F__law_set (acons (getv 0) (acons (bin D.add (cst (.int 80)) (bin D.mul (cst (.int 10)) (getv 5))) (acons (getv 2) anil))))) G_law_k04_L1_1)
noncomputable def G_law_k04_6 : En → M Fl := (sq (forF (itr (on1 rng1) (acons (cst (.int 4)) anil)) (tgN 5) G_law_k04_L1) G_law_k04_7)
noncomputable def G_law_k04_L2_3 : En → M Fl := (ifF (tst (bin D.ne (lstF (compF (itr D.items (bin D.idx (getv 1) (cst (.int 0)))) (tgN 10) [10] always (idxF (getv 7) (bin D.idx (getv 10) (getv 4))))) (lstF (compF (itr D.items (getv 3)) (tgN 10) [10] always (bin D.idx (getv 10) (getv 4)))))) (retF (cst (.bl false))) skp)
noncomputable def G_law_k04_L2_2 : En → M Fl := (sq (setF 7 (un D.srtSet (lstF (compF (itr D.items (bin D.idx (getv 1) (cst (.int 0)))) (tgN 10) [10] always (bin D.idx (getv 10) (getv 4)))))) G_law_k04_L2_3)
noncomputable def G_law_k04_L2_1 : En → M Fl := (sq (ifF (tst (bin D.ne (getv 6) (lrg1 D.lst (nop (one D.len) (acons (getv 6) anil))))) (retF (cst (.bl false))) skp) G_law_k04_L2_2)
noncomputable def G_law_k04_L2 : En → M Fl := (sq (setF 6 (un D.srtSet (lstF (compF (itr D.items (getv 3)) (tgN 10) [10] always (bin D.idx (getv 10) (getv 4)))))) G_law_k04_L2_1)
noncomputable def G_law_k04_5 : En → M Fl := (sq (forF (itr D.items (nop mkTup (acons (cst (.int 0)) (acons (cst (.int 1)) anil)))) (tgN 4) G_law_k04_L2) G_law_k04_6)
noncomputable def G_law_k04_4 : En → M Fl := (sq (setF 3 (bin D.idx (nop F_tight (acons (getv 1) anil)) (cst (.int 0)))) G_law_k04_5)
noncomputable def G_law_k04_3 : En → M Fl := (sq (ifF (tst (bin D.ne (nop F_tight (acons (nop F_turned (acons (getv 1) anil)) anil)) (nop F_turned (acons (nop F_tight (acons (getv 1) anil)) anil)))) (retF (cst (.bl false))) skp) G_law_k04_4)
noncomputable def G_law_k04_2 : En → M Fl := (sq (ifF (ort (tst (bin D.ne (nop F_turned (acons (nop F_turned (acons (getv 1) anil)) anil)) (getv 1))) (tst (bin D.ne (nop F_tight (acons (nop F_tight (acons (getv 1) anil)) anil)) (nop F_tight (acons (getv 1) anil))))) (retF (cst (.bl false))) skp) G_law_k04_3)
noncomputable def G_law_k04_1 : En → M Fl := (sq (setF 2 (nop (one D.len) (acons (bin D.idx (getv 1) (cst (.int 0))) anil))) G_law_k04_2)
noncomputable def G_law_k04 : En → M Fl := (sq (setF 1 (nop F__law_square (acons (getv 0) (acons (cst (.int 0)) (acons (cst (.int 6)) anil))))) G_law_k04_1)
noncomputable def F_law_k04 : List D → M D := fnF 14 1 G_law_k04
noncomputable def G__law_sets_k05_2 : En → M Fl := (retF (nop (one D.srt) (acons (getv 1) anil)))
noncomputable def G__law_sets_k05_L1 : En → M Fl := (setF 1 (bin D.add (getv 1) (lstF (compF (itr D.items (getv 1)) (tgN 3) [3] always (bin D.add (getv 3) (nop mkTup (acons (getv 2) anil)))))))
noncomputable def G__law_sets_k05_1 : En → M Fl := (sq (forF (itr (on1 rng1) (acons (getv 0) anil)) (tgN 2) G__law_sets_k05_L1) G__law_sets_k05_2)
noncomputable def G__law_sets_k05 : En → M Fl := (sq (setF 1 (lstF (lim (acons (nop mkTup anil) anil)))) G__law_sets_k05_1)
noncomputable def F__law_sets_k05 : List D → M D := fnF 4 1 G__law_sets_k05
noncomputable def G_law_k05_4 : En → M Fl := (retF (cst (.bl true)))
noncomputable def G_law_k05_L2_2 : En → M Fl := (ifF (andt (tst (bin D.eq (getv 9) (nop mkLst anil))) (tst (bin D.ne (bin D.inn (getv 6) (getv 5)) (bin D.inn (getv 6) (getv 4))))) (retF (cst (.bl false))) skp)
noncomputable def G_law_k05_L2_1 : En → M Fl := (sq (setF 9 (lstF (compF (itr (on1 D.enum) (acons (bin D.idx (getv 1) (cst (.int 0))) anil)) (tgT [12, 13]) [12, 13] (andt (tst (bin D.ne (getv 12) (getv 6))) (ort (tst (bin D.eq (bin D.idx (getv 13) (cst (.int 0))) (getv 10))) (tst (bin D.eq (bin D.idx (getv 13) (cst (.int 1))) (getv 11))))) (getv 12)))) G_law_k05_L2_2)
noncomputable def G_law_k05_L2 : En → M Fl := (sq (setTF (tgT [10, 11]) (bin D.idx (bin D.idx (getv 1) (cst (.int 0))) (getv 6))) G_law_k05_L2_1)
noncomputable def G_law_k05_L1_7 : En → M Fl := (forF (itr (on1 rng1) (acons (getv 2) anil)) (tgN 6) G_law_k05_L2)
noncomputable def G_law_k05_L1_6 : En → M Fl := (sq (ifF (tst (bin D.ne (lstF (compF (itr D.items (getv 5)) (tgN 12) [12] (tst (bin D.nin (getv 12) (getv 7))) (getv 12))) (nop mkLst anil))) (retF (cst (.bl false))) skp) G_law_k05_L1_7)
noncomputable def G_law_k05_L1_5 : En → M Fl := (sq (ifF (ort (tst (bin D.ne (nop F_seen (acons (getv 3) (acons (nop (one D.tuple) (acons (getv 7) anil)) anil))) (getv 7))) (tst (bin D.ne (nop F_seen (acons (nop F_turned (acons (getv 3) anil)) (acons (getv 4) anil))) (getv 7)))) (retF (cst (.bl false))) skp) G_law_k05_L1_6)
noncomputable def G_law_k05_L1_4 : En → M Fl := (sq (setF 7 (nop F_seen (acons (getv 3) (acons (getv 4) anil)))) G_law_k05_L1_5)
noncomputable def G_law_k05_L3_2 : En → M Fl := (ifF (andt (tst (bin D.inn (getv 6) (bin D.idx (getv 1) (cst (.int 1))))) (tst (bin D.ne (getv 8) (getv 5)))) (retF (cst (.bl false))) skp)
noncomputable def G_law_k05_L3_1 : En → M Fl := (sq (ifF (tst (bin D.ne (lstF (compF (itr D.items (getv 5)) (tgN 12) [12] (tst (bin D.nin (getv 12) (getv 8))) (getv 12))) (nop mkLst anil))) (retF (cst (.bl false))) skp) G_law_k05_L3_2)
noncomputable def G_law_k05_L3 : En → M Fl := (sq (setF 8 (nop F_seen (acons (getv 1) (acons (nop (one D.tuple) (acons (nop (one D.srt) (acons (bin D.add (getv 4) (nop mkTup (acons (getv 6) anil))) anil)) anil)) anil)))) G_law_k05_L3_1)
noncomputable def G_law_k05_L1_3 : En → M Fl := (sq (forF (itr D.items (nop F_false_keys (acons (getv 1) (acons (getv 4) anil)))) (tgN 6) G_law_k05_L3) G_law_k05_L1_4)
noncomputable def G_law_k05_L1_2 : En → M Fl := (sq (ifF (tst (bin D.ne (nop F_is_true (acons (getv 1) (acons (getv 4) anil))) (bin D.eq (getv 5) (nop (one D.list) (acons (getv 4) anil))))) (retF (cst (.bl false))) skp) G_law_k05_L1_3)
noncomputable def G_law_k05_L1_1 : En → M Fl := (sq (ifF (tst (bin D.ne (nop (one D.srt) (acons (bin D.add (nop (one D.list) (acons (getv 4) anil)) (nop F_false_keys (acons (getv 1) (acons (getv 4) anil)))) anil)) (getv 5))) (retF (cst (.bl false))) skp) G_law_k05_L1_2)
noncomputable def G_law_k05_L1 : En → M Fl := (sq (setF 5 (nop F_seen (acons (getv 1) (acons (getv 4) anil)))) G_law_k05_L1_1)
noncomputable def G_law_k05_3 : En → M Fl := (sq (forF (itr D.items (nop F__law_sets_k05 (acons (getv 2) anil))) (tgN 4) G_law_k05_L1) G_law_k05_4)
noncomputable def G_law_k05_2 : En → M Fl := (sq (setF 3 (nop F_with_diodes (acons (getv 1) (acons (nop mkTup anil) anil)))) G_law_k05_3)
noncomputable def G_law_k05_1 : En → M Fl := (sq (setF 2 (nop (one D.len) (acons (bin D.idx (getv 1) (cst (.int 0))) anil))) G_law_k05_2)
noncomputable def G_law_k05 : En → M Fl := (sq (setF 1 (nop F__law_square (acons (getv 0) (acons (cst (.int 0)) (acons (cst (.int 5)) anil))))) G_law_k05_1)
noncomputable def F_law_k05 : List D → M D := fnF 14 1 G_law_k05
noncomputable def G_is_wish_of_1 : En → M Fl := (retF (nop (one D.all) (acons (lstF (compF (itr (on2 D.zip) (acons (getv 1) (acons (slc (getv 1) (part (cst (.int 1))) nopart) anil))) (tgT [2, 3]) [2, 3] always (bin D.lt (getv 2) (getv 3)))) anil)))
noncomputable def G_is_wish_of : En → M Fl := (sq (ifF (ort (nott (tst (isiN "tuple" (getv 1)))) (ort (tst (bin D.gt (nop (one D.len) (acons (getv 1) anil)) (cst (.int 24)))) (nott (tst (nop (one D.all) (acons (lstF (compF (itr D.items (getv 1)) (tgN 2) [2] always (nop F_are_keys_of (acons (getv 0) (acons (getv 2) anil))))) anil)))))) (retF (cst (.bl false))) skp) G_is_wish_of_1)
noncomputable def F_is_wish_of : List D → M D := fnF 4 2 G_is_wish_of
noncomputable def G_need_many : En → M Fl := (ifF (nott (tst (nop F_is_number (acons (getv 0) (acons (cst (.int 1)) (acons (cst (.int 6)) anil)))))) (fun _ => M.raise "NoNumber") skp)
noncomputable def F_need_many : List D → M D := fnF 1 1 G_need_many
noncomputable def G_is_wish_1 : En → M Fl := (retF (nop F_is_wish_of (acons (getv 0) (acons (getv 1) anil))))
noncomputable def G_is_wish : En → M Fl := (sq (expF (nop F_need_many (acons (getv 0) anil))) G_is_wish_1)
noncomputable def F_is_wish : List D → M D := fnF 2 2 G_is_wish
noncomputable def G_need_wish : En → M Fl := (ifF (nott (tst (nop F_is_wish_of (acons (getv 0) (acons (getv 1) anil))))) (fun _ => M.raise "NoWish") skp)
noncomputable def F_need_wish : List D → M D := fnF 2 2 G_need_wish
noncomputable def G_serves : En → M Fl := (retF (nop (one D.all) (acons (lstF (compF (itr D.items (getv 1)) (tgN 2) [2] always (bin D.eq (nop F_keys_seen (acons (getv 0) (acons (getv 2) anil))) (nop (one D.list) (acons (getv 2) anil))))) anil)))
noncomputable def F_serves : List D → M D := fnF 3 2 G_serves
noncomputable def G_is_served_2 : En → M Fl := (retF (nop F_serves (acons (getv 0) (acons (getv 1) anil))))
noncomputable def G_is_served_1 : En → M Fl := (sq (expF (nop F_need_wish (acons (nop (one D.len) (acons (bin D.idx (getv 0) (cst (.int 0))) anil)) (acons (getv 1) anil)))) G_is_served_2)
noncomputable def G_is_served : En → M Fl := (sq (expF (nop F_need_square (acons (getv 0) anil))) G_is_served_1)
noncomputable def F_is_served : List D → M D := fnF 2 2 G_is_served
noncomputable def G_unserved_2 : En → M Fl := (retF (lstF (compF (itr D.items (getv 1)) (tgN 2) [2] (tst (bin D.ne (nop F_keys_seen (acons (getv 0) (acons (getv 2) anil))) (nop (one D.list) (acons (getv 2) anil)))) (getv 2))))
noncomputable def G_unserved_1 : En → M Fl := (sq (expF (nop F_need_wish (acons (nop (one D.len) (acons (bin D.idx (getv 0) (cst (.int 0))) anil)) (acons (getv 1) anil)))) G_unserved_2)
noncomputable def G_unserved : En → M Fl := (sq (expF (nop F_need_square (acons (getv 0) anil))) G_unserved_1)
noncomputable def F_unserved : List D → M D := fnF 3 2 G_unserved
noncomputable def G__law_is_wish_k10_2 : En → M Fl := (retF (bin D.eq (nop (one D.list) (acons (getv 1) anil)) (un D.srtSet (getv 1))))
noncomputable def G__law_is_wish_k10_1 : En → M Fl := (sq (ifF (tst (bin D.ne (lstF (compF (itr D.items (getv 1)) (tgN 2) [2] (nott (tst (nop F__law_are_keys_k01 (acons (getv 0) (acons (getv 2) anil))))) (getv 2))) (nop mkLst anil))) (retF (cst (.bl false))) skp) G__law_is_wish_k10_2)
noncomputable def G__law_is_wish_k10 : En → M Fl := (sq (ifF (ort (nott (tst (isiN "tuple" (getv 1)))) (tst (bin D.gt (nop (one D.len) (acons (getv 1) anil)) (cst (.int 24))))) (retF (cst (.bl false))) skp) G__law_is_wish_k10_1)
noncomputable def F__law_is_wish_k10 : List D → M D := fnF 3 2 G__law_is_wish_k10
noncomputable def G_sets_of_2 : En → M Fl := (retF (getv 2))
noncomputable def G_sets_of_L1_2 : En → M Fl := (nodic 4 (setF 2 (getv 4)))
noncomputable def G_sets_of_L2_1 : En → M Fl := (extF 4 (lstF (compF (itr (on2 rng2) (acons (getv 6) (acons (getv 0) anil))) (tgN 7) [7] always (bin D.add (getv 5) (nop mkTup (acons (getv 7) anil))))))
noncomputable def G_sets_of_L2 : En → M Fl := (sq (setF 6 (ifx (tst (bin D.ne (getv 5) (nop mkTup anil))) (bin D.add (bin D.idx (getv 5) (un D.neg (cst (.int 1)))) (cst (.int 1))) (cst (.int 0)))) G_sets_of_L2_1)
noncomputable def G_sets_of_L1_1 : En → M Fl := (sq (forF (itr D.items (getv 2)) (tgN 5) G_sets_of_L2) G_sets_of_L1_2)
noncomputable def G_sets_of_L1 : En → M Fl := (sq (setOF 4 (lim anil)) G_sets_of_L1_1)
noncomputable def G_sets_of_1 : En → M Fl := (sq (forF (itr (on1 rng1) (acons (getv 1) anil)) (tgN 3) G_sets_of_L1) G_sets_of_2)
noncomputable def G_sets_of : En → M Fl := (sq (setF 2 (lstF (lim (acons (nop mkTup anil) anil)))) G_sets_of_1)
noncomputable def F_sets_of : List D → M D := fnF 8 2 G_sets_of
noncomputable def G_safe_rolls_3 : En → M Fl := (retF (getv 1))
noncomputable def G_safe_rolls_L1 : En → M Fl := (setF 1 (bin D.add (getv 1) (cst (.int 1))))
noncomputable def G_safe_rolls_2 : En → M Fl := (sq (whileF (andt (tst (bin D.lt (getv 1) (nop (one D.len) (acons (bin D.idx (getv 0) (cst (.int 0))) anil)))) (tst (nop F_serves (acons (getv 0) (acons (nop F_sets_of (acons (nop (one D.len) (acons (bin D.idx (getv 0) (cst (.int 0))) anil)) (acons (bin D.add (getv 1) (cst (.int 1))) anil))) anil))))) G_safe_rolls_L1 FUEL) G_safe_rolls_3)
noncomputable def G_safe_rolls_1 : En → M Fl := (sq (setF 1 (cst (.int 0))) G_safe_rolls_2)
noncomputable def G_safe_rolls : En → M Fl := (sq (expF (nop F_need_square (acons (getv 0) anil))) G_safe_rolls_1)
noncomputable def F_safe_rolls : List D → M D := fnF 2 1 G_safe_rolls
noncomputable def G_first_unsafe_2 : En → M Fl := (retF (ifx (tst (bin D.ne (getv 2) (nop mkLst anil))) (bin D.idx (getv 2) (cst (.int 0))) (cst .non)))
noncomputable def G_first_unsafe_1 : En → M Fl := (sq (setF 2 (lstF (compF (itr D.items (nop F_sets_of (acons (nop (one D.len) (acons (bin D.idx (getv 0) (cst (.int 0))) anil)) (acons (getv 1) anil)))) (tgN 3) [3] (tst (bin D.ne (nop F_keys_seen (acons (getv 0) (acons (getv 3) anil))) (nop (one D.list) (acons (getv 3) anil)))) (getv 3)))) G_first_unsafe_2)
noncomputable def G_first_unsafe : En → M Fl := (sq (setF 1 (bin D.add (nop F_safe_rolls (acons (getv 0) anil)) (cst (.int 1)))) G_first_unsafe_1)
noncomputable def F_first_unsafe : List D → M D := fnF 4 1 G_first_unsafe
noncomputable def G_sets_upto_2 : En → M Fl := (nodic 2 (retF (getv 2)))
noncomputable def G_sets_upto_L1 : En → M Fl := (extF 2 (nop F_sets_of (acons (getv 0) (acons (getv 3) anil))))
noncomputable def G_sets_upto_1 : En → M Fl := (sq (forF (itr (on1 rng1) (acons (bin D.add (getv 1) (cst (.int 1))) anil)) (tgN 3) G_sets_upto_L1) G_sets_upto_2)
noncomputable def G_sets_upto : En → M Fl := (sq (setOF 2 (lim anil)) G_sets_upto_1)
noncomputable def F_sets_upto : List D → M D := fnF 4 2 G_sets_upto
noncomputable def G_rolls_by_diodes_5 : En → M Fl := (retF (getv 3))
noncomputable def G_rolls_by_diodes_L3 : En → M Fl := (setF 3 (bin D.add (getv 3) (cst (.int 1))))
noncomputable def G_rolls_by_diodes_L2 : En → M Fl := (whileF (andt (tst (bin D.lt (getv 3) (getv 2))) (tst (nop F_serves (acons (nop mkTup (acons (bin D.idx (getv 0) (cst (.int 0))) (acons (getv 5) anil))) (acons (nop F_sets_upto (acons (getv 2) (acons (bin D.add (getv 3) (cst (.int 1))) anil))) anil))))) G_rolls_by_diodes_L3 FUEL)
noncomputable def G_rolls_by_diodes_L1 : En → M Fl := (forF (itr D.items (nop F_sets_of (acons (getv 2) (acons (getv 4) anil)))) (tgN 5) G_rolls_by_diodes_L2)
noncomputable def G_rolls_by_diodes_4 : En → M Fl := (sq (forF (itr (on1 rng1) (acons (bin D.add (nop (two D.min2) (acons (getv 1) (acons (getv 2) anil))) (cst (.int 1))) anil)) (tgN 4) G_rolls_by_diodes_L1) G_rolls_by_diodes_5)
noncomputable def G_rolls_by_diodes_3 : En → M Fl := (sq (setF 3 (cst (.int 0))) G_rolls_by_diodes_4)
noncomputable def G_rolls_by_diodes_2 : En → M Fl := (sq (setF 2 (nop (one D.len) (acons (bin D.idx (getv 0) (cst (.int 0))) anil))) G_rolls_by_diodes_3)
noncomputable def G_rolls_by_diodes_1 : En → M Fl := (sq (ifF (nott (tst (nop F_is_number (acons (getv 1) (acons (cst (.int 0)) (acons (cst (.int 6)) anil)))))) (fun _ => M.raise "NoNumber") skp) G_rolls_by_diodes_2)
noncomputable def G_rolls_by_diodes : En → M Fl := (sq (expF (nop F_need_square (acons (getv 0) anil))) G_rolls_by_diodes_1)
noncomputable def F_rolls_by_diodes : List D → M D := fnF 6 2 G_rolls_by_diodes
noncomputable def G__law_serves_k11 : En → M Fl := (retF (bin D.eq (lstF (compF (itr D.items (getv 1)) (tgN 2) [2] (tst (bin D.ne (nop F__law_seen_k02 (acons (getv 0) (acons (getv 2) anil))) (nop (one D.list) (acons (getv 2) anil)))) (getv 2))) (nop mkLst anil)))
noncomputable def F__law_serves_k11 : List D → M D := fnF 3 2 G__law_serves_k11
noncomputable def G__law_rolls_k11_1 : En → M Fl := (retF (nop mkTup (acons (nop (one D.len) (acons (bin D.idx (getv 0) (cst (.int 0))) anil)) (acons (cst .non) anil))))
noncomputable def G__law_rolls_k11_L1 : En → M Fl := (ifF (tst (bin D.ne (nop F__law_seen_k02 (acons (getv 0) (acons (getv 1) anil))) (nop (one D.list) (acons (getv 1) anil)))) (retF (nop mkTup (acons (bin D.sub (nop (one D.len) (acons (getv 1) anil)) (cst (.int 1))) (acons (getv 1) anil)))) skp)
noncomputable def G__law_rolls_k11 : En → M Fl := (sq (forF (itr D.items (nop F__law_every_k02 (acons (nop (one D.len) (acons (bin D.idx (getv 0) (cst (.int 0))) anil)) anil))) (tgN 1) G__law_rolls_k11_L1) G__law_rolls_k11_1)
noncomputable def F__law_rolls_k11 : List D → M D := fnF 2 1 G__law_rolls_k11
noncomputable def G_law_k12_8 : En → M Fl := (retF (andv (bin D.eq (nop F_unserved (acons (getv 1) (acons (nop (one D.tuple) (acons (lstF (compF (itr (on1 rng1) (acons (getv 2) anil)) (tgN 11) [11] always (nop mkTup (acons (getv 11) anil)))) anil)) anil))) (nop mkLst anil)) (nop F_is_served (acons (getv 1) (acons (nop mkTup (acons (nop mkTup anil) anil)) anil)))))
noncomputable def G_law_k12_L2 : En → M Fl := (ifF (tst (bin D.ne (nop F_is_served (acons (getv 1) (acons (nop mkTup (acons (getv 10) anil)) anil))) (bin D.nin (getv 10) (getv 7)))) (retF (cst (.bl false))) skp)
noncomputable def G_law_k12_L1_8 : En → M Fl := (forF (itr D.items (getv 6)) (tgN 10) G_law_k12_L2)
noncomputable def G_law_k12_L1_7 : En → M Fl := (sq (ifF (tst (bin D.ne (nop F_unserved (acons (nop F_with_diodes (acons (getv 1) (acons (lrg1 D.tup (getv 2)) anil))) (acons (getv 6) anil))) (nop mkLst anil))) (retF (cst (.bl false))) skp) G_law_k12_L1_8)
noncomputable def G_law_k12_L1_6 : En → M Fl := (sq (ifF (tst (bin D.ne (lstF (compF (itr D.items (nop F_unserved (acons (nop F_with_diodes (acons (getv 1) (acons (getv 9) anil))) (acons (getv 6) anil)))) (tgN 10) [10] (tst (bin D.nin (getv 10) (getv 7))) (getv 10))) (nop mkLst anil))) (retF (cst (.bl false))) skp) G_law_k12_L1_7)
noncomputable def G_law_k12_L1_5 : En → M Fl := (sq (setF 9 (nop (one D.tuple) (acons (un D.srtSet (bin D.add (bin D.idx (getv 1) (cst (.int 1))) (nop F__law_set (acons (getv 0) (acons (cst (.int 200)) (acons (getv 2) anil)))))) anil))) G_law_k12_L1_6)
noncomputable def G_law_k12_L1_4 : En → M Fl := (sq (ifF (ort (nott (tst (nop F_is_served (acons (getv 1) (acons (getv 8) anil))))) (tst (bin D.ne (nop F_unserved (acons (getv 1) (acons (getv 8) anil))) (nop mkLst anil)))) (retF (cst (.bl false))) skp) G_law_k12_L1_5)
noncomputable def G_law_k12_L1_3 : En → M Fl := (sq (setF 8 (nop (one D.tuple) (acons (lstF (compF (itr D.items (getv 6)) (tgN 10) [10] (tst (bin D.nin (getv 10) (getv 7))) (getv 10))) anil))) G_law_k12_L1_4)
noncomputable def G_law_k12_L1_2 : En → M Fl := (sq (ifF (tst (bin D.ne (lstF (compF (itr D.items (getv 7)) (tgN 10) [10] (tst (bin D.nin (getv 10) (getv 6))) (getv 10))) (nop mkLst anil))) (retF (cst (.bl false))) skp) G_law_k12_L1_3)
noncomputable def G_law_k12_L1_1 : En → M Fl := (sq (ifF (tst (bin D.ne (nop F_is_served (acons (getv 1) (acons (getv 6) anil))) (bin D.eq (getv 7) (nop mkLst anil)))) (retF (cst (.bl false))) skp) G_law_k12_L1_2)
noncomputable def G_law_k12_L1 : En → M Fl := (sq (setF 7 (nop F_unserved (acons (getv 1) (acons (getv 6) anil)))) G_law_k12_L1_1)
noncomputable def G_law_k12_7 : En → M Fl := (sq (forF (itr D.items (nop mkTup (acons (getv 3) (acons (getv 4) (acons (getv 5) anil))))) (tgN 6) G_law_k12_L1) G_law_k12_8)
noncomputable def G_law_k12_6 : En → M Fl := (sq (ifF (tst (bin D.ne (nop F_unserved (acons (getv 1) (acons (getv 5) anil))) (un D.srtSet (bin D.add (nop F_unserved (acons (getv 1) (acons (getv 3) anil))) (nop F_unserved (acons (getv 1) (acons (getv 4) anil))))))) (retF (cst (.bl false))) skp) G_law_k12_7)
noncomputable def G_law_k12_5 : En → M Fl := (sq (ifF (nott (tst (nop F_is_wish (acons (getv 2) (acons (getv 5) anil))))) (retF (cst (.bl false))) skp) G_law_k12_6)
noncomputable def G_law_k12_4 : En → M Fl := (sq (setF 5 (nop (one D.tuple) (acons (un D.srtSet (bin D.add (getv 3) (getv 4))) anil))) G_law_k12_5)
noncomputable def G_law_k12_3 : En → M Fl := (sq (setF 4 (nop F__law_wish (acons (getv 0) (acons (cst (.int 140)) (acons (getv 2) (acons (cst (.int 6)) anil)))))) G_law_k12_4)
noncomputable def G_law_k12_2 : En → M Fl := (sq (setF 3 (nop F__law_wish (acons (getv 0) (acons (cst (.int 80)) (acons (getv 2) (acons (cst (.int 6)) anil)))))) G_law_k12_3)
noncomputable def G_law_k12_1 : En → M Fl := (sq (setF 2 (nop (one D.len) (acons (bin D.idx (getv 1) (cst (.int 0))) anil))) G_law_k12_2)
noncomputable def G_law_k12 : En → M Fl := (sq (setF 1 (nop F__law_square (acons (getv 0) (acons (cst (.int 0)) (acons (cst (.int 6)) anil))))) G_law_k12_1)
noncomputable def F_law_k12 : List D → M D := fnF 12 1 G_law_k12
noncomputable def G_law_k13_11 : En → M Fl := (retF (andv (bin D.eq (nop F_safe_rolls (acons (nop F_turned (acons (getv 7) anil)) anil)) (nop F_safe_rolls (acons (getv 7) anil))) (bin D.eq (nop F_first_unsafe (acons (nop F_turned (acons (getv 7) anil)) anil)) (nop F_first_unsafe (acons (getv 7) anil)))))
noncomputable def G_law_k13_10 : En → M Fl := (sq (setF 7 (nop F_with_diodes (acons (getv 1) (acons (nop mkTup anil) anil)))) G_law_k13_11)
noncomputable def G_law_k13_9 : En → M Fl := (sq (ifF (ort (tst (bin D.ne (nop F_safe_rolls (acons (nop F_tight (acons (getv 1) anil)) anil)) (getv 3))) (tst (bin D.ne (nop F_first_unsafe (acons (nop F_tight (acons (getv 1) anil)) anil)) (getv 4)))) (retF (cst (.bl false))) skp) G_law_k13_10)
noncomputable def G_law_k13_8 : En → M Fl := (sq (ifF (ort (tst (bin D.lt (nop F_safe_rolls (acons (getv 6) anil)) (getv 3))) (tst (bin D.ne (nop F_safe_rolls (acons (nop F_with_diodes (acons (getv 1) (acons (lrg1 D.tup (getv 2)) anil))) anil)) (getv 2)))) (retF (cst (.bl false))) skp) G_law_k13_9)
noncomputable def G_law_k13_7 : En → M Fl := (sq (setF 6 (nop F_with_diodes (acons (getv 1) (acons (nop (one D.tuple) (acons (un D.srtSet (bin D.add (bin D.idx (getv 1) (cst (.int 1))) (nop F__law_set (acons (getv 0) (acons (cst (.int 80)) (acons (getv 2) anil)))))) anil)) anil)))) G_law_k13_8)
noncomputable def G_law_k13_L1_1 : En → M Fl := (ifF (andt (tst (bin D.eq (nop (one D.len) (acons (getv 5) anil)) (bin D.add (getv 3) (cst (.int 1))))) (andt (tst (bin D.lt (getv 5) (getv 4))) (nott (tst (nop F_is_true (acons (getv 1) (acons (getv 5) anil))))))) (retF (cst (.bl false))) skp)
noncomputable def G_law_k13_L1 : En → M Fl := (sq (ifF (andt (tst (bin D.le (nop (one D.len) (acons (getv 5) anil)) (getv 3))) (nott (tst (nop F_is_true (acons (getv 1) (acons (getv 5) anil)))))) (retF (cst (.bl false))) skp) G_law_k13_L1_1)
noncomputable def G_law_k13_6 : En → M Fl := (sq (forF (itr D.items (nop F__law_sets_k05 (acons (getv 2) anil))) (tgN 5) G_law_k13_L1) G_law_k13_7)
noncomputable def G_law_k13_5 : En → M Fl := (sq (ifF (andt (tst (bin D.isn_ (getv 4) (cst .non))) (ort (tst (bin D.ne (nop (one D.len) (acons (getv 4) anil)) (bin D.add (getv 3) (cst (.int 1))))) (tst (bin D.eq (nop F_false_keys (acons (getv 1) (acons (getv 4) anil))) (nop mkLst anil))))) (retF (cst (.bl false))) skp) G_law_k13_6)
noncomputable def G_law_k13_4 : En → M Fl := (sq (ifF (ort (tst (bin D.ne (bin D.is_ (getv 4) (cst .non)) (bin D.eq (getv 3) (getv 2)))) (tst (bin D.lt (getv 3) (nop (two D.min2) (acons (cst (.int 2)) (acons (getv 2) anil)))))) (retF (cst (.bl false))) skp) G_law_k13_5)
noncomputable def G_law_k13_3 : En → M Fl := (sq (setF 4 (nop F_first_unsafe (acons (getv 1) anil))) G_law_k13_4)
noncomputable def G_law_k13_2 : En → M Fl := (sq (setF 3 (nop F_safe_rolls (acons (getv 1) anil))) G_law_k13_3)
noncomputable def G_law_k13_1 : En → M Fl := (sq (setF 2 (nop (one D.len) (acons (bin D.idx (getv 1) (cst (.int 0))) anil))) G_law_k13_2)
noncomputable def G_law_k13 : En → M Fl := (sq (setF 1 (nop F__law_square (acons (getv 0) (acons (cst (.int 0)) (acons (cst (.int 6)) anil))))) G_law_k13_1)
noncomputable def F_law_k13 : List D → M D := fnF 8 1 G_law_k13
noncomputable def G_fewest_diodes_3 : En → M Fl := (retF (cst .non))
noncomputable def G_fewest_diodes_L2 : En → M Fl := (ifF (tst (nop F_serves (acons (nop mkTup (acons (bin D.idx (getv 0) (cst (.int 0))) (acons (getv 3) anil))) (acons (getv 1) anil)))) (retF (getv 3)) skp)
noncomputable def G_fewest_diodes_L1 : En → M Fl := (forF (itr D.items (nop F_sets_of (acons (nop (one D.len) (acons (bin D.idx (getv 0) (cst (.int 0))) anil)) (acons (getv 2) anil)))) (tgN 3) G_fewest_diodes_L2)
noncomputable def G_fewest_diodes_2 : En → M Fl := (sq (forF (itr (on1 rng1) (acons (bin D.add (nop (one D.len) (acons (bin D.idx (getv 0) (cst (.int 0))) anil)) (cst (.int 1))) anil)) (tgN 2) G_fewest_diodes_L1) G_fewest_diodes_3)
noncomputable def G_fewest_diodes_1 : En → M Fl := (sq (expF (nop F_need_wish (acons (nop (one D.len) (acons (bin D.idx (getv 0) (cst (.int 0))) anil)) (acons (getv 1) anil)))) G_fewest_diodes_2)
noncomputable def G_fewest_diodes : En → M Fl := (sq (expF (nop F_need_square (acons (getv 0) anil))) G_fewest_diodes_1)
noncomputable def F_fewest_diodes : List D → M D := fnF 4 2 G_fewest_diodes
noncomputable def G_needless_diodes_4 : En → M Fl := (retF (lstF (compF (itr D.items (getv 2)) (tgT [3, 4]) [3, 4] (tst (nop F_serves (acons (nop mkTup (acons (bin D.idx (getv 0) (cst (.int 0))) (acons (getv 4) anil))) (acons (getv 1) anil)))) (getv 3))))
noncomputable def G_needless_diodes_3 : En → M Fl := (sq (setF 2 (lstF (compF (itr D.items (bin D.idx (getv 0) (cst (.int 1)))) (tgN 3) [3] always (nop mkTup (acons (getv 3) (acons (nop (one D.tuple) (acons (lstF (compF (itr D.items (bin D.idx (getv 0) (cst (.int 1)))) (tgN 5) [5] (tst (bin D.ne (getv 5) (getv 3))) (getv 5))) anil)) anil)))))) G_needless_diodes_4)
noncomputable def G_needless_diodes_2 : En → M Fl := (sq (ifF (nott (tst (nop F_serves (acons (getv 0) (acons (getv 1) anil))))) (retF (nop mkLst anil)) skp) G_needless_diodes_3)
noncomputable def G_needless_diodes_1 : En → M Fl := (sq (expF (nop F_need_wish (acons (nop (one D.len) (acons (bin D.idx (getv 0) (cst (.int 0))) anil)) (acons (getv 1) anil)))) G_needless_diodes_2)
noncomputable def G_needless_diodes : En → M Fl := (sq (expF (nop F_need_square (acons (getv 0) anil))) G_needless_diodes_1)
noncomputable def F_needless_diodes : List D → M D := fnF 6 2 G_needless_diodes
noncomputable def G__law_due_k20_3 : En → M Fl := (retF (nop mkLst (acons (getv 2) (acons (getv 3) anil))))
noncomputable def G__law_due_k20_L2_1 : En → M Fl := (setF 3 (bin D.add (getv 3) (bin D.mul (nop mkLst (acons (getv 4) anil)) (nop (one D.toI) (acons (nop F__law_serves_k02 (acons (nop mkTup (acons (bin D.idx (getv 0) (cst (.int 0))) (acons (getv 5) anil))) (acons (getv 1) anil))) anil)))))
noncomputable def G__law_due_k20_L2 : En → M Fl := (sq (setF 5 (nop (one D.tuple) (acons (lstF (compF (itr D.items (bin D.idx (getv 0) (cst (.int 1)))) (tgN 6) [6] (tst (bin D.ne (getv 6) (getv 4))) (getv 6))) anil))) G__law_due_k20_L2_1)
noncomputable def G__law_due_k20_L1 : En → M Fl := (forF (itr D.items (bin D.idx (getv 0) (cst (.int 1)))) (tgN 4) G__law_due_k20_L2)
noncomputable def G__law_due_k20_2 : En → M Fl := (sq (ifF (tst (nop F__law_serves_k02 (acons (getv 0) (acons (getv 1) anil)))) G__law_due_k20_L1 skp) G__law_due_k20_3)
noncomputable def G__law_due_k20_1 : En → M Fl := (sq (setF 3 (lstF (lim anil))) G__law_due_k20_2)
noncomputable def G__law_due_k20 : En → M Fl := (sq (setF 2 (bin D.idx (lstF (compF (itr D.items (nop F__law_every_k02 (acons (nop (one D.len) (acons (bin D.idx (getv 0) (cst (.int 0))) anil)) anil))) (tgN 5) [5] (tst (nop F__law_serves_k02 (acons (nop mkTup (acons (bin D.idx (getv 0) (cst (.int 0))) (acons (getv 5) anil))) (acons (getv 1) anil)))) (getv 5))) (cst (.int 0)))) G__law_due_k20_1)
noncomputable def F__law_due_k20 : List D → M D := fnF 7 2 G__law_due_k20
noncomputable def G__law_are_rolled_k21_7 : En → M Fl := (retF (andv (bin D.eq (getv 5) (nop (one D.srt) (acons (getv 5) anil))) (andv (bin D.eq (bin D.idx (getv 5) (un D.neg (cst (.int 1)))) (getv 2)) (bin D.eq (bin D.idx (getv 5) (cst (.int 0))) (nop F_safe_rolls (acons (nop F_with_diodes (acons (getv 0) (acons (nop mkTup anil) anil))) anil))))))
noncomputable def G__law_are_rolled_k21_6 : En → M Fl := (sq (setF 5 (lstF (compF (itr D.items (nop mkTup (acons (cst (.int 0)) (acons (cst (.int 1)) (acons (getv 2) anil))))) (tgN 6) [6] always (nop F_rolls_by_diodes (acons (getv 0) (acons (getv 6) anil)))))) G__law_are_rolled_k21_7)
noncomputable def G__law_are_rolled_k21_5 : En → M Fl := (sq (ifF (andt (tst (bin D.lt (getv 3) (getv 2))) (ort (tst (bin D.ne (nop (one D.len) (acons (getv 4) anil)) (bin D.add (getv 3) (cst (.int 1))))) (tst (nop F_is_served (acons (getv 0) (acons (nop mkTup (acons (getv 4) anil)) anil)))))) (retF (cst (.bl false))) skp) G__law_are_rolled_k21_6)
noncomputable def G__law_are_rolled_k21_4 : En → M Fl := (sq (setF 4 (nop F_first_unsafe (acons (getv 0) anil))) G__law_are_rolled_k21_5)
noncomputable def G__law_are_rolled_k21_3 : En → M Fl := (sq (ifF (tst (bin D.ne (bin D.is_ (nop F_first_unsafe (acons (getv 0) anil)) (cst .non)) (bin D.eq (getv 3) (getv 2)))) (retF (cst (.bl false))) skp) G__law_are_rolled_k21_4)
noncomputable def G__law_are_rolled_k21_2 : En → M Fl := (sq (ifF (tst (bin D.ne (lstF (compF (itr D.items (nop F_unserved (acons (getv 0) (acons (getv 1) anil)))) (tgN 7) [7] (tst (bin D.le (nop (one D.len) (acons (getv 7) anil)) (getv 3))) (getv 7))) (nop mkLst anil))) (retF (cst (.bl false))) skp) G__law_are_rolled_k21_3)
noncomputable def G__law_are_rolled_k21_1 : En → M Fl := (sq (setF 3 (nop F_safe_rolls (acons (getv 0) anil))) G__law_are_rolled_k21_2)
noncomputable def G__law_are_rolled_k21 : En → M Fl := (sq (setF 2 (nop (one D.len) (acons (bin D.idx (getv 0) (cst (.int 0))) anil))) G__law_are_rolled_k21_1)
noncomputable def F__law_are_rolled_k21 : List D → M D := fnF 8 2 G__law_are_rolled_k21
noncomputable def G_law_k21_16 : En → M Fl := (retF (nop F__law_are_rolled_k21 (acons (getv 1) (acons (getv 5) anil))))
noncomputable def G_law_k21_15 : En → M Fl := (sq (ifF (tst (bin D.ne (nop F_unserved (acons (getv 1) (acons (getv 5) anil))) (un D.srtSet (bin D.add (nop F_unserved (acons (getv 1) (acons (getv 3) anil))) (nop F_unserved (acons (getv 1) (acons (getv 4) anil))))))) (retF (cst (.bl false))) skp) G_law_k21_16)
noncomputable def G_law_k21_14 : En → M Fl := (sq (ifF (tst (bin D.lt (nop (one D.len) (acons (bin D.idx (getv 8) (cst (.int 1))) anil)) (nop (one D.len) (acons (nop F_fewest_diodes (acons (getv 1) (acons (getv 5) anil))) anil)))) (retF (cst (.bl false))) skp) G_law_k21_15)
noncomputable def G_law_k21_13 : En → M Fl := (sq (ifF (ort (nott (tst (nop F_is_served (acons (getv 8) (acons (getv 5) anil))))) (tst (bin D.ne (nop F_needless_diodes (acons (getv 8) (acons (getv 5) anil))) (nop mkLst anil)))) (retF (cst (.bl false))) skp) G_law_k21_14)
noncomputable def G_law_k21_L2 : En → M Fl := (setF 8 (nop F_with_diodes (acons (getv 8) (acons (nop (one D.tuple) (acons (lstF (compF (itr D.items (bin D.idx (getv 8) (cst (.int 1)))) (tgN 11) [11] (tst (bin D.ne (getv 11) (bin D.idx (getv 10) (cst (.int 0))))) (getv 11))) anil)) anil))))
noncomputable def G_law_k21_L1_1 : En → M Fl := (ifF (tst (bin D.ne (getv 10) (nop mkLst anil))) G_law_k21_L2 skp)
noncomputable def G_law_k21_L1 : En → M Fl := (sq (setF 10 (nop F_needless_diodes (acons (getv 8) (acons (getv 5) anil)))) G_law_k21_L1_1)
noncomputable def G_law_k21_12 : En → M Fl := (sq (forF (itr (on1 rng1) (acons (getv 2) anil)) (tgN 9) G_law_k21_L1) G_law_k21_13)
noncomputable def G_law_k21_11 : En → M Fl := (sq (setF 8 (nop F_with_diodes (acons (getv 1) (acons (lrg1 D.tup (getv 2)) anil)))) G_law_k21_12)
noncomputable def G_law_k21_10 : En → M Fl := (sq (ifF (andt (tst (nop F_is_served (acons (getv 1) (acons (getv 3) anil)))) (tst (bin D.lt (nop (one D.len) (acons (bin D.idx (getv 1) (cst (.int 1))) anil)) (nop (one D.len) (acons (getv 6) anil))))) (retF (cst (.bl false))) skp) G_law_k21_11)
noncomputable def G_law_k21_9 : En → M Fl := (sq (ifF (tst (bin D.lt (nop (one D.len) (acons (nop F_fewest_diodes (acons (getv 1) (acons (getv 5) anil))) anil)) (nop (two D.max2) (acons (nop (one D.len) (acons (getv 6) anil)) (acons (nop (one D.len) (acons (nop F_fewest_diodes (acons (getv 1) (acons (getv 4) anil))) anil)) anil))))) (retF (cst (.bl false))) skp) G_law_k21_10)
noncomputable def G_law_k21_8 : En → M Fl := (sq (ifF (ort (tst (bin D.ne (nop F_fewest_diodes (acons (getv 7) (acons (getv 3) anil))) (getv 6))) (tst (bin D.ne (nop F_fewest_diodes (acons (nop F_tight (acons (getv 1) anil)) (acons (getv 3) anil))) (getv 6)))) (retF (cst (.bl false))) skp) G_law_k21_9)
noncomputable def G_law_k21_7 : En → M Fl := (sq (ifF (ort (nott (tst (nop F_is_served (acons (getv 7) (acons (getv 3) anil))))) (ort (tst (bin D.ne (nop F_needless_diodes (acons (getv 7) (acons (getv 3) anil))) (nop mkLst anil))) (nott (tst (nop F_is_wish (acons (getv 2) (acons (getv 5) anil))))))) (retF (cst (.bl false))) skp) G_law_k21_8)
noncomputable def G_law_k21_6 : En → M Fl := (sq (setF 7 (nop F_with_diodes (acons (getv 1) (acons (getv 6) anil)))) G_law_k21_7)
noncomputable def G_law_k21_5 : En → M Fl := (sq (setF 6 (nop F_fewest_diodes (acons (getv 1) (acons (getv 3) anil)))) G_law_k21_6)
noncomputable def G_law_k21_4 : En → M Fl := (sq (setF 5 (nop (one D.tuple) (acons (un D.srtSet (bin D.add (getv 3) (getv 4))) anil))) G_law_k21_5)
noncomputable def G_law_k21_3 : En → M Fl := (sq (setF 4 (nop F__law_wish (acons (getv 0) (acons (cst (.int 150)) (acons (getv 2) (acons (cst (.int 3)) anil)))))) G_law_k21_4)
noncomputable def G_law_k21_2 : En → M Fl := (sq (setF 3 (nop F__law_wish (acons (getv 0) (acons (cst (.int 100)) (acons (getv 2) (acons (cst (.int 3)) anil)))))) G_law_k21_3)
noncomputable def G_law_k21_1 : En → M Fl := (sq (setF 2 (nop (one D.len) (acons (bin D.idx (getv 1) (cst (.int 0))) anil))) G_law_k21_2)
noncomputable def G_law_k21 : En → M Fl := (sq (setF 1 (nop F__law_square (acons (getv 0) (acons (cst (.int 0)) (acons (cst (.int 5)) anil))))) G_law_k21_1)
noncomputable def F_law_k21 : List D → M D := fnF 12 1 G_law_k21
noncomputable def G_law_k22_8 : En → M Fl := (retF (andv (bin D.eq (getv 7) (getv 2)) (bin D.eq (nop F_fewest_diodes (acons (getv 1) (acons (nop mkTup anil) anil))) (nop mkTup anil))))
noncomputable def G_law_k22_L1_2 : En → M Fl := (setF 7 (getv 12))
noncomputable def G_law_k22_L1_1 : En → M Fl := (sq (ifF (tst (bin D.lt (getv 12) (getv 7))) (retF (cst (.bl false))) skp) G_law_k22_L1_2)
noncomputable def G_law_k22_L1 : En → M Fl := (sq (setF 12 (nop F_rolls_by_diodes (acons (getv 1) (acons (getv 8) anil)))) G_law_k22_L1_1)
noncomputable def G_law_k22_7 : En → M Fl := (sq (forF (itr (on1 rng1) (acons (bin D.add (getv 2) (cst (.int 1))) anil)) (tgN 8) G_law_k22_L1) G_law_k22_8)
noncomputable def G_law_k22_6 : En → M Fl := (sq (setF 7 (cst (.int 0))) G_law_k22_7)
noncomputable def G_law_k22_L2_7 : En → M Fl := (ifF (tst (bin D.lt (nop F_rolls_by_diodes (acons (getv 1) (acons (nop (one D.len) (acons (getv 9) anil)) anil))) (nop F_safe_rolls (acons (getv 10) anil)))) (retF (cst (.bl false))) skp)
noncomputable def G_law_k22_L4_1 : En → M Fl := (ifF (andt (tst (nop F_is_served (acons (getv 12) (acons (getv 6) anil)))) (tst (bin D.ne (bin D.inn (getv 14) (getv 13)) (nop F_is_served (acons (getv 15) (acons (getv 6) anil)))))) (retF (cst (.bl false))) skp)
noncomputable def G_law_k22_L4 : En → M Fl := (sq (setF 15 (nop F_with_diodes (acons (getv 12) (acons (nop (one D.tuple) (acons (lstF (compF (itr D.items (bin D.idx (getv 12) (cst (.int 1)))) (tgN 16) [16] (tst (bin D.ne (getv 16) (getv 14))) (getv 16))) anil)) anil)))) G_law_k22_L4_1)
noncomputable def G_law_k22_L3_2 : En → M Fl := (forF (itr D.items (bin D.idx (getv 12) (cst (.int 1)))) (tgN 14) G_law_k22_L4)
noncomputable def G_law_k22_L3_1 : En → M Fl := (sq (ifF (andt (nott (tst (nop F_is_served (acons (getv 12) (acons (getv 6) anil))))) (tst (bin D.ne (getv 13) (nop mkLst anil)))) (retF (cst (.bl false))) skp) G_law_k22_L3_2)
noncomputable def G_law_k22_L3 : En → M Fl := (sq (setF 13 (nop F_needless_diodes (acons (getv 12) (acons (getv 6) anil)))) G_law_k22_L3_1)
noncomputable def G_law_k22_L2_6 : En → M Fl := (sq (forF (itr D.items (nop mkTup (acons (getv 1) (acons (getv 11) anil)))) (tgN 12) G_law_k22_L3) G_law_k22_L2_7)
noncomputable def G_law_k22_L2_5 : En → M Fl := (sq (setF 11 (nop F_with_diodes (acons (getv 1) (acons (lrg1 D.tup (getv 2)) anil)))) G_law_k22_L2_6)
noncomputable def G_law_k22_L2_4 : En → M Fl := (sq (ifF (tst (bin D.lt (nop (one D.len) (acons (nop F_fewest_diodes (acons (getv 1) (acons (getv 5) anil))) anil)) (nop (one D.len) (acons (getv 9) anil)))) (retF (cst (.bl false))) skp) G_law_k22_L2_5)
noncomputable def G_law_k22_L2_3 : En → M Fl := (sq (ifF (tst (bin D.ne (bin D.eq (getv 9) (nop mkTup anil)) (nop F_is_served (acons (nop F_with_diodes (acons (getv 1) (acons (nop mkTup anil) anil))) (acons (getv 6) anil))))) (retF (cst (.bl false))) skp) G_law_k22_L2_4)
noncomputable def G_law_k22_L2_2 : En → M Fl := (sq (ifF (ort (nott (tst (nop F_is_served (acons (getv 10) (acons (getv 6) anil))))) (tst (bin D.ne (nop F_needless_diodes (acons (getv 10) (acons (getv 6) anil))) (nop mkLst anil)))) (retF (cst (.bl false))) skp) G_law_k22_L2_3)
noncomputable def G_law_k22_L2_1 : En → M Fl := (sq (setF 10 (nop F_with_diodes (acons (getv 1) (acons (getv 9) anil)))) G_law_k22_L2_2)
noncomputable def G_law_k22_L2 : En → M Fl := (sq (setF 9 (nop F_fewest_diodes (acons (getv 1) (acons (getv 6) anil)))) G_law_k22_L2_1)
noncomputable def G_law_k22_5 : En → M Fl := (sq (forF (itr D.items (nop mkTup (acons (getv 3) (acons (getv 4) (acons (getv 5) anil))))) (tgN 6) G_law_k22_L2) G_law_k22_6)
noncomputable def G_law_k22_4 : En → M Fl := (sq (setF 5 (nop (one D.tuple) (acons (un D.srtSet (bin D.add (getv 3) (getv 4))) anil))) G_law_k22_5)
noncomputable def G_law_k22_3 : En → M Fl := (sq (setF 4 (nop F__law_wish (acons (getv 0) (acons (cst (.int 140)) (acons (getv 2) (acons (cst (.int 4)) anil)))))) G_law_k22_4)
noncomputable def G_law_k22_2 : En → M Fl := (sq (setF 3 (nop F__law_wish (acons (getv 0) (acons (cst (.int 80)) (acons (getv 2) (acons (cst (.int 4)) anil)))))) G_law_k22_3)
noncomputable def G_law_k22_1 : En → M Fl := (sq (setF 2 (nop (one D.len) (acons (bin D.idx (getv 1) (cst (.int 0))) anil))) G_law_k22_2)
noncomputable def G_law_k22 : En → M Fl := (sq (setF 1 (nop F__law_square (acons (getv 0) (acons (cst (.int 0)) (acons (cst (.int 4)) anil))))) G_law_k22_1)
noncomputable def F_law_k22 : List D → M D := fnF 17 1 G_law_k22
noncomputable def G_need_laid : En → M Fl := (ifF (nott (tst (nop F_is_number (acons (getv 0) (acons (cst (.int 1)) (acons (cst (.int 4)) anil)))))) (fun _ => M.raise "NoNumber") skp)
noncomputable def F_need_laid : List D → M D := fnF 1 1 G_need_laid
noncomputable def G__law_seen_k30_3 : En → M Fl := (retF (getv 2))
noncomputable def G__law_seen_k30_L1_3 : En → M Fl := (nodic 6 skp)
noncomputable def G__law_seen_k30_L1_2 : En → M Fl := (sq (setF 2 (bin D.add (getv 2) (bin D.mul (nop mkLst (acons (getv 3) anil)) (nop (one D.toI) (acons (innO 6 (nop mkTup (acons (cst (.str "column")) (acons (bin D.idx (bin D.idx (getv 4) (getv 3)) (cst (.int 1))) anil)))) anil))))) G__law_seen_k30_L1_3)
noncomputable def G__law_seen_k30_L4 : En → M Fl := (appF 6 (getv 9))
noncomputable def G__law_seen_k30_L3_3 : En → M Fl := (ifF (andt (tst (innO 6 (getv 10))) (andt (tst (ninO 6 (getv 9))) (tst (bin D.nin (getv 8) (getv 5))))) G__law_seen_k30_L4 skp)
noncomputable def G__law_seen_k30_L5 : En → M Fl := (appF 6 (getv 10))
noncomputable def G__law_seen_k30_L3_2 : En → M Fl := (sq (ifF (andt (tst (innO 6 (getv 9))) (tst (ninO 6 (getv 10)))) G__law_seen_k30_L5 skp) G__law_seen_k30_L3_3)
noncomputable def G__law_seen_k30_L3_1 : En → M Fl := (sq (setF 10 (nop mkTup (acons (cst (.str "column")) (acons (bin D.idx (bin D.idx (getv 4) (getv 8)) (cst (.int 1))) anil)))) G__law_seen_k30_L3_2)
noncomputable def G__law_seen_k30_L3 : En → M Fl := (sq (setF 9 (nop mkTup (acons (cst (.str "row")) (acons (bin D.idx (bin D.idx (getv 4) (getv 8)) (cst (.int 0))) anil)))) G__law_seen_k30_L3_1)
noncomputable def G__law_seen_k30_L2 : En → M Fl := (forF (itr D.items (getv 1)) (tgN 8) G__law_seen_k30_L3)
noncomputable def G__law_seen_k30_L1_1 : En → M Fl := (sq (forF (itr (on1 rng1) (acons (bin D.mul (cst (.int 2)) (nop (one D.len) (acons (getv 4) anil))) anil)) (tgN 7) G__law_seen_k30_L2) G__law_seen_k30_L1_2)
noncomputable def G__law_seen_k30_L1 : En → M Fl := (sq (setOF 6 (lim (acons (nop mkTup (acons (cst (.str "row")) (acons (bin D.idx (bin D.idx (getv 4) (getv 3)) (cst (.int 0))) anil))) anil))) G__law_seen_k30_L1_1)
noncomputable def G__law_seen_k30_2 : En → M Fl := (sq (forF (itr (on1 rng1) (acons (nop (one D.len) (acons (getv 4) anil)) anil)) (tgN 3) G__law_seen_k30_L1) G__law_seen_k30_3)
noncomputable def G__law_seen_k30_1 : En → M Fl := (sq (setF 2 (lstF (lim anil))) G__law_seen_k30_2)
noncomputable def G__law_seen_k30 : En → M Fl := (sq (setTF (tgT [4, 5]) (getv 0)) G__law_seen_k30_1)
noncomputable def F__law_seen_k30 : List D → M D := fnF 11 2 G__law_seen_k30
noncomputable def G__law_serves_k30 : En → M Fl := (retF (bin D.eq (lstF (compF (itr D.items (getv 1)) (tgN 2) [2] (tst (bin D.ne (nop F__law_seen_k30 (acons (getv 0) (acons (getv 2) anil))) (nop (one D.list) (acons (getv 2) anil)))) (getv 2))) (nop mkLst anil)))
noncomputable def F__law_serves_k30 : List D → M D := fnF 3 2 G__law_serves_k30
noncomputable def G__law_numbered_k30_2 : En → M Fl := (retF (nop (one D.tuple) (acons (lstF (compF (itr D.items (getv 0)) (tgN 2) [2] always (idxF (getv 1) (getv 2)))) anil)))
noncomputable def G__law_numbered_k30_L1 : En → M Fl := (setF 1 (bin D.add (getv 1) (bin D.mul (nop mkLst (acons (getv 2) anil)) (nop (one D.toI) (acons (bin D.nin (getv 2) (getv 1)) anil)))))
noncomputable def G__law_numbered_k30_1 : En → M Fl := (sq (forF (itr D.items (getv 0)) (tgN 2) G__law_numbered_k30_L1) G__law_numbered_k30_2)
noncomputable def G__law_numbered_k30 : En → M Fl := (sq (setF 1 (lstF (lim anil))) G__law_numbered_k30_1)
noncomputable def F__law_numbered_k30 : List D → M D := fnF 3 1 G__law_numbered_k30
noncomputable def G__law_layouts_k30_4 : En → M Fl := (nodic 3 (retF (nop (one D.srt) (acons (getv 3) anil))))
noncomputable def G__law_layouts_k30_L3 : En → M Fl := (appF 3 (nop mkTup (acons (bin D.add (un D.lenSet2 (getv 4)) (un D.lenSet2 (getv 6))) (acons (getv 8) anil))))
noncomputable def G__law_layouts_k30_L2_1 : En → M Fl := (ifF (tst (bin D.eq (un D.lenSet2 (getv 8)) (getv 0))) G__law_layouts_k30_L3 skp)
noncomputable def G__law_layouts_k30_L2 : En → M Fl := (sq (setF 8 (nop (one D.tuple) (acons (lstF (compF (itr (on1 rng1) (acons (getv 0) anil)) (tgN 2) [2] always (nop mkTup (acons (bin D.idx (getv 4) (getv 2)) (acons (bin D.idx (getv 6) (getv 2)) anil))))) anil))) G__law_layouts_k30_L2_1)
noncomputable def G__law_layouts_k30_L1 : En → M Fl := (forF (itr D.items (getv 1)) (tgN 6) G__law_layouts_k30_L2)
noncomputable def G__law_layouts_k30_3 : En → M Fl := (sq (forF (itr D.items (getv 1)) (tgN 4) G__law_layouts_k30_L1) G__law_layouts_k30_4)
noncomputable def G__law_layouts_k30_2 : En → M Fl := (sq (setOF 3 (lim anil)) G__law_layouts_k30_3)
noncomputable def G__law_layouts_k30_L4_2 : En → M Fl := (setF 1 (getv 5))
noncomputable def G__law_layouts_k30_L5_1 : En → M Fl := (setF 5 (bin D.add (getv 5) (lstF (compF (itr D.items (getv 7)) (tgN 10) [10] (tst (bin D.eq (nop F__law_numbered_k30 (acons (getv 10) anil)) (getv 10))) (getv 10)))))
noncomputable def G__law_layouts_k30_L5 : En → M Fl := (sq (setF 7 (lstF (compF (itr (on1 rng1) (acons (getv 0) anil)) (tgN 9) [9] always (bin D.add (getv 4) (nop mkTup (acons (getv 9) anil)))))) G__law_layouts_k30_L5_1)
noncomputable def G__law_layouts_k30_L4_1 : En → M Fl := (sq (forF (itr D.items (getv 1)) (tgN 4) G__law_layouts_k30_L5) G__law_layouts_k30_L4_2)
noncomputable def G__law_layouts_k30_L4 : En → M Fl := (sq (setF 5 (lstF (lim anil))) G__law_layouts_k30_L4_1)
noncomputable def G__law_layouts_k30_1 : En → M Fl := (sq (forF (itr (on1 rng1) (acons (getv 0) anil)) (tgN 2) G__law_layouts_k30_L4) G__law_layouts_k30_2)
noncomputable def G__law_layouts_k30 : En → M Fl := (sq (setF 1 (lstF (lim (acons (nop mkTup anil) anil)))) G__law_layouts_k30_1)
noncomputable def F__law_layouts_k30 : List D → M D := fnF 11 1 G__law_layouts_k30
noncomputable def G__law_best_k30_1 : En → M Fl := (retF (cst .non))
noncomputable def G__law_best_k30_L2 : En → M Fl := (ifF (andt (tst (bin D.le (nop (one D.len) (acons (getv 5) anil)) (getv 2))) (tst (nop F__law_serves_k30 (acons (nop mkTup (acons (getv 4) (acons (getv 5) anil))) (acons (getv 1) anil))))) (retF (nop mkTup (acons (getv 3) (acons (nop mkTup (acons (getv 4) (acons (getv 5) anil))) anil)))) skp)
noncomputable def G__law_best_k30_L1 : En → M Fl := (forF (itr D.items (nop F__law_every_k02 (acons (getv 0) anil))) (tgN 5) G__law_best_k30_L2)
noncomputable def G__law_best_k30 : En → M Fl := (sq (forF (itr D.items (nop F__law_layouts_k30 (acons (getv 0) anil))) (tgT [3, 4]) G__law_best_k30_L1) G__law_best_k30_1)
noncomputable def F__law_best_k30 : List D → M D := fnF 6 3 G__law_best_k30
noncomputable def G__law_numbered_k31_4 : En → M Fl := (retF (getv 3))
noncomputable def G__law_numbered_k31_L1_2 : En → M Fl := (setF 3 (bin D.add (getv 3) (nop mkTup (acons (nop mkTup (acons (idxF (getv 1) (getv 4)) (acons (idxF (getv 2) (getv 5)) anil))) anil))))
noncomputable def G__law_numbered_k31_L1_1 : En → M Fl := (sq (setF 2 (bin D.add (getv 2) (bin D.mul (nop mkLst (acons (getv 5) anil)) (nop (one D.toI) (acons (bin D.nin (getv 5) (getv 2)) anil))))) G__law_numbered_k31_L1_2)
noncomputable def G__law_numbered_k31_L1 : En → M Fl := (sq (setF 1 (bin D.add (getv 1) (bin D.mul (nop mkLst (acons (getv 4) anil)) (nop (one D.toI) (acons (bin D.nin (getv 4) (getv 1)) anil))))) G__law_numbered_k31_L1_1)
noncomputable def G__law_numbered_k31_3 : En → M Fl := (sq (forF (itr D.items (getv 0)) (tgT [4, 5]) G__law_numbered_k31_L1) G__law_numbered_k31_4)
noncomputable def G__law_numbered_k31_2 : En → M Fl := (sq (setF 3 (nop mkTup anil)) G__law_numbered_k31_3)
noncomputable def G__law_numbered_k31_1 : En → M Fl := (sq (setF 2 (lstF (lim anil))) G__law_numbered_k31_2)
noncomputable def G__law_numbered_k31 : En → M Fl := (sq (setF 1 (lstF (lim anil))) G__law_numbered_k31_1)
noncomputable def F__law_numbered_k31 : List D → M D := fnF 6 1 G__law_numbered_k31
noncomputable def G__law_named_k32_4 : En → M Fl := (nodic 3 (retF (nop (one D.tuple) (acons (getv 3) anil))))
noncomputable def G__law_named_k32_L1_2 : En → M Fl := (appF 3 (nop mkTup (acons (idxF (getv 1) (getv 4)) (acons (idxF (getv 2) (getv 5)) anil))))
noncomputable def G__law_named_k32_L1_1 : En → M Fl := (sq (setF 2 (bin D.add (getv 2) (bin D.mul (nop mkLst (acons (getv 5) anil)) (nop (one D.toI) (acons (bin D.nin (getv 5) (getv 2)) anil))))) G__law_named_k32_L1_2)
noncomputable def G__law_named_k32_L1 : En → M Fl := (sq (setF 1 (bin D.add (getv 1) (bin D.mul (nop mkLst (acons (getv 4) anil)) (nop (one D.toI) (acons (bin D.nin (getv 4) (getv 1)) anil))))) G__law_named_k32_L1_1)
noncomputable def G__law_named_k32_3 : En → M Fl := (sq (forF (itr D.items (getv 0)) (tgT [4, 5]) G__law_named_k32_L1) G__law_named_k32_4)
noncomputable def G__law_named_k32_2 : En → M Fl := (sq (setOF 3 (lim anil)) G__law_named_k32_3)
noncomputable def G__law_named_k32_1 : En → M Fl := (sq (setF 2 (lstF (lim anil))) G__law_named_k32_2)
noncomputable def G__law_named_k32 : En → M Fl := (sq (setF 1 (lstF (lim anil))) G__law_named_k32_1)
noncomputable def F__law_named_k32 : List D → M D := fnF 6 1 G__law_named_k32
noncomputable def G_leads_2 : En → M Fl := (retF (ifx (tst (bin D.inn (getv 1) (bin D.idx (getv 0) (cst (.int 1))))) (cst .non) (nop mkTup (acons (nop mkTup (acons (cst (.str "column")) (acons (getv 4) anil))) (acons (nop mkTup (acons (cst (.str "row")) (acons (getv 3) anil))) anil)))))
noncomputable def G_leads_1 : En → M Fl := (sq (ifF (tst (bin D.eq (getv 2) (cst (.int 0)))) (retF (nop mkTup (acons (nop mkTup (acons (cst (.str "row")) (acons (getv 3) anil))) (acons (nop mkTup (acons (cst (.str "column")) (acons (getv 4) anil))) anil)))) skp) G_leads_2)
noncomputable def G_leads : En → M Fl := (sq (setTF (tgT [3, 4]) (bin D.idx (bin D.idx (getv 0) (cst (.int 0))) (getv 1))) G_leads_1)
noncomputable def F_leads : List D → M D := fnF 5 3 G_leads
noncomputable def G_shows_3 : En → M Fl := (retF (bin D.eq (getv 4) (nop mkTup (acons (cst (.str "column")) (acons (bin D.idx (bin D.idx (bin D.idx (getv 0) (cst (.int 0))) (getv 2)) (cst (.int 1))) anil)))))
noncomputable def G_shows_L1_3 : En → M Fl := (setF 4 (bin D.idx (getv 7) (cst (.int 1))))
noncomputable def G_shows_L1_2 : En → M Fl := (sq (ifF (ort (tst (bin D.is_ (getv 7) (cst .non))) (tst (bin D.ne (bin D.idx (getv 7) (cst (.int 0))) (getv 4)))) (retF (cst (.bl false))) skp) G_shows_L1_3)
noncomputable def G_shows_L1_1 : En → M Fl := (sq (setF 7 (nop F_leads (acons (getv 0) (acons (getv 6) (acons (bin D.mod (getv 5) (cst (.int 2))) anil))))) G_shows_L1_2)
noncomputable def G_shows_L1 : En → M Fl := (sq (ifF (ort (nott (tst (nop F_is_number (acons (getv 6) (acons (cst (.int 0)) (acons (bin D.sub (nop (one D.len) (acons (bin D.idx (getv 0) (cst (.int 0))) anil)) (cst (.int 1))) anil)))))) (tst (bin D.nin (getv 6) (getv 1)))) (retF (cst (.bl false))) skp) G_shows_L1_1)
noncomputable def G_shows_2 : En → M Fl := (sq (forF (itr (on1 D.enum) (acons (getv 3) anil)) (tgT [5, 6]) G_shows_L1) G_shows_3)
noncomputable def G_shows_1 : En → M Fl := (sq (setF 4 (nop mkTup (acons (cst (.str "row")) (acons (bin D.idx (bin D.idx (bin D.idx (getv 0) (cst (.int 0))) (getv 2)) (cst (.int 0))) anil)))) G_shows_2)
noncomputable def G_shows : En → M Fl := (sq (ifF (ort (nott (tst (isiN "tuple" (getv 3)))) (tst (bin D.eq (bin D.mod (nop (one D.len) (acons (getv 3) anil)) (cst (.int 2))) (cst (.int 0))))) (retF (cst (.bl false))) skp) G_shows_1)
noncomputable def F_shows : List D → M D := fnF 8 4 G_shows
noncomputable def G_is_paper_3 : En → M Fl := (retF (nop F_shows (acons (getv 0) (acons (getv 1) (acons (getv 2) (acons (getv 3) anil))))))
noncomputable def G_is_paper_2 : En → M Fl := (sq (ifF (ort (nott (tst (nop F_is_number (acons (getv 2) (acons (cst (.int 0)) (acons (bin D.sub (nop (one D.len) (acons (bin D.idx (getv 0) (cst (.int 0))) anil)) (cst (.int 1))) anil)))))) (tst (bin D.inn (getv 2) (getv 1)))) (retF (cst (.bl false))) skp) G_is_paper_3)
noncomputable def G_is_paper_1 : En → M Fl := (sq (expF (nop F_need_keys (acons (getv 0) (acons (getv 1) anil)))) G_is_paper_2)
noncomputable def G_is_paper : En → M Fl := (sq (expF (nop F_need_square (acons (getv 0) anil))) G_is_paper_1)
noncomputable def F_is_paper : List D → M D := fnF 4 4 G_is_paper
noncomputable def G_steps_from_4 : En → M Fl := (nodic 5 (retF (getv 5)))
noncomputable def G_steps_from_L2 : En → M Fl := (appF 5 (nop mkTup (acons (bin D.add (getv 3) (nop mkTup (acons (getv 6) anil))) (acons (bin D.idx (getv 8) (cst (.int 1))) anil))))
noncomputable def G_steps_from_L1_1 : En → M Fl := (ifF (andt (tst (bin D.isn_ (getv 8) (cst .non))) (tst (bin D.eq (bin D.idx (getv 8) (cst (.int 0))) (getv 4)))) G_steps_from_L2 skp)
noncomputable def G_steps_from_L1 : En → M Fl := (sq (setF 8 (nop F_leads (acons (getv 0) (acons (getv 6) (acons (bin D.mod (nop (one D.len) (acons (getv 3) anil)) (cst (.int 2))) anil))))) G_steps_from_L1_1)
noncomputable def G_steps_from_3 : En → M Fl := (sq (forF (itr D.items (getv 1)) (tgN 6) G_steps_from_L1) G_steps_from_4)
noncomputable def G_steps_from_2 : En → M Fl := (sq (setOF 5 (lim anil)) G_steps_from_3)
noncomputable def G_steps_from_L3 : En → M Fl := (setF 4 (bin D.idx (nop F_leads (acons (getv 0) (acons (getv 6) (acons (bin D.mod (getv 7) (cst (.int 2))) anil)))) (cst (.int 1))))
noncomputable def G_steps_from_1 : En → M Fl := (sq (forF (itr (on1 D.enum) (acons (getv 3) anil)) (tgT [7, 6]) G_steps_from_L3) G_steps_from_2)
noncomputable def G_steps_from : En → M Fl := (sq (setF 4 (nop mkTup (acons (cst (.str "row")) (acons (bin D.idx (bin D.idx (bin D.idx (getv 0) (cst (.int 0))) (getv 2)) (cst (.int 0))) anil)))) G_steps_from_1)
noncomputable def F_steps_from : List D → M D := fnF 9 4 G_steps_from
noncomputable def G__law_steps_k40_2 : En → M Fl := (nodic 3 (retF (getv 3)))
noncomputable def G__law_steps_k40_L2 : En → M Fl := (appF 3 (nop mkTup (acons (getv 4) (acons (getv 5) anil))))
noncomputable def G__law_steps_k40_L1_3 : En → M Fl := (ifF (andt (tst (bin D.eq (getv 2) (getv 6))) (tst (bin D.nin (getv 4) (bin D.idx (getv 0) (cst (.int 1)))))) G__law_steps_k40_L2 skp)
noncomputable def G__law_steps_k40_L3 : En → M Fl := (appF 3 (nop mkTup (acons (getv 4) (acons (getv 6) anil))))
noncomputable def G__law_steps_k40_L1_2 : En → M Fl := (sq (ifF (tst (bin D.eq (getv 2) (getv 5))) G__law_steps_k40_L3 skp) G__law_steps_k40_L1_3)
noncomputable def G__law_steps_k40_L1_1 : En → M Fl := (sq (setF 6 (nop mkTup (acons (cst (.str "column")) (acons (bin D.idx (bin D.idx (bin D.idx (getv 0) (cst (.int 0))) (getv 4)) (cst (.int 1))) anil)))) G__law_steps_k40_L1_2)
noncomputable def G__law_steps_k40_L1 : En → M Fl := (sq (setF 5 (nop mkTup (acons (cst (.str "row")) (acons (bin D.idx (bin D.idx (bin D.idx (getv 0) (cst (.int 0))) (getv 4)) (cst (.int 0))) anil)))) G__law_steps_k40_L1_1)
noncomputable def G__law_steps_k40_1 : En → M Fl := (sq (forF (itr D.items (getv 1)) (tgN 4) G__law_steps_k40_L1) G__law_steps_k40_2)
noncomputable def G__law_steps_k40 : En → M Fl := (sq (setOF 3 (lim anil)) G__law_steps_k40_1)
noncomputable def F__law_steps_k40 : List D → M D := fnF 7 3 G__law_steps_k40
noncomputable def G__law_paper_k40_2 : En → M Fl := (retF (cst .non))
noncomputable def G__law_paper_k40_L2_1 : En → M Fl := (ifB 3 (tst (bin D.nin (getv 7) (lstF (compF (itr D.items (getv 3)) (tgN 8) [8] always (bin D.idx (getv 8) (cst (.int 1))))))) (appF 3 (nop mkTup (acons (getv 6) (acons (getv 7) anil)))) skp)
noncomputable def G__law_paper_k40_L2 : En → M Fl := (sq (ifF (tst (bin D.eq (getv 7) (nop mkTup (acons (cst (.str "column")) (acons (bin D.idx (bin D.idx (bin D.idx (getv 0) (cst (.int 0))) (getv 2)) (cst (.int 1))) anil))))) (retF (getv 6)) skp) G__law_paper_k40_L2_1)
noncomputable def G__law_paper_k40_L1_3 : En → M Fl := (forF (itr D.items (nop (one D.srt) (acons (getv 5) anil))) (tgT [6, 7]) G__law_paper_k40_L2)
noncomputable def G__law_paper_k40_L1_2 : En → M Fl := (sq (setOF 3 (lim anil)) G__law_paper_k40_L1_3)
noncomputable def G__law_paper_k40_L3 : En → M Fl := (setF 5 (bin D.add (getv 5) (lstF (compF (itr D.items (nop F__law_steps_k40 (acons (getv 0) (acons (getv 1) (acons (getv 7) anil))))) (tgT [9, 10]) [9, 10] always (nop mkTup (acons (bin D.add (getv 6) (nop mkTup (acons (getv 9) anil))) (acons (getv 10) anil)))))))
noncomputable def G__law_paper_k40_L1_1 : En → M Fl := (nodic 3 (sq (forF (itr D.items (getv 3)) (tgT [6, 7]) G__law_paper_k40_L3) G__law_paper_k40_L1_2))
noncomputable def G__law_paper_k40_L1 : En → M Fl := (sq (setF 5 (lstF (lim anil))) G__law_paper_k40_L1_1)
noncomputable def G__law_paper_k40_1 : En → M Fl := (sq (forF (itr (on1 rng1) (acons (bin D.mul (cst (.int 2)) (nop (one D.len) (acons (bin D.idx (getv 0) (cst (.int 0))) anil))) anil)) (tgN 4) G__law_paper_k40_L1) G__law_paper_k40_2)
noncomputable def G__law_paper_k40 : En → M Fl := (sq (setOF 3 (lim (acons (nop mkTup (acons (nop mkTup anil) (acons (nop mkTup (acons (cst (.str "row")) (acons (bin D.idx (bin D.idx (bin D.idx (getv 0) (cst (.int 0))) (getv 2)) (cst (.int 0))) anil))) anil))) anil))) G__law_paper_k40_1)
noncomputable def F__law_paper_k40 : List D → M D := fnF 11 3 G__law_paper_k40
noncomputable def G__law_is_paper_k40_5 : En → M Fl := (retF (bin D.eq (getv 5) (nop mkTup (acons (cst (.str "column")) (acons (bin D.idx (bin D.idx (bin D.idx (getv 0) (cst (.int 0))) (getv 2)) (cst (.int 1))) anil)))))
noncomputable def G__law_is_paper_k40_L1_3 : En → M Fl := (setF 5 (bin D.idx (getv 7) (cst (.int 0))))
noncomputable def G__law_is_paper_k40_L1_2 : En → M Fl := (sq (ifF (tst (bin D.eq (getv 7) (nop mkLst anil))) (retF (cst (.bl false))) skp) G__law_is_paper_k40_L1_3)
noncomputable def G__law_is_paper_k40_L1_1 : En → M Fl := (sq (setF 7 (lstF (compF (itr D.items (nop F__law_steps_k40 (acons (getv 0) (acons (getv 1) (acons (getv 5) anil))))) (tgT [8, 9]) [8, 9] (tst (bin D.eq (getv 8) (getv 6))) (getv 9)))) G__law_is_paper_k40_L1_2)
noncomputable def G__law_is_paper_k40_L1 : En → M Fl := (sq (ifF (ort (tst (isiN "bool" (getv 6))) (nott (tst (isiN "int" (getv 6))))) (retF (cst (.bl false))) skp) G__law_is_paper_k40_L1_1)
noncomputable def G__law_is_paper_k40_4 : En → M Fl := (sq (forF (itr D.items (getv 3)) (tgN 6) G__law_is_paper_k40_L1) G__law_is_paper_k40_5)
noncomputable def G__law_is_paper_k40_3 : En → M Fl := (sq (setF 5 (nop mkTup (acons (cst (.str "row")) (acons (bin D.idx (bin D.idx (bin D.idx (getv 0) (cst (.int 0))) (getv 2)) (cst (.int 0))) anil)))) G__law_is_paper_k40_4)
noncomputable def G__law_is_paper_k40_2 : En → M Fl := (sq (ifF (ort (nott (tst (isiN "tuple" (getv 3)))) (tst (bin D.eq (getv 3) (nop mkTup anil)))) (retF (cst (.bl false))) skp) G__law_is_paper_k40_3)
noncomputable def G__law_is_paper_k40_1 : En → M Fl := (sq (ifF (ort (tst (isiN "bool" (getv 2))) (ort (nott (tst (isiN "int" (getv 2)))) (ort (nott (tst (chn D.le D.lt (cst (.int 0)) (getv 2) (getv 4)))) (tst (bin D.inn (getv 2) (getv 1)))))) (retF (cst (.bl false))) skp) G__law_is_paper_k40_2)
noncomputable def G__law_is_paper_k40 : En → M Fl := (sq (setF 4 (nop (one D.len) (acons (bin D.idx (getv 0) (cst (.int 0))) anil))) G__law_is_paper_k40_1)
noncomputable def F__law_is_paper_k40 : List D → M D := fnF 10 4 G__law_is_paper_k40
noncomputable def G__law_text_k50_2 : En → M Fl := (retF (getv 1))
noncomputable def G__law_text_k50_L1_1 : En → M Fl := (setF 1 (bin D.add (getv 1) (bin D.mul (cst (.str "*")) (nop (one D.toI) (acons (bin D.inn (getv 2) (bin D.idx (getv 0) (cst (.int 1)))) anil)))))
noncomputable def G__law_text_k50_L1 : En → M Fl := (sq (setF 1 (bin D.add (bin D.add (bin D.add (getv 1) (bin D.mul (cst (.str " ")) (nop (one D.toI) (acons (bin D.gt (getv 2) (cst (.int 0))) anil)))) (bin D.idx (cst (.str "abcdef")) (bin D.idx (getv 3) (cst (.int 0))))) (nop (one D.toS) (acons (bin D.add (bin D.idx (getv 3) (cst (.int 1))) (cst (.int 1))) anil)))) G__law_text_k50_L1_1)
noncomputable def G__law_text_k50_1 : En → M Fl := (sq (forF (itr (on1 D.enum) (acons (bin D.idx (getv 0) (cst (.int 0))) anil)) (tgT [2, 3]) G__law_text_k50_L1) G__law_text_k50_2)
noncomputable def G__law_text_k50 : En → M Fl := (sq (setF 1 (cst (.str ""))) G__law_text_k50_1)
noncomputable def F__law_text_k50 : List D → M D := fnF 4 1 G__law_text_k50
noncomputable def G_renumbered_5 : En → M Fl := (retF (nop mkTup (acons (getv 3) (acons (nop (one D.tuple) (acons (lstF (compF (itr (on1 D.enum) (acons (getv 1) anil)) (tgT [6, 4]) [4, 6] (tst (bin D.inn (getv 4) (bin D.idx (getv 0) (cst (.int 1))))) (getv 6))) anil)) anil))))
noncomputable def G_renumbered_4 : En → M Fl := (sq (setF 3 (nop (one D.tuple) (acons (lstF (compF (itr D.items (getv 1)) (tgN 4) [4] always (bin D.idx (bin D.idx (getv 0) (cst (.int 0))) (getv 4)))) anil))) G_renumbered_5)
noncomputable def G_renumbered_3 : En → M Fl := (sq (ifF (tst (bin D.ne (nop (one D.srt) (acons (getv 1) anil)) (lrg1 D.lst (getv 2)))) (fun _ => M.raise "NoKeys") skp) G_renumbered_4)
noncomputable def G_renumbered_2 : En → M Fl := (sq (ifF (ort (nott (tst (isiN "tuple" (getv 1)))) (nott (tst (nop (one D.all) (acons (lstF (compF (itr D.items (getv 1)) (tgN 5) [5] always (nop F_is_number (acons (getv 5) (acons (cst (.int 0)) (acons (bin D.sub (getv 2) (cst (.int 1))) anil)))))) anil))))) (fun _ => M.raise "NoKeys") skp) G_renumbered_3)
noncomputable def G_renumbered_1 : En → M Fl := (sq (setF 2 (nop (one D.len) (acons (bin D.idx (getv 0) (cst (.int 0))) anil))) G_renumbered_2)
noncomputable def G_renumbered : En → M Fl := (sq (expF (nop F_need_square (acons (getv 0) anil))) G_renumbered_1)
noncomputable def F_renumbered : List D → M D := fnF 7 2 G_renumbered
noncomputable def G_all_sets_2 : En → M Fl := (nodic 1 (retF (nop (one D.srt) (acons (getv 1) anil))))
noncomputable def G_all_sets_L1 : En → M Fl := (extF 1 (nop F_sets_of (acons (getv 0) (acons (getv 2) anil))))
noncomputable def G_all_sets_1 : En → M Fl := (sq (forF (itr (on1 rng1) (acons (bin D.add (getv 0) (cst (.int 1))) anil)) (tgN 2) G_all_sets_L1) G_all_sets_2)
noncomputable def G_all_sets : En → M Fl := (sq (setOF 1 (lim anil)) G_all_sets_1)
noncomputable def F_all_sets : List D → M D := fnF 3 1 G_all_sets
noncomputable def G_sets_seen_so : En → M Fl := (retF (lstF (compF (itr D.items (nop F_all_sets (acons (nop (one D.len) (acons (bin D.idx (getv 0) (cst (.int 0))) anil)) anil))) (tgN 2) [2] (tst (bin D.eq (nop F_keys_seen (acons (getv 0) (acons (getv 2) anil))) (nop (one D.list) (acons (getv 1) anil)))) (getv 2))))
noncomputable def F_sets_seen_so : List D → M D := fnF 3 2 G_sets_seen_so
noncomputable def G_could_be_2 : En → M Fl := (retF (nop F_sets_seen_so (acons (getv 0) (acons (getv 1) anil))))
noncomputable def G_could_be_1 : En → M Fl := (sq (expF (nop F_need_keys (acons (getv 0) (acons (getv 1) anil)))) G_could_be_2)
noncomputable def G_could_be : En → M Fl := (sq (expF (nop F_need_square (acons (getv 0) anil))) G_could_be_1)
noncomputable def F_could_be : List D → M D := fnF 2 2 G_could_be
noncomputable def G_sure : En → M Fl := (retF (bin D.eq (nop F_sets_seen_so (acons (getv 0) (acons (nop F_keys_seen (acons (getv 0) (acons (getv 1) anil))) anil))) (nop mkLst (acons (getv 1) anil))))
noncomputable def F_sure : List D → M D := fnF 2 2 G_sure
noncomputable def G_is_sure_2 : En → M Fl := (retF (nop F_sure (acons (getv 0) (acons (getv 1) anil))))
noncomputable def G_is_sure_1 : En → M Fl := (sq (expF (nop F_need_keys (acons (getv 0) (acons (getv 1) anil)))) G_is_sure_2)
noncomputable def G_is_sure : En → M Fl := (sq (expF (nop F_need_square (acons (getv 0) anil))) G_is_sure_1)
noncomputable def F_is_sure : List D → M D := fnF 2 2 G_is_sure
noncomputable def G_all_wires_1 : En → M Fl := (retF (bin D.add (lstF (compF (itr D.items (getv 2)) (tgN 3) [3] always (nop mkTup (acons (cst (.str "column")) (acons (getv 3) anil))))) (lstF (compF (itr D.items (getv 1)) (tgN 3) [3] always (nop mkTup (acons (cst (.str "row")) (acons (getv 3) anil)))))))
noncomputable def G_all_wires : En → M Fl := (sq (setTF (tgT [1, 2]) (nop F_wires_of (acons (bin D.idx (getv 0) (cst (.int 0))) anil))) G_all_wires_1)
noncomputable def F_all_wires : List D → M D := fnF 4 1 G_all_wires
noncomputable def G_wires_on_1 : En → M Fl := (retF (nop F_all_wires (acons (getv 0) anil)))
noncomputable def G_wires_on : En → M Fl := (sq (expF (nop F_need_square (acons (getv 0) anil))) G_wires_on_1)
noncomputable def F_wires_on : List D → M D := fnF 1 1 G_wires_on
noncomputable def G_is_wire_1 : En → M Fl := (retF (andv (nop F_is_number (acons (bin D.idx (getv 1) (cst (.int 1))) (acons (cst (.int 0)) (acons (cst (.int 5)) anil)))) (bin D.inn (getv 1) (nop F_all_wires (acons (getv 0) anil)))))
noncomputable def G_is_wire : En → M Fl := (sq (ifF (ort (nott (tst (isiN "tuple" (getv 1)))) (ort (tst (bin D.ne (nop (one D.len) (acons (getv 1) anil)) (cst (.int 2)))) (nott (tst (isiN "str" (bin D.idx (getv 1) (cst (.int 0)))))))) (retF (cst (.bl false))) skp) G_is_wire_1)
noncomputable def F_is_wire : List D → M D := fnF 2 2 G_is_wire
noncomputable def G_need_broken_1 : En → M Fl := (ifF (nott (tst (nop (one D.all) (acons (lstF (compF (itr (on2 D.zip) (acons (getv 1) (acons (slc (getv 1) (part (cst (.int 1))) nopart) anil))) (tgT [2, 3]) [2, 3] always (bin D.lt (getv 2) (getv 3)))) anil)))) (fun _ => M.raise "NoWire") skp)
noncomputable def G_need_broken : En → M Fl := (sq (ifF (ort (nott (tst (isiN "tuple" (getv 1)))) (nott (tst (nop (one D.all) (acons (lstF (compF (itr D.items (getv 1)) (tgN 2) [2] always (nop F_is_wire (acons (getv 0) (acons (getv 2) anil))))) anil))))) (fun _ => M.raise "NoWire") skp) G_need_broken_1)
noncomputable def F_need_broken : List D → M D := fnF 4 2 G_need_broken
noncomputable def G_is_dead_1 : En → M Fl := (retF (orv (bin D.inn (nop mkTup (acons (cst (.str "row")) (acons (getv 3) anil))) (getv 1)) (bin D.inn (nop mkTup (acons (cst (.str "column")) (acons (getv 4) anil))) (getv 1))))
noncomputable def G_is_dead : En → M Fl := (sq (setTF (tgT [3, 4]) (bin D.idx (bin D.idx (getv 0) (cst (.int 0))) (getv 2))) G_is_dead_1)
noncomputable def F_is_dead : List D → M D := fnF 5 3 G_is_dead
noncomputable def G_live_seen_1 : En → M Fl := (retF (lstF (compF (itr D.items (nop F_keys_seen (acons (getv 0) (acons (getv 3) anil)))) (tgN 4) [4] (nott (tst (nop F_is_dead (acons (getv 0) (acons (getv 1) (acons (getv 4) anil)))))) (getv 4))))
noncomputable def G_live_seen : En → M Fl := (sq (setF 3 (nop (one D.tuple) (acons (lstF (compF (itr D.items (getv 2)) (tgN 4) [4] (nott (tst (nop F_is_dead (acons (getv 0) (acons (getv 1) (acons (getv 4) anil)))))) (getv 4))) anil))) G_live_seen_1)
noncomputable def F_live_seen : List D → M D := fnF 5 3 G_live_seen
noncomputable def G_seen_broken_3 : En → M Fl := (retF (nop F_live_seen (acons (getv 0) (acons (getv 1) (acons (getv 2) anil)))))
noncomputable def G_seen_broken_2 : En → M Fl := (sq (expF (nop F_need_keys (acons (getv 0) (acons (getv 2) anil)))) G_seen_broken_3)
noncomputable def G_seen_broken_1 : En → M Fl := (sq (expF (nop F_need_broken (acons (getv 0) (acons (getv 1) anil)))) G_seen_broken_2)
noncomputable def G_seen_broken : En → M Fl := (sq (expF (nop F_need_square (acons (getv 0) anil))) G_seen_broken_1)
noncomputable def F_seen_broken : List D → M D := fnF 3 3 G_seen_broken
noncomputable def G_dead_keys_2 : En → M Fl := (retF (lstF (compF (itr (on1 rng1) (acons (nop (one D.len) (acons (bin D.idx (getv 0) (cst (.int 0))) anil)) anil)) (tgN 2) [2] (tst (nop F_is_dead (acons (getv 0) (acons (getv 1) (acons (getv 2) anil))))) (getv 2))))
noncomputable def G_dead_keys_1 : En → M Fl := (sq (expF (nop F_need_broken (acons (getv 0) (acons (getv 1) anil)))) G_dead_keys_2)
noncomputable def G_dead_keys : En → M Fl := (sq (expF (nop F_need_square (acons (getv 0) anil))) G_dead_keys_1)
noncomputable def F_dead_keys : List D → M D := fnF 3 2 G_dead_keys
noncomputable def G_law_k75_5 : En → M Fl := (retF (bin D.eq (nop F_dead_keys (acons (getv 1) (acons (nop (one D.tuple) (acons (getv 3) anil)) anil))) (lrg1 D.lst (getv 2))))
noncomputable def G_law_k75_L1_13 : En → M Fl := (ifF (tst (bin D.ne (lstF (compF (itr D.items (getv 9)) (tgN 14) [14] (tst (bin D.nin (getv 14) (nop F_seen (acons (getv 1) (acons (getv 11) anil))))) (getv 14))) (nop mkLst anil))) (retF (cst (.bl false))) skp)
noncomputable def G_law_k75_L1_12 : En → M Fl := (sq (ifF (tst (bin D.ne (nop F_seen_broken (acons (getv 1) (acons (getv 6) (acons (getv 11) anil)))) (getv 9))) (retF (cst (.bl false))) skp) G_law_k75_L1_13)
noncomputable def G_law_k75_L1_11 : En → M Fl := (sq (setF 11 (nop (one D.tuple) (acons (lstF (compF (itr D.items (getv 5)) (tgN 14) [14] (tst (bin D.nin (getv 14) (getv 10))) (getv 14))) anil))) G_law_k75_L1_12)
noncomputable def G_law_k75_L1_10 : En → M Fl := (sq (ifF (tst (bin D.ne (lstF (compF (itr D.items (getv 5)) (tgN 14) [14] (andt (tst (bin D.nin (getv 14) (getv 10))) (tst (bin D.nin (getv 14) (getv 9)))) (getv 14))) (nop mkLst anil))) (retF (cst (.bl false))) skp) G_law_k75_L1_11)
noncomputable def G_law_k75_L1_9 : En → M Fl := (sq (ifF (tst (bin D.ne (lstF (compF (itr D.items (getv 10)) (tgN 14) [14] (ort (tst (bin D.inn (getv 14) (getv 9))) (tst (bin D.nin (getv 14) (nop F_dead_keys (acons (getv 1) (acons (getv 8) anil)))))) (getv 14))) (nop mkLst anil))) (retF (cst (.bl false))) skp) G_law_k75_L1_10)
noncomputable def G_law_k75_L1_8 : En → M Fl := (sq (ifF (tst (bin D.ne (lstF (compF (itr D.items (nop F_seen_broken (acons (getv 1) (acons (getv 8) (acons (getv 5) anil))))) (tgN 14) [14] (tst (bin D.nin (getv 14) (getv 9))) (getv 14))) (nop mkLst anil))) (retF (cst (.bl false))) skp) G_law_k75_L1_9)
noncomputable def G_law_k75_L1_7 : En → M Fl := (sq (setF 10 (nop F_dead_keys (acons (getv 1) (acons (getv 6) anil)))) G_law_k75_L1_8)
noncomputable def G_law_k75_L1_6 : En → M Fl := (sq (setF 9 (nop F_seen_broken (acons (getv 1) (acons (getv 6) (acons (getv 5) anil))))) G_law_k75_L1_7)
noncomputable def G_law_k75_L1_5 : En → M Fl := (sq (setF 8 (nop (one D.tuple) (acons (lstF (compF (itr D.items (getv 3)) (tgN 13) [13] (ort (tst (bin D.inn (getv 13) (getv 6))) (tst (bin D.inn (getv 13) (getv 7)))) (getv 13))) anil))) G_law_k75_L1_6)
noncomputable def G_law_k75_L1_4 : En → M Fl := (sq (setF 7 (lstF (compF (itr (on1 D.enum) (acons (getv 3) anil)) (tgT [12, 13]) [12, 13] (tst (bin D.eq (nop F__law_drawn (acons (getv 0) (acons (bin D.add (bin D.add (cst (.int 350)) (bin D.mul (cst (.int 20)) (getv 4))) (getv 12)) (acons (cst (.int 4)) anil)))) (cst (.int 0)))) (getv 13)))) G_law_k75_L1_5)
noncomputable def G_law_k75_L1_3 : En → M Fl := (sq (setF 6 (nop (one D.tuple) (acons (lstF (compF (itr (on1 D.enum) (acons (getv 3) anil)) (tgT [12, 13]) [12, 13] (tst (bin D.eq (nop F__law_drawn (acons (getv 0) (acons (bin D.add (bin D.add (cst (.int 200)) (bin D.mul (cst (.int 20)) (getv 4))) (getv 12)) (acons (cst (.int 4)) anil)))) (cst (.int 0)))) (getv 13))) anil))) G_law_k75_L1_4)
noncomputable def G_law_k75_L1_2 : En → M Fl := (sq (ifF (tst (bin D.ne (nop F_seen_broken (acons (getv 1) (acons (nop (one D.tuple) (acons (getv 3) anil)) (acons (getv 5) anil)))) (nop mkLst anil))) (retF (cst (.bl false))) skp) G_law_k75_L1_3)
noncomputable def G_law_k75_L1_1 : En → M Fl := (sq (ifF (tst (bin D.ne (nop F_seen_broken (acons (getv 1) (acons (nop mkTup anil) (acons (getv 5) anil)))) (nop F_seen (acons (getv 1) (acons (getv 5) anil))))) (retF (cst (.bl false))) skp) G_law_k75_L1_2)
noncomputable def G_law_k75_L1 : En → M Fl := (sq (setF 5 (nop F__law_set (acons (getv 0) (acons (bin D.add (cst (.int 100)) (bin D.mul (cst (.int 10)) (getv 4))) (acons (getv 2) anil))))) G_law_k75_L1_1)
noncomputable def G_law_k75_4 : En → M Fl := (sq (forF (itr (on1 rng1) (acons (cst (.int 6)) anil)) (tgN 4) G_law_k75_L1) G_law_k75_5)
noncomputable def G_law_k75_3 : En → M Fl := (sq (ifF (ort (tst (bin D.ne (un D.lenSet2 (getv 3)) (nop (one D.len) (acons (getv 3) anil)))) (ort (tst (bin D.ne (getv 3) (nop (one D.srt) (acons (getv 3) anil)))) (tst (bin D.ne (nop F_dead_keys (acons (getv 1) (acons (nop mkTup anil) anil))) (nop mkLst anil))))) (retF (cst (.bl false))) skp) G_law_k75_4)
noncomputable def G_law_k75_2 : En → M Fl := (sq (setF 3 (nop F_wires_on (acons (getv 1) anil))) G_law_k75_3)
noncomputable def G_law_k75_1 : En → M Fl := (sq (setF 2 (nop (one D.len) (acons (bin D.idx (getv 1) (cst (.int 0))) anil))) G_law_k75_2)
noncomputable def G_law_k75 : En → M Fl := (sq (setF 1 (nop F__law_square (acons (getv 0) (acons (cst (.int 0)) (acons (cst (.int 6)) anil))))) G_law_k75_1)
noncomputable def F_law_k75 : List D → M D := fnF 15 1 G_law_k75
noncomputable def G_is_test_1 : En → M Fl := (retF (nop (one D.all) (acons (lstF (compF (itr D.items (getv 1)) (tgN 2) [2] always (nop F_are_keys_of (acons (nop (one D.len) (acons (bin D.idx (getv 0) (cst (.int 0))) anil)) (acons (getv 2) anil))))) anil)))
noncomputable def G_is_test : En → M Fl := (sq (ifF (ort (nott (tst (isiN "tuple" (getv 1)))) (tst (bin D.ne (nop (one D.len) (acons (getv 1) anil)) (cst (.int 2))))) (retF (cst (.bl false))) skp) G_is_test_1)
noncomputable def F_is_test : List D → M D := fnF 3 2 G_is_test
noncomputable def G_suspects_4 : En → M Fl := (nodic 2 (retF (getv 2)))
noncomputable def G_suspects_L2 : En → M Fl := (appF 2 (getv 3))
noncomputable def G_suspects_L1 : En → M Fl := (ifF (tst (nop (one D.all) (acons (lstF (compF (itr D.items (getv 1)) (tgT [5, 6]) [5, 6] always (bin D.eq (nop F_live_seen (acons (getv 0) (acons (nop mkTup (acons (getv 3) anil)) (acons (getv 5) anil)))) (nop (one D.list) (acons (getv 6) anil))))) anil))) G_suspects_L2 skp)
noncomputable def G_suspects_3 : En → M Fl := (sq (forF (itr D.items (nop F_all_wires (acons (getv 0) anil))) (tgN 3) G_suspects_L1) G_suspects_4)
noncomputable def G_suspects_2 : En → M Fl := (sq (setOF 2 (lim anil)) G_suspects_3)
noncomputable def G_suspects_1 : En → M Fl := (sq (ifF (ort (nott (tst (isiN "list" (getv 1)))) (ort (tst (bin D.gt (nop (one D.len) (acons (getv 1) anil)) (cst (.int 20)))) (nott (tst (nop (one D.all) (acons (lstF (compF (itr D.items (getv 1)) (tgN 4) [4] always (nop F_is_test (acons (getv 0) (acons (getv 4) anil))))) anil)))))) (fun _ => M.raise "NoKeys") skp) G_suspects_2)
noncomputable def G_suspects : En → M Fl := (sq (expF (nop F_need_square (acons (getv 0) anil))) G_suspects_1)
noncomputable def F_suspects : List D → M D := fnF 7 2 G_suspects
noncomputable def G__law_out_k76_3 : En → M Fl := (retF (nop (one D.tuple) (acons (lstF (compF (itr D.items (nop F__law_seen_k02 (acons (getv 0) (acons (getv 5) anil)))) (tgN 6) [6] (tst (bin D.nin (getv 6) (getv 4))) (getv 6))) anil)))
noncomputable def G__law_out_k76_2 : En → M Fl := (sq (setF 5 (nop (one D.tuple) (acons (lstF (compF (itr D.items (getv 2)) (tgN 6) [6] (tst (bin D.nin (getv 6) (getv 4))) (getv 6))) anil))) G__law_out_k76_3)
noncomputable def G__law_out_k76_1 : En → M Fl := (sq (setF 4 (lstF (compF (itr (on1 D.enum) (acons (bin D.idx (getv 0) (cst (.int 0))) anil)) (tgT [6, 7]) [6, 7] (tst (bin D.eq (bin D.idx (getv 7) (getv 3)) (bin D.idx (getv 1) (cst (.int 1))))) (getv 6)))) G__law_out_k76_2)
noncomputable def G__law_out_k76 : En → M Fl := (sq (setF 3 (ifx (tst (bin D.eq (bin D.idx (getv 1) (cst (.int 0))) (cst (.str "row")))) (cst (.int 0)) (cst (.int 1)))) G__law_out_k76_1)
noncomputable def F__law_out_k76 : List D → M D := fnF 8 3 G__law_out_k76
noncomputable def G_law_k77_5 : En → M Fl := (retF (cst (.bl true)))
noncomputable def G_law_k77_L1_6 : En → M Fl := (ifF (tst (bin D.ne (nop F_suspects (acons (getv 1) (acons (getv 9) anil))) (lstF (compF (itr D.items (getv 3)) (tgN 13) [13] (tst (bin D.eq (nop F_dead_keys (acons (getv 1) (acons (nop mkTup (acons (getv 13) anil)) anil))) (getv 10))) (getv 13))))) (retF (cst (.bl false))) skp)
noncomputable def G_law_k77_L1_5 : En → M Fl := (sq (setF 10 (nop F_dead_keys (acons (getv 1) (acons (nop mkTup (acons (getv 5) anil)) anil)))) G_law_k77_L1_6)
noncomputable def G_law_k77_L1_4 : En → M Fl := (sq (setF 9 (lstF (compF (itr (on1 rng1) (acons (getv 2) anil)) (tgN 14) [14] always (nop mkTup (acons (nop mkTup (acons (getv 14) anil)) (acons (nop (one D.tuple) (acons (nop F_seen_broken (acons (getv 1) (acons (nop mkTup (acons (getv 5) anil)) (acons (nop mkTup (acons (getv 14) anil)) anil)))) anil)) anil)))))) G_law_k77_L1_5)
noncomputable def G_law_k77_L2_6 : En → M Fl := (setF 7 (getv 12))
noncomputable def G_law_k77_L3 : En → M Fl := (ifF (tst (bin D.ne (lstF (compF (itr D.items (getv 6)) (tgN 15) [15] (tst (bin D.ne (nop (one D.tuple) (acons (nop F_seen_broken (acons (getv 1) (acons (nop mkTup (acons (getv 13) anil)) (acons (bin D.idx (getv 15) (cst (.int 0))) anil)))) anil)) (bin D.idx (getv 15) (cst (.int 1))))) (getv 15))) (nop mkLst anil))) (retF (cst (.bl false))) skp)
noncomputable def G_law_k77_L2_5 : En → M Fl := (sq (forF (itr D.items (getv 12)) (tgN 13) G_law_k77_L3) G_law_k77_L2_6)
noncomputable def G_law_k77_L2_4 : En → M Fl := (sq (ifF (tst (bin D.ne (nop F_suspects (acons (getv 1) (acons (slc3 (getv 6) nopart nopart (part (un D.neg (cst (.int 1))))) anil))) (getv 12))) (retF (cst (.bl false))) skp) G_law_k77_L2_5)
noncomputable def G_law_k77_L2_3 : En → M Fl := (sq (ifF (ort (tst (bin D.nin (getv 5) (getv 12))) (tst (bin D.ne (lstF (compF (itr D.items (getv 12)) (tgN 13) [13] (tst (bin D.nin (getv 13) (getv 7))) (getv 13))) (nop mkLst anil)))) (retF (cst (.bl false))) skp) G_law_k77_L2_4)
noncomputable def G_law_k77_L2_2 : En → M Fl := (sq (setF 12 (nop F_suspects (acons (getv 1) (acons (getv 6) anil)))) G_law_k77_L2_3)
noncomputable def G_law_k77_L2_1 : En → M Fl := (sq (setF 6 (bin D.add (getv 6) (nop mkLst (acons (nop mkTup (acons (getv 11) (acons (nop (one D.tuple) (acons (nop F_seen_broken (acons (getv 1) (acons (nop mkTup (acons (getv 5) anil)) (acons (getv 11) anil)))) anil)) anil))) anil)))) G_law_k77_L2_2)
noncomputable def G_law_k77_L2 : En → M Fl := (sq (setF 11 (nop F__law_set (acons (getv 0) (acons (bin D.add (bin D.add (cst (.int 120)) (bin D.mul (cst (.int 50)) (getv 4))) (bin D.mul (cst (.int 10)) (getv 8))) (acons (getv 2) anil))))) G_law_k77_L2_1)
noncomputable def G_law_k77_L1_3 : En → M Fl := (sq (forF (itr (on1 rng1) (acons (cst (.int 4)) anil)) (tgN 8) G_law_k77_L2) G_law_k77_L1_4)
noncomputable def G_law_k77_L1_2 : En → M Fl := (sq (setF 7 (getv 3)) G_law_k77_L1_3)
noncomputable def G_law_k77_L1_1 : En → M Fl := (sq (setF 6 (lstF (lim anil))) G_law_k77_L1_2)
noncomputable def G_law_k77_L1 : En → M Fl := (sq (setF 5 (bin D.idx (getv 3) (nop F__law_drawn (acons (getv 0) (acons (bin D.add (cst (.int 100)) (getv 4)) (acons (nop (one D.len) (acons (getv 3) anil)) anil)))))) G_law_k77_L1_1)
noncomputable def G_law_k77_4 : En → M Fl := (sq (forF (itr (on1 rng1) (acons (cst (.int 3)) anil)) (tgN 4) G_law_k77_L1) G_law_k77_5)
noncomputable def G_law_k77_3 : En → M Fl := (sq (ifF (tst (bin D.ne (nop F_suspects (acons (getv 1) (acons (nop mkLst anil) anil))) (getv 3))) (retF (cst (.bl false))) skp) G_law_k77_4)
noncomputable def G_law_k77_2 : En → M Fl := (sq (setF 3 (nop F_wires_on (acons (getv 1) anil))) G_law_k77_3)
noncomputable def G_law_k77_1 : En → M Fl := (sq (setF 2 (nop (one D.len) (acons (bin D.idx (getv 1) (cst (.int 0))) anil))) G_law_k77_2)
noncomputable def G_law_k77 : En → M Fl := (sq (setF 1 (nop F__law_square (acons (getv 0) (acons (cst (.int 0)) (acons (cst (.int 5)) anil))))) G_law_k77_1)
noncomputable def F_law_k77 : List D → M D := fnF 16 1 G_law_k77
noncomputable def G__wall_L1 : En → M Fl := skp
noncomputable def G__wall : En → M Fl := (whileF (tst (cst (.bl true))) G__wall_L1 FUEL)
noncomputable def F__wall : List D → M D := fnF 1 1 G__wall
noncomputable def G_need_set : En → M Fl := (ifF (nott (tst (nop F_are_keys_of (acons (cst (.int 6)) (acons (getv 0) anil))))) (fun _ => M.raise "NoKeys") skp)
noncomputable def F_need_set : List D → M D := fnF 1 1 G_need_set
noncomputable def G_between : En → M Fl := (sq (expF (nop F_need_set (acons (getv 0) anil))) (sq (expF (nop F_need_set (acons (getv 1) anil))) (sq (setOF 2 (lim anil)) (sq (forF (itr (on1 rng1) (acons (cst (.int 6)) anil)) (tgN 3) (ifF (tst (bin D.ne (bin D.inn (getv 3) (getv 0)) (bin D.inn (getv 3) (getv 1)))) (appF 2 (nop mkTup (acons (ifx (tst (bin D.inn (getv 3) (getv 0))) (cst (.str "up")) (cst (.str "down"))) (acons (getv 3) anil)))) skp)) (nodic 2 (retF (getv 2)))))))
noncomputable def F_between : List D → M D := fnF 4 2 G_between
noncomputable def G__law_scan_k78_4 : En → M Fl := (nodic 5 (retF (nop mkTup (acons (getv 5) (acons (getv 4) anil)))))
noncomputable def G__law_scan_k78_L2 : En → M Fl := (appF 5 (nop mkTup (acons (ifx (tst (bin D.inn (getv 6) (getv 4))) (cst (.str "down")) (cst (.str "up"))) (acons (getv 6) anil))))
noncomputable def G__law_scan_k78_L1 : En → M Fl := (ifF (tst (bin D.ne (bin D.inn (getv 6) (getv 4)) (bin D.inn (getv 6) (getv 3)))) G__law_scan_k78_L2 skp)
noncomputable def G__law_scan_k78_3 : En → M Fl := (sq (forF (itr (on1 rng1) (acons (nop (one D.len) (acons (bin D.idx (getv 0) (cst (.int 0))) anil)) anil)) (tgN 6) G__law_scan_k78_L1) G__law_scan_k78_4)
noncomputable def G__law_scan_k78_2 : En → M Fl := (sq (setOF 5 (lim anil)) G__law_scan_k78_3)
noncomputable def G__law_scan_k78_L3_2 : En → M Fl := (setF 4 (bin D.idx (getv 7) (cst (.int 0))))
noncomputable def G__law_scan_k78_L3_1 : En → M Fl := (sq (ifF (tst (bin D.gt (nop (one D.len) (acons (getv 7) anil)) (cst (.int 1)))) (retF (nop mkTup (acons (nop mkLst anil) (acons (getv 3) anil)))) skp) G__law_scan_k78_L3_2)
noncomputable def G__law_scan_k78_L3 : En → M Fl := (sq (setF 7 (lstF (compF (itr D.items (nop F__law_sets_k05 (acons (nop (one D.len) (acons (bin D.idx (getv 0) (cst (.int 0))) anil)) anil))) (tgN 8) [8] (tst (bin D.eq (nop (one D.tuple) (acons (nop F__law_seen_k02 (acons (getv 0) (acons (getv 8) anil))) anil)) (getv 4))) (getv 8)))) G__law_scan_k78_L3_1)
noncomputable def G__law_scan_k78_1 : En → M Fl := (sq (ifF (tst (getv 1)) G__law_scan_k78_L3 skp) G__law_scan_k78_2)
noncomputable def G__law_scan_k78 : En → M Fl := (sq (setF 4 (nop (one D.tuple) (acons (nop F__law_seen_k02 (acons (getv 0) (acons (getv 2) anil))) anil))) G__law_scan_k78_1)
noncomputable def F__law_scan_k78 : List D → M D := fnF 9 4 G__law_scan_k78
noncomputable def G__law_due_k78_6 : En → M Fl := (retF (nop mkTup (acons (cst .non) (acons (bin D.add (slc (getv 2) nopart (part (bin D.add (getv 3) (cst (.int 1))))) (nop mkLst (acons (nop mkTup (acons (bin D.idx (nop mkLst (acons (cst (.str "press")) (acons (cst (.str "lift")) anil))) (getv 4)) (acons (getv 6) (acons (getv 9) anil)))) anil))) (acons (bin D.add (getv 3) (cst (.int 1))) anil)))))
noncomputable def G__law_due_k78_5 : En → M Fl := (sq (setF 6 (ifx (tst (bin D.eq (getv 4) (cst (.int 0)))) (nop (one D.tuple) (acons (nop (one D.srt) (acons (bin D.add (getv 8) (nop mkTup (acons (getv 5) anil))) anil)) anil)) (nop (one D.tuple) (acons (lstF (compF (itr D.items (getv 8)) (tgN 12) [12] (tst (bin D.ne (getv 12) (getv 5))) (getv 12))) anil)))) G__law_due_k78_6)
noncomputable def G__law_due_k78_4 : En → M Fl := (sq (ifF (ort (tst (bin D.nin (getv 5) (lrg1 D.lst (nop (one D.len) (acons (bin D.idx (getv 0) (cst (.int 0))) anil))))) (ort (tst (isiN "bool" (getv 5))) (tst (bin D.ne (bin D.inn (getv 5) (getv 8)) (bin D.eq (getv 4) (cst (.int 1))))))) (retF (nop mkTup (acons (nop mkTup (acons (cst (.str "refused")) (acons (cst (.int 1)) anil))) (acons (getv 2) (acons (getv 3) anil))))) skp) G__law_due_k78_5)
noncomputable def G__law_due_k78_L1_1 : En → M Fl := (retF (nop mkTup (acons (getv 10) (acons (bin D.add (slc (getv 2) nopart (part (bin D.add (getv 3) (cst (.int 1))))) (nop mkLst (acons (nop mkTup (acons (cst (.str "scan")) (acons (getv 8) (acons (getv 11) anil)))) anil))) (acons (bin D.add (getv 3) (cst (.int 1))) anil)))))
noncomputable def G__law_due_k78_L1 : En → M Fl := (sq (setTF (tgT [10, 11]) (nop F__law_scan_k78 (acons (getv 0) (acons (getv 1) (acons (getv 8) (acons (getv 9) anil)))))) G__law_due_k78_L1_1)
noncomputable def G__law_due_k78_3 : En → M Fl := (sq (ifF (tst (bin D.eq (getv 4) (cst (.int 2)))) G__law_due_k78_L1 skp) G__law_due_k78_4)
noncomputable def G__law_due_k78_2 : En → M Fl := (sq (ifF (tst (bin D.eq (getv 4) (cst (.int 4)))) (retF (ifx (tst (bin D.lt (bin D.add (getv 3) (cst (.int 1))) (nop (one D.len) (acons (getv 2) anil)))) (nop mkTup (acons (bin D.idx (bin D.idx (getv 2) (bin D.add (getv 3) (cst (.int 1)))) (cst (.int 0))) (acons (getv 2) (acons (bin D.add (getv 3) (cst (.int 1))) anil)))) (nop mkTup (acons (nop mkTup (acons (cst (.str "refused")) (acons (cst (.int 2)) anil))) (acons (getv 2) (acons (getv 3) anil)))))) skp) G__law_due_k78_3)
noncomputable def G__law_due_k78_1 : En → M Fl := (sq (ifF (tst (bin D.eq (getv 4) (cst (.int 3)))) (retF (ifx (tst (bin D.gt (getv 3) (cst (.int 0)))) (nop mkTup (acons (getv 7) (acons (getv 2) (acons (bin D.sub (getv 3) (cst (.int 1))) anil)))) (nop mkTup (acons (nop mkTup (acons (cst (.str "refused")) (acons (cst (.int 2)) anil))) (acons (getv 2) (acons (getv 3) anil)))))) skp) G__law_due_k78_2)
noncomputable def G__law_due_k78 : En → M Fl := (sq (setTF (tgT [7, 8, 9]) (bin D.idx (getv 2) (getv 3))) G__law_due_k78_1)
noncomputable def F__law_due_k78 : List D → M D := fnF 13 6 G__law_due_k78
noncomputable def G_is_change : En → M Fl := (sq (ifF (ort (nott (tst (isiN "tuple" (getv 0)))) (ort (tst (bin D.ne (nop (one D.len) (acons (getv 0) anil)) (cst (.int 2)))) (nott (tst (isiN "str" (bin D.idx (getv 0) (cst (.int 0)))))))) (retF (cst (.bl false))) skp) (retF (andv (bin D.inn (bin D.idx (getv 0) (cst (.int 0))) (cst (.tup [.str "down", .str "up"]))) (nop F_is_number (acons (bin D.idx (getv 0) (cst (.int 1))) (acons (cst (.int 0)) (acons (bin D.sub (cst (.int 6)) (cst (.int 1))) anil)))))))
noncomputable def F_is_change : List D → M D := fnF 1 1 G_is_change
noncomputable def G_are_changes : En → M Fl := (retF (andv (isiN "list" (getv 0)) (andv (bin D.le (nop (one D.len) (acons (getv 0) anil)) (cst (.int 40))) (nop (one D.all) (acons (lstF (compF (itr D.items (getv 0)) (tgN 1) [1] always (nop F_is_change (acons (getv 1) anil)))) anil)))))
noncomputable def F_are_changes : List D → M D := fnF 2 1 G_are_changes
noncomputable def G_need_changes : En → M Fl := (ifF (nott (tst (nop F_are_changes (acons (getv 0) anil)))) (fun _ => M.raise "NoKeys") skp)
noncomputable def F_need_changes : List D → M D := fnF 1 1 G_need_changes
noncomputable def G_led : En → M Fl := (sq (expF (nop F_need_set (acons (getv 0) anil))) (sq (expF (nop F_need_changes (acons (getv 1) anil))) (sq (setF 2 (nop (one D.list) (acons (getv 0) anil))) (sq (forF (itr D.items (getv 1)) (tgT [3, 4]) (sq (ifF (tst (bin D.eq (bin D.eq (getv 3) (cst (.str "down"))) (bin D.inn (getv 4) (getv 2)))) (fun _ => M.raise "NoKeys") skp) (setF 2 (ifx (tst (bin D.eq (getv 3) (cst (.str "down")))) (bin D.add (getv 2) (nop mkLst (acons (getv 4) anil))) (lstF (compF (itr D.items (getv 2)) (tgN 5) [5] (tst (bin D.ne (getv 5) (getv 4))) (getv 5))))))) (retF (nop (one D.tuple) (acons (nop (one D.srt) (acons (getv 2) anil)) anil)))))))
noncomputable def F_led : List D → M D := fnF 6 2 G_led
noncomputable def G_law_k84 : En → M Fl := (sq (setF 1 (bin D.add (lstF (compF (itr (on1 rng1) (acons (cst (.int 4)) anil)) (tgN 6) [6] always (nop F__law_set (acons (getv 0) (acons (bin D.mul (cst (.int 10)) (getv 6)) (acons (cst (.int 6)) anil)))))) (nop mkLst (acons (nop mkTup anil) (acons (nop mkTup (acons (cst (.int 0)) (acons (cst (.int 1)) (acons (cst (.int 2)) (acons (cst (.int 3)) (acons (cst (.int 4)) (acons (cst (.int 5)) anil))))))) anil))))) (sq (forF (itr D.items (getv 1)) (tgN 2) (sq (ifF (ort (tst (bin D.ne (nop F_between (acons (getv 2) (acons (getv 2) anil))) (nop mkLst anil))) (tst (bin D.ne (nop F_led (acons (getv 2) (acons (nop mkLst anil) anil))) (getv 2)))) (retF (cst (.bl false))) skp) (forF (itr D.items (getv 1)) (tgN 3) (sq (setF 4 (nop F_between (acons (getv 2) (acons (getv 3) anil)))) (sq (ifF (ort (tst (bin D.ne (nop F_led (acons (getv 2) (acons (getv 4) anil))) (getv 3))) (tst (bin D.ne (nop F_led (acons (getv 2) (acons (slc3 (getv 4) nopart nopart (part (un D.neg (cst (.int 1))))) anil))) (getv 3)))) (retF (cst (.bl false))) skp) (sq (ifF (tst (bin D.ne (nop F_between (acons (getv 3) (acons (getv 2) anil))) (lstF (compF (itr D.items (getv 4)) (tgT [8, 9]) [8, 9] always (nop mkTup (acons (ifx (tst (bin D.eq (getv 8) (cst (.str "up")))) (cst (.str "down")) (cst (.str "up"))) (acons (getv 9) anil))))))) (retF (cst (.bl false))) skp) (sq (ifF (tst (bin D.ne (nop (one D.len) (acons (getv 4) anil)) (nop (one D.len) (acons (lstF (compF (itr (on1 rng1) (acons (cst (.int 6)) anil)) (tgN 9) [9] (tst (bin D.ne (bin D.inn (getv 9) (getv 2)) (bin D.inn (getv 9) (getv 3)))) (getv 9))) anil)))) (retF (cst (.bl false))) skp) (sq (ifF (tst (bin D.ne (lstF (compF (itr D.items (getv 4)) (tgT [8, 9]) [8, 9] always (getv 9))) (un D.srtSet (lstF (compF (itr D.items (getv 4)) (tgT [8, 9]) [8, 9] always (getv 9)))))) (retF (cst (.bl false))) skp) (sq (setF 5 (bin D.idx (getv 1) (nop F__law_drawn (acons (getv 0) (acons (bin D.add (bin D.add (cst (.int 60)) (nop (one D.len) (acons (getv 2) anil))) (bin D.mul (cst (.int 7)) (nop (one D.len) (acons (getv 3) anil)))) (acons (nop (one D.len) (acons (getv 1) anil)) anil)))))) (sq (ifF (tst (bin D.ne (nop F_led (acons (getv 2) (acons (bin D.add (nop F_between (acons (getv 2) (acons (getv 5) anil))) (nop F_between (acons (getv 5) (acons (getv 3) anil)))) anil))) (getv 3))) (retF (cst (.bl false))) skp) (forF (itr (on1 rng1) (acons (nop (one D.len) (acons (getv 4) anil)) anil)) (tgN 6) (sq (setF 7 (nop F_led (acons (getv 2) (acons (slc (getv 4) nopart (part (getv 6))) anil)))) (ifF (tst (bin D.ne (nop F_between (acons (getv 7) (acons (getv 3) anil))) (slc (getv 4) (part (getv 6)) nopart))) (retF (cst (.bl false))) skp))))))))))))) (retF (cst (.bl true)))))
noncomputable def F_law_k84 : List D → M D := fnF 10 1 G_law_k84
end DL

/-! DM2: data without bools: == is equality; the draws; keys. -/
namespace DL
open PySem PySem.Spec PyProof.Rows L2

mutual
/-- clean data: no bool in it, no object; of a depth -/
def D.cl : D → Nat → Bool
  | .non, _ => true
  | .int _, _ => true
  | .str x, _ => x.cps.all (· < 0x110000)
  | .tup l, n => match n with
    | 0 => false
    | n + 1 => D.clAll l n
  | .lst l, n => match n with
    | 0 => false
    | n + 1 => D.clAll l n
  | _, _ => false
def D.clAll : List D → Nat → Bool
  | [], _ => true
  | d :: ds, n => d.cl n && D.clAll ds n
end
mutual
theorem D.cl_fine : ∀ (d : D) (n : Nat), d.cl n = true → d.fine n = true
  | .non, _, _ => by unfold D.fine; rfl
  | .bl _, _, h => by unfold D.cl at h; cases h
  | .int _, _, _ => by unfold D.fine; rfl
  | .str x, _, h => by unfold D.cl at h; unfold D.fine; exact h
  | .tup l, 0, h => by unfold D.cl at h; cases h
  | .tup l, n + 1, h => by unfold D.cl at h; unfold D.fine; exact D.clAll_fine l n h
  | .lst l, 0, h => by unfold D.cl at h; cases h
  | .lst l, n + 1, h => by unfold D.cl at h; unfold D.fine; exact D.clAll_fine l n h
  | .obj _, _, h => by unfold D.cl at h; cases h
  | .exc _, _, h => by unfold D.cl at h; cases h
  | .scr _, _, h => by unfold D.cl at h; cases h
  | .dic _, _, h => by unfold D.cl at h; cases h
theorem D.clAll_fine : ∀ (l : List D) (n : Nat), D.clAll l n = true → D.fineAll l n = true
  | [], _, _ => by unfold D.fineAll; rfl
  | d :: ds, n, h => by
    unfold D.clAll at h
    rw [Bool.and_eq_true] at h
    unfold D.fineAll
    rw [D.cl_fine d n h.1, D.clAll_fine ds n h.2]
    rfl
end
mutual
theorem eqv_cl : ∀ (a b : D) (n m : Nat), a.cl n = true → b.cl m = true → (PyData.eqv a.toP b.toP = true ↔ a = b)
  | .non, b, _, m, _, hb => by cases b <;> simp [D.toP, PyData.eqv, D.cl] at hb ⊢
  | .int i, b, _, m, _, hb => by cases b <;> simp [D.toP, PyData.eqv, D.cl] at hb ⊢
  | .str x, b, _, m, _, hb => by cases b <;> simp [D.toP, PyData.eqv, D.cl] at hb ⊢
  | .tup l, .tup k, n + 1, m + 1, ha, hb => by
    unfold D.cl at ha hb
    simp only [D.toP, PyData.eqv, D.tup.injEq]
    exact eqvAll_cl l k n m ha hb
  | .lst l, .lst k, n + 1, m + 1, ha, hb => by
    unfold D.cl at ha hb
    simp only [D.toP, PyData.eqv, D.lst.injEq]
    exact eqvAll_cl l k n m ha hb
  | .tup l, .lst k, n + 1, m + 1, ha, hb => by simp [D.toP, PyData.eqv]
  | .lst l, .tup k, n + 1, m + 1, ha, hb => by simp [D.toP, PyData.eqv]
  | .tup l, .non, _, _, _, _ => by simp [D.toP, PyData.eqv]
  | .tup l, .int _, _, _, _, _ => by simp [D.toP, PyData.eqv]
  | .tup l, .str _, _, _, _, _ => by simp [D.toP, PyData.eqv]
  | .lst l, .non, _, _, _, _ => by simp [D.toP, PyData.eqv]
  | .lst l, .int _, _, _, _, _ => by simp [D.toP, PyData.eqv]
  | .lst l, .str _, _, _, _, _ => by simp [D.toP, PyData.eqv]
  | .tup l, _, 0, _, ha, _ => by unfold D.cl at ha; cases ha
  | .lst l, _, 0, _, ha, _ => by unfold D.cl at ha; cases ha
  | .tup _, .tup _, _ + 1, 0, _, hb => by unfold D.cl at hb; cases hb
  | .tup _, .lst _, _ + 1, 0, _, hb => by unfold D.cl at hb; cases hb
  | .lst _, .tup _, _ + 1, 0, _, hb => by unfold D.cl at hb; cases hb
  | .lst _, .lst _, _ + 1, 0, _, hb => by unfold D.cl at hb; cases hb
  | .bl _, _, _, _, ha, _ => by unfold D.cl at ha; cases ha
  | .obj _, _, _, _, ha, _ => by unfold D.cl at ha; cases ha
  | .exc _, _, _, _, ha, _ => by unfold D.cl at ha; cases ha
  | .scr _, _, _, _, ha, _ => by unfold D.cl at ha; cases ha
  | .dic _, _, _, _, ha, _ => by unfold D.cl at ha; cases ha
  | .tup _, .bl _, _, _, _, hb => by unfold D.cl at hb; cases hb
  | .tup _, .obj _, _, _, _, hb => by unfold D.cl at hb; cases hb
  | .tup _, .exc _, _, _, _, hb => by unfold D.cl at hb; cases hb
  | .tup _, .scr _, _, _, _, hb => by unfold D.cl at hb; cases hb
  | .tup _, .dic _, _, _, _, hb => by unfold D.cl at hb; cases hb
  | .lst _, .bl _, _, _, _, hb => by unfold D.cl at hb; cases hb
  | .lst _, .obj _, _, _, _, hb => by unfold D.cl at hb; cases hb
  | .lst _, .exc _, _, _, _, hb => by unfold D.cl at hb; cases hb
  | .lst _, .scr _, _, _, _, hb => by unfold D.cl at hb; cases hb
  | .lst _, .dic _, _, _, _, hb => by unfold D.cl at hb; cases hb
theorem eqvAll_cl : ∀ (a b : List D) (n m : Nat), D.clAll a n = true → D.clAll b m = true → (PyData.eqvAll (D.toPs a) (D.toPs b) = true ↔ a = b)
  | [], [], _, _, _, _ => by simp [D.toPs, PyData.eqvAll]
  | [], _ :: _, _, _, _, _ => by simp [D.toPs, PyData.eqvAll]
  | _ :: _, [], _, _, _, _ => by simp [D.toPs, PyData.eqvAll]
  | x :: a, y :: b, n, m, ha, hb => by
    unfold D.clAll at ha hb
    rw [Bool.and_eq_true] at ha hb
    simp only [D.toPs, PyData.eqvAll, Bool.and_eq_true, List.cons.injEq]
    rw [eqv_cl x y n m ha.1 hb.1, eqvAll_cl a b n m ha.2 hb.2]
end
theorem eqv_iff {a b : D} {n m : Nat} (ha : a.cl n = true) (hb : b.cl m = true) : a.eqv b = true ↔ a = b := eqv_cl a b n m ha hb
end DL

/-! DM3: ==, in on clean data; the draws; sets of keys. -/
namespace DL
open PySem PySem.Spec PyProof.Rows L2

theorem eq_of {a b : D} {p : Bool} (ha : a.cl 64 = true) (hb : b.cl 64 = true) (h : p = true ↔ a = b) : D.eq a b = pure (.bl p) := by
  unfold D.eq
  rw [D.cl_fine a 64 ha, D.cl_fine b 64 hb]
  have e : a.eqv b = p := by
    have := eqv_iff ha hb
    cases p <;> cases q : a.eqv b <;> simp_all
  rw [e]
  rfl
theorem ne_of {a b : D} {p : Bool} (ha : a.cl 64 = true) (hb : b.cl 64 = true) (h : p = true ↔ a = b) : D.ne a b = pure (.bl (!p)) := by
  unfold D.ne
  rw [D.cl_fine a 64 ha, D.cl_fine b 64 hb]
  have e : a.eqv b = p := by
    have := eqv_iff ha hb
    cases p <;> cases q : a.eqv b <;> simp_all
  rw [e]
  rfl
theorem ne_same {a : D} (ha : a.cl 64 = true) : D.ne a a = pure (.bl false) := ne_of (p := true) ha ha ⟨fun _ => rfl, fun _ => rfl⟩
theorem any_eqv {a : D} {l : List D} {p : Bool} {n m : Nat} (ha : a.cl n = true) (hl : D.clAll l m = true) (h : p = true ↔ a ∈ l) : (l.any fun z => z.eqv a) = p := by
  have key : (l.any fun z => z.eqv a) = true ↔ a ∈ l := by
    rw [List.any_eq_true]
    constructor
    · rintro ⟨z, hz, e⟩
      have hcl : z.cl m = true := by
        clear h e
        induction l with
        | nil => cases hz
        | cons y r ih =>
          unfold D.clAll at hl
          rw [Bool.and_eq_true] at hl
          rcases List.mem_cons.mp hz with rfl | hz
          · exact hl.1
          · exact ih hl.2 hz
      rw [(eqv_iff hcl ha).mp e] at hz
      exact hz
    · intro hz
      refine ⟨a, hz, (eqv_iff ha ha).mpr rfl⟩
  cases p <;> cases q : (l.any fun z => z.eqv a) <;> simp_all
theorem inn_tup {a : D} {l : List D} {p : Bool} (ha : a.cl 64 = true) (hl : D.clAll l 63 = true) (h : p = true ↔ a ∈ l) : D.inn a (.tup l) = pure (.bl p) := by
  show (if (a.fine 64 && D.fineAll l 63) = true then (pure (.bl (l.any fun z => z.eqv a)) : M D) else M.bad) = _
  rw [D.cl_fine a 64 ha, D.clAll_fine l 63 hl, any_eqv ha hl h]
  rfl
theorem inn_lst {a : D} {l : List D} {p : Bool} (ha : a.cl 64 = true) (hl : D.clAll l 63 = true) (h : p = true ↔ a ∈ l) : D.inn a (.lst l) = pure (.bl p) := by
  show (if (a.fine 64 && D.fineAll l 63) = true then (pure (.bl (l.any fun z => z.eqv a)) : M D) else M.bad) = _
  rw [D.cl_fine a 64 ha, D.clAll_fine l 63 hl, any_eqv ha hl h]
  rfl
theorem nin_tup {a : D} {l : List D} {p : Bool} (ha : a.cl 64 = true) (hl : D.clAll l 63 = true) (h : p = true ↔ a ∈ l) : D.nin a (.tup l) = pure (.bl (!p)) := by
  show (if (a.fine 64 && D.fineAll l 63) = true then (pure (.bl (!l.any fun z => z.eqv a)) : M D) else M.bad) = _
  rw [D.cl_fine a 64 ha, D.clAll_fine l 63 hl, any_eqv ha hl h]
  rfl
theorem nin_lst {a : D} {l : List D} {p : Bool} (ha : a.cl 64 = true) (hl : D.clAll l 63 = true) (h : p = true ↔ a ∈ l) : D.nin a (.lst l) = pure (.bl (!p)) := by
  show (if (a.fine 64 && D.fineAll l 63) = true then (pure (.bl (!l.any fun z => z.eqv a)) : M D) else M.bad) = _
  rw [D.cl_fine a 64 ha, D.clAll_fine l 63 hl, any_eqv ha hl h]
  rfl
/-! ### ints -/
@[simp] theorem cl_int (i : Int) (n : Nat) : (D.int i).cl n = true := by unfold D.cl; rfl
@[simp] theorem cl_non (n : Nat) : D.non.cl n = true := by unfold D.cl; rfl
theorem clAll_map {α : Type} (f : α → D) (n : Nat) : ∀ l : List α, (∀ x ∈ l, (f x).cl n = true) → D.clAll (l.map f) n = true
  | [], _ => by unfold D.clAll; rfl
  | x :: r, h => by
    rw [List.map_cons]
    unfold D.clAll
    rw [h x List.mem_cons_self, clAll_map f n r fun y hy => h y (List.mem_cons_of_mem _ hy)]
    rfl
@[simp] theorem clAll_ints (l : List Int) (n : Nat) : D.clAll (l.map D.int) n = true := clAll_map _ _ _ fun _ _ => cl_int _ _
@[simp] theorem cl_tup (l : List D) (n : Nat) : (D.tup l).cl (n + 1) = D.clAll l n := by show D.cl (.tup l) (n + 1) = _; unfold D.cl; rfl
@[simp] theorem cl_lst (l : List D) (n : Nat) : (D.lst l).cl (n + 1) = D.clAll l n := by show D.cl (.lst l) (n + 1) = _; unfold D.cl; rfl
theorem int_inj {i j : Int} : D.int i = D.int j ↔ i = j := ⟨fun h => by cases h; rfl, fun h => by rw [h]⟩
theorem ints_inj : ∀ {l k : List Int}, l.map D.int = k.map D.int ↔ l = k := fun {l k} => by
  constructor
  · intro h
    have := congrArg (List.map D.iv) h
    rw [List.map_map, List.map_map] at this
    have e : (D.iv ∘ D.int) = (id : Int → Int) := rfl
    rw [e, List.map_id, List.map_id] at this
    exact this
  · intro h; rw [h]
theorem mem_ints {i : Int} {l : List Int} : D.int i ∈ l.map D.int ↔ i ∈ l := by
  rw [List.mem_map]
  constructor
  · rintro ⟨j, hj, e⟩; cases e; exact hj
  · intro h; exact ⟨i, h, rfl⟩
abbrev kT (l : List Int) : D := .tup (l.map D.int)
abbrev kL (l : List Int) : D := .lst (l.map D.int)
/-! ### the draws -/
def cellI (ns : List Int) (k : Int) : Int := if ns = [] then 7 * k else ns.getD (k % ns.length).toNat 0 + 6553 * (k / ns.length)
theorem eqv_scr (ns : List Int) : (D.scr ns).eqv (.lst []) = decide (ns = []) := by
  unfold D.eqv
  cases ns with
  | nil => simp [D.toP, D.toPs, PyData.eqv, PyData.eqvAll]
  | cons n r => simp [D.toP, D.toPs, PyData.eqv, PyData.eqvAll]
theorem f_cell {ns : List Int} (hn : ns.length ≤ 63) (k : Int) : F__law_cell [.scr ns, .int k] = pure (.int (cellI ns k)) := by
  unfold F__law_cell G__law_cell fnF
  have e1 : D.eq (.scr ns) (.lst []) = pure (.bl (decide (ns = []))) := by
    unfold D.eq
    rw [eqv_scr]
    have f1 : (D.scr ns).fine 64 = true := by unfold D.fine; rfl
    have f2 : (D.lst []).fine 64 = true := by unfold D.fine D.fineAll; rfl
    rw [f1, f2]
    rfl
  by_cases h : ns = []
  · subst h
    have e2 : D.mul (.int 7) (.int k) = pure (.int (7 * k)) := mul_int (.inl (by decide))
    simp [getv, e1, e2, cellI]
  · have hl : 0 < ns.length := List.length_pos_iff.mpr h
    have hl' : (0 : Int) < ns.length := by exact_mod_cast hl
    have hm : D.mod (.int k) (.int ns.length) = pure (.int (k % ns.length)) := mod_int hl'
    have hd : D.fdiv (.int k) (.int ns.length) = pure (.int (k / ns.length)) := fdiv_int ⟨hl', by omega⟩
    have e3 : D.mul (.int 6553) (.int (k / ns.length)) = pure (.int (6553 * (k / ns.length))) := mul_int (.inl (by decide))
    have hr0 : 0 ≤ k % (ns.length : Int) := Int.emod_nonneg _ (by omega)
    have hr1 : k % (ns.length : Int) < ns.length := Int.emod_lt_of_pos _ hl'
    have e4 : D.idx (.scr ns) (.int (k % ns.length)) = pure (.int (ns.getD (k % ns.length).toNat 0)) := by
      have hlt : (k % (ns.length : Int)).toNat < ns.length := by omega
      have ea : atI ns (k % ns.length) = some (ns.getD (k % ns.length).toNat 0) := by
        unfold atI ixN
        rw [if_pos hr0, if_pos hr1]
        show ns[(k % (ns.length : Int)).toNat]? = _
        rw [List.getElem?_eq_getElem hlt, List.getD_eq_getElem?_getD, List.getElem?_eq_getElem hlt]
        rfl
      show opt D.int (atI ns (k % ns.length)) = _
      rw [ea]
      rfl
    simp [getv, e1, h, hm, hd, e3, e4, cellI]
def drawI (ns : List Int) (k m : Int) : Int :=
  let c1 := (cellI ns k % 2147483563 * 69069 + 104723 * (k + 1)) % 2147483563
  let c2 := (c1 * c1 + c1 / 3) % 2147483399
  (c2 * c2 + c2 / 7) % 2147483647 / 11 % m
theorem f_drawn {ns : List Int} (hn : ns.length ≤ 63) (k m : Int) (hm : 0 < m) : F__law_drawn [.scr ns, .int k, .int m] = pure (.int (drawI ns k m)) := by
  unfold F__law_drawn G__law_drawn fnF
  have hc := f_cell hn k
  have b1 : ∀ x : Int, 0 ≤ x % 2147483563 ∧ x % 2147483563 < 2147483563 := fun x => ⟨Int.emod_nonneg _ (by decide), Int.emod_lt_of_pos _ (by decide)⟩
  have b2 : ∀ x : Int, 0 ≤ x % 2147483399 ∧ x % 2147483399 < 2147483399 := fun x => ⟨Int.emod_nonneg _ (by decide), Int.emod_lt_of_pos _ (by decide)⟩
  have m1 : ∀ x : Int, D.mul (.int x) (.int 69069) = pure (.int (x * 69069)) := fun x => mul_int (.inr (by decide))
  have m2 : ∀ x : Int, D.mul (.int 104723) (.int x) = pure (.int (104723 * x)) := fun x => mul_int (.inl (by decide))
  have m3 : ∀ x : Int, D.mul (.int (x % 2147483563)) (.int (x % 2147483563)) = pure (.int (x % 2147483563 * (x % 2147483563))) := fun x => mul_int (.inl (by have := b1 x; omega))
  have m4 : ∀ x : Int, D.mul (.int (x % 2147483399)) (.int (x % 2147483399)) = pure (.int (x % 2147483399 * (x % 2147483399))) := fun x => mul_int (.inl (by have := b2 x; omega))
  have d1 : ∀ x : Int, D.mod (.int x) (.int 2147483563) = pure (.int (x % 2147483563)) := fun x => mod_int (by decide)
  have d2 : ∀ x : Int, D.mod (.int x) (.int 2147483399) = pure (.int (x % 2147483399)) := fun x => mod_int (by decide)
  have d3 : ∀ x : Int, D.mod (.int x) (.int 2147483647) = pure (.int (x % 2147483647)) := fun x => mod_int (by decide)
  have d4 : ∀ x : Int, D.mod (.int x) (.int m) = pure (.int (x % m)) := fun x => mod_int hm
  have q1 : ∀ x : Int, D.fdiv (.int x) (.int 3) = pure (.int (x / 3)) := fun x => fdiv_int (by decide)
  have q2 : ∀ x : Int, D.fdiv (.int x) (.int 7) = pure (.int (x / 7)) := fun x => fdiv_int (by decide)
  have q3 : ∀ x : Int, D.fdiv (.int x) (.int 11) = pure (.int (x / 11)) := fun x => fdiv_int (by decide)
  simp [getv, hc, m1, m2, m3, m4, d1, d2, d3, d4, q1, q2, q3, drawI]
theorem draw_lt (ns : List Int) (k : Int) {m : Int} (hm : 0 < m) : 0 ≤ drawI ns k m ∧ drawI ns k m < m := ⟨Int.emod_nonneg _ (by omega), Int.emod_lt_of_pos _ hm⟩
end DL

/-! DM4: is_number, are_keys_of. -/
namespace DL
open PySem PySem.Spec PyProof.Rows L2

theorem sIx_some {n d i : Nat} (h : i ≤ n) : HT.sIx n d (some (i : Int)) = i := by
  unfold HT.sIx
  have h1 : ¬ ((i : Int) < 0) := by omega
  simp only [h1, if_false]
  omega
theorem sIx_none {n d : Nat} : HT.sIx n d none = d := rfl
theorem sIx_big {n d i : Nat} (h : n ≤ i) : HT.sIx n d (some (i : Int)) = n := by
  unfold HT.sIx
  have h1 : ¬ ((i : Int) < 0) := by omega
  simp only [h1, if_false]
  omega
theorem cutD_drop (ds : List D) (i : Nat) : cutD ds (some (i : Int)) none = ds.drop i := by
  unfold cutD
  rw [sIx_none]
  by_cases h : i ≤ ds.length
  · rw [sIx_some h, List.take_of_length_le (by rw [List.length_drop]; exact Nat.le_refl _)]
  · rw [sIx_big (by omega), List.drop_of_length_le (Nat.le_refl _), List.drop_of_length_le (by omega)]
    simp
theorem cutD_take (ds : List D) (i : Nat) : cutD ds none (some (i : Int)) = ds.take i := by
  unfold cutD
  rw [sIx_none, List.drop_zero, Nat.sub_zero]
  by_cases h : i ≤ ds.length
  · rw [sIx_some h]
  · rw [sIx_big (by omega), List.take_length, List.take_of_length_le (by omega)]
theorem slice_drop (ds : List D) (i : Nat) : D.slice (some (i : Int)) none (.lst ds) = pure (.lst (ds.drop i)) := by
  show (pure (.lst (cutD ds _ _)) : M D) = _
  rw [cutD_drop]
theorem slice_take (ds : List D) (i : Nat) : D.slice none (some (i : Int)) (.lst ds) = pure (.lst (ds.take i)) := by
  show (pure (.lst (cutD ds _ _)) : M D) = _
  rw [cutD_take]
theorem slice_dropT (ds : List D) (i : Nat) : D.slice (some (i : Int)) none (.tup ds) = pure (.tup (ds.drop i)) := by
  show (pure (.tup (cutD ds _ _)) : M D) = _
  rw [cutD_drop]
theorem slice_takeT (ds : List D) (i : Nat) : D.slice none (some (i : Int)) (.tup ds) = pure (.tup (ds.take i)) := by
  show (pure (.tup (cutD ds _ _)) : M D) = _
  rw [cutD_take]
theorem slice_1T (ds : List D) : D.slice (some 1) none (.tup ds) = pure (.tup (ds.drop 1)) := slice_dropT ds 1
@[simp] theorem isi_int (T : String) (i : Int) : D.isi T (.int i) = pure (.bl (tyIs "int" T)) := rfl
@[simp] theorem isi_tup (T : String) (i : List D) : D.isi T (.tup i) = pure (.bl (tyIs "tuple" T)) := rfl
@[simp] theorem isi_lst (T : String) (i : List D) : D.isi T (.lst i) = pure (.bl (tyIs "list" T)) := rfl
@[simp] theorem isi_str (T : String) (i : Str) : D.isi T (.str i) = pure (.bl (tyIs "str" T)) := rfl
@[simp] theorem isi_bl (T : String) (i : Bool) : D.isi T (.bl i) = pure (.bl (tyIs "bool" T)) := rfl
@[simp] theorem isi_non (T : String) : D.isi T .non = pure (.bl (tyIs "NoneType" T)) := rfl
@[simp] theorem ty1 : tyIs "int" "int" = true := by decide
@[simp] theorem ty2 : tyIs "int" "bool" = false := by decide
@[simp] theorem ty3 : tyIs "tuple" "tuple" = true := by decide
@[simp] theorem ty4 : tyIs "list" "list" = true := by decide
@[simp] theorem ty5 : tyIs "str" "str" = true := by decide
@[simp] theorem ty6 : tyIs "bool" "int" = true := by decide
@[simp] theorem ty7 : tyIs "bool" "bool" = true := by decide
@[simp] theorem ty8 : tyIs "list" "tuple" = false := by decide
@[simp] theorem ty9 : tyIs "NoneType" "tuple" = false := by decide
@[simp] theorem ty10 : tyIs "tuple" "list" = false := by decide
@[simp] theorem ty11 : tyIs "NoneType" "int" = false := by decide
@[simp] theorem ty12 : tyIs "str" "int" = false := by decide
@[simp] theorem ty13 : tyIs "tuple" "int" = false := by decide
@[simp] theorem ty14 : tyIs "list" "int" = false := by decide
@[simp] theorem ty15 : tyIs "int" "tuple" = false := by decide
@[simp] theorem ty16 : tyIs "str" "tuple" = false := by decide
@[simp] theorem ty17 : tyIs "bool" "tuple" = false := by decide
@[simp] theorem ty18 : tyIs "NoneType" "list" = false := by decide
@[simp] theorem ty19 : tyIs "str" "list" = false := by decide
@[simp] theorem ty20 : tyIs "int" "str" = false := by decide
@[simp] theorem ty21 : tyIs "tuple" "str" = false := by decide
@[simp] theorem ty22 : tyIs "list" "str" = false := by decide
@[simp] theorem ty23 : tyIs "NoneType" "str" = false := by decide
@[simp] theorem ty24 : tyIs "bool" "str" = false := by decide
@[simp] theorem ty25 : tyIs "int" "list" = false := by decide
@[simp] theorem ty26 : tyIs "bool" "list" = false := by decide

theorem f_is_number (i lo hi : Int) : F_is_number [.int i, .int lo, .int hi] = pure (.bl (decide (lo ≤ i) && decide (i ≤ hi))) := by
  unfold F_is_number G_is_number fnF
  by_cases h : lo ≤ i
  · simp [getv, h]
  · simp [getv, h]
/-- keys of many, as are_keys_of finds -/
def keysB (n : Int) (l : List Int) : Bool := (l.all fun i => decide (0 ≤ i) && decide (i ≤ n - 1)) && ((l.zip (l.drop 1)).all fun p => decide (p.1 < p.2))
theorem ziD_ints : ∀ l k : List Int, ziD (l.map D.int) (k.map D.int) = (l.zip k).map fun p => D.tup [.int p.1, .int p.2]
  | [], _ => by simp [ziD]
  | _ :: _, [] => by simp [ziD]
  | a :: l, b :: k => by simp [ziD, ziD_ints l k]
@[simp] theorem all_map_bl {α : Type} (xs : List α) (p : α → Bool) : D.all (.lst (xs.map fun x => D.bl (p x))) = pure (.bl (xs.all p)) := by
  have e : (xs.map fun x => D.bl (p x)) = (xs.map p).map D.bl := by rw [List.map_map]; rfl
  rw [e, all_bls, List.all_map]
  rfl
theorem f_are_keys_of (n : Int) {l : List Int} (hl : l.length ≤ LIM) : F_are_keys_of [.int n, kT l] = pure (.bl (keysB n l)) := by
  unfold F_are_keys_of G_are_keys_of fnF
  have e1 : compL (tgN 2) always (nop F_is_number (acons (getv 2) (acons (cst (.int 0)) (acons (bin D.sub (getv 0) (cst (.int 1))) anil)))) [some (.int n), some (kT l), none, none] (l.map D.int) = pure (l.map fun i => D.bl (decide (0 ≤ i) && decide (i ≤ n - 1))) :=
    compL_all l D.int _ fun i _ => ⟨_, rfl, by simp [getv, f_is_number]⟩
  have e2 : compL (tgT [2, 3]) always (bin D.lt (getv 2) (getv 3)) [some (.int n), some (kT l), none, none] ((l.zip (l.drop 1)).map fun p => D.tup [.int p.1, .int p.2]) = pure ((l.zip (l.drop 1)).map fun p => D.bl (decide (p.1 < p.2))) :=
    compL_all _ _ _ fun p _ => ⟨_, rfl, by simp [getv]⟩
  have hz : ((l.zip (l.drop 1)).map fun p => D.tup [.int p.1, .int p.2]).length ≤ LIM := by rw [List.length_map, List.length_zip]; omega
  have h1 : (l.map D.int).length ≤ LIM := by rw [List.length_map]; exact hl
  have e3 : D.zip (kT l) (.tup ((l.map D.int).drop 1)) = pure ((l.zip (l.drop 1)).map fun p => D.tup [.int p.1, .int p.2]) := by
    rw [← List.map_drop]
    show (pure (ziD _ _) : M (List D)) = _
    rw [ziD_ints]
  have e4 := slice_1T (l.map D.int)
  have hl' : l.length ≤ LIM + 1 := by omega
  simp only [kT] at e1 e2 e3 ⊢
  unfold keysB
  by_cases hk : (l.all fun i => decide (0 ≤ i) && decide (i ≤ n - 1)) = true
  · simp [-List.drop_one, getv, e1, e2, e3, e4, hz, h1, hk, hl, hl']
  · simp [-List.drop_one, getv, e1, e2, e3, e4, hz, h1, hk, hl, hl']
end DL

/-! DM5: loops that gather; changes of sets. -/
namespace DL
open PySem PySem.Spec PyProof.Rows L2

/-- for x in xs: if p x: found.append(g x) -/
theorem loop_app {α ω : Type} {τ : En → D → Option En} {body : En → M Fl} (mk : List D → ω → En) (f g : α → D) (p : α → Bool) : ∀ (xs : List α) (acc : List D) (o : ω), acc.length + xs.length ≤ LIM →
    (∀ x ∈ xs, ∀ (acc : List D) (o : ω), acc.length < LIM → ∃ ρ1 o', τ (mk acc o) (f x) = some ρ1 ∧ body ρ1 = pure (.nx (mk (if p x then acc ++ [g x] else acc) o'))) →
    ∃ o', loopF τ body (xs.map f) (mk acc o) = pure (.nx (mk (acc ++ (xs.filter p).map g) o'))
  | [], acc, o, _, _ => ⟨o, by simp [loopF]⟩
  | x :: r, acc, o, hl, h => by
    rw [List.length_cons] at hl
    obtain ⟨ρ1, o1, h1, h2⟩ := h x List.mem_cons_self acc o (by omega)
    obtain ⟨o2, h3⟩ := loop_app mk f g p r (if p x then acc ++ [g x] else acc) o1 (by split <;> (try rw [List.length_append, List.length_singleton]) <;> omega) fun y hy => h y (List.mem_cons_of_mem _ hy)
    refine ⟨o2, ?_⟩
    rw [List.map_cons]
    unfold loopF
    rw [h1]
    simp only [h2, M.pure_bind]
    rw [h3]
    by_cases hp : p x = true
    · rw [if_pos hp, List.filter_cons_of_pos hp, List.map_cons, List.append_assoc]
      rfl
    · rw [if_neg hp, List.filter_cons_of_neg hp]
theorem LIM_pos : 0 < LIM := by rw [LIM_val]; decide
/-! ### strings -/
def S (x : String) : Str := Str.ofString x
theorem str_inj {x y : Str} : D.str x = D.str y ↔ x = y := ⟨fun h => by cases h; rfl, fun h => by rw [h]⟩
theorem cl_str {x : Str} (h : x.cps.all (· < 0x110000) = true) (n : Nat) : (D.str x).cl n = true := by unfold D.cl; exact h
@[simp] theorem cl_down (n : Nat) : (D.str "down").cl n = true := cl_str (by decide +kernel) n
@[simp] theorem cl_up (n : Nat) : (D.str "up").cl n = true := cl_str (by decide +kernel) n
theorem down_up : ("down" : Str) ≠ "up" := by decide +kernel
theorem up_down : ("up" : Str) ≠ "down" := by decide +kernel
/-! ### changes -/
def wd (b : Bool) : Str := if b then "down" else "up"
theorem cl_wd (b : Bool) (n : Nat) : (D.str (wd b)).cl n = true := by cases b <;> simp [wd]
def chD (c : Bool × Int) : D := .tup [.str (wd c.1), .int c.2]
theorem cl_ch (c : Bool × Int) (n : Nat) : (chD c).cl (n + 1) = true := by
  unfold chD
  rw [cl_tup]
  unfold D.clAll D.clAll D.clAll
  simp [cl_wd]
theorem wd_inj {a b : Bool} : wd a = wd b ↔ a = b := by
  cases a <;> cases b <;> simp [wd, down_up, up_down]
theorem ch_inj {a b : Bool × Int} : chD a = chD b ↔ a = b := by
  constructor
  · intro h
    unfold chD at h
    have h1 : wd a.1 = wd b.1 ∧ a.2 = b.2 := by simpa using h
    exact Prod.ext (wd_inj.mp h1.1) h1.2
  · intro h; rw [h]
theorem chs_inj : ∀ {l k : List (Bool × Int)}, l.map chD = k.map chD ↔ l = k
  | [], [] => by simp
  | [], _ :: _ => by simp
  | _ :: _, [] => by simp
  | a :: l, b :: k => by
    rw [List.map_cons, List.map_cons, List.cons.injEq, List.cons.injEq, ch_inj, chs_inj]
theorem clAll_chs (l : List (Bool × Int)) (n : Nat) : D.clAll (l.map chD) (n + 1) = true := clAll_map _ _ _ fun _ _ => cl_ch _ _
def okCh (c : Bool × Int) : Bool := decide (0 ≤ c.2) && decide (c.2 ≤ 5)
theorem idx_0 (a : D) (r : List D) : D.idx (.tup (a :: r)) (.int 0) = pure a := by
  show opt _root_.id (atI (a :: r) 0) = _
  have : atI (a :: r) 0 = some a := by
    unfold atI ixN
    simp
  rw [this]; rfl
theorem idx_1 (a b : D) (r : List D) : D.idx (.tup (a :: b :: r)) (.int 1) = pure b := by
  show opt _root_.id (atI (a :: b :: r) 1) = _
  have : atI (a :: b :: r) 1 = some b := by
    unfold atI ixN
    have h : (1 : Int) < ((r.length : Int) + 1 + 1) := by omega
    simp [h]
  rw [this]; rfl
theorem f_is_change (c : Bool × Int) : F_is_change [chD c] = pure (.bl (okCh c)) := by
  unfold F_is_change G_is_change fnF
  have e1 : D.ne (.int 2) (.int 2) = pure (.bl false) := ne_same (cl_int _ _)
  have e2 : D.inn (.str (wd c.1)) (.tup [.str "down", .str "up"]) = pure (.bl true) := inn_tup (cl_wd _ _) (by simp [D.clAll]) (by cases c.1 <;> simp [wd])
  have e3 := f_is_number c.2 0 5
  unfold chD okCh
  simp [getv, e1, e2, e3, idx_0, idx_1]
theorem f_are_changes {cs : List (Bool × Int)} (hl : cs.length ≤ LIM) : F_are_changes [.lst (cs.map chD)] = pure (.bl (decide (cs.length ≤ 40) && cs.all okCh)) := by
  unfold F_are_changes G_are_changes fnF
  have e1 : compL (tgN 1) always (nop F_is_change (acons (getv 1) anil)) [some (.lst (cs.map chD)), none] (cs.map chD) = pure (cs.map fun c => D.bl (okCh c)) :=
    compL_all cs chD _ fun c _ => ⟨_, rfl, by simp [getv, f_is_change]⟩
  by_cases h : cs.length ≤ 40
  · have h' : (cs.length : Int) ≤ 40 := by omega
    simp [getv, e1, hl, h, h']
  · have h' : ¬ (cs.length : Int) ≤ 40 := by omega
    simp [getv, e1, hl, h, h']
theorem f_need_changes {cs : List (Bool × Int)} (hl : cs.length ≤ LIM) : F_need_changes [.lst (cs.map chD)] = if (decide (cs.length ≤ 40) && cs.all okCh) = true then pure .non else M.raise "NoKeys" := by
  unfold F_need_changes G_need_changes fnF
  have e := f_are_changes hl
  by_cases h : (decide (cs.length ≤ 40) && cs.all okCh) = true
  · rw [h] at e
    simp [getv, e, h]
  · rw [if_neg h]
    have h2 : (decide (cs.length ≤ 40) && cs.all okCh) = false := (Bool.not_eq_true _).mp h
    rw [h2] at e
    simp [getv, e]
theorem f_need_set {l : List Int} (hl : l.length ≤ LIM) : F_need_set [kT l] = if keysB 6 l = true then pure .non else M.raise "NoKeys" := by
  unfold F_need_set G_need_set fnF
  have e := f_are_keys_of 6 hl
  by_cases h : keysB 6 l = true
  · rw [h] at e
    simp [getv, e, h]
  · rw [if_neg h]
    have h2 : keysB 6 l = false := (Bool.not_eq_true _).mp h
    rw [h2] at e
    simp [getv, e]
/-! ### between -/
def six : List Int := [0, 1, 2, 3, 4, 5]
def btw (a b : List Int) : List (Bool × Int) := (six.filter fun k => decide (k ∈ a) != decide (k ∈ b)).map fun k => (!decide (k ∈ a), k)
theorem rng6 : rng1 (.int 6) = pure (six.map D.int) := by
  rw [rng1_ok (by decide)]
  rfl
theorem inn_k {i : Int} {l : List Int} : D.inn (.int i) (kT l) = pure (.bl (decide (i ∈ l))) := inn_tup (cl_int _ _) (clAll_ints _ _) (by rw [mem_ints, decide_eq_true_iff])
theorem inn_kL {i : Int} {l : List Int} : D.inn (.int i) (kL l) = pure (.bl (decide (i ∈ l))) := inn_lst (cl_int _ _) (clAll_ints _ _) (by rw [mem_ints, decide_eq_true_iff])
theorem eqv_bl (a b : Bool) : (D.bl a).eqv (.bl b) = (a == b) := by
  unfold D.eqv
  cases a <;> cases b <;> rfl
@[simp] theorem ne_bl (a b : Bool) : D.ne (.bl a) (.bl b) = pure (.bl (a != b)) := by
  unfold D.ne
  have f : ∀ b, (D.bl b).fine 64 = true := fun b => by unfold D.fine; rfl
  rw [f, f, eqv_bl]
  rfl
@[simp] theorem eq_bl (a b : Bool) : D.eq (.bl a) (.bl b) = pure (.bl (a == b)) := by
  unfold D.eq
  have f : ∀ b, (D.bl b).fine 64 = true := fun b => by unfold D.fine; rfl
  rw [f, f, eqv_bl]
  rfl
theorem LIM2 {a b : D} : [a, b].length ≤ LIM := by show 2 ≤ LIM; rw [LIM_val]; decide
theorem LIM1 {a : D} : [a].length ≤ LIM := by show 1 ≤ LIM; rw [LIM_val]; decide
theorem f_between {a b : List Int} (ha : a.length ≤ LIM) (hb : b.length ≤ LIM) : F_between [kT a, kT b] = if keysB 6 a = true then (if keysB 6 b = true then pure (.lst ((btw a b).map chD)) else M.raise "NoKeys") else M.raise "NoKeys" := by
  unfold F_between G_between fnF
  have ea := f_need_set ha
  have eb := f_need_set hb
  by_cases h1 : keysB 6 a = true
  · rw [if_pos h1] at ea ⊢
    by_cases h2 : keysB 6 b = true
    · rw [if_pos h2] at eb ⊢
      obtain ⟨o, e⟩ := loop_app (τ := tgN 3) (body := ifF (tst (bin D.ne (bin D.inn (getv 3) (getv 0)) (bin D.inn (getv 3) (getv 1)))) (appF 2 (nop mkTup (acons (ifx (tst (bin D.inn (getv 3) (getv 0))) (cst (.str "up")) (cst (.str "down"))) (acons (getv 3) anil)))) skp)
        (fun acc (o : Option D) => [some (kT a), some (kT b), some (.lst acc), o]) D.int (fun k => chD (!decide (k ∈ a), k)) (fun k => decide (k ∈ a) != decide (k ∈ b)) six [] none (by show 0 + 6 ≤ LIM; rw [LIM_val]; decide) (fun k _ acc o hl => ⟨_, some (.int k), rfl, by
          have eA : appF 2 (nop mkTup (acons (ifx (tst (bin D.inn (getv 3) (getv 0))) (cst (.str "up")) (cst (.str "down"))) (acons (getv 3) anil))) [some (kT a), some (kT b), some (.lst acc), some (.int k)] =
              (nop mkTup (acons (ifx (tst (bin D.inn (getv 3) (getv 0))) (cst (.str "up")) (cst (.str "down"))) (acons (getv 3) anil)) [some (kT a), some (kT b), some (.lst acc), some (.int k)] >>= fun d => pure (.nx ([some (kT a), some (kT b), some (.lst acc), some (.int k)].set 2 (some (.lst (acc ++ [d])))))) := appF_ap rfl hl
          have i1 := inn_k (i := k) (l := a)
          have i2 := inn_k (i := k) (l := b)
          by_cases q1 : k ∈ a <;> by_cases q2 : k ∈ b <;> simp [getv, eA, i1, i2, q1, q2, mkTup2 LIM2, chD, wd]⟩)
      simp only [List.nil_append] at e
      have eB : (btw a b).map chD = (six.filter fun k => decide (k ∈ a) != decide (k ∈ b)).map fun k => chD (!decide (k ∈ a), k) := by
        unfold btw
        rw [List.map_map]
        rfl
      rw [eB]
      simp only [kT] at e ea eb ⊢
      simp [getv, ea, eb, rng6, e, nodic]
    · rw [if_neg h2] at eb ⊢
      simp only [kT] at ea eb ⊢
      simp [getv, ea, eb]
  · rw [if_neg h1] at ea ⊢
    simp only [kT] at ea eb ⊢
    simp [getv, ea]
end DL

/-! DM6: led; sets in their order; toggles. -/
namespace DL
open PySem PySem.Spec PyProof.Rows L2

theorem nodup_le {α : Type} [DecidableEq α] : ∀ (l k : List α), l.Nodup → (∀ x ∈ l, x ∈ k) → l.length ≤ k.length
  | [], _, _, _ => Nat.zero_le _
  | x :: l, k, h, hs => by
    have hx : x ∈ k := hs x List.mem_cons_self
    have ih := nodup_le l (k.erase x) (List.nodup_cons.mp h).2 fun y hy => by
      have ne : y ≠ x := fun e => (List.nodup_cons.mp h).1 (by rw [← e]; exact hy)
      exact (List.mem_erase_of_ne ne).mpr (hs y (List.mem_cons_of_mem _ hy))
    rw [List.length_erase_of_mem hx] at ih
    have : 0 < k.length := List.length_pos_of_mem hx
    rw [List.length_cons]
    omega
theorem six_pw : six.Pairwise (· < ·) := by decide
theorem six_nd : six.Nodup := by decide
theorem mem_six {k : Int} : k ∈ six ↔ 0 ≤ k ∧ k ≤ 5 := by
  unfold six
  simp only [List.mem_cons, List.not_mem_nil, or_false]
  omega
/-- a set in its order -/
def sortS (s : List Int) : List Int := six.filter fun k => decide (k ∈ s)
def Can (l : List Int) : Prop := sortS l = l
theorem sortS_pw (s : List Int) : (sortS s).Pairwise (· < ·) := six_pw.sublist List.filter_sublist
theorem mem_sortS {s : List Int} {k : Int} : k ∈ sortS s ↔ k ∈ six ∧ k ∈ s := by
  unfold sortS
  rw [List.mem_filter, decide_eq_true_iff]
theorem Can.pw {l : List Int} (h : Can l) : l.Pairwise (· < ·) := by
  have := sortS_pw l
  rw [h] at this
  exact this
theorem Can.sub {l : List Int} (h : Can l) : ∀ k ∈ l, k ∈ six := fun k hk => by
  rw [← h] at hk
  exact (mem_sortS.mp hk).1
theorem Can.nd {l : List Int} (h : Can l) : l.Nodup := h.pw.imp fun h => Int.ne_of_lt h
theorem can_sortS (s : List Int) : Can (sortS s) := lt_uniq (sortS_pw _) (sortS_pw _) fun z => by
  rw [mem_sortS, mem_sortS]
  exact ⟨fun h => h.2, fun h => ⟨h.1, h⟩⟩
theorem can_of {l : List Int} (p : l.Pairwise (· < ·)) (h : ∀ k ∈ l, k ∈ six) : Can l := lt_uniq (sortS_pw _) p fun z => by
  rw [mem_sortS]
  exact ⟨fun h => h.2, fun hz => ⟨h z hz, hz⟩⟩
theorem can_filter (p : Int → Bool) : Can (six.filter p) := can_of (six_pw.sublist List.filter_sublist) fun k hk => (List.mem_filter.mp hk).1
theorem can_eq {a b : List Int} (ha : Can a) (hb : Can b) (h : ∀ k ∈ six, (k ∈ a ↔ k ∈ b)) : a = b := lt_uniq ha.pw hb.pw fun z =>
  ⟨fun hz => (h z (ha.sub z hz)).mp hz, fun hz => (h z (hb.sub z hz)).mpr hz⟩
theorem adj_pw : ∀ {l : List Int}, l.Pairwise (· < ·) → ((l.zip (l.drop 1)).all fun p => decide (p.1 < p.2)) = true
  | [], _ => rfl
  | [_], _ => rfl
  | a :: b :: r, h => by
    have h1 : a < b := (List.pairwise_cons.mp h).1 b List.mem_cons_self
    have ih := adj_pw (List.pairwise_cons.mp h).2
    show (decide (a < b) && (((b :: r).zip ((b :: r).drop 1)).all fun p => decide (p.1 < p.2))) = true
    rw [ih, decide_eq_true h1]
    rfl
theorem pw_adj : ∀ {l : List Int}, ((l.zip (l.drop 1)).all fun p => decide (p.1 < p.2)) = true → l.Pairwise (· < ·)
  | [], _ => .nil
  | [a], _ => List.pairwise_singleton _ _
  | a :: b :: r, h => by
    have h' : (decide (a < b) && (((b :: r).zip ((b :: r).drop 1)).all fun p => decide (p.1 < p.2))) = true := h
    rw [Bool.and_eq_true, decide_eq_true_iff] at h'
    have ih := pw_adj h'.2
    refine List.pairwise_cons.mpr ⟨fun z hz => ?_, ih⟩
    rcases List.mem_cons.mp hz with rfl | hz
    · exact h'.1
    · exact Int.lt_trans h'.1 ((List.pairwise_cons.mp ih).1 z hz)
theorem keysB_iff {n : Int} {l : List Int} : keysB n l = true ↔ l.Pairwise (· < ·) ∧ ∀ k ∈ l, 0 ≤ k ∧ k ≤ n - 1 := by
  unfold keysB
  rw [Bool.and_eq_true, List.all_eq_true]
  constructor
  · rintro ⟨h1, h2⟩
    exact ⟨pw_adj h2, fun k hk => by simpa using h1 k hk⟩
  · rintro ⟨h1, h2⟩
    exact ⟨fun k hk => by simpa using h2 k hk, adj_pw h1⟩
theorem keysB6 {l : List Int} : keysB 6 l = true ↔ Can l := by
  rw [keysB_iff]
  constructor
  · rintro ⟨h1, h2⟩
    exact can_of h1 fun k hk => mem_six.mpr (by have := h2 k hk; omega)
  · intro h
    exact ⟨h.pw, fun k hk => by have := mem_six.mp (h.sub k hk); omega⟩
theorem Can.len {l : List Int} (h : Can l) : l.length ≤ 6 := nodup_le l six h.nd h.sub
theorem le_LIM {n : Nat} (h : n ≤ 1000) : n ≤ LIM := by rw [LIM_val]; omega
theorem Can.lim {l : List Int} (h : Can l) : l.length ≤ LIM := le_LIM (by have := h.len; omega)
/-- sorted, of a set's members in any order -/
theorem isort_set {s : List Int} (nd : s.Nodup) (h : ∀ k ∈ s, k ∈ six) : isort (s.map D.int) = (sortS s).map D.int := by
  obtain ⟨l', e, p, pm⟩ := isort_ints s
  rw [e]
  congr 1
  have nd' : l'.Nodup := pm.nodup_iff.mpr nd
  have pw' : l'.Pairwise (· < ·) := by
    refine (List.pairwise_iff_getElem.mpr fun i j hi hj hij => ?_)
    have h1 := List.pairwise_iff_getElem.mp p i j hi hj hij
    have h2 := List.pairwise_iff_getElem.mp nd' i j hi hj hij
    omega
  exact lt_uniq pw' (sortS_pw s) fun z => by
    rw [mem_sortS, pm.mem_iff]
    exact ⟨fun hz => ⟨h z hz, hz⟩, fun hz => hz.2⟩
/-! ### led -/
def stL (s : List Int) (c : Bool × Int) : Rs (List Int) := if c.1 = decide (c.2 ∈ s) then .ex "NoKeys" else .nx (if c.1 then s ++ [c.2] else s.filter fun k => k != c.2)
/-- a set's row while it is led -/
def Row6 (s : List Int) : Prop := s.Nodup ∧ ∀ k ∈ s, k ∈ six
theorem Row6.len {s : List Int} (h : Row6 s) : s.length ≤ 6 := nodup_le s six h.1 h.2
theorem Row6.step {s s' : List Int} {c : Bool × Int} (h : Row6 s) (hc : okCh c = true) (e : stL s c = .nx s') : Row6 s' := by
  unfold stL at e
  split at e
  · cases e
  · rename_i hne
    cases e
    have hk : c.2 ∈ six := mem_six.mpr (by unfold okCh at hc; simpa using hc)
    by_cases hw : c.1 = true
    · rw [if_pos hw]
      have hn : c.2 ∉ s := fun z => hne (by rw [hw, decide_eq_true z])
      refine ⟨List.nodup_append.mpr ⟨h.1, by simp, fun a ha b hb => ?_⟩, fun k hk' => ?_⟩
      · rw [List.mem_singleton.mp hb]
        exact fun e => hn (by rw [← e]; exact ha)
      · rcases List.mem_append.mp hk' with z | z
        · exact h.2 k z
        · rw [List.mem_singleton.mp z]; exact hk
    · rw [if_neg hw]
      exact ⟨h.1.filter _, fun k hk' => h.2 k (List.mem_filter.mp hk').1⟩
def ledR (a : List Int) (cs : List (Bool × Int)) : Rs (List Int) := foldR stL a cs
def ledM (a : List Int) (cs : List (Bool × Int)) : M D := match ledR a cs with
  | .nx s => pure (kT (sortS s))
  | .rt d => pure d
  | .ex c => M.raise c
theorem eq_str {x y : Str} (hx : x.cps.all (· < 0x110000) = true) (hy : y.cps.all (· < 0x110000) = true) : D.eq (.str x) (.str y) = pure (.bl (decide (x = y))) := eq_of (cl_str hx 64) (cl_str hy 64) (by rw [str_inj, decide_eq_true_iff])
theorem eq_wd (b : Bool) : D.eq (.str (wd b)) (.str "down") = pure (.bl b) := eq_of (cl_wd b 64) (cl_down 64) (by cases b <;> simp [wd, up_down])
theorem ne_int (i j : Int) : D.ne (.int i) (.int j) = pure (.bl (i != j)) := by
  have := ne_of (a := .int i) (b := .int j) (p := i == j) (cl_int _ _) (cl_int _ _) (by rw [int_inj, beq_iff_eq])
  exact this
theorem eq_int (i j : Int) : D.eq (.int i) (.int j) = pure (.bl (i == j)) := eq_of (cl_int _ _) (cl_int _ _) (by rw [int_inj, beq_iff_eq])
theorem f_led {a : List Int} {cs : List (Bool × Int)} (ha : Can a) (hl : cs.length ≤ 40) (hc : cs.all okCh = true) : F_led [kT a, .lst (cs.map chD)] = ledM a cs := by
  unfold F_led G_led fnF
  have ea := f_need_set ha.lim
  rw [if_pos (keysB6.mpr ha)] at ea
  have ec := f_need_changes (cs := cs) (le_LIM (by omega))
  rw [if_pos (by rw [hc, decide_eq_true hl]; rfl)] at ec
  have body : ∀ c ∈ cs, ∀ s ρ, (Row6 s ∧ ∃ o1 o2 o3 : Option D, ρ = [some (kT a), some (.lst (cs.map chD)), some (kL s), o1, o2, o3]) → ∃ ρ1, tgT [3, 4] ρ (chD c) = some ρ1 ∧
      (stL s c).Is (fun s ρ => Row6 s ∧ ∃ o1 o2 o3 : Option D, ρ = [some (kT a), some (.lst (cs.map chD)), some (kL s), o1, o2, o3])
        ((sq (ifF (tst (bin D.eq (bin D.eq (getv 3) (cst (.str "down"))) (bin D.inn (getv 4) (getv 2)))) (fun _ => M.raise "NoKeys") skp) (setF 2 (ifx (tst (bin D.eq (getv 3) (cst (.str "down")))) (bin D.add (getv 2) (nop mkLst (acons (getv 4) anil))) (lstF (compF (itr D.items (getv 2)) (tgN 5) [5] (tst (bin D.ne (getv 5) (getv 4))) (getv 5)))))) ρ1) := by
    rintro c hcm s ρ ⟨hs, o1, o2, o3, rfl⟩
    refine ⟨[some (kT a), some (.lst (cs.map chD)), some (kL s), some (.str (wd c.1)), some (.int c.2), o3], rfl, ?_⟩
    have e1 := eq_wd c.1
    have e2 := inn_kL (i := c.2) (l := s)
    have hl6 := hs.len
    have l1 : s.length ≤ LIM := le_LIM (by omega)
    have l2 : s.length + 1 ≤ LIM := le_LIM (by omega)
    have e3 : compL (tgN 5) (tst (bin D.ne (getv 5) (getv 4))) (getv 5) [some (kT a), some (.lst (cs.map chD)), some (kL s), some (.str (wd c.1)), some (.int c.2), none] (s.map D.int) = pure ((s.filter fun k => k != c.2).map D.int) :=
      compL_map s D.int D.int (fun k => k != c.2) fun k _ => ⟨_, rfl, by simp [getv, ne_int], fun _ => by simp [getv]⟩
    have e4 : D.add (kL s) (kL [c.2]) = pure (kL (s ++ [c.2])) := by
      show (if (s.map D.int).length + [D.int c.2].length ≤ LIM then _ else _) = _
      rw [if_pos (by rw [List.length_map]; exact l2)]
      show pure (D.lst (s.map D.int ++ [D.int c.2])) = _
      rw [kL, List.map_append]
      rfl
    have hok : okCh c = true := List.all_eq_true.mp hc c hcm
    cases q : stL s c with
    | nx s' =>
      have hs' := hs.step hok q
      unfold stL at q
      split at q
      · cases q
      · rename_i hne
        cases q
        have hb : (c.1 == decide (c.2 ∈ s)) = false := beq_eq_false_iff_ne.mpr hne
        refine ⟨[some (kT a), some (.lst (cs.map chD)), some (kL (if c.1 = true then s ++ [c.2] else s.filter fun k => k != c.2)), some (.str (wd c.1)), some (.int c.2), o3], ?_, hs', _, _, _, rfl⟩
        simp only [kL, kT, List.map_cons, List.map_nil] at e1 e2 e3 e4 ⊢
        by_cases hw : c.1 = true
        · rw [hw] at hb e1 e3 ⊢
          simp [getv, e1, e2, e3, e4, hb, l1, mkLst2 LIM1]
        · have hw' : c.1 = false := (Bool.not_eq_true _).mp hw
          rw [hw'] at hb e1 e3 ⊢
          simp [getv, e1, e2, e3, e4, hb, l1]
    | ex cc =>
      unfold stL at q
      split at q
      · rename_i he
        cases q
        show _ = M.raise "NoKeys"
        have hb : (c.1 == decide (c.2 ∈ s)) = true := beq_iff_eq.mpr he
        simp only [kL, kT] at e1 e2 ⊢
        simp [getv, e1, e2, hb]
      · cases q
    | rt d =>
      unfold stL at q
      split at q <;> cases q
  have h0 : Row6 a := ⟨ha.nd, ha.sub⟩
  have r := loop_R _ chD stL cs a [some (kT a), some (.lst (cs.map chD)), some (kL a), none, none, none] ⟨h0, none, none, none, rfl⟩ body
  unfold ledM ledR
  cases q : foldR stL a cs with
  | nx s =>
    rw [q] at r
    obtain ⟨ρ', e, hs, o1, o2, o3, rfl⟩ := r
    have es : D.srt (kL s) = pure (kL (sortS s)) := by
      rw [show D.srt (kL s) = pure (.lst (isort (s.map D.int))) from srt_lst (okSort_ints s), isort_set hs.1 hs.2]
    simp only [kL, kT] at ea ec e es ⊢
    simp [getv, ea, ec, e, es]
  | ex c =>
    rw [q] at r
    have r' : loopF _ _ _ _ = M.raise c := r
    simp only [kL, kT] at ea ec r' ⊢
    simp [getv, ea, ec, r']
  | rt d =>
    exfalso
    clear r body ec hl hc
    have none : ∀ (l : List (Bool × Int)) (s : List Int) (d : D), foldR stL s l ≠ .rt d := by
      intro l
      induction l with
      | nil => intro s d z; cases z
      | cons c r ih =>
        intro s d z
        unfold foldR at z
        cases q2 : stL s c with
        | nx s' => rw [q2] at z; exact ih s' d z
        | ex cc => rw [q2] at z; cases z
        | rt d' =>
          unfold stL at q2
          split at q2 <;> cases q2
    exact none cs a d q
end DL

/-! DM7: changes lead from set to set. -/
namespace DL
open PySem PySem.Spec PyProof.Rows L2

theorem foldR_append {α σ : Type} (st : σ → α → Rs σ) : ∀ (a b : List α) (s s' : σ), foldR st s a = .nx s' → foldR st s (a ++ b) = foldR st s' b
  | [], b, s, s', h => by cases h; rfl
  | x :: a, b, s, s', h => by
    rw [List.cons_append]
    unfold foldR at h
    show (match st s x with | .nx s' => foldR st s' (a ++ b) | .rt d => .rt d | .ex c => .ex c) = foldR st s' b
    cases q : st s x with
    | nx s1 =>
      rw [q] at h
      exact foldR_append st a b s1 s' h
    | rt d => rw [q] at h; cases h
    | ex c => rw [q] at h; cases h
/-- the changes at these keys, as s0 has them -/
def tog (s0 ks : List Int) : List (Bool × Int) := ks.map fun k => (!decide (k ∈ s0), k)
theorem led_tog (s0 : List Int) : ∀ (ks s : List Int), ks.Nodup → (∀ k ∈ ks, k ∈ six) → Row6 s → (∀ k ∈ ks, (k ∈ s ↔ k ∈ s0)) →
    ∃ s', foldR stL s (tog s0 ks) = .nx s' ∧ Row6 s' ∧ ∀ z, z ∈ s' ↔ (if z ∈ ks then z ∉ s0 else z ∈ s)
  | [], s, _, _, hs, _ => ⟨s, rfl, hs, fun z => by simp⟩
  | k :: ks, s, nd, h6, hs, hm => by
    have hk := hm k List.mem_cons_self
    have hkn : k ∉ ks := (List.nodup_cons.mp nd).1
    have hok : okCh (!decide (k ∈ s0), k) = true := by
      have := mem_six.mp (h6 k List.mem_cons_self)
      unfold okCh
      simpa using this
    have st1 : stL s (!decide (k ∈ s0), k) = .nx (if (!decide (k ∈ s0)) = true then s ++ [k] else s.filter fun z => z != k) := by
      unfold stL
      rw [if_neg (by
        intro e
        have e' : (!decide (k ∈ s0)) = decide (k ∈ s) := e
        by_cases q : k ∈ s0
        · rw [decide_eq_true q, decide_eq_true (hk.mpr q)] at e'
          cases e'
        · rw [decide_eq_false q, decide_eq_false fun z => q (hk.mp z)] at e'
          cases e')]
    have hs1 := hs.step hok st1
    have mem1 : ∀ z, z ∈ (if (!decide (k ∈ s0)) = true then s ++ [k] else s.filter fun z => z != k) ↔ (if z = k then k ∉ s0 else z ∈ s) := by
      intro z
      by_cases q : k ∈ s0
      · rw [decide_eq_true q]
        by_cases e : z = k
        · subst e
          simp [q]
        · simp [e]
      · rw [decide_eq_false q]
        by_cases e : z = k
        · subst e
          simp [q]
        · simp [e]
    generalize (if (!decide (k ∈ s0)) = true then s ++ [k] else s.filter fun z => z != k) = s1 at st1 hs1 mem1
    obtain ⟨s', e, h1, h2⟩ := led_tog s0 ks s1 (List.nodup_cons.mp nd).2 (fun z hz => h6 z (List.mem_cons_of_mem _ hz)) hs1 fun z hz => by
      rw [mem1 z, if_neg (fun e => hkn (by rw [← e]; exact hz))]
      exact hm z (List.mem_cons_of_mem _ hz)
    refine ⟨s', ?_, h1, fun z => ?_⟩
    · show foldR stL s ((!decide (k ∈ s0), k) :: tog s0 ks) = _
      unfold foldR
      rw [st1]
      exact e
    · rw [h2 z, mem1 z]
      by_cases e1 : z = k
      · subst e1
        simp [hkn]
      · simp [e1]
def dif (a b : List Int) : List Int := six.filter fun k => decide (k ∈ a) != decide (k ∈ b)
theorem btw_tog (a b : List Int) : btw a b = tog a (dif a b) := rfl
theorem mem_dif {a b : List Int} {k : Int} : k ∈ dif a b ↔ k ∈ six ∧ ¬ (k ∈ a ↔ k ∈ b) := by
  unfold dif
  rw [List.mem_filter]
  by_cases h1 : k ∈ a <;> by_cases h2 : k ∈ b <;> simp [h1, h2]
theorem dif_can (a b : List Int) : Can (dif a b) := can_filter _
theorem row_of {a : List Int} (h : Can a) : Row6 a := ⟨h.nd, h.sub⟩
theorem tog_len (s ks : List Int) : (tog s ks).length = ks.length := List.length_map _
theorem tog_ok {s ks : List Int} (h : ∀ k ∈ ks, k ∈ six) : (tog s ks).all okCh = true := by
  unfold tog
  rw [List.all_map]
  refine List.all_eq_true.mpr fun k hk => ?_
  have := mem_six.mp (h k hk)
  show okCh (_, k) = true
  unfold okCh
  simpa using this
/-- some keys changed: the set that comes of it -/
theorem ledM_tog {a ks : List Int} (ha : Can a) (nd : ks.Nodup) (h6 : ∀ k ∈ ks, k ∈ six) {b : List Int} (hb : Can b) (h : ∀ k ∈ six, (k ∈ b ↔ (if k ∈ ks then k ∉ a else k ∈ a))) : ledM a (tog a ks) = pure (kT b) := by
  obtain ⟨s', e, h1, h2⟩ := led_tog a ks a nd h6 (row_of ha) fun _ _ => Iff.rfl
  unfold ledM ledR
  rw [e]
  show pure (kT (sortS s')) = _
  rw [can_eq (can_sortS s') hb fun k hk => by rw [mem_sortS, h2 k, h k hk]; exact ⟨fun z => z.2, fun z => ⟨hk, z⟩⟩]
theorem led_between {a b : List Int} (ha : Can a) (hb : Can b) : ledM a (btw a b) = pure (kT b) := by
  rw [btw_tog]
  refine ledM_tog ha (dif_can a b).nd (dif_can a b).sub hb fun k hk => ?_
  by_cases h : k ∈ dif a b
  · rw [if_pos h]
    have := (mem_dif.mp h).2
    by_cases h1 : k ∈ a <;> by_cases h2 : k ∈ b <;> simp_all
  · rw [if_neg h]
    have : k ∈ a ↔ k ∈ b := Classical.not_not.mp fun z => h (mem_dif.mpr ⟨hk, z⟩)
    exact this.symm
theorem led_back {a b : List Int} (ha : Can a) (hb : Can b) : ledM a (btw a b).reverse = pure (kT b) := by
  rw [btw_tog]
  have e : (tog a (dif a b)).reverse = tog a (dif a b).reverse := by
    unfold tog
    rw [List.map_reverse]
  rw [e]
  refine ledM_tog ha ((List.reverse_perm _).nodup_iff.mpr (dif_can a b).nd) (fun k hk => (dif_can a b).sub k (List.mem_reverse.mp hk)) hb fun k hk => ?_
  by_cases h : k ∈ dif a b
  · rw [if_pos (List.mem_reverse.mpr h)]
    have := (mem_dif.mp h).2
    by_cases h1 : k ∈ a <;> by_cases h2 : k ∈ b <;> simp_all
  · rw [if_neg (fun z => h (List.mem_reverse.mp z))]
    have : k ∈ a ↔ k ∈ b := Classical.not_not.mp fun z => h (mem_dif.mpr ⟨hk, z⟩)
    exact this.symm
theorem led_none {a : List Int} (ha : Can a) : ledM a [] = pure (kT a) := by
  show pure (kT (sortS a)) = _
  rw [ha]
theorem btw_self (a : List Int) : btw a a = [] := by
  unfold btw
  simp
/-- over a third set -/
theorem led_over {a b c : List Int} (ha : Can a) (hb : Can b) (hc : Can c) : ledM a (btw a c ++ btw c b) = pure (kT b) := by
  obtain ⟨s1, e1, r1, m1⟩ := led_tog a (dif a c) a (dif_can a c).nd (dif_can a c).sub (row_of ha) fun _ _ => Iff.rfl
  have ms1 : ∀ z ∈ six, (z ∈ s1 ↔ z ∈ c) := fun z hz => by
    rw [m1 z]
    by_cases h : z ∈ dif a c
    · rw [if_pos h]
      have := (mem_dif.mp h).2
      by_cases h1 : z ∈ a <;> by_cases h2 : z ∈ c <;> simp_all
    · rw [if_neg h]
      exact Classical.not_not.mp fun q => h (mem_dif.mpr ⟨hz, q⟩)
  obtain ⟨s2, e2, r2, m2⟩ := led_tog c (dif c b) s1 (dif_can c b).nd (dif_can c b).sub r1 fun k hk => ms1 k ((dif_can c b).sub k hk)
  unfold ledM ledR
  rw [btw_tog, btw_tog, foldR_append _ _ _ _ _ e1, e2]
  show pure (kT (sortS s2)) = _
  rw [can_eq (can_sortS s2) hb fun k hk => by
    rw [mem_sortS, m2 k]
    by_cases h : k ∈ dif c b
    · rw [if_pos h]
      have := (mem_dif.mp h).2
      by_cases h1 : k ∈ c <;> by_cases h2 : k ∈ b <;> simp_all
    · rw [if_neg h, ms1 k hk]
      have : k ∈ c ↔ k ∈ b := Classical.not_not.mp fun q => h (mem_dif.mpr ⟨hk, q⟩)
      exact ⟨fun z => this.mp z.2, fun z => ⟨hk, this.mpr z⟩⟩]
/-- part of the way -/
theorem led_part {a b : List Int} (ha : Can a) (hb : Can b) (i : Nat) : ∃ h, Can h ∧ ledM a ((btw a b).take i) = pure (kT h) ∧ btw h b = (btw a b).drop i := by
  have e1 : (btw a b).take i = tog a ((dif a b).take i) := by
    rw [btw_tog]
    unfold tog
    rw [List.map_take]
  have nd := (dif_can a b).nd
  have sub1 : ∀ k ∈ (dif a b).take i, k ∈ six := fun k hk => (dif_can a b).sub k (List.mem_of_mem_take hk)
  obtain ⟨s, e, r, m⟩ := led_tog a ((dif a b).take i) a (nd.sublist (List.take_sublist ..)) sub1 (row_of ha) fun _ _ => Iff.rfl
  refine ⟨sortS s, can_sortS s, ?_, ?_⟩
  · unfold ledM ledR
    rw [e1, e]
  · have hms : ∀ k ∈ six, (k ∈ sortS s ↔ (if k ∈ (dif a b).take i then k ∉ a else k ∈ a)) := fun k hk => by
      rw [mem_sortS, m k]
      exact ⟨fun z => z.2, fun z => ⟨hk, z⟩⟩
    have split : ∀ k, k ∈ dif a b ↔ k ∈ (dif a b).take i ∨ k ∈ (dif a b).drop i := fun k => by
      rw [← List.mem_append, List.take_append_drop]
    have dj : ∀ k, k ∈ (dif a b).take i → k ∉ (dif a b).drop i := fun k h1 h2 => by
      have := nd
      rw [← List.take_append_drop i (dif a b)] at this
      exact (List.nodup_append.mp this).2.2 k h1 k h2 rfl
    have e2 : dif (sortS s) b = (dif a b).drop i := by
      refine lt_uniq (dif_can _ _).pw ((dif_can a b).pw.sublist (List.drop_sublist ..)) fun k => ?_
      rw [mem_dif]
      constructor
      · rintro ⟨hk, hn⟩
        rw [hms k hk] at hn
        by_cases ht : k ∈ (dif a b).take i
        · exfalso
          rw [if_pos ht] at hn
          have := (mem_dif.mp ((split k).mpr (.inl ht))).2
          by_cases h1 : k ∈ a <;> by_cases h2 : k ∈ b <;> simp_all
        · rw [if_neg ht] at hn
          exact ((split k).mp (mem_dif.mpr ⟨hk, hn⟩)).resolve_left ht
      · intro hd
        have h3 := mem_dif.mp ((split k).mpr (.inr hd))
        refine ⟨h3.1, ?_⟩
        rw [hms k h3.1, if_neg fun z => dj k z hd]
        exact h3.2
    rw [btw_tog, btw_tog, e2]
    unfold tog
    rw [← List.map_drop]
    refine List.map_congr_left fun k hd => ?_
    have h3 := mem_dif.mp ((split k).mpr (.inr hd))
    have : (k ∈ sortS s) ↔ k ∈ a := by rw [hms k h3.1, if_neg fun z => dj k z hd]
    rw [decide_eq_decide.mpr this]
theorem btw_flip (a b : List Int) : btw b a = (btw a b).map fun c => (!c.1, c.2) := by
  rw [btw_tog, btw_tog]
  have e : dif b a = dif a b := by
    unfold dif
    refine List.filter_congr fun k _ => ?_
    exact bne_comm
  rw [e]
  unfold tog
  rw [List.map_map]
  refine List.map_congr_left fun k hk => ?_
  have h := (mem_dif.mp hk).2
  show ((!decide (k ∈ b)), k) = (!(!decide (k ∈ a)), k)
  by_cases h1 : k ∈ a <;> by_cases h2 : k ∈ b <;> simp_all
theorem btw_len (a b : List Int) : (btw a b).length = (dif a b).length := List.length_map _
theorem btw_le (a b : List Int) : (btw a b).length ≤ 6 := by rw [btw_len]; exact (dif_can a b).len
theorem btw_ok (a b : List Int) : (btw a b).all okCh = true := tog_ok (dif_can a b).sub
theorem btw_keys (a b : List Int) : (btw a b).map (·.2) = dif a b := by
  rw [btw_tog]
  unfold tog
  rw [List.map_map]
  exact List.map_id _
end DL

/-! DM8: statements one by one; drawn sets. -/
namespace DL
open PySem PySem.Spec PyProof.Rows L2

section
variable {F G : En → M Fl} {f : En → M D} {fs : En → M (List D)} {ρ : En} {c : En → M Bool} {i : Nat} {d : D}
theorem sq_set (h : f ρ = pure d) : sq (setF i f) G ρ = G (ρ.set i (some d)) := by simp [h]
theorem sq_guard (h : c ρ = pure false) : sq (ifF c F skp) G ρ = G ρ := by simp [h]
theorem sq_expr (h : f ρ = pure d) : sq (expF f) G ρ = G ρ := by simp [h]
theorem sq_nx {ρ' : En} (h : F ρ = pure (.nx ρ')) : sq F G ρ = G ρ' := by
  rw [sq_ap, h]
  rfl
theorem ret_ok (h : f ρ = pure d) : retF f ρ = pure (.rt d) := by simp [h]
theorem if_no (h : c ρ = pure false) : ifF c F skp ρ = pure (.nx ρ) := by simp [h]
theorem ort_ff {c1 c2 : En → M Bool} (h1 : c1 ρ = pure false) (h2 : c2 ρ = pure false) : ort c1 c2 ρ = pure false := by simp [h1, h2]
theorem tst_ne {a b : En → M D} {x y : D} {p : Bool} (ha : a ρ = pure x) (hb : b ρ = pure y) (h : D.ne x y = pure (.bl p)) : tst (bin D.ne a b) ρ = pure p := by
  simp [ha, hb, h]
theorem for_seq {it : En → M (List D)} {τ : En → D → Option En} {b : En → M Fl} {ds : List D} (h : it ρ = pure ds) : forF it τ b ρ = loopF τ b ds ρ := by simp [h]
end
theorem rng_nat {n : Nat} (h : n ≤ 1000) : rng1 (.int n) = pure ((List.range n).map fun (i : Nat) => D.int (i : Int)) := by
  rw [rng1_ok ⟨by omega, by omega⟩]
  unfold rngD
  simp
theorem for_rng {e : En → M D} {τ : En → D → Option En} {b : En → M Fl} {ρ : En} {n : Nat} (h : n ≤ 1000) (he : e ρ = pure (.int n)) : forF (itr (on1 rng1) (acons e anil)) τ b ρ = loopF τ b ((List.range n).map fun (i : Nat) => D.int (i : Int)) ρ :=
  for_seq (by
    rw [itr_ap, acons_ap, he]
    exact rng_nat h)
theorem len_ok {f : En → M D} {ρ : En} {l : List D} (h : f ρ = pure (.lst l)) : nop (one D.len) (acons f anil) ρ = pure (.int l.length) := by
  rw [nop_ap, acons_ap, h]
  rfl
/-! ### drawn sets -/
def setI (ns : List Int) (k : Int) : List Int := six.filter fun j => decide (0 < drawI ns (k + j) 3)
theorem f_set6 {ns : List Int} (hn : ns.length ≤ 63) (k : Int) : F__law_set [.scr ns, .int k, .int 6] = pure (kT (setI ns k)) := by
  unfold F__law_set G__law_set fnF
  have e : compL (tgN 3) (tst (bin D.gt (nop F__law_drawn (acons (getv 0) (acons (bin D.add (getv 1) (getv 3)) (acons (cst (.int 3)) anil)))) (cst (.int 0)))) (getv 3) [some (.scr ns), some (.int k), some (.int 6), none] (six.map D.int) = pure ((setI ns k).map D.int) :=
    compL_map six D.int D.int (fun j => decide (0 < drawI ns (k + j) 3)) fun j _ => ⟨_, rfl, by simp [getv, f_drawn hn (k + j) 3 (by decide)], fun _ => by simp [getv]⟩
  have hl : (six.map D.int).length ≤ LIM := le_LIM (by decide)
  simp only [kT]
  simp [getv, rng6, e, show six.length ≤ LIM from le_LIM (by decide)]
theorem can_set (ns : List Int) (k : Int) : Can (setI ns k) := can_filter _
theorem atI_mem {l : List D} {i : Int} (h0 : 0 ≤ i) (h1 : i < l.length) : ∃ d, d ∈ l ∧ atI l i = some d := by
  have hlt : i.toNat < l.length := by omega
  refine ⟨l[i.toNat], List.getElem_mem hlt, ?_⟩
  unfold atI ixN
  rw [if_pos h0, if_pos h1]
  exact List.getElem?_eq_getElem hlt
theorem idx_lst {l : List D} {i : Int} {d : D} (h : atI l i = some d) : D.idx (.lst l) (.int i) = pure d := by
  show opt _root_.id (atI l i) = _
  rw [h]; rfl
theorem idx_tup {l : List D} {i : Int} {d : D} (h : atI l i = some d) : D.idx (.tup l) (.int i) = pure d := by
  show opt _root_.id (atI l i) = _
  rw [h]; rfl
/-! ### turned about -/
theorem pickD_rev (xs : List D) : pickD xs none none (some (-1)) = xs.reverse := by
  unfold pickD
  rw [PySem.W.krv_bounds]
  show (sliceRange ((xs.length : Int) - 1) (-1) (-1)).filterMap (xs[·]?) = _
  rw [PySem.W.krv_sliceRange, PySem.W.krv_range, List.filterMap_reverse]
  congr 1
  have := PySem.W.krv_all xs.toArray
  simp only [List.size_toArray, List.getElem?_toArray] at this
  exact this
theorem slice3_rev (xs : List D) : D.slice3 none none (some (-1)) (.lst xs) = pure (.lst xs.reverse) := by
  show (if (some (-1 : Int)) = some 0 then M.bad else pure (.lst (pickD xs none none (some (-1)))) : M D) = _
  rw [if_neg (by decide), pickD_rev]
end DL

/-! DM9: squares. -/
namespace DL
open PySem PySem.Spec PyProof.Rows L2

abbrev Spot : Type := Int × Int
def spD1 (p : Spot) : D := .tup [.int p.1, .int p.2]
abbrev spsD (sp : List Spot) : D := .tup (sp.map spD1)
abbrev sqD (sp : List Spot) (di : List Int) : D := .tup [spsD sp, kT di]
def spotB (p : Spot) : Bool := (decide (0 ≤ p.1) && decide (p.1 ≤ 5)) && (decide (0 ≤ p.2) && decide (p.2 ≤ 5))
@[simp] theorem idx_t0 (x : D) (l : List D) : D.idx (.tup (x :: l)) (.int 0) = pure x := idx_tup (by
  unfold atI ixN
  rw [if_pos (by decide), if_pos (by simp only [List.length_cons]; omega)]; rfl)
@[simp] theorem idx_t1 (x y : D) (l : List D) : D.idx (.tup (x :: y :: l)) (.int 1) = pure y := idx_tup (by
  unfold atI ixN
  rw [if_pos (by decide), if_pos (by simp only [List.length_cons]; omega)]; rfl)
theorem f_is_spot (p : Spot) : F_is_spot [spD1 p] = pure (.bl (spotB p)) := by
  unfold F_is_spot G_is_spot fnF spD1 spotB
  have e : D.ne (.int 2) (.int 2) = pure (.bl false) := ne_same (cl_int _ _)
  by_cases h : (decide (0 ≤ p.1) && decide (p.1 ≤ 5)) = true
  · simp [getv, e, f_is_number, h]
  · simp [getv, e, f_is_number, h]
theorem tupI_spot (p : Spot) : tupI (spD1 p) = some [p.1, p.2] := rfl
theorem tupsI_spots : ∀ sp : List Spot, tupsI (sp.map spD1) = some (sp.map fun p => [p.1, p.2])
  | [] => rfl
  | p :: r => by
    rw [List.map_cons]
    unfold tupsI
    rw [tupI_spot, tupsI_spots r]
    rfl
theorem nubK_len {l : List (List Int)} : (nubK l).length = l.length ↔ l.Nodup := by
  induction l with
  | nil => exact ⟨fun _ => List.nodup_nil, fun _ => rfl⟩
  | cons x r ih =>
    have hle : ∀ k : List (List Int), (nubK k).length ≤ k.length := by
      intro k
      induction k with
      | nil => exact Nat.le_refl _
      | cons y t ih => unfold nubK; split <;> simp only [List.length_cons] <;> omega
    unfold nubK
    rw [List.nodup_cons]
    by_cases h : x ∈ nubK r
    · rw [if_pos h]
      have := hle r
      constructor
      · intro e; rw [List.length_cons] at e; omega
      · intro e; exact absurd (mem_nubK.mp h) e.1
    · rw [if_neg h, List.length_cons, List.length_cons]
      constructor
      · intro e; exact ⟨fun z => h (mem_nubK.mpr z), ih.mp (by omega)⟩
      · intro e; rw [ih.mpr e.2]
theorem spots_nodup {sp : List Spot} : (sp.map fun p => [p.1, p.2]).Nodup ↔ sp.Nodup := by
  constructor
  · exact fun h => List.Pairwise.of_map _ (fun _ _ hne e => hne (by rw [e])) h
  · intro h
    refine List.Pairwise.map _ (fun a b hne e => hne ?_) h
    simp only [List.cons.injEq, and_true] at e
    exact Prod.ext e.1 e.2
theorem lenSet_spots {sp : List Spot} (h : sp.length < 64) : D.lenSet2 (spsD sp) = pure (.int ((nubK (sp.map fun p => [p.1, p.2])).length : Nat)) := by
  unfold D.lenSet2
  show (if okSet (sp.map spD1) then D.lenSet _ else _ : M D) = _
  cases sp with
  | nil => rfl
  | cons p r =>
    rw [if_neg (by unfold okSet; simp [D.isInt, spD1]), tupsI_spots]
    simp only
    rw [if_pos (by rw [List.length_map]; exact h)]
/-- what is_square asks -/
def sqB (sp : List Spot) (di : List Int) : Bool := (decide (1 ≤ sp.length ∧ sp.length ≤ 6) && sp.all spotB) && (decide sp.Nodup && keysB sp.length di)
theorem f_is_square {sp : List Spot} {di : List Int} (hs : sp.length ≤ 6) (h1 : 1 ≤ sp.length) (hd : di.length ≤ LIM) : F_is_square [sqD sp di] = pure (.bl (sqB sp di)) := by
  unfold F_is_square G_is_square fnF
  have e : D.ne (.int 2) (.int 2) = pure (.bl false) := ne_same (cl_int _ _)
  have e1 : compL (tgN 1) always (nop F_is_spot (acons (getv 1) anil)) [some (sqD sp di), none] (sp.map spD1) = pure (sp.map fun p => D.bl (spotB p)) :=
    compL_all sp spD1 _ fun p _ => ⟨_, rfl, by simp [getv, f_is_spot]⟩
  have hl : sp.length ≤ LIM := le_LIM (by omega)
  have e2 := lenSet_spots (sp := sp) (by omega)
  have e3 : D.eq (.int ((nubK (sp.map fun p => [p.1, p.2])).length : Nat)) (.int (sp.length : Nat)) = pure (.bl (decide sp.Nodup)) :=
    eq_of (cl_int _ _) (cl_int _ _) (by
      rw [decide_eq_true_iff, int_inj, ← spots_nodup, ← nubK_len, List.length_map]
      omega)
  have e4 := f_are_keys_of (sp.length : Int) hd
  have i1 : (1 : Int) ≤ sp.length := by omega
  have i2 : (sp.length : Int) ≤ 6 := by omega
  simp only [kT] at e1 e4 ⊢
  unfold sqB
  rw [decide_eq_true (show 1 ≤ sp.length ∧ sp.length ≤ 6 from ⟨h1, hs⟩), Bool.true_and]
  by_cases ha : sp.all spotB = true
  · by_cases hn : sp.Nodup
    · simp [getv, e, e1, e2, e3, e4, hl, i1, i2, ha, hn]
    · simp [getv, e, e1, e2, e3, e4, hl, i1, i2, ha, hn]
  · simp [getv, e, e1, e2, e3, e4, hl, i1, i2, ha]
end DL

/-! DM10: turned, with_diodes, wires, tight. -/
namespace DL
open PySem PySem.Spec PyProof.Rows L2

section
variable {sp : List Spot} {di k : List Int}
theorem sqB_len (h : sqB sp di = true) : 1 ≤ sp.length ∧ sp.length ≤ 6 := by
  unfold sqB at h
  simp only [Bool.and_eq_true, decide_eq_true_iff] at h
  exact h.1.1
theorem sqB_keys (h : sqB sp di = true) : keysB sp.length di = true := by
  unfold sqB at h
  simp only [Bool.and_eq_true, decide_eq_true_iff] at h
  exact h.2.2
theorem sqB_nd (h : sqB sp di = true) : sp.Nodup := by
  unfold sqB at h
  simp only [Bool.and_eq_true, decide_eq_true_iff] at h
  exact h.2.1
theorem sqB_all (h : sqB sp di = true) : ∀ p ∈ sp, spotB p = true := by
  unfold sqB at h
  simp only [Bool.and_eq_true, decide_eq_true_iff] at h
  exact List.all_eq_true.mp h.1.2
theorem f_need_square (h : sqB sp di = true) (hd : di.length ≤ LIM) : F_need_square [sqD sp di] = pure .non := by
  unfold F_need_square G_need_square fnF
  have e := f_is_square (sqB_len h).2 (sqB_len h).1 hd
  rw [h] at e
  simp only [sqD, kT] at e ⊢
  simp [getv, e]
theorem f_need_keys (hk : keysB sp.length k = true) (hl : k.length ≤ LIM) : F_need_keys [sqD sp di, kT k] = pure .non := by
  unfold F_need_keys G_need_keys fnF
  have e := f_are_keys_of (sp.length : Int) hl
  rw [hk] at e
  simp only [sqD, kT] at e ⊢
  simp [getv, e]
theorem f_turned (h : sqB sp di = true) (hd : di.length ≤ LIM) : F_turned [sqD sp di] = pure (sqD (sp.map Prod.swap) di) := by
  unfold F_turned G_turned fnF
  have e := f_need_square h hd
  have e1 : compL (tgT [1, 2]) always (nop mkTup (acons (getv 2) (acons (getv 1) anil))) [some (sqD sp di), none, none] (sp.map spD1) = pure ((sp.map Prod.swap).map spD1) := by
    rw [List.map_map]
    exact compL_all sp spD1 _ fun p _ => ⟨[some (sqD sp di), some (.int p.1), some (.int p.2)], rfl, by simp [getv, mkTup2 LIM2, spD1]⟩
  have hl : sp.length ≤ LIM := le_LIM (by have := (sqB_len h).2; omega)
  simp only [sqD, kT] at e e1 ⊢
  simp [-List.map_map, getv, e, e1, hl, mkTup2 LIM2]
theorem f_with_diodes (h : sqB sp di = true) (hd : di.length ≤ LIM) (hk : keysB sp.length k = true) (hl : k.length ≤ LIM) : F_with_diodes [sqD sp di, kT k] = pure (sqD sp k) := by
  unfold F_with_diodes G_with_diodes fnF
  have e := f_need_square h hd
  have e1 := f_need_keys (sp := sp) (di := di) hk hl
  simp only [sqD, kT] at e e1 ⊢
  simp [getv, e, e1, mkTup2 LIM2]
/-- those of a row, rising -/
def wset (l : List Int) : List Int := (uniq (isort (l.map D.int))).map D.iv
theorem wset_spec (l : List Int) : uniq (isort (l.map D.int)) = (wset l).map D.int ∧ (wset l).Pairwise (· < ·) ∧ ∀ z, z ∈ wset l ↔ z ∈ l := by
  have hi : (l.map D.int).all D.isInt = true := by rw [List.all_map]; exact List.all_eq_true.mpr fun _ _ => rfl
  obtain ⟨ns, e, p, mm⟩ := uniq_isort hi
  have e2 : wset l = ns := by
    unfold wset
    rw [e, List.map_map]
    exact List.map_id ns
  rw [e2]
  refine ⟨e, p, fun z => ?_⟩
  rw [mm z, List.map_map]
  have : (D.iv ∘ D.int) = (_root_.id : Int → Int) := rfl
  rw [this, List.map_id]
theorem sortedSet_ints {l : List Int} (h : l.length < 64) : D.srtSet (.lst (l.map D.int)) = pure (.lst ((wset l).map D.int)) := by
  have hi : (l.map D.int).all D.isInt = true := by rw [List.all_map]; exact List.all_eq_true.mpr fun _ _ => rfl
  show (if okSet (l.map D.int) then pure (.lst (uniq (isort (l.map D.int)))) else _ : M D) = _
  rw [if_pos (by unfold okSet; rw [hi, List.length_map, decide_eq_true h]; rfl), (wset_spec l).1]
theorem f_wires_of (h : sp.length ≤ 6) : F_wires_of [spsD sp] = pure (.tup [.lst ((wset (sp.map (·.1))).map D.int), .lst ((wset (sp.map (·.2))).map D.int)]) := by
  unfold F_wires_of G_wires_of fnF
  have e1 : compL (tgT [1, 2]) always (getv 1) [some (spsD sp), none, none] (sp.map spD1) = pure ((sp.map (·.1)).map D.int) := by
    rw [List.map_map]
    exact compL_all sp spD1 _ fun p _ => ⟨[some (spsD sp), some (.int p.1), some (.int p.2)], rfl, by simp [getv]⟩
  have e2 : compL (tgT [1, 2]) always (getv 2) [some (spsD sp), none, none] (sp.map spD1) = pure ((sp.map (·.2)).map D.int) := by
    rw [List.map_map]
    exact compL_all sp spD1 _ fun p _ => ⟨[some (spsD sp), some (.int p.1), some (.int p.2)], rfl, by simp [getv]⟩
  have hl : sp.length ≤ LIM := le_LIM (by omega)
  have s1 := sortedSet_ints (l := sp.map (·.1)) (by rw [List.length_map]; omega)
  have s2 := sortedSet_ints (l := sp.map (·.2)) (by rw [List.length_map]; omega)
  simp [-List.map_map, getv, e1, e2, s1, s2, hl, mkTup2 LIM2]
end
end DL

/-! DM11: wires, tight. -/
namespace DL
open PySem PySem.Spec PyProof.Rows L2

/-- the place of a number in a row -/
def place (l : List Int) (x : Int) : Int := (l.idxOf x : Nat)
theorem firstD_ints {x : Int} : ∀ {l : List Int}, x ∈ l → firstD (.int x) (l.map D.int) = some (l.idxOf x)
  | [], h => by cases h
  | y :: r, h => by
    rw [List.map_cons]
    unfold firstD
    rw [eqv_int]
    by_cases c : y = x
    · subst c
      rw [if_pos (decide_eq_true rfl), List.idxOf_cons_self]
    · rw [if_neg (by rw [decide_eq_true_iff]; exact c)]
      rcases List.mem_cons.mp h with e | h
      · exact absurd e.symm c
      · rw [firstD_ints h]
        rw [List.idxOf_cons, show (y == x) = false from beq_false_of_ne c]
        rfl
theorem index_ints {x : Int} {l : List Int} (h : x ∈ l) : D.index (.lst (l.map D.int)) (.int x) = pure (.int (place l x)) := by
  show (if (D.int x).fine 64 && D.fineAll (l.map D.int) 63 then _ else _ : M D) = _
  rw [if_pos (by rw [D.cl_fine _ _ (cl_int x 64), D.clAll_fine _ _ (clAll_ints l 63)]; rfl), firstD_ints h]
  rfl
section
variable {sp : List Spot} {di k : List Int}
def rowsW (sp : List Spot) : List Int := wset (sp.map (·.1))
def colsW (sp : List Spot) : List Int := wset (sp.map (·.2))
def tightS (sp : List Spot) : List Spot := sp.map fun p => (place (rowsW sp) p.1, place (colsW sp) p.2)
theorem f_wires (h : sqB sp di = true) (hd : di.length ≤ LIM) : F_wires [sqD sp di] = pure (.int ((rowsW sp).length + (colsW sp).length : Nat)) := by
  unfold F_wires G_wires fnF
  have e := f_need_square h hd
  have e1 := f_wires_of (sqB_len h).2
  unfold rowsW colsW
  simp only [sqD, kT] at e e1 ⊢
  simp [-List.map_map, getv, e, e1]
@[simp] theorem idxF_ap (f g : En → M D) (ρ : En) : idxF f g ρ = (f ρ >>= fun a => match a with
  | .lst l => g ρ >>= fun b => D.index (.lst l) b
  | _ => M.bad) := rfl
theorem f_tight (h : sqB sp di = true) (hd : di.length ≤ LIM) : F_tight [sqD sp di] = pure (sqD (tightS sp) di) := by
  unfold F_tight G_tight fnF
  have e := f_need_square h hd
  have e1 := f_wires_of (sqB_len h).2
  have e2 : compL (tgT [3, 4]) always (nop mkTup (acons (idxF (getv 1) (getv 3)) (acons (idxF (getv 2) (getv 4)) anil))) [some (sqD sp di), some (.lst ((rowsW sp).map D.int)), some (.lst ((colsW sp).map D.int)), none, none] (sp.map spD1) = pure ((tightS sp).map spD1) := by
    unfold tightS
    rw [List.map_map]
    refine compL_all sp spD1 _ fun p hp => ⟨[some (sqD sp di), some (.lst ((rowsW sp).map D.int)), some (.lst ((colsW sp).map D.int)), some (.int p.1), some (.int p.2)], rfl, ?_⟩
    have i1 := index_ints (x := p.1) (l := rowsW sp) (((wset_spec _).2.2 _).mpr (List.mem_map.mpr ⟨p, hp, rfl⟩))
    have i2 := index_ints (x := p.2) (l := colsW sp) (((wset_spec _).2.2 _).mpr (List.mem_map.mpr ⟨p, hp, rfl⟩))
    simp [getv, i1, i2, mkTup2 LIM2, spD1]
  have hl : sp.length ≤ LIM := le_LIM (by have := (sqB_len h).2; omega)
  have e1' : F_wires_of [spsD sp] = pure (.tup [.lst ((rowsW sp).map D.int), .lst ((colsW sp).map D.int)]) := e1
  simp only [sqD, kT] at e e1' e2 ⊢
  simp [-List.map_map, getv, e, e1', e2, hl, mkTup2 LIM2]
end
end DL

/-! DT1: the typed layer: what is known of the slots; expressions and statements with typed values. -/
namespace DL
open PySem PySem.Spec PyProof.Rows L2

abbrev Ks := List (Option D)
/-- some slots are known -/
inductive Known : Ks → En → Prop
  | nil : Known [] []
  | any {x : Option D} {k : Ks} {ρ : En} : Known k ρ → Known (none :: k) (x :: ρ)
  | has {x : D} {k : Ks} {ρ : En} : Known k ρ → Known (some x :: k) (some x :: ρ)
inductive Sub : Ks → Ks → Prop
  | nil : Sub [] []
  | skip {x : Option D} {k l : Ks} : Sub k l → Sub (none :: k) (x :: l)
  | keep {x : Option D} {k l : Ks} : Sub k l → Sub (x :: k) (x :: l)
theorem Sub.refl : ∀ k : Ks, Sub k k
  | [] => .nil
  | _ :: r => .keep (Sub.refl r)
theorem Known.sub {k l : Ks} {ρ : En} (s : Sub k l) (h : Known l ρ) : Known k ρ := by
  induction s generalizing ρ with
  | nil => exact h
  | skip _ ih =>
    cases h with
    | any h => exact .any (ih h)
    | has h => exact .any (ih h)
  | keep _ ih =>
    cases h with
    | any h => exact .any (ih h)
    | has h => exact .has (ih h)
theorem Known.refl : ∀ ρ : En, Known ρ ρ
  | [] => .nil
  | none :: r => .any (Known.refl r)
  | some _ :: r => .has (Known.refl r)
theorem Known.set {k : Ks} {ρ : En} (h : Known k ρ) (i : Nat) (d : D) : Known (k.set i (some d)) (ρ.set i (some d)) := by
  induction h generalizing i with
  | nil => exact .nil
  | any h ih =>
    cases i with
    | zero => exact .has h
    | succ i => exact .any (ih i)
  | has h ih =>
    cases i with
    | zero => exact .has h
    | succ i => exact .has (ih i)
theorem Known.none {k : Ks} {ρ : En} (h : Known k ρ) (i : Nat) : Known (k.set i none) (ρ.set i none) := by
  induction h generalizing i with
  | nil => exact .nil
  | any h ih =>
    cases i with
    | zero => exact .any h
    | succ i => exact .any (ih i)
  | has h ih =>
    cases i with
    | zero => exact .any h
    | succ i => exact .has (ih i)
theorem Known.at {k : Ks} {ρ : En} (h : Known k ρ) {i : Nat} {d : D} (e : k[i]? = some (some d)) : ρ[i]? = some (some d) := by
  induction h generalizing i with
  | nil => cases e
  | any h ih =>
    cases i with
    | zero => cases e
    | succ i => exact ih e
  | has h ih =>
    cases i with
    | zero => exact e
    | succ i => exact ih e
/-- slots wiped -/
def wipeK : Ks → List Nat → Ks
  | k, [] => k
  | k, v :: vs => (wipeK k vs).set v none
theorem Known.wipe {k : Ks} {ρ : En} (h : Known k ρ) : ∀ vs, Known (wipeK k vs) (wipeD ρ vs)
  | [] => h
  | v :: vs => (Known.wipe h vs).none v

def Tv {α : Type} (k : Ks) (f : En → M α) (a : α) : Prop := ∀ ρ, Known k ρ → f ρ = pure a
/-- what a statement ends with -/
inductive Rl where
  | nx (k : Ks)
  | rt (d : D)
  | ex (c : Str)
def Rl.Is (m : M Fl) : Rl → Prop
  | .nx k => ∃ ρ, m = pure (.nx ρ) ∧ Known k ρ
  | .rt d => m = pure (.rt d)
  | .ex c => m = M.raise c
def Tx (k : Ks) (F : En → M Fl) (r : Rl) : Prop := ∀ ρ, Known k ρ → r.Is (F ρ)

section
variable {k : Ks} {α β γ : Type}
/-! ### encoders -/
abbrev eI : Int → D := D.int
abbrev eB : Bool → D := D.bl
abbrev eS : Str → D := D.str
abbrev eN : Unit → D := fun _ => D.non
abbrev eD : D → D := fun d => d
abbrev eT (e : α → D) : List α → D := fun l => .tup (l.map e)
abbrev eL (e : α → D) : List α → D := fun l => .lst (l.map e)
abbrev eP (e : α → D) (f : β → D) : α × β → D := fun p => .tup [e p.1, f p.2]
abbrev eQ (e : α → D) (f : β → D) (g : γ → D) : α × β × γ → D := fun p => .tup [e p.1, f p.2.1, g p.2.2]
def eO (e : α → D) : Option α → D
  | none => .non
  | some x => e x


/-- values whose data are told apart by == -/
structure EnO (e : α → D) (n : Nat) : Prop where
  fine : ∀ x, (e x).fine n = true
  eqv : ∀ x y, (e x).eqv (e y) = true ↔ x = y
theorem fine_up : (∀ (d : D) (n m : Nat), n ≤ m → d.fine n = true → d.fine m = true) ∧ ∀ (l : List D) (n m : Nat), n ≤ m → D.fineAll l n = true → D.fineAll l m = true := by
  have key : ∀ (m : Nat), (∀ (d : D) (n : Nat), n ≤ m → d.fine n = true → d.fine m = true) ∧ ∀ (l : List D) (n : Nat), n ≤ m → D.fineAll l n = true → D.fineAll l m = true := by
    intro m
    induction m with
    | zero =>
      refine ⟨fun d n h => ?_, fun l n h => ?_⟩
      · have : n = 0 := by omega
        subst this; exact fun h => h
      · have : n = 0 := by omega
        subst this; exact fun h => h
    | succ m ih =>
      have one : ∀ (d : D) (n : Nat), n ≤ m + 1 → d.fine n = true → d.fine (m + 1) = true := by
        intro d n h hf
        cases n with
        | zero =>
          cases d with
          | tup l => unfold D.fine at hf; cases hf
          | lst l => unfold D.fine at hf; cases hf
          | scr l => unfold D.fine at hf; simp at hf
          | _ => unfold D.fine at hf ⊢; exact hf
        | succ n =>
          cases d with
          | tup l => unfold D.fine at hf ⊢; exact ih.2 l n (by omega) hf
          | lst l => unfold D.fine at hf ⊢; exact ih.2 l n (by omega) hf
          | scr l => unfold D.fine; simp
          | _ => unfold D.fine at hf ⊢; exact hf
      refine ⟨one, fun l => ?_⟩
      induction l with
      | nil => intro n _ _; unfold D.fineAll; rfl
      | cons x r ihr =>
        intro n h hf
        unfold D.fineAll at hf ⊢
        rw [Bool.and_eq_true] at hf ⊢
        exact ⟨one x n h hf.1, ihr n h hf.2⟩
  exact ⟨fun d n m h => (key m).1 d n h, fun l n m h => (key m).2 l n h⟩
theorem EnO.up {e : α → D} {n m : Nat} (h : EnO e n) (hm : n ≤ m) : EnO e m := ⟨fun x => fine_up.1 _ n m hm (h.fine x), h.eqv⟩
theorem fineAll_map {e : α → D} {n : Nat} (h : ∀ x, (e x).fine n = true) : ∀ l : List α, D.fineAll (l.map e) n = true
  | [] => by unfold D.fineAll; rfl
  | x :: r => by
    rw [List.map_cons]
    unfold D.fineAll
    rw [h x, fineAll_map h r]; rfl
theorem eqvAll_map {e : α → D} (h : ∀ x y, (e x).eqv (e y) = true ↔ x = y) : ∀ l r : List α, PyData.eqvAll (D.toPs (l.map e)) (D.toPs (r.map e)) = true ↔ l = r
  | [], [] => by simp [D.toPs, PyData.eqvAll]
  | [], _ :: _ => by simp [D.toPs, PyData.eqvAll]
  | _ :: _, [] => by simp [D.toPs, PyData.eqvAll]
  | x :: l, y :: r => by
    simp only [List.map_cons, D.toPs, PyData.eqvAll, Bool.and_eq_true, List.cons.injEq]
    have h1 : PyData.eqv (e x).toP (e y).toP = true ↔ x = y := h x y
    rw [h1, eqvAll_map h l r]
theorem okI : EnO eI 0 := ⟨fun x => by unfold D.fine; rfl, fun x y => by simp [D.eqv, D.toP, PyData.eqv]⟩
theorem okB : EnO eB 0 := ⟨fun x => by unfold D.fine; rfl, fun x y => by simp [D.eqv, D.toP, PyData.eqv]⟩
theorem okN : EnO eN 0 := ⟨fun x => by unfold D.fine; rfl, fun x y => by simp [D.eqv, D.toP, PyData.eqv]⟩
theorem okT {e : α → D} {n : Nat} (h : EnO e n) : EnO (eT e) (n + 1) := ⟨fun x => by unfold D.fine; exact fineAll_map h.fine x, fun x y => by
  show PyData.eqv (D.toP (.tup _)) (D.toP (.tup _)) = true ↔ _
  simp only [D.toP, PyData.eqv]
  exact eqvAll_map h.eqv x y⟩
theorem okL {e : α → D} {n : Nat} (h : EnO e n) : EnO (eL e) (n + 1) := ⟨fun x => by unfold D.fine; exact fineAll_map h.fine x, fun x y => by
  show PyData.eqv (D.toP (.lst _)) (D.toP (.lst _)) = true ↔ _
  simp only [D.toP, PyData.eqv]
  exact eqvAll_map h.eqv x y⟩
theorem okP {e : α → D} {f : β → D} {n m : Nat} (h : EnO e n) (h2 : EnO f m) : EnO (eP e f) (max n m + 1) := ⟨fun x => by
  unfold D.fine
  show D.fineAll [e x.1, f x.2] (max n m) = true
  unfold D.fineAll D.fineAll D.fineAll
  rw [(h.up (Nat.le_max_left n m)).fine, (h2.up (Nat.le_max_right n m)).fine]; rfl, fun x y => by
  show PyData.eqv (D.toP (.tup _)) (D.toP (.tup _)) = true ↔ _
  simp only [D.toP, D.toPs, PyData.eqv, PyData.eqvAll, Bool.and_eq_true, Bool.and_true]
  have h1 : PyData.eqv (e x.1).toP (e y.1).toP = true ↔ x.1 = y.1 := h.eqv _ _
  have h3 : PyData.eqv (f x.2).toP (f y.2).toP = true ↔ x.2 = y.2 := h2.eqv _ _
  rw [h1, h3]
  exact ⟨fun z => Prod.ext z.1 z.2, fun z => by rw [z]; exact ⟨rfl, rfl⟩⟩⟩
theorem okQ {e : α → D} {f : β → D} {g : γ → D} {n m o : Nat} (h : EnO e n) (h2 : EnO f m) (h3 : EnO g o) : EnO (eQ e f g) (max n (max m o) + 1) := ⟨fun x => by
  unfold D.fine
  show D.fineAll [e x.1, f x.2.1, g x.2.2] (max n (max m o)) = true
  unfold D.fineAll D.fineAll D.fineAll D.fineAll
  rw [(h.up (Nat.le_max_left n (max m o))).fine, (h2.up (Nat.le_trans (Nat.le_max_left m o) (Nat.le_max_right n (max m o)))).fine, (h3.up (Nat.le_trans (Nat.le_max_right m o) (Nat.le_max_right n (max m o)))).fine]; rfl, fun x y => by
  show PyData.eqv (D.toP (.tup _)) (D.toP (.tup _)) = true ↔ _
  simp only [D.toP, D.toPs, PyData.eqv, PyData.eqvAll, Bool.and_eq_true, Bool.and_true]
  have h1 : PyData.eqv (e x.1).toP (e y.1).toP = true ↔ x.1 = y.1 := h.eqv _ _
  have h4 : PyData.eqv (f x.2.1).toP (f y.2.1).toP = true ↔ x.2.1 = y.2.1 := h2.eqv _ _
  have h5 : PyData.eqv (g x.2.2).toP (g y.2.2).toP = true ↔ x.2.2 = y.2.2 := h3.eqv _ _
  rw [h1, h4, h5]
  exact ⟨fun z => Prod.ext z.1 (Prod.ext z.2.1 z.2.2), fun z => by rw [z]; exact ⟨rfl, rfl, rfl⟩⟩⟩
/-- never None -/
def NoN (e : α → D) : Prop := ∀ x, (e x).eqv .non = false ∧ D.non.eqv (e x) = false ∧ D.isN (e x) = pure (.bl false) ∧ D.isNN (e x) = pure (.bl true)
theorem nonT {e : α → D} : NoN (eT e) := fun x => ⟨by simp [D.eqv, D.toP, PyData.eqv], by simp [D.eqv, D.toP, PyData.eqv], rfl, rfl⟩
theorem nonL {e : α → D} : NoN (eL e) := fun x => ⟨by simp [D.eqv, D.toP, PyData.eqv], by simp [D.eqv, D.toP, PyData.eqv], rfl, rfl⟩
theorem nonI : NoN eI := fun x => ⟨by simp [D.eqv, D.toP, PyData.eqv], by simp [D.eqv, D.toP, PyData.eqv], rfl, rfl⟩
theorem nonP {e : α → D} {f : β → D} : NoN (eP e f) := fun x => ⟨by simp [D.eqv, D.toP, D.toPs, PyData.eqv], by simp [D.eqv, D.toP, D.toPs, PyData.eqv], rfl, rfl⟩
theorem okO {e : α → D} {n : Nat} (h : EnO e n) (hn : NoN e) : EnO (eO e) n := ⟨fun x => by
  cases x with
  | none => unfold eO D.fine; rfl
  | some x => exact h.fine x, fun x y => by
  cases x with
  | none =>
    cases y with
    | none => simp [eO, D.eqv, D.toP, PyData.eqv]
    | some y => simp [eO, (hn y).2.1]
  | some x =>
    cases y with
    | none => simp [eO, (hn x).1]
    | some y => simp [eO, h.eqv]⟩
/-- values that < orders -/
structure EnC (e : α → D) (n : Nat) : Prop where
  cmp : ∀ x y, (e x).cmpb (e y) n = true
/-! ### values -/
theorem ev_var {i : Nat} {d : D} (e : k[i]? = some (some d)) : Tv k (getv i) d := fun ρ h => by
  unfold getv
  rw [h.at e]
theorem ev_cst {d : D} : Tv k (cst d) d := fun _ _ => rfl
theorem ev_un {op : D → M D} {f : En → M D} {a b : D} (hf : Tv k f a) (h : op a = pure b) : Tv k (un op f) b := fun ρ hk => by rw [un_ap, hf ρ hk, M.pure_bind, h]
theorem ev_bin {op : D → D → M D} {f g : En → M D} {a b c : D} (hf : Tv k f a) (hg : Tv k g b) (h : op a b = pure c) : Tv k (bin op f g) c := fun ρ hk => by rw [bin_ap, hf ρ hk, M.pure_bind, hg ρ hk, M.pure_bind, h]
theorem ea_nil : Tv k anil [] := fun _ _ => rfl
theorem ea_cons {f : En → M D} {g : En → M (List D)} {a : D} {as : List D} (hf : Tv k f a) (hg : Tv k g as) : Tv k (acons f g) (a :: as) := fun ρ hk => by rw [acons_ap, hf ρ hk, M.pure_bind, hg ρ hk]; rfl
theorem ev_nop {op : List D → M D} {f : En → M (List D)} {as : List D} {b : D} (hf : Tv k f as) (h : op as = pure b) : Tv k (nop op f) b := fun ρ hk => by rw [nop_ap, hf ρ hk, M.pure_bind, h]
theorem ev_tup {f : En → M (List D)} {as : List D} (hf : Tv k f as) (h : as.length ≤ LIM) : Tv k (nop mkTup f) (.tup as) := ev_nop hf (if_pos h)
theorem ev_lst {f : En → M (List D)} {as : List D} (hf : Tv k f as) (h : as.length ≤ LIM) : Tv k (nop mkLst f) (.lst as) := ev_nop hf (if_pos h)
theorem ev_tst {f : En → M D} {b : Bool} (hf : Tv k f (.bl b)) : Tv k (tst f) b := fun ρ hk => by rw [tst_ap, hf ρ hk]; rfl
theorem ev_nott {f : En → M Bool} {b : Bool} (hf : Tv k f b) : Tv k (nott f) (!b) := fun ρ hk => by rw [nott_ap, hf ρ hk]; rfl
theorem ev_nt {f : En → M D} {b : Bool} (hf : Tv k f (.bl b)) : Tv k (un D.nt f) (.bl (!b)) := ev_un hf rfl
theorem ev_andt {f g : En → M Bool} {b c : Bool} (hf : Tv k f b) (hg : b = true → Tv k g c) : Tv k (andt f g) (b && c) := fun ρ hk => by
  rw [andt_ap, hf ρ hk, M.pure_bind]
  cases b with
  | true => rw [if_pos rfl, hg rfl ρ hk]; rfl
  | false => rfl
theorem ev_ort {f g : En → M Bool} {b c : Bool} (hf : Tv k f b) (hg : b = false → Tv k g c) : Tv k (ort f g) (b || c) := fun ρ hk => by
  rw [ort_ap, hf ρ hk, M.pure_bind]
  cases b with
  | true => rfl
  | false => rw [if_neg Bool.false_ne_true, hg rfl ρ hk]; rfl
theorem ev_andv {f g : En → M D} {b c : Bool} (hf : Tv k f (.bl b)) (hg : b = true → Tv k g (.bl c)) : Tv k (andv f g) (.bl (b && c)) := fun ρ hk => by
  rw [andv_ap, hf ρ hk, M.pure_bind]
  cases b with
  | true => exact hg rfl ρ hk
  | false => rfl
theorem ev_orv {f g : En → M D} {b c : Bool} (hf : Tv k f (.bl b)) (hg : b = false → Tv k g (.bl c)) : Tv k (orv f g) (.bl (b || c)) := fun ρ hk => by
  rw [orv_ap, hf ρ hk, M.pure_bind]
  cases b with
  | true => rfl
  | false => exact hg rfl ρ hk
theorem ev_ifx {e : α → D} {c : En → M Bool} {f g : En → M D} {b : Bool} {x y : α} (hc : Tv k c b) (hf : b = true → Tv k f (e x)) (hg : b = false → Tv k g (e y)) : Tv k (ifx c f g) (e (if b then x else y)) := fun ρ hk => by
  rw [ifx_ap, hc ρ hk, M.pure_bind]
  cases b with
  | true => exact hf rfl ρ hk
  | false => exact hg rfl ρ hk
theorem ev_chn {o1 o2 : D → D → M D} {f g h : En → M D} {x y z : D} {b c : Bool} (hf : Tv k f x) (hg : Tv k g y) (h1 : o1 x y = pure (.bl b)) (hh : b = true → Tv k h z) (h2 : b = true → o2 y z = pure (.bl c)) : Tv k (chn o1 o2 f g h) (.bl (b && c)) := fun ρ hk => by
  rw [chn_ap, hf ρ hk, M.pure_bind, hg ρ hk, M.pure_bind, h1, M.pure_bind]
  cases b with
  | true => simp only [hh rfl ρ hk, M.pure_bind, h2 rfl]; rfl
  | false => rfl
theorem ev_conv {f : En → M D} {a b : D} (hf : Tv k f a) (h : a = b) : Tv k f b := h ▸ hf
theorem ev_id {f : En → M α} {a b : α} (hf : Tv k f a) (h : a = b) : Tv k f b := h ▸ hf

/-! ### operations on values -/
theorem t_mulc {i j : Int} (h : -(2 ^ 64) < i ∧ i < 2 ^ 64) : D.mul (.int i) (.int j) = pure (.int (i * j)) := mul_int (.inl h)
theorem t_mulr {i j : Int} (h : -(2 ^ 64) < j ∧ j < 2 ^ 64) : D.mul (.int i) (.int j) = pure (.int (i * j)) := mul_int (.inr h)
theorem t_eq [DecidableEq α] {e : α → D} {n : Nat} (h : EnO e n) (x y : α) (hn : n ≤ 64 := by decide) : D.eq (e x) (e y) = pure (.bl (decide (x = y))) := by
  unfold D.eq
  rw [(h.up hn).fine x, (h.up hn).fine y, show (e x).eqv (e y) = decide (x = y) from by
    have := h.eqv x y
    by_cases c : x = y
    · rw [decide_eq_true c, this.mpr c]
    · rw [decide_eq_false c]
      cases q : (e x).eqv (e y)
      · rfl
      · exact absurd (this.mp q) c]
  rfl
theorem t_ne [DecidableEq α] {e : α → D} {n : Nat} (h : EnO e n) (x y : α) (hn : n ≤ 64 := by decide) : D.ne (e x) (e y) = pure (.bl (!decide (x = y))) := by
  unfold D.ne
  rw [(h.up hn).fine x, (h.up hn).fine y, show (e x).eqv (e y) = decide (x = y) from by
    have := h.eqv x y
    by_cases c : x = y
    · rw [decide_eq_true c, this.mpr c]
    · rw [decide_eq_false c]
      cases q : (e x).eqv (e y)
      · rfl
      · exact absurd (this.mp q) c]
  rfl
def inE [DecidableEq α] (x : α) (l : List α) : Bool := decide (x ∈ l)
@[simp] theorem inE_iff [DecidableEq α] {x : α} {l : List α} : inE x l = true ↔ x ∈ l := decide_eq_true_iff
@[simp] theorem inE_no [DecidableEq α] {x : α} {l : List α} : inE x l = false ↔ x ∉ l := decide_eq_false_iff_not
def idxE [DecidableEq α] (l : List α) (x : α) : Int := (l.idxOf x : Nat)
def cntE [DecidableEq α] (l : List α) (x : α) : Int := (l.count x : Nat)
theorem any_eqv_map [DecidableEq α] {e : α → D} {n : Nat} (h : EnO e n) (x : α) (l : List α) : ((l.map e).any fun z => z.eqv (e x)) = inE x l := by
  unfold inE
  induction l with
  | nil => simp
  | cons y r ih =>
    rw [List.map_cons, List.any_cons, ih]
    have := h.eqv y x
    by_cases c : y = x
    · rw [this.mpr c]; simp [c]
    · cases q : (e y).eqv (e x)
      · simp [Ne.symm c]
      · exact absurd (this.mp q) c
theorem t_inL [DecidableEq α] {e : α → D} {n : Nat} (h : EnO e n) (x : α) (l : List α) (hn : n ≤ 63 := by decide) : D.inn (e x) (.lst (l.map e)) = pure (.bl (inE x l)) := by
  have : D.inn (e x) (.lst (l.map e)) = if (e x).fine 64 && D.fineAll (l.map e) 63 then pure (.bl ((l.map e).any fun z => z.eqv (e x))) else M.bad := by cases e x <;> rfl
  rw [this, (h.up (Nat.le_trans hn (by decide))).fine x, fineAll_map (h.up hn).fine, any_eqv_map h]
  rfl
theorem t_inT [DecidableEq α] {e : α → D} {n : Nat} (h : EnO e n) (x : α) (l : List α) (hn : n ≤ 63 := by decide) : D.inn (e x) (.tup (l.map e)) = pure (.bl (inE x l)) := by
  have : D.inn (e x) (.tup (l.map e)) = if (e x).fine 64 && D.fineAll (l.map e) 63 then pure (.bl ((l.map e).any fun z => z.eqv (e x))) else M.bad := by cases e x <;> rfl
  rw [this, (h.up (Nat.le_trans hn (by decide))).fine x, fineAll_map (h.up hn).fine, any_eqv_map h]
  rfl
theorem t_ninL [DecidableEq α] {e : α → D} {n : Nat} (h : EnO e n) (x : α) (l : List α) (hn : n ≤ 63 := by decide) : D.nin (e x) (.lst (l.map e)) = pure (.bl (!inE x l)) := by
  have : D.nin (e x) (.lst (l.map e)) = if (e x).fine 64 && D.fineAll (l.map e) 63 then pure (.bl (!(l.map e).any fun z => z.eqv (e x))) else M.bad := by cases e x <;> rfl
  rw [this, (h.up (Nat.le_trans hn (by decide))).fine x, fineAll_map (h.up hn).fine, any_eqv_map h]
  rfl
theorem t_ninT [DecidableEq α] {e : α → D} {n : Nat} (h : EnO e n) (x : α) (l : List α) (hn : n ≤ 63 := by decide) : D.nin (e x) (.tup (l.map e)) = pure (.bl (!inE x l)) := by
  have : D.nin (e x) (.tup (l.map e)) = if (e x).fine 64 && D.fineAll (l.map e) 63 then pure (.bl (!(l.map e).any fun z => z.eqv (e x))) else M.bad := by cases e x <;> rfl
  rw [this, (h.up (Nat.le_trans hn (by decide))).fine x, fineAll_map (h.up hn).fine, any_eqv_map h]
  rfl
theorem ev_innO [DecidableEq α] {e : α → D} {n : Nat} (h : EnO e n) {i : Nat} {f : En → M D} {x : α} {l : List α} (hf : Tv k f (e x)) (hl : k[i]? = some (some (.lst (l.map e)))) (hn : n ≤ 63 := by decide) : Tv k (innO i f) (.bl (inE x l)) := fun ρ hk => by
  show (f ρ >>= _) = _
  rw [hf ρ hk, M.pure_bind, hk.at hl]
  exact t_inL h x l hn
theorem ev_ninO [DecidableEq α] {e : α → D} {n : Nat} (h : EnO e n) {i : Nat} {f : En → M D} {x : α} {l : List α} (hf : Tv k f (e x)) (hl : k[i]? = some (some (.lst (l.map e)))) (hn : n ≤ 63 := by decide) : Tv k (ninO i f) (.bl (!inE x l)) := fun ρ hk => by
  show (f ρ >>= _) = _
  rw [hf ρ hk, M.pure_bind, hk.at hl]
  exact t_ninL h x l hn
theorem t_len (l : List α) (e : α → D) : D.len (.lst (l.map e)) = pure (.int (l.length : Nat)) := by
  show (pure (.int ((l.map e).length : Nat)) : M D) = _
  rw [List.length_map]
theorem t_lenT (l : List α) (e : α → D) : D.len (.tup (l.map e)) = pure (.int (l.length : Nat)) := by
  show (pure (.int ((l.map e).length : Nat)) : M D) = _
  rw [List.length_map]
theorem t_addL {e : α → D} {a b : List α} (h : a.length + b.length ≤ LIM) : D.add (.lst (a.map e)) (.lst (b.map e)) = pure (.lst ((a ++ b).map e)) := by
  show (if (a.map e).length + (b.map e).length ≤ LIM then _ else _ : M D) = _
  rw [List.length_map, List.length_map, if_pos h, List.map_append]
theorem t_addT {e : α → D} {a b : List α} (h : a.length + b.length ≤ LIM) : D.add (.tup (a.map e)) (.tup (b.map e)) = pure (.tup ((a ++ b).map e)) := by
  show (if (a.map e).length + (b.map e).length ≤ LIM then _ else _ : M D) = _
  rw [List.length_map, List.length_map, if_pos h, List.map_append]
/-- xs * int(b) -/
def rep01 (l : List α) (b : Bool) : List α := if b then l else []
/-- a place, from the end where below nought -/
def ixE [Inhabited α] (l : List α) (i : Int) : α := if 0 ≤ i then l.getD i.toNat default else l.getD (i + l.length).toNat default
def InIx (l : List α) (i : Int) : Prop := -(l.length : Int) ≤ i ∧ i < l.length
theorem atI_map {e : α → D} [Inhabited α] {l : List α} {i : Int} (h : InIx l i) : atI (l.map e) i = some (e (ixE l i)) := by
  unfold atI ixN ixE
  rw [List.length_map]
  obtain ⟨h1, h2⟩ := h
  by_cases c : 0 ≤ i
  · rw [if_pos c, if_pos c, if_pos h2]
    have : i.toNat < l.length := by omega
    simp [this]
  · rw [if_neg c, if_neg c, if_pos h1]
    have : (i + (l.length : Int)).toNat < l.length := by omega
    simp [this]
theorem t_idxL {e : α → D} [Inhabited α] {l : List α} {i : Int} (h : InIx l i) : D.idx (.lst (l.map e)) (.int i) = pure (e (ixE l i)) := by
  show opt _root_.id (atI (l.map e) i) = _
  rw [atI_map h]; rfl
theorem t_idxT {e : α → D} [Inhabited α] {l : List α} {i : Int} (h : InIx l i) : D.idx (.tup (l.map e)) (.int i) = pure (e (ixE l i)) := by
  show opt _root_.id (atI (l.map e) i) = _
  rw [atI_map h]; rfl
theorem t_idxP0 {a b : D} : D.idx (.tup [a, b]) (.int 0) = pure a := rfl
theorem t_idxP1 {a b : D} : D.idx (.tup [a, b]) (.int 1) = pure b := rfl
theorem t_idxQ0 {a b c : D} : D.idx (.tup [a, b, c]) (.int 0) = pure a := rfl
theorem t_idxQ1 {a b c : D} : D.idx (.tup [a, b, c]) (.int 1) = pure b := rfl
theorem t_idxQ2 {a b c : D} : D.idx (.tup [a, b, c]) (.int 2) = pure c := rfl
def cutE (l : List α) (lo hi : Option Int) : List α := (l.drop (HT.sIx l.length 0 lo)).take (HT.sIx l.length l.length hi - HT.sIx l.length 0 lo)
theorem cut_map {e : α → D} (l : List α) (lo hi : Option Int) : cutD (l.map e) lo hi = (cutE l lo hi).map e := by
  unfold cutD cutE
  rw [List.length_map, ← List.map_drop, ← List.map_take]
theorem ev_part {f : En → M D} {i : Int} (hf : Tv k f (.int i)) : Tv k (part f) (some i) := fun ρ hk => by rw [part_ap, hf ρ hk]; rfl
theorem ev_nopart : Tv k nopart none := fun _ _ => rfl
theorem ev_slcL {e : α → D} {f : En → M D} {u v : En → M (Option Int)} {l : List α} {lo hi : Option Int} (hf : Tv k f (.lst (l.map e))) (hu : Tv k u lo) (hv : Tv k v hi) : Tv k (slc f u v) (.lst ((cutE l lo hi).map e)) := fun ρ hk => by
  rw [slc_ap, hf ρ hk, M.pure_bind, hu ρ hk, M.pure_bind, hv ρ hk, M.pure_bind]
  show (pure (.lst (cutD (l.map e) lo hi)) : M D) = _
  rw [cut_map]
theorem ev_slcT {e : α → D} {f : En → M D} {u v : En → M (Option Int)} {l : List α} {lo hi : Option Int} (hf : Tv k f (.tup (l.map e))) (hu : Tv k u lo) (hv : Tv k v hi) : Tv k (slc f u v) (.tup ((cutE l lo hi).map e)) := fun ρ hk => by
  rw [slc_ap, hf ρ hk, M.pure_bind, hu ρ hk, M.pure_bind, hv ρ hk, M.pure_bind]
  show (pure (.tup (cutD (l.map e) lo hi)) : M D) = _
  rw [cut_map]
def pickE (xs : List α) (lo hi st : Option Int) : List α := (sliceRange (sliceBounds lo hi st xs.length).1 (sliceBounds lo hi st xs.length).2.1 (sliceBounds lo hi st xs.length).2.2).filterMap (xs[·]?)
theorem pick_map {e : α → D} (l : List α) (lo hi st : Option Int) : pickD (l.map e) lo hi st = (pickE l lo hi st).map e := by
  unfold pickD pickE
  rw [List.length_map]
  generalize sliceRange _ _ _ = is
  induction is with
  | nil => rfl
  | cons i r ih =>
    rw [List.filterMap_cons, List.filterMap_cons, List.getElem?_map]
    cases l[i]? with
    | none => exact ih
    | some x =>
      show e x :: List.filterMap _ r = e x :: _
      rw [ih]
theorem ev_slc3L {e : α → D} {f : En → M D} {u v t : En → M (Option Int)} {l : List α} {lo hi st : Option Int} (hf : Tv k f (.lst (l.map e))) (hu : Tv k u lo) (hv : Tv k v hi) (ht : Tv k t st) (h0 : st ≠ some 0) : Tv k (slc3 f u v t) (.lst ((pickE l lo hi st).map e)) := fun ρ hk => by
  rw [slc3_ap, hf ρ hk, M.pure_bind, hu ρ hk, M.pure_bind, hv ρ hk, M.pure_bind, ht ρ hk, M.pure_bind]
  show (if st = some 0 then M.bad else pure (.lst (pickD (l.map e) lo hi st)) : M D) = _
  rw [if_neg h0, pick_map]
theorem t_all {l : List Bool} : D.all (.lst (l.map eB)) = pure (.bl (l.all _root_.id)) := all_bls l
theorem t_toI (b : Bool) : D.toI (.bl b) = pure (.int (if b then 1 else 0)) := rfl
def b2i (b : Bool) : Int := if b then 1 else 0
theorem t_mulB {e : α → D} {l : List α} {b : Bool} (h : l.length ≤ LIM) : D.mul (.lst (l.map e)) (.int (b2i b)) = pure (.lst ((rep01 l b).map e)) := by
  cases b
  · show gd _ _ = _
    rw [gd_pos ⟨by decide, by decide, by simp [b2i]⟩]
    rfl
  · show gd _ _ = _
    rw [gd_pos ⟨by decide, by decide, by simpa [b2i] using h⟩]
    simp [b2i, rep01]
def max2 (i j : Int) : Int := if j > i then j else i
def min2 (i j : Int) : Int := if j < i then j else i
/-! ### what is walked -/
def rgI (a b : Int) : List Int := (List.range (b - a).toNat).map fun (i : Nat) => a + (i : Int)
def RgIn (a b : Int) : Prop := -(2 ^ 23) ≤ a ∧ a ≤ 2 ^ 23 ∧ -(2 ^ 23) ≤ b ∧ b ≤ 2 ^ 23
theorem rgI_map (a b : Int) : rngD a (b - a).toNat = (rgI a b).map eI := by
  unfold rngD rgI
  rw [List.map_map]; rfl
theorem rgI_len {a b : Int} (h : RgIn a b) : (rgI a b).length ≤ LIM := by
  unfold rgI RgIn at *
  rw [List.length_map, List.length_range, LIM_val]
  omega
theorem it_rng1 {f : En → M (List D)} {j : Int} (hf : Tv k f [.int j]) (h : RgIn 0 j) : Tv k (itr (on1 rng1) f) ((rgI 0 j).map eI) := fun ρ hk => by
  rw [itr_ap, hf ρ hk, M.pure_bind, ← rgI_map]
  show gd _ _ = _
  unfold RgIn at h
  rw [gd_pos ⟨by omega, by omega⟩, Int.sub_zero]
theorem it_rng2 {f : En → M (List D)} {i j : Int} (hf : Tv k f [.int i, .int j]) (h : RgIn i j) : Tv k (itr (on2 rng2) f) ((rgI i j).map eI) := fun ρ hk => by
  rw [itr_ap, hf ρ hk, M.pure_bind, ← rgI_map]
  show gd _ _ = _
  unfold RgIn at h
  rw [gd_pos ⟨by omega, by omega, by omega, by omega⟩]
def enE (l : List α) (i : Nat := 0) : List (Int × α) := match l with
  | [] => []
  | x :: r => ((i : Int), x) :: enE r (i + 1)
theorem enE_map {e : α → D} : ∀ (l : List α) (i : Nat), enD i (l.map e) = (enE l i).map (eP eI e)
  | [], _ => rfl
  | x :: r, i => by
    rw [List.map_cons]
    unfold enD enE
    rw [enE_map r (i + 1)]
    rfl
theorem it_enumL {e : α → D} {f : En → M (List D)} {l : List α} (hf : Tv k f [.lst (l.map e)]) : Tv k (itr (on1 D.enum) f) ((enE l).map (eP eI e)) := fun ρ hk => by
  rw [itr_ap, hf ρ hk, M.pure_bind, ← enE_map]; rfl
theorem it_enumT {e : α → D} {f : En → M (List D)} {l : List α} (hf : Tv k f [.tup (l.map e)]) : Tv k (itr (on1 D.enum) f) ((enE l).map (eP eI e)) := fun ρ hk => by
  rw [itr_ap, hf ρ hk, M.pure_bind, ← enE_map]; rfl
theorem ziE_map {e : α → D} {f : β → D} : ∀ (l : List α) (r : List β), ziD (l.map e) (r.map f) = (l.zip r).map (eP e f)
  | [], _ => by unfold ziD; simp
  | _ :: _, [] => by unfold ziD; simp
  | x :: l, y :: r => by
    rw [List.map_cons, List.map_cons]
    unfold ziD
    rw [ziE_map l r]
    rfl
theorem it_zipT {e : α → D} {f : β → D} {g : En → M (List D)} {l : List α} {r : List β} (hf : Tv k g [.tup (l.map e), .tup (r.map f)]) : Tv k (itr (on2 D.zip) g) ((l.zip r).map (eP e f)) := fun ρ hk => by
  rw [itr_ap, hf ρ hk, M.pure_bind, ← ziE_map]; rfl
theorem it_zipL {e : α → D} {f : β → D} {g : En → M (List D)} {l : List α} {r : List β} (hf : Tv k g [.lst (l.map e), .lst (r.map f)]) : Tv k (itr (on2 D.zip) g) ((l.zip r).map (eP e f)) := fun ρ hk => by
  rw [itr_ap, hf ρ hk, M.pure_bind, ← ziE_map]; rfl
theorem it_itemsL {f : En → M D} {l : List D} (hf : Tv k f (.lst l)) : Tv k (itr D.items f) l := fun ρ hk => by
  rw [itr_ap, hf ρ hk, M.pure_bind]; rfl
theorem it_itemsT {f : En → M D} {l : List D} (hf : Tv k f (.tup l)) : Tv k (itr D.items f) l := fun ρ hk => by
  rw [itr_ap, hf ρ hk, M.pure_bind]; rfl
/-- a target stores -/
def Tg (k : Ks) (τ : En → D → Option En) (d : D) (k' : Ks) : Prop := ∀ ρ, Known k ρ → ∃ ρ', τ ρ d = some ρ' ∧ Known k' ρ'
theorem tg1 {i : Nat} {d : D} : Tg k (tgN i) d (k.set i (some d)) := fun ρ h => ⟨_, rfl, h.set i d⟩
theorem tg2 {i j : Nat} {a b : D} : Tg k (tgT [i, j]) (.tup [a, b]) ((k.set i (some a)).set j (some b)) := fun ρ h => ⟨_, rfl, (h.set i a).set j b⟩
theorem tg3 {i j l : Nat} {a b c : D} : Tg k (tgT [i, j, l]) (.tup [a, b, c]) (((k.set i (some a)).set j (some b)).set l (some c)) := fun ρ h => ⟨_, rfl, ((h.set i a).set j b).set l c⟩
theorem ev_always : Tv k always true := fun _ _ => rfl
theorem ev_comp {e : α → D} {e' : β → D} {it : En → M (List D)} {τ : En → D → Option En} {vs : List Nat} {c : En → M Bool} {b : En → M D} {xs : List α} (p : α → Bool) (g : α → β) (k1 : α → Ks) (hi : Tv k it (xs.map e)) (hl : xs.length ≤ LIM)
    (h : ∀ x ∈ xs, Tg (wipeK k vs) τ (e x) (k1 x) ∧ Tv (k1 x) c (p x) ∧ (p x = true → Tv (k1 x) b (e' (g x)))) : Tv k (compF it τ vs c b) (((xs.filter p).map g).map e') := fun ρ hk => by
  rw [compF_ap, hi ρ hk, M.pure_bind, List.length_map, if_pos hl, List.map_map]
  refine compL_map xs e (e' ∘ g) p fun x hx => ?_
  obtain ⟨h1, h2, h3⟩ := h x hx
  obtain ⟨ρ1, e1, hk1⟩ := h1 _ (hk.wipe vs)
  exact ⟨ρ1, e1, h2 ρ1 hk1, fun hp => h3 hp ρ1 hk1⟩
theorem ev_compA {e : α → D} {e' : β → D} {it : En → M (List D)} {τ : En → D → Option En} {vs : List Nat} {b : En → M D} {xs : List α} (g : α → β) (k1 : α → Ks) (hi : Tv k it (xs.map e)) (hl : xs.length ≤ LIM)
    (h : ∀ x ∈ xs, Tg (wipeK k vs) τ (e x) (k1 x) ∧ Tv (k1 x) b (e' (g x))) : Tv k (compF it τ vs always b) ((xs.map g).map e') := by
  have := ev_comp (k := k) (e := e) (e' := e') (it := it) (τ := τ) (vs := vs) (c := always) (b := b) (xs := xs) (fun _ => true) g k1 hi hl fun x hx => ⟨(h x hx).1, ev_always, fun _ => (h x hx).2⟩
  rwa [List.filter_eq_self.mpr fun _ _ => rfl] at this
theorem ev_lstF {f : En → M (List D)} {l : List D} (hf : Tv k f l) : Tv k (lstF f) (.lst l) := fun ρ hk => by rw [lstF_ap, hf ρ hk]; rfl
theorem ev_lim {f : En → M (List D)} {l : List D} (hf : Tv k f l) (h : l.length ≤ LIM) : Tv k (lim f) l := fun ρ hk => by rw [lim_ap, hf ρ hk, M.pure_bind, if_pos h]
theorem ev_lrg {mk : List D → D} {f : En → M D} {j : Int} (hf : Tv k f (.int j)) (h : RgIn 0 j) : Tv k (lrg1 mk f) (mk ((rgI 0 j).map eI)) := fun ρ hk => by
  show (f ρ >>= _) = _
  rw [hf ρ hk, M.pure_bind, ← rgI_map]
  show gd _ _ = _
  have hl := rgI_len h
  unfold RgIn at h
  rw [gd_pos (by unfold RgOk; omega)]
theorem ev_lrg2 {mk : List D → D} {f g : En → M D} {i j : Int} (hf : Tv k f (.int i)) (hg : Tv k g (.int j)) (h : RgIn i j) : Tv k (lrg2 mk f g) (mk ((rgI i j).map eI)) := fun ρ hk => by
  show (f ρ >>= _) = _
  rw [hf ρ hk, M.pure_bind]
  show (g ρ >>= _) = _
  rw [hg ρ hk, M.pure_bind, ← rgI_map]
  show gd _ _ = _
  unfold RgIn at h
  rw [gd_pos (by unfold RgOk; omega)]
theorem firstD_map [DecidableEq α] {e : α → D} {n : Nat} (h : EnO e n) {x : α} : ∀ {l : List α}, x ∈ l → firstD (e x) (l.map e) = some (l.idxOf x)
  | [], h => by cases h
  | y :: r, hx => by
    rw [List.map_cons]
    unfold firstD
    have := h.eqv y x
    by_cases c : y = x
    · subst c
      rw [if_pos (this.mpr rfl), List.idxOf_cons_self]
    · rw [if_neg (fun q => c (this.mp q))]
      rcases List.mem_cons.mp hx with e | hx
      · exact absurd e.symm c
      · rw [firstD_map h hx, List.idxOf_cons, show (y == x) = false from beq_false_of_ne c]
        rfl
theorem ev_idxF [DecidableEq α] {e : α → D} {n : Nat} (h : EnO e n) {f g : En → M D} {x : α} {l : List α} (hf : Tv k f (.lst (l.map e))) (hg : Tv k g (e x)) (hx : x ∈ l) (hn : n ≤ 63 := by decide) : Tv k (idxF f g) (.int (idxE l x)) := fun ρ hk => by
  show (f ρ >>= _) = _
  rw [hf ρ hk, M.pure_bind]
  show (g ρ >>= _) = _
  rw [hg ρ hk, M.pure_bind]
  show (if (e x).fine 64 && D.fineAll (l.map e) 63 then _ else _ : M D) = _
  rw [(h.up (Nat.le_trans hn (by decide))).fine x, fineAll_map (h.up hn).fine, firstD_map h hx]
  rfl
theorem ev_cntF [DecidableEq α] {e : α → D} {n : Nat} (h : EnO e n) {f g : En → M D} {x : α} {l : List α} (hf : Tv k f (.lst (l.map e))) (hg : Tv k g (e x)) (hn : n ≤ 63 := by decide) : Tv k (cntF f g) (.int (cntE l x)) := fun ρ hk => by
  show (f ρ >>= _) = _
  rw [hf ρ hk, M.pure_bind]
  show (g ρ >>= _) = _
  rw [hg ρ hk, M.pure_bind]
  show (if (e x).fine 64 && D.fineAll (l.map e) 63 then _ else _ : M D) = _
  rw [(h.up (Nat.le_trans hn (by decide))).fine x, fineAll_map (h.up hn).fine, List.countP_map]
  have : (fun z => D.eqv z (e x)) ∘ e = fun y => y == x := by
    funext y
    have := h.eqv y x
    by_cases c : y = x
    · rw [show (y == x) = true from beq_iff_eq.mpr c]; exact this.mpr c
    · rw [show (y == x) = false from beq_false_of_ne c]
      cases q : (e y).eqv (e x)
      · exact q
      · exact absurd (this.mp q) c
  rw [this]
  rfl
/-! ### order -/
def ltE (e : α → D) (x y : α) : Bool := (e x).ltb (e y)
theorem t_lt {e : α → D} {n : Nat} (h : EnC e n) (x y : α) (hn : n = 64 := by rfl) : D.lt (e x) (e y) = pure (.bl (ltE e x y)) := by
  subst hn
  unfold D.lt
  rw [h.cmp x y]; rfl
def insE (lt : α → α → Bool) (x : α) : List α → List α
  | [] => [x]
  | y :: r => if lt y x then y :: insE lt x r else x :: y :: r
def sortE (lt : α → α → Bool) : List α → List α
  | [] => []
  | x :: r => insE lt x (sortE lt r)
theorem ins_map {e : α → D} (x : α) : ∀ l : List α, ins D.ltb (e x) (l.map e) = (insE (ltE e) x l).map e
  | [] => rfl
  | y :: r => by
    rw [List.map_cons]
    unfold ins insE ltE
    split
    · rw [ins_map x r]; rfl
    · rfl
theorem sort_map {e : α → D} : ∀ l : List α, isort (l.map e) = (sortE (ltE e) l).map e
  | [] => rfl
  | x :: r => by
    rw [List.map_cons]
    unfold isort sortE
    rw [sort_map r, ins_map]
theorem okSort_map {e : α → D} {n : Nat} (ho : EnO e n) (hc : EnC e 63) (hn : n ≤ 63) (l : List α) : okSort (l.map e) = true := okSort_iff.mpr ⟨fun a ha => by
  obtain ⟨i, _, rfl⟩ := List.mem_map.mp ha
  exact (ho.up hn).fine i, fun a ha b hb => by
  obtain ⟨i, _, rfl⟩ := List.mem_map.mp ha
  obtain ⟨j, _, rfl⟩ := List.mem_map.mp hb
  exact hc.cmp i j⟩
theorem t_sortL {e : α → D} {n : Nat} (ho : EnO e n) (hc : EnC e 63) (l : List α) (hn : n ≤ 63 := by decide) : D.srt (.lst (l.map e)) = pure (.lst ((sortE (ltE e) l).map e)) := by
  rw [srt_lst (okSort_map ho hc hn l), sort_map]
theorem t_sortT {e : α → D} {n : Nat} (ho : EnO e n) (hc : EnC e 63) (l : List α) (hn : n ≤ 63 := by decide) : D.srt (.tup (l.map e)) = pure (.lst ((sortE (ltE e) l).map e)) := by
  rw [srt_tup (okSort_map ho hc hn l), sort_map]
def uniqE [DecidableEq α] : List α → List α
  | [] => []
  | x :: r => match uniqE r with
    | [] => [x]
    | y :: t => if x = y then y :: t else x :: y :: t
theorem uniq_map [DecidableEq α] {e : α → D} {n : Nat} (h : EnO e n) : ∀ l : List α, uniq (l.map e) = (uniqE l).map e
  | [] => rfl
  | x :: r => by
    rw [List.map_cons]
    unfold uniq uniqE
    rw [uniq_map h r]
    cases uniqE r with
    | nil => rfl
    | cons y t =>
      simp only [List.map_cons]
      have := h.eqv x y
      by_cases c : x = y
      · rw [if_pos (this.mpr c), if_pos c]; rfl
      · rw [if_neg (fun q => c (this.mp q)), if_neg c]; rfl
/-- sorted(set(xs)) -/
def ssE [DecidableEq α] (e : α → D) (l : List α) : List α := uniqE (sortE (ltE e) l)
theorem okSet_map {l : List Int} (h : l.length < 64) : okSet (l.map eI) = true := by
  unfold okSet
  rw [List.length_map, decide_eq_true h, Bool.and_true, List.all_map]
  exact List.all_eq_true.mpr fun _ _ => rfl
theorem t_ssL {l : List Int} (h : l.length < 64) : D.srtSet (.lst (l.map eI)) = pure (.lst ((ssE eI l).map eI)) := by
  show (if okSet (l.map D.int) then pure (.lst (uniq (isort (l.map D.int)))) else _ : M D) = _
  rw [if_pos (okSet_map h), sort_map (e := eI), uniq_map okI]
  rfl
theorem t_ssT {l : List Int} (h : l.length < 64) : D.srtSet (.tup (l.map eI)) = pure (.lst ((ssE eI l).map eI)) := by
  show (if okSet (l.map D.int) then pure (.lst (uniq (isort (l.map D.int)))) else _ : M D) = _
  rw [if_pos (okSet_map h), sort_map (e := eI), uniq_map okI]
  rfl
end
end DL

/-! DT2: statements with typed values; loops; defs. -/
namespace DL
open PySem PySem.Spec PyProof.Rows L2

inductive Re (σ α : Type) where
  | nx (s : σ)
  | rt (a : α)
section
variable {k k1 k2 : Ks} {α β σ τ : Type} {F G B : En → M Fl} {r : Rl}
def reR (kh : σ → Ks) (e : α → D) : Re σ α → Rl
  | .nx s => .nx (kh s)
  | .rt a => .rt (e a)
def opR (k0 : Ks) (e : α → D) : Option α → Rl
  | none => .nx k0
  | some a => .rt (e a)
def opM (o : Option α) (t : β) (f : α → β) : β := match o with
  | none => t
  | some a => f a
def reM (o : Re σ α) (t : σ → β) (f : α → β) : β := match o with
  | .nx s => t s
  | .rt a => f a
@[simp] theorem opM_none (t : β) (f : α → β) : opM none t f = t := rfl
@[simp] theorem opM_some (a : α) (t : β) (f : α → β) : opM (some a) t f = f a := rfl
@[simp] theorem reM_nx (s : σ) (t : σ → β) (f : α → β) : reM (.nx s) t f = t s := rfl
@[simp] theorem reM_rt (a : α) (t : σ → β) (f : α → β) : reM (.rt a) t f = f a := rfl
theorem ex_skp : Tx k skp (.nx k) := fun ρ h => ⟨ρ, rfl, h⟩
theorem ex_sub (h : Tx k F (.nx k1)) (s : Sub k2 k1) : Tx k F (.nx k2) := fun ρ hk =>
  let ⟨ρ', e, h'⟩ := h ρ hk
  ⟨ρ', e, h'.sub s⟩
theorem ex_pre (h : Tx k1 F r) (s : Sub k1 k) : Tx k F r := fun ρ hk => h ρ (hk.sub s)
theorem ex_id {r' : Rl} (h : Tx k F r) (e : r = r') : Tx k F r' := e ▸ h
theorem ex_ret {f : En → M D} {d : D} (h : Tv k f d) : Tx k (retF f) (.rt d) := fun ρ hk => by
  show retF f ρ = _
  rw [retF_ap, h ρ hk]; rfl
theorem ex_set {f : En → M D} {d : D} {i : Nat} (h : Tv k f d) : Tx k (setF i f) (.nx (k.set i (some d))) := fun ρ hk => ⟨_, by rw [setF_ap, h ρ hk]; rfl, hk.set i d⟩
theorem ex_setO {f : En → M (List D)} {d : List D} {i : Nat} (h : Tv k f d) : Tx k (setOF i f) (.nx (k.set i (some (.lst d)))) := fun ρ hk => ⟨_, by rw [setOF_ap, h ρ hk]; rfl, hk.set i _⟩
theorem ex_setT {f : En → M D} {d : D} {τ : En → D → Option En} (h : Tv k f d) (t : Tg k τ d k1) : Tx k (setTF τ f) (.nx k1) := fun ρ hk => by
  obtain ⟨ρ', e, hk'⟩ := t ρ hk
  exact ⟨ρ', by rw [setTF_ap, h ρ hk, M.pure_bind]; simp only [e], hk'⟩
theorem ex_exp {f : En → M D} {d : D} (h : Tv k f d) : Tx k (expF f) (.nx k) := fun ρ hk => ⟨ρ, by rw [expF_ap, h ρ hk]; rfl, hk⟩
theorem ex_sq (h1 : Tx k F (.nx k1)) (h2 : Tx k1 G r) : Tx k (sq F G) r := fun ρ hk => by
  obtain ⟨ρ', e, hk'⟩ := h1 ρ hk
  rw [sq_ap, e, M.pure_bind]
  exact h2 ρ' hk'
theorem ex_sq_rt {d : D} (h1 : Tx k F (.rt d)) : Tx k (sq F G) (.rt d) := fun ρ hk => by
  have e : F ρ = pure (.rt d) := h1 ρ hk
  show sq F G ρ = _
  rw [sq_ap, e]; rfl
theorem ex_if {c : En → M Bool} {b : Bool} (R : α → Rl) {x y : α} (hc : Tv k c b) (hf : b = true → Tx k F (R x)) (hg : b = false → Tx k G (R y)) : Tx k (ifF c F G) (R (if b then x else y)) := fun ρ hk => by
  rw [ifF_ap, hc ρ hk, M.pure_bind]
  cases b with
  | true => exact hf rfl ρ hk
  | false => exact hg rfl ρ hk
/-- a branch that ends, then the rest -/
theorem ex_guard {c : En → M Bool} {b : Bool} {d : D} (R : α → Rl) {x y : α} (hc : Tv k c b) (hf : b = true → Tx k F (.rt d)) (hx : R x = .rt d) (hg : b = false → Tx k G (R y)) : Tx k (sq (ifF c F skp) G) (R (if b then x else y)) := fun ρ hk => by
  rw [sq_ap, ifF_ap, hc ρ hk, M.pure_bind]
  cases b with
  | true =>
    have e : F ρ = pure (.rt d) := hf rfl ρ hk
    rw [if_pos rfl, if_pos rfl, e, M.pure_bind, hx]
    rfl
  | false => exact hg rfl ρ hk
/-- a branch that never comes -/
theorem ex_never {c : En → M Bool} {b : Bool} (hc : Tv k c b) (hb : b = false) (hg : Tx k G r) : Tx k (sq (ifF c F skp) G) r := fun ρ hk => by
  rw [sq_ap, ifF_ap, hc ρ hk, M.pure_bind, hb]
  exact hg ρ hk
theorem ex_never1 {c : En → M Bool} {b : Bool} (hc : Tv k c b) (hb : b = false) : Tx k (ifF c F skp) (.nx k) := fun ρ hk => by
  rw [ifF_ap, hc ρ hk, M.pure_bind, hb]
  exact ⟨ρ, rfl, hk⟩
theorem ex_sq_re {kh : σ → Ks} {e : α → D} {o : Re σ α} (R : β → Rl) (inj : α → β) {t : σ → β} (h : Tx k F (reR kh e o)) (hi : ∀ a, R (inj a) = .rt (e a)) (hg : ∀ s, o = .nx s → Tx (kh s) G (R (t s))) : Tx k (sq F G) (R (reM o t inj)) := fun ρ hk => by
  have h' := h ρ hk
  cases o with
  | nx s =>
    obtain ⟨ρ', e, hk'⟩ := h'
    rw [sq_ap, e, M.pure_bind]
    exact hg s rfl ρ' hk'
  | rt a =>
    have e : F ρ = pure (.rt (e a)) := h'
    rw [sq_ap, e]
    show (R (inj a)).Is _
    rw [hi]
    rfl
theorem ex_sq_op {k0 : Ks} {e : α → D} {o : Option α} (R : β → Rl) (inj : α → β) {t : β} (h : Tx k F (opR k0 e o)) (hi : ∀ a, R (inj a) = .rt (e a)) (hg : o = none → Tx k0 G (R t)) : Tx k (sq F G) (R (opM o t inj)) := fun ρ hk => by
  have h' := h ρ hk
  cases o with
  | none =>
    obtain ⟨ρ', e, hk'⟩ := h'
    rw [sq_ap, e, M.pure_bind]
    exact hg rfl ρ' hk'
  | some a =>
    have e : F ρ = pure (.rt (e a)) := h'
    rw [sq_ap, e]
    show (R (inj a)).Is _
    rw [hi]
    rfl
theorem ex_app {e : α → D} {l : List α} {x : α} {f : En → M D} {i : Nat} (hl : k[i]? = some (some (.lst (l.map e)))) (hf : Tv k f (e x)) (hlim : l.length < LIM) : Tx k (appF i f) (.nx (k.set i (some (.lst ((l ++ [x]).map e))))) := fun ρ hk => by
  refine ⟨_, ?_, hk.set i _⟩
  rw [appF_ap (hk.at hl) (by rw [List.length_map]; exact hlim), hf ρ hk, M.pure_bind, List.map_append]
  rfl
theorem ex_ext {e : α → D} {l x : List α} {f : En → M D} {i : Nat} (hl : k[i]? = some (some (.lst (l.map e)))) (hf : Tv k f (.lst (x.map e))) (hlim : l.length + x.length ≤ LIM) : Tx k (extF i f) (.nx (k.set i (some (.lst ((l ++ x).map e))))) := fun ρ hk => by
  refine ⟨_, ?_, hk.set i _⟩
  unfold extF
  rw [hk.at hl]
  simp only [hf ρ hk, M.pure_bind, List.length_map, hlim, if_true, List.map_append]
theorem ex_nodic {i : Nat} {l : List D} (hl : k[i]? = some (some (.lst l))) (h : Tx k F r) : Tx k (nodic i F) r := fun ρ hk => by
  unfold nodic
  rw [hk.at hl]
  exact h ρ hk
/-! ### for -/
variable {it : En → M (List D)} {τ : En → D → Option En} {e : α → D} {e' : β → D} {xs : List α}
theorem loop_fold {kh : σ → Ks} {st : σ → α → σ} {I : Nat → σ → Prop} (xs : List α) : ∀ (j : Nat), (∀ i x, xs[i]? = some x → ∀ s, I (j + i) s → ∃ k1, Tg (kh s) τ (e x) k1 ∧ Tx k1 B (.nx (kh (st s x))) ∧ I (j + i + 1) (st s x)) → ∀ (s : σ) (ρ : En), I j s → Known (kh s) ρ → ∃ ρ', loopF τ B (xs.map e) ρ = pure (.nx ρ') ∧ Known (kh (xs.foldl st s)) ρ' := by
  induction xs with
  | nil => exact fun _ _ s ρ _ hk => ⟨ρ, rfl, hk⟩
  | cons x r ih =>
    intro j hb s ρ hs hk
    obtain ⟨k1, h1, h2, h3⟩ := hb 0 x rfl s hs
    obtain ⟨ρ1, e1, hk1⟩ := h1 ρ hk
    obtain ⟨ρ2, e2, hk2⟩ := h2 ρ1 hk1
    obtain ⟨ρ', e3, hk3⟩ := ih (j + 1) (fun i y hy s hs => by
      have := hb (i + 1) y (by simpa using hy) s (by rw [show j + (i + 1) = j + 1 + i by omega]; exact hs)
      rw [show j + (i + 1) + 1 = j + 1 + i + 1 by omega] at this
      exact this) (st s x) ρ2 h3 hk2
    refine ⟨ρ', ?_, hk3⟩
    rw [List.map_cons]
    unfold loopF
    rw [e1]
    simp only [e2, M.pure_bind]
    exact e3
theorem ex_fold {kh : σ → Ks} {st : σ → α → σ} {s : σ} {I : Nat → σ → Prop} (hi : Tv k it (xs.map e)) (hs : Sub (kh s) k) (h0 : I 0 s) (hb : ∀ i x, xs[i]? = some x → ∀ s, I i s → ∃ k1, Tg (kh s) τ (e x) k1 ∧ Tx k1 B (.nx (kh (st s x))) ∧ I (i + 1) (st s x)) :
    Tx k (forF it τ B) (.nx (kh (xs.foldl st s))) := fun ρ hk => by
  rw [forF_ap, hi ρ hk, M.pure_bind]
  exact loop_fold xs 0 (fun i x hx s hs => by
    rw [Nat.zero_add] at hs ⊢
    exact hb i x hx s hs) s ρ h0 (hk.sub hs)
theorem loop_find {kh : Ks} {g : α → Option β} (xs : List α) : (∀ x ∈ xs, ∃ k1, Tg kh τ (e x) k1 ∧ Tx k1 B (opR kh e' (g x))) → ∀ ρ : En, Known kh ρ → (opR kh e' (xs.findSome? g)).Is (loopF τ B (xs.map e) ρ) := by
  induction xs with
  | nil => exact fun _ ρ hk => ⟨ρ, rfl, hk⟩
  | cons x r ih =>
    intro hb ρ hk
    obtain ⟨k1, h1, h2⟩ := hb x List.mem_cons_self
    obtain ⟨ρ1, e1, hk1⟩ := h1 ρ hk
    have h3 := h2 ρ1 hk1
    rw [List.map_cons, List.findSome?_cons]
    unfold loopF
    rw [e1]
    cases q : g x with
    | none =>
      rw [q] at h3
      obtain ⟨ρ2, e2, hk2⟩ := h3
      simp only [e2, M.pure_bind]
      exact ih (fun y hy => hb y (List.mem_cons_of_mem _ hy)) ρ2 hk2
    | some b =>
      rw [q] at h3
      have e2 : B ρ1 = pure (.rt (e' b)) := h3
      simp only [e2]
      rfl
theorem ex_find {kh : Ks} {g : α → Option β} (hi : Tv k it (xs.map e)) (hs : Sub kh k) (hb : ∀ x ∈ xs, ∃ k1, Tg kh τ (e x) k1 ∧ Tx k1 B (opR kh e' (g x))) :
    Tx k (forF it τ B) (opR kh e' (xs.findSome? g)) := fun ρ hk => by
  rw [forF_ap, hi ρ hk, M.pure_bind]
  exact loop_find xs hb ρ (hk.sub hs)
def foldRe (g : σ → α → Re σ β) : σ → List α → Re σ β
  | s, [] => .nx s
  | s, x :: r => match g s x with
    | .nx s' => foldRe g s' r
    | .rt b => .rt b
theorem loop_re {kh : σ → Ks} {g : σ → α → Re σ β} {I : Nat → σ → Prop} (xs : List α) : ∀ (j : Nat), (∀ i x, xs[i]? = some x → ∀ s, I (j + i) s → ∃ k1, Tg (kh s) τ (e x) k1 ∧ Tx k1 B (reR kh e' (g s x)) ∧ ∀ s', g s x = .nx s' → I (j + i + 1) s') → ∀ (s : σ) (ρ : En), I j s → Known (kh s) ρ → (reR kh e' (foldRe g s xs)).Is (loopF τ B (xs.map e) ρ) := by
  induction xs with
  | nil => exact fun _ _ s ρ _ hk => ⟨ρ, rfl, hk⟩
  | cons x r ih =>
    intro j hb s ρ hs hk
    obtain ⟨k1, h1, h2, h4⟩ := hb 0 x rfl s hs
    obtain ⟨ρ1, e1, hk1⟩ := h1 ρ hk
    have h3 := h2 ρ1 hk1
    rw [List.map_cons]
    unfold loopF foldRe
    rw [e1]
    cases q : g s x with
    | nx s' =>
      rw [q] at h3
      obtain ⟨ρ2, e2, hk2⟩ := h3
      simp only [e2, M.pure_bind]
      exact ih (j + 1) (fun i y hy s hs => by
        have := hb (i + 1) y (by simpa using hy) s (by rw [show j + (i + 1) = j + 1 + i by omega]; exact hs)
        rw [show j + (i + 1) + 1 = j + 1 + i + 1 by omega] at this
        exact this) s' ρ2 (h4 s' q) hk2
    | rt b =>
      rw [q] at h3
      have e2 : B ρ1 = pure (.rt (e' b)) := h3
      simp only [e2]
      rfl
theorem ex_re {kh : σ → Ks} {g : σ → α → Re σ β} {s : σ} {I : Nat → σ → Prop} (hi : Tv k it (xs.map e)) (hs : Sub (kh s) k) (h0 : I 0 s) (hb : ∀ i x, xs[i]? = some x → ∀ s, I i s → ∃ k1, Tg (kh s) τ (e x) k1 ∧ Tx k1 B (reR kh e' (g s x)) ∧ ∀ s', g s x = .nx s' → I (i + 1) s') :
    Tx k (forF it τ B) (reR kh e' (foldRe g s xs)) := fun ρ hk => by
  rw [forF_ap, hi ρ hk, M.pure_bind]
  exact loop_re xs 0 (fun i x hx s hs => by
    rw [Nat.zero_add] at hs ⊢
    exact hb i x hx s hs) s ρ h0 (hk.sub hs)
/-! ### while -/
def whl (c : σ → Bool) (st : σ → σ) : Nat → σ → σ
  | 0, s => s
  | n + 1, s => if c s then whl c st n (st s) else s
def WhlOk (c : σ → Bool) (st : σ → σ) : Nat → σ → Prop
  | 0, _ => False
  | n + 1, s => c s = true → WhlOk c st n (st s)
theorem ex_while {kh : σ → Ks} {c : σ → Bool} {st : σ → σ} {ct : En → M Bool} {I : σ → Prop} : ∀ {n : Nat} {s : σ} {k : Ks}, Sub (kh s) k → I s → (∀ s, I s → Tv (kh s) ct (c s) ∧ (c s = true → Tx (kh s) B (.nx (kh (st s))) ∧ I (st s))) → WhlOk c st n s → Tx k (whileF ct B n) (.nx (kh (whl c st n s)))
  | 0, _, _, _, _, _, h => h.elim
  | n + 1, s, k, hs, h0, hb, ho => fun ρ hk => by
    have hk' := hk.sub hs
    obtain ⟨h1, h2⟩ := hb s h0
    show ∃ ρ', whileF ct B (n + 1) ρ = _ ∧ _
    unfold whileF whl
    rw [h1 ρ hk', M.pure_bind]
    cases q : c s with
    | true =>
      obtain ⟨h3, h4⟩ := h2 q
      obtain ⟨ρ2, e2, hk2⟩ := h3 ρ hk'
      rw [if_pos rfl, e2, M.pure_bind, if_pos rfl]
      exact ex_while (Sub.refl _) h4 hb (ho q) ρ2 hk2
    | false => exact ⟨ρ, rfl, hk'⟩
/-! ### defs -/
theorem fn_of {N n : Nat} {ds : List D} {d : D} (hl : ds.length = n) (hk : ds.map some ++ List.replicate (N - n) none = k) (h : Tx k G (.rt d)) : fnF N n G ds = pure d := by
  have e : G k = pure (.rt d) := h k (Known.refl k)
  unfold fnF
  rw [if_pos hl, hk, e]
  rfl
theorem fn_nx {N n : Nat} {ds : List D} (hl : ds.length = n) (hk : ds.map some ++ List.replicate (N - n) none = k) (h : Tx k G (.nx k1)) : fnF N n G ds = pure .non := by
  obtain ⟨ρ, e, _⟩ := h k (Known.refl k)
  unfold fnF
  rw [if_pos hl, hk, e]
  rfl
end
end DL

/-! DT3: more of the typed layer: what is proved by hand, told alike. -/
namespace DL
open PySem PySem.Spec PyProof.Rows L2

section
variable {k : Ks} {α β σ : Type} {F G B : En → M Fl}
theorem lim_small {l : List D} (h : l.length ≤ 1000) : l.length ≤ LIM := le_LIM h
theorem ev_compI {e : α → D} {it : En → M (List D)} {τ : En → D → Option En} {vs : List Nat} {c : En → M Bool} {b : En → M D} {xs : List α} (p : α → Bool) (k1 : α → Ks) (hi : Tv k it (xs.map e)) (hl : xs.length ≤ LIM)
    (h : ∀ x ∈ xs, Tg (wipeK k vs) τ (e x) (k1 x) ∧ Tv (k1 x) c (p x) ∧ (p x = true → Tv (k1 x) b (e x))) : Tv k (compF it τ vs c b) ((xs.filter p).map e) := by
  have := ev_comp (e' := e) p (fun x => x) k1 hi hl h
  rwa [List.map_id'] at this
theorem ex_last_op {k0 : Ks} {e : α → D} {o : Option α} (R : β → Rl) (inj : α → β) {t : β} (h : Tx k F (opR k0 e o)) (hi : ∀ a, R (inj a) = .rt (e a)) (hg : o = none → Tx k0 skp (R t)) : Tx k F (R (opM o t inj)) := fun ρ hk => by
  have h' := h ρ hk
  cases o with
  | none =>
    obtain ⟨ρ', e, hk'⟩ := h'
    have := hg rfl ρ' hk'
    show (R t).Is (F ρ)
    rw [e]; exact this
  | some a =>
    have e : F ρ = pure (.rt (e a)) := h'
    show (R (inj a)).Is (F ρ)
    rw [hi, e]; rfl
theorem ex_last_re {kh : σ → Ks} {e : α → D} {o : Re σ α} (R : β → Rl) (inj : α → β) {t : σ → β} (h : Tx k F (reR kh e o)) (hi : ∀ a, R (inj a) = .rt (e a)) (hg : ∀ s, o = .nx s → Tx (kh s) skp (R (t s))) : Tx k F (R (reM o t inj)) := fun ρ hk => by
  have h' := h ρ hk
  cases o with
  | nx s =>
    obtain ⟨ρ', e, hk'⟩ := h'
    have := hg s rfl ρ' hk'
    show (R (t s)).Is (F ρ)
    rw [e]; exact this
  | rt a =>
    have e : F ρ = pure (.rt (e a)) := h'
    show (R (inj a)).Is (F ρ)
    rw [hi, e]; rfl
/-! ### None -/
theorem t_isN {e : α → D} (h : NoN e) (o : Option α) : D.is_ (eO e o) .non = pure (.bl o.isNone) := by
  cases o with
  | none => rfl
  | some x => exact (h x).2.2.1
theorem t_isNN {e : α → D} (h : NoN e) (o : Option α) : D.isn_ (eO e o) .non = pure (.bl o.isSome) := by
  cases o with
  | none => rfl
  | some x => exact (h x).2.2.2
def oGet [Inhabited α] (o : Option α) : α := o.getD default
theorem ev_oGet [Inhabited α] {e : α → D} {f : En → M D} {o : Option α} (h : Tv k f (eO e o)) (hs : o.isSome = true) : Tv k f (e (oGet o)) := by
  cases o with
  | none => cases hs
  | some x => exact h
/-! ### data of any kind -/
def DFine (d : D) : Prop := d.fine 64 = true
theorem t_eqD {a b : D} (h : DFine a ∧ DFine b) : D.eq a b = pure (.bl (a.eqv b)) := by
  unfold D.eq
  rw [h.1, h.2]; rfl
theorem t_neD {a b : D} (h : DFine a ∧ DFine b) : D.ne a b = pure (.bl (!a.eqv b)) := by
  unfold D.ne
  rw [h.1, h.2]; rfl
/-! ### order -/
theorem cmI {n : Nat} : EnC eI n := ⟨fun x y => by unfold D.cmpb; rfl⟩
theorem cmpAll_map {e : α → D} {n : Nat} (h : EnC e n) : ∀ l r : List α, D.cmpAll (l.map e) (r.map e) n = true
  | [], [] => by unfold D.cmpAll; rfl
  | [], _ :: _ => by unfold D.cmpAll; rfl
  | _ :: _, [] => by unfold D.cmpAll; rfl
  | x :: l, y :: r => by
    rw [List.map_cons, List.map_cons]
    unfold D.cmpAll
    rw [h.cmp x y, cmpAll_map h l r]; rfl
theorem cmT {e : α → D} {n m : Nat} (h : EnC e n) (ho : EnO e m) (hm : m ≤ n := by decide) : EnC (eT e) (n + 1) := ⟨fun x y => by
  unfold D.cmpb
  show (D.fineAll (x.map e) n && D.fineAll (y.map e) n && D.cmpAll (x.map e) (y.map e) n) = true
  rw [fineAll_map (ho.up hm).fine, fineAll_map (ho.up hm).fine, cmpAll_map h]; rfl⟩
theorem cmP {e : α → D} {f : β → D} {n m o : Nat} (h : EnC e n) (h2 : EnC f n) (ho : EnO e m) (ho2 : EnO f o) (hm : m ≤ n := by decide) (hm2 : o ≤ n := by decide) : EnC (eP e f) (n + 1) := ⟨fun x y => by
  unfold D.cmpb
  show (D.fineAll [e x.1, f x.2] n && D.fineAll [e y.1, f y.2] n && D.cmpAll [e x.1, f x.2] [e y.1, f y.2] n) = true
  have a1 := (ho.up hm).fine x.1
  have a2 := (ho2.up hm2).fine x.2
  have a3 := (ho.up hm).fine y.1
  have a4 := (ho2.up hm2).fine y.2
  have a5 := h.cmp x.1 y.1
  have a6 := h2.cmp x.2 y.2
  simp [D.fineAll, D.cmpAll, a1, a2, a3, a4, a5, a6]⟩
/-! ### texts -/
def VS : Type := { s : Str // s.cps.all (· < 0x110000) = true }
instance : DecidableEq VS := fun a b => if h : a.1 = b.1 then isTrue (Subtype.ext h) else isFalse fun e => h (by rw [e])
instance : Inhabited VS := ⟨⟨"", by decide +kernel⟩⟩
abbrev eV : VS → D := fun s => .str s.1
theorem okV : EnO eV 0 := ⟨fun x => by unfold D.fine; exact x.2, fun x y => by
  have : (eV x).eqv (eV y) = true ↔ x.1 = y.1 := by
    have h := @eqv_iff (eV x) (eV y) 0 0 (by unfold D.cl; exact x.2) (by unfold D.cl; exact y.2)
    rw [h]
    exact str_inj
  rw [this]
  exact ⟨fun h => Subtype.ext h, fun h => by rw [h]⟩⟩
theorem cmV {n : Nat} : EnC eV n := ⟨fun x y => by unfold D.cmpb; rfl⟩
/-! ### kinds -/
theorem isi_t {T t : String} {d : D} {b : Bool} (h : tyIs t T = b) (ht : d.ty = some t) : D.isi T d = pure (.bl b) := by
  unfold D.isi
  rw [ht]
  simp only [h]
/-! ### rows repeated -/
def repE (l : List α) (n : Int) : List α := (List.replicate n.toNat l).flatten
def RepOk (l : List α) (n : Int) : Prop := 0 ≤ n ∧ n ≤ 1000 ∧ l.length ≤ 1000
/-! ### scripts, draws -/
def Scr : Type := { l : List Int // l.length ≤ 63 }
abbrev eC' : Scr → D := fun s => .scr s.1
def drawS (s : Scr) (k m : Int) : Int := drawI s.1 k m
def PDraw (s : Scr) (k m : Int) : Prop := 0 < m
theorem t_drawn (s : Scr) (k m : Int) (h : 0 < m) : F__law_drawn [eC' s, .int k, .int m] = pure (.int (drawS s k m)) := f_drawn s.2 k m h
theorem t_drawnP (s : Scr) (k m : Int) (h : PDraw s k m) : F__law_drawn [eC' s, .int k, .int m] = pure (.int (drawS s k m)) := f_drawn s.2 k m h
theorem drawS_lt (s : Scr) (k : Int) {m : Int} (hm : 0 < m) : 0 ≤ drawS s k m ∧ drawS s k m < m := draw_lt s.1 k hm
/-! ### squares -/
abbrev Sq : Type := List (Int × Int) × List Int
abbrev eSq : Sq → D := eP (eT (eP eI eI)) (eT eI)
abbrev isNum (i lo hi : Int) : Bool := decide (lo ≤ i) && decide (i ≤ hi)
theorem t_is_number (i lo hi : Int) : F_is_number [.int i, .int lo, .int hi] = pure (.bl (isNum i lo hi)) := f_is_number i lo hi
def PLim (n : Int) (l : List Int) : Prop := l.length ≤ LIM
theorem t_are_keys_of (n : Int) (l : List Int) (h : PLim n l) : F_are_keys_of [.int n, eT eI l] = pure (.bl (keysB n l)) := f_are_keys_of n h
def sqOk (q : Sq) : Bool := sqB q.1 q.2
def PSqLen (q : Sq) : Prop := 1 ≤ q.1.length ∧ q.1.length ≤ 6 ∧ q.2.length ≤ LIM
theorem t_is_square (q : Sq) (h : PSqLen q) : F_is_square [eSq q] = pure (.bl (sqOk q)) := f_is_square h.2.1 h.1 h.2.2
def PSq (q : Sq) : Prop := sqOk q = true
theorem sqOk_lim {q : Sq} (h : sqOk q = true) : q.2.length ≤ LIM := by
  have hk := keysB_iff.mp (sqB_keys h)
  have h6 := (sqB_len h).2
  have : q.2.length ≤ 6 := nodup_le q.2 six (hk.1.imp fun h => Int.ne_of_lt h) fun x hx => mem_six.mpr (by have := hk.2 x hx; omega)
  exact le_LIM (by omega)
abbrev tt1 (q : Sq) : Unit := ()
theorem t_need_square (q : Sq) (h : PSq q) : F_need_square [eSq q] = pure .non := f_need_square h (sqOk_lim h)
abbrev tt2 (q : Sq) (l : List Int) : Unit := ()
def PKeys (q : Sq) (l : List Int) : Prop := keysB q.1.length l = true ∧ q.1.length ≤ 6
theorem keysB_lim {n : Nat} {l : List Int} (h : keysB n l = true) (hn : n ≤ 6) : l.length ≤ 6 := by
  have hk := keysB_iff.mp h
  exact nodup_le l six (hk.1.imp fun h => Int.ne_of_lt h) fun x hx => mem_six.mpr (by have := hk.2 x hx; omega)
theorem t_need_keys (q : Sq) (l : List Int) (h : PKeys q l) : F_need_keys [eSq q, eT eI l] = pure .non := f_need_keys h.1 (le_LIM (by have := keysB_lim h.1 h.2; omega))
def wiresOf (sp : List (Int × Int)) : List Int × List Int := (rowsW sp, colsW sp)
def PSpots (sp : List (Int × Int)) : Prop := sp.length ≤ 6
theorem t_wires_of (sp : List (Int × Int)) (h : PSpots sp) : F_wires_of [eT (eP eI eI) sp] = pure (eP (eL eI) (eL eI) (wiresOf sp)) := f_wires_of h
def wiresN (q : Sq) : Int := ((rowsW q.1).length + (colsW q.1).length : Nat)
theorem t_wires (q : Sq) (h : PSq q) : F_wires [eSq q] = pure (.int (wiresN q)) := f_wires h (sqOk_lim h)
def tightQ (q : Sq) : Sq := (tightS q.1, q.2)
theorem t_tight (q : Sq) (h : PSq q) : F_tight [eSq q] = pure (eSq (tightQ q)) := f_tight h (sqOk_lim h)
def turnedQ (q : Sq) : Sq := (q.1.map Prod.swap, q.2)
theorem t_turned (q : Sq) (h : PSq q) : F_turned [eSq q] = pure (eSq (turnedQ q)) := f_turned h (sqOk_lim h)
def withD (q : Sq) (l : List Int) : Sq := (q.1, l)
def PWith (q : Sq) (l : List Int) : Prop := sqOk q = true ∧ keysB q.1.length l = true
theorem t_with_diodes (q : Sq) (l : List Int) (h : PWith q l) : F_with_diodes [eSq q, eT eI l] = pure (eSq (withD q l)) := f_with_diodes h.1 (sqOk_lim h.1) h.2 (le_LIM (by have := keysB_lim h.2 (sqB_len h.1).2; omega))
/-! ### sets of tuples of ints -/
structure StE (e : α → D) : Prop where
  ex : ∃ kf : α → List Int, ∀ x, e x = tupD (kf x)
theorem stK : StE (eT eI) := ⟨fun l => l, fun _ => rfl⟩
theorem stP : StE (eP eI eI) := ⟨fun p => [p.1, p.2], fun _ => rfl⟩
theorem tupI_tupD (k : List Int) : tupI (tupD k) = some k := by
  unfold tupD tupI
  simp only
  rw [if_pos (by rw [List.all_map]; exact List.all_eq_true.mpr fun _ _ => rfl), List.map_map, show (D.iv ∘ D.int) = (_root_.id : Int → Int) from rfl, List.map_id]
theorem tupsI_map {e : α → D} {kf : α → List Int} (h : ∀ x, e x = tupD (kf x)) : ∀ l : List α, tupsI (l.map e) = some (l.map kf)
  | [] => rfl
  | x :: r => by
    rw [List.map_cons]
    unfold tupsI
    rw [h x, tupI_tupD, tupsI_map h r]
    rfl
theorem ss_go [DecidableEq α] {e : α → D} {n : Nat} (hs : StE e) (h : EnO e n) {l : List α} (hl : l.length < 64) (mk : List D → D) (hm : (mk (l.map e)).itemsD = some (l.map e)) : D.srtSet (mk (l.map e)) = pure (.lst ((ssE e l).map e)) := by
  obtain ⟨kf, hk⟩ := hs.ex
  have e1 : uniq (isort (l.map e)) = (ssE e l).map e := by rw [sort_map, uniq_map h]; rfl
  unfold D.srtSet
  rw [hm]
  simp only
  rw [tupsI_map hk, e1]
  simp only [List.length_map]
  rw [if_pos hl]
  split <;> rfl
theorem t_ssAL [DecidableEq α] {e : α → D} {n : Nat} (hs : StE e) (h : EnO e n) {l : List α} (hl : l.length < 64) : D.srtSet (.lst (l.map e)) = pure (.lst ((ssE e l).map e)) := ss_go hs h hl D.lst rfl
theorem t_ssAT [DecidableEq α] {e : α → D} {n : Nat} (hs : StE e) (h : EnO e n) {l : List α} (hl : l.length < 64) : D.srtSet (.tup (l.map e)) = pure (.lst ((ssE e l).map e)) := ss_go hs h hl D.tup rfl
def nubE [DecidableEq α] : List α → List α
  | [] => []
  | x :: r => if x ∈ nubE r then nubE r else x :: nubE r
def lsE [DecidableEq α] (l : List α) : Int := ((nubE l).length : Nat)
theorem mem_nubE [DecidableEq α] {x : α} : ∀ {l : List α}, x ∈ nubE l ↔ x ∈ l
  | [] => Iff.rfl
  | y :: r => by
    unfold nubE
    by_cases h : y ∈ nubE r
    · rw [if_pos h, mem_nubE (l := r), List.mem_cons]
      constructor
      · exact .inr
      · rintro (rfl | z)
        · exact mem_nubE.mp h
        · exact z
    · rw [if_neg h, List.mem_cons, List.mem_cons, mem_nubE (l := r)]
theorem nodup_nubE [DecidableEq α] : ∀ l : List α, (nubE l).Nodup
  | [] => List.nodup_nil
  | y :: r => by
    unfold nubE
    by_cases h : y ∈ nubE r
    · rw [if_pos h]; exact nodup_nubE r
    · rw [if_neg h]; exact List.nodup_cons.mpr ⟨h, nodup_nubE r⟩
/-- as many as of any row without doubles that has the same -/
theorem lsE_eq [DecidableEq α] {l k : List α} (nd : k.Nodup) (h : ∀ x, x ∈ l ↔ x ∈ k) : lsE l = k.length := by
  unfold lsE
  have := ((List.perm_ext_iff_of_nodup (nodup_nubE l) nd).mpr fun x => mem_nubE.trans (h x)).length_eq
  omega
theorem nub_len [DecidableEq α] {kf : α → List Int} (hi : ∀ x y, kf x = kf y → x = y) (l : List α) : (nubK (l.map kf)).length = (nubE l).length := by
  have nd : ((nubE l).map kf).Nodup := by
    have : ∀ k : List α, k.Nodup → (k.map kf).Nodup := by
      intro k
      induction k with
      | nil => exact fun _ => List.nodup_nil
      | cons x r ih =>
        intro nd
        rw [List.nodup_cons] at nd
        rw [List.map_cons, List.nodup_cons]
        refine ⟨fun hm => ?_, ih nd.2⟩
        obtain ⟨y, hy, e⟩ := List.mem_map.mp hm
        exact nd.1 (hi y x e ▸ hy)
    exact this _ (nodup_nubE l)
  have := ((List.perm_ext_iff_of_nodup (nodup_nubK (l.map kf)) nd).mpr fun x => by
    rw [mem_nubK, List.mem_map, List.mem_map]
    constructor
    · rintro ⟨y, hy, rfl⟩; exact ⟨y, mem_nubE.mpr hy, rfl⟩
    · rintro ⟨y, hy, rfl⟩; exact ⟨y, mem_nubE.mp hy, rfl⟩).length_eq
  rw [this, List.length_map]
theorem ls_go [DecidableEq α] {e : α → D} {n : Nat} (hs : StE e) (h : EnO e n) {l : List α} (hl : l.length < 64) (mk : List D → D) (hm : (mk (l.map e)).itemsD = some (l.map e)) : D.lenSet2 (mk (l.map e)) = pure (.int (lsE l)) := by
  obtain ⟨kf, hk⟩ := hs.ex
  have hi : ∀ x y, kf x = kf y → x = y := fun x y z => (h.eqv x y).mp (by rw [hk x, hk y, z]; exact eqv_self 1 _ (tupD_cmp 0 _ _))
  unfold D.lenSet2
  rw [hm]
  simp only
  cases l with
  | nil =>
    rw [if_pos (by rfl)]
    unfold D.lenSet
    rw [hm]
    rfl
  | cons x r =>
    have : okSet ((x :: r).map e) = false := by
      unfold okSet
      rw [List.map_cons, List.all_cons, hk x]
      rfl
    rw [this, if_neg Bool.false_ne_true, tupsI_map hk]
    simp only [List.length_map]
    rw [if_pos hl, nub_len hi]
    rfl
theorem t_lsAL [DecidableEq α] {e : α → D} {n : Nat} (hs : StE e) (h : EnO e n) {l : List α} (hl : l.length < 64) : D.lenSet2 (.lst (l.map e)) = pure (.int (lsE l)) := ls_go hs h hl D.lst rfl
theorem t_lsAT [DecidableEq α] {e : α → D} {n : Nat} (hs : StE e) (h : EnO e n) {l : List α} (hl : l.length < 64) : D.lenSet2 (.tup (l.map e)) = pure (.int (lsE l)) := ls_go hs h hl D.tup rfl
theorem lsI_go {l : List Int} (hl : l.length < 64) (mk : List D → D) (hm : (mk (l.map eI)).itemsD = some (l.map eI)) : D.lenSet2 (mk (l.map eI)) = pure (.int (lsE l)) := by
  unfold D.lenSet2
  rw [hm]
  simp only
  rw [if_pos (okSet_map hl)]
  unfold D.lenSet
  rw [hm]
  simp only
  rw [if_pos (okSet_map hl), show uniq (isort (l.map eI)) = (wset l).map D.int from (wset_spec l).1, List.length_map, lsE_eq (k := wset l) ((wset_spec l).2.1.imp fun h => Int.ne_of_lt h) fun x => ((wset_spec l).2.2 x).symm]
theorem t_lsL {l : List Int} (hl : l.length < 64) : D.lenSet2 (.lst (l.map eI)) = pure (.int (lsE l)) := lsI_go hl D.lst rfl
theorem t_lsT {l : List Int} (hl : l.length < 64) : D.lenSet2 (.tup (l.map eI)) = pure (.int (lsE l)) := lsI_go hl D.tup rfl
theorem t_mulL {e : α → D} {l : List α} {n : Int} (h : RepOk l n) : D.mul (.lst (l.map e)) (.int n) = pure (.lst ((repE l n).map e)) := by
  obtain ⟨h1, h2, h3⟩ := h
  show gd _ _ = _
  rw [gd_pos ⟨by omega, by omega, by
    rw [List.length_map, LIM_val]
    have := Nat.mul_le_mul h3 (show n.toNat ≤ 1000 by omega)
    omega⟩]
  unfold repE
  rw [List.map_flatten, List.map_replicate]
end
end DL

/-! texts, printed by ty.py -/
namespace DL
open PySem PySem.Spec PyProof.Rows L2
def lit_row : VS := ⟨("row" : Str), by decide +kernel⟩
def lit_column : VS := ⟨("column" : Str), by decide +kernel⟩
def lit_ : VS := ⟨("" : Str), by decide +kernel⟩
def lit__20_ : VS := ⟨(" " : Str), by decide +kernel⟩
end DL

/-! typed values, printed by ty.py -/
namespace DL
open PySem PySem.Spec PyProof.Rows L2
/-! ### _law_square -/
abbrev K__law_square_L1 (script' : Scr) (at' : Int) (many' : Int) (wide' : Int) (shift' : Int) (s' : (List (Int × Int))) : Ks := [some (eC' script'), some (eI at'), none, some (eI many'), some (eI wide'), some (eI shift'), some ((eL (eP eI eI)) s'), none, none, none, none, none, none]
def T__law_square_L1_2 (script' : Scr) (at' : Int) (many' : Int) (wide' : Int) (shift' : Int) (spots' : (List (Int × Int))) (spot' : (Int × Int)) : (List (Int × Int)) := (spots' ++ (rep01 [spot'] ((!(inE spot' spots')) && (decide ((spots'.length : Int) < many')))))
def P__law_square_L1_2 (script' : Scr) (at' : Int) (many' : Int) (wide' : Int) (shift' : Int) (spots' : (List (Int × Int))) (spot' : (Int × Int)) : Prop := ((([spot'].length ≤ LIM)) ∧ (spots'.length + (rep01 [spot'] ((!(inE spot' spots')) && (decide ((spots'.length : Int) < many')))).length ≤ LIM))
theorem x__law_square_L1_2 (script' : Scr) (at' : Int) (many' : Int) (wide' : Int) (shift' : Int) (spots' : (List (Int × Int))) (spot' : (Int × Int)) (h : P__law_square_L1_2 script' at' many' wide' shift' spots' spot') : Tx [some (eC' script'), some (eI at'), none, some (eI many'), some (eI wide'), some (eI shift'), some ((eL (eP eI eI)) spots'), none, none, none, none, some ((eP eI eI) spot'), none] G__law_square_L1_2 (Rl.nx ((K__law_square_L1 script' at' many' wide' shift') (T__law_square_L1_2 script' at' many' wide' shift' spots' spot'))) :=
  (ex_sub (ex_set (ev_bin (ev_var rfl) (ev_bin (ev_lst (ea_cons (ev_var rfl) ea_nil) (lim_small (Nat.le_of_ble_eq_true rfl))) (ev_nop (ea_cons (ev_andv (ev_bin (ev_var rfl) (ev_var rfl) (t_ninL (e := (eP eI eI)) (okP okI okI) spot' spots')) fun u7 => (ev_bin (ev_nop (ea_cons (ev_var rfl) ea_nil) (t_len _ (eP eI eI))) (ev_var rfl) (lt_int _ _))) ea_nil) rfl) (t_mulB (e := (eP eI eI)) (And.left h))) (t_addL (e := (eP eI eI)) (a := spots') (b := (rep01 [spot'] ((!(inE spot' spots')) && (decide ((spots'.length : Int) < many'))))) (And.right h)))) (.keep (.keep (.skip (.keep (.keep (.keep (.keep (.skip (.skip (.skip (.skip (.skip (.skip .nil))))))))))))))
def T__law_square_L1_1 (script' : Scr) (at' : Int) (many' : Int) (wide' : Int) (shift' : Int) (spots' : (List (Int × Int))) (here' : Int) : (List (Int × Int)) := (T__law_square_L1_2 script' at' many' wide' shift' spots' ((shift' + (drawS script' here' wide')), (((drawS script' (here' + (1 : Int)) wide') + (2 : Int)) - shift')))
def P__law_square_L1_1 (script' : Scr) (at' : Int) (many' : Int) (wide' : Int) (shift' : Int) (spots' : (List (Int × Int))) (here' : Int) : Prop := ((((PDraw script' here' wide'))) ∧ ((((PDraw script' (here' + (1 : Int)) wide'))))) ∧ (P__law_square_L1_2 script' at' many' wide' shift' spots' ((shift' + (drawS script' here' wide')), (((drawS script' (here' + (1 : Int)) wide') + (2 : Int)) - shift')))
theorem x__law_square_L1_1 (script' : Scr) (at' : Int) (many' : Int) (wide' : Int) (shift' : Int) (spots' : (List (Int × Int))) (here' : Int) (h : P__law_square_L1_1 script' at' many' wide' shift' spots' here') : Tx [some (eC' script'), some (eI at'), none, some (eI many'), some (eI wide'), some (eI shift'), some ((eL (eP eI eI)) spots'), none, none, none, some (eI here'), none, none] G__law_square_L1_1 (Rl.nx ((K__law_square_L1 script' at' many' wide' shift') (T__law_square_L1_1 script' at' many' wide' shift' spots' here'))) :=
  (ex_sq (ex_set (ev_tup (ea_cons (ev_bin (ev_var rfl) (ev_nop (ea_cons (ev_var rfl) (ea_cons (ev_var rfl) (ea_cons (ev_var rfl) ea_nil))) (t_drawnP script' here' wide' (And.left (And.left h)))) (add_int _ _)) (ea_cons (ev_bin (ev_bin (ev_nop (ea_cons (ev_var rfl) (ea_cons (ev_bin (ev_var rfl) ev_cst (add_int _ _)) (ea_cons (ev_var rfl) ea_nil))) (t_drawnP script' (here' + (1 : Int)) wide' (And.right (And.left h)))) ev_cst (add_int _ _)) (ev_var rfl) (sub_int _ _)) ea_nil)) (lim_small (Nat.le_of_ble_eq_true rfl)))) (ex_pre (x__law_square_L1_2 script' at' many' wide' shift' spots' ((shift' + (drawS script' here' wide')), (((drawS script' (here' + (1 : Int)) wide') + (2 : Int)) - shift')) (And.right h)) (.keep (.keep (.skip (.keep (.keep (.keep (.keep (.skip (.skip (.skip (.skip (.keep (.skip .nil)))))))))))))))
def T__law_square_L1 (script' : Scr) (at' : Int) (many' : Int) (wide' : Int) (shift' : Int) (spots' : (List (Int × Int))) (k' : Int) : (List (Int × Int)) := (T__law_square_L1_1 script' at' many' wide' shift' spots' ((at' + (3 : Int)) + ((2 : Int) * k')))
def P__law_square_L1 (script' : Scr) (at' : Int) (many' : Int) (wide' : Int) (shift' : Int) (spots' : (List (Int × Int))) (k' : Int) : Prop := (P__law_square_L1_1 script' at' many' wide' shift' spots' ((at' + (3 : Int)) + ((2 : Int) * k')))
theorem x__law_square_L1 (script' : Scr) (at' : Int) (many' : Int) (wide' : Int) (shift' : Int) (spots' : (List (Int × Int))) (k' : Int) (h : P__law_square_L1 script' at' many' wide' shift' spots' k') : Tx [some (eC' script'), some (eI at'), none, some (eI many'), some (eI wide'), some (eI shift'), some ((eL (eP eI eI)) spots'), some (eI k'), none, none, none, none, none] G__law_square_L1 (Rl.nx ((K__law_square_L1 script' at' many' wide' shift') (T__law_square_L1 script' at' many' wide' shift' spots' k'))) :=
  (ex_sq (ex_set (ev_bin (ev_bin (ev_var rfl) ev_cst (add_int _ _)) (ev_bin ev_cst (ev_var rfl) (t_mulc (by decide))) (add_int _ _))) (ex_pre (x__law_square_L1_1 script' at' many' wide' shift' spots' ((at' + (3 : Int)) + ((2 : Int) * k')) h) (.keep (.keep (.skip (.keep (.keep (.keep (.keep (.skip (.skip (.skip (.keep (.skip (.skip .nil)))))))))))))))
def T__law_square_7 (spots' : (List (Int × Int))) (diodes' : (List Int)) : Sq := (spots', diodes')
theorem x__law_square_7 (spots' : (List (Int × Int))) (diodes' : (List Int)) : Tx [none, none, none, none, none, none, some ((eL (eP eI eI)) spots'), none, none, some ((eL eI) diodes'), none, none, none] G__law_square_7 (Rl.rt (eSq (T__law_square_7 spots' diodes'))) :=
  (ex_ret (ev_tup (ea_cons (ev_nop (ea_cons (ev_var rfl) ea_nil) rfl) (ea_cons (ev_nop (ea_cons (ev_var rfl) ea_nil) rfl) ea_nil)) (lim_small (Nat.le_of_ble_eq_true rfl))))
def T__law_square_6 (script' : Scr) (at' : Int) (spots' : (List (Int × Int))) (rare' : Int) : Sq := (T__law_square_7 spots' ((rgI 0 (spots'.length : Int)).filter (fun (key' : Int) => (decide ((drawS script' ((at' + (61 : Int)) + key') rare') = (0 : Int))))))
def P__law_square_6 (script' : Scr) (at' : Int) (spots' : (List (Int × Int))) (rare' : Int) : Prop := (((RgIn 0 (spots'.length : Int))) ∧ (∀ key' ∈ (rgI 0 (spots'.length : Int)), (((PDraw script' ((at' + (61 : Int)) + key') rare')))))
theorem x__law_square_6 (script' : Scr) (at' : Int) (spots' : (List (Int × Int))) (rare' : Int) (h : P__law_square_6 script' at' spots' rare') : Tx [some (eC' script'), some (eI at'), none, none, none, none, some ((eL (eP eI eI)) spots'), none, some (eI rare'), none, none, none, none] G__law_square_6 (Rl.rt (eSq (T__law_square_6 script' at' spots' rare'))) :=
  (ex_sq (ex_set (ev_lstF (ev_compI (e := eI) (fun (key' : Int) => (decide ((drawS script' ((at' + (61 : Int)) + key') rare') = (0 : Int)))) _ (it_rng1 (ea_cons (ev_nop (ea_cons (ev_var rfl) ea_nil) (t_len _ (eP eI eI))) ea_nil) (And.left h)) (rgI_len (And.left h)) fun key' u8 => ⟨tg1, (ev_tst (ev_bin (ev_nop (ea_cons (ev_var rfl) (ea_cons (ev_bin (ev_bin (ev_var rfl) ev_cst (add_int _ _)) (ev_var rfl) (add_int _ _)) (ea_cons (ev_var rfl) ea_nil))) (t_drawnP script' ((at' + (61 : Int)) + key') rare' ((And.right h) key' u8))) ev_cst (t_eq (e := eI) okI (drawS script' ((at' + (61 : Int)) + key') rare') (0 : Int)))), fun u9 => (ev_var rfl)⟩))) (ex_pre (x__law_square_7 spots' ((rgI 0 (spots'.length : Int)).filter (fun (key' : Int) => (decide ((drawS script' ((at' + (61 : Int)) + key') rare') = (0 : Int)))))) (.skip (.skip (.skip (.skip (.skip (.skip (.keep (.skip (.skip (.keep (.skip (.skip (.skip .nil)))))))))))))))
def T__law_square_5 (script' : Scr) (at' : Int) (spots' : (List (Int × Int))) : Sq := (T__law_square_6 script' at' spots' (ixE [(2 : Int), (4 : Int), (9 : Int)] (drawS script' (at' + (60 : Int)) (3 : Int))))
def P__law_square_5 (script' : Scr) (at' : Int) (spots' : (List (Int × Int))) : Prop := ((InIx [(2 : Int), (4 : Int), (9 : Int)] (drawS script' (at' + (60 : Int)) (3 : Int)))) ∧ (P__law_square_6 script' at' spots' (ixE [(2 : Int), (4 : Int), (9 : Int)] (drawS script' (at' + (60 : Int)) (3 : Int))))
theorem x__law_square_5 (script' : Scr) (at' : Int) (spots' : (List (Int × Int))) (h : P__law_square_5 script' at' spots') : Tx [some (eC' script'), some (eI at'), none, none, none, none, some ((eL (eP eI eI)) spots'), none, none, none, none, none, none] G__law_square_5 (Rl.rt (eSq (T__law_square_5 script' at' spots'))) :=
  (ex_sq (ex_set (ev_bin (ev_lst (ea_cons ev_cst (ea_cons ev_cst (ea_cons ev_cst ea_nil))) (lim_small (Nat.le_of_ble_eq_true rfl))) (ev_nop (ea_cons (ev_var rfl) (ea_cons (ev_bin (ev_var rfl) ev_cst (add_int _ _)) (ea_cons ev_cst ea_nil))) (t_drawn script' (at' + (60 : Int)) (3 : Int) (by decide))) (t_idxL (e := eI) (And.left h)))) (ex_pre (x__law_square_6 script' at' spots' (ixE [(2 : Int), (4 : Int), (9 : Int)] (drawS script' (at' + (60 : Int)) (3 : Int))) (And.right h)) (.keep (.keep (.skip (.skip (.skip (.skip (.keep (.skip (.keep (.skip (.skip (.skip (.skip .nil)))))))))))))))
def T__law_square_4 (script' : Scr) (at' : Int) (many' : Int) (wide' : Int) (shift' : Int) (spots' : (List (Int × Int))) : Sq := (T__law_square_5 script' at' ((rgI 0 ((4 : Int) * many')).foldl (fun (s' : (List (Int × Int))) (k' : Int) => T__law_square_L1 script' at' many' wide' shift' s' k') spots'))
def P__law_square_4 (script' : Scr) (at' : Int) (many' : Int) (wide' : Int) (shift' : Int) (spots' : (List (Int × Int))) : Prop := (((RgIn 0 ((4 : Int) * many'))) ∧ (∃ I : Nat → (List (Int × Int)) → Prop, I 0 spots' ∧ ∀ (i' : Nat) (k' : Int), (rgI 0 ((4 : Int) * many'))[i']? = some k' → ∀ s', I i' s' → P__law_square_L1 script' at' many' wide' shift' s' k' ∧ I (i' + 1) ((fun (s' : (List (Int × Int))) (k' : Int) => T__law_square_L1 script' at' many' wide' shift' s' k') s' k'))) ∧ (P__law_square_5 script' at' ((rgI 0 ((4 : Int) * many')).foldl (fun (s' : (List (Int × Int))) (k' : Int) => T__law_square_L1 script' at' many' wide' shift' s' k') spots'))
theorem x__law_square_4 (script' : Scr) (at' : Int) (many' : Int) (wide' : Int) (shift' : Int) (spots' : (List (Int × Int))) (h : P__law_square_4 script' at' many' wide' shift' spots') : Tx [some (eC' script'), some (eI at'), none, some (eI many'), some (eI wide'), some (eI shift'), some ((eL (eP eI eI)) spots'), none, none, none, none, none, none] G__law_square_4 (Rl.rt (eSq (T__law_square_4 script' at' many' wide' shift' spots'))) :=
  (ex_sq (let ⟨I, h0, hb⟩ := (And.right (And.left h)); ex_fold (e := eI) (kh := (K__law_square_L1 script' at' many' wide' shift')) (st := (fun (s' : (List (Int × Int))) (k' : Int) => T__law_square_L1 script' at' many' wide' shift' s' k')) (I := I) (it_rng1 (ea_cons (ev_bin ev_cst (ev_var rfl) (t_mulc (by decide))) ea_nil) (And.left (And.left h))) (.keep (.keep (.skip (.keep (.keep (.keep (.keep (.skip (.skip (.skip (.skip (.skip (.skip .nil))))))))))))) h0 fun i' k' hx s' hs => ⟨_, tg1, ex_pre (x__law_square_L1 script' at' many' wide' shift' s' k' (hb i' k' hx s' hs).1) (.keep (.keep (.skip (.keep (.keep (.keep (.keep (.keep (.skip (.skip (.skip (.skip (.skip .nil))))))))))))), (hb i' k' hx s' hs).2⟩) (ex_pre (x__law_square_5 script' at' ((rgI 0 ((4 : Int) * many')).foldl (fun (s' : (List (Int × Int))) (k' : Int) => T__law_square_L1 script' at' many' wide' shift' s' k') spots') (And.right h)) (.keep (.keep (.skip (.skip (.skip (.skip (.keep (.skip (.skip (.skip (.skip (.skip (.skip .nil)))))))))))))))
def T__law_square_3 (script' : Scr) (at' : Int) (many' : Int) (wide' : Int) (shift' : Int) : Sq := (T__law_square_4 script' at' many' wide' shift' ([] : List (Int × Int)))
def P__law_square_3 (script' : Scr) (at' : Int) (many' : Int) (wide' : Int) (shift' : Int) : Prop := (P__law_square_4 script' at' many' wide' shift' ([] : List (Int × Int)))
theorem x__law_square_3 (script' : Scr) (at' : Int) (many' : Int) (wide' : Int) (shift' : Int) (h : P__law_square_3 script' at' many' wide' shift') : Tx [some (eC' script'), some (eI at'), none, some (eI many'), some (eI wide'), some (eI shift'), none, none, none, none, none, none, none] G__law_square_3 (Rl.rt (eSq (T__law_square_3 script' at' many' wide' shift'))) :=
  (ex_sq (ex_set (ev_lstF (ev_lim ea_nil lim_nil))) (ex_pre (x__law_square_4 script' at' many' wide' shift' ([] : List (Int × Int)) h) (.keep (.keep (.skip (.keep (.keep (.keep (.keep (.skip (.skip (.skip (.skip (.skip (.skip .nil)))))))))))))))
def T__law_square_2 (script' : Scr) (at' : Int) (many' : Int) (wide' : Int) : Sq := (T__law_square_3 script' at' many' wide' (drawS script' (at' + (2 : Int)) (3 : Int)))
def P__law_square_2 (script' : Scr) (at' : Int) (many' : Int) (wide' : Int) : Prop := (P__law_square_3 script' at' many' wide' (drawS script' (at' + (2 : Int)) (3 : Int)))
theorem x__law_square_2 (script' : Scr) (at' : Int) (many' : Int) (wide' : Int) (h : P__law_square_2 script' at' many' wide') : Tx [some (eC' script'), some (eI at'), none, some (eI many'), some (eI wide'), none, none, none, none, none, none, none, none] G__law_square_2 (Rl.rt (eSq (T__law_square_2 script' at' many' wide'))) :=
  (ex_sq (ex_set (ev_nop (ea_cons (ev_var rfl) (ea_cons (ev_bin (ev_var rfl) ev_cst (add_int _ _)) (ea_cons ev_cst ea_nil))) (t_drawn script' (at' + (2 : Int)) (3 : Int) (by decide)))) (ex_pre (x__law_square_3 script' at' many' wide' (drawS script' (at' + (2 : Int)) (3 : Int)) h) (.keep (.keep (.skip (.keep (.keep (.keep (.skip (.skip (.skip (.skip (.skip (.skip (.skip .nil)))))))))))))))
def T__law_square_1 (script' : Scr) (at' : Int) (many' : Int) : Sq := (T__law_square_2 script' at' many' ((2 : Int) + (drawS script' (at' + (1 : Int)) (2 : Int))))
def P__law_square_1 (script' : Scr) (at' : Int) (many' : Int) : Prop := (P__law_square_2 script' at' many' ((2 : Int) + (drawS script' (at' + (1 : Int)) (2 : Int))))
theorem x__law_square_1 (script' : Scr) (at' : Int) (many' : Int) (h : P__law_square_1 script' at' many') : Tx [some (eC' script'), some (eI at'), none, some (eI many'), none, none, none, none, none, none, none, none, none] G__law_square_1 (Rl.rt (eSq (T__law_square_1 script' at' many'))) :=
  (ex_sq (ex_set (ev_bin ev_cst (ev_nop (ea_cons (ev_var rfl) (ea_cons (ev_bin (ev_var rfl) ev_cst (add_int _ _)) (ea_cons ev_cst ea_nil))) (t_drawn script' (at' + (1 : Int)) (2 : Int) (by decide))) (add_int _ _))) (ex_pre (x__law_square_2 script' at' many' ((2 : Int) + (drawS script' (at' + (1 : Int)) (2 : Int))) h) (.keep (.keep (.skip (.keep (.keep (.skip (.skip (.skip (.skip (.skip (.skip (.skip (.skip .nil)))))))))))))))
def T__law_square (script' : Scr) (at' : Int) (most' : Int) : Sq := (T__law_square_1 script' at' ((1 : Int) + (drawS script' at' most')))
def P__law_square (script' : Scr) (at' : Int) (most' : Int) : Prop := (((PDraw script' at' most'))) ∧ (P__law_square_1 script' at' ((1 : Int) + (drawS script' at' most')))
theorem x__law_square (script' : Scr) (at' : Int) (most' : Int) (h : P__law_square script' at' most') : Tx [some (eC' script'), some (eI at'), some (eI most'), none, none, none, none, none, none, none, none, none, none] G__law_square (Rl.rt (eSq (T__law_square script' at' most'))) :=
  (ex_sq (ex_set (ev_bin ev_cst (ev_nop (ea_cons (ev_var rfl) (ea_cons (ev_var rfl) (ea_cons (ev_var rfl) ea_nil))) (t_drawnP script' at' most' (And.left h))) (add_int _ _))) (ex_pre (x__law_square_1 script' at' ((1 : Int) + (drawS script' at' most')) (And.right h)) (.keep (.keep (.skip (.keep (.skip (.skip (.skip (.skip (.skip (.skip (.skip (.skip (.skip .nil)))))))))))))))
theorem f__law_square (script' : Scr) (at' : Int) (most' : Int) (h : P__law_square script' at' most') : F__law_square [eC' script', eI at', eI most'] = pure (eSq (T__law_square script' at' most')) :=
  fn_of rfl rfl (ex_pre (x__law_square script' at' most' h) (.keep (.keep (.keep (.skip (.skip (.skip (.skip (.skip (.skip (.skip (.skip (.skip (.skip .nil))))))))))))))
/-! ### _law_set -/
def T__law_set (script' : Scr) (at' : Int) (many' : Int) : (List Int) := ((rgI 0 many').filter (fun (key' : Int) => (decide ((0 : Int) < (drawS script' (at' + key') (3 : Int))))))
def P__law_set (script' : Scr) (at' : Int) (many' : Int) : Prop := ((RgIn 0 many'))
theorem x__law_set (script' : Scr) (at' : Int) (many' : Int) (h : P__law_set script' at' many') : Tx [some (eC' script'), some (eI at'), some (eI many'), none] G__law_set (Rl.rt ((eT eI) (T__law_set script' at' many'))) :=
  (ex_ret (ev_nop (ea_cons (ev_lstF (ev_compI (e := eI) (fun (key' : Int) => (decide ((0 : Int) < (drawS script' (at' + key') (3 : Int))))) _ (it_rng1 (ea_cons (ev_var rfl) ea_nil) h) (rgI_len h) fun key' u14 => ⟨tg1, (ev_tst (ev_bin (ev_nop (ea_cons (ev_var rfl) (ea_cons (ev_bin (ev_var rfl) (ev_var rfl) (add_int _ _)) (ea_cons ev_cst ea_nil))) (t_drawn script' (at' + key') (3 : Int) (by decide))) ev_cst (gt_int _ _))), fun u15 => (ev_var rfl)⟩)) ea_nil) rfl))
theorem f__law_set (script' : Scr) (at' : Int) (many' : Int) (h : P__law_set script' at' many') : F__law_set [eC' script', eI at', eI many'] = pure ((eT eI) (T__law_set script' at' many')) :=
  fn_of rfl rfl (ex_pre (x__law_set script' at' many' h) (.keep (.keep (.keep (.skip .nil)))))
/-! ### _law_wish -/
def T__law_wish_1 (some' : (List (List Int))) : (List (List Int)) := (ssE (eT eI) some')
def P__law_wish_1 (some' : (List (List Int))) : Prop := (some'.length < 64)
theorem x__law_wish_1 (some' : (List (List Int))) (h : P__law_wish_1 some') : Tx [none, none, none, none, some ((eL (eT eI)) some'), none] G__law_wish_1 (Rl.rt ((eT (eT eI)) (T__law_wish_1 some'))) :=
  (ex_ret (ev_nop (ea_cons (ev_un (ev_var rfl) (t_ssAL (e := (eT eI)) stK (okT okI) h)) ea_nil) rfl))
def T__law_wish (script' : Scr) (at' : Int) (many' : Int) (most' : Int) : (List (List Int)) := (T__law_wish_1 ((rgI 0 (drawS script' at' (most' + (1 : Int)))).map (fun (k' : Int) => (T__law_set script' ((at' + (1 : Int)) + ((7 : Int) * k')) many'))))
def P__law_wish (script' : Scr) (at' : Int) (many' : Int) (most' : Int) : Prop := (((((PDraw script' at' (most' + (1 : Int))))) ∧ (RgIn 0 (drawS script' at' (most' + (1 : Int))))) ∧ (∀ k' ∈ (rgI 0 (drawS script' at' (most' + (1 : Int)))), (P__law_set script' ((at' + (1 : Int)) + ((7 : Int) * k')) many'))) ∧ (P__law_wish_1 ((rgI 0 (drawS script' at' (most' + (1 : Int)))).map (fun (k' : Int) => (T__law_set script' ((at' + (1 : Int)) + ((7 : Int) * k')) many'))))
theorem x__law_wish (script' : Scr) (at' : Int) (many' : Int) (most' : Int) (h : P__law_wish script' at' many' most') : Tx [some (eC' script'), some (eI at'), some (eI many'), some (eI most'), none, none] G__law_wish (Rl.rt ((eT (eT eI)) (T__law_wish script' at' many' most'))) :=
  (ex_sq (ex_set (ev_lstF (ev_compA (e := eI) (e' := (eT eI)) (fun (k' : Int) => (T__law_set script' ((at' + (1 : Int)) + ((7 : Int) * k')) many')) _ (it_rng1 (ea_cons (ev_nop (ea_cons (ev_var rfl) (ea_cons (ev_var rfl) (ea_cons (ev_bin (ev_var rfl) ev_cst (add_int _ _)) ea_nil))) (t_drawnP script' at' (most' + (1 : Int)) (And.left (And.left (And.left h))))) ea_nil) (And.right (And.left (And.left h)))) (rgI_len (And.right (And.left (And.left h)))) fun k' u20 => ⟨tg1, (ev_nop (ea_cons (ev_var rfl) (ea_cons (ev_bin (ev_bin (ev_var rfl) ev_cst (add_int _ _)) (ev_bin ev_cst (ev_var rfl) (t_mulc (by decide))) (add_int _ _)) (ea_cons (ev_var rfl) ea_nil))) (f__law_set script' ((at' + (1 : Int)) + ((7 : Int) * k')) many' ((And.right (And.left h)) k' u20)))⟩))) (ex_pre (x__law_wish_1 ((rgI 0 (drawS script' at' (most' + (1 : Int)))).map (fun (k' : Int) => (T__law_set script' ((at' + (1 : Int)) + ((7 : Int) * k')) many'))) (And.right h)) (.skip (.skip (.skip (.skip (.keep (.skip .nil))))))))
theorem f__law_wish (script' : Scr) (at' : Int) (many' : Int) (most' : Int) (h : P__law_wish script' at' many' most') : F__law_wish [eC' script', eI at', eI many', eI most'] = pure ((eT (eT eI)) (T__law_wish script' at' many' most')) :=
  fn_of rfl rfl (ex_pre (x__law_wish script' at' many' most' h) (.keep (.keep (.keep (.keep (.skip (.skip .nil)))))))
/-! ### back_rows -/
def T_back_rows_1 (pressed' : (List Int)) (column' : Int) (spots' : (List (Int × Int))) (diodes' : (List Int)) : (List Int) := ((pressed'.filter (fun (key' : Int) => ((decide ((ixE spots' key').2 = column')) && (!(inE key' diodes'))))).map (fun (key' : Int) => (ixE spots' key').1))
def P_back_rows_1 (pressed' : (List Int)) (column' : Int) (spots' : (List (Int × Int))) (diodes' : (List Int)) : Prop := (pressed'.length ≤ LIM) ∧ (∀ key' ∈ pressed', ((((InIx spots' key')))) ∧ (((decide ((ixE spots' key').2 = column')) && (!(inE key' diodes'))) = true → (InIx spots' key')))
theorem x_back_rows_1 (pressed' : (List Int)) (column' : Int) (spots' : (List (Int × Int))) (diodes' : (List Int)) (h : P_back_rows_1 pressed' column' spots' diodes') : Tx [none, some ((eT eI) pressed'), some (eI column'), some ((eT (eP eI eI)) spots'), some ((eT eI) diodes'), none] G_back_rows_1 (Rl.rt ((eL eI) (T_back_rows_1 pressed' column' spots' diodes'))) :=
  (ex_ret (ev_lstF (ev_comp (e := eI) (e' := eI) (fun (key' : Int) => ((decide ((ixE spots' key').2 = column')) && (!(inE key' diodes')))) (fun (key' : Int) => (ixE spots' key').1) _ (it_itemsT (ev_var rfl)) (And.left h) fun key' u28 => ⟨tg1, (ev_andt (ev_tst (ev_bin (ev_bin (ev_bin (ev_var rfl) (ev_var rfl) (t_idxT (e := (eP eI eI)) (And.left ((And.right h) key' u28)))) ev_cst t_idxP1) (ev_var rfl) (t_eq (e := eI) okI ((ixE spots' key').2) column'))) fun u30 => (ev_tst (ev_bin (ev_var rfl) (ev_var rfl) (t_ninT (e := eI) okI key' diodes')))), fun u29 => (ev_bin (ev_bin (ev_var rfl) (ev_var rfl) (t_idxT (e := (eP eI eI)) ((And.right ((And.right h) key' u28)) u29))) ev_cst t_idxP0)⟩)))
def T_back_rows (square' : Sq) (pressed' : (List Int)) (column' : Int) : (List Int) := (T_back_rows_1 pressed' column' square'.1 square'.2)
def P_back_rows (square' : Sq) (pressed' : (List Int)) (column' : Int) : Prop := (P_back_rows_1 pressed' column' square'.1 square'.2)
theorem x_back_rows (square' : Sq) (pressed' : (List Int)) (column' : Int) (h : P_back_rows square' pressed' column') : Tx [some (eSq square'), some ((eT eI) pressed'), some (eI column'), none, none, none] G_back_rows (Rl.rt ((eL eI) (T_back_rows square' pressed' column'))) :=
  (ex_sq (ex_setT (ev_var rfl) tg2) (ex_pre (x_back_rows_1 pressed' column' square'.1 square'.2 h) (.skip (.keep (.keep (.keep (.keep (.skip .nil))))))))
theorem f_back_rows (square' : Sq) (pressed' : (List Int)) (column' : Int) (h : P_back_rows square' pressed' column') : F_back_rows [eSq square', (eT eI) pressed', eI column'] = pure ((eL eI) (T_back_rows square' pressed' column')) :=
  fn_of rfl rfl (ex_pre (x_back_rows square' pressed' column' h) (.keep (.keep (.keep (.skip (.skip (.skip .nil)))))))
/-! ### with_more -/
def T_with_more (rows' : (List Int)) (more' : (List Int)) : (List Int) := (rows' ++ (((enE more').filter (fun (z_place_one' : (Int × Int)) => ((!(inE z_place_one'.2 rows')) && (!(inE z_place_one'.2 (cutE more' none (some z_place_one'.1))))))).map (fun (z_place_one' : (Int × Int)) => z_place_one'.2)))
def P_with_more (rows' : (List Int)) (more' : (List Int)) : Prop := (((enE more').length ≤ LIM)) ∧ (rows'.length + (((enE more').filter (fun (z_place_one' : (Int × Int)) => ((!(inE z_place_one'.2 rows')) && (!(inE z_place_one'.2 (cutE more' none (some z_place_one'.1))))))).map (fun (z_place_one' : (Int × Int)) => z_place_one'.2)).length ≤ LIM)
theorem x_with_more (rows' : (List Int)) (more' : (List Int)) (h : P_with_more rows' more') : Tx [some ((eL eI) rows'), some ((eL eI) more'), none, none] G_with_more (Rl.rt ((eL eI) (T_with_more rows' more'))) :=
  (ex_ret (ev_bin (ev_var rfl) (ev_lstF (ev_comp (e := (eP eI eI)) (e' := eI) (fun (z_place_one' : (Int × Int)) => ((!(inE z_place_one'.2 rows')) && (!(inE z_place_one'.2 (cutE more' none (some z_place_one'.1)))))) (fun (z_place_one' : (Int × Int)) => z_place_one'.2) _ (it_enumL (e := eI) (ea_cons (ev_var rfl) ea_nil)) (And.left h) fun z_place_one' u37 => ⟨tg2, (ev_andt (ev_tst (ev_bin (ev_var rfl) (ev_var rfl) (t_ninL (e := eI) okI z_place_one'.2 rows'))) fun u39 => (ev_tst (ev_bin (ev_var rfl) (ev_slcL (e := eI) (ev_var rfl) ev_nopart (ev_part (ev_var rfl))) (t_ninL (e := eI) okI z_place_one'.2 (cutE more' none (some z_place_one'.1)))))), fun u38 => (ev_var rfl)⟩)) (t_addL (e := eI) (a := rows') (b := (((enE more').filter (fun (z_place_one' : (Int × Int)) => ((!(inE z_place_one'.2 rows')) && (!(inE z_place_one'.2 (cutE more' none (some z_place_one'.1))))))).map (fun (z_place_one' : (Int × Int)) => z_place_one'.2))) (And.right h))))
theorem f_with_more (rows' : (List Int)) (more' : (List Int)) (h : P_with_more rows' more') : F_with_more [(eL eI) rows', (eL eI) more'] = pure ((eL eI) (T_with_more rows' more')) :=
  fn_of rfl rfl (ex_pre (x_with_more rows' more' h) (.keep (.keep (.skip (.skip .nil)))))
/-! ### columns_from -/
abbrev K_columns_from_L1 (square' : Sq) (pressed' : (List Int)) (s' : ((List Int) × (List Int) × Int)) : Ks := [some (eSq square'), some ((eT eI) pressed'), none, some ((eL eI) s'.1), some ((eL eI) s'.2.1), some (eI s'.2.2), none]
abbrev K_columns_from_L2 (square' : Sq) (pressed' : (List Int)) (at' : Int) (s' : ((List Int) × (List Int))) : Ks := [some (eSq square'), some ((eT eI) pressed'), none, some ((eL eI) s'.1), some ((eL eI) s'.2), some (eI at'), none]
def T_columns_from_L3_1 (square' : Sq) (pressed' : (List Int)) (rows' : (List Int)) (columns' : (List Int)) (at' : Int) (key' : Int) : ((List Int) × (List Int)) := ((T_with_more rows' (T_back_rows square' pressed' (ixE square'.1 key').2)), columns')
def P_columns_from_L3_1 (square' : Sq) (pressed' : (List Int)) (rows' : (List Int)) (columns' : (List Int)) (at' : Int) (key' : Int) : Prop := ((((((InIx square'.1 key'))) ∧ (P_back_rows square' pressed' (ixE square'.1 key').2))) ∧ (P_with_more rows' (T_back_rows square' pressed' (ixE square'.1 key').2)))
theorem x_columns_from_L3_1 (square' : Sq) (pressed' : (List Int)) (rows' : (List Int)) (columns' : (List Int)) (at' : Int) (key' : Int) (h : P_columns_from_L3_1 square' pressed' rows' columns' at' key') : Tx [some (eSq square'), some ((eT eI) pressed'), none, some ((eL eI) rows'), some ((eL eI) columns'), some (eI at'), some (eI key')] G_columns_from_L3_1 (Rl.nx ((K_columns_from_L2 square' pressed' at') (T_columns_from_L3_1 square' pressed' rows' columns' at' key'))) :=
  (ex_sub (ex_set (ev_nop (ea_cons (ev_var rfl) (ea_cons (ev_nop (ea_cons (ev_var rfl) (ea_cons (ev_var rfl) (ea_cons (ev_bin (ev_bin (ev_bin (ev_var rfl) ev_cst t_idxP0) (ev_var rfl) (t_idxT (e := (eP eI eI)) (And.left (And.left h)))) ev_cst t_idxP1) ea_nil))) (f_back_rows square' pressed' (ixE square'.1 key').2 (And.right (And.left h)))) ea_nil)) (f_with_more rows' (T_back_rows square' pressed' (ixE square'.1 key').2) (And.right h)))) (.keep (.keep (.skip (.keep (.keep (.keep (.skip .nil))))))))
def T_columns_from_L3 (square' : Sq) (pressed' : (List Int)) (rows' : (List Int)) (columns' : (List Int)) (at' : Int) (key' : Int) : ((List Int) × (List Int)) := (T_columns_from_L3_1 square' pressed' rows' (columns' ++ [(ixE square'.1 key').2]) at' key')
def P_columns_from_L3 (square' : Sq) (pressed' : (List Int)) (rows' : (List Int)) (columns' : (List Int)) (at' : Int) (key' : Int) : Prop := (((InIx square'.1 key')) ∧ (columns'.length < LIM)) ∧ (P_columns_from_L3_1 square' pressed' rows' (columns' ++ [(ixE square'.1 key').2]) at' key')
theorem x_columns_from_L3 (square' : Sq) (pressed' : (List Int)) (rows' : (List Int)) (columns' : (List Int)) (at' : Int) (key' : Int) (h : P_columns_from_L3 square' pressed' rows' columns' at' key') : Tx [some (eSq square'), some ((eT eI) pressed'), none, some ((eL eI) rows'), some ((eL eI) columns'), some (eI at'), some (eI key')] G_columns_from_L3 (Rl.nx ((K_columns_from_L2 square' pressed' at') (T_columns_from_L3 square' pressed' rows' columns' at' key'))) :=
  (ex_sq (ex_app (e := eI) (x := (ixE square'.1 key').2) rfl (ev_bin (ev_bin (ev_bin (ev_var rfl) ev_cst t_idxP0) (ev_var rfl) (t_idxT (e := (eP eI eI)) (And.left (And.left h)))) ev_cst t_idxP1) (And.right (And.left h))) (ex_pre (x_columns_from_L3_1 square' pressed' rows' (columns' ++ [(ixE square'.1 key').2]) at' key' (And.right h)) (.keep (.keep (.skip (.keep (.keep (.keep (.keep .nil)))))))))
def T_columns_from_L2 (square' : Sq) (pressed' : (List Int)) (rows' : (List Int)) (columns' : (List Int)) (at' : Int) (key' : Int) : ((List Int) × (List Int)) := (if ((decide ((ixE square'.1 key').1 = (ixE rows' at'))) && (!(inE (ixE square'.1 key').2 columns'))) then (T_columns_from_L3 square' pressed' rows' columns' at' key') else (rows', columns'))
def P_columns_from_L2 (square' : Sq) (pressed' : (List Int)) (rows' : (List Int)) (columns' : (List Int)) (at' : Int) (key' : Int) : Prop := ((((InIx square'.1 key')) ∧ ((InIx rows' at'))) ∧ ((decide ((ixE square'.1 key').1 = (ixE rows' at'))) = true → (InIx square'.1 key'))) ∧ (((decide ((ixE square'.1 key').1 = (ixE rows' at'))) && (!(inE (ixE square'.1 key').2 columns'))) = true → P_columns_from_L3 square' pressed' rows' columns' at' key')
theorem x_columns_from_L2 (square' : Sq) (pressed' : (List Int)) (rows' : (List Int)) (columns' : (List Int)) (at' : Int) (key' : Int) (h : P_columns_from_L2 square' pressed' rows' columns' at' key') : Tx [some (eSq square'), some ((eT eI) pressed'), none, some ((eL eI) rows'), some ((eL eI) columns'), some (eI at'), some (eI key')] G_columns_from_L2 (Rl.nx ((K_columns_from_L2 square' pressed' at') (T_columns_from_L2 square' pressed' rows' columns' at' key'))) :=
  (ex_if (fun z => Rl.nx ((K_columns_from_L2 square' pressed' at') z)) (ev_andt (ev_tst (ev_bin (ev_bin (ev_bin (ev_bin (ev_var rfl) ev_cst t_idxP0) (ev_var rfl) (t_idxT (e := (eP eI eI)) (And.left (And.left (And.left h))))) ev_cst t_idxP0) (ev_bin (ev_var rfl) (ev_var rfl) (t_idxL (e := eI) (And.right (And.left (And.left h))))) (t_eq (e := eI) okI ((ixE square'.1 key').1) (ixE rows' at')))) fun u42 => (ev_tst (ev_ninO (e := eI) okI (ev_bin (ev_bin (ev_bin (ev_var rfl) ev_cst t_idxP0) (ev_var rfl) (t_idxT (e := (eP eI eI)) ((And.right (And.left h)) u42))) ev_cst t_idxP1) rfl))) (fun hb => (ex_pre (x_columns_from_L3 square' pressed' rows' columns' at' key' ((And.right h) hb)) (.keep (.keep (.skip (.keep (.keep (.keep (.keep .nil))))))))) (fun hb => (ex_sub ex_skp (.keep (.keep (.skip (.keep (.keep (.keep (.skip .nil))))))))))
def T_columns_from_L1_1 (square' : Sq) (pressed' : (List Int)) (rows' : (List Int)) (columns' : (List Int)) (at' : Int) : ((List Int) × (List Int) × Int) := (rows', columns', (at' + (1 : Int)))
theorem x_columns_from_L1_1 (square' : Sq) (pressed' : (List Int)) (rows' : (List Int)) (columns' : (List Int)) (at' : Int) : Tx [some (eSq square'), some ((eT eI) pressed'), none, some ((eL eI) rows'), some ((eL eI) columns'), some (eI at'), none] G_columns_from_L1_1 (Rl.nx ((K_columns_from_L1 square' pressed') (T_columns_from_L1_1 square' pressed' rows' columns' at'))) :=
  (ex_sub (ex_set (ev_bin (ev_var rfl) ev_cst (add_int _ _))) (.keep (.keep (.skip (.keep (.keep (.keep (.skip .nil))))))))
def T_columns_from_L1 (square' : Sq) (pressed' : (List Int)) (rows' : (List Int)) (columns' : (List Int)) (at' : Int) : ((List Int) × (List Int) × Int) := (T_columns_from_L1_1 square' pressed' (pressed'.foldl (fun (s' : ((List Int) × (List Int))) (key' : Int) => T_columns_from_L2 square' pressed' s'.1 s'.2 at' key') (rows', columns')).1 (pressed'.foldl (fun (s' : ((List Int) × (List Int))) (key' : Int) => T_columns_from_L2 square' pressed' s'.1 s'.2 at' key') (rows', columns')).2 at')
def P_columns_from_L1 (square' : Sq) (pressed' : (List Int)) (rows' : (List Int)) (columns' : (List Int)) (at' : Int) : Prop := ((∃ I : Nat → ((List Int) × (List Int)) → Prop, I 0 (rows', columns') ∧ ∀ (i' : Nat) (key' : Int), pressed'[i']? = some key' → ∀ s', I i' s' → P_columns_from_L2 square' pressed' s'.1 s'.2 at' key' ∧ I (i' + 1) ((fun (s' : ((List Int) × (List Int))) (key' : Int) => T_columns_from_L2 square' pressed' s'.1 s'.2 at' key') s' key')))
theorem x_columns_from_L1 (square' : Sq) (pressed' : (List Int)) (rows' : (List Int)) (columns' : (List Int)) (at' : Int) (h : P_columns_from_L1 square' pressed' rows' columns' at') : Tx [some (eSq square'), some ((eT eI) pressed'), none, some ((eL eI) rows'), some ((eL eI) columns'), some (eI at'), none] G_columns_from_L1 (Rl.nx ((K_columns_from_L1 square' pressed') (T_columns_from_L1 square' pressed' rows' columns' at'))) :=
  (ex_sq (let ⟨I, h0, hb⟩ := h; ex_fold (e := eI) (kh := (K_columns_from_L2 square' pressed' at')) (st := (fun (s' : ((List Int) × (List Int))) (key' : Int) => T_columns_from_L2 square' pressed' s'.1 s'.2 at' key')) (I := I) (it_itemsT (ev_var rfl)) (.keep (.keep (.skip (.keep (.keep (.keep (.skip .nil))))))) h0 fun i' key' hx s' hs => ⟨_, tg1, ex_pre (x_columns_from_L2 square' pressed' s'.1 s'.2 at' key' (hb i' key' hx s' hs).1) (.keep (.keep (.skip (.keep (.keep (.keep (.keep .nil))))))), (hb i' key' hx s' hs).2⟩) (ex_pre (x_columns_from_L1_1 square' pressed' (pressed'.foldl (fun (s' : ((List Int) × (List Int))) (key' : Int) => T_columns_from_L2 square' pressed' s'.1 s'.2 at' key') (rows', columns')).1 (pressed'.foldl (fun (s' : ((List Int) × (List Int))) (key' : Int) => T_columns_from_L2 square' pressed' s'.1 s'.2 at' key') (rows', columns')).2 at') (.keep (.keep (.skip (.keep (.keep (.keep (.skip .nil)))))))))
def T_columns_from_4 (columns' : (List Int)) : (List Int) := (sortE (ltE eI) columns')
theorem x_columns_from_4 (columns' : (List Int)) : Tx [none, none, none, none, some ((eL eI) columns'), none, none] G_columns_from_4 (Rl.rt ((eL eI) (T_columns_from_4 columns'))) :=
  (ex_nodic rfl (ex_ret (ev_nop (ea_cons (ev_var rfl) ea_nil) (t_sortL (e := eI) okI cmI _))))
def T_columns_from_3 (square' : Sq) (pressed' : (List Int)) (rows' : (List Int)) (columns' : (List Int)) (at' : Int) : (List Int) := (T_columns_from_4 (whl (fun (s' : ((List Int) × (List Int) × Int)) => (decide (s'.2.2 < (s'.1.length : Int)))) (fun (s' : ((List Int) × (List Int) × Int)) => T_columns_from_L1 square' pressed' s'.1 s'.2.1 s'.2.2) FUEL (rows', columns', at')).2.1)
def P_columns_from_3 (square' : Sq) (pressed' : (List Int)) (rows' : (List Int)) (columns' : (List Int)) (at' : Int) : Prop := ((WhlOk (fun (s' : ((List Int) × (List Int) × Int)) => (decide (s'.2.2 < (s'.1.length : Int)))) (fun (s' : ((List Int) × (List Int) × Int)) => T_columns_from_L1 square' pressed' s'.1 s'.2.1 s'.2.2) FUEL (rows', columns', at')) ∧ (∃ I : ((List Int) × (List Int) × Int) → Prop, I (rows', columns', at') ∧ ∀ s', I s' → ((decide (s'.2.2 < (s'.1.length : Int))) = true → P_columns_from_L1 square' pressed' s'.1 s'.2.1 s'.2.2) ∧ ((decide (s'.2.2 < (s'.1.length : Int))) = true → I ((fun (s' : ((List Int) × (List Int) × Int)) => T_columns_from_L1 square' pressed' s'.1 s'.2.1 s'.2.2) s'))))
theorem x_columns_from_3 (square' : Sq) (pressed' : (List Int)) (rows' : (List Int)) (columns' : (List Int)) (at' : Int) (h : P_columns_from_3 square' pressed' rows' columns' at') : Tx [some (eSq square'), some ((eT eI) pressed'), none, some ((eL eI) rows'), some ((eL eI) columns'), some (eI at'), none] G_columns_from_3 (Rl.rt ((eL eI) (T_columns_from_3 square' pressed' rows' columns' at'))) :=
  (ex_sq (let ⟨I, h0, hb⟩ := (And.right h); ex_while (kh := (K_columns_from_L1 square' pressed')) (c := (fun (s' : ((List Int) × (List Int) × Int)) => (decide (s'.2.2 < (s'.1.length : Int))))) (st := (fun (s' : ((List Int) × (List Int) × Int)) => T_columns_from_L1 square' pressed' s'.1 s'.2.1 s'.2.2)) (I := I) (.keep (.keep (.skip (.keep (.keep (.keep (.skip .nil))))))) h0 (fun s' hs => ⟨(ev_tst (ev_bin (ev_var rfl) (ev_nop (ea_cons (ev_var rfl) ea_nil) (t_len _ eI)) (lt_int _ _))), fun hq => ⟨ex_pre (x_columns_from_L1 square' pressed' s'.1 s'.2.1 s'.2.2 ((And.left (hb s' hs)) hq)) (.keep (.keep (.skip (.keep (.keep (.keep (.skip .nil))))))), (And.right (hb s' hs)) hq⟩⟩) (And.left h)) (ex_pre (x_columns_from_4 (whl (fun (s' : ((List Int) × (List Int) × Int)) => (decide (s'.2.2 < (s'.1.length : Int)))) (fun (s' : ((List Int) × (List Int) × Int)) => T_columns_from_L1 square' pressed' s'.1 s'.2.1 s'.2.2) FUEL (rows', columns', at')).2.1) (.skip (.skip (.skip (.skip (.keep (.skip (.skip .nil)))))))))
def T_columns_from_2 (square' : Sq) (pressed' : (List Int)) (rows' : (List Int)) (columns' : (List Int)) : (List Int) := (T_columns_from_3 square' pressed' rows' columns' (0 : Int))
def P_columns_from_2 (square' : Sq) (pressed' : (List Int)) (rows' : (List Int)) (columns' : (List Int)) : Prop := (P_columns_from_3 square' pressed' rows' columns' (0 : Int))
theorem x_columns_from_2 (square' : Sq) (pressed' : (List Int)) (rows' : (List Int)) (columns' : (List Int)) (h : P_columns_from_2 square' pressed' rows' columns') : Tx [some (eSq square'), some ((eT eI) pressed'), none, some ((eL eI) rows'), some ((eL eI) columns'), none, none] G_columns_from_2 (Rl.rt ((eL eI) (T_columns_from_2 square' pressed' rows' columns'))) :=
  (ex_sq (ex_set ev_cst) (ex_pre (x_columns_from_3 square' pressed' rows' columns' (0 : Int) h) (.keep (.keep (.skip (.keep (.keep (.keep (.skip .nil)))))))))
def T_columns_from_1 (square' : Sq) (pressed' : (List Int)) (rows' : (List Int)) : (List Int) := (T_columns_from_2 square' pressed' rows' ([] : List Int))
def P_columns_from_1 (square' : Sq) (pressed' : (List Int)) (rows' : (List Int)) : Prop := (P_columns_from_2 square' pressed' rows' ([] : List Int))
theorem x_columns_from_1 (square' : Sq) (pressed' : (List Int)) (rows' : (List Int)) (h : P_columns_from_1 square' pressed' rows') : Tx [some (eSq square'), some ((eT eI) pressed'), none, some ((eL eI) rows'), none, none, none] G_columns_from_1 (Rl.rt ((eL eI) (T_columns_from_1 square' pressed' rows'))) :=
  (ex_sq (ex_setO (ev_lim ea_nil lim_nil)) (ex_pre (x_columns_from_2 square' pressed' rows' ([] : List Int) h) (.keep (.keep (.skip (.keep (.keep (.skip (.skip .nil)))))))))
def T_columns_from (square' : Sq) (pressed' : (List Int)) (row' : Int) : (List Int) := (T_columns_from_1 square' pressed' [row'])
def P_columns_from (square' : Sq) (pressed' : (List Int)) (row' : Int) : Prop := (P_columns_from_1 square' pressed' [row'])
theorem x_columns_from (square' : Sq) (pressed' : (List Int)) (row' : Int) (h : P_columns_from square' pressed' row') : Tx [some (eSq square'), some ((eT eI) pressed'), some (eI row'), none, none, none, none] G_columns_from (Rl.rt ((eL eI) (T_columns_from square' pressed' row'))) :=
  (ex_sq (ex_set (ev_lstF (ev_lim (ea_cons (ev_var rfl) ea_nil) (lim_small (Nat.le_of_ble_eq_true rfl))))) (ex_pre (x_columns_from_1 square' pressed' [row'] h) (.keep (.keep (.skip (.keep (.skip (.skip (.skip .nil)))))))))
theorem f_columns_from (square' : Sq) (pressed' : (List Int)) (row' : Int) (h : P_columns_from square' pressed' row') : F_columns_from [eSq square', (eT eI) pressed', eI row'] = pure ((eL eI) (T_columns_from square' pressed' row')) :=
  fn_of rfl rfl (ex_pre (x_columns_from square' pressed' row' h) (.keep (.keep (.keep (.skip (.skip (.skip (.skip .nil))))))))
/-! ### keys_seen -/
abbrev K_keys_seen_L1 (square' : Sq) (pressed' : (List Int)) (s' : (List Int)) : Ks := [some (eSq square'), some ((eT eI) pressed'), some ((eL eI) s'), none, none]
def T_keys_seen_L2 (square' : Sq) (pressed' : (List Int)) (found' : (List Int)) (key' : Int) : (List Int) := (found' ++ [key'])
def P_keys_seen_L2 (square' : Sq) (pressed' : (List Int)) (found' : (List Int)) (key' : Int) : Prop := ((found'.length < LIM))
theorem x_keys_seen_L2 (square' : Sq) (pressed' : (List Int)) (found' : (List Int)) (key' : Int) (h : P_keys_seen_L2 square' pressed' found' key') : Tx [some (eSq square'), some ((eT eI) pressed'), some ((eL eI) found'), some (eI key'), none] G_keys_seen_L2 (Rl.nx ((K_keys_seen_L1 square' pressed') (T_keys_seen_L2 square' pressed' found' key'))) :=
  (ex_sub (ex_app (e := eI) (x := key') rfl (ev_var rfl) h) (.keep (.keep (.keep (.skip (.skip .nil))))))
def T_keys_seen_L1 (square' : Sq) (pressed' : (List Int)) (found' : (List Int)) (key' : Int) (spot' : (Int × Int)) : (List Int) := (if (inE spot'.2 (T_columns_from square' pressed' spot'.1)) then (T_keys_seen_L2 square' pressed' found' key') else found')
def P_keys_seen_L1 (square' : Sq) (pressed' : (List Int)) (found' : (List Int)) (key' : Int) (spot' : (Int × Int)) : Prop := (((P_columns_from square' pressed' spot'.1))) ∧ ((inE spot'.2 (T_columns_from square' pressed' spot'.1)) = true → P_keys_seen_L2 square' pressed' found' key')
theorem x_keys_seen_L1 (square' : Sq) (pressed' : (List Int)) (found' : (List Int)) (key' : Int) (spot' : (Int × Int)) (h : P_keys_seen_L1 square' pressed' found' key' spot') : Tx [some (eSq square'), some ((eT eI) pressed'), some ((eL eI) found'), some (eI key'), some ((eP eI eI) spot')] G_keys_seen_L1 (Rl.nx ((K_keys_seen_L1 square' pressed') (T_keys_seen_L1 square' pressed' found' key' spot'))) :=
  (ex_if (fun z => Rl.nx ((K_keys_seen_L1 square' pressed') z)) (ev_tst (ev_bin (ev_bin (ev_var rfl) ev_cst t_idxP1) (ev_nop (ea_cons (ev_var rfl) (ea_cons (ev_var rfl) (ea_cons (ev_bin (ev_var rfl) ev_cst t_idxP0) ea_nil))) (f_columns_from square' pressed' spot'.1 (And.left h))) (t_inL (e := eI) okI spot'.2 (T_columns_from square' pressed' spot'.1)))) (fun hb => (ex_pre (x_keys_seen_L2 square' pressed' found' key' ((And.right h) hb)) (.keep (.keep (.keep (.keep (.skip .nil))))))) (fun hb => (ex_sub ex_skp (.keep (.keep (.keep (.skip (.skip .nil))))))))
def T_keys_seen_2 (found' : (List Int)) : (List Int) := found'
theorem x_keys_seen_2 (found' : (List Int)) : Tx [none, none, some ((eL eI) found'), none, none] G_keys_seen_2 (Rl.rt ((eL eI) (T_keys_seen_2 found'))) :=
  (ex_nodic rfl (ex_ret (ev_var rfl)))
def T_keys_seen_1 (square' : Sq) (pressed' : (List Int)) (found' : (List Int)) : (List Int) := (T_keys_seen_2 ((enE square'.1).foldl (fun (s' : (List Int)) (z_key_spot' : (Int × (Int × Int))) => T_keys_seen_L1 square' pressed' s' z_key_spot'.1 z_key_spot'.2) found'))
def P_keys_seen_1 (square' : Sq) (pressed' : (List Int)) (found' : (List Int)) : Prop := ((∃ I : Nat → (List Int) → Prop, I 0 found' ∧ ∀ (i' : Nat) (z_key_spot' : (Int × (Int × Int))), (enE square'.1)[i']? = some z_key_spot' → ∀ s', I i' s' → P_keys_seen_L1 square' pressed' s' z_key_spot'.1 z_key_spot'.2 ∧ I (i' + 1) ((fun (s' : (List Int)) (z_key_spot' : (Int × (Int × Int))) => T_keys_seen_L1 square' pressed' s' z_key_spot'.1 z_key_spot'.2) s' z_key_spot')))
theorem x_keys_seen_1 (square' : Sq) (pressed' : (List Int)) (found' : (List Int)) (h : P_keys_seen_1 square' pressed' found') : Tx [some (eSq square'), some ((eT eI) pressed'), some ((eL eI) found'), none, none] G_keys_seen_1 (Rl.rt ((eL eI) (T_keys_seen_1 square' pressed' found'))) :=
  (ex_sq (let ⟨I, h0, hb⟩ := h; ex_fold (e := (eP eI (eP eI eI))) (kh := (K_keys_seen_L1 square' pressed')) (st := (fun (s' : (List Int)) (z_key_spot' : (Int × (Int × Int))) => T_keys_seen_L1 square' pressed' s' z_key_spot'.1 z_key_spot'.2)) (I := I) (it_enumT (e := (eP eI eI)) (ea_cons (ev_bin (ev_var rfl) ev_cst t_idxP0) ea_nil)) (.keep (.keep (.keep (.skip (.skip .nil))))) h0 fun i' z_key_spot' hx s' hs => ⟨_, tg2, ex_pre (x_keys_seen_L1 square' pressed' s' z_key_spot'.1 z_key_spot'.2 (hb i' z_key_spot' hx s' hs).1) (.keep (.keep (.keep (.keep (.keep .nil))))), (hb i' z_key_spot' hx s' hs).2⟩) (ex_pre (x_keys_seen_2 ((enE square'.1).foldl (fun (s' : (List Int)) (z_key_spot' : (Int × (Int × Int))) => T_keys_seen_L1 square' pressed' s' z_key_spot'.1 z_key_spot'.2) found')) (.skip (.skip (.keep (.skip (.skip .nil)))))))
def T_keys_seen (square' : Sq) (pressed' : (List Int)) : (List Int) := (T_keys_seen_1 square' pressed' ([] : List Int))
def P_keys_seen (square' : Sq) (pressed' : (List Int)) : Prop := (P_keys_seen_1 square' pressed' ([] : List Int))
theorem x_keys_seen (square' : Sq) (pressed' : (List Int)) (h : P_keys_seen square' pressed') : Tx [some (eSq square'), some ((eT eI) pressed'), none, none, none] G_keys_seen (Rl.rt ((eL eI) (T_keys_seen square' pressed'))) :=
  (ex_sq (ex_setO (ev_lim ea_nil lim_nil)) (ex_pre (x_keys_seen_1 square' pressed' ([] : List Int) h) (.keep (.keep (.keep (.skip (.skip .nil)))))))
theorem f_keys_seen (square' : Sq) (pressed' : (List Int)) (h : P_keys_seen square' pressed') : F_keys_seen [eSq square', (eT eI) pressed'] = pure ((eL eI) (T_keys_seen square' pressed')) :=
  fn_of rfl rfl (ex_pre (x_keys_seen square' pressed' h) (.keep (.keep (.skip (.skip (.skip .nil))))))
/-! ### seen -/
def T_seen_2 (square' : Sq) (pressed' : (List Int)) : (List Int) := (T_keys_seen square' pressed')
def P_seen_2 (square' : Sq) (pressed' : (List Int)) : Prop := (P_keys_seen square' pressed')
theorem x_seen_2 (square' : Sq) (pressed' : (List Int)) (h : P_seen_2 square' pressed') : Tx [some (eSq square'), some ((eT eI) pressed')] G_seen_2 (Rl.rt ((eL eI) (T_seen_2 square' pressed'))) :=
  (ex_ret (ev_nop (ea_cons (ev_var rfl) (ea_cons (ev_var rfl) ea_nil)) (f_keys_seen square' pressed' h)))
def T_seen_1 (square' : Sq) (pressed' : (List Int)) : (List Int) := (T_seen_2 square' pressed')
def P_seen_1 (square' : Sq) (pressed' : (List Int)) : Prop := ((PKeys square' pressed')) ∧ (P_seen_2 square' pressed')
theorem x_seen_1 (square' : Sq) (pressed' : (List Int)) (h : P_seen_1 square' pressed') : Tx [some (eSq square'), some ((eT eI) pressed')] G_seen_1 (Rl.rt ((eL eI) (T_seen_1 square' pressed'))) :=
  (ex_sq (ex_exp (ev_nop (ea_cons (ev_var rfl) (ea_cons (ev_var rfl) ea_nil)) (t_need_keys square' pressed' (And.left h)))) (ex_pre (x_seen_2 square' pressed' (And.right h)) (.keep (.keep .nil))))
def T_seen (square' : Sq) (pressed' : (List Int)) : (List Int) := (T_seen_1 square' pressed')
def P_seen (square' : Sq) (pressed' : (List Int)) : Prop := ((PSq square')) ∧ (P_seen_1 square' pressed')
theorem x_seen (square' : Sq) (pressed' : (List Int)) (h : P_seen square' pressed') : Tx [some (eSq square'), some ((eT eI) pressed')] G_seen (Rl.rt ((eL eI) (T_seen square' pressed'))) :=
  (ex_sq (ex_exp (ev_nop (ea_cons (ev_var rfl) ea_nil) (t_need_square square' (And.left h)))) (ex_pre (x_seen_1 square' pressed' (And.right h)) (.keep (.keep .nil))))
theorem f_seen (square' : Sq) (pressed' : (List Int)) (h : P_seen square' pressed') : F_seen [eSq square', (eT eI) pressed'] = pure ((eL eI) (T_seen square' pressed')) :=
  fn_of rfl rfl (ex_pre (x_seen square' pressed' h) (.keep (.keep .nil)))
/-! ### false_keys -/
def T_false_keys_2 (square' : Sq) (pressed' : (List Int)) : (List Int) := ((T_keys_seen square' pressed').filter (fun (key' : Int) => (!(inE key' pressed'))))
def P_false_keys_2 (square' : Sq) (pressed' : (List Int)) : Prop := ((P_keys_seen square' pressed')) ∧ ((T_keys_seen square' pressed').length ≤ LIM)
theorem x_false_keys_2 (square' : Sq) (pressed' : (List Int)) (h : P_false_keys_2 square' pressed') : Tx [some (eSq square'), some ((eT eI) pressed'), none] G_false_keys_2 (Rl.rt ((eL eI) (T_false_keys_2 square' pressed'))) :=
  (ex_ret (ev_lstF (ev_compI (e := eI) (fun (key' : Int) => (!(inE key' pressed'))) _ (it_itemsL (ev_nop (ea_cons (ev_var rfl) (ea_cons (ev_var rfl) ea_nil)) (f_keys_seen square' pressed' (And.left h)))) (And.right h) fun key' u47 => ⟨tg1, (ev_tst (ev_bin (ev_var rfl) (ev_var rfl) (t_ninT (e := eI) okI key' pressed'))), fun u48 => (ev_var rfl)⟩)))
def T_false_keys_1 (square' : Sq) (pressed' : (List Int)) : (List Int) := (T_false_keys_2 square' pressed')
def P_false_keys_1 (square' : Sq) (pressed' : (List Int)) : Prop := ((PKeys square' pressed')) ∧ (P_false_keys_2 square' pressed')
theorem x_false_keys_1 (square' : Sq) (pressed' : (List Int)) (h : P_false_keys_1 square' pressed') : Tx [some (eSq square'), some ((eT eI) pressed'), none] G_false_keys_1 (Rl.rt ((eL eI) (T_false_keys_1 square' pressed'))) :=
  (ex_sq (ex_exp (ev_nop (ea_cons (ev_var rfl) (ea_cons (ev_var rfl) ea_nil)) (t_need_keys square' pressed' (And.left h)))) (ex_pre (x_false_keys_2 square' pressed' (And.right h)) (.keep (.keep (.skip .nil)))))
def T_false_keys (square' : Sq) (pressed' : (List Int)) : (List Int) := (T_false_keys_1 square' pressed')
def P_false_keys (square' : Sq) (pressed' : (List Int)) : Prop := ((PSq square')) ∧ (P_false_keys_1 square' pressed')
theorem x_false_keys (square' : Sq) (pressed' : (List Int)) (h : P_false_keys square' pressed') : Tx [some (eSq square'), some ((eT eI) pressed'), none] G_false_keys (Rl.rt ((eL eI) (T_false_keys square' pressed'))) :=
  (ex_sq (ex_exp (ev_nop (ea_cons (ev_var rfl) ea_nil) (t_need_square square' (And.left h)))) (ex_pre (x_false_keys_1 square' pressed' (And.right h)) (.keep (.keep (.skip .nil)))))
theorem f_false_keys (square' : Sq) (pressed' : (List Int)) (h : P_false_keys square' pressed') : F_false_keys [eSq square', (eT eI) pressed'] = pure ((eL eI) (T_false_keys square' pressed')) :=
  fn_of rfl rfl (ex_pre (x_false_keys square' pressed' h) (.keep (.keep (.skip .nil))))
/-! ### is_true -/
def T_is_true_2 (square' : Sq) (pressed' : (List Int)) : Bool := (decide ((T_keys_seen square' pressed') = pressed'))
def P_is_true_2 (square' : Sq) (pressed' : (List Int)) : Prop := ((P_keys_seen square' pressed'))
theorem x_is_true_2 (square' : Sq) (pressed' : (List Int)) (h : P_is_true_2 square' pressed') : Tx [some (eSq square'), some ((eT eI) pressed')] G_is_true_2 (Rl.rt (eB (T_is_true_2 square' pressed'))) :=
  (ex_ret (ev_bin (ev_nop (ea_cons (ev_var rfl) (ea_cons (ev_var rfl) ea_nil)) (f_keys_seen square' pressed' h)) (ev_nop (ea_cons (ev_var rfl) ea_nil) rfl) (t_eq (e := (eL eI)) (okL okI) (T_keys_seen square' pressed') pressed')))
def T_is_true_1 (square' : Sq) (pressed' : (List Int)) : Bool := (T_is_true_2 square' pressed')
def P_is_true_1 (square' : Sq) (pressed' : (List Int)) : Prop := ((PKeys square' pressed')) ∧ (P_is_true_2 square' pressed')
theorem x_is_true_1 (square' : Sq) (pressed' : (List Int)) (h : P_is_true_1 square' pressed') : Tx [some (eSq square'), some ((eT eI) pressed')] G_is_true_1 (Rl.rt (eB (T_is_true_1 square' pressed'))) :=
  (ex_sq (ex_exp (ev_nop (ea_cons (ev_var rfl) (ea_cons (ev_var rfl) ea_nil)) (t_need_keys square' pressed' (And.left h)))) (ex_pre (x_is_true_2 square' pressed' (And.right h)) (.keep (.keep .nil))))
def T_is_true (square' : Sq) (pressed' : (List Int)) : Bool := (T_is_true_1 square' pressed')
def P_is_true (square' : Sq) (pressed' : (List Int)) : Prop := ((PSq square')) ∧ (P_is_true_1 square' pressed')
theorem x_is_true (square' : Sq) (pressed' : (List Int)) (h : P_is_true square' pressed') : Tx [some (eSq square'), some ((eT eI) pressed')] G_is_true (Rl.rt (eB (T_is_true square' pressed'))) :=
  (ex_sq (ex_exp (ev_nop (ea_cons (ev_var rfl) ea_nil) (t_need_square square' (And.left h)))) (ex_pre (x_is_true_1 square' pressed' (And.right h)) (.keep (.keep .nil))))
theorem f_is_true (square' : Sq) (pressed' : (List Int)) (h : P_is_true square' pressed') : F_is_true [eSq square', (eT eI) pressed'] = pure (eB (T_is_true square' pressed')) :=
  fn_of rfl rfl (ex_pre (x_is_true square' pressed' h) (.keep (.keep .nil)))
/-! ### is_wish_of -/
def T_is_wish_of_1 (thing' : (List (List Int))) : Bool := (((thing'.zip (cutE thing' (some (1 : Int)) none)).map (fun (z_one_other' : ((List Int) × (List Int))) => (ltE (eT eI) z_one_other'.1 z_one_other'.2))).all id)
def P_is_wish_of_1 (thing' : (List (List Int))) : Prop := ((thing'.zip (cutE thing' (some (1 : Int)) none)).length ≤ LIM)
theorem x_is_wish_of_1 (thing' : (List (List Int))) (h : P_is_wish_of_1 thing') : Tx [none, some ((eT (eT eI)) thing'), none, none] G_is_wish_of_1 (Rl.rt (eB (T_is_wish_of_1 thing'))) :=
  (ex_ret (ev_nop (ea_cons (ev_lstF (ev_compA (e := (eP (eT eI) (eT eI))) (e' := eB) (fun (z_one_other' : ((List Int) × (List Int))) => (ltE (eT eI) z_one_other'.1 z_one_other'.2)) _ (it_zipT (e := (eT eI)) (f := (eT eI)) (ea_cons (ev_var rfl) (ea_cons (ev_slcT (e := (eT eI)) (ev_var rfl) (ev_part ev_cst) ev_nopart) ea_nil))) h fun z_one_other' u236 => ⟨tg2, (ev_bin (ev_var rfl) (ev_var rfl) (t_lt (e := (eT eI)) (cmT (n := 63) cmI okI) _ _))⟩)) ea_nil) (t_all (l := ((thing'.zip (cutE thing' (some (1 : Int)) none)).map (fun (z_one_other' : ((List Int) × (List Int))) => (ltE (eT eI) z_one_other'.1 z_one_other'.2)))))))
def T_is_wish_of (many' : Int) (thing' : (List (List Int))) : Bool := (if ((!true) || ((decide ((24 : Int) < (thing'.length : Int))) || (!((thing'.map (fun (one' : (List Int)) => (keysB many' one'))).all id)))) then false else (T_is_wish_of_1 thing'))
def P_is_wish_of (many' : Int) (thing' : (List (List Int))) : Prop := (((!true) = false → ((decide ((24 : Int) < (thing'.length : Int))) = false → (thing'.length ≤ LIM) ∧ (∀ one' ∈ thing', (PLim many' one'))))) ∧ (((!true) || ((decide ((24 : Int) < (thing'.length : Int))) || (!((thing'.map (fun (one' : (List Int)) => (keysB many' one'))).all id)))) = false → P_is_wish_of_1 thing')
theorem x_is_wish_of (many' : Int) (thing' : (List (List Int))) (h : P_is_wish_of many' thing') : Tx [some (eI many'), some ((eT (eT eI)) thing'), none, none] G_is_wish_of (Rl.rt (eB (T_is_wish_of many' thing'))) :=
  (ex_guard (fun z => Rl.rt (eB z)) (ev_ort (ev_nott (ev_tst (ev_un (ev_var rfl) (isi_t (by decide) rfl)))) fun u235 => (ev_ort (ev_tst (ev_bin (ev_nop (ea_cons (ev_var rfl) ea_nil) (t_lenT _ (eT eI))) ev_cst (gt_int _ _))) fun u234 => (ev_nott (ev_tst (ev_nop (ea_cons (ev_lstF (ev_compA (e := (eT eI)) (e' := eB) (fun (one' : (List Int)) => (keysB many' one')) _ (it_itemsT (ev_var rfl)) (And.left (((And.left h) u235) u234)) fun one' u232 => ⟨tg1, (ev_nop (ea_cons (ev_var rfl) (ea_cons (ev_var rfl) ea_nil)) (t_are_keys_of many' one' ((And.right (((And.left h) u235) u234)) one' u232)))⟩)) ea_nil) (t_all (l := (thing'.map (fun (one' : (List Int)) => (keysB many' one')))))))))) (fun hb => (ex_ret ev_cst)) rfl (fun hb => (ex_pre (x_is_wish_of_1 thing' ((And.right h) hb)) (.skip (.keep (.skip (.skip .nil)))))))
theorem f_is_wish_of (many' : Int) (thing' : (List (List Int))) (h : P_is_wish_of many' thing') : F_is_wish_of [eI many', (eT (eT eI)) thing'] = pure (eB (T_is_wish_of many' thing')) :=
  fn_of rfl rfl (ex_pre (x_is_wish_of many' thing' h) (.keep (.keep (.skip (.skip .nil)))))
/-! ### need_many -/
abbrev K_need_many (_ : Unit) : Ks := [none]
def T_need_many (many' : Int) : Unit := ()
def P_need_many (many' : Int) : Prop := ((!(isNum many' (1 : Int) (6 : Int))) = false)
theorem x_need_many (many' : Int) (h : P_need_many many') : Tx [some (eI many')] G_need_many (Rl.nx (K_need_many (T_need_many many'))) :=
  (ex_sub (ex_never1 (ev_nott (ev_tst (ev_nop (ea_cons (ev_var rfl) (ea_cons ev_cst (ea_cons ev_cst ea_nil))) (t_is_number many' (1 : Int) (6 : Int))))) h) (.skip .nil))
theorem f_need_many (many' : Int) (h : P_need_many many') : F_need_many [eI many'] = pure D.non :=
  fn_nx rfl rfl (ex_pre (x_need_many many' h) (.keep .nil))
/-! ### is_wish -/
def T_is_wish_1 (many' : Int) (thing' : (List (List Int))) : Bool := (T_is_wish_of many' thing')
def P_is_wish_1 (many' : Int) (thing' : (List (List Int))) : Prop := (P_is_wish_of many' thing')
theorem x_is_wish_1 (many' : Int) (thing' : (List (List Int))) (h : P_is_wish_1 many' thing') : Tx [some (eI many'), some ((eT (eT eI)) thing')] G_is_wish_1 (Rl.rt (eB (T_is_wish_1 many' thing'))) :=
  (ex_ret (ev_nop (ea_cons (ev_var rfl) (ea_cons (ev_var rfl) ea_nil)) (f_is_wish_of many' thing' h)))
def T_is_wish (many' : Int) (thing' : (List (List Int))) : Bool := (T_is_wish_1 many' thing')
def P_is_wish (many' : Int) (thing' : (List (List Int))) : Prop := ((P_need_many many')) ∧ (P_is_wish_1 many' thing')
theorem x_is_wish (many' : Int) (thing' : (List (List Int))) (h : P_is_wish many' thing') : Tx [some (eI many'), some ((eT (eT eI)) thing')] G_is_wish (Rl.rt (eB (T_is_wish many' thing'))) :=
  (ex_sq (ex_exp (ev_nop (ea_cons (ev_var rfl) ea_nil) (f_need_many many' (And.left h)))) (ex_pre (x_is_wish_1 many' thing' (And.right h)) (.keep (.keep .nil))))
theorem f_is_wish (many' : Int) (thing' : (List (List Int))) (h : P_is_wish many' thing') : F_is_wish [eI many', (eT (eT eI)) thing'] = pure (eB (T_is_wish many' thing')) :=
  fn_of rfl rfl (ex_pre (x_is_wish many' thing' h) (.keep (.keep .nil)))
/-! ### need_wish -/
abbrev K_need_wish (_ : Unit) : Ks := [none, none]
def T_need_wish (many' : Int) (wish' : (List (List Int))) : Unit := ()
def P_need_wish (many' : Int) (wish' : (List (List Int))) : Prop := ((P_is_wish_of many' wish')) ∧ ((!(T_is_wish_of many' wish')) = false)
theorem x_need_wish (many' : Int) (wish' : (List (List Int))) (h : P_need_wish many' wish') : Tx [some (eI many'), some ((eT (eT eI)) wish')] G_need_wish (Rl.nx (K_need_wish (T_need_wish many' wish'))) :=
  (ex_sub (ex_never1 (ev_nott (ev_tst (ev_nop (ea_cons (ev_var rfl) (ea_cons (ev_var rfl) ea_nil)) (f_is_wish_of many' wish' (And.left h))))) (And.right h)) (.skip (.skip .nil)))
theorem f_need_wish (many' : Int) (wish' : (List (List Int))) (h : P_need_wish many' wish') : F_need_wish [eI many', (eT (eT eI)) wish'] = pure D.non :=
  fn_nx rfl rfl (ex_pre (x_need_wish many' wish' h) (.keep (.keep .nil)))
/-! ### serves -/
def T_serves (square' : Sq) (wish' : (List (List Int))) : Bool := ((wish'.map (fun (one' : (List Int)) => (decide ((T_keys_seen square' one') = one')))).all id)
def P_serves (square' : Sq) (wish' : (List (List Int))) : Prop := (wish'.length ≤ LIM) ∧ (∀ one' ∈ wish', ((P_keys_seen square' one')))
theorem x_serves (square' : Sq) (wish' : (List (List Int))) (h : P_serves square' wish') : Tx [some (eSq square'), some ((eT (eT eI)) wish'), none] G_serves (Rl.rt (eB (T_serves square' wish'))) :=
  (ex_ret (ev_nop (ea_cons (ev_lstF (ev_compA (e := (eT eI)) (e' := eB) (fun (one' : (List Int)) => (decide ((T_keys_seen square' one') = one'))) _ (it_itemsT (ev_var rfl)) (And.left h) fun one' u242 => ⟨tg1, (ev_bin (ev_nop (ea_cons (ev_var rfl) (ea_cons (ev_var rfl) ea_nil)) (f_keys_seen square' one' ((And.right h) one' u242))) (ev_nop (ea_cons (ev_var rfl) ea_nil) rfl) (t_eq (e := (eL eI)) (okL okI) (T_keys_seen square' one') one'))⟩)) ea_nil) (t_all (l := (wish'.map (fun (one' : (List Int)) => (decide ((T_keys_seen square' one') = one'))))))))
theorem f_serves (square' : Sq) (wish' : (List (List Int))) (h : P_serves square' wish') : F_serves [eSq square', (eT (eT eI)) wish'] = pure (eB (T_serves square' wish')) :=
  fn_of rfl rfl (ex_pre (x_serves square' wish' h) (.keep (.keep (.skip .nil))))
/-! ### serves -/
def T_serves__2 (square' : Sq) (wish' : (List (List Int))) : Bool := ((wish'.map (fun (one' : (List Int)) => (decide ((T_keys_seen square' one') = one')))).all id)
def P_serves__2 (square' : Sq) (wish' : (List (List Int))) : Prop := (wish'.length ≤ LIM) ∧ (∀ one' ∈ wish', ((P_keys_seen square' one')))
theorem x_serves__2 (square' : Sq) (wish' : (List (List Int))) (h : P_serves__2 square' wish') : Tx [some (eSq square'), some ((eL (eT eI)) wish'), none] G_serves (Rl.rt (eB (T_serves__2 square' wish'))) :=
  (ex_ret (ev_nop (ea_cons (ev_lstF (ev_compA (e := (eT eI)) (e' := eB) (fun (one' : (List Int)) => (decide ((T_keys_seen square' one') = one'))) _ (it_itemsL (ev_var rfl)) (And.left h) fun one' u248 => ⟨tg1, (ev_bin (ev_nop (ea_cons (ev_var rfl) (ea_cons (ev_var rfl) ea_nil)) (f_keys_seen square' one' ((And.right h) one' u248))) (ev_nop (ea_cons (ev_var rfl) ea_nil) rfl) (t_eq (e := (eL eI)) (okL okI) (T_keys_seen square' one') one'))⟩)) ea_nil) (t_all (l := (wish'.map (fun (one' : (List Int)) => (decide ((T_keys_seen square' one') = one'))))))))
theorem f_serves__2 (square' : Sq) (wish' : (List (List Int))) (h : P_serves__2 square' wish') : F_serves [eSq square', (eL (eT eI)) wish'] = pure (eB (T_serves__2 square' wish')) :=
  fn_of rfl rfl (ex_pre (x_serves__2 square' wish' h) (.keep (.keep (.skip .nil))))
/-! ### is_served -/
def T_is_served_2 (square' : Sq) (wish' : (List (List Int))) : Bool := (T_serves square' wish')
def P_is_served_2 (square' : Sq) (wish' : (List (List Int))) : Prop := (P_serves square' wish')
theorem x_is_served_2 (square' : Sq) (wish' : (List (List Int))) (h : P_is_served_2 square' wish') : Tx [some (eSq square'), some ((eT (eT eI)) wish')] G_is_served_2 (Rl.rt (eB (T_is_served_2 square' wish'))) :=
  (ex_ret (ev_nop (ea_cons (ev_var rfl) (ea_cons (ev_var rfl) ea_nil)) (f_serves square' wish' h)))
def T_is_served_1 (square' : Sq) (wish' : (List (List Int))) : Bool := (T_is_served_2 square' wish')
def P_is_served_1 (square' : Sq) (wish' : (List (List Int))) : Prop := ((P_need_wish (square'.1.length : Int) wish')) ∧ (P_is_served_2 square' wish')
theorem x_is_served_1 (square' : Sq) (wish' : (List (List Int))) (h : P_is_served_1 square' wish') : Tx [some (eSq square'), some ((eT (eT eI)) wish')] G_is_served_1 (Rl.rt (eB (T_is_served_1 square' wish'))) :=
  (ex_sq (ex_exp (ev_nop (ea_cons (ev_nop (ea_cons (ev_bin (ev_var rfl) ev_cst t_idxP0) ea_nil) (t_lenT _ (eP eI eI))) (ea_cons (ev_var rfl) ea_nil)) (f_need_wish (square'.1.length : Int) wish' (And.left h)))) (ex_pre (x_is_served_2 square' wish' (And.right h)) (.keep (.keep .nil))))
def T_is_served (square' : Sq) (wish' : (List (List Int))) : Bool := (T_is_served_1 square' wish')
def P_is_served (square' : Sq) (wish' : (List (List Int))) : Prop := ((PSq square')) ∧ (P_is_served_1 square' wish')
theorem x_is_served (square' : Sq) (wish' : (List (List Int))) (h : P_is_served square' wish') : Tx [some (eSq square'), some ((eT (eT eI)) wish')] G_is_served (Rl.rt (eB (T_is_served square' wish'))) :=
  (ex_sq (ex_exp (ev_nop (ea_cons (ev_var rfl) ea_nil) (t_need_square square' (And.left h)))) (ex_pre (x_is_served_1 square' wish' (And.right h)) (.keep (.keep .nil))))
theorem f_is_served (square' : Sq) (wish' : (List (List Int))) (h : P_is_served square' wish') : F_is_served [eSq square', (eT (eT eI)) wish'] = pure (eB (T_is_served square' wish')) :=
  fn_of rfl rfl (ex_pre (x_is_served square' wish' h) (.keep (.keep .nil)))
/-! ### unserved -/
def T_unserved_2 (square' : Sq) (wish' : (List (List Int))) : (List (List Int)) := (wish'.filter (fun (one' : (List Int)) => (!(decide ((T_keys_seen square' one') = one')))))
def P_unserved_2 (square' : Sq) (wish' : (List (List Int))) : Prop := (wish'.length ≤ LIM) ∧ (∀ one' ∈ wish', (((P_keys_seen square' one'))))
theorem x_unserved_2 (square' : Sq) (wish' : (List (List Int))) (h : P_unserved_2 square' wish') : Tx [some (eSq square'), some ((eT (eT eI)) wish'), none] G_unserved_2 (Rl.rt ((eL (eT eI)) (T_unserved_2 square' wish'))) :=
  (ex_ret (ev_lstF (ev_compI (e := (eT eI)) (fun (one' : (List Int)) => (!(decide ((T_keys_seen square' one') = one')))) _ (it_itemsT (ev_var rfl)) (And.left h) fun one' u254 => ⟨tg1, (ev_tst (ev_bin (ev_nop (ea_cons (ev_var rfl) (ea_cons (ev_var rfl) ea_nil)) (f_keys_seen square' one' ((And.right h) one' u254))) (ev_nop (ea_cons (ev_var rfl) ea_nil) rfl) (t_ne (e := (eL eI)) (okL okI) (T_keys_seen square' one') one'))), fun u255 => (ev_var rfl)⟩)))
def T_unserved_1 (square' : Sq) (wish' : (List (List Int))) : (List (List Int)) := (T_unserved_2 square' wish')
def P_unserved_1 (square' : Sq) (wish' : (List (List Int))) : Prop := ((P_need_wish (square'.1.length : Int) wish')) ∧ (P_unserved_2 square' wish')
theorem x_unserved_1 (square' : Sq) (wish' : (List (List Int))) (h : P_unserved_1 square' wish') : Tx [some (eSq square'), some ((eT (eT eI)) wish'), none] G_unserved_1 (Rl.rt ((eL (eT eI)) (T_unserved_1 square' wish'))) :=
  (ex_sq (ex_exp (ev_nop (ea_cons (ev_nop (ea_cons (ev_bin (ev_var rfl) ev_cst t_idxP0) ea_nil) (t_lenT _ (eP eI eI))) (ea_cons (ev_var rfl) ea_nil)) (f_need_wish (square'.1.length : Int) wish' (And.left h)))) (ex_pre (x_unserved_2 square' wish' (And.right h)) (.keep (.keep (.skip .nil)))))
def T_unserved (square' : Sq) (wish' : (List (List Int))) : (List (List Int)) := (T_unserved_1 square' wish')
def P_unserved (square' : Sq) (wish' : (List (List Int))) : Prop := ((PSq square')) ∧ (P_unserved_1 square' wish')
theorem x_unserved (square' : Sq) (wish' : (List (List Int))) (h : P_unserved square' wish') : Tx [some (eSq square'), some ((eT (eT eI)) wish'), none] G_unserved (Rl.rt ((eL (eT eI)) (T_unserved square' wish'))) :=
  (ex_sq (ex_exp (ev_nop (ea_cons (ev_var rfl) ea_nil) (t_need_square square' (And.left h)))) (ex_pre (x_unserved_1 square' wish' (And.right h)) (.keep (.keep (.skip .nil)))))
theorem f_unserved (square' : Sq) (wish' : (List (List Int))) (h : P_unserved square' wish') : F_unserved [eSq square', (eT (eT eI)) wish'] = pure ((eL (eT eI)) (T_unserved square' wish')) :=
  fn_of rfl rfl (ex_pre (x_unserved square' wish' h) (.keep (.keep (.skip .nil))))
/-! ### sets_of -/
abbrev K_sets_of_L1 (many' : Int) (s' : (List (List Int))) : Ks := [some (eI many'), none, some ((eL (eT eI)) s'), none, none, none, none, none]
abbrev K_sets_of_L2 (many' : Int) (found' : (List (List Int))) (s' : (List (List Int))) : Ks := [some (eI many'), none, some ((eL (eT eI)) found'), none, some ((eL (eT eI)) s'), none, none, none]
def T_sets_of_L2_1 (many' : Int) (found' : (List (List Int))) (longer' : (List (List Int))) (one' : (List Int)) (first' : Int) : (List (List Int)) := (longer' ++ ((rgI first' many').map (fun (key' : Int) => (one' ++ [key']))))
def P_sets_of_L2_1 (many' : Int) (found' : (List (List Int))) (longer' : (List (List Int))) (one' : (List Int)) (first' : Int) : Prop := ((((RgIn first' many')) ∧ (∀ key' ∈ (rgI first' many'), (one'.length + [key'].length ≤ LIM))) ∧ (longer'.length + ((rgI first' many').map (fun (key' : Int) => (one' ++ [key']))).length ≤ LIM))
theorem x_sets_of_L2_1 (many' : Int) (found' : (List (List Int))) (longer' : (List (List Int))) (one' : (List Int)) (first' : Int) (h : P_sets_of_L2_1 many' found' longer' one' first') : Tx [some (eI many'), none, some ((eL (eT eI)) found'), none, some ((eL (eT eI)) longer'), some ((eT eI) one'), some (eI first'), none] G_sets_of_L2_1 (Rl.nx ((K_sets_of_L2 many' found') (T_sets_of_L2_1 many' found' longer' one' first'))) :=
  (ex_sub (ex_ext (e := (eT eI)) (x := ((rgI first' many').map (fun (key' : Int) => (one' ++ [key'])))) rfl (ev_lstF (ev_compA (e := eI) (e' := (eT eI)) (fun (key' : Int) => (one' ++ [key'])) _ (it_rng2 (ea_cons (ev_var rfl) (ea_cons (ev_var rfl) ea_nil)) (And.left (And.left h))) (rgI_len (And.left (And.left h))) fun key' u263 => ⟨tg1, (ev_bin (ev_var rfl) (ev_tup (ea_cons (ev_var rfl) ea_nil) (lim_small (Nat.le_of_ble_eq_true rfl))) (t_addT (e := eI) (a := one') (b := [key']) ((And.right (And.left h)) key' u263)))⟩)) (And.right h)) (.keep (.skip (.keep (.skip (.keep (.skip (.skip (.skip .nil)))))))))
def T_sets_of_L2 (many' : Int) (found' : (List (List Int))) (longer' : (List (List Int))) (one' : (List Int)) : (List (List Int)) := (T_sets_of_L2_1 many' found' longer' one' (if (!(decide (one' = ([] : List Int)))) then ((ixE one' (-(1 : Int))) + (1 : Int)) else (0 : Int)))
def P_sets_of_L2 (many' : Int) (found' : (List (List Int))) (longer' : (List (List Int))) (one' : (List Int)) : Prop := (((!(decide (one' = ([] : List Int)))) = true → ((InIx one' (-(1 : Int)))))) ∧ (P_sets_of_L2_1 many' found' longer' one' (if (!(decide (one' = ([] : List Int)))) then ((ixE one' (-(1 : Int))) + (1 : Int)) else (0 : Int)))
theorem x_sets_of_L2 (many' : Int) (found' : (List (List Int))) (longer' : (List (List Int))) (one' : (List Int)) (h : P_sets_of_L2 many' found' longer' one') : Tx [some (eI many'), none, some ((eL (eT eI)) found'), none, some ((eL (eT eI)) longer'), some ((eT eI) one'), none, none] G_sets_of_L2 (Rl.nx ((K_sets_of_L2 many' found') (T_sets_of_L2 many' found' longer' one'))) :=
  (ex_sq (ex_set (ev_ifx (e := eI) (ev_tst (ev_bin (ev_var rfl) (ev_tup (as := []) ea_nil lim_nil) (t_ne (e := (eT eI)) (okT okI) one' ([] : List Int)))) (fun u262 => (ev_bin (ev_bin (ev_var rfl) (ev_un ev_cst (neg_int _)) (t_idxT (e := eI) ((And.left h) u262))) ev_cst (add_int _ _))) (fun u262 => ev_cst))) (ex_pre (x_sets_of_L2_1 many' found' longer' one' (if (!(decide (one' = ([] : List Int)))) then ((ixE one' (-(1 : Int))) + (1 : Int)) else (0 : Int)) (And.right h)) (.keep (.skip (.keep (.skip (.keep (.keep (.keep (.skip .nil))))))))))
def T_sets_of_L1_2 (many' : Int) (found' : (List (List Int))) (longer' : (List (List Int))) : (List (List Int)) := longer'
theorem x_sets_of_L1_2 (many' : Int) (found' : (List (List Int))) (longer' : (List (List Int))) : Tx [some (eI many'), none, some ((eL (eT eI)) found'), none, some ((eL (eT eI)) longer'), none, none, none] G_sets_of_L1_2 (Rl.nx ((K_sets_of_L1 many') (T_sets_of_L1_2 many' found' longer'))) :=
  (ex_nodic rfl (ex_sub (ex_set (ev_var rfl)) (.keep (.skip (.keep (.skip (.skip (.skip (.skip (.skip .nil))))))))))
def T_sets_of_L1_1 (many' : Int) (found' : (List (List Int))) (longer' : (List (List Int))) : (List (List Int)) := (T_sets_of_L1_2 many' found' (found'.foldl (fun (s' : (List (List Int))) (one' : (List Int)) => T_sets_of_L2 many' found' s' one') longer'))
def P_sets_of_L1_1 (many' : Int) (found' : (List (List Int))) (longer' : (List (List Int))) : Prop := ((∃ I : Nat → (List (List Int)) → Prop, I 0 longer' ∧ ∀ (i' : Nat) (one' : (List Int)), found'[i']? = some one' → ∀ s', I i' s' → P_sets_of_L2 many' found' s' one' ∧ I (i' + 1) ((fun (s' : (List (List Int))) (one' : (List Int)) => T_sets_of_L2 many' found' s' one') s' one')))
theorem x_sets_of_L1_1 (many' : Int) (found' : (List (List Int))) (longer' : (List (List Int))) (h : P_sets_of_L1_1 many' found' longer') : Tx [some (eI many'), none, some ((eL (eT eI)) found'), none, some ((eL (eT eI)) longer'), none, none, none] G_sets_of_L1_1 (Rl.nx ((K_sets_of_L1 many') (T_sets_of_L1_1 many' found' longer'))) :=
  (ex_sq (let ⟨I, h0, hb⟩ := h; ex_fold (e := (eT eI)) (kh := (K_sets_of_L2 many' found')) (st := (fun (s' : (List (List Int))) (one' : (List Int)) => T_sets_of_L2 many' found' s' one')) (I := I) (it_itemsL (ev_var rfl)) (.keep (.skip (.keep (.skip (.keep (.skip (.skip (.skip .nil)))))))) h0 fun i' one' hx s' hs => ⟨_, tg1, ex_pre (x_sets_of_L2 many' found' s' one' (hb i' one' hx s' hs).1) (.keep (.skip (.keep (.skip (.keep (.keep (.skip (.skip .nil)))))))), (hb i' one' hx s' hs).2⟩) (ex_pre (x_sets_of_L1_2 many' found' (found'.foldl (fun (s' : (List (List Int))) (one' : (List Int)) => T_sets_of_L2 many' found' s' one') longer')) (.keep (.skip (.keep (.skip (.keep (.skip (.skip (.skip .nil))))))))))
def T_sets_of_L1 (many' : Int) (found' : (List (List Int))) : (List (List Int)) := (T_sets_of_L1_1 many' found' ([] : List (List Int)))
def P_sets_of_L1 (many' : Int) (found' : (List (List Int))) : Prop := (P_sets_of_L1_1 many' found' ([] : List (List Int)))
theorem x_sets_of_L1 (many' : Int) (found' : (List (List Int))) (h : P_sets_of_L1 many' found') : Tx [some (eI many'), none, some ((eL (eT eI)) found'), none, none, none, none, none] G_sets_of_L1 (Rl.nx ((K_sets_of_L1 many') (T_sets_of_L1 many' found'))) :=
  (ex_sq (ex_setO (ev_lim ea_nil lim_nil)) (ex_pre (x_sets_of_L1_1 many' found' ([] : List (List Int)) h) (.keep (.skip (.keep (.skip (.keep (.skip (.skip (.skip .nil))))))))))
def T_sets_of_2 (found' : (List (List Int))) : (List (List Int)) := found'
theorem x_sets_of_2 (found' : (List (List Int))) : Tx [none, none, some ((eL (eT eI)) found'), none, none, none, none, none] G_sets_of_2 (Rl.rt ((eL (eT eI)) (T_sets_of_2 found'))) :=
  (ex_ret (ev_var rfl))
def T_sets_of_1 (many' : Int) (size' : Int) (found' : (List (List Int))) : (List (List Int)) := (T_sets_of_2 ((rgI 0 size').foldl (fun (s' : (List (List Int))) (turn' : Int) => T_sets_of_L1 many' s') found'))
def P_sets_of_1 (many' : Int) (size' : Int) (found' : (List (List Int))) : Prop := (((RgIn 0 size')) ∧ (∃ I : Nat → (List (List Int)) → Prop, I 0 found' ∧ ∀ (i' : Nat) (turn' : Int), (rgI 0 size')[i']? = some turn' → ∀ s', I i' s' → P_sets_of_L1 many' s' ∧ I (i' + 1) ((fun (s' : (List (List Int))) (turn' : Int) => T_sets_of_L1 many' s') s' turn')))
theorem x_sets_of_1 (many' : Int) (size' : Int) (found' : (List (List Int))) (h : P_sets_of_1 many' size' found') : Tx [some (eI many'), some (eI size'), some ((eL (eT eI)) found'), none, none, none, none, none] G_sets_of_1 (Rl.rt ((eL (eT eI)) (T_sets_of_1 many' size' found'))) :=
  (ex_sq (let ⟨I, h0, hb⟩ := (And.right h); ex_fold (e := eI) (kh := (K_sets_of_L1 many')) (st := (fun (s' : (List (List Int))) (turn' : Int) => T_sets_of_L1 many' s')) (I := I) (it_rng1 (ea_cons (ev_var rfl) ea_nil) (And.left h)) (.keep (.skip (.keep (.skip (.skip (.skip (.skip (.skip .nil)))))))) h0 fun i' turn' hx s' hs => ⟨_, tg1, ex_pre (x_sets_of_L1 many' s' (hb i' turn' hx s' hs).1) (.keep (.skip (.keep (.skip (.skip (.skip (.skip (.skip .nil)))))))), (hb i' turn' hx s' hs).2⟩) (ex_pre (x_sets_of_2 ((rgI 0 size').foldl (fun (s' : (List (List Int))) (turn' : Int) => T_sets_of_L1 many' s') found')) (.skip (.skip (.keep (.skip (.skip (.skip (.skip (.skip .nil))))))))))
def T_sets_of (many' : Int) (size' : Int) : (List (List Int)) := (T_sets_of_1 many' size' [([] : List Int)])
def P_sets_of (many' : Int) (size' : Int) : Prop := (P_sets_of_1 many' size' [([] : List Int)])
theorem x_sets_of (many' : Int) (size' : Int) (h : P_sets_of many' size') : Tx [some (eI many'), some (eI size'), none, none, none, none, none, none] G_sets_of (Rl.rt ((eL (eT eI)) (T_sets_of many' size'))) :=
  (ex_sq (ex_set (ev_lstF (ev_lim (ea_cons (ev_tup (as := []) ea_nil lim_nil) ea_nil) (lim_small (Nat.le_of_ble_eq_true rfl))))) (ex_pre (x_sets_of_1 many' size' [([] : List Int)] h) (.keep (.keep (.keep (.skip (.skip (.skip (.skip (.skip .nil))))))))))
theorem f_sets_of (many' : Int) (size' : Int) (h : P_sets_of many' size') : F_sets_of [eI many', eI size'] = pure ((eL (eT eI)) (T_sets_of many' size')) :=
  fn_of rfl rfl (ex_pre (x_sets_of many' size' h) (.keep (.keep (.skip (.skip (.skip (.skip (.skip (.skip .nil)))))))))
/-! ### safe_rolls -/
abbrev K_safe_rolls_L1 (square' : Sq) (s' : Int) : Ks := [some (eSq square'), some (eI s')]
def T_safe_rolls_L1 (square' : Sq) (found' : Int) : Int := (found' + (1 : Int))
theorem x_safe_rolls_L1 (square' : Sq) (found' : Int) : Tx [some (eSq square'), some (eI found')] G_safe_rolls_L1 (Rl.nx ((K_safe_rolls_L1 square') (T_safe_rolls_L1 square' found'))) :=
  (ex_sub (ex_set (ev_bin (ev_var rfl) ev_cst (add_int _ _))) (.keep (.keep .nil)))
def T_safe_rolls_3 (found' : Int) : Int := found'
theorem x_safe_rolls_3 (found' : Int) : Tx [none, some (eI found')] G_safe_rolls_3 (Rl.rt (eI (T_safe_rolls_3 found'))) :=
  (ex_ret (ev_var rfl))
def T_safe_rolls_2 (square' : Sq) (found' : Int) : Int := (T_safe_rolls_3 (whl (fun (s' : Int) => ((decide (s' < (square'.1.length : Int))) && (T_serves__2 square' (T_sets_of (square'.1.length : Int) (s' + (1 : Int)))))) (fun (s' : Int) => T_safe_rolls_L1 square' s') FUEL found'))
def P_safe_rolls_2 (square' : Sq) (found' : Int) : Prop := ((WhlOk (fun (s' : Int) => ((decide (s' < (square'.1.length : Int))) && (T_serves__2 square' (T_sets_of (square'.1.length : Int) (s' + (1 : Int)))))) (fun (s' : Int) => T_safe_rolls_L1 square' s') FUEL found') ∧ (∃ I : Int → Prop, I found' ∧ ∀ s', I s' → (((decide (s' < (square'.1.length : Int))) = true → (((P_sets_of (square'.1.length : Int) (s' + (1 : Int))))) ∧ (P_serves__2 square' (T_sets_of (square'.1.length : Int) (s' + (1 : Int)))))) ∧ (((decide (s' < (square'.1.length : Int))) && (T_serves__2 square' (T_sets_of (square'.1.length : Int) (s' + (1 : Int))))) = true → I ((fun (s' : Int) => T_safe_rolls_L1 square' s') s'))))
theorem x_safe_rolls_2 (square' : Sq) (found' : Int) (h : P_safe_rolls_2 square' found') : Tx [some (eSq square'), some (eI found')] G_safe_rolls_2 (Rl.rt (eI (T_safe_rolls_2 square' found'))) :=
  (ex_sq (let ⟨I, h0, hb⟩ := (And.right h); ex_while (kh := (K_safe_rolls_L1 square')) (c := (fun (s' : Int) => ((decide (s' < (square'.1.length : Int))) && (T_serves__2 square' (T_sets_of (square'.1.length : Int) (s' + (1 : Int))))))) (st := (fun (s' : Int) => T_safe_rolls_L1 square' s')) (I := I) (.keep (.keep .nil)) h0 (fun s' hs => ⟨(ev_andt (ev_tst (ev_bin (ev_var rfl) (ev_nop (ea_cons (ev_bin (ev_var rfl) ev_cst t_idxP0) ea_nil) (t_lenT _ (eP eI eI))) (lt_int _ _))) fun u267 => (ev_tst (ev_nop (ea_cons (ev_var rfl) (ea_cons (ev_nop (ea_cons (ev_nop (ea_cons (ev_bin (ev_var rfl) ev_cst t_idxP0) ea_nil) (t_lenT _ (eP eI eI))) (ea_cons (ev_bin (ev_var rfl) ev_cst (add_int _ _)) ea_nil)) (f_sets_of (square'.1.length : Int) (s' + (1 : Int)) (And.left ((And.left (hb s' hs)) u267)))) ea_nil)) (f_serves__2 square' (T_sets_of (square'.1.length : Int) (s' + (1 : Int))) (And.right ((And.left (hb s' hs)) u267)))))), fun hq => ⟨ex_pre (x_safe_rolls_L1 square' s') (.keep (.keep .nil)), (And.right (hb s' hs)) hq⟩⟩) (And.left h)) (ex_pre (x_safe_rolls_3 (whl (fun (s' : Int) => ((decide (s' < (square'.1.length : Int))) && (T_serves__2 square' (T_sets_of (square'.1.length : Int) (s' + (1 : Int)))))) (fun (s' : Int) => T_safe_rolls_L1 square' s') FUEL found')) (.skip (.keep .nil))))
def T_safe_rolls_1 (square' : Sq) : Int := (T_safe_rolls_2 square' (0 : Int))
def P_safe_rolls_1 (square' : Sq) : Prop := (P_safe_rolls_2 square' (0 : Int))
theorem x_safe_rolls_1 (square' : Sq) (h : P_safe_rolls_1 square') : Tx [some (eSq square'), none] G_safe_rolls_1 (Rl.rt (eI (T_safe_rolls_1 square'))) :=
  (ex_sq (ex_set ev_cst) (ex_pre (x_safe_rolls_2 square' (0 : Int) h) (.keep (.keep .nil))))
def T_safe_rolls (square' : Sq) : Int := (T_safe_rolls_1 square')
def P_safe_rolls (square' : Sq) : Prop := ((PSq square')) ∧ (P_safe_rolls_1 square')
theorem x_safe_rolls (square' : Sq) (h : P_safe_rolls square') : Tx [some (eSq square'), none] G_safe_rolls (Rl.rt (eI (T_safe_rolls square'))) :=
  (ex_sq (ex_exp (ev_nop (ea_cons (ev_var rfl) ea_nil) (t_need_square square' (And.left h)))) (ex_pre (x_safe_rolls_1 square' (And.right h)) (.keep (.skip .nil))))
theorem f_safe_rolls (square' : Sq) (h : P_safe_rolls square') : F_safe_rolls [eSq square'] = pure (eI (T_safe_rolls square')) :=
  fn_of rfl rfl (ex_pre (x_safe_rolls square' h) (.keep (.skip .nil)))
/-! ### first_unsafe -/
def T_first_unsafe_2 (some' : (List (List Int))) : (Option (List Int)) := (if (!(decide (some' = ([] : List (List Int))))) then (some (ixE some' (0 : Int))) else (none : (Option (List Int))))
def P_first_unsafe_2 (some' : (List (List Int))) : Prop := ((!(decide (some' = ([] : List (List Int))))) = true → (InIx some' (0 : Int)))
theorem x_first_unsafe_2 (some' : (List (List Int))) (h : P_first_unsafe_2 some') : Tx [none, none, some ((eL (eT eI)) some'), none] G_first_unsafe_2 (Rl.rt ((eO (eT eI)) (T_first_unsafe_2 some'))) :=
  (ex_ret (ev_ifx (e := (eO (eT eI))) (ev_tst (ev_bin (ev_var rfl) (ev_lst (as := []) ea_nil lim_nil) (t_ne (e := (eL (eT eI))) (okL (okT okI)) some' ([] : List (List Int))))) (fun u276 => (ev_bin (ev_var rfl) ev_cst (t_idxL (e := (eT eI)) (h u276)))) (fun u276 => ev_cst)))
def T_first_unsafe_1 (square' : Sq) (size' : Int) : (Option (List Int)) := (T_first_unsafe_2 ((T_sets_of (square'.1.length : Int) size').filter (fun (one' : (List Int)) => (!(decide ((T_keys_seen square' one') = one'))))))
def P_first_unsafe_1 (square' : Sq) (size' : Int) : Prop := (((P_sets_of (square'.1.length : Int) size')) ∧ ((T_sets_of (square'.1.length : Int) size').length ≤ LIM) ∧ (∀ one' ∈ (T_sets_of (square'.1.length : Int) size'), (((P_keys_seen square' one'))))) ∧ (P_first_unsafe_2 ((T_sets_of (square'.1.length : Int) size').filter (fun (one' : (List Int)) => (!(decide ((T_keys_seen square' one') = one'))))))
theorem x_first_unsafe_1 (square' : Sq) (size' : Int) (h : P_first_unsafe_1 square' size') : Tx [some (eSq square'), some (eI size'), none, none] G_first_unsafe_1 (Rl.rt ((eO (eT eI)) (T_first_unsafe_1 square' size'))) :=
  (ex_sq (ex_set (ev_lstF (ev_compI (e := (eT eI)) (fun (one' : (List Int)) => (!(decide ((T_keys_seen square' one') = one')))) _ (it_itemsL (ev_nop (ea_cons (ev_nop (ea_cons (ev_bin (ev_var rfl) ev_cst t_idxP0) ea_nil) (t_lenT _ (eP eI eI))) (ea_cons (ev_var rfl) ea_nil)) (f_sets_of (square'.1.length : Int) size' (And.left (And.left h))))) (And.left (And.right (And.left h))) fun one' u274 => ⟨tg1, (ev_tst (ev_bin (ev_nop (ea_cons (ev_var rfl) (ea_cons (ev_var rfl) ea_nil)) (f_keys_seen square' one' ((And.right (And.right (And.left h))) one' u274))) (ev_nop (ea_cons (ev_var rfl) ea_nil) rfl) (t_ne (e := (eL eI)) (okL okI) (T_keys_seen square' one') one'))), fun u275 => (ev_var rfl)⟩))) (ex_pre (x_first_unsafe_2 ((T_sets_of (square'.1.length : Int) size').filter (fun (one' : (List Int)) => (!(decide ((T_keys_seen square' one') = one'))))) (And.right h)) (.skip (.skip (.keep (.skip .nil))))))
def T_first_unsafe (square' : Sq) : (Option (List Int)) := (T_first_unsafe_1 square' ((T_safe_rolls square') + (1 : Int)))
def P_first_unsafe (square' : Sq) : Prop := (((P_safe_rolls square'))) ∧ (P_first_unsafe_1 square' ((T_safe_rolls square') + (1 : Int)))
theorem x_first_unsafe (square' : Sq) (h : P_first_unsafe square') : Tx [some (eSq square'), none, none, none] G_first_unsafe (Rl.rt ((eO (eT eI)) (T_first_unsafe square'))) :=
  (ex_sq (ex_set (ev_bin (ev_nop (ea_cons (ev_var rfl) ea_nil) (f_safe_rolls square' (And.left h))) ev_cst (add_int _ _))) (ex_pre (x_first_unsafe_1 square' ((T_safe_rolls square') + (1 : Int)) (And.right h)) (.keep (.keep (.skip (.skip .nil))))))
theorem f_first_unsafe (square' : Sq) (h : P_first_unsafe square') : F_first_unsafe [eSq square'] = pure ((eO (eT eI)) (T_first_unsafe square')) :=
  fn_of rfl rfl (ex_pre (x_first_unsafe square' h) (.keep (.skip (.skip (.skip .nil)))))
end DL

/-! MA1: plain facts of rows. -/
namespace DL
open PySem PySem.Spec PyProof.Rows L2

section
variable {α β σ : Type}
theorem mem_rgI {a b x : Int} : x ∈ rgI a b ↔ a ≤ x ∧ x < b := by
  unfold rgI
  rw [List.mem_map]
  constructor
  · rintro ⟨i, hi, rfl⟩
    rw [List.mem_range] at hi
    omega
  · rintro ⟨h1, h2⟩
    exact ⟨(x - a).toNat, List.mem_range.mpr (by omega), by omega⟩
theorem rgI_length (a b : Int) : (rgI a b).length = (b - a).toNat := by
  unfold rgI; rw [List.length_map, List.length_range]
theorem rgI_pw (a b : Int) : (rgI a b).Pairwise (· < ·) := by
  unfold rgI
  refine List.Pairwise.map _ (fun i j h => ?_) List.pairwise_lt_range
  have : (i : Int) < j := by exact_mod_cast h
  omega
theorem rgI_nil {a b : Int} (h : b ≤ a) : rgI a b = [] := by
  have : (rgI a b).length = 0 := by rw [rgI_length]; omega
  exact List.length_eq_zero_iff.mp this
theorem rgI_cons {a b : Int} (h : a < b) : rgI a b = a :: rgI (a + 1) b := by
  unfold rgI
  have e : (b - a).toNat = (b - (a + 1)).toNat + 1 := by omega
  rw [e, List.range_succ_eq_map, List.map_cons, List.map_map]
  congr 1
  · simp
  · refine List.map_congr_left fun i _ => ?_
    simp only [Function.comp]
    push_cast
    omega
theorem rgI_succ {a b : Int} (h : a ≤ b) : rgI a (b + 1) = rgI a b ++ [b] := by
  unfold rgI
  have e : (b + 1 - a).toNat = (b - a).toNat + 1 := by omega
  rw [e, List.range_succ, List.map_append]
  congr 1
  simp
  omega
theorem foldl_inv {f : σ → α → σ} (I : σ → Prop) : ∀ (xs : List α) (s : σ), I s → (∀ x ∈ xs, ∀ s, I s → I (f s x)) → I (xs.foldl f s)
  | [], _, h, _ => h
  | x :: r, s, h, hb => foldl_inv I r (f s x) (hb x List.mem_cons_self s h) fun y hy => hb y (List.mem_cons_of_mem _ hy)
theorem ixE_nat [Inhabited α] {l : List α} {i : Int} (h : 0 ≤ i) : ixE l i = l.getD i.toNat default := if_pos h
theorem ixE_mem [Inhabited α] {l : List α} {i : Int} (h : InIx l i) : ixE l i ∈ l := by
  unfold ixE
  obtain ⟨h1, h2⟩ := h
  by_cases c : 0 ≤ i
  · rw [if_pos c]
    have : i.toNat < l.length := by omega
    rw [List.getD_eq_getElem?_getD, List.getElem?_eq_getElem this]
    exact List.getElem_mem this
  · rw [if_neg c]
    have : (i + (l.length : Int)).toNat < l.length := by omega
    rw [List.getD_eq_getElem?_getD, List.getElem?_eq_getElem this]
    exact List.getElem_mem this
theorem inIx_of {l : List α} {i : Int} (h0 : 0 ≤ i) (h1 : i < l.length) : InIx l i := ⟨by omega, h1⟩
theorem mem_ixE [Inhabited α] {l : List α} {x : α} (h : x ∈ l) : ∃ i : Int, 0 ≤ i ∧ i < l.length ∧ ixE l i = x := by
  obtain ⟨j, hj, e⟩ := List.mem_iff_getElem.mp h
  refine ⟨j, by omega, by omega, ?_⟩
  unfold ixE
  rw [if_pos (by omega)]
  simp [hj, e]
theorem ixE_inj [Inhabited α] {l : List α} (nd : l.Nodup) {i j : Int} (hi : 0 ≤ i) (hi2 : i < l.length) (hj : 0 ≤ j) (hj2 : j < l.length) (h : ixE l i = ixE l j) : i = j := by
  unfold ixE at h
  rw [if_pos hi, if_pos hj] at h
  have a1 : i.toNat < l.length := by omega
  have a2 : j.toNat < l.length := by omega
  rw [List.getD_eq_getElem?_getD, List.getD_eq_getElem?_getD, List.getElem?_eq_getElem a1, List.getElem?_eq_getElem a2] at h
  have h' : l[i.toNat] = l[j.toNat] := h
  have hnd : ∀ (a b : Nat) (ha : a < l.length) (hb : b < l.length), a < b → l[a] ≠ l[b] := List.pairwise_iff_getElem.mp nd
  rcases Nat.lt_trichotomy i.toNat j.toNat with c | c | c
  · exact absurd h' (hnd _ _ a1 a2 c)
  · omega
  · exact absurd h'.symm (hnd _ _ a2 a1 c)
theorem mem_enE {l : List α} {p : Int × α} : ∀ {k : Nat}, p ∈ enE l k ↔ ∃ i : Nat, l[i]? = some p.2 ∧ p.1 = ((k + i : Nat) : Int) := by
  induction l with
  | nil => intro k; simp [enE]
  | cons x r ih =>
    intro k
    unfold enE
    rw [List.mem_cons, ih]
    constructor
    · rintro (rfl | ⟨i, h1, h2⟩)
      · exact ⟨0, rfl, by simp⟩
      · exact ⟨i + 1, by simpa using h1, by rw [h2]; omega⟩
    · rintro ⟨i, h1, h2⟩
      cases i with
      | zero =>
        left
        simp at h1
        exact Prod.ext (by simpa using h2) h1.symm
      | succ i => exact .inr ⟨i, by simpa using h1, by rw [h2]; omega⟩
theorem enE_length (l : List α) : ∀ k : Nat, (enE l k).length = l.length := by
  induction l with
  | nil => intro k; rfl
  | cons x r ih => intro k; unfold enE; rw [List.length_cons, ih, List.length_cons]
theorem mem_enE0 [Inhabited α] {l : List α} {p : Int × α} : p ∈ enE l ↔ 0 ≤ p.1 ∧ p.1 < l.length ∧ p.2 = ixE l p.1 := by
  rw [mem_enE]
  constructor
  · rintro ⟨i, h1, h2⟩
    have hi : i < l.length := (List.getElem?_eq_some_iff.mp h1).1
    refine ⟨by omega, by omega, ?_⟩
    rw [ixE_nat (by omega)]
    have : p.1.toNat = i := by omega
    rw [this, List.getD_eq_getElem?_getD, h1]; rfl
  · rintro ⟨h0, h1, h2⟩
    refine ⟨p.1.toNat, ?_, by omega⟩
    have hi : p.1.toNat < l.length := by omega
    rw [List.getElem?_eq_getElem hi, h2, ixE_nat h0, List.getD_eq_getElem?_getD, List.getElem?_eq_getElem hi]; rfl
theorem enE_eq [Inhabited α] (l : List α) : enE l = (rgI 0 l.length).map fun i => (i, ixE l i) := by
  have key : ∀ (r pre : List α) (k m : Nat), k = pre.length → m = pre.length + r.length → enE r k = (rgI k m).map fun i => (i, ixE (pre ++ r) i) := by
    intro r
    induction r with
    | nil => intro pre k m hk hm; subst hk; rw [rgI_nil (by rw [List.length_nil] at hm; omega)]; rfl
    | cons x r ih =>
      intro pre k m hk hm
      unfold enE
      rw [ih (pre ++ [x]) (k + 1) m (by simp [hk]) (by simp at hm ⊢; omega), rgI_cons (a := (k : Int)) (b := (m : Int)) (by rw [List.length_cons] at hm; omega), List.map_cons]
      have e0 : ixE (pre ++ x :: r) (k : Int) = x := by
        rw [ixE_nat (by omega)]
        simp [hk]
      rw [e0, List.append_assoc]
      rfl
  have := key l [] 0 l.length rfl (by simp)
  simpa using this
theorem findSome_none {f : α → Option β} {l : List α} : l.findSome? f = none ↔ ∀ x ∈ l, f x = none := List.findSome?_eq_none_iff
theorem opM_all {xs : List α} {g : α → Option β} {γ : Type} {t : γ} {f : β → γ} (h : ∀ x ∈ xs, g x = none) : opM (xs.findSome? g) t f = t := by
  rw [findSome_none.mpr h]; rfl
theorem foldRe_inv {g : σ → α → Re σ β} (I : σ → Prop) : ∀ (xs : List α) (s : σ), I s → (∀ x ∈ xs, ∀ s, I s → ∃ s', g s x = .nx s' ∧ I s') → ∃ s', foldRe g s xs = .nx s' ∧ I s'
  | [], s, h, _ => ⟨s, rfl, h⟩
  | x :: r, s, h, hb => by
    obtain ⟨s', e, h'⟩ := hb x List.mem_cons_self s h
    unfold foldRe
    rw [e]
    exact foldRe_inv I r s' h' fun y hy => hb y (List.mem_cons_of_mem _ hy)
end
/-! ### a def's parts, one behind the other -/
section
variable {α β γ : Type} {V P : Prop} {c : Bool} {x y t : α}
theorem g_and (hv : V) (h : P ∧ y = t) : (V ∧ P) ∧ y = t := ⟨⟨hv, h.1⟩, h.2⟩
theorem g_vt (hv : V) (h : y = t) : V ∧ y = t := ⟨hv, h⟩
theorem g_if (hv : V) (hc : c = false) (h : P ∧ y = t) : (V ∧ (c = false → P)) ∧ (if c then x else y) = t := ⟨⟨hv, fun _ => h.1⟩, by rw [hc]; exact h.2⟩
/-- no word asked of the rest -/
theorem g_if0 (hv : V) (hc : c = false) (h : y = t) : V ∧ (if c then x else y) = t := ⟨hv, by rw [hc]; exact h⟩
theorem g_if1 (hc : c = false) (h : P ∧ y = t) : (c = false → P) ∧ (if c then x else y) = t := ⟨fun _ => h.1, by rw [hc]; exact h.2⟩
theorem g_op {xs : List β} {g : β → Option γ} {Pb : β → Prop} {f : γ → α} (hv : V) (hl : ∀ z ∈ xs, Pb z ∧ g z = none) (h : P ∧ y = t) : ((V ∧ ∀ z ∈ xs, Pb z) ∧ (xs.findSome? g = none → P)) ∧ opM (xs.findSome? g) y f = t :=
  ⟨⟨⟨hv, fun z hz => (hl z hz).1⟩, fun _ => h.1⟩, by rw [opM_all fun z hz => (hl z hz).2]; exact h.2⟩
theorem g_op1 {xs : List β} {g : β → Option γ} {Pb : β → Prop} {f : γ → α} (hl : ∀ z ∈ xs, Pb z ∧ g z = none) (h : P ∧ y = t) : ((∀ z ∈ xs, Pb z) ∧ (xs.findSome? g = none → P)) ∧ opM (xs.findSome? g) y f = t :=
  ⟨⟨fun z hz => (hl z hz).1, fun _ => h.1⟩, by rw [opM_all fun z hz => (hl z hz).2]; exact h.2⟩
theorem g_op0 {xs : List β} {g : β → Option γ} {Pb : β → Prop} {f : γ → α} (hv : V) (hl : ∀ z ∈ xs, Pb z ∧ g z = none) (h : y = t) : (V ∧ ∀ z ∈ xs, Pb z) ∧ opM (xs.findSome? g) y f = t :=
  ⟨⟨hv, fun z hz => (hl z hz).1⟩, by rw [opM_all fun z hz => (hl z hz).2]; exact h⟩
theorem ne_false [DecidableEq β] {a b : β} (h : a = b) : (!decide (a = b)) = false := by rw [decide_eq_true h]; rfl
theorem or_false2 {a b : Bool} (h1 : a = false) (h2 : b = false) : (a || b) = false := by rw [h1, h2]; rfl
theorem filter_nil {p : β → Bool} {l : List β} (h : ∀ z ∈ l, p z = false) : l.filter p = [] := List.filter_eq_nil_iff.mpr fun z hz => by rw [h z hz]; exact Bool.false_ne_true
theorem nin_false [DecidableEq β] {a : β} {l : List β} (h : a ∈ l) : (!inE a l) = false := by rw [inE_iff.mpr h]; rfl
end
/-! ### sets of keys -/
def Keys (n : Int) (l : List Int) : Prop := l.Pairwise (· < ·) ∧ ∀ k ∈ l, 0 ≤ k ∧ k < n
theorem keys_iff {n : Int} {l : List Int} : keysB n l = true ↔ Keys n l := by
  rw [keysB_iff]
  exact ⟨fun h => ⟨h.1, fun k hk => by have := h.2 k hk; omega⟩, fun h => ⟨h.1, fun k hk => by have := h.2 k hk; omega⟩⟩
theorem Keys.nd {n : Int} {l : List Int} (h : Keys n l) : l.Nodup := h.1.imp fun h => Int.ne_of_lt h
theorem pw_len {l : List Int} {n : Int} (h : Keys n l) : (l.length : Int) ≤ max n 0 := by
  have := nodup_le l (rgI 0 n) h.nd fun x hx => mem_rgI.mpr (h.2 x hx)
  rw [rgI_length] at this
  omega
theorem Keys.ext {n m : Int} {a b : List Int} (ha : Keys n a) (hb : Keys m b) (h : ∀ k, k ∈ a ↔ k ∈ b) : a = b := lt_uniq ha.1 hb.1 h
theorem Keys.filter {n : Int} {l : List Int} (h : Keys n l) (p : Int → Bool) : Keys n (l.filter p) := ⟨h.1.sublist List.filter_sublist, fun k hk => h.2 k (List.mem_filter.mp hk).1⟩
theorem keys_rg (n : Int) : Keys n (rgI 0 n) := ⟨rgI_pw 0 n, fun k hk => mem_rgI.mp hk⟩
theorem keys_nil (n : Int) : Keys n [] := ⟨List.Pairwise.nil, fun _ h => nomatch h⟩
theorem ssE_int (l : List Int) : ssE eI l = wset l := by
  unfold ssE wset
  rw [sort_map (e := eI), uniq_map okI, List.map_map]
  exact (List.map_id _).symm
theorem ss_pw (l : List Int) : (ssE eI l).Pairwise (· < ·) := by rw [ssE_int]; exact (wset_spec l).2.1
@[simp] theorem mem_ss {l : List Int} {x : Int} : x ∈ ssE eI l ↔ x ∈ l := by rw [ssE_int]; exact (wset_spec l).2.2 x
theorem keys_ss {n : Int} {l : List Int} (h : ∀ k ∈ l, 0 ≤ k ∧ k < n) : Keys n (ssE eI l) := ⟨ss_pw l, fun k hk => h k (mem_ss.mp hk)⟩
theorem insE_perm {α : Type} {lt : α → α → Bool} {x : α} : ∀ l : List α, (insE lt x l).Perm (x :: l)
  | [] => List.Perm.refl _
  | y :: r => by
    unfold insE
    split
    · exact ((insE_perm r).cons y).trans (List.Perm.swap x y r)
    · exact List.Perm.refl _
theorem sortE_perm {α : Type} {lt : α → α → Bool} : ∀ l : List α, (sortE lt l).Perm l
  | [] => List.Perm.refl _
  | x :: r => by unfold sortE; exact (insE_perm _).trans ((sortE_perm r).cons x)
@[simp] theorem mem_sortE {α : Type} {lt : α → α → Bool} {l : List α} {x : α} : x ∈ sortE lt l ↔ x ∈ l := (sortE_perm l).mem_iff
@[simp] theorem sortE_len {α : Type} {lt : α → α → Bool} (l : List α) : (sortE lt l).length = l.length := (sortE_perm l).length_eq
@[simp] theorem ltE_int (x y : Int) : ltE eI x y = decide (x < y) := by unfold ltE D.ltb; rfl
theorem sortI_pw : ∀ l : List Int, (sortE (ltE eI) l).Pairwise (· ≤ ·) := fun l => by
  obtain ⟨l', e, p, _⟩ := isort_ints l
  have e2 : sortE (ltE eI) l = l' := ints_inj.mp ((sort_map (e := eI) l).symm.trans e)
  rw [e2]; exact p
/-- a row without doubles, in order, is its set -/
theorem sortI_nd {l : List Int} (nd : l.Nodup) : sortE (ltE eI) l = ssE eI l := by
  refine lt_uniq ?_ (ss_pw l) fun z => by rw [mem_sortE, mem_ss]
  have hnd : (sortE (ltE eI) l).Nodup := (sortE_perm l).nodup_iff.mpr nd
  exact (List.pairwise_and_iff.mpr ⟨sortI_pw l, hnd⟩).imp fun h => by omega
theorem ss_self {l : List Int} (h : l.Pairwise (· < ·)) : ssE eI l = l := lt_uniq (ss_pw l) h fun z => mem_ss
theorem sort_self {l : List Int} (h : l.Pairwise (· < ·)) : sortE (ltE eI) l = l := by
  rw [sortI_nd (h.imp fun h => Int.ne_of_lt h), ss_self h]
end DL

/-! MA2: the drawn square, the drawn sets. -/
namespace DL
open PySem PySem.Spec PyProof.Rows L2

theorem lim_of {n : Nat} (h : n ≤ 100000) : n ≤ LIM := by rw [LIM_val]; omega
theorem lt_lim_of {n : Nat} (h : n ≤ 100000) : n < LIM := by rw [LIM_val]; omega
theorem rgIn_of {a b : Int} (h : -1000 ≤ a ∧ a ≤ 1000 ∧ -1000 ≤ b ∧ b ≤ 1000) : RgIn a b := by unfold RgIn; omega
theorem rep01_le {α : Type} (l : List α) (b : Bool) : (rep01 l b).length ≤ l.length := by unfold rep01; split <;> simp
structure Good (q : Sq) : Prop where
  len : 1 ≤ q.1.length ∧ q.1.length ≤ 6
  nd : q.1.Nodup
  sp : ∀ p ∈ q.1, (0 ≤ p.1 ∧ p.1 ≤ 5) ∧ (0 ≤ p.2 ∧ p.2 ≤ 5)
  di : Keys q.1.length q.2
theorem good_iff {q : Sq} : sqOk q = true ↔ Good q := by
  unfold sqOk sqB
  simp only [Bool.and_eq_true, decide_eq_true_iff, List.all_eq_true]
  constructor
  · rintro ⟨⟨h1, h2⟩, h3, h4⟩
    refine ⟨h1, h3, fun p hp => ?_, keys_iff.mp h4⟩
    have := h2 p hp
    unfold spotB at this
    simpa using this
  · intro h
    refine ⟨⟨h.len, fun p hp => ?_⟩, h.nd, keys_iff.mpr h.di⟩
    have := h.sp p hp
    unfold spotB
    simpa using this
/-- the spots: none twice, in their bounds, at most so many -/
structure SpI (many : Int) (l : List (Int × Int)) : Prop where
  nd : l.Nodup
  sp : ∀ p ∈ l, (0 ≤ p.1 ∧ p.1 ≤ 5) ∧ (0 ≤ p.2 ∧ p.2 ≤ 5)
  len : (l.length : Int) ≤ many
theorem spI_step {s : Scr} {at' many wide shift k : Int} {l : List (Int × Int)} (hw : 2 ≤ wide ∧ wide ≤ 3) (hs : 0 ≤ shift ∧ shift ≤ 2) (h : SpI many l) : SpI many (T__law_square_L1 s at' many wide shift l k) := by
  unfold T__law_square_L1 T__law_square_L1_1 T__law_square_L1_2
  generalize hx : (at' + 3 + 2 * k : Int) = here
  have d1 := drawS_lt s here (m := wide) (by omega)
  have d2 := drawS_lt s (here + 1) (m := wide) (by omega)
  generalize drawS s here wide = a at *
  generalize drawS s (here + 1) wide = b at *
  unfold rep01
  split
  · rename_i c
    simp only [Bool.and_eq_true, Bool.not_eq_true', inE_no, decide_eq_true_iff] at c
    refine ⟨?_, fun p hp => ?_, ?_⟩
    · rw [List.nodup_append]
      refine ⟨h.nd, by simp, fun x hx y hy e => ?_⟩
      rw [List.mem_singleton] at hy
      subst hy; subst e
      exact c.1 hx
    · rcases List.mem_append.mp hp with z | z
      · exact h.sp p z
      · rw [List.mem_singleton] at z
        subst z
        simp only
        omega
    · rw [List.length_append, List.length_singleton]
      have := c.2
      push_cast
      omega
  · rw [List.append_nil]; exact h
theorem sp_ne {s : Scr} {at' many wide shift k : Int} {l : List (Int × Int)} (hm : 1 ≤ many) : T__law_square_L1 s at' many wide shift l k ≠ [] := by
  unfold T__law_square_L1 T__law_square_L1_1 T__law_square_L1_2
  cases l with
  | nil => simp [rep01, inE]; omega
  | cons x r => simp
theorem law_square_ok (s : Scr) (at' : Int) {most : Int} (hm : 1 ≤ most ∧ most ≤ 6) : P__law_square s at' most ∧ Good (T__law_square s at' most) ∧ ((T__law_square s at' most).1.length : Int) ≤ most := by
  unfold P__law_square T__law_square P__law_square_1 T__law_square_1 P__law_square_2 T__law_square_2 P__law_square_3 T__law_square_3 P__law_square_4 T__law_square_4 P__law_square_5 T__law_square_5 P__law_square_6 T__law_square_6 T__law_square_7
  have d0 := drawS_lt s at' (m := most) (by omega)
  have d1 := drawS_lt s (at' + 1) (m := 2) (by omega)
  have d2 := drawS_lt s (at' + 2) (m := 3) (by omega)
  have d3 := drawS_lt s (at' + 60) (m := 3) (by omega)
  generalize drawS s at' most = m0 at *
  generalize drawS s (at' + 1) 2 = w0 at *
  generalize drawS s (at' + 2) 3 = shift at *
  generalize drawS s (at' + 60) 3 = r0 at *
  have hw : 2 ≤ 2 + w0 ∧ 2 + w0 ≤ 3 := by omega
  have hs : 0 ≤ shift ∧ shift ≤ 2 := by omega
  generalize 2 + w0 = wide at *
  have h0 : SpI (1 + m0) ([] : List (Int × Int)) := ⟨List.nodup_nil, fun _ h => (by cases h), by simp; omega⟩
  have hf : SpI (1 + m0) ((rgI 0 (4 * (1 + m0))).foldl (fun (s' : List (Int × Int)) (k' : Int) => T__law_square_L1 s at' (1 + m0) wide shift s' k') []) :=
    foldl_inv (SpI (1 + m0)) _ _ h0 fun k _ l hl => spI_step hw hs hl
  have hne : (rgI 0 (4 * (1 + m0))).foldl (fun (s' : List (Int × Int)) (k' : Int) => T__law_square_L1 s at' (1 + m0) wide shift s' k') [] ≠ [] := by
    rw [rgI_cons (by omega), List.foldl_cons]
    exact foldl_inv (· ≠ []) _ _ (sp_ne (by omega)) fun k _ l _ => sp_ne (by omega)
  have hin : InIx [(2 : Int), 4, 9] r0 := inIx_of d3.1 (by simpa using d3.2)
  have hr : 0 < ixE [(2 : Int), 4, 9] r0 := by
    have := ixE_mem hin
    simp at this
    omega
  generalize (rgI 0 (4 * (1 + m0))).foldl (fun (s' : List (Int × Int)) (k' : Int) => T__law_square_L1 s at' (1 + m0) wide shift s' k') [] = sp at *
  generalize ixE [(2 : Int), 4, 9] r0 = rare at *
  have hl := hf.len
  have hp : 0 < sp.length := List.length_pos_iff.mpr hne
  refine ⟨⟨by unfold PDraw; omega, ⟨rgIn_of (by omega), fun _ => SpI (1 + m0), h0, fun _ k _ l hl2 => ⟨?_, spI_step hw hs hl2⟩⟩, hin, rgIn_of (by omega), fun k _ => hr⟩, ?_, ?_⟩
  · unfold P__law_square_L1 P__law_square_L1_1 P__law_square_L1_2 PDraw
    refine ⟨⟨by omega, by omega⟩, lim_of (by simp), lim_of ?_⟩
    have h1 := hl2.len
    refine Nat.le_trans (Nat.add_le_add_left (rep01_le _ _) _) ?_
    simp only [List.length_singleton]
    omega
  · refine ⟨⟨hp, by show sp.length ≤ 6; omega⟩, hf.nd, hf.sp, ?_⟩
    exact (keys_rg _).filter _
  · simp only
    omega
theorem law_set_ok (s : Scr) (at' : Int) {many : Int} (hm : 0 ≤ many ∧ many ≤ 1000) : P__law_set s at' many ∧ Keys many (T__law_set s at' many) := by
  unfold P__law_set T__law_set
  exact ⟨rgIn_of (by omega), (keys_rg _).filter _⟩
end DL

/-! MA3: squares turned, made tight, with other diodes. -/
namespace DL
open PySem PySem.Spec PyProof.Rows L2

@[simp] theorem ixE_20 {a b : Int} : ixE [a, b] 0 = a := rfl
@[simp] theorem ixE_21 {a b : Int} : ixE [a, b] 1 = b := rfl
theorem psq {q : Sq} (h : Good q) : PSq q := good_iff.mpr h
theorem psqlen {q : Sq} (h : Good q) : PSqLen q := ⟨h.len.1, h.len.2, sqOk_lim (good_iff.mpr h)⟩
theorem pkeys {q : Sq} {l : List Int} (h : Good q) (hk : Keys q.1.length l) : PKeys q l := ⟨keys_iff.mpr hk, h.len.2⟩
theorem pwith {q : Sq} {l : List Int} (h : Good q) (hk : Keys q.1.length l) : PWith q l := ⟨good_iff.mpr h, keys_iff.mpr hk⟩
theorem wset_pw (l : List Int) : (wset l).Pairwise (· < ·) := (wset_spec l).2.1
theorem mem_wset {l : List Int} {x : Int} : x ∈ wset l ↔ x ∈ l := (wset_spec l).2.2 x
theorem wset_nd (l : List Int) : (wset l).Nodup := (wset_pw l).imp fun h => Int.ne_of_lt h
theorem wset_len (l : List Int) : (wset l).length ≤ l.length := nodup_le _ _ (wset_nd l) fun x hx => mem_wset.mp hx
theorem wset_eq {l k : List Int} (h : ∀ x, x ∈ l ↔ x ∈ k) : wset l = wset k := lt_uniq (wset_pw l) (wset_pw k) fun x => by rw [mem_wset, mem_wset, h]
theorem idxOf_get {l : List Int} (nd : l.Nodup) {i : Nat} (h : i < l.length) : l.idxOf l[i] = i := by
  induction l generalizing i with
  | nil => exact absurd h (by simp)
  | cons x r ih =>
    rw [List.nodup_cons] at nd
    cases i with
    | zero => simp
    | succ i =>
      have hi : i < r.length := by simpa using h
      have hne : x ≠ r[i] := fun e => nd.1 (e ▸ List.getElem_mem hi)
      rw [List.getElem_cons_succ, List.idxOf_cons, show (x == r[i]) = false from beq_false_of_ne hne]
      simp [ih nd.2 hi]
theorem place_lt {l : List Int} {x : Int} (h : x ∈ l) : 0 ≤ place l x ∧ place l x < l.length := by
  unfold place
  have := List.idxOf_lt_length_of_mem h
  omega
theorem place_inj {l : List Int} {x y : Int} (hx : x ∈ l) (h : place l x = place l y) (hy : y ∈ l) : x = y := by
  unfold place at h
  have h' : l.idxOf x = l.idxOf y := by omega
  have a1 := List.idxOf_lt_length_of_mem hx
  have a2 := List.idxOf_lt_length_of_mem hy
  have e1 : l[l.idxOf x] = x := List.getElem_idxOf a1
  have e2 : l[l.idxOf y] = y := List.getElem_idxOf a2
  rw [← e1, ← e2]
  simp only [h']
theorem wset_place (l : List Int) : wset (l.map (place (wset l))) = rgI 0 (wset l).length := by
  refine lt_uniq (wset_pw _) (rgI_pw _ _) fun x => ?_
  rw [mem_wset, List.mem_map, mem_rgI]
  constructor
  · rintro ⟨y, hy, rfl⟩
    exact place_lt (mem_wset.mpr hy)
  · rintro ⟨h0, h1⟩
    have hi : x.toNat < (wset l).length := by omega
    refine ⟨(wset l)[x.toNat], mem_wset.mp (List.getElem_mem hi), ?_⟩
    unfold place
    rw [idxOf_get (wset_nd l) hi]
    omega
theorem place_rg {n x : Int} (h0 : 0 ≤ x) (h1 : x < n) : place (rgI 0 n) x = x := by
  have hi : x.toNat < (rgI 0 n).length := by rw [rgI_length]; omega
  have e : (rgI 0 n)[x.toNat] = x := by
    unfold rgI
    simp
    omega
  unfold place
  have := idxOf_get ((rgI_pw 0 n).imp fun h => Int.ne_of_lt h) hi
  rw [e] at this
  omega
theorem rows_tight (sp : List (Int × Int)) : rowsW (tightS sp) = rgI 0 (rowsW sp).length := by
  have : (tightS sp).map (·.1) = (sp.map (·.1)).map (place (rowsW sp)) := by
    unfold tightS
    rw [List.map_map, List.map_map]; rfl
  unfold rowsW at this ⊢
  rw [this, wset_place]
theorem cols_tight (sp : List (Int × Int)) : colsW (tightS sp) = rgI 0 (colsW sp).length := by
  have : (tightS sp).map (·.2) = (sp.map (·.2)).map (place (colsW sp)) := by
    unfold tightS
    rw [List.map_map, List.map_map]; rfl
  unfold colsW at this ⊢
  rw [this, wset_place]
theorem mem_rows {sp : List (Int × Int)} {p : Int × Int} (h : p ∈ sp) : p.1 ∈ rowsW sp := mem_wset.mpr (List.mem_map.mpr ⟨p, h, rfl⟩)
theorem mem_cols {sp : List (Int × Int)} {p : Int × Int} (h : p ∈ sp) : p.2 ∈ colsW sp := mem_wset.mpr (List.mem_map.mpr ⟨p, h, rfl⟩)
theorem tight_tight (sp : List (Int × Int)) : tightS (tightS sp) = tightS sp := by
  show (tightS sp).map (fun p => (place (rowsW (tightS sp)) p.1, place (colsW (tightS sp)) p.2)) = tightS sp
  rw [rows_tight, cols_tight]
  refine (List.map_congr_left fun p hp => ?_).trans (List.map_id _)
  unfold tightS at hp
  obtain ⟨q, hq, rfl⟩ := List.mem_map.mp hp
  have h1 := place_lt (mem_rows hq)
  have h2 := place_lt (mem_cols hq)
  simp only [place_rg h1.1 h1.2, place_rg h2.1 h2.2, id_eq]
@[simp] theorem tightS_len (sp : List (Int × Int)) : (tightS sp).length = sp.length := List.length_map _
theorem rows_swap (sp : List (Int × Int)) : rowsW (sp.map Prod.swap) = colsW sp := by
  unfold rowsW colsW
  rw [List.map_map]; rfl
theorem cols_swap (sp : List (Int × Int)) : colsW (sp.map Prod.swap) = rowsW sp := by
  unfold rowsW colsW
  rw [List.map_map]; rfl
theorem tight_swap (sp : List (Int × Int)) : tightS (sp.map Prod.swap) = (tightS sp).map Prod.swap := by
  unfold tightS
  rw [rows_swap, cols_swap, List.map_map, List.map_map]; rfl
@[simp] theorem swap_swap (sp : List (Int × Int)) : (sp.map Prod.swap).map Prod.swap = sp := by
  rw [List.map_map]
  exact (List.map_congr_left fun p _ => rfl).trans (List.map_id _)
theorem nodup_map_of {α β : Type} {f : α → β} : ∀ {l : List α}, l.Nodup → (∀ x ∈ l, ∀ y ∈ l, f x = f y → x = y) → (l.map f).Nodup
  | [], _, _ => List.nodup_nil
  | x :: r, nd, h => by
    rw [List.nodup_cons] at nd
    rw [List.map_cons, List.nodup_cons]
    refine ⟨fun hm => ?_, nodup_map_of nd.2 fun a ha b hb => h a (List.mem_cons_of_mem _ ha) b (List.mem_cons_of_mem _ hb)⟩
    obtain ⟨y, hy, e⟩ := List.mem_map.mp hm
    exact nd.1 (h y (List.mem_cons_of_mem _ hy) x List.mem_cons_self e ▸ hy)
theorem rows_len {q : Sq} (h : Good q) : (rowsW q.1).length ≤ 6 := by
  have := wset_len (q.1.map (·.1))
  rw [List.length_map] at this
  exact Nat.le_trans this h.len.2
theorem cols_len {q : Sq} (h : Good q) : (colsW q.1).length ≤ 6 := by
  have := wset_len (q.1.map (·.2))
  rw [List.length_map] at this
  exact Nat.le_trans this h.len.2
theorem Good.turned {q : Sq} (h : Good q) : Good (turnedQ q) where
  len := by show 1 ≤ (q.1.map Prod.swap).length ∧ (q.1.map Prod.swap).length ≤ 6; rw [List.length_map]; exact h.len
  nd := nodup_map_of h.nd fun x _ y _ e => by
    have := congrArg Prod.swap e
    simpa using this
  sp := fun p hp => by
    obtain ⟨r, hr, rfl⟩ := List.mem_map.mp hp
    have := h.sp r hr
    exact ⟨this.2, this.1⟩
  di := by show Keys (q.1.map Prod.swap).length q.2; rw [List.length_map]; exact h.di
theorem Good.tight {q : Sq} (h : Good q) : Good (tightQ q) where
  len := by show 1 ≤ (tightS q.1).length ∧ (tightS q.1).length ≤ 6; rw [tightS_len]; exact h.len
  nd := nodup_map_of h.nd fun x hx y hy e => by
    simp only [Prod.mk.injEq] at e
    exact Prod.ext (place_inj (mem_rows hx) e.1 (mem_rows hy)) (place_inj (mem_cols hx) e.2 (mem_cols hy))
  sp := fun p hp => by
    obtain ⟨r, hr, rfl⟩ := List.mem_map.mp hp
    have h1 := place_lt (mem_rows hr)
    have h2 := place_lt (mem_cols hr)
    have h3 := rows_len h
    have h4 := cols_len h
    exact ⟨⟨h1.1, by show place (rowsW q.1) r.1 ≤ 5; omega⟩, h2.1, by show place (colsW q.1) r.2 ≤ 5; omega⟩
  di := by show Keys (tightS q.1).length q.2; rw [tightS_len]; exact h.di
theorem Good.withD {q : Sq} {l : List Int} (h : Good q) (hk : Keys q.1.length l) : Good (withD q l) := ⟨h.len, h.nd, h.sp, hk⟩
theorem wires_turned (q : Sq) : wiresN (turnedQ q) = wiresN q := by
  unfold wiresN turnedQ
  simp only [rows_swap, cols_swap]
  omega
theorem wires_tight (q : Sq) : wiresN (tightQ q) = wiresN q := by
  unfold wiresN tightQ
  simp only [rows_tight, cols_tight, rgI_length]
  omega
theorem lsE_nd {α : Type} [DecidableEq α] {l : List α} (nd : l.Nodup) : lsE l = l.length := lsE_eq nd fun _ => Iff.rfl
theorem lsE_int (l : List Int) : lsE l = (wset l).length := lsE_eq (wset_nd l) fun x => mem_wset.symm
@[simp] theorem idxE_place (l : List Int) (x : Int) : idxE l x = place l x := rfl
end DL

/-! MB1: what is seen: rows and columns that are led to. -/
namespace DL
open PySem PySem.Spec PyProof.Rows L2

theorem whl_inv {σ : Type} {c : σ → Bool} {st : σ → σ} (I : σ → Prop) (m : σ → Nat) (h : ∀ s, I s → c s = true → I (st s) ∧ m (st s) < m s) : ∀ (n : Nat) (s : σ), I s → m s < n → WhlOk c st n s ∧ I (whl c st n s) ∧ c (whl c st n s) = false
  | 0, _, _, hm => absurd hm (Nat.not_lt_zero _)
  | n + 1, s, hi, hm => by
    unfold WhlOk whl
    cases q : c s with
    | false => exact ⟨fun z => (by cases z), hi, q⟩
    | true =>
      obtain ⟨h1, h2⟩ := h s hi q
      obtain ⟨a, b, d⟩ := whl_inv I m h n (st s) h1 (by omega)
      exact ⟨fun _ => a, b, d⟩
def rowK (q : Sq) (k : Int) : Int := (ixE q.1 k).1
def colK (q : Sq) (k : Int) : Int := (ixE q.1 k).2
/-- a row to which one is led -/
inductive RowR (q : Sq) (pr : List Int) (r0 : Int) : Int → Prop
  | here : RowR q pr r0 r0
  | step {k k' : Int} : RowR q pr r0 (rowK q k) → k ∈ pr → k' ∈ pr → colK q k' = colK q k → k' ∉ q.2 → RowR q pr r0 (rowK q k')
/-- a column to which one is led -/
def ColR (q : Sq) (pr : List Int) (r0 c : Int) : Prop := ∃ k ∈ pr, RowR q pr r0 (rowK q k) ∧ colK q k = c

section
variable {q : Sq} {pr rows cols : List Int} {r0 c : Int}
theorem mem_back : ∀ {x : Int}, x ∈ T_back_rows q pr c ↔ ∃ k ∈ pr, colK q k = c ∧ k ∉ q.2 ∧ rowK q k = x := by
  intro x
  unfold T_back_rows T_back_rows_1
  simp only [List.mem_map, List.mem_filter, Bool.and_eq_true, decide_eq_true_iff, Bool.not_eq_true', inE_no]
  constructor
  · rintro ⟨k, ⟨h1, h2, h3⟩, h4⟩; exact ⟨k, h1, h2, h3, h4⟩
  · rintro ⟨k, h1, h2, h3, h4⟩; exact ⟨k, ⟨h1, h2, h3⟩, h4⟩
theorem cut_take {α : Type} (l : List α) (i : Nat) : cutE l none (some (i : Int)) = l.take i := by
  unfold cutE
  have e0 : HT.sIx l.length 0 none = 0 := rfl
  rw [e0, List.drop_zero, Nat.sub_zero]
  by_cases h : i ≤ l.length
  · rw [sIx_some h]
  · rw [sIx_big (by omega), List.take_of_length_le (Nat.le_refl _), List.take_of_length_le (by omega)]
theorem cut_drop {α : Type} (l : List α) (i : Nat) : cutE l (some (i : Int)) none = l.drop i := by
  unfold cutE
  rw [sIx_none]
  by_cases h : i ≤ l.length
  · rw [sIx_some h, List.take_of_length_le (by rw [List.length_drop]; exact Nat.le_refl _)]
  · rw [sIx_big (by omega), List.drop_length, List.drop_of_length_le (by omega)]
    simp
theorem mem_new (rows more : List Int) (x : Int) : ∀ (k : Nat) (pre r : List Int), more = pre ++ r → k = pre.length →
    (x ∈ ((enE r k).filter fun z : Int × Int => !inE z.2 rows && !inE z.2 (cutE more none (some z.1))).map (·.2) ↔ x ∈ r ∧ x ∉ rows ∧ x ∉ pre)
  | k, pre, [], _, _ => by simp [enE]
  | k, pre, y :: r, he, hk => by
    have ih := mem_new rows more x (k + 1) (pre ++ [y]) r (by rw [he, List.append_assoc]; rfl) (by rw [List.length_append, List.length_singleton, hk])
    unfold enE
    have e1 : cutE more none (some (k : Int)) = pre := by
      rw [cut_take, he, hk, List.take_left]
    rw [List.filter_cons]
    by_cases c : y ∉ rows ∧ y ∉ pre
    · rw [if_pos (by simp [e1, c.1, c.2]), List.map_cons, List.mem_cons, ih]
      simp only [List.mem_append, List.mem_singleton, List.mem_cons]
      constructor
      · rintro (rfl | ⟨h1, h2, h3⟩)
        · exact ⟨.inl rfl, c.1, c.2⟩
        · exact ⟨.inr h1, h2, fun z => h3 (.inl z)⟩
      · rintro ⟨h1 | h1, h2, h3⟩
        · exact .inl h1
        · by_cases e : x = y
          · exact .inl e
          · exact .inr ⟨h1, h2, fun z => z.elim h3 fun z => e (by simpa using z)⟩
    · rw [if_neg (by simp only [e1, Bool.and_eq_true, Bool.not_eq_true', inE_no]; exact c), ih]
      simp only [List.mem_append, List.mem_singleton, List.mem_cons]
      constructor
      · rintro ⟨h1, h2, h3⟩
        exact ⟨.inr h1, h2, fun z => h3 (.inl z)⟩
      · rintro ⟨h1, h2, h3⟩
        have e : x ≠ y := fun e => c (by subst e; exact ⟨h2, h3⟩)
        rcases h1 with h1 | h1
        · exact absurd h1 e
        · exact ⟨h1, h2, fun z => z.elim h3 fun z => e (by simpa using z)⟩
theorem nodup_new (rows more : List Int) : ∀ (k : Nat) (pre r : List Int), more = pre ++ r → k = pre.length →
    (((enE r k).filter fun z : Int × Int => !inE z.2 rows && !inE z.2 (cutE more none (some z.1))).map (·.2)).Nodup
  | k, pre, [], _, _ => by simp [enE]
  | k, pre, y :: r, he, hk => by
    have he' : more = (pre ++ [y]) ++ r := by rw [he, List.append_assoc]; rfl
    have hk' : k + 1 = (pre ++ [y]).length := by rw [List.length_append, List.length_singleton, hk]
    have ih := nodup_new rows more (k + 1) (pre ++ [y]) r he' hk'
    unfold enE
    rw [List.filter_cons]
    split
    · rw [List.map_cons, List.nodup_cons]
      refine ⟨fun h => ?_, ih⟩
      have := (mem_new rows more y (k + 1) (pre ++ [y]) r he' hk').mp h
      exact this.2.2 (by simp)
    · exact ih
theorem mem_more {more : List Int} {x : Int} : x ∈ T_with_more rows more ↔ x ∈ rows ∨ x ∈ more := by
  unfold T_with_more
  rw [List.mem_append, mem_new rows more x 0 [] more rfl rfl]
  constructor
  · rintro (h | ⟨h, _⟩)
    · exact .inl h
    · exact .inr h
  · intro h
    by_cases c : x ∈ rows
    · exact .inl c
    · exact .inr ⟨h.elim (fun z => absurd z c) fun z => z, c, by simp⟩
theorem nodup_more {more : List Int} (h : rows.Nodup) : (T_with_more rows more).Nodup := by
  unfold T_with_more
  rw [List.nodup_append]
  refine ⟨h, nodup_new rows more 0 [] more rfl rfl, fun a ha b hb e => ?_⟩
  have := (mem_new rows more b 0 [] more rfl rfl).mp hb
  exact this.2.1 (e ▸ ha)
theorem more_pre (more : List Int) : rows <+: T_with_more rows more := ⟨_, rfl⟩
theorem ixE_pre {l k : List Int} {i : Int} (h : l <+: k) (h0 : 0 ≤ i) (h1 : i < l.length) : ixE k i = ixE l i := by
  obtain ⟨t, rfl⟩ := h
  rw [ixE_nat h0, ixE_nat h0]
  have : i.toNat < l.length := by omega
  simp [List.getD_eq_getElem?_getD, List.getElem?_append_left this]
/-- a turn of the inner loop, a key after another one -/
structure InnI (q : Sq) (pr : List Int) (r0 : Int) (s : List Int × List Int) : Prop where
  nd : s.1.Nodup
  rw : ∀ r ∈ s.1, RowR q pr r0 r ∧ (r = r0 ∨ ∃ k ∈ pr, r = rowK q k)
  cnd : s.2.Nodup
  cl : ∀ c ∈ s.2, ColR q pr r0 c
  back : ∀ c ∈ s.2, ∀ k ∈ pr, colK q k = c → k ∉ q.2 → rowK q k ∈ s.1
  h0 : r0 ∈ s.1
theorem inner_step {s : List Int × List Int} {at' key : Int} (h : InnI q pr r0 s) (hk : key ∈ pr) (hat : 0 ≤ at' ∧ at' < s.1.length) :
    let s2 := T_columns_from_L2 q pr s.1 s.2 at' key
    InnI q pr r0 s2 ∧ s.1 <+: s2.1 ∧ (∀ c ∈ s.2, c ∈ s2.2) ∧ (rowK q key = ixE s.1 at' → colK q key ∈ s2.2) := by
  intro s2
  have hin : ixE s.1 at' ∈ s.1 := ixE_mem (inIx_of hat.1 hat.2)
  have e : s2 = if (decide (rowK q key = ixE s.1 at') && !inE (colK q key) s.2) then (T_with_more s.1 (T_back_rows q pr (colK q key)), s.2 ++ [colK q key]) else s := rfl
  by_cases c : rowK q key = ixE s.1 at' ∧ colK q key ∉ s.2
  · rw [if_pos (by simp [c.1, c.2])] at e
    rw [e]
    have hr := (h.rw _ hin).1
    rw [← c.1] at hr
    refine ⟨⟨nodup_more h.nd, fun r hr2 => ?_, ?_, fun x hx => ?_, fun x hx k hk2 e1 e2 => ?_, ?_⟩, more_pre _, fun x hx => List.mem_append_left _ hx, fun _ => by simp⟩
    · rcases mem_more.mp hr2 with z | z
      · exact h.rw r z
      · obtain ⟨k, h1, h2, h3, rfl⟩ := mem_back.mp z
        exact ⟨.step hr hk h1 h2 h3, .inr ⟨k, h1, rfl⟩⟩
    · rw [List.nodup_append]
      refine ⟨h.cnd, by simp, fun a ha b hb e => ?_⟩
      rw [List.mem_singleton] at hb
      exact c.2 (hb ▸ e ▸ ha)
    · rcases List.mem_append.mp hx with z | z
      · exact h.cl x z
      · rw [List.mem_singleton] at z
        exact ⟨key, hk, hr, z.symm⟩
    · rcases List.mem_append.mp hx with z | z
      · exact mem_more.mpr (.inl (h.back x z k hk2 e1 e2))
      · rw [List.mem_singleton] at z
        exact mem_more.mpr (.inr (mem_back.mpr ⟨k, hk2, e1.trans z, e2, rfl⟩))
    · exact mem_more.mpr (.inl h.h0)
  · rw [if_neg (by simp only [Bool.and_eq_true, decide_eq_true_iff, Bool.not_eq_true', inE_no]; exact c)] at e
    rw [e]
    refine ⟨h, List.prefix_refl _, fun x hx => hx, fun z => ?_⟩
    exact Classical.byContradiction fun z2 => c ⟨z, z2⟩
theorem inner_loop {at' : Int} : ∀ (ks : List Int) (s : List Int × List Int), InnI q pr r0 s → (∀ k ∈ ks, k ∈ pr) → 0 ≤ at' ∧ at' < s.1.length →
    let s2 := ks.foldl (fun (s' : List Int × List Int) (key' : Int) => T_columns_from_L2 q pr s'.1 s'.2 at' key') s
    InnI q pr r0 s2 ∧ s.1 <+: s2.1 ∧ (∀ c ∈ s.2, c ∈ s2.2) ∧ ∀ k ∈ ks, rowK q k = ixE s.1 at' → colK q k ∈ s2.2
  | [], s, h, _, _ => ⟨h, List.prefix_refl _, fun _ hx => hx, fun _ hk => by cases hk⟩
  | key :: ks, s, h, hk, hat => by
    obtain ⟨h1, h2, h3, h4⟩ := inner_step h (hk key List.mem_cons_self) hat
    have hlen := h2.length_le
    obtain ⟨g1, g2, g3, g4⟩ := inner_loop ks _ h1 (fun k hk2 => hk k (List.mem_cons_of_mem _ hk2)) (at' := at') ⟨hat.1, by omega⟩
    refine ⟨g1, h2.trans g2, fun c hc => g3 c (h3 c hc), fun k hk2 e => ?_⟩
    rcases List.mem_cons.mp hk2 with rfl | hk2
    · exact g3 _ (h4 e)
    · exact g4 k hk2 (e.trans (ixE_pre h2 hat.1 hat.2).symm)
/-- the outer loop -/
structure OutI (q : Sq) (pr : List Int) (r0 : Int) (s : List Int × List Int × Int) : Prop where
  inn : InnI q pr r0 (s.1, s.2.1)
  at0 : 0 ≤ s.2.2 ∧ s.2.2 ≤ s.1.length
  seen : ∀ i : Int, 0 ≤ i → i < s.2.2 → ∀ k ∈ pr, rowK q k = ixE s.1 i → colK q k ∈ s.2.1
theorem inn_len {s : List Int × List Int} (h : InnI q pr r0 s) : s.1.length ≤ pr.length + 1 ∧ s.2.length ≤ pr.length := by
  constructor
  · have := nodup_le s.1 (r0 :: pr.map (rowK q)) h.nd fun r hr => by
      rcases (h.rw r hr).2 with rfl | ⟨k, hk, rfl⟩
      · exact List.mem_cons_self
      · exact List.mem_cons_of_mem _ (List.mem_map.mpr ⟨k, hk, rfl⟩)
    rw [List.length_cons, List.length_map] at this
    exact this
  · have := nodup_le s.2 (pr.map (colK q)) h.cnd fun r hr => by
      obtain ⟨k, hk, _, rfl⟩ := h.cl r hr
      exact List.mem_map.mpr ⟨k, hk, rfl⟩
    rw [List.length_map] at this
    exact this
theorem outer_step {s : List Int × List Int × Int} (h : OutI q pr r0 s) (hc : decide (s.2.2 < (s.1.length : Int)) = true) :
    OutI q pr r0 (T_columns_from_L1 q pr s.1 s.2.1 s.2.2) ∧ (T_columns_from_L1 q pr s.1 s.2.1 s.2.2).2.2 = s.2.2 + 1 := by
  rw [decide_eq_true_iff] at hc
  obtain ⟨g1, g2, g3, g4⟩ := inner_loop pr (s.1, s.2.1) h.inn (fun k hk => hk) (at' := s.2.2) ⟨h.at0.1, hc⟩
  have hlen := g2.length_le
  refine ⟨⟨g1, ⟨?_, ?_⟩, fun i h0 h1 k hk e => ?_⟩, rfl⟩
  · have := h.at0.1
    show 0 ≤ s.2.2 + 1
    omega
  · show s.2.2 + 1 ≤ ((pr.foldl (fun (s' : List Int × List Int) (key' : Int) => T_columns_from_L2 q pr s'.1 s'.2 s.2.2 key') (s.1, s.2.1)).1.length : Int)
    simp only at hlen
    omega
  · have h1' : i < s.2.2 + 1 := h1
    have h2 : i < s.1.length := by omega
    have e2 : rowK q k = ixE s.1 i := e.trans (ixE_pre g2 h0 h2)
    by_cases c : i = s.2.2
    · subst c; exact g4 k hk e2
    · exact g3 _ (h.seen i h0 (by omega) k hk e2)
theorem out_start : OutI q pr r0 ([r0], [], 0) where
  inn := ⟨by simp, fun r hr => by rw [List.mem_singleton] at hr; subst hr; exact ⟨.here, .inl rfl⟩, List.nodup_nil, fun _ h => (by cases h), fun _ h => (by cases h), by simp⟩
  at0 := by simp
  seen := fun i h0 h1 => by simp only at h1; omega
theorem out_end {s : List Int × List Int × Int} (h : OutI q pr r0 s) (hc : decide (s.2.2 < (s.1.length : Int)) = false) (c : Int) : c ∈ s.2.1 ↔ ColR q pr r0 c := by
  rw [decide_eq_false_iff_not] at hc
  have hall : ∀ r ∈ s.1, ∀ k ∈ pr, rowK q k = r → colK q k ∈ s.2.1 := fun r hr k hk e => by
    obtain ⟨i, h0, h1, e1⟩ := mem_ixE hr
    exact h.seen i h0 (by omega) k hk (e.trans e1.symm)
  have hrow : ∀ r, RowR q pr r0 r → r ∈ s.1 := fun r hr => by
    induction hr with
    | here => exact h.inn.h0
    | step _ hk hk' e nd ih => exact h.inn.back _ (hall _ ih _ hk rfl) _ hk' e nd
  constructor
  · exact fun hx => h.inn.cl c hx
  · rintro ⟨k, hk, hr, rfl⟩
    exact hall _ (hrow _ hr) k hk rfl
abbrev stC (q : Sq) (pr : List Int) : (List Int × List Int × Int) → (List Int × List Int × Int) := fun s' => T_columns_from_L1 q pr s'.1 s'.2.1 s'.2.2
abbrev cC : (List Int × List Int × Int) → Bool := fun s' => decide (s'.2.2 < (s'.1.length : Int))
theorem cols_loop (hl : pr.length ≤ 100) (r0 : Int) : WhlOk cC (stC q pr) FUEL ([r0], [], 0) ∧ OutI q pr r0 (whl cC (stC q pr) FUEL ([r0], [], 0)) ∧ cC (whl cC (stC q pr) FUEL ([r0], [], 0)) = false := by
  refine whl_inv (OutI q pr r0) (fun s => (101 - s.2.2).toNat) (fun s hs hc => ?_) FUEL _ out_start (by unfold FUEL; simp)
  obtain ⟨h1, h2⟩ := outer_step hs hc
  refine ⟨h1, ?_⟩
  have h3 := (inn_len hs.inn).1
  have h4 := hs.at0
  have hc' : s.2.2 < (s.1.length : Int) := by simpa using hc
  show (101 - (T_columns_from_L1 q pr s.1 s.2.1 s.2.2).2.2).toNat < _
  rw [h2]
  simp only at h3
  omega
theorem mem_cols_from (hl : pr.length ≤ 100) : c ∈ T_columns_from q pr r0 ↔ ColR q pr r0 c := by
  obtain ⟨_, h2, h3⟩ := cols_loop (q := q) hl r0
  have : T_columns_from q pr r0 = sortE (ltE eI) (whl cC (stC q pr) FUEL ([r0], [], 0)).2.1 := rfl
  rw [this, mem_sortE]
  exact out_end h2 h3 c
/-! ### what the code asks -/
theorem p_back (hl : pr.length ≤ 100) (hk : ∀ k ∈ pr, InIx q.1 k) : P_back_rows q pr c := by
  unfold P_back_rows P_back_rows_1
  exact ⟨lim_of (by omega), fun k hk2 => ⟨hk k hk2, fun _ => hk k hk2⟩⟩
theorem back_len : (T_back_rows q pr c).length ≤ pr.length := by
  unfold T_back_rows T_back_rows_1
  rw [List.length_map]
  exact List.length_filter_le _ _
theorem p_more {more : List Int} (h1 : rows.length ≤ 1000) (h2 : more.length ≤ 1000) : P_with_more rows more := by
  unfold P_with_more
  refine ⟨lim_of (by rw [enE_length]; omega), lim_of ?_⟩
  rw [List.length_map]
  have := List.length_filter_le (fun (z_place_one' : Int × Int) => (!(inE z_place_one'.2 rows)) && (!(inE z_place_one'.2 (cutE more none (some z_place_one'.1))))) (enE more)
  rw [enE_length] at this
  omega
theorem p_inner {s : List Int × List Int} {at' key : Int} (hl : pr.length ≤ 100) (hk : ∀ k ∈ pr, InIx q.1 k) (h : InnI q pr r0 s) (hkey : key ∈ pr) (hat : 0 ≤ at' ∧ at' < s.1.length) : P_columns_from_L2 q pr s.1 s.2 at' key := by
  have h3 := inn_len h
  unfold P_columns_from_L2 P_columns_from_L3 P_columns_from_L3_1
  have b := back_len (q := q) (pr := pr) (c := (ixE q.1 key).2)
  exact ⟨⟨⟨hk _ hkey, inIx_of hat.1 hat.2⟩, fun _ => hk _ hkey⟩, fun _ => ⟨⟨hk _ hkey, lt_lim_of (by omega)⟩, ⟨hk _ hkey, p_back hl hk⟩, p_more (by omega) (by omega)⟩⟩
theorem p_cols (hl : pr.length ≤ 100) (hk : ∀ k ∈ pr, InIx q.1 k) : P_columns_from q pr r0 := by
  unfold P_columns_from P_columns_from_1 P_columns_from_2 P_columns_from_3
  obtain ⟨h1, _, _⟩ := cols_loop (q := q) hl r0
  refine ⟨h1, OutI q pr r0, out_start, fun s hs => ⟨fun hc => ?_, fun hc => (outer_step hs hc).1⟩⟩
  unfold P_columns_from_L1
  have hc' : s.2.2 < (s.1.length : Int) := by simpa using hc
  refine ⟨fun _ s2 => InnI q pr r0 s2 ∧ s.2.2 < (s2.1.length : Int), ⟨hs.inn, hc'⟩, fun i key hi s2 hs2 => ?_⟩
  have hkey := List.mem_of_getElem? hi
  refine ⟨p_inner hl hk hs2.1 hkey ⟨hs.at0.1, hs2.2⟩, ?_⟩
  obtain ⟨g1, g2, _, _⟩ := inner_step hs2.1 hkey ⟨hs.at0.1, hs2.2⟩
  refine ⟨g1, ?_⟩
  have := g2.length_le
  have h2 := hs2.2
  show s.2.2 < ((T_columns_from_L2 q pr s2.1 s2.2 s.2.2 key).1.length : Int)
  omega
end
/-! ### the keys that are seen -/
/-- whether a key is seen -/
def SeenK (q : Sq) (pr : List Int) (k : Int) : Prop := ColR q pr (rowK q k) (colK q k)
noncomputable instance (q : Sq) (pr : List Int) (k : Int) : Decidable (SeenK q pr k) := Classical.propDecidable _
noncomputable def seenL (q : Sq) (pr : List Int) : List Int := (rgI 0 q.1.length).filter fun k => decide (SeenK q pr k)
theorem mem_seenL {q : Sq} {pr : List Int} {k : Int} : k ∈ seenL q pr ↔ (0 ≤ k ∧ k < q.1.length) ∧ SeenK q pr k := by
  unfold seenL
  rw [List.mem_filter, mem_rgI, decide_eq_true_iff]
theorem keys_seenL (q : Sq) (pr : List Int) : Keys q.1.length (seenL q pr) := (keys_rg _).filter _
theorem keys_in {q : Sq} {pr : List Int} (h : Keys q.1.length pr) : ∀ k ∈ pr, InIx q.1 k := fun k hk => inIx_of (h.2 k hk).1 (h.2 k hk).2
theorem fold_filter {α : Type} (f : α → Int) (p : α → Bool) : ∀ (xs : List α) (acc : List Int), xs.foldl (fun s x => if p x then s ++ [f x] else s) acc = acc ++ (xs.filter p).map f
  | [], acc => by simp
  | x :: r, acc => by
    rw [List.foldl_cons, fold_filter f p r, List.filter_cons]
    split <;> simp
theorem keys_seen_eq {q : Sq} {pr : List Int} (hl : pr.length ≤ 100) : T_keys_seen q pr = seenL q pr := by
  have e1 : T_keys_seen q pr = (enE q.1).foldl (fun (s' : List Int) (z : Int × (Int × Int)) => if inE z.2.2 (T_columns_from q pr z.2.1) then s' ++ [z.1] else s') [] := rfl
  rw [e1, fold_filter (fun z : Int × (Int × Int) => z.1) (fun z => inE z.2.2 (T_columns_from q pr z.2.1)), List.nil_append, enE_eq, List.filter_map, List.map_map]
  unfold seenL
  have : ∀ l : List Int, l.map ((fun z : Int × (Int × Int) => z.1) ∘ fun i => (i, ixE q.1 i)) = l := fun l => (List.map_congr_left fun _ _ => rfl).trans (List.map_id _)
  rw [this]
  refine List.filter_congr fun k _ => ?_
  simp only [Function.comp]
  have h := mem_cols_from (q := q) (r0 := rowK q k) (c := colK q k) hl
  have e2 : inE (colK q k) (T_columns_from q pr (rowK q k)) = decide (SeenK q pr k) := by
    by_cases c : SeenK q pr k
    · rw [decide_eq_true c, inE_iff, h]; exact c
    · rw [decide_eq_false c, inE_no, h]; exact c
  exact e2
theorem p_keys_seen {q : Sq} {pr : List Int} (hq : q.1.length ≤ 1000) (hl : pr.length ≤ 100) (hk : ∀ k ∈ pr, InIx q.1 k) : P_keys_seen q pr := by
  unfold P_keys_seen P_keys_seen_1
  refine ⟨fun i l => l.length ≤ i, Nat.le_refl _, fun i z hz s hs => ?_⟩
  have hi := (List.getElem?_eq_some_iff.mp hz).1
  rw [enE_length] at hi
  refine ⟨⟨p_cols hl hk, fun _ => lt_lim_of (by omega)⟩, ?_⟩
  show (if inE z.2.2 (T_columns_from q pr z.2.1) = true then s ++ [z.1] else s).length ≤ i + 1
  split
  · rw [List.length_append, List.length_singleton]; omega
  · omega
end DL

/-! MB2: laws of what is seen. -/
namespace DL
open PySem PySem.Spec PyProof.Rows L2

section
variable {q : Sq} {pr pr2 : List Int} {r0 r1 c k : Int}
theorem keys100 {n : Nat} {l : List Int} (h : Keys n l) (hn : n ≤ 6) : l.length ≤ 100 := by
  have := pw_len h
  omega
theorem RowR.trans (h1 : RowR q pr r0 r1) {r2 : Int} (h2 : RowR q pr r1 r2) : RowR q pr r0 r2 := by
  induction h2 with
  | here => exact h1
  | step _ hk hk' e nd ih => exact .step ih hk hk' e nd
theorem RowR.mono (hs : ∀ k ∈ pr, k ∈ pr2) (h : RowR q pr r0 r1) : RowR q pr2 r0 r1 := by
  induction h with
  | here => exact .here
  | step _ hk hk' e nd ih => exact .step ih (hs _ hk) (hs _ hk') e nd
theorem ColR.mono (hs : ∀ k ∈ pr, k ∈ pr2) (h : ColR q pr r0 c) : ColR q pr2 r0 c := by
  obtain ⟨k, hk, h1, e⟩ := h
  exact ⟨k, hs k hk, h1.mono hs, e⟩
/-- more pressed: nothing less is seen -/
theorem seen_mono (hs : ∀ k ∈ pr, k ∈ pr2) : ∀ k ∈ seenL q pr, k ∈ seenL q pr2 := fun k hk => by
  rw [mem_seenL] at hk ⊢
  exact ⟨hk.1, ColR.mono hs hk.2⟩
theorem seenK_self (hk : k ∈ pr) : SeenK q pr k := ⟨k, hk, .here, rfl⟩
theorem pressed_seen (h : Keys q.1.length pr) : ∀ k ∈ pr, k ∈ seenL q pr := fun k hk => mem_seenL.mpr ⟨h.2 k hk, seenK_self hk⟩
/-- more diodes: nothing more is seen -/
theorem RowR.diodes {d : List Int} (hs : ∀ k ∈ q.2, k ∈ d) (h : RowR (q.1, d) pr r0 r1) : RowR q pr r0 r1 := by
  induction h with
  | here => exact .here
  | step _ hk hk' e nd ih => exact .step ih hk hk' e fun z => nd (hs _ z)
theorem seen_diodes {d : List Int} (hs : ∀ k ∈ q.2, k ∈ d) : ∀ k ∈ seenL (withD q d) pr, k ∈ seenL q pr := fun k hk => by
  rw [mem_seenL] at hk ⊢
  obtain ⟨k', h1, h2, e⟩ := hk.2
  exact ⟨hk.1, k', h1, RowR.diodes (d := d) hs h2, e⟩
theorem spot_inj (nd : q.1.Nodup) {i j : Int} (hi : 0 ≤ i ∧ i < q.1.length) (hj : 0 ≤ j ∧ j < q.1.length) (h1 : rowK q i = rowK q j) (h2 : colK q i = colK q j) : i = j :=
  ixE_inj nd hi.1 hi.2 hj.1 hj.2 (Prod.ext h1 h2)
/-- a diode at each key -/
theorem RowR.full (hd : ∀ k ∈ pr, k ∈ q.2) (h : RowR q pr r0 r1) : r1 = r0 := by
  induction h with
  | here => rfl
  | step _ hk hk' e nd ih => exact absurd (hd _ hk') nd
theorem seen_full (hd : ∀ k ∈ pr, k ∈ q.2) (nd : q.1.Nodup) (hp : Keys q.1.length pr) : seenL q pr = pr := by
  refine (keys_seenL q pr).ext hp fun k => ?_
  rw [mem_seenL]
  constructor
  · rintro ⟨hk, k', h1, h2, e⟩
    have := h2.full hd
    rw [spot_inj nd hk (hp.2 k' h1) this.symm e.symm]
    exact h1
  · exact fun hk => ⟨hp.2 k hk, seenK_self hk⟩
/-! ### turned about -/
theorem len_turned (q : Sq) : (turnedQ q).1.length = q.1.length := List.length_map _
theorem ixE_map {α β : Type} [Inhabited α] [Inhabited β] {f : α → β} {l : List α} {i : Int} (h : 0 ≤ i ∧ i < l.length) : ixE (l.map f) i = f (ixE l i) := by
  rw [ixE_nat h.1, ixE_nat h.1]
  have : i.toNat < l.length := by omega
  simp [List.getD_eq_getElem?_getD, this]
theorem row_turned (hk : 0 ≤ k ∧ k < q.1.length) : rowK (turnedQ q) k = colK q k := by
  unfold rowK colK turnedQ
  rw [ixE_map hk]; rfl
theorem col_turned (hk : 0 ≤ k ∧ k < q.1.length) : colK (turnedQ q) k = rowK q k := by
  unfold rowK colK turnedQ
  rw [ixE_map hk]; rfl
theorem turned_path (hp : ∀ k ∈ pr, 0 ≤ k ∧ k < q.1.length) (h : RowR q pr r0 r1) : ∀ k ∈ pr, rowK q k = r1 → ColR (turnedQ q) pr (colK q k) r0 := by
  induction h with
  | here => exact fun k hk e => ⟨k, hk, by rw [row_turned (hp k hk)]; exact .here, by rw [col_turned (hp k hk)]; exact e⟩
  | @step k1 k' _ hk1 hk' e nd ih =>
    intro k hk e2
    obtain ⟨k2, g1, g2, g3⟩ := ih k1 hk1 rfl
    have s1 : RowR (turnedQ q) pr (colK q k) (colK q k1) := by
      have s2 : RowR (turnedQ q) pr (rowK (turnedQ q) k) (rowK (turnedQ q) k') := .step .here hk hk' (by rw [col_turned (hp k' hk'), col_turned (hp k hk)]; exact e2.symm) nd
      rw [row_turned (hp k hk), row_turned (hp k' hk'), e] at s2
      exact s2
    exact ⟨k2, g1, s1.trans g2, g3⟩
theorem turned_col (hp : ∀ k ∈ pr, 0 ≤ k ∧ k < q.1.length) (h : ColR q pr r0 c) : ColR (turnedQ q) pr c r0 := by
  obtain ⟨k, hk, h1, rfl⟩ := h
  exact turned_path hp h1 k hk rfl
theorem turned_turned (q : Sq) : turnedQ (turnedQ q) = q := by
  show ((q.1.map Prod.swap).map Prod.swap, q.2) = q
  rw [swap_swap]
theorem seen_turned (hp : ∀ k ∈ pr, 0 ≤ k ∧ k < q.1.length) : seenL (turnedQ q) pr = seenL q pr := by
  have k1 := keys_seenL (turnedQ q) pr
  rw [len_turned] at k1
  refine k1.ext (keys_seenL q pr) fun k => ?_
  rw [mem_seenL, mem_seenL, len_turned]
  refine and_congr_right fun hk => ?_
  unfold SeenK
  rw [row_turned hk, col_turned hk]
  constructor
  · intro h
    have := turned_col (q := turnedQ q) (by rw [len_turned]; exact hp) h
    rwa [turned_turned] at this
  · exact turned_col hp
/-! ### made tight -/
theorem len_tight (q : Sq) : (tightQ q).1.length = q.1.length := List.length_map _
theorem row_tight (hk : 0 ≤ k ∧ k < q.1.length) : rowK (tightQ q) k = place (rowsW q.1) (rowK q k) := by
  unfold rowK tightQ tightS
  rw [ixE_map hk]
theorem col_tight (hk : 0 ≤ k ∧ k < q.1.length) : colK (tightQ q) k = place (colsW q.1) (colK q k) := by
  unfold colK tightQ tightS
  rw [ixE_map hk]
theorem spot_mem (hk : 0 ≤ k ∧ k < q.1.length) : ixE q.1 k ∈ q.1 := ixE_mem (inIx_of hk.1 hk.2)
theorem row_in (hk : 0 ≤ k ∧ k < q.1.length) : rowK q k ∈ rowsW q.1 := mem_rows (spot_mem hk)
theorem col_in (hk : 0 ≤ k ∧ k < q.1.length) : colK q k ∈ colsW q.1 := mem_cols (spot_mem hk)
/-- squares that lie alike: f, g name rows and columns anew -/
theorem RowR.named {q2 : Sq} {f g : Int → Int} (hd : q2.2 = q.2) (hf : ∀ k ∈ pr, rowK q2 k = f (rowK q k)) (hg : ∀ k ∈ pr, colK q2 k = g (colK q k)) (h : RowR q pr r0 r1) : RowR q2 pr (f r0) (f r1) := by
  induction h with
  | here => exact .here
  | @step k1 k' _ hk1 hk' e nd ih =>
    rw [← hf k1 hk1] at ih
    rw [← hf k' hk']
    exact .step ih hk1 hk' (by rw [hg k' hk', hg k1 hk1, e]) (by rw [hd]; exact nd)
theorem RowR.back {q2 : Sq} {f g : Int → Int} (hd : q2.2 = q.2) (hf : ∀ k ∈ pr, rowK q2 k = f (rowK q k)) (hg : ∀ k ∈ pr, colK q2 k = g (colK q k)) (hgi : ∀ k ∈ pr, ∀ k' ∈ pr, g (colK q k) = g (colK q k') → colK q k = colK q k')
    (hfi : ∀ k ∈ pr, ∀ r, (r = r0 ∨ ∃ k' ∈ pr, r = rowK q k') → f (rowK q k) = f r → rowK q k = r) {x : Int} (h : RowR q2 pr (f r0) x) : ∃ r, x = f r ∧ RowR q pr r0 r ∧ (r = r0 ∨ ∃ k' ∈ pr, r = rowK q k') := by
  induction h with
  | here => exact ⟨r0, rfl, .here, .inl rfl⟩
  | @step k1 k' _ hk1 hk' e nd ih =>
    obtain ⟨r, e1, h1, h2⟩ := ih
    rw [hf k1 hk1] at e1
    have e2 := hfi k1 hk1 r h2 e1
    rw [← e2] at h1
    rw [hg k' hk', hg k1 hk1] at e
    exact ⟨rowK q k', hf k' hk', .step h1 hk1 hk' (hgi k' hk' k1 hk1 e) (by rw [← hd]; exact nd), .inr ⟨k', hk', rfl⟩⟩
theorem seen_named {q2 : Sq} {f g : Int → Int} (hl : q2.1.length = q.1.length) (hd : q2.2 = q.2) (hf : ∀ k : Int, 0 ≤ k ∧ k < q.1.length → rowK q2 k = f (rowK q k)) (hg : ∀ k : Int, 0 ≤ k ∧ k < q.1.length → colK q2 k = g (colK q k))
    (hfi : ∀ k : Int, 0 ≤ k ∧ k < q.1.length → ∀ k' : Int, 0 ≤ k' ∧ k' < q.1.length → f (rowK q k) = f (rowK q k') → rowK q k = rowK q k') (hgi : ∀ k : Int, 0 ≤ k ∧ k < q.1.length → ∀ k' : Int, 0 ≤ k' ∧ k' < q.1.length → g (colK q k) = g (colK q k') → colK q k = colK q k')
    (hp : ∀ k ∈ pr, 0 ≤ k ∧ k < q.1.length) : seenL q2 pr = seenL q pr := by
  have k1 := keys_seenL q2 pr
  rw [hl] at k1
  refine k1.ext (keys_seenL q pr) fun k => ?_
  rw [mem_seenL, mem_seenL, hl]
  refine and_congr_right fun hk => ?_
  unfold SeenK ColR
  rw [hf k hk, hg k hk]
  constructor
  · rintro ⟨k', h1, h2, e⟩
    obtain ⟨r, e1, h3, h4⟩ := RowR.back hd (fun z hz => hf z (hp z hz)) (fun z hz => hg z (hp z hz)) (fun a ha b hb => hgi a (hp a ha) b (hp b hb)) (fun a ha r hr => by
      rcases hr with rfl | ⟨b, hb, rfl⟩
      · exact hfi a (hp a ha) k hk
      · exact hfi a (hp a ha) b (hp b hb)) h2
    rw [hf k' (hp k' h1)] at e1
    have e2 : rowK q k' = r := by
      rcases h4 with rfl | ⟨b, hb, rfl⟩
      · exact hfi k' (hp k' h1) k hk e1
      · exact hfi k' (hp k' h1) b (hp b hb) e1
    rw [hg k' (hp k' h1)] at e
    exact ⟨k', h1, e2 ▸ h3, hgi k' (hp k' h1) k hk e⟩
  · rintro ⟨k', h1, h2, e⟩
    refine ⟨k', h1, ?_, by rw [hg k' (hp k' h1), e]⟩
    rw [hf k' (hp k' h1)]
    exact h2.named hd (fun z hz => hf z (hp z hz)) (fun z hz => hg z (hp z hz))
theorem seen_tight (hp : ∀ k ∈ pr, 0 ≤ k ∧ k < q.1.length) : seenL (tightQ q) pr = seenL q pr :=
  seen_named (f := place (rowsW q.1)) (g := place (colsW q.1)) (len_tight q) rfl (fun k hk => row_tight hk) (fun k hk => col_tight hk) (fun k hk k' hk' e => place_inj (row_in hk) e (row_in hk')) (fun k hk k' hk' e => place_inj (col_in hk) e (col_in hk')) hp
/-! ### a key more -/
/-- a seen key with a diode, pressed too, changes nothing -/
theorem RowR.plus {f : Int} (hf : ∀ k ∈ pr2, k ∈ pr ∨ k = f) (hd : f ∈ q.2) (hc : ColR q pr (rowK q f) (colK q f)) (h : RowR q pr2 r0 r1) : RowR q pr r0 r1 := by
  induction h with
  | here => exact .here
  | @step k1 k' _ hk1 hk' e nd ih =>
    have hk2 : k' ∈ pr := by
      rcases hf k' hk' with z | rfl
      · exact z
      · exact absurd hd nd
    rcases hf k1 hk1 with z | rfl
    · exact .step ih z hk2 e nd
    · obtain ⟨k3, h1, h2, h3⟩ := hc
      exact .step (ih.trans h2) h1 hk2 (e.trans h3.symm) nd
theorem seen_plus {f : Int} (hf : ∀ k ∈ pr2, k ∈ pr ∨ k = f) (hs : ∀ k ∈ pr, k ∈ pr2) (hd : f ∈ q.2) (hc : f ∈ seenL q pr) : seenL q pr2 = seenL q pr := by
  have hc' := (mem_seenL.mp hc).2
  refine (keys_seenL q pr2).ext (keys_seenL q pr) fun k => ⟨fun hk => ?_, seen_mono hs k⟩
  rw [mem_seenL] at hk ⊢
  obtain ⟨k', h1, h2, e⟩ := hk.2
  refine ⟨hk.1, ?_⟩
  have h3 := h2.plus hf hd hc'
  rcases hf k' h1 with z | rfl
  · exact ⟨k', z, h3, e⟩
  · obtain ⟨k3, g1, g2, g3⟩ := hc'
    exact ⟨k3, g1, h3.trans g2, g3.trans e⟩
/-- alone on its row and column: seen just if pressed -/
theorem seen_alone (hp : Keys q.1.length pr) (nd : q.1.Nodup) (hk : 0 ≤ k ∧ k < q.1.length) (ha : ∀ j : Int, 0 ≤ j ∧ j < q.1.length → (rowK q j = rowK q k ∨ colK q j = colK q k) → j = k) : k ∈ seenL q pr ↔ k ∈ pr := by
  rw [mem_seenL]
  constructor
  · rintro ⟨_, k', h1, h2, e⟩
    rw [← ha k' (hp.2 k' h1) (.inr e)]
    exact h1
  · exact fun h => ⟨hk, seenK_self h⟩
theorem seen_none : seenL q [] = [] := by
  unfold seenL
  refine List.filter_eq_nil_iff.mpr fun k _ => ?_
  rw [decide_eq_true_iff]
  rintro ⟨k', h, _⟩
  cases h
theorem seen_every : seenL q (rgI 0 q.1.length) = rgI 0 q.1.length := by
  unfold seenL
  refine List.filter_eq_self.mpr fun k hk => ?_
  rw [decide_eq_true_iff]
  exact seenK_self hk
/-- without diodes: what is seen, pressed, is seen and no more -/
theorem RowR.sym (hd : q.2 = []) (h : RowR q pr r0 r1) : (r1 = r0) ∨ ∃ k ∈ pr, rowK q k = r0 ∧ ∃ k' ∈ pr, rowK q k' = r1 := by
  induction h with
  | here => exact .inl rfl
  | @step k1 k' _ hk1 hk' e nd ih =>
    right
    rcases ih with e1 | ⟨k, hk, e1, _⟩
    · exact ⟨k1, hk1, e1, k', hk', rfl⟩
    · exact ⟨k, hk, e1, k', hk', rfl⟩
theorem RowR.closed (hd : q.2 = []) (h : RowR q (seenL q pr) r0 r1) : RowR q pr r0 r1 := by
  induction h with
  | here => exact .here
  | @step k1 k' h0 hk1 hk' e nd ih =>
    -- k1 is seen: from its row to its column
    obtain ⟨a, ha, ra, ea⟩ := (mem_seenL.mp hk1).2
    obtain ⟨b, hb, rb, eb⟩ := (mem_seenL.mp hk').2
    -- back from the column of k' to its row: as no key has a diode, the way can be gone back
    have back : ∀ {x y : Int}, RowR q pr x y → (∃ k ∈ pr, rowK q k = y) → RowR q pr y x := by
      intro x y hxy hy
      induction hxy with
      | here => exact .here
      | @step c1 c2 h1 hc1 hc2 e2 nd2 ih2 => exact RowR.trans (.step .here hc2 hc1 e2.symm (by rw [hd]; simp)) (ih2 ⟨c1, hc1, rfl⟩)
    have rb' := back rb ⟨b, hb, rfl⟩
    refine (ih.trans ra).trans (RowR.trans ?_ rb')
    exact .step .here ha hb (by rw [eb, ea]; exact e) (by rw [hd]; simp)
theorem seen_closed (hd : q.2 = []) : seenL q (seenL q pr) = seenL q pr := by
  refine (keys_seenL q _).ext (keys_seenL q pr) fun k => ⟨fun hk => ?_, fun hk => pressed_seen (keys_seenL q pr) k hk⟩
  rw [mem_seenL] at hk ⊢
  obtain ⟨k', h1, h2, e⟩ := hk.2
  obtain ⟨a, ha, ra, ea⟩ := (mem_seenL.mp h1).2
  exact ⟨hk.1, a, ha, (h2.closed hd).trans ra, ea.trans e⟩
end
/-! ### the program's answers -/
section
variable {q : Sq} {pr : List Int}
theorem p_seenK (h : Good q) (hp : Keys q.1.length pr) : P_keys_seen q pr := p_keys_seen (by have := h.len; omega) (keys100 hp h.len.2) (keys_in hp)
theorem t_keys_seen (h : Good q) (hp : Keys q.1.length pr) : T_keys_seen q pr = seenL q pr := keys_seen_eq (keys100 hp h.len.2)
theorem p_seen (h : Good q) (hp : Keys q.1.length pr) : P_seen q pr := ⟨psq h, pkeys h hp, p_seenK h hp⟩
theorem t_seen (h : Good q) (hp : Keys q.1.length pr) : T_seen q pr = seenL q pr := t_keys_seen h hp
theorem seenL_len (h : Good q) : (seenL q pr).length ≤ 6 := by
  have := pw_len (keys_seenL q pr)
  have := h.len
  omega
theorem p_false (h : Good q) (hp : Keys q.1.length pr) : P_false_keys q pr := ⟨psq h, pkeys h hp, p_seenK h hp, by
  rw [t_keys_seen h hp]
  exact lim_of (by have := seenL_len (pr := pr) h; omega)⟩
noncomputable def falseL (q : Sq) (pr : List Int) : List Int := (seenL q pr).filter fun k => !inE k pr
theorem t_false (h : Good q) (hp : Keys q.1.length pr) : T_false_keys q pr = falseL q pr := by
  show (T_keys_seen q pr).filter _ = _
  rw [t_keys_seen h hp]
  rfl
theorem mem_falseL {k : Int} : k ∈ falseL q pr ↔ k ∈ seenL q pr ∧ k ∉ pr := by
  unfold falseL
  rw [List.mem_filter]
  simp
theorem p_true (h : Good q) (hp : Keys q.1.length pr) : P_is_true q pr := ⟨psq h, pkeys h hp, p_seenK h hp⟩
theorem t_true (h : Good q) (hp : Keys q.1.length pr) : T_is_true q pr = decide (seenL q pr = pr) := by
  show decide (T_keys_seen q pr = pr) = _
  rw [t_keys_seen h hp]
end
section
variable {q : Sq} {pr : List Int}
theorem sort_both (hp : Keys q.1.length pr) : sortE (ltE eI) (pr ++ falseL q pr) = seenL q pr := by
  have nd : (pr ++ falseL q pr).Nodup := by
    rw [List.nodup_append]
    refine ⟨hp.nd, ((keys_seenL q pr).filter _).nd, fun a ha b hb e => ?_⟩
    exact (mem_falseL.mp hb).2 (e ▸ ha)
  rw [sortI_nd nd]
  refine lt_uniq (ss_pw _) (keys_seenL q pr).1 fun z => ?_
  rw [mem_ss, List.mem_append, mem_falseL]
  constructor
  · rintro (h | h)
    · exact pressed_seen hp z h
    · exact h.1
  · intro h
    by_cases c : z ∈ pr
    · exact .inl c
    · exact .inr ⟨h, c⟩
theorem falseL_len (h : Good q) : (falseL q pr).length ≤ 6 := by
  unfold falseL
  exact Nat.le_trans (List.length_filter_le _ _) (seenL_len h)
theorem keys_plus {n f : Int} (hp : Keys n pr) (hf : 0 ≤ f ∧ f < n) : Keys n (ssE eI (pr ++ [f])) := keys_ss fun k hk => by
  rcases List.mem_append.mp hk with z | z
  · exact hp.2 k z
  · rw [List.mem_singleton] at z; rw [z]; exact hf
theorem keys_union {n : Int} {a b : List Int} (ha : Keys n a) (hb : Keys n b) : Keys n (ssE eI (a ++ b)) := keys_ss fun k hk => by
  rcases List.mem_append.mp hk with z | z
  · exact ha.2 k z
  · exact hb.2 k z
theorem keys_len6 {n : Nat} (hp : Keys n pr) (hn : n ≤ 6) : pr.length ≤ 6 := by
  have := pw_len hp
  omega
theorem sort_plus {f : Int} (hp : pr.Nodup) (hf : f ∉ pr) : sortE (ltE eI) (pr ++ [f]) = ssE eI (pr ++ [f]) := sortI_nd (by
  rw [List.nodup_append]
  refine ⟨hp, by simp, fun a ha b hb e => ?_⟩
  rw [List.mem_singleton] at hb
  exact hf (hb ▸ e ▸ ha))
end
end DL

/-! MB3: sets of keys, in the order of tuples; all of a size. -/
namespace DL
open PySem PySem.Spec PyProof.Rows L2

abbrev klt (a b : List Int) : Bool := ltE (eT eI) a b
theorem klt_nil (b : List Int) : klt [] b = !b.isEmpty := by
  unfold klt ltE D.ltb
  cases b <;> (show D.ltAll [] _ = _; unfold D.ltAll; rfl)
theorem klt_cons_nil (x : Int) (a : List Int) : klt (x :: a) [] = false := by
  unfold klt ltE D.ltb
  show D.ltAll (_ :: _) [] = _
  unfold D.ltAll; rfl
theorem klt_cons (x y : Int) (a b : List Int) : klt (x :: a) (y :: b) = if x = y then klt a b else decide (x < y) := by
  unfold klt ltE D.ltb
  show D.ltAll (D.int x :: a.map D.int) (D.int y :: b.map D.int) = if x = y then D.ltAll (a.map D.int) (b.map D.int) else _
  conv => lhs; unfold D.ltAll
  rw [eqv_int]
  by_cases c : x = y
  · rw [if_pos (decide_eq_true c), if_pos c]
  · rw [if_neg (by simpa using c), if_neg c]
    unfold D.ltb; rfl
theorem klt_irrefl : ∀ a : List Int, klt a a = false
  | [] => by rw [klt_nil]; rfl
  | x :: a => by rw [klt_cons, if_pos rfl, klt_irrefl a]
theorem klt_trans : ∀ {a b c : List Int}, klt a b = true → klt b c = true → klt a c = true
  | [], b, [], h1, h2 => by cases b <;> simp [klt_nil, klt_cons_nil] at h1 h2
  | [], _, _ :: _, _, _ => by rw [klt_nil]; rfl
  | _ :: _, [], _, h1, _ => by rw [klt_cons_nil] at h1; cases h1
  | _ :: _, _ :: _, [], _, h2 => by rw [klt_cons_nil] at h2; cases h2
  | x :: a, y :: b, z :: c, h1, h2 => by
    rw [klt_cons] at h1 h2 ⊢
    by_cases e1 : x = y
    · rw [if_pos e1] at h1
      subst e1
      by_cases e2 : x = z
      · rw [if_pos e2] at h2 ⊢
        exact klt_trans h1 h2
      · rw [if_neg e2] at h2 ⊢
        exact h2
    · rw [if_neg e1, decide_eq_true_iff] at h1
      by_cases e2 : y = z
      · subst e2
        rw [if_neg e1]; exact decide_eq_true h1
      · rw [if_neg e2, decide_eq_true_iff] at h2
        rw [if_neg (by omega)]; exact decide_eq_true (by omega)
theorem klt_total : ∀ {a b : List Int}, a ≠ b → klt a b = true ∨ klt b a = true
  | [], [], h => absurd rfl h
  | [], _ :: _, _ => .inl (by rw [klt_nil]; rfl)
  | _ :: _, [], _ => .inr (by rw [klt_nil]; rfl)
  | x :: a, y :: b, h => by
    rw [klt_cons, klt_cons]
    by_cases e : x = y
    · rw [if_pos e, if_pos e.symm]
      exact klt_total fun z => h (by rw [e, z])
    · rw [if_neg e, if_neg (Ne.symm e), decide_eq_true_iff, decide_eq_true_iff]
      omega
theorem klt_asym {a b : List Int} (h : klt a b = true) : klt b a = false := by
  cases q : klt b a with
  | false => rfl
  | true => have := klt_trans h q; rw [klt_irrefl] at this; cases this
theorem klt_app : ∀ {a b : List Int} (x y : List Int), a.length = b.length → klt a b = true → klt (a ++ x) (b ++ y) = true
  | [], [], _, _, _, h => by rw [klt_irrefl] at h; cases h
  | [], _ :: _, _, _, hl, _ => by cases hl
  | _ :: _, [], _, _, hl, _ => by cases hl
  | p :: a, r :: b, x, y, hl, h => by
    rw [List.cons_append, List.cons_append, klt_cons]
    rw [klt_cons] at h
    by_cases e : p = r
    · rw [if_pos e] at h ⊢
      exact klt_app x y (by simpa using hl) h
    · rw [if_neg e] at h ⊢
      exact h
theorem klt_pre : ∀ (a x y : List Int), klt (a ++ x) (a ++ y) = klt x y
  | [], _, _ => rfl
  | p :: a, x, y => by rw [List.cons_append, List.cons_append, klt_cons, if_pos rfl, klt_pre a x y]
/-- rows in order, none twice -/
def Ris (l : List (List Int)) : Prop := l.Pairwise fun a b => klt a b = true
theorem Ris.nd {l : List (List Int)} (h : Ris l) : l.Nodup := h.imp fun h e => by subst e; rw [klt_irrefl] at h; cases h
theorem ris_ext {a b : List (List Int)} (ha : Ris a) (hb : Ris b) (h : ∀ z, z ∈ a ↔ z ∈ b) : a = b :=
  ((List.perm_ext_iff_of_nodup ha.nd hb.nd).mpr h).eq_of_pairwise (le := fun a b => klt a b = true) (fun x y _ _ h1 h2 => by rw [klt_asym h1] at h2; cases h2) ha hb
theorem insE_ris {x : List Int} : ∀ {l : List (List Int)}, Ris l → x ∉ l → Ris (insE (ltE (eT eI)) x l)
  | [], _, _ => List.pairwise_singleton _ _
  | y :: r, h, hx => by
    unfold Ris at h
    rw [List.pairwise_cons] at h
    rw [List.mem_cons, not_or] at hx
    unfold insE
    by_cases c : klt y x = true
    · rw [if_pos c]
      refine List.pairwise_cons.mpr ⟨fun z hz => ?_, insE_ris h.2 hx.2⟩
      rcases List.mem_cons.mp ((insE_perm r).mem_iff.mp hz) with rfl | hz
      · exact c
      · exact h.1 z hz
    · rw [if_neg c]
      have c2 : klt x y = true := (klt_total hx.1).elim (fun z => z) fun z => absurd z c
      refine List.pairwise_cons.mpr ⟨fun z hz => ?_, List.pairwise_cons.mpr h⟩
      rcases List.mem_cons.mp hz with rfl | hz
      · exact c2
      · exact klt_trans c2 (h.1 z hz)
theorem sortK_ris : ∀ {l : List (List Int)}, l.Nodup → Ris (sortE (ltE (eT eI)) l)
  | [], _ => List.Pairwise.nil
  | x :: r, h => by
    rw [List.nodup_cons] at h
    unfold sortE
    exact insE_ris (sortK_ris h.2) fun z => h.1 (mem_sortE.mp z)
/-! sorted(set(rows)) -/
theorem ssK_go (l : List (List Int)) : ∀ {r : List (List Int)}, r.Pairwise (fun a b => klt b a = false) → Ris (uniqE r) ∧ ∀ z, z ∈ uniqE r ↔ z ∈ r
  | [], _ => ⟨List.Pairwise.nil, fun _ => Iff.rfl⟩
  | x :: r, h => by
    rw [List.pairwise_cons] at h
    obtain ⟨h1, h2⟩ := ssK_go l h.2
    unfold uniqE
    cases q : uniqE r with
    | nil =>
      rw [q] at h2
      refine ⟨List.pairwise_singleton _ _, fun z => ?_⟩
      rw [List.mem_singleton, List.mem_cons]
      exact ⟨.inl, fun e => e.elim (fun e => e) fun e => absurd ((h2 z).mpr e) (by simp)⟩
    | cons y t =>
      rw [q] at h1 h2
      simp only
      by_cases c : x = y
      · rw [if_pos c]
        refine ⟨h1, fun z => ?_⟩
        rw [h2, List.mem_cons]
        refine ⟨.inr, fun e => e.elim (fun e => ?_) fun e => e⟩
        rw [e, c]; exact (h2 y).mp List.mem_cons_self
      · rw [if_neg c]
        refine ⟨List.pairwise_cons.mpr ⟨fun z hz => ?_, h1⟩, fun z => by rw [List.mem_cons, h2, List.mem_cons]⟩
        have hy : klt x y = true := (klt_total c).elim (fun e => e) fun e => by rw [h.1 y ((h2 y).mp List.mem_cons_self)] at e; cases e
        rcases List.mem_cons.mp hz with rfl | hz
        · exact hy
        · exact klt_trans hy ((List.pairwise_cons.mp h1).1 z hz)
theorem insE_le {x : List Int} : ∀ {l : List (List Int)}, l.Pairwise (fun a b => klt b a = false) → (insE (ltE (eT eI)) x l).Pairwise (fun a b => klt b a = false)
  | [], _ => List.pairwise_singleton _ _
  | y :: r, h => by
    rw [List.pairwise_cons] at h
    unfold insE
    by_cases c : klt y x = true
    · rw [if_pos c]
      refine List.pairwise_cons.mpr ⟨fun z hz => ?_, insE_le h.2⟩
      rcases List.mem_cons.mp ((insE_perm r).mem_iff.mp hz) with rfl | hz
      · exact klt_asym c
      · exact h.1 z hz
    · rw [if_neg c]
      have c' : klt y x = false := by simpa using c
      refine List.pairwise_cons.mpr ⟨fun z hz => ?_, List.pairwise_cons.mpr h⟩
      rcases List.mem_cons.mp hz with rfl | hz2
      · exact c'
      · cases q : klt z x with
        | false => rfl
        | true =>
          -- z before x, x not after y: then z before y
          by_cases e : x = y
          · subst e; rw [h.1 z hz2] at q; cases q
          · have := klt_trans q ((klt_total e).elim (fun e => e) fun e => by rw [c'] at e; cases e)
            rw [h.1 z hz2] at this; cases this
theorem sortK_le : ∀ l : List (List Int), (sortE (ltE (eT eI)) l).Pairwise (fun a b => klt b a = false)
  | [] => List.Pairwise.nil
  | x :: r => by unfold sortE; exact insE_le (sortK_le r)
theorem ssK_ris (l : List (List Int)) : Ris (ssE (eT eI) l) := (ssK_go l (sortK_le l)).1
@[simp] theorem mem_ssK {l : List (List Int)} {z : List Int} : z ∈ ssE (eT eI) l ↔ z ∈ l := by
  unfold ssE
  rw [(ssK_go l (sortK_le l)).2, mem_sortE]
/-! ### all sets of so many keys -/
theorem keys_snoc {n k : Int} {l : List Int} : Keys n (l ++ [k]) ↔ Keys n l ∧ (∀ a ∈ l, a < k) ∧ 0 ≤ k ∧ k < n := by
  unfold Keys
  rw [List.pairwise_append]
  constructor
  · rintro ⟨⟨h1, _, h3⟩, h4⟩
    exact ⟨⟨h1, fun a ha => h4 a (List.mem_append_left _ ha)⟩, fun a ha => h3 a ha k (by simp), h4 k (by simp)⟩
  · rintro ⟨⟨h1, h2⟩, h3, h4⟩
    refine ⟨⟨h1, List.pairwise_singleton _ _, fun a ha b hb => by rw [List.mem_singleton] at hb; rw [hb]; exact h3 a ha⟩, fun a ha => ?_⟩
    rcases List.mem_append.mp ha with z | z
    · exact h2 a z
    · rw [List.mem_singleton] at z; rw [z]; exact h4
theorem keys_0 {l : List Int} : Keys 0 l ↔ l = [] := by
  constructor
  · intro h
    cases l with
    | nil => rfl
    | cons x r => have := h.2 x List.mem_cons_self; omega
  · rintro rfl; exact keys_nil 0
theorem keys_succ {n : Int} (hn : 0 ≤ n) {l : List Int} : Keys (n + 1) l ↔ Keys n l ∨ ∃ m, Keys n m ∧ l = m ++ [n] := by
  constructor
  · intro h
    rcases List.eq_nil_or_concat l with rfl | ⟨m, k, rfl⟩
    · exact .inl (keys_nil n)
    · rw [List.concat_eq_append] at h ⊢
      obtain ⟨h1, h2, h3⟩ := keys_snoc.mp h
      by_cases c : k = n
      · subst c
        exact .inr ⟨m, ⟨h1.1, fun a ha => ⟨(h1.2 a ha).1, h2 a ha⟩⟩, rfl⟩
      · refine .inl (keys_snoc.mpr ⟨⟨h1.1, fun a ha => ⟨(h1.2 a ha).1, ?_⟩⟩, h2, h3.1, by omega⟩)
        have := h2 a ha
        omega
  · rintro (h | ⟨m, hm, rfl⟩)
    · exact ⟨h.1, fun k hk => by have := h.2 k hk; omega⟩
    · exact keys_snoc.mpr ⟨⟨hm.1, fun k hk => by have := hm.2 k hk; omega⟩, fun a ha => (hm.2 a ha).2, hn, by omega⟩
end DL

/-! MC1: wishes. -/
namespace DL
open PySem PySem.Spec PyProof.Rows L2

structure WishOk (n : Int) (w : List (List Int)) : Prop where
  ris : Ris w
  keys : ∀ k ∈ w, Keys n k
  len : w.length ≤ 24
theorem cut_drop1 {α : Type} (l : List α) : cutE l (some (1 : Int)) none = l.drop 1 := cut_drop l 1
theorem adj_ris : ∀ {l : List (List Int)}, Ris l → ((l.zip (l.drop 1)).all fun z => klt z.1 z.2) = true
  | [], _ => rfl
  | [_], _ => rfl
  | x :: y :: r, h => by
    unfold Ris at h
    rw [List.pairwise_cons] at h
    have ih := adj_ris (l := y :: r) h.2
    show (klt x y && ((y :: r).zip ((y :: r).drop 1)).all fun z => klt z.1 z.2) = true
    rw [ih, h.1 y List.mem_cons_self]; rfl
theorem ris_adj : ∀ {l : List (List Int)}, ((l.zip (l.drop 1)).all fun z => klt z.1 z.2) = true → Ris l
  | [], _ => List.Pairwise.nil
  | [_], _ => List.pairwise_singleton _ _
  | x :: y :: r, h => by
    have h' : (klt x y && ((y :: r).zip ((y :: r).drop 1)).all fun z => klt z.1 z.2) = true := h
    rw [Bool.and_eq_true] at h'
    have ih := ris_adj (l := y :: r) h'.2
    refine List.pairwise_cons.mpr ⟨fun z hz => ?_, ih⟩
    rcases List.mem_cons.mp hz with rfl | hz
    · exact h'.1
    · exact klt_trans h'.1 ((List.pairwise_cons.mp ih).1 z hz)
theorem t_wish_of {n : Int} {w : List (List Int)} : T_is_wish_of n w = true ↔ WishOk n w := by
  have e : T_is_wish_of n w = if ((!true) || ((decide ((24 : Int) < (w.length : Int))) || (!((w.map (fun (one' : (List Int)) => (keysB n one'))).all id)))) then false else (((w.zip (cutE w (some (1 : Int)) none)).map (fun (z : ((List Int) × (List Int))) => klt z.1 z.2)).all id) := rfl
  rw [e, cut_drop1]
  have m1 : ((w.zip (w.drop 1)).map (fun z : List Int × List Int => klt z.1 z.2)).all id = (w.zip (w.drop 1)).all fun z => klt z.1 z.2 := by rw [List.all_map]; rfl
  have m2 : (w.map (fun one' : List Int => keysB n one')).all id = w.all fun one => keysB n one := by rw [List.all_map]; rfl
  rw [m1, m2]
  constructor
  · intro h
    split at h
    · cases h
    · rename_i c
      simp only [Bool.not_true, Bool.false_or, Bool.or_eq_true, decide_eq_true_iff, Bool.not_eq_true', not_or, Bool.not_eq_false, List.all_eq_true] at c
      exact ⟨ris_adj h, fun k hk => keys_iff.mp (c.2 k hk), by omega⟩
  · intro h
    rw [if_neg]
    · exact adj_ris h.ris
    · simp only [Bool.not_true, Bool.false_or, Bool.or_eq_true, decide_eq_true_iff, Bool.not_eq_true', not_or, Bool.not_eq_false, List.all_eq_true]
      have := h.len
      exact ⟨by omega, fun k hk => keys_iff.mpr (h.keys k hk)⟩
theorem p_wish_of {n : Nat} {w : List (List Int)} (hn : n ≤ 6) (h : WishOk n w) : P_is_wish_of n w := by
  unfold P_is_wish_of P_is_wish_of_1
  have := h.len
  refine ⟨fun _ _ => ⟨lim_of (by omega), fun k hk => lim_of (by have := keys_len6 (h.keys k hk) hn; omega)⟩, fun _ => lim_of ?_⟩
  have := List.length_zip (l₁ := w) (l₂ := cutE w (some (1 : Int)) none)
  rw [this]
  omega
theorem p_need_wish {n : Nat} {w : List (List Int)} (hn : n ≤ 6) (h : WishOk n w) : P_need_wish n w := ⟨p_wish_of hn h, by rw [t_wish_of.mpr h]; rfl⟩
theorem p_is_wish {n : Nat} {w : List (List Int)} (hn : 1 ≤ n ∧ n ≤ 6) (h : WishOk n w) : P_is_wish n w := by
  refine ⟨?_, p_wish_of hn.2 h⟩
  unfold P_need_many isNum
  simp
  omega
/-- a set that is seen truly -/
def Sv (q : Sq) (k : List Int) : Prop := seenL q k = k
noncomputable instance (q : Sq) (k : List Int) : Decidable (Sv q k) := Classical.propDecidable _
section
variable {q : Sq} {w : List (List Int)}
theorem sv_dec (g : Good q) {k : List Int} (hk : Keys q.1.length k) : decide (T_keys_seen q k = k) = decide (Sv q k) := by
  rw [t_keys_seen g hk]
  unfold Sv
  congr
theorem p_servesK (g : Good q) (hk : ∀ k ∈ w, Keys q.1.length k) (hl : w.length ≤ 50000) : P_serves q w := ⟨lim_of (by omega), fun k hk2 => p_seenK g (hk k hk2)⟩
theorem t_servesK (g : Good q) (hk : ∀ k ∈ w, Keys q.1.length k) : T_serves q w = w.all fun k => decide (Sv q k) := by
  have e : T_serves q w = (w.map (fun one' => decide (T_keys_seen q one' = one'))).all id := rfl
  rw [e, List.all_map, Bool.eq_iff_iff, List.all_eq_true, List.all_eq_true]
  constructor
  · intro h k hk2
    have := h k hk2
    simp only [Function.comp, id] at this
    rw [sv_dec g (hk k hk2)] at this
    exact this
  · intro h k hk2
    simp only [Function.comp, id]
    rw [sv_dec g (hk k hk2)]
    exact h k hk2
theorem p_served (g : Good q) (h : WishOk q.1.length w) : P_is_served q w := ⟨psq g, p_need_wish g.len.2 h, p_servesK g h.keys (by have := h.len; omega)⟩
theorem t_served (g : Good q) (h : WishOk q.1.length w) : T_is_served q w = w.all fun k => decide (Sv q k) := t_servesK g h.keys
noncomputable def unsL (q : Sq) (w : List (List Int)) : List (List Int) := w.filter fun k => !decide (Sv q k)
theorem mem_uns {k : List Int} : k ∈ unsL q w ↔ k ∈ w ∧ ¬ Sv q k := by
  unfold unsL
  rw [List.mem_filter]
  simp
theorem uns_nil : unsL q w = [] ↔ ∀ k ∈ w, Sv q k := by
  unfold unsL
  rw [List.filter_eq_nil_iff]
  simp
theorem p_unserved (g : Good q) (h : WishOk q.1.length w) : P_unserved q w := ⟨psq g, p_need_wish g.len.2 h, lim_of (by have := h.len; omega), fun k hk => p_seenK g (h.keys k hk)⟩
theorem t_unserved (g : Good q) (h : WishOk q.1.length w) : T_unserved q w = unsL q w := by
  have e : T_unserved q w = w.filter fun one' => !decide (T_keys_seen q one' = one') := rfl
  rw [e]
  unfold unsL
  refine List.filter_congr fun k hk => ?_
  rw [sv_dec g (h.keys k hk)]
theorem served_iff (g : Good q) (h : WishOk q.1.length w) : T_is_served q w = true ↔ ∀ k ∈ w, Sv q k := by
  rw [t_served g h, List.all_eq_true]
  simp
theorem served_dec (g : Good q) (h : WishOk q.1.length w) : T_is_served q w = decide (unsL q w = []) := by
  rw [Bool.eq_iff_iff, served_iff g h, decide_eq_true_iff, uns_nil]
theorem WishOk.filter {n : Int} (h : WishOk n w) (p : List Int → Bool) : WishOk n (w.filter p) := ⟨h.ris.sublist List.filter_sublist, fun k hk => h.keys k (List.mem_filter.mp hk).1, Nat.le_trans (List.length_filter_le _ _) h.len⟩
/-- more diodes: what was seen truly still is -/
theorem sv_diodes {d : List Int} (hs : ∀ k ∈ q.2, k ∈ d) {k : List Int} (hk : Keys q.1.length k) (h : Sv q k) : Sv (withD q d) k := by
  refine (keys_seenL (withD q d) k).ext (n := q.1.length) (m := q.1.length) hk fun j => ⟨fun hj => ?_, fun hj => pressed_seen (q := withD q d) hk j hj⟩
  have := seen_diodes hs j hj
  rw [h] at this
  exact this
theorem sv_full (g : Good q) {k : List Int} (hk : Keys q.1.length k) : Sv (withD q (rgI 0 q.1.length)) k :=
  seen_full (q := withD q (rgI 0 q.1.length)) (fun j hj => mem_rgI.mpr (hk.2 j hj)) g.nd hk
theorem sv_nil : Sv q [] := seen_none
theorem sv_one (g : Good q) {j : Int} (hj : 0 ≤ j ∧ j < q.1.length) : Sv q [j] := by
  have kj : Keys q.1.length [j] := ⟨List.pairwise_singleton _ _, fun k hk => by rw [List.mem_singleton] at hk; rw [hk]; exact hj⟩
  refine (keys_seenL q [j]).ext kj fun k => ⟨fun hk => ?_, fun hk => pressed_seen kj k hk⟩
  obtain ⟨hk1, k', h1, h2, e⟩ := mem_seenL.mp hk
  rw [List.mem_singleton] at h1 ⊢
  subst h1
  -- from its row: only that key, and back
  have : ∀ {r0 r : Int}, RowR q [k'] r0 r → r = r0 ∨ (r = rowK q k' ∧ r0 = rowK q k') := by
    intro r0 r h
    induction h with
    | here => exact .inl rfl
    | @step a b _ ha hb e nd ih =>
      rw [List.mem_singleton] at ha hb
      subst ha; subst hb
      exact ih
  have hr : rowK q k' = rowK q k := (this h2).elim (fun z => z) fun z => z.2.symm
  exact spot_inj g.nd hk1 hj hr.symm e.symm
end
theorem law_wish_ok (s : Scr) (at' : Int) {many : Nat} {most : Int} (hm : many ≤ 1000) (h : 0 ≤ most ∧ most ≤ 24) : P__law_wish s at' many most ∧ WishOk many (T__law_wish s at' many most) ∧ ((T__law_wish s at' many most).length : Int) ≤ most := by
  unfold P__law_wish T__law_wish P__law_wish_1 T__law_wish_1
  have d := drawS_lt s at' (m := most + 1) (by omega)
  generalize drawS s at' (most + 1) = m at *
  have hl : ((rgI 0 m).map fun (k' : Int) => T__law_set s (at' + 1 + 7 * k') many).length ≤ m.toNat := by
    rw [List.length_map, rgI_length]; omega
  have hset : ∀ k ∈ rgI 0 m, P__law_set s (at' + 1 + 7 * k) many ∧ Keys many (T__law_set s (at' + 1 + 7 * k) many) := fun k _ => law_set_ok s _ (by omega)
  have hk : ∀ z ∈ ssE (eT eI) ((rgI 0 m).map fun (k' : Int) => T__law_set s (at' + 1 + 7 * k') many), Keys many z := fun z hz => by
    rw [mem_ssK] at hz
    obtain ⟨k, hk, rfl⟩ := List.mem_map.mp hz
    exact (hset k hk).2
  have hlen : (ssE (eT eI) ((rgI 0 m).map fun (k' : Int) => T__law_set s (at' + 1 + 7 * k') many)).length ≤ m.toNat :=
    Nat.le_trans (nodup_le _ _ (ssK_ris _).nd fun z hz => mem_ssK.mp hz) hl
  exact ⟨⟨⟨⟨show (0 : Int) < most + 1 by omega, rgIn_of (by omega)⟩, fun k hk => (hset k hk).1⟩, by omega⟩, ⟨ssK_ris _, hk, by omega⟩, by omega⟩
theorem wish_union {n : Int} {a b : List (List Int)} (ha : WishOk n a) (hb : WishOk n b) (hl : a.length + b.length ≤ 24) : WishOk n (ssE (eT eI) (a ++ b)) := ⟨ssK_ris _, fun k hk => by
  rw [mem_ssK, List.mem_append] at hk
  exact hk.elim (ha.keys k) (hb.keys k), by
  have := nodup_le _ _ (ssK_ris (a ++ b)).nd fun z hz => mem_ssK.mp hz
  rw [List.length_append] at this
  omega⟩
end DL

/-! typed values, printed by ty.py -/
namespace DL
open PySem PySem.Spec PyProof.Rows L2
/-! ### _law_sets_k05 -/
abbrev K__law_sets_k05_L1  (s' : (List (List Int))) : Ks := [none, some ((eL (eT eI)) s'), none, none]
def T__law_sets_k05_L1 (found' : (List (List Int))) (key' : Int) : (List (List Int)) := (found' ++ (found'.map (fun (one' : (List Int)) => (one' ++ [key']))))
def P__law_sets_k05_L1 (found' : (List (List Int))) (key' : Int) : Prop := (((found'.length ≤ LIM) ∧ (∀ one' ∈ found', (one'.length + [key'].length ≤ LIM))) ∧ (found'.length + (found'.map (fun (one' : (List Int)) => (one' ++ [key']))).length ≤ LIM))
theorem x__law_sets_k05_L1 (found' : (List (List Int))) (key' : Int) (h : P__law_sets_k05_L1 found' key') : Tx [none, some ((eL (eT eI)) found'), some (eI key'), none] G__law_sets_k05_L1 (Rl.nx (K__law_sets_k05_L1 (T__law_sets_k05_L1 found' key'))) :=
  (ex_sub (ex_set (ev_bin (ev_var rfl) (ev_lstF (ev_compA (e := (eT eI)) (e' := (eT eI)) (fun (one' : (List Int)) => (one' ++ [key'])) _ (it_itemsL (ev_var rfl)) (And.left (And.left h)) fun one' u185 => ⟨tg1, (ev_bin (ev_var rfl) (ev_tup (ea_cons (ev_var rfl) ea_nil) (lim_small (Nat.le_of_ble_eq_true rfl))) (t_addT (e := eI) (a := one') (b := [key']) ((And.right (And.left h)) one' u185)))⟩)) (t_addL (e := (eT eI)) (a := found') (b := (found'.map (fun (one' : (List Int)) => (one' ++ [key'])))) (And.right h)))) (.skip (.keep (.skip (.skip .nil)))))
def T__law_sets_k05_2 (found' : (List (List Int))) : (List (List Int)) := (sortE (ltE (eT eI)) found')
theorem x__law_sets_k05_2 (found' : (List (List Int))) : Tx [none, some ((eL (eT eI)) found'), none, none] G__law_sets_k05_2 (Rl.rt ((eL (eT eI)) (T__law_sets_k05_2 found'))) :=
  (ex_ret (ev_nop (ea_cons (ev_var rfl) ea_nil) (t_sortL (e := (eT eI)) (okT okI) (cmT (n := 62) cmI okI) _)))
def T__law_sets_k05_1 (many' : Int) (found' : (List (List Int))) : (List (List Int)) := (T__law_sets_k05_2 ((rgI 0 many').foldl (fun (s' : (List (List Int))) (key' : Int) => T__law_sets_k05_L1 s' key') found'))
def P__law_sets_k05_1 (many' : Int) (found' : (List (List Int))) : Prop := (((RgIn 0 many')) ∧ (∃ I : Nat → (List (List Int)) → Prop, I 0 found' ∧ ∀ (i' : Nat) (key' : Int), (rgI 0 many')[i']? = some key' → ∀ s', I i' s' → P__law_sets_k05_L1 s' key' ∧ I (i' + 1) ((fun (s' : (List (List Int))) (key' : Int) => T__law_sets_k05_L1 s' key') s' key')))
theorem x__law_sets_k05_1 (many' : Int) (found' : (List (List Int))) (h : P__law_sets_k05_1 many' found') : Tx [some (eI many'), some ((eL (eT eI)) found'), none, none] G__law_sets_k05_1 (Rl.rt ((eL (eT eI)) (T__law_sets_k05_1 many' found'))) :=
  (ex_sq (let ⟨I, h0, hb⟩ := (And.right h); ex_fold (e := eI) (kh := K__law_sets_k05_L1) (st := (fun (s' : (List (List Int))) (key' : Int) => T__law_sets_k05_L1 s' key')) (I := I) (it_rng1 (ea_cons (ev_var rfl) ea_nil) (And.left h)) (.skip (.keep (.skip (.skip .nil)))) h0 fun i' key' hx s' hs => ⟨_, tg1, ex_pre (x__law_sets_k05_L1 s' key' (hb i' key' hx s' hs).1) (.skip (.keep (.keep (.skip .nil)))), (hb i' key' hx s' hs).2⟩) (ex_pre (x__law_sets_k05_2 ((rgI 0 many').foldl (fun (s' : (List (List Int))) (key' : Int) => T__law_sets_k05_L1 s' key') found')) (.skip (.keep (.skip (.skip .nil))))))
def T__law_sets_k05 (many' : Int) : (List (List Int)) := (T__law_sets_k05_1 many' [([] : List Int)])
def P__law_sets_k05 (many' : Int) : Prop := (P__law_sets_k05_1 many' [([] : List Int)])
theorem x__law_sets_k05 (many' : Int) (h : P__law_sets_k05 many') : Tx [some (eI many'), none, none, none] G__law_sets_k05 (Rl.rt ((eL (eT eI)) (T__law_sets_k05 many'))) :=
  (ex_sq (ex_set (ev_lstF (ev_lim (ea_cons (ev_tup (as := []) ea_nil lim_nil) ea_nil) (lim_small (Nat.le_of_ble_eq_true rfl))))) (ex_pre (x__law_sets_k05_1 many' [([] : List Int)] h) (.keep (.keep (.skip (.skip .nil))))))
theorem f__law_sets_k05 (many' : Int) (h : P__law_sets_k05 many') : F__law_sets_k05 [eI many'] = pure ((eL (eT eI)) (T__law_sets_k05 many')) :=
  fn_of rfl rfl (ex_pre (x__law_sets_k05 many' h) (.keep (.skip (.skip (.skip .nil)))))
/-! ### law_k05 -/
abbrev K_law_k05_L1 (square_here' : Sq) (many' : Int) (none' : Sq) : Ks := [none, some (eSq square_here'), some (eI many'), some (eSq none'), none, none, none, none, none, none, none, none, none, none]
abbrev K_law_k05_L3 (square_here' : Sq) (many' : Int) (none' : Sq) (keys' : (List Int)) (told' : (List Int)) : Ks := [none, some (eSq square_here'), some (eI many'), some (eSq none'), some ((eT eI) keys'), some ((eL eI) told'), none, none, none, none, none, none, none, none]
def T_law_k05_L3_2 (square_here' : Sq) (many' : Int) (none' : Sq) (keys' : (List Int)) (told' : (List Int)) (key' : Int) (more' : (List Int)) : (Option Bool) := (if ((inE key' square_here'.2) && (!(decide (more' = told')))) then (some false) else none)
theorem x_law_k05_L3_2 (square_here' : Sq) (many' : Int) (none' : Sq) (keys' : (List Int)) (told' : (List Int)) (key' : Int) (more' : (List Int)) : Tx [none, some (eSq square_here'), some (eI many'), some (eSq none'), some ((eT eI) keys'), some ((eL eI) told'), some (eI key'), none, some ((eL eI) more'), none, none, none, none, none] G_law_k05_L3_2 (opR (K_law_k05_L3 square_here' many' none' keys' told') eB (T_law_k05_L3_2 square_here' many' none' keys' told' key' more')) :=
  (ex_if (fun z => opR (K_law_k05_L3 square_here' many' none' keys' told') eB z) (ev_andt (ev_tst (ev_bin (ev_var rfl) (ev_bin (ev_var rfl) ev_cst t_idxP1) (t_inT (e := eI) okI key' square_here'.2))) fun u211 => (ev_tst (ev_bin (ev_var rfl) (ev_var rfl) (t_ne (e := (eL eI)) (okL okI) more' told')))) (fun hb => (ex_ret ev_cst)) (fun hb => (ex_sub ex_skp (.skip (.keep (.keep (.keep (.keep (.keep (.skip (.skip (.skip (.skip (.skip (.skip (.skip (.skip .nil)))))))))))))))))
def T_law_k05_L3_1 (square_here' : Sq) (many' : Int) (none' : Sq) (keys' : (List Int)) (told' : (List Int)) (key' : Int) (more' : (List Int)) : (Option Bool) := (if (!(decide ((told'.filter (fun (one' : Int) => (!(inE one' more')))) = ([] : List Int)))) then (some false) else (T_law_k05_L3_2 square_here' many' none' keys' told' key' more'))
def P_law_k05_L3_1 (square_here' : Sq) (many' : Int) (none' : Sq) (keys' : (List Int)) (told' : (List Int)) (key' : Int) (more' : (List Int)) : Prop := (((told'.length ≤ LIM)))
theorem x_law_k05_L3_1 (square_here' : Sq) (many' : Int) (none' : Sq) (keys' : (List Int)) (told' : (List Int)) (key' : Int) (more' : (List Int)) (h : P_law_k05_L3_1 square_here' many' none' keys' told' key' more') : Tx [none, some (eSq square_here'), some (eI many'), some (eSq none'), some ((eT eI) keys'), some ((eL eI) told'), some (eI key'), none, some ((eL eI) more'), none, none, none, none, none] G_law_k05_L3_1 (opR (K_law_k05_L3 square_here' many' none' keys' told') eB (T_law_k05_L3_1 square_here' many' none' keys' told' key' more')) :=
  (ex_guard (fun z => opR (K_law_k05_L3 square_here' many' none' keys' told') eB z) (ev_tst (ev_bin (ev_lstF (ev_compI (e := eI) (fun (one' : Int) => (!(inE one' more'))) _ (it_itemsL (ev_var rfl)) h fun one' u209 => ⟨tg1, (ev_tst (ev_bin (ev_var rfl) (ev_var rfl) (t_ninL (e := eI) okI one' more'))), fun u210 => (ev_var rfl)⟩)) (ev_lst (as := []) ea_nil lim_nil) (t_ne (e := (eL eI)) (okL okI) (told'.filter (fun (one' : Int) => (!(inE one' more')))) ([] : List Int)))) (fun hb => (ex_ret ev_cst)) rfl (fun hb => (ex_pre (x_law_k05_L3_2 square_here' many' none' keys' told' key' more') (.skip (.keep (.keep (.keep (.keep (.keep (.keep (.skip (.keep (.skip (.skip (.skip (.skip (.skip .nil)))))))))))))))))
def T_law_k05_L3 (square_here' : Sq) (many' : Int) (none' : Sq) (keys' : (List Int)) (told' : (List Int)) (key' : Int) : (Option Bool) := (T_law_k05_L3_1 square_here' many' none' keys' told' key' (T_seen square_here' (sortE (ltE eI) (keys' ++ [key']))))
def P_law_k05_L3 (square_here' : Sq) (many' : Int) (none' : Sq) (keys' : (List Int)) (told' : (List Int)) (key' : Int) : Prop := ((((keys'.length + [key'].length ≤ LIM))) ∧ (P_seen square_here' (sortE (ltE eI) (keys' ++ [key'])))) ∧ (P_law_k05_L3_1 square_here' many' none' keys' told' key' (T_seen square_here' (sortE (ltE eI) (keys' ++ [key']))))
theorem x_law_k05_L3 (square_here' : Sq) (many' : Int) (none' : Sq) (keys' : (List Int)) (told' : (List Int)) (key' : Int) (h : P_law_k05_L3 square_here' many' none' keys' told' key') : Tx [none, some (eSq square_here'), some (eI many'), some (eSq none'), some ((eT eI) keys'), some ((eL eI) told'), some (eI key'), none, none, none, none, none, none, none] G_law_k05_L3 (opR (K_law_k05_L3 square_here' many' none' keys' told') eB (T_law_k05_L3 square_here' many' none' keys' told' key')) :=
  (ex_sq (ex_set (ev_nop (ea_cons (ev_var rfl) (ea_cons (ev_nop (ea_cons (ev_nop (ea_cons (ev_bin (ev_var rfl) (ev_tup (ea_cons (ev_var rfl) ea_nil) (lim_small (Nat.le_of_ble_eq_true rfl))) (t_addT (e := eI) (a := keys') (b := [key']) (And.left (And.left h)))) ea_nil) (t_sortT (e := eI) okI cmI _)) ea_nil) rfl) ea_nil)) (f_seen square_here' (sortE (ltE eI) (keys' ++ [key'])) (And.right (And.left h))))) (ex_pre (x_law_k05_L3_1 square_here' many' none' keys' told' key' (T_seen square_here' (sortE (ltE eI) (keys' ++ [key']))) (And.right h)) (.skip (.keep (.keep (.keep (.keep (.keep (.keep (.skip (.keep (.skip (.skip (.skip (.skip (.skip .nil))))))))))))))))
abbrev K_law_k05_L2 (square_here' : Sq) (many' : Int) (none' : Sq) (keys' : (List Int)) (told' : (List Int)) : Ks := [none, some (eSq square_here'), some (eI many'), some (eSq none'), some ((eT eI) keys'), some ((eL eI) told'), none, none, none, none, none, none, none, none]
def T_law_k05_L2_2 (square_here' : Sq) (many' : Int) (none' : Sq) (keys' : (List Int)) (told' : (List Int)) (key' : Int) (near' : (List Int)) : (Option Bool) := (if ((decide (near' = ([] : List Int))) && (!(decide ((inE key' told') = (inE key' keys'))))) then (some false) else none)
theorem x_law_k05_L2_2 (square_here' : Sq) (many' : Int) (none' : Sq) (keys' : (List Int)) (told' : (List Int)) (key' : Int) (near' : (List Int)) : Tx [none, some (eSq square_here'), some (eI many'), some (eSq none'), some ((eT eI) keys'), some ((eL eI) told'), some (eI key'), none, none, some ((eL eI) near'), none, none, none, none] G_law_k05_L2_2 (opR (K_law_k05_L2 square_here' many' none' keys' told') eB (T_law_k05_L2_2 square_here' many' none' keys' told' key' near')) :=
  (ex_if (fun z => opR (K_law_k05_L2 square_here' many' none' keys' told') eB z) (ev_andt (ev_tst (ev_bin (ev_var rfl) (ev_lst (as := []) ea_nil lim_nil) (t_eq (e := (eL eI)) (okL okI) near' ([] : List Int)))) fun u219 => (ev_tst (ev_bin (ev_bin (ev_var rfl) (ev_var rfl) (t_inL (e := eI) okI key' told')) (ev_bin (ev_var rfl) (ev_var rfl) (t_inT (e := eI) okI key' keys')) (t_ne (e := eB) okB (inE key' told') (inE key' keys'))))) (fun hb => (ex_ret ev_cst)) (fun hb => (ex_sub ex_skp (.skip (.keep (.keep (.keep (.keep (.keep (.skip (.skip (.skip (.skip (.skip (.skip (.skip (.skip .nil)))))))))))))))))
def T_law_k05_L2_1 (square_here' : Sq) (many' : Int) (none' : Sq) (keys' : (List Int)) (told' : (List Int)) (key' : Int) (row' : Int) (column' : Int) : (Option Bool) := (T_law_k05_L2_2 square_here' many' none' keys' told' key' (((enE square_here'.1).filter (fun (z_one_spot' : (Int × (Int × Int))) => ((!(decide (z_one_spot'.1 = key'))) && ((decide (z_one_spot'.2.1 = row')) || (decide (z_one_spot'.2.2 = column')))))).map (fun (z_one_spot' : (Int × (Int × Int))) => z_one_spot'.1)))
def P_law_k05_L2_1 (square_here' : Sq) (many' : Int) (none' : Sq) (keys' : (List Int)) (told' : (List Int)) (key' : Int) (row' : Int) (column' : Int) : Prop := (((enE square_here'.1).length ≤ LIM))
theorem x_law_k05_L2_1 (square_here' : Sq) (many' : Int) (none' : Sq) (keys' : (List Int)) (told' : (List Int)) (key' : Int) (row' : Int) (column' : Int) (h : P_law_k05_L2_1 square_here' many' none' keys' told' key' row' column') : Tx [none, some (eSq square_here'), some (eI many'), some (eSq none'), some ((eT eI) keys'), some ((eL eI) told'), some (eI key'), none, none, none, some (eI row'), some (eI column'), none, none] G_law_k05_L2_1 (opR (K_law_k05_L2 square_here' many' none' keys' told') eB (T_law_k05_L2_1 square_here' many' none' keys' told' key' row' column')) :=
  (ex_sq (ex_set (ev_lstF (ev_comp (e := (eP eI (eP eI eI))) (e' := eI) (fun (z_one_spot' : (Int × (Int × Int))) => ((!(decide (z_one_spot'.1 = key'))) && ((decide (z_one_spot'.2.1 = row')) || (decide (z_one_spot'.2.2 = column'))))) (fun (z_one_spot' : (Int × (Int × Int))) => z_one_spot'.1) _ (it_enumT (e := (eP eI eI)) (ea_cons (ev_bin (ev_var rfl) ev_cst t_idxP0) ea_nil)) h fun z_one_spot' u215 => ⟨tg2, (ev_andt (ev_tst (ev_bin (ev_var rfl) (ev_var rfl) (t_ne (e := eI) okI z_one_spot'.1 key'))) fun u218 => (ev_ort (ev_tst (ev_bin (ev_bin (ev_var rfl) ev_cst t_idxP0) (ev_var rfl) (t_eq (e := eI) okI z_one_spot'.2.1 row'))) fun u217 => (ev_tst (ev_bin (ev_bin (ev_var rfl) ev_cst t_idxP1) (ev_var rfl) (t_eq (e := eI) okI z_one_spot'.2.2 column'))))), fun u216 => (ev_var rfl)⟩))) (ex_pre (x_law_k05_L2_2 square_here' many' none' keys' told' key' (((enE square_here'.1).filter (fun (z_one_spot' : (Int × (Int × Int))) => ((!(decide (z_one_spot'.1 = key'))) && ((decide (z_one_spot'.2.1 = row')) || (decide (z_one_spot'.2.2 = column')))))).map (fun (z_one_spot' : (Int × (Int × Int))) => z_one_spot'.1))) (.skip (.keep (.keep (.keep (.keep (.keep (.keep (.skip (.skip (.keep (.skip (.skip (.skip (.skip .nil))))))))))))))))
def T_law_k05_L2 (square_here' : Sq) (many' : Int) (none' : Sq) (keys' : (List Int)) (told' : (List Int)) (key' : Int) : (Option Bool) := (T_law_k05_L2_1 square_here' many' none' keys' told' key' (ixE square_here'.1 key').1 (ixE square_here'.1 key').2)
def P_law_k05_L2 (square_here' : Sq) (many' : Int) (none' : Sq) (keys' : (List Int)) (told' : (List Int)) (key' : Int) : Prop := ((InIx square_here'.1 key')) ∧ (P_law_k05_L2_1 square_here' many' none' keys' told' key' (ixE square_here'.1 key').1 (ixE square_here'.1 key').2)
theorem x_law_k05_L2 (square_here' : Sq) (many' : Int) (none' : Sq) (keys' : (List Int)) (told' : (List Int)) (key' : Int) (h : P_law_k05_L2 square_here' many' none' keys' told' key') : Tx [none, some (eSq square_here'), some (eI many'), some (eSq none'), some ((eT eI) keys'), some ((eL eI) told'), some (eI key'), none, none, none, none, none, none, none] G_law_k05_L2 (opR (K_law_k05_L2 square_here' many' none' keys' told') eB (T_law_k05_L2 square_here' many' none' keys' told' key')) :=
  (ex_sq (ex_setT (ev_bin (ev_bin (ev_var rfl) ev_cst t_idxP0) (ev_var rfl) (t_idxT (e := (eP eI eI)) (And.left h))) tg2) (ex_pre (x_law_k05_L2_1 square_here' many' none' keys' told' key' (ixE square_here'.1 key').1 (ixE square_here'.1 key').2 (And.right h)) (.skip (.keep (.keep (.keep (.keep (.keep (.keep (.skip (.skip (.skip (.keep (.keep (.skip (.skip .nil))))))))))))))))
def T_law_k05_L1_7 (square_here' : Sq) (many' : Int) (none' : Sq) (keys' : (List Int)) (told' : (List Int)) : (Option Bool) := (opM ((rgI 0 many').findSome? (fun (key' : Int) => T_law_k05_L2 square_here' many' none' keys' told' key')) none (fun a => (some a)))
def P_law_k05_L1_7 (square_here' : Sq) (many' : Int) (none' : Sq) (keys' : (List Int)) (told' : (List Int)) : Prop := ((RgIn 0 many')) ∧ (∀ key' ∈ (rgI 0 many'), P_law_k05_L2 square_here' many' none' keys' told' key')
theorem x_law_k05_L1_7 (square_here' : Sq) (many' : Int) (none' : Sq) (keys' : (List Int)) (told' : (List Int)) (h : P_law_k05_L1_7 square_here' many' none' keys' told') : Tx [none, some (eSq square_here'), some (eI many'), some (eSq none'), some ((eT eI) keys'), some ((eL eI) told'), none, none, none, none, none, none, none, none] G_law_k05_L1_7 (opR (K_law_k05_L1 square_here' many' none') eB (T_law_k05_L1_7 square_here' many' none' keys' told')) :=
  (ex_last_op (fun z => opR (K_law_k05_L1 square_here' many' none') eB z) (fun a => (some a)) (ex_find (e := eI) (e' := eB) (kh := (K_law_k05_L2 square_here' many' none' keys' told')) (g := (fun (key' : Int) => T_law_k05_L2 square_here' many' none' keys' told' key')) (it_rng1 (ea_cons (ev_var rfl) ea_nil) (And.left h)) (.skip (.keep (.keep (.keep (.keep (.keep (.skip (.skip (.skip (.skip (.skip (.skip (.skip (.skip .nil)))))))))))))) fun key' hx => ⟨_, tg1, ex_pre (x_law_k05_L2 square_here' many' none' keys' told' key' ((And.right h) key' hx)) (.skip (.keep (.keep (.keep (.keep (.keep (.keep (.skip (.skip (.skip (.skip (.skip (.skip (.skip .nil))))))))))))))⟩) (fun _ => rfl) (fun _ => (ex_sub ex_skp (.skip (.keep (.keep (.keep (.skip (.skip (.skip (.skip (.skip (.skip (.skip (.skip (.skip (.skip .nil)))))))))))))))))
def T_law_k05_L1_6 (square_here' : Sq) (many' : Int) (none' : Sq) (keys' : (List Int)) (told' : (List Int)) (plain' : (List Int)) : (Option Bool) := (if (!(decide ((told'.filter (fun (one' : Int) => (!(inE one' plain')))) = ([] : List Int)))) then (some false) else (T_law_k05_L1_7 square_here' many' none' keys' told'))
def P_law_k05_L1_6 (square_here' : Sq) (many' : Int) (none' : Sq) (keys' : (List Int)) (told' : (List Int)) (plain' : (List Int)) : Prop := (((told'.length ≤ LIM))) ∧ ((!(decide ((told'.filter (fun (one' : Int) => (!(inE one' plain')))) = ([] : List Int)))) = false → P_law_k05_L1_7 square_here' many' none' keys' told')
theorem x_law_k05_L1_6 (square_here' : Sq) (many' : Int) (none' : Sq) (keys' : (List Int)) (told' : (List Int)) (plain' : (List Int)) (h : P_law_k05_L1_6 square_here' many' none' keys' told' plain') : Tx [none, some (eSq square_here'), some (eI many'), some (eSq none'), some ((eT eI) keys'), some ((eL eI) told'), none, some ((eL eI) plain'), none, none, none, none, none, none] G_law_k05_L1_6 (opR (K_law_k05_L1 square_here' many' none') eB (T_law_k05_L1_6 square_here' many' none' keys' told' plain')) :=
  (ex_guard (fun z => opR (K_law_k05_L1 square_here' many' none') eB z) (ev_tst (ev_bin (ev_lstF (ev_compI (e := eI) (fun (one' : Int) => (!(inE one' plain'))) _ (it_itemsL (ev_var rfl)) (And.left h) fun one' u213 => ⟨tg1, (ev_tst (ev_bin (ev_var rfl) (ev_var rfl) (t_ninL (e := eI) okI one' plain'))), fun u214 => (ev_var rfl)⟩)) (ev_lst (as := []) ea_nil lim_nil) (t_ne (e := (eL eI)) (okL okI) (told'.filter (fun (one' : Int) => (!(inE one' plain')))) ([] : List Int)))) (fun hb => (ex_ret ev_cst)) rfl (fun hb => (ex_pre (x_law_k05_L1_7 square_here' many' none' keys' told' ((And.right h) hb)) (.skip (.keep (.keep (.keep (.keep (.keep (.skip (.skip (.skip (.skip (.skip (.skip (.skip (.skip .nil)))))))))))))))))
def T_law_k05_L1_5 (square_here' : Sq) (many' : Int) (none' : Sq) (keys' : (List Int)) (told' : (List Int)) (plain' : (List Int)) : (Option Bool) := (if ((!(decide ((T_seen none' plain') = plain'))) || (!(decide ((T_seen (turnedQ none') keys') = plain')))) then (some false) else (T_law_k05_L1_6 square_here' many' none' keys' told' plain'))
def P_law_k05_L1_5 (square_here' : Sq) (many' : Int) (none' : Sq) (keys' : (List Int)) (told' : (List Int)) (plain' : (List Int)) : Prop := ((((P_seen none' plain'))) ∧ ((!(decide ((T_seen none' plain') = plain'))) = false → ((((PSq none'))) ∧ (P_seen (turnedQ none') keys')))) ∧ (((!(decide ((T_seen none' plain') = plain'))) || (!(decide ((T_seen (turnedQ none') keys') = plain')))) = false → P_law_k05_L1_6 square_here' many' none' keys' told' plain')
theorem x_law_k05_L1_5 (square_here' : Sq) (many' : Int) (none' : Sq) (keys' : (List Int)) (told' : (List Int)) (plain' : (List Int)) (h : P_law_k05_L1_5 square_here' many' none' keys' told' plain') : Tx [none, some (eSq square_here'), some (eI many'), some (eSq none'), some ((eT eI) keys'), some ((eL eI) told'), none, some ((eL eI) plain'), none, none, none, none, none, none] G_law_k05_L1_5 (opR (K_law_k05_L1 square_here' many' none') eB (T_law_k05_L1_5 square_here' many' none' keys' told' plain')) :=
  (ex_guard (fun z => opR (K_law_k05_L1 square_here' many' none') eB z) (ev_ort (ev_tst (ev_bin (ev_nop (ea_cons (ev_var rfl) (ea_cons (ev_nop (ea_cons (ev_var rfl) ea_nil) rfl) ea_nil)) (f_seen none' plain' (And.left (And.left h)))) (ev_var rfl) (t_ne (e := (eL eI)) (okL okI) (T_seen none' plain') plain'))) fun u212 => (ev_tst (ev_bin (ev_nop (ea_cons (ev_nop (ea_cons (ev_var rfl) ea_nil) (t_turned none' (And.left ((And.right (And.left h)) u212)))) (ea_cons (ev_var rfl) ea_nil)) (f_seen (turnedQ none') keys' (And.right ((And.right (And.left h)) u212)))) (ev_var rfl) (t_ne (e := (eL eI)) (okL okI) (T_seen (turnedQ none') keys') plain')))) (fun hb => (ex_ret ev_cst)) rfl (fun hb => (ex_pre (x_law_k05_L1_6 square_here' many' none' keys' told' plain' ((And.right h) hb)) (.skip (.keep (.keep (.keep (.keep (.keep (.skip (.keep (.skip (.skip (.skip (.skip (.skip (.skip .nil)))))))))))))))))
def T_law_k05_L1_4 (square_here' : Sq) (many' : Int) (none' : Sq) (keys' : (List Int)) (told' : (List Int)) : (Option Bool) := (T_law_k05_L1_5 square_here' many' none' keys' told' (T_seen none' keys'))
def P_law_k05_L1_4 (square_here' : Sq) (many' : Int) (none' : Sq) (keys' : (List Int)) (told' : (List Int)) : Prop := ((P_seen none' keys')) ∧ (P_law_k05_L1_5 square_here' many' none' keys' told' (T_seen none' keys'))
theorem x_law_k05_L1_4 (square_here' : Sq) (many' : Int) (none' : Sq) (keys' : (List Int)) (told' : (List Int)) (h : P_law_k05_L1_4 square_here' many' none' keys' told') : Tx [none, some (eSq square_here'), some (eI many'), some (eSq none'), some ((eT eI) keys'), some ((eL eI) told'), none, none, none, none, none, none, none, none] G_law_k05_L1_4 (opR (K_law_k05_L1 square_here' many' none') eB (T_law_k05_L1_4 square_here' many' none' keys' told')) :=
  (ex_sq (ex_set (ev_nop (ea_cons (ev_var rfl) (ea_cons (ev_var rfl) ea_nil)) (f_seen none' keys' (And.left h)))) (ex_pre (x_law_k05_L1_5 square_here' many' none' keys' told' (T_seen none' keys') (And.right h)) (.skip (.keep (.keep (.keep (.keep (.keep (.skip (.keep (.skip (.skip (.skip (.skip (.skip (.skip .nil))))))))))))))))
def T_law_k05_L1_3 (square_here' : Sq) (many' : Int) (none' : Sq) (keys' : (List Int)) (told' : (List Int)) : (Option Bool) := (opM ((T_false_keys square_here' keys').findSome? (fun (key' : Int) => T_law_k05_L3 square_here' many' none' keys' told' key')) (T_law_k05_L1_4 square_here' many' none' keys' told') (fun a => (some a)))
def P_law_k05_L1_3 (square_here' : Sq) (many' : Int) (none' : Sq) (keys' : (List Int)) (told' : (List Int)) : Prop := (((P_false_keys square_here' keys')) ∧ (∀ key' ∈ (T_false_keys square_here' keys'), P_law_k05_L3 square_here' many' none' keys' told' key')) ∧ (((T_false_keys square_here' keys').findSome? (fun (key' : Int) => T_law_k05_L3 square_here' many' none' keys' told' key')) = none → P_law_k05_L1_4 square_here' many' none' keys' told')
theorem x_law_k05_L1_3 (square_here' : Sq) (many' : Int) (none' : Sq) (keys' : (List Int)) (told' : (List Int)) (h : P_law_k05_L1_3 square_here' many' none' keys' told') : Tx [none, some (eSq square_here'), some (eI many'), some (eSq none'), some ((eT eI) keys'), some ((eL eI) told'), none, none, none, none, none, none, none, none] G_law_k05_L1_3 (opR (K_law_k05_L1 square_here' many' none') eB (T_law_k05_L1_3 square_here' many' none' keys' told')) :=
  (ex_sq_op (fun z => opR (K_law_k05_L1 square_here' many' none') eB z) (fun a => (some a)) (ex_find (e := eI) (e' := eB) (kh := (K_law_k05_L3 square_here' many' none' keys' told')) (g := (fun (key' : Int) => T_law_k05_L3 square_here' many' none' keys' told' key')) (it_itemsL (ev_nop (ea_cons (ev_var rfl) (ea_cons (ev_var rfl) ea_nil)) (f_false_keys square_here' keys' (And.left (And.left h))))) (.skip (.keep (.keep (.keep (.keep (.keep (.skip (.skip (.skip (.skip (.skip (.skip (.skip (.skip .nil)))))))))))))) fun key' hx => ⟨_, tg1, ex_pre (x_law_k05_L3 square_here' many' none' keys' told' key' ((And.right (And.left h)) key' hx)) (.skip (.keep (.keep (.keep (.keep (.keep (.keep (.skip (.skip (.skip (.skip (.skip (.skip (.skip .nil))))))))))))))⟩) (fun _ => rfl) (fun hb => (ex_pre (x_law_k05_L1_4 square_here' many' none' keys' told' ((And.right h) hb)) (.skip (.keep (.keep (.keep (.keep (.keep (.skip (.skip (.skip (.skip (.skip (.skip (.skip (.skip .nil)))))))))))))))))
def T_law_k05_L1_2 (square_here' : Sq) (many' : Int) (none' : Sq) (keys' : (List Int)) (told' : (List Int)) : (Option Bool) := (if (!(decide ((T_is_true square_here' keys') = (decide (told' = keys'))))) then (some false) else (T_law_k05_L1_3 square_here' many' none' keys' told'))
def P_law_k05_L1_2 (square_here' : Sq) (many' : Int) (none' : Sq) (keys' : (List Int)) (told' : (List Int)) : Prop := (((P_is_true square_here' keys'))) ∧ ((!(decide ((T_is_true square_here' keys') = (decide (told' = keys'))))) = false → P_law_k05_L1_3 square_here' many' none' keys' told')
theorem x_law_k05_L1_2 (square_here' : Sq) (many' : Int) (none' : Sq) (keys' : (List Int)) (told' : (List Int)) (h : P_law_k05_L1_2 square_here' many' none' keys' told') : Tx [none, some (eSq square_here'), some (eI many'), some (eSq none'), some ((eT eI) keys'), some ((eL eI) told'), none, none, none, none, none, none, none, none] G_law_k05_L1_2 (opR (K_law_k05_L1 square_here' many' none') eB (T_law_k05_L1_2 square_here' many' none' keys' told')) :=
  (ex_guard (fun z => opR (K_law_k05_L1 square_here' many' none') eB z) (ev_tst (ev_bin (ev_nop (ea_cons (ev_var rfl) (ea_cons (ev_var rfl) ea_nil)) (f_is_true square_here' keys' (And.left h))) (ev_bin (ev_var rfl) (ev_nop (ea_cons (ev_var rfl) ea_nil) rfl) (t_eq (e := (eL eI)) (okL okI) told' keys')) (t_ne (e := eB) okB (T_is_true square_here' keys') (decide (told' = keys'))))) (fun hb => (ex_ret ev_cst)) rfl (fun hb => (ex_pre (x_law_k05_L1_3 square_here' many' none' keys' told' ((And.right h) hb)) (.skip (.keep (.keep (.keep (.keep (.keep (.skip (.skip (.skip (.skip (.skip (.skip (.skip (.skip .nil)))))))))))))))))
def T_law_k05_L1_1 (square_here' : Sq) (many' : Int) (none' : Sq) (keys' : (List Int)) (told' : (List Int)) : (Option Bool) := (if (!(decide ((sortE (ltE eI) (keys' ++ (T_false_keys square_here' keys'))) = told'))) then (some false) else (T_law_k05_L1_2 square_here' many' none' keys' told'))
def P_law_k05_L1_1 (square_here' : Sq) (many' : Int) (none' : Sq) (keys' : (List Int)) (told' : (List Int)) : Prop := ((((P_false_keys square_here' keys')) ∧ (keys'.length + (T_false_keys square_here' keys').length ≤ LIM))) ∧ ((!(decide ((sortE (ltE eI) (keys' ++ (T_false_keys square_here' keys'))) = told'))) = false → P_law_k05_L1_2 square_here' many' none' keys' told')
theorem x_law_k05_L1_1 (square_here' : Sq) (many' : Int) (none' : Sq) (keys' : (List Int)) (told' : (List Int)) (h : P_law_k05_L1_1 square_here' many' none' keys' told') : Tx [none, some (eSq square_here'), some (eI many'), some (eSq none'), some ((eT eI) keys'), some ((eL eI) told'), none, none, none, none, none, none, none, none] G_law_k05_L1_1 (opR (K_law_k05_L1 square_here' many' none') eB (T_law_k05_L1_1 square_here' many' none' keys' told')) :=
  (ex_guard (fun z => opR (K_law_k05_L1 square_here' many' none') eB z) (ev_tst (ev_bin (ev_nop (ea_cons (ev_bin (ev_nop (ea_cons (ev_var rfl) ea_nil) rfl) (ev_nop (ea_cons (ev_var rfl) (ea_cons (ev_var rfl) ea_nil)) (f_false_keys square_here' keys' (And.left (And.left h)))) (t_addL (e := eI) (a := keys') (b := (T_false_keys square_here' keys')) (And.right (And.left h)))) ea_nil) (t_sortL (e := eI) okI cmI _)) (ev_var rfl) (t_ne (e := (eL eI)) (okL okI) (sortE (ltE eI) (keys' ++ (T_false_keys square_here' keys'))) told'))) (fun hb => (ex_ret ev_cst)) rfl (fun hb => (ex_pre (x_law_k05_L1_2 square_here' many' none' keys' told' ((And.right h) hb)) (.skip (.keep (.keep (.keep (.keep (.keep (.skip (.skip (.skip (.skip (.skip (.skip (.skip (.skip .nil)))))))))))))))))
def T_law_k05_L1 (square_here' : Sq) (many' : Int) (none' : Sq) (keys' : (List Int)) : (Option Bool) := (T_law_k05_L1_1 square_here' many' none' keys' (T_seen square_here' keys'))
def P_law_k05_L1 (square_here' : Sq) (many' : Int) (none' : Sq) (keys' : (List Int)) : Prop := ((P_seen square_here' keys')) ∧ (P_law_k05_L1_1 square_here' many' none' keys' (T_seen square_here' keys'))
theorem x_law_k05_L1 (square_here' : Sq) (many' : Int) (none' : Sq) (keys' : (List Int)) (h : P_law_k05_L1 square_here' many' none' keys') : Tx [none, some (eSq square_here'), some (eI many'), some (eSq none'), some ((eT eI) keys'), none, none, none, none, none, none, none, none, none] G_law_k05_L1 (opR (K_law_k05_L1 square_here' many' none') eB (T_law_k05_L1 square_here' many' none' keys')) :=
  (ex_sq (ex_set (ev_nop (ea_cons (ev_var rfl) (ea_cons (ev_var rfl) ea_nil)) (f_seen square_here' keys' (And.left h)))) (ex_pre (x_law_k05_L1_1 square_here' many' none' keys' (T_seen square_here' keys') (And.right h)) (.skip (.keep (.keep (.keep (.keep (.keep (.skip (.skip (.skip (.skip (.skip (.skip (.skip (.skip .nil))))))))))))))))
def T_law_k05_4  : Bool := true
theorem x_law_k05_4  : Tx [none, none, none, none, none, none, none, none, none, none, none, none, none, none] G_law_k05_4 (Rl.rt (eB (T_law_k05_4 ))) :=
  (ex_ret ev_cst)
def T_law_k05_3 (square_here' : Sq) (many' : Int) (none' : Sq) : Bool := (opM ((T__law_sets_k05 many').findSome? (fun (keys' : (List Int)) => T_law_k05_L1 square_here' many' none' keys')) (T_law_k05_4 ) (fun a => a))
def P_law_k05_3 (square_here' : Sq) (many' : Int) (none' : Sq) : Prop := (((P__law_sets_k05 many')) ∧ (∀ keys' ∈ (T__law_sets_k05 many'), P_law_k05_L1 square_here' many' none' keys'))
theorem x_law_k05_3 (square_here' : Sq) (many' : Int) (none' : Sq) (h : P_law_k05_3 square_here' many' none') : Tx [none, some (eSq square_here'), some (eI many'), some (eSq none'), none, none, none, none, none, none, none, none, none, none] G_law_k05_3 (Rl.rt (eB (T_law_k05_3 square_here' many' none'))) :=
  (ex_sq_op (fun z => Rl.rt (eB z)) (fun a => a) (ex_find (e := (eT eI)) (e' := eB) (kh := (K_law_k05_L1 square_here' many' none')) (g := (fun (keys' : (List Int)) => T_law_k05_L1 square_here' many' none' keys')) (it_itemsL (ev_nop (ea_cons (ev_var rfl) ea_nil) (f__law_sets_k05 many' (And.left h)))) (.skip (.keep (.keep (.keep (.skip (.skip (.skip (.skip (.skip (.skip (.skip (.skip (.skip (.skip .nil)))))))))))))) fun keys' hx => ⟨_, tg1, ex_pre (x_law_k05_L1 square_here' many' none' keys' ((And.right h) keys' hx)) (.skip (.keep (.keep (.keep (.keep (.skip (.skip (.skip (.skip (.skip (.skip (.skip (.skip (.skip .nil))))))))))))))⟩) (fun _ => rfl) (fun hb => (ex_pre (x_law_k05_4 ) (.skip (.skip (.skip (.skip (.skip (.skip (.skip (.skip (.skip (.skip (.skip (.skip (.skip (.skip .nil)))))))))))))))))
def T_law_k05_2 (square_here' : Sq) (many' : Int) : Bool := (T_law_k05_3 square_here' many' (withD square_here' ([] : List Int)))
def P_law_k05_2 (square_here' : Sq) (many' : Int) : Prop := ((PWith square_here' ([] : List Int))) ∧ (P_law_k05_3 square_here' many' (withD square_here' ([] : List Int)))
theorem x_law_k05_2 (square_here' : Sq) (many' : Int) (h : P_law_k05_2 square_here' many') : Tx [none, some (eSq square_here'), some (eI many'), none, none, none, none, none, none, none, none, none, none, none] G_law_k05_2 (Rl.rt (eB (T_law_k05_2 square_here' many'))) :=
  (ex_sq (ex_set (ev_nop (ea_cons (ev_var rfl) (ea_cons (ev_tup (as := []) ea_nil lim_nil) ea_nil)) (t_with_diodes square_here' ([] : List Int) (And.left h)))) (ex_pre (x_law_k05_3 square_here' many' (withD square_here' ([] : List Int)) (And.right h)) (.skip (.keep (.keep (.keep (.skip (.skip (.skip (.skip (.skip (.skip (.skip (.skip (.skip (.skip .nil))))))))))))))))
def T_law_k05_1 (square_here' : Sq) : Bool := (T_law_k05_2 square_here' (square_here'.1.length : Int))
def P_law_k05_1 (square_here' : Sq) : Prop := (P_law_k05_2 square_here' (square_here'.1.length : Int))
theorem x_law_k05_1 (square_here' : Sq) (h : P_law_k05_1 square_here') : Tx [none, some (eSq square_here'), none, none, none, none, none, none, none, none, none, none, none, none] G_law_k05_1 (Rl.rt (eB (T_law_k05_1 square_here'))) :=
  (ex_sq (ex_set (ev_nop (ea_cons (ev_bin (ev_var rfl) ev_cst t_idxP0) ea_nil) (t_lenT _ (eP eI eI)))) (ex_pre (x_law_k05_2 square_here' (square_here'.1.length : Int) h) (.skip (.keep (.keep (.skip (.skip (.skip (.skip (.skip (.skip (.skip (.skip (.skip (.skip (.skip .nil))))))))))))))))
def T_law_k05 (script' : Scr) : Bool := (T_law_k05_1 (T__law_square script' (0 : Int) (5 : Int)))
def P_law_k05 (script' : Scr) : Prop := ((P__law_square script' (0 : Int) (5 : Int))) ∧ (P_law_k05_1 (T__law_square script' (0 : Int) (5 : Int)))
theorem x_law_k05 (script' : Scr) (h : P_law_k05 script') : Tx [some (eC' script'), none, none, none, none, none, none, none, none, none, none, none, none, none] G_law_k05 (Rl.rt (eB (T_law_k05 script'))) :=
  (ex_sq (ex_set (ev_nop (ea_cons (ev_var rfl) (ea_cons ev_cst (ea_cons ev_cst ea_nil))) (f__law_square script' (0 : Int) (5 : Int) (And.left h)))) (ex_pre (x_law_k05_1 (T__law_square script' (0 : Int) (5 : Int)) (And.right h)) (.skip (.keep (.skip (.skip (.skip (.skip (.skip (.skip (.skip (.skip (.skip (.skip (.skip (.skip .nil))))))))))))))))
theorem f_law_k05 (script' : Scr) (h : P_law_k05 script') : F_law_k05 [eC' script'] = pure (eB (T_law_k05 script')) :=
  fn_of rfl rfl (ex_pre (x_law_k05 script' h) (.keep (.skip (.skip (.skip (.skip (.skip (.skip (.skip (.skip (.skip (.skip (.skip (.skip (.skip .nil)))))))))))))))
end DL

/-! MB4: the rows of all sets: the law's, the program's. -/
namespace DL
open PySem PySem.Spec PyProof.Rows L2

theorem foldl_idx {α σ : Type} {f : σ → α → σ} (I : Nat → σ → Prop) : ∀ (xs : List α) (j : Nat) (s : σ), I j s → (∀ (i : Nat) (x : α), xs[i]? = some x → ∀ s, I (j + i) s → I (j + i + 1) (f s x)) → I (j + xs.length) (xs.foldl f s)
  | [], j, s, h, _ => h
  | x :: r, j, s, h, hb => by
    rw [List.foldl_cons, List.length_cons, show j + (r.length + 1) = j + 1 + r.length by omega]
    refine foldl_idx I r (j + 1) (f s x) (hb 0 x rfl s h) fun i y hy s hs => ?_
    have := hb (i + 1) y (by simpa using hy) s (by rw [show j + (i + 1) = j + 1 + i by omega]; exact hs)
    rw [show j + (i + 1) + 1 = j + 1 + i + 1 by omega] at this
    exact this
theorem rgI_get {a b x : Int} {i : Nat} (h : (rgI a b)[i]? = some x) : x = a + i ∧ x < b := by
  have hm := mem_rgI.mp (List.mem_of_getElem? h)
  unfold rgI at h
  rw [List.getElem?_map] at h
  cases q : (List.range (b - a).toNat)[i]? with
  | none => rw [q] at h; cases h
  | some j =>
    rw [q] at h
    obtain ⟨hj, e⟩ := List.getElem?_eq_some_iff.mp q
    simp only [List.getElem_range] at e
    subst e
    simp at h
    exact ⟨h.symm, hm.2⟩
/-- all sets of the keys below i -/
structure AllS (i : Nat) (l : List (List Int)) : Prop where
  mem : ∀ z, z ∈ l ↔ Keys i z
  nd : l.Nodup
  len : l.length = 2 ^ i
theorem allS_0 : AllS 0 [([] : List Int)] := ⟨fun z => by rw [List.mem_singleton]; exact keys_0.symm, by simp, rfl⟩
theorem allS_step {i : Nat} {l : List (List Int)} (h : AllS i l) : AllS (i + 1) (T__law_sets_k05_L1 l i) where
  mem := fun z => by
    unfold T__law_sets_k05_L1
    rw [List.mem_append, h.mem, List.mem_map]
    have := keys_succ (n := (i : Int)) (by omega) (l := z)
    push_cast
    rw [this]
    constructor
    · rintro (h1 | ⟨m, hm, rfl⟩)
      · exact .inl h1
      · exact .inr ⟨m, (h.mem m).mp hm, rfl⟩
    · rintro (h1 | ⟨m, hm, rfl⟩)
      · exact .inl h1
      · exact .inr ⟨m, (h.mem m).mpr hm, rfl⟩
  nd := by
    unfold T__law_sets_k05_L1
    rw [List.nodup_append]
    refine ⟨h.nd, nodup_map_of h.nd fun x _ y _ e => by simpa using e, fun a ha b hb e => ?_⟩
    obtain ⟨m, hm, rfl⟩ := List.mem_map.mp hb
    have := ((h.mem a).mp ha).2 i (by rw [e]; simp)
    omega
  len := by
    unfold T__law_sets_k05_L1
    rw [List.length_append, List.length_map, h.len, Nat.pow_succ]
    omega
theorem pow_64 {i : Nat} (h : i ≤ 6) : 2 ^ i ≤ 64 := by
  have : ∀ j, j ≤ 6 → 2 ^ j ≤ 64 := by decide
  exact this i h
theorem law_sets_ok {n : Int} (h : 0 ≤ n ∧ n ≤ 6) : P__law_sets_k05 n ∧ Ris (T__law_sets_k05 n) ∧ (∀ z, z ∈ T__law_sets_k05 n ↔ Keys n z) ∧ (T__law_sets_k05 n).length ≤ 64 := by
  have hstep : ∀ (i : Nat) (x : Int), (rgI 0 n)[i]? = some x → ∀ s, AllS i s → AllS (i + 1) (T__law_sets_k05_L1 s x) := fun i x hx s hs => by
    have e := (rgI_get hx).1
    rw [Int.zero_add] at e
    subst e
    exact allS_step hs
  have hf := foldl_idx (f := fun (s' : List (List Int)) (key' : Int) => T__law_sets_k05_L1 s' key') AllS (rgI 0 n) 0 [[]] allS_0 fun i x hx s hs => by
    rw [Nat.zero_add] at hs ⊢
    exact hstep i x hx s hs
  rw [rgI_length, Nat.zero_add] at hf
  have e0 : ((n - 0).toNat : Int) = n := by omega
  have e1 : T__law_sets_k05 n = sortE (ltE (eT eI)) ((rgI 0 n).foldl (fun (s' : List (List Int)) (key' : Int) => T__law_sets_k05_L1 s' key') [[]]) := rfl
  refine ⟨?_, ?_, fun z => ?_, ?_⟩
  · unfold P__law_sets_k05 P__law_sets_k05_1
    refine ⟨rgIn_of (by omega), AllS, allS_0, fun i x hx s hs => ⟨?_, hstep i x hx s hs⟩⟩
    have hi := rgI_get hx
    have h6 : i ≤ 6 := by omega
    have hl := hs.len
    have h64 := pow_64 h6
    unfold P__law_sets_k05_L1
    refine ⟨⟨lim_of (by omega), fun z hz => lim_of ?_⟩, lim_of (by rw [List.length_map]; omega)⟩
    have := pw_len ((hs.mem z).mp hz)
    simp only [List.length_singleton]
    omega
  · rw [e1]; exact sortK_ris hf.nd
  · rw [e1, mem_sortE, hf.mem, e0]
  · rw [e1, sortE_len, hf.len]
    exact pow_64 (by omega)
/-! ### those of a size -/
def firstK (one : List Int) : Int := if (!(decide (one = ([] : List Int)))) then ((ixE one (-(1 : Int))) + (1 : Int)) else (0 : Int)
theorem last_ix (m : List Int) (k : Int) : ixE (m ++ [k]) (-1) = k := by
  unfold ixE
  rw [if_neg (by decide), List.length_append, List.length_singleton]
  have : (-1 + ((m.length + 1 : Nat) : Int)).toNat = m.length := by omega
  rw [this]
  simp
theorem first_iff {n k : Int} {one : List Int} (h : Keys n one) : (∀ a ∈ one, a < k) ∧ 0 ≤ k ↔ firstK one ≤ k := by
  unfold firstK
  rcases List.eq_nil_or_concat one with rfl | ⟨m, j, rfl⟩
  · simp
  · rw [List.concat_eq_append] at h ⊢
    have hne : m ++ [j] ≠ [] := by simp
    rw [if_pos (by simp), last_ix]
    obtain ⟨h1, h2, h3⟩ := keys_snoc.mp h
    constructor
    · rintro ⟨h4, _⟩
      have := h4 j (by simp)
      omega
    · intro h4
      refine ⟨fun a ha => ?_, by omega⟩
      rcases List.mem_append.mp ha with z | z
      · have := h2 a z; omega
      · rw [List.mem_singleton] at z; omega
/-- all sets of so many keys, rising -/
structure SzS (n : Int) (i : Nat) (l : List (List Int)) : Prop where
  mem : ∀ z, z ∈ l ↔ Keys n z ∧ z.length = i
  ris : Ris l
  len : l.length ≤ 6 ^ i
theorem szS_0 {n : Int} : SzS n 0 [([] : List Int)] := ⟨fun z => by
  rw [List.mem_singleton, List.length_eq_zero_iff]
  exact ⟨fun h => ⟨h ▸ keys_nil n, h⟩, fun h => h.2⟩, List.pairwise_singleton _ _, by simp⟩
theorem foldl_app {α β : Type} (g : α → List β) : ∀ (xs : List α) (acc : List β), xs.foldl (fun s x => s ++ g x) acc = acc ++ xs.flatMap g
  | [], acc => by simp
  | x :: r, acc => by rw [List.foldl_cons, foldl_app g r, List.flatMap_cons, List.append_assoc]
theorem sets_step_eq (n : Int) (found : List (List Int)) : T_sets_of_L1 n found = found.flatMap fun one => (rgI (firstK one) n).map fun key => one ++ [key] := by
  have : T_sets_of_L1 n found = found.foldl (fun s one => s ++ (rgI (firstK one) n).map fun key => one ++ [key]) [] := rfl
  rw [this, foldl_app, List.nil_append]
theorem ris_flat {n : Int} : ∀ {l : List (List Int)} {i : Nat}, Ris l → (∀ z ∈ l, z.length = i) → Ris (l.flatMap fun one => (rgI (firstK one) n).map fun key => one ++ [key])
  | [], _, _, _ => List.Pairwise.nil
  | x :: r, i, h, hl => by
    unfold Ris at h ⊢
    rw [List.pairwise_cons] at h
    rw [List.flatMap_cons, List.pairwise_append]
    refine ⟨?_, ris_flat h.2 fun z hz => hl z (List.mem_cons_of_mem _ hz), fun a ha b hb => ?_⟩
    · refine List.pairwise_map.mpr ((rgI_pw _ _).imp fun {a b} hab => ?_)
      rw [klt_pre, klt_cons, if_neg (by omega)]
      exact decide_eq_true hab
    · obtain ⟨k, _, rfl⟩ := List.mem_map.mp ha
      obtain ⟨y, hy, hb⟩ := List.mem_flatMap.mp hb
      obtain ⟨k2, _, rfl⟩ := List.mem_map.mp hb
      exact klt_app _ _ (by rw [hl x List.mem_cons_self, hl y (List.mem_cons_of_mem _ hy)]) (h.1 y hy)
theorem flat_len {n : Int} (hn : n ≤ 6) : ∀ (l : List (List Int)), (∀ z ∈ l, Keys n z) → (l.flatMap fun one => (rgI (firstK one) n).map fun key => one ++ [key]).length ≤ 6 * l.length
  | [], _ => by simp
  | x :: r, h => by
    rw [List.flatMap_cons, List.length_append, List.length_map, rgI_length, List.length_cons]
    have := flat_len hn r fun z hz => h z (List.mem_cons_of_mem _ hz)
    have h0 : 0 ≤ firstK x := ((first_iff (k := firstK x) (h x List.mem_cons_self)).mpr (Int.le_refl _)).2
    omega
theorem szS_step {n : Int} {i : Nat} {l : List (List Int)} (hn : n ≤ 6) (h : SzS n i l) : SzS n (i + 1) (T_sets_of_L1 n l) where
  mem := fun z => by
    rw [sets_step_eq, List.mem_flatMap]
    constructor
    · rintro ⟨one, h1, h2⟩
      obtain ⟨k, hk, rfl⟩ := List.mem_map.mp h2
      obtain ⟨h3, h4⟩ := (h.mem one).mp h1
      rw [mem_rgI] at hk
      have := (first_iff h3).mpr hk.1
      exact ⟨keys_snoc.mpr ⟨h3, this.1, this.2, hk.2⟩, by rw [List.length_append, h4, List.length_singleton]⟩
    · rintro ⟨h1, h2⟩
      rcases List.eq_nil_or_concat z with rfl | ⟨m, k, rfl⟩
      · simp at h2
      · rw [List.concat_eq_append] at h1 h2 ⊢
        obtain ⟨h3, h4, h5⟩ := keys_snoc.mp h1
        refine ⟨m, (h.mem m).mpr ⟨h3, by rw [List.length_append, List.length_singleton] at h2; omega⟩, List.mem_map.mpr ⟨k, mem_rgI.mpr ⟨(first_iff h3).mp ⟨h4, h5.1⟩, h5.2⟩, rfl⟩⟩
  ris := by rw [sets_step_eq]; exact ris_flat h.ris fun z hz => ((h.mem z).mp hz).2
  len := by
    rw [sets_step_eq]
    refine Nat.le_trans (flat_len hn l fun z hz => ((h.mem z).mp hz).1) ?_
    rw [Nat.pow_succ]
    have := h.len
    omega
theorem pow_6 {i : Nat} (h : i ≤ 6) : 6 ^ i ≤ 46656 := by
  have : ∀ j, j ≤ 6 → 6 ^ j ≤ 46656 := by decide
  exact this i h
theorem sets_of_ok {n size : Int} (hn : 0 ≤ n ∧ n ≤ 6) (hs : 0 ≤ size ∧ size ≤ 7) : P_sets_of n size ∧ SzS n size.toNat (T_sets_of n size) := by
  have hstep : ∀ (i : Nat) (x : Int), (rgI 0 size)[i]? = some x → ∀ s, SzS n i s → SzS n (i + 1) (T_sets_of_L1 n s) := fun i x hx s hs => szS_step hn.2 hs
  have hf := foldl_idx (f := fun (s' : List (List Int)) (turn' : Int) => T_sets_of_L1 n s') (SzS n) (rgI 0 size) 0 [[]] szS_0 fun i x hx s hs => by
    rw [Nat.zero_add] at hs ⊢
    exact hstep i x hx s hs
  rw [rgI_length, Nat.zero_add] at hf
  refine ⟨?_, by rw [Int.sub_zero] at hf; exact hf⟩
  unfold P_sets_of P_sets_of_1
  refine ⟨rgIn_of (by omega), SzS n, szS_0, fun i x hx s h => ⟨?_, hstep i x hx s h⟩⟩
  have hi := rgI_get hx
  have h6 : i ≤ 6 := by omega
  have hl := h.len
  have h64 := pow_6 h6
  unfold P_sets_of_L1 P_sets_of_L1_1
  refine ⟨fun j l => l.length ≤ 6 * j, by simp, fun j one hj l hl2 => ?_⟩
  have hj2 := (List.getElem?_eq_some_iff.mp hj).1
  obtain ⟨k1, k2⟩ := (h.mem one).mp (List.mem_of_getElem? hj)
  have f0 : 0 ≤ firstK one := ((first_iff (k := firstK one) k1).mpr (Int.le_refl _)).2
  have ho := pw_len k1
  have hr : ((rgI (firstK one) n).map fun key => one ++ [key]).length ≤ 6 := by
    rw [List.length_map, rgI_length]; omega
  refine ⟨?_, ?_⟩
  · unfold P_sets_of_L2 P_sets_of_L2_1
    have fhi : firstK one ≤ 7 := by
      unfold firstK
      rcases List.eq_nil_or_concat one with rfl | ⟨m, k, rfl⟩
      · simp
      · rw [List.concat_eq_append] at k1 ⊢
        rw [if_pos (by simp), last_ix]
        have := (keys_snoc.mp k1).2.2
        omega
    refine ⟨fun hne => ?_, ⟨⟨rgIn_of (show -1000 ≤ firstK one ∧ firstK one ≤ 1000 ∧ -1000 ≤ n ∧ n ≤ 1000 by omega), fun k _ => lim_of (by simp only [List.length_singleton]; omega)⟩, ?_⟩⟩
    · have : one ≠ [] := by simpa using hne
      have := List.length_pos_iff.mpr this
      exact ⟨by omega, by omega⟩
    · show l.length + ((rgI (firstK one) n).map fun key => one ++ [key]).length ≤ LIM
      rw [LIM_val]
      simp only at hl2
      have : j ≤ 46656 := by omega
      omega
  · show (l ++ (rgI (firstK one) n).map fun key => one ++ [key]).length ≤ 6 * (j + 1)
    rw [List.length_append]
    simp only at hl2
    omega
end DL

/-! MC2: keys safe to roll, the first set that is not. -/
namespace DL
open PySem PySem.Spec PyProof.Rows L2

/-- all sets of so many keys are seen truly -/
def AllSv (q : Sq) (i : Int) : Prop := ∀ k, Keys q.1.length k → (k.length : Int) = i → Sv q k
structure SafeIs (q : Sq) (r : Int) : Prop where
  bd : 0 ≤ r ∧ r ≤ q.1.length
  lo : ∀ i, i ≤ r → AllSv q i
  hi : r < q.1.length → ¬ AllSv q (r + 1)
theorem SafeIs.uniq {q q2 : Sq} {r r2 : Int} (hl : q2.1.length = q.1.length) (hs : ∀ k, Keys q.1.length k → (Sv q k ↔ Sv q2 k)) (h : SafeIs q r) (h2 : SafeIs q2 r2) : r2 = r := by
  have e : ∀ i, AllSv q i ↔ AllSv q2 i := fun i => by
    unfold AllSv
    rw [hl]
    exact ⟨fun h k hk e => (hs k hk).mp (h k hk e), fun h k hk e => (hs k hk).mpr (h k hk e)⟩
  have b1 := h.bd
  have b2 := h2.bd
  rw [hl] at b2
  rcases Int.lt_trichotomy r r2 with c | c | c
  · exact absurd ((e _).mpr (h2.lo (r + 1) (by omega))) (h.hi (by omega))
  · exact c.symm
  · exact absurd ((e _).mp (h.lo (r2 + 1) (by omega))) (h2.hi (by rw [hl]; omega))
section
variable {q : Sq}
theorem serves2_iff (g : Good q) {w : List (List Int)} (hk : ∀ k ∈ w, Keys q.1.length k) : T_serves__2 q w = true ↔ ∀ k ∈ w, Sv q k := by
  have e : T_serves__2 q w = T_serves q w := rfl
  rw [e, t_servesK g hk, List.all_eq_true]
  simp
theorem serves2_sz (g : Good q) {size : Int} (h : 0 ≤ size ∧ size ≤ 7) : T_serves__2 q (T_sets_of q.1.length size) = true ↔ AllSv q size := by
  have hl := g.len
  obtain ⟨_, hs⟩ := sets_of_ok (n := (q.1.length : Int)) (by omega) h
  rw [serves2_iff g fun k hk => ((hs.mem k).mp hk).1]
  constructor
  · intro h2 k hk e
    exact h2 k ((hs.mem k).mpr ⟨hk, by omega⟩)
  · intro h2 k hk
    obtain ⟨h3, h4⟩ := (hs.mem k).mp hk
    exact h2 k h3 (by omega)
abbrev cS (q : Sq) : Int → Bool := fun s' => ((decide (s' < (q.1.length : Int))) && (T_serves__2 q (T_sets_of (q.1.length : Int) (s' + (1 : Int)))))
theorem allSv_0 : AllSv q 0 := fun k _ e => by
  have : k = [] := List.length_eq_zero_iff.mp (by omega)
  rw [this]; exact sv_nil
theorem safe_loop (g : Good q) : WhlOk (cS q) (fun s' => T_safe_rolls_L1 q s') FUEL 0 ∧ SafeIs q (T_safe_rolls q) := by
  have hl := g.len
  have key := whl_inv (c := cS q) (st := fun s' => T_safe_rolls_L1 q s') (fun s => (0 ≤ s ∧ s ≤ q.1.length) ∧ ∀ i, i ≤ s → AllSv q i) (fun s => (q.1.length - s).toNat) (fun s hs hc => ?_) FUEL 0 ⟨by omega, fun i hi k hk e => ?_⟩ (by unfold FUEL; omega)
  · obtain ⟨h1, h2, h3⟩ := key
    refine ⟨h1, ?_⟩
    have e : T_safe_rolls q = whl (cS q) (fun s' => T_safe_rolls_L1 q s') FUEL 0 := rfl
    rw [e]
    generalize whl (cS q) (fun s' => T_safe_rolls_L1 q s') FUEL 0 = r at *
    refine ⟨h2.1, h2.2, fun hr hall => ?_⟩
    have b := h2.1
    have h4 : (decide (r < (q.1.length : Int)) && T_serves__2 q (T_sets_of (q.1.length : Int) (r + 1))) = false := h3
    rw [(serves2_sz g (size := r + 1) (by omega)).mpr hall, Bool.and_true, decide_eq_false_iff_not] at h4
    exact h4 hr
  · rw [Bool.and_eq_true, decide_eq_true_iff] at hc
    have b := hs.1
    have h3 := (serves2_sz g (size := s + 1) (by omega)).mp hc.2
    refine ⟨⟨show 0 ≤ s + 1 ∧ s + 1 ≤ (q.1.length : Int) by omega, fun i hi => ?_⟩, ?_⟩
    · have hi' : i ≤ s + 1 := hi
      by_cases c : i = s + 1
      · rw [c]; exact h3
      · exact hs.2 i (by omega)
    · show (q.1.length - (s + 1) : Int).toNat < (q.1.length - s : Int).toNat
      omega
  · have : k = [] := List.length_eq_zero_iff.mp (by omega)
    rw [this]; exact sv_nil
theorem safe_is (g : Good q) : SafeIs q (T_safe_rolls q) := (safe_loop g).2
theorem sz_len {n size : Int} (hn : 0 ≤ n ∧ n ≤ 6) (hs : 0 ≤ size ∧ size ≤ 7) : (T_sets_of n size).length ≤ 50000 := by
  obtain ⟨_, h⟩ := sets_of_ok hn hs
  by_cases c : size ≤ 6
  · have := pow_6 (i := size.toNat) (by omega)
    have := h.len
    omega
  · -- more than all keys
    have : T_sets_of n size = [] := List.eq_nil_iff_forall_not_mem.mpr fun z hz => by
      obtain ⟨h1, h2⟩ := (h.mem z).mp hz
      have := pw_len h1
      omega
    rw [this]; simp
theorem p_safe (g : Good q) : P_safe_rolls q := by
  have hl := g.len
  unfold P_safe_rolls P_safe_rolls_1 P_safe_rolls_2
  refine ⟨psq g, (safe_loop g).1, fun s => 0 ≤ s ∧ s ≤ q.1.length, by omega, fun s hs => ⟨fun hc => ?_, fun hc => ?_⟩⟩
  · rw [decide_eq_true_iff] at hc
    obtain ⟨h1, h2⟩ := sets_of_ok (n := (q.1.length : Int)) (size := s + 1) (by omega) (by omega)
    exact ⟨h1, p_servesK g (fun k hk => ((h2.mem k).mp hk).1) (sz_len (by omega) (by omega))⟩
  · rw [Bool.and_eq_true, decide_eq_true_iff] at hc
    show 0 ≤ s + 1 ∧ s + 1 ≤ (q.1.length : Int)
    omega
noncomputable def badL (q : Sq) (size : Int) : List (List Int) := (T_sets_of q.1.length size).filter fun k => !decide (Sv q k)
theorem bad_eq (g : Good q) {size : Int} (h : 0 ≤ size ∧ size ≤ 7) : (T_sets_of (q.1.length : Int) size).filter (fun (one' : List Int) => !(decide (T_keys_seen q one' = one'))) = badL q size := by
  have hl := g.len
  obtain ⟨_, hs⟩ := sets_of_ok (n := (q.1.length : Int)) (by omega) h
  unfold badL
  exact List.filter_congr fun k hk => by rw [sv_dec g ((hs.mem k).mp hk).1]
theorem p_first (g : Good q) : P_first_unsafe q := by
  have hl := g.len
  have hb := (safe_is g).bd
  obtain ⟨h1, h2⟩ := sets_of_ok (n := (q.1.length : Int)) (size := T_safe_rolls q + 1) (by omega) (by omega)
  unfold P_first_unsafe P_first_unsafe_1 P_first_unsafe_2
  refine ⟨p_safe g, ⟨h1, lim_of (by have := sz_len (n := (q.1.length : Int)) (size := T_safe_rolls q + 1) (by omega) (by omega); omega), fun k hk => p_seenK g ((h2.mem k).mp hk).1⟩, fun hne => ?_⟩
  simp only [Bool.not_eq_true', decide_eq_false_iff_not] at hne
  have := List.length_pos_iff.mpr hne
  exact inIx_of (by decide) (by omega)
/-- what first_unsafe tells -/
noncomputable def firstU (q : Sq) (r : Int) : Option (List Int) := (badL q (r + 1)).head?
theorem t_first (g : Good q) : T_first_unsafe q = firstU q (T_safe_rolls q) := by
  have hl := g.len
  have hb := (safe_is g).bd
  have e : T_first_unsafe q = T_first_unsafe_2 ((T_sets_of (q.1.length : Int) (T_safe_rolls q + 1)).filter (fun (one' : List Int) => !(decide (T_keys_seen q one' = one')))) := rfl
  rw [e, bad_eq g (by omega)]
  unfold T_first_unsafe_2 firstU
  cases badL q (T_safe_rolls q + 1) with
  | nil => rfl
  | cons x r => rfl
theorem firstU_none (g : Good q) {r : Int} (h : SafeIs q r) : firstU q r = none ↔ r = q.1.length := by
  have hl := g.len
  have hb := h.bd
  obtain ⟨_, hs⟩ := sets_of_ok (n := (q.1.length : Int)) (size := r + 1) (by omega) (by omega)
  unfold firstU
  rw [List.head?_eq_none_iff]
  unfold badL
  rw [List.filter_eq_nil_iff]
  constructor
  · intro h2
    refine Classical.byContradiction fun c => h.hi (by omega) fun k hk e => ?_
    have := h2 k ((hs.mem k).mpr ⟨hk, by omega⟩)
    simpa using this
  · intro e k hk
    obtain ⟨h3, h4⟩ := (hs.mem k).mp hk
    have := pw_len h3
    omega
theorem firstU_some (g : Good q) {r : Int} (h : SafeIs q r) {k : List Int} (e : firstU q r = some k) : Keys q.1.length k ∧ (k.length : Int) = r + 1 ∧ ¬ Sv q k ∧ ∀ k2, Keys q.1.length k2 → (k2.length : Int) = r + 1 → klt k2 k = true → Sv q k2 := by
  have hl := g.len
  have hb := h.bd
  obtain ⟨_, hs⟩ := sets_of_ok (n := (q.1.length : Int)) (size := r + 1) (by omega) (by omega)
  have hris : Ris (badL q (r + 1)) := hs.ris.sublist List.filter_sublist
  unfold firstU at e
  cases q2 : badL q (r + 1) with
  | nil => rw [q2] at e; cases e
  | cons x t =>
    rw [q2] at e hris
    simp at e
    subst e
    have hm : x ∈ badL q (r + 1) := by rw [q2]; exact List.mem_cons_self
    unfold badL at hm
    rw [List.mem_filter] at hm
    obtain ⟨h3, h4⟩ := (hs.mem x).mp hm.1
    refine ⟨h3, by omega, by simpa using hm.2, fun k2 hk2 e2 hlt => ?_⟩
    refine Classical.byContradiction fun c => ?_
    have hm2 : k2 ∈ badL q (r + 1) := by
      unfold badL
      rw [List.mem_filter]
      exact ⟨(hs.mem k2).mpr ⟨hk2, by omega⟩, by simpa using c⟩
    rw [q2] at hm2
    rcases List.mem_cons.mp hm2 with rfl | hm2
    · rw [klt_irrefl] at hlt; cases hlt
    · have := (List.pairwise_cons.mp hris).1 k2 hm2
      rw [klt_asym this] at hlt; cases hlt
/-- squares that see the same sets truly -/
theorem same_safe {q2 : Sq} (g : Good q) (g2 : Good q2) (hl : q2.1.length = q.1.length) (hs : ∀ k, Keys q.1.length k → (Sv q k ↔ Sv q2 k)) : T_safe_rolls q2 = T_safe_rolls q ∧ T_first_unsafe q2 = T_first_unsafe q := by
  have e := (safe_is g).uniq hl hs (safe_is g2)
  have hlen := g.len
  have hb := (safe_is g).bd
  refine ⟨e, ?_⟩
  rw [t_first g, t_first g2, e]
  unfold firstU badL
  rw [hl]
  obtain ⟨_, h⟩ := sets_of_ok (n := (q.1.length : Int)) (size := T_safe_rolls q + 1) (by omega) (by omega)
  congr 1
  refine List.filter_congr fun k hk => ?_
  have := hs k ((h.mem k).mp hk).1
  by_cases c : Sv q k
  · rw [decide_eq_true c, decide_eq_true (this.mp c)]
  · rw [decide_eq_false c, decide_eq_false fun z => c (this.mpr z)]
theorem seen_sv {q2 : Sq} {k : List Int} (h : seenL q2 k = seenL q k) : Sv q k ↔ Sv q2 k := by
  unfold Sv; rw [h]
theorem sv_turned {k : List Int} (hk : Keys q.1.length k) : Sv q k ↔ Sv (turnedQ q) k := seen_sv (seen_turned hk.2)
theorem sv_tight {k : List Int} (hk : Keys q.1.length k) : Sv q k ↔ Sv (tightQ q) k := seen_sv (seen_tight hk.2)
/-- two keys are always seen truly -/
theorem two_path {a b r0 r : Int} {pr : List Int} (hp : ∀ k ∈ pr, k = a ∨ k = b) (h : RowR q pr r0 r) : r = r0 ∨ ∃ x ∈ pr, ∃ y ∈ pr, r0 = rowK q x ∧ r = rowK q y ∧ colK q x = colK q y := by
  induction h with
  | here => exact .inl rfl
  | @step k1 k' _ hk1 hk' e nd ih =>
    right
    rcases ih with e1 | ⟨x, hx, y, hy, e1, e2, e3⟩
    · exact ⟨k1, hk1, k', hk', e1.symm, rfl, e.symm⟩
    · by_cases c : k1 = y
      · subst c; exact ⟨x, hx, k', hk', e1, rfl, e3.trans e.symm⟩
      · have hx1 : rowK q x = rowK q k1 := by
          have h1 := hp k1 hk1
          have h2 := hp y hy
          have h3 := hp x hx
          have : x = k1 ∨ x = y := by omega
          rcases this with rfl | rfl
          · rfl
          · exact e2.symm
        exact ⟨k1, hk1, k', hk', e1.trans hx1, rfl, e.symm⟩
theorem sv_two (g : Good q) {k : List Int} (hk : Keys q.1.length k) (h2 : k.length ≤ 2) : Sv q k := by
  have ab : ∃ a b, ∀ z ∈ k, z = a ∨ z = b := by
    match k, h2 with
    | [], _ => exact ⟨0, 0, fun z hz => by cases hz⟩
    | [a], _ => exact ⟨a, a, fun z hz => .inl (by simpa using hz)⟩
    | [a, b], _ => exact ⟨a, b, fun z hz => by simpa using hz⟩
    | _ :: _ :: _ :: _, h => simp at h
  obtain ⟨a, b, hp⟩ := ab
  refine (keys_seenL q k).ext hk fun j => ⟨fun hj => ?_, fun hj => pressed_seen hk j hj⟩
  obtain ⟨hj1, k', h1, hr, e⟩ := mem_seenL.mp hj
  have hk1 := hk.2 k' h1
  rcases two_path hp hr with e1 | ⟨x, hx, y, hy, e1, e2, e3⟩
  · rw [spot_inj g.nd hj1 hk1 e1.symm e.symm]; exact h1
  · by_cases c : k' = y
    · subst c
      rw [spot_inj g.nd hj1 (hk.2 x hx) e1 (e.symm.trans e3.symm)]
      exact hx
    · have : k' = x ∨ x = y := by
        have i1 := hp k' h1
        have i2 := hp y hy
        have i3 := hp x hx
        omega
      rcases this with rfl | rfl
      · rw [spot_inj g.nd hj1 hk1 e1 e.symm]; exact h1
      · rw [spot_inj g.nd hj1 hk1 (e1.trans e2.symm) e.symm]; exact h1
theorem safe_two (g : Good q) {r : Int} (h : SafeIs q r) : ¬ r < min2 2 q.1.length := by
  intro c
  have hb := h.bd
  have hl := g.len
  have : r < 2 ∧ r < q.1.length := by
    unfold min2 at c
    split at c <;> omega
  refine h.hi this.2 fun k hk e => sv_two g hk (by omega)
theorem safe_full (g : Good q) : T_safe_rolls (withD q (rgI 0 q.1.length)) = q.1.length := by
  have gf := g.withD (keys_rg (q.1.length : Int))
  have h := safe_is gf
  have hb := h.bd
  refine Classical.byContradiction fun c => h.hi ?_ fun k hk e => sv_full g hk
  have hb2 : T_safe_rolls (withD q (rgI 0 q.1.length)) ≤ (q.1.length : Int) := hb.2
  show _ < (q.1.length : Int)
  omega
theorem safe_more (g : Good q) {d : List Int} (hd : Keys q.1.length d) (hs : ∀ k ∈ q.2, k ∈ d) : T_safe_rolls q ≤ T_safe_rolls (withD q d) := by
  have gm := g.withD hd
  have h := safe_is g
  have h2 := safe_is gm
  have hb := h.bd
  have hb2 := h2.bd
  refine Classical.byContradiction fun c => h2.hi (show _ < (q.1.length : Int) by omega) fun k hk e => ?_
  exact sv_diodes hs hk (h.lo _ (by omega) k hk rfl)
end
end DL

/-! typed values, printed by ty.py -/
namespace DL
open PySem PySem.Spec PyProof.Rows L2
/-! ### sets_upto -/
abbrev K_sets_upto_L1 (many' : Int) (s' : (List (List Int))) : Ks := [some (eI many'), none, some ((eL (eT eI)) s'), none]
def T_sets_upto_L1 (many' : Int) (found' : (List (List Int))) (one' : Int) : (List (List Int)) := (found' ++ (T_sets_of many' one'))
def P_sets_upto_L1 (many' : Int) (found' : (List (List Int))) (one' : Int) : Prop := (((P_sets_of many' one')) ∧ (found'.length + (T_sets_of many' one').length ≤ LIM))
theorem x_sets_upto_L1 (many' : Int) (found' : (List (List Int))) (one' : Int) (h : P_sets_upto_L1 many' found' one') : Tx [some (eI many'), none, some ((eL (eT eI)) found'), some (eI one')] G_sets_upto_L1 (Rl.nx ((K_sets_upto_L1 many') (T_sets_upto_L1 many' found' one'))) :=
  (ex_sub (ex_ext (e := (eT eI)) (x := (T_sets_of many' one')) rfl (ev_nop (ea_cons (ev_var rfl) (ea_cons (ev_var rfl) ea_nil)) (f_sets_of many' one' (And.left h))) (And.right h)) (.keep (.skip (.keep (.skip .nil)))))
def T_sets_upto_2 (found' : (List (List Int))) : (List (List Int)) := found'
theorem x_sets_upto_2 (found' : (List (List Int))) : Tx [none, none, some ((eL (eT eI)) found'), none] G_sets_upto_2 (Rl.rt ((eL (eT eI)) (T_sets_upto_2 found'))) :=
  (ex_nodic rfl (ex_ret (ev_var rfl)))
def T_sets_upto_1 (many' : Int) (size' : Int) (found' : (List (List Int))) : (List (List Int)) := (T_sets_upto_2 ((rgI 0 (size' + (1 : Int))).foldl (fun (s' : (List (List Int))) (one' : Int) => T_sets_upto_L1 many' s' one') found'))
def P_sets_upto_1 (many' : Int) (size' : Int) (found' : (List (List Int))) : Prop := (((RgIn 0 (size' + (1 : Int)))) ∧ (∃ I : Nat → (List (List Int)) → Prop, I 0 found' ∧ ∀ (i' : Nat) (one' : Int), (rgI 0 (size' + (1 : Int)))[i']? = some one' → ∀ s', I i' s' → P_sets_upto_L1 many' s' one' ∧ I (i' + 1) ((fun (s' : (List (List Int))) (one' : Int) => T_sets_upto_L1 many' s' one') s' one')))
theorem x_sets_upto_1 (many' : Int) (size' : Int) (found' : (List (List Int))) (h : P_sets_upto_1 many' size' found') : Tx [some (eI many'), some (eI size'), some ((eL (eT eI)) found'), none] G_sets_upto_1 (Rl.rt ((eL (eT eI)) (T_sets_upto_1 many' size' found'))) :=
  (ex_sq (let ⟨I, h0, hb⟩ := (And.right h); ex_fold (e := eI) (kh := (K_sets_upto_L1 many')) (st := (fun (s' : (List (List Int))) (one' : Int) => T_sets_upto_L1 many' s' one')) (I := I) (it_rng1 (ea_cons (ev_bin (ev_var rfl) ev_cst (add_int _ _)) ea_nil) (And.left h)) (.keep (.skip (.keep (.skip .nil)))) h0 fun i' one' hx s' hs => ⟨_, tg1, ex_pre (x_sets_upto_L1 many' s' one' (hb i' one' hx s' hs).1) (.keep (.skip (.keep (.keep .nil)))), (hb i' one' hx s' hs).2⟩) (ex_pre (x_sets_upto_2 ((rgI 0 (size' + (1 : Int))).foldl (fun (s' : (List (List Int))) (one' : Int) => T_sets_upto_L1 many' s' one') found')) (.skip (.skip (.keep (.skip .nil))))))
def T_sets_upto (many' : Int) (size' : Int) : (List (List Int)) := (T_sets_upto_1 many' size' ([] : List (List Int)))
def P_sets_upto (many' : Int) (size' : Int) : Prop := (P_sets_upto_1 many' size' ([] : List (List Int)))
theorem x_sets_upto (many' : Int) (size' : Int) (h : P_sets_upto many' size') : Tx [some (eI many'), some (eI size'), none, none] G_sets_upto (Rl.rt ((eL (eT eI)) (T_sets_upto many' size'))) :=
  (ex_sq (ex_setO (ev_lim ea_nil lim_nil)) (ex_pre (x_sets_upto_1 many' size' ([] : List (List Int)) h) (.keep (.keep (.keep (.skip .nil))))))
theorem f_sets_upto (many' : Int) (size' : Int) (h : P_sets_upto many' size') : F_sets_upto [eI many', eI size'] = pure ((eL (eT eI)) (T_sets_upto many' size')) :=
  fn_of rfl rfl (ex_pre (x_sets_upto many' size' h) (.keep (.keep (.skip (.skip .nil)))))
/-! ### rolls_by_diodes -/
abbrev K_rolls_by_diodes_L1 (square' : Sq) (many' : Int) (s' : Int) : Ks := [some (eSq square'), none, some (eI many'), some (eI s'), none, none]
abbrev K_rolls_by_diodes_L2 (square' : Sq) (many' : Int) (s' : Int) : Ks := [some (eSq square'), none, some (eI many'), some (eI s'), none, none]
abbrev K_rolls_by_diodes_L3 (square' : Sq) (many' : Int) (keys' : (List Int)) (s' : Int) : Ks := [some (eSq square'), none, some (eI many'), some (eI s'), none, some ((eT eI) keys')]
def T_rolls_by_diodes_L3 (square' : Sq) (many' : Int) (best' : Int) (keys' : (List Int)) : Int := (best' + (1 : Int))
theorem x_rolls_by_diodes_L3 (square' : Sq) (many' : Int) (best' : Int) (keys' : (List Int)) : Tx [some (eSq square'), none, some (eI many'), some (eI best'), none, some ((eT eI) keys')] G_rolls_by_diodes_L3 (Rl.nx ((K_rolls_by_diodes_L3 square' many' keys') (T_rolls_by_diodes_L3 square' many' best' keys'))) :=
  (ex_sub (ex_set (ev_bin (ev_var rfl) ev_cst (add_int _ _))) (.keep (.skip (.keep (.keep (.skip (.keep .nil)))))))
def T_rolls_by_diodes_L2 (square' : Sq) (many' : Int) (best' : Int) (keys' : (List Int)) : Int := (whl (fun (s' : Int) => ((decide (s' < many')) && (T_serves__2 (square'.1, keys') (T_sets_upto many' (s' + (1 : Int)))))) (fun (s' : Int) => T_rolls_by_diodes_L3 square' many' s' keys') FUEL best')
def P_rolls_by_diodes_L2 (square' : Sq) (many' : Int) (best' : Int) (keys' : (List Int)) : Prop := ((WhlOk (fun (s' : Int) => ((decide (s' < many')) && (T_serves__2 (square'.1, keys') (T_sets_upto many' (s' + (1 : Int)))))) (fun (s' : Int) => T_rolls_by_diodes_L3 square' many' s' keys') FUEL best') ∧ (∃ I : Int → Prop, I best' ∧ ∀ s', I s' → (((decide (s' < many')) = true → (((P_sets_upto many' (s' + (1 : Int))))) ∧ (P_serves__2 (square'.1, keys') (T_sets_upto many' (s' + (1 : Int)))))) ∧ (((decide (s' < many')) && (T_serves__2 (square'.1, keys') (T_sets_upto many' (s' + (1 : Int))))) = true → I ((fun (s' : Int) => T_rolls_by_diodes_L3 square' many' s' keys') s'))))
theorem x_rolls_by_diodes_L2 (square' : Sq) (many' : Int) (best' : Int) (keys' : (List Int)) (h : P_rolls_by_diodes_L2 square' many' best' keys') : Tx [some (eSq square'), none, some (eI many'), some (eI best'), none, some ((eT eI) keys')] G_rolls_by_diodes_L2 (Rl.nx ((K_rolls_by_diodes_L2 square' many') (T_rolls_by_diodes_L2 square' many' best' keys'))) :=
  (ex_sub (let ⟨I, h0, hb⟩ := (And.right h); ex_while (kh := (K_rolls_by_diodes_L3 square' many' keys')) (c := (fun (s' : Int) => ((decide (s' < many')) && (T_serves__2 (square'.1, keys') (T_sets_upto many' (s' + (1 : Int))))))) (st := (fun (s' : Int) => T_rolls_by_diodes_L3 square' many' s' keys')) (I := I) (.keep (.skip (.keep (.keep (.skip (.keep .nil)))))) h0 (fun s' hs => ⟨(ev_andt (ev_tst (ev_bin (ev_var rfl) (ev_var rfl) (lt_int _ _))) fun u279 => (ev_tst (ev_nop (ea_cons (ev_tup (ea_cons (ev_bin (ev_var rfl) ev_cst t_idxP0) (ea_cons (ev_var rfl) ea_nil)) (lim_small (Nat.le_of_ble_eq_true rfl))) (ea_cons (ev_nop (ea_cons (ev_var rfl) (ea_cons (ev_bin (ev_var rfl) ev_cst (add_int _ _)) ea_nil)) (f_sets_upto many' (s' + (1 : Int)) (And.left ((And.left (hb s' hs)) u279)))) ea_nil)) (f_serves__2 (square'.1, keys') (T_sets_upto many' (s' + (1 : Int))) (And.right ((And.left (hb s' hs)) u279)))))), fun hq => ⟨ex_pre (x_rolls_by_diodes_L3 square' many' s' keys') (.keep (.skip (.keep (.keep (.skip (.keep .nil)))))), (And.right (hb s' hs)) hq⟩⟩) (And.left h)) (.keep (.skip (.keep (.keep (.skip (.skip .nil)))))))
def T_rolls_by_diodes_L1 (square' : Sq) (many' : Int) (best' : Int) (size' : Int) : Int := ((T_sets_of many' size').foldl (fun (s' : Int) (keys' : (List Int)) => T_rolls_by_diodes_L2 square' many' s' keys') best')
def P_rolls_by_diodes_L1 (square' : Sq) (many' : Int) (best' : Int) (size' : Int) : Prop := (((P_sets_of many' size')) ∧ (∃ I : Nat → Int → Prop, I 0 best' ∧ ∀ (i' : Nat) (keys' : (List Int)), (T_sets_of many' size')[i']? = some keys' → ∀ s', I i' s' → P_rolls_by_diodes_L2 square' many' s' keys' ∧ I (i' + 1) ((fun (s' : Int) (keys' : (List Int)) => T_rolls_by_diodes_L2 square' many' s' keys') s' keys')))
theorem x_rolls_by_diodes_L1 (square' : Sq) (many' : Int) (best' : Int) (size' : Int) (h : P_rolls_by_diodes_L1 square' many' best' size') : Tx [some (eSq square'), none, some (eI many'), some (eI best'), some (eI size'), none] G_rolls_by_diodes_L1 (Rl.nx ((K_rolls_by_diodes_L1 square' many') (T_rolls_by_diodes_L1 square' many' best' size'))) :=
  (ex_sub (let ⟨I, h0, hb⟩ := (And.right h); ex_fold (e := (eT eI)) (kh := (K_rolls_by_diodes_L2 square' many')) (st := (fun (s' : Int) (keys' : (List Int)) => T_rolls_by_diodes_L2 square' many' s' keys')) (I := I) (it_itemsL (ev_nop (ea_cons (ev_var rfl) (ea_cons (ev_var rfl) ea_nil)) (f_sets_of many' size' (And.left h)))) (.keep (.skip (.keep (.keep (.skip (.skip .nil)))))) h0 fun i' keys' hx s' hs => ⟨_, tg1, ex_pre (x_rolls_by_diodes_L2 square' many' s' keys' (hb i' keys' hx s' hs).1) (.keep (.skip (.keep (.keep (.skip (.keep .nil)))))), (hb i' keys' hx s' hs).2⟩) (.keep (.skip (.keep (.keep (.skip (.skip .nil)))))))
def T_rolls_by_diodes_5 (best' : Int) : Int := best'
theorem x_rolls_by_diodes_5 (best' : Int) : Tx [none, none, none, some (eI best'), none, none] G_rolls_by_diodes_5 (Rl.rt (eI (T_rolls_by_diodes_5 best'))) :=
  (ex_ret (ev_var rfl))
def T_rolls_by_diodes_4 (square' : Sq) (most' : Int) (many' : Int) (best' : Int) : Int := (T_rolls_by_diodes_5 ((rgI 0 ((min2 most' many') + (1 : Int))).foldl (fun (s' : Int) (size' : Int) => T_rolls_by_diodes_L1 square' many' s' size') best'))
def P_rolls_by_diodes_4 (square' : Sq) (most' : Int) (many' : Int) (best' : Int) : Prop := (((RgIn 0 ((min2 most' many') + (1 : Int)))) ∧ (∃ I : Nat → Int → Prop, I 0 best' ∧ ∀ (i' : Nat) (size' : Int), (rgI 0 ((min2 most' many') + (1 : Int)))[i']? = some size' → ∀ s', I i' s' → P_rolls_by_diodes_L1 square' many' s' size' ∧ I (i' + 1) ((fun (s' : Int) (size' : Int) => T_rolls_by_diodes_L1 square' many' s' size') s' size')))
theorem x_rolls_by_diodes_4 (square' : Sq) (most' : Int) (many' : Int) (best' : Int) (h : P_rolls_by_diodes_4 square' most' many' best') : Tx [some (eSq square'), some (eI most'), some (eI many'), some (eI best'), none, none] G_rolls_by_diodes_4 (Rl.rt (eI (T_rolls_by_diodes_4 square' most' many' best'))) :=
  (ex_sq (let ⟨I, h0, hb⟩ := (And.right h); ex_fold (e := eI) (kh := (K_rolls_by_diodes_L1 square' many')) (st := (fun (s' : Int) (size' : Int) => T_rolls_by_diodes_L1 square' many' s' size')) (I := I) (it_rng1 (ea_cons (ev_bin (ev_nop (ea_cons (ev_var rfl) (ea_cons (ev_var rfl) ea_nil)) rfl) ev_cst (add_int _ _)) ea_nil) (And.left h)) (.keep (.skip (.keep (.keep (.skip (.skip .nil)))))) h0 fun i' size' hx s' hs => ⟨_, tg1, ex_pre (x_rolls_by_diodes_L1 square' many' s' size' (hb i' size' hx s' hs).1) (.keep (.skip (.keep (.keep (.keep (.skip .nil)))))), (hb i' size' hx s' hs).2⟩) (ex_pre (x_rolls_by_diodes_5 ((rgI 0 ((min2 most' many') + (1 : Int))).foldl (fun (s' : Int) (size' : Int) => T_rolls_by_diodes_L1 square' many' s' size') best')) (.skip (.skip (.skip (.keep (.skip (.skip .nil))))))))
def T_rolls_by_diodes_3 (square' : Sq) (most' : Int) (many' : Int) : Int := (T_rolls_by_diodes_4 square' most' many' (0 : Int))
def P_rolls_by_diodes_3 (square' : Sq) (most' : Int) (many' : Int) : Prop := (P_rolls_by_diodes_4 square' most' many' (0 : Int))
theorem x_rolls_by_diodes_3 (square' : Sq) (most' : Int) (many' : Int) (h : P_rolls_by_diodes_3 square' most' many') : Tx [some (eSq square'), some (eI most'), some (eI many'), none, none, none] G_rolls_by_diodes_3 (Rl.rt (eI (T_rolls_by_diodes_3 square' most' many'))) :=
  (ex_sq (ex_set ev_cst) (ex_pre (x_rolls_by_diodes_4 square' most' many' (0 : Int) h) (.keep (.keep (.keep (.keep (.skip (.skip .nil))))))))
def T_rolls_by_diodes_2 (square' : Sq) (most' : Int) : Int := (T_rolls_by_diodes_3 square' most' (square'.1.length : Int))
def P_rolls_by_diodes_2 (square' : Sq) (most' : Int) : Prop := (P_rolls_by_diodes_3 square' most' (square'.1.length : Int))
theorem x_rolls_by_diodes_2 (square' : Sq) (most' : Int) (h : P_rolls_by_diodes_2 square' most') : Tx [some (eSq square'), some (eI most'), none, none, none, none] G_rolls_by_diodes_2 (Rl.rt (eI (T_rolls_by_diodes_2 square' most'))) :=
  (ex_sq (ex_set (ev_nop (ea_cons (ev_bin (ev_var rfl) ev_cst t_idxP0) ea_nil) (t_lenT _ (eP eI eI)))) (ex_pre (x_rolls_by_diodes_3 square' most' (square'.1.length : Int) h) (.keep (.keep (.keep (.skip (.skip (.skip .nil))))))))
def T_rolls_by_diodes_1 (square' : Sq) (most' : Int) : Int := (T_rolls_by_diodes_2 square' most')
def P_rolls_by_diodes_1 (square' : Sq) (most' : Int) : Prop := ((!(isNum most' (0 : Int) (6 : Int))) = false) ∧ (P_rolls_by_diodes_2 square' most')
theorem x_rolls_by_diodes_1 (square' : Sq) (most' : Int) (h : P_rolls_by_diodes_1 square' most') : Tx [some (eSq square'), some (eI most'), none, none, none, none] G_rolls_by_diodes_1 (Rl.rt (eI (T_rolls_by_diodes_1 square' most'))) :=
  (ex_never (ev_nott (ev_tst (ev_nop (ea_cons (ev_var rfl) (ea_cons ev_cst (ea_cons ev_cst ea_nil))) (t_is_number most' (0 : Int) (6 : Int))))) (And.left h) (ex_pre (x_rolls_by_diodes_2 square' most' (And.right h)) (.keep (.keep (.skip (.skip (.skip (.skip .nil))))))))
def T_rolls_by_diodes (square' : Sq) (most' : Int) : Int := (T_rolls_by_diodes_1 square' most')
def P_rolls_by_diodes (square' : Sq) (most' : Int) : Prop := ((PSq square')) ∧ (P_rolls_by_diodes_1 square' most')
theorem x_rolls_by_diodes (square' : Sq) (most' : Int) (h : P_rolls_by_diodes square' most') : Tx [some (eSq square'), some (eI most'), none, none, none, none] G_rolls_by_diodes (Rl.rt (eI (T_rolls_by_diodes square' most'))) :=
  (ex_sq (ex_exp (ev_nop (ea_cons (ev_var rfl) ea_nil) (t_need_square square' (And.left h)))) (ex_pre (x_rolls_by_diodes_1 square' most' (And.right h)) (.keep (.keep (.skip (.skip (.skip (.skip .nil))))))))
theorem f_rolls_by_diodes (square' : Sq) (most' : Int) (h : P_rolls_by_diodes square' most') : F_rolls_by_diodes [eSq square', eI most'] = pure (eI (T_rolls_by_diodes square' most')) :=
  fn_of rfl rfl (ex_pre (x_rolls_by_diodes square' most' h) (.keep (.keep (.skip (.skip (.skip (.skip .nil)))))))
/-! ### fewest_diodes -/
abbrev K_fewest_diodes_L1 (square' : Sq) (wish' : (List (List Int))) : Ks := [some (eSq square'), some ((eT (eT eI)) wish'), none, none]
abbrev K_fewest_diodes_L2 (square' : Sq) (wish' : (List (List Int))) : Ks := [some (eSq square'), some ((eT (eT eI)) wish'), none, none]
def T_fewest_diodes_L2 (square' : Sq) (wish' : (List (List Int))) (keys' : (List Int)) : (Option (Option (List Int))) := (if (T_serves (square'.1, keys') wish') then (some (some keys')) else none)
def P_fewest_diodes_L2 (square' : Sq) (wish' : (List (List Int))) (keys' : (List Int)) : Prop := ((P_serves (square'.1, keys') wish'))
theorem x_fewest_diodes_L2 (square' : Sq) (wish' : (List (List Int))) (keys' : (List Int)) (h : P_fewest_diodes_L2 square' wish' keys') : Tx [some (eSq square'), some ((eT (eT eI)) wish'), none, some ((eT eI) keys')] G_fewest_diodes_L2 (opR (K_fewest_diodes_L2 square' wish') (eO (eT eI)) (T_fewest_diodes_L2 square' wish' keys')) :=
  (ex_if (fun z => opR (K_fewest_diodes_L2 square' wish') (eO (eT eI)) z) (ev_tst (ev_nop (ea_cons (ev_tup (ea_cons (ev_bin (ev_var rfl) ev_cst t_idxP0) (ea_cons (ev_var rfl) ea_nil)) (lim_small (Nat.le_of_ble_eq_true rfl))) (ea_cons (ev_var rfl) ea_nil)) (f_serves (square'.1, keys') wish' h))) (fun hb => (ex_ret (ev_var rfl))) (fun hb => (ex_sub ex_skp (.keep (.keep (.skip (.skip .nil)))))))
def T_fewest_diodes_L1 (square' : Sq) (wish' : (List (List Int))) (size' : Int) : (Option (Option (List Int))) := (opM ((T_sets_of (square'.1.length : Int) size').findSome? (fun (keys' : (List Int)) => T_fewest_diodes_L2 square' wish' keys')) none (fun a => (some a)))
def P_fewest_diodes_L1 (square' : Sq) (wish' : (List (List Int))) (size' : Int) : Prop := ((P_sets_of (square'.1.length : Int) size')) ∧ (∀ keys' ∈ (T_sets_of (square'.1.length : Int) size'), P_fewest_diodes_L2 square' wish' keys')
theorem x_fewest_diodes_L1 (square' : Sq) (wish' : (List (List Int))) (size' : Int) (h : P_fewest_diodes_L1 square' wish' size') : Tx [some (eSq square'), some ((eT (eT eI)) wish'), some (eI size'), none] G_fewest_diodes_L1 (opR (K_fewest_diodes_L1 square' wish') (eO (eT eI)) (T_fewest_diodes_L1 square' wish' size')) :=
  (ex_last_op (fun z => opR (K_fewest_diodes_L1 square' wish') (eO (eT eI)) z) (fun a => (some a)) (ex_find (e := (eT eI)) (e' := (eO (eT eI))) (kh := (K_fewest_diodes_L2 square' wish')) (g := (fun (keys' : (List Int)) => T_fewest_diodes_L2 square' wish' keys')) (it_itemsL (ev_nop (ea_cons (ev_nop (ea_cons (ev_bin (ev_var rfl) ev_cst t_idxP0) ea_nil) (t_lenT _ (eP eI eI))) (ea_cons (ev_var rfl) ea_nil)) (f_sets_of (square'.1.length : Int) size' (And.left h)))) (.keep (.keep (.skip (.skip .nil)))) fun keys' hx => ⟨_, tg1, ex_pre (x_fewest_diodes_L2 square' wish' keys' ((And.right h) keys' hx)) (.keep (.keep (.skip (.keep .nil))))⟩) (fun _ => rfl) (fun _ => (ex_sub ex_skp (.keep (.keep (.skip (.skip .nil)))))))
def T_fewest_diodes_3  : (Option (List Int)) := (none : (Option (List Int)))
theorem x_fewest_diodes_3  : Tx [none, none, none, none] G_fewest_diodes_3 (Rl.rt ((eO (eT eI)) (T_fewest_diodes_3 ))) :=
  (ex_ret ev_cst)
def T_fewest_diodes_2 (square' : Sq) (wish' : (List (List Int))) : (Option (List Int)) := (opM ((rgI 0 ((square'.1.length : Int) + (1 : Int))).findSome? (fun (size' : Int) => T_fewest_diodes_L1 square' wish' size')) (T_fewest_diodes_3 ) (fun a => a))
def P_fewest_diodes_2 (square' : Sq) (wish' : (List (List Int))) : Prop := (((RgIn 0 ((square'.1.length : Int) + (1 : Int)))) ∧ (∀ size' ∈ (rgI 0 ((square'.1.length : Int) + (1 : Int))), P_fewest_diodes_L1 square' wish' size'))
theorem x_fewest_diodes_2 (square' : Sq) (wish' : (List (List Int))) (h : P_fewest_diodes_2 square' wish') : Tx [some (eSq square'), some ((eT (eT eI)) wish'), none, none] G_fewest_diodes_2 (Rl.rt ((eO (eT eI)) (T_fewest_diodes_2 square' wish'))) :=
  (ex_sq_op (fun z => Rl.rt ((eO (eT eI)) z)) (fun a => a) (ex_find (e := eI) (e' := (eO (eT eI))) (kh := (K_fewest_diodes_L1 square' wish')) (g := (fun (size' : Int) => T_fewest_diodes_L1 square' wish' size')) (it_rng1 (ea_cons (ev_bin (ev_nop (ea_cons (ev_bin (ev_var rfl) ev_cst t_idxP0) ea_nil) (t_lenT _ (eP eI eI))) ev_cst (add_int _ _)) ea_nil) (And.left h)) (.keep (.keep (.skip (.skip .nil)))) fun size' hx => ⟨_, tg1, ex_pre (x_fewest_diodes_L1 square' wish' size' ((And.right h) size' hx)) (.keep (.keep (.keep (.skip .nil))))⟩) (fun _ => rfl) (fun hb => (ex_pre (x_fewest_diodes_3 ) (.skip (.skip (.skip (.skip .nil)))))))
def T_fewest_diodes_1 (square' : Sq) (wish' : (List (List Int))) : (Option (List Int)) := (T_fewest_diodes_2 square' wish')
def P_fewest_diodes_1 (square' : Sq) (wish' : (List (List Int))) : Prop := ((P_need_wish (square'.1.length : Int) wish')) ∧ (P_fewest_diodes_2 square' wish')
theorem x_fewest_diodes_1 (square' : Sq) (wish' : (List (List Int))) (h : P_fewest_diodes_1 square' wish') : Tx [some (eSq square'), some ((eT (eT eI)) wish'), none, none] G_fewest_diodes_1 (Rl.rt ((eO (eT eI)) (T_fewest_diodes_1 square' wish'))) :=
  (ex_sq (ex_exp (ev_nop (ea_cons (ev_nop (ea_cons (ev_bin (ev_var rfl) ev_cst t_idxP0) ea_nil) (t_lenT _ (eP eI eI))) (ea_cons (ev_var rfl) ea_nil)) (f_need_wish (square'.1.length : Int) wish' (And.left h)))) (ex_pre (x_fewest_diodes_2 square' wish' (And.right h)) (.keep (.keep (.skip (.skip .nil))))))
def T_fewest_diodes (square' : Sq) (wish' : (List (List Int))) : (Option (List Int)) := (T_fewest_diodes_1 square' wish')
def P_fewest_diodes (square' : Sq) (wish' : (List (List Int))) : Prop := ((PSq square')) ∧ (P_fewest_diodes_1 square' wish')
theorem x_fewest_diodes (square' : Sq) (wish' : (List (List Int))) (h : P_fewest_diodes square' wish') : Tx [some (eSq square'), some ((eT (eT eI)) wish'), none, none] G_fewest_diodes (Rl.rt ((eO (eT eI)) (T_fewest_diodes square' wish'))) :=
  (ex_sq (ex_exp (ev_nop (ea_cons (ev_var rfl) ea_nil) (t_need_square square' (And.left h)))) (ex_pre (x_fewest_diodes_1 square' wish' (And.right h)) (.keep (.keep (.skip (.skip .nil))))))
theorem f_fewest_diodes (square' : Sq) (wish' : (List (List Int))) (h : P_fewest_diodes square' wish') : F_fewest_diodes [eSq square', (eT (eT eI)) wish'] = pure ((eO (eT eI)) (T_fewest_diodes square' wish')) :=
  fn_of rfl rfl (ex_pre (x_fewest_diodes square' wish' h) (.keep (.keep (.skip (.skip .nil)))))
/-! ### needless_diodes -/
def T_needless_diodes_4 (square' : Sq) (wish' : (List (List Int))) (rest' : (List (Int × (List Int)))) : (List Int) := ((rest'.filter (fun (z_key_keys' : (Int × (List Int))) => (T_serves (square'.1, z_key_keys'.2) wish'))).map (fun (z_key_keys' : (Int × (List Int))) => z_key_keys'.1))
def P_needless_diodes_4 (square' : Sq) (wish' : (List (List Int))) (rest' : (List (Int × (List Int)))) : Prop := (rest'.length ≤ LIM) ∧ (∀ z_key_keys' ∈ rest', ((P_serves (square'.1, z_key_keys'.2) wish')))
theorem x_needless_diodes_4 (square' : Sq) (wish' : (List (List Int))) (rest' : (List (Int × (List Int)))) (h : P_needless_diodes_4 square' wish' rest') : Tx [some (eSq square'), some ((eT (eT eI)) wish'), some ((eL (eP eI (eT eI))) rest'), none, none, none] G_needless_diodes_4 (Rl.rt ((eL eI) (T_needless_diodes_4 square' wish' rest'))) :=
  (ex_ret (ev_lstF (ev_comp (e := (eP eI (eT eI))) (e' := eI) (fun (z_key_keys' : (Int × (List Int))) => (T_serves (square'.1, z_key_keys'.2) wish')) (fun (z_key_keys' : (Int × (List Int))) => z_key_keys'.1) _ (it_itemsL (ev_var rfl)) (And.left h) fun z_key_keys' u365 => ⟨tg2, (ev_tst (ev_nop (ea_cons (ev_tup (ea_cons (ev_bin (ev_var rfl) ev_cst t_idxP0) (ea_cons (ev_var rfl) ea_nil)) (lim_small (Nat.le_of_ble_eq_true rfl))) (ea_cons (ev_var rfl) ea_nil)) (f_serves (square'.1, z_key_keys'.2) wish' ((And.right h) z_key_keys' u365)))), fun u366 => (ev_var rfl)⟩)))
def T_needless_diodes_3 (square' : Sq) (wish' : (List (List Int))) : (List Int) := (T_needless_diodes_4 square' wish' (square'.2.map (fun (key' : Int) => (key', (square'.2.filter (fun (one' : Int) => (!(decide (one' = key')))))))))
def P_needless_diodes_3 (square' : Sq) (wish' : (List (List Int))) : Prop := ((square'.2.length ≤ LIM) ∧ (∀ key' ∈ square'.2, ((square'.2.length ≤ LIM)))) ∧ (P_needless_diodes_4 square' wish' (square'.2.map (fun (key' : Int) => (key', (square'.2.filter (fun (one' : Int) => (!(decide (one' = key')))))))))
theorem x_needless_diodes_3 (square' : Sq) (wish' : (List (List Int))) (h : P_needless_diodes_3 square' wish') : Tx [some (eSq square'), some ((eT (eT eI)) wish'), none, none, none, none] G_needless_diodes_3 (Rl.rt ((eL eI) (T_needless_diodes_3 square' wish'))) :=
  (ex_sq (ex_set (ev_lstF (ev_compA (e := eI) (e' := (eP eI (eT eI))) (fun (key' : Int) => (key', (square'.2.filter (fun (one' : Int) => (!(decide (one' = key'))))))) _ (it_itemsT (ev_bin (ev_var rfl) ev_cst t_idxP1)) (And.left (And.left h)) fun key' u361 => ⟨tg1, (ev_tup (ea_cons (ev_var rfl) (ea_cons (ev_nop (ea_cons (ev_lstF (ev_compI (e := eI) (fun (one' : Int) => (!(decide (one' = key')))) _ (it_itemsT (ev_bin (ev_var rfl) ev_cst t_idxP1)) ((And.right (And.left h)) key' u361) fun one' u363 => ⟨tg1, (ev_tst (ev_bin (ev_var rfl) (ev_var rfl) (t_ne (e := eI) okI one' key'))), fun u364 => (ev_var rfl)⟩)) ea_nil) rfl) ea_nil)) (lim_small (Nat.le_of_ble_eq_true rfl)))⟩))) (ex_pre (x_needless_diodes_4 square' wish' (square'.2.map (fun (key' : Int) => (key', (square'.2.filter (fun (one' : Int) => (!(decide (one' = key')))))))) (And.right h)) (.keep (.keep (.keep (.skip (.skip (.skip .nil))))))))
def T_needless_diodes_2 (square' : Sq) (wish' : (List (List Int))) : (List Int) := (if (!(T_serves square' wish')) then ([] : List Int) else (T_needless_diodes_3 square' wish'))
def P_needless_diodes_2 (square' : Sq) (wish' : (List (List Int))) : Prop := ((P_serves square' wish')) ∧ ((!(T_serves square' wish')) = false → P_needless_diodes_3 square' wish')
theorem x_needless_diodes_2 (square' : Sq) (wish' : (List (List Int))) (h : P_needless_diodes_2 square' wish') : Tx [some (eSq square'), some ((eT (eT eI)) wish'), none, none, none, none] G_needless_diodes_2 (Rl.rt ((eL eI) (T_needless_diodes_2 square' wish'))) :=
  (ex_guard (fun z => Rl.rt ((eL eI) z)) (ev_nott (ev_tst (ev_nop (ea_cons (ev_var rfl) (ea_cons (ev_var rfl) ea_nil)) (f_serves square' wish' (And.left h))))) (fun hb => (ex_ret (ev_lst (as := []) ea_nil lim_nil))) rfl (fun hb => (ex_pre (x_needless_diodes_3 square' wish' ((And.right h) hb)) (.keep (.keep (.skip (.skip (.skip (.skip .nil)))))))))
def T_needless_diodes_1 (square' : Sq) (wish' : (List (List Int))) : (List Int) := (T_needless_diodes_2 square' wish')
def P_needless_diodes_1 (square' : Sq) (wish' : (List (List Int))) : Prop := ((P_need_wish (square'.1.length : Int) wish')) ∧ (P_needless_diodes_2 square' wish')
theorem x_needless_diodes_1 (square' : Sq) (wish' : (List (List Int))) (h : P_needless_diodes_1 square' wish') : Tx [some (eSq square'), some ((eT (eT eI)) wish'), none, none, none, none] G_needless_diodes_1 (Rl.rt ((eL eI) (T_needless_diodes_1 square' wish'))) :=
  (ex_sq (ex_exp (ev_nop (ea_cons (ev_nop (ea_cons (ev_bin (ev_var rfl) ev_cst t_idxP0) ea_nil) (t_lenT _ (eP eI eI))) (ea_cons (ev_var rfl) ea_nil)) (f_need_wish (square'.1.length : Int) wish' (And.left h)))) (ex_pre (x_needless_diodes_2 square' wish' (And.right h)) (.keep (.keep (.skip (.skip (.skip (.skip .nil))))))))
def T_needless_diodes (square' : Sq) (wish' : (List (List Int))) : (List Int) := (T_needless_diodes_1 square' wish')
def P_needless_diodes (square' : Sq) (wish' : (List (List Int))) : Prop := ((PSq square')) ∧ (P_needless_diodes_1 square' wish')
theorem x_needless_diodes (square' : Sq) (wish' : (List (List Int))) (h : P_needless_diodes square' wish') : Tx [some (eSq square'), some ((eT (eT eI)) wish'), none, none, none, none] G_needless_diodes (Rl.rt ((eL eI) (T_needless_diodes square' wish'))) :=
  (ex_sq (ex_exp (ev_nop (ea_cons (ev_var rfl) ea_nil) (t_need_square square' (And.left h)))) (ex_pre (x_needless_diodes_1 square' wish' (And.right h)) (.keep (.keep (.skip (.skip (.skip (.skip .nil))))))))
theorem f_needless_diodes (square' : Sq) (wish' : (List (List Int))) (h : P_needless_diodes square' wish') : F_needless_diodes [eSq square', (eT (eT eI)) wish'] = pure ((eL eI) (T_needless_diodes square' wish')) :=
  fn_of rfl rfl (ex_pre (x_needless_diodes square' wish' h) (.keep (.keep (.skip (.skip (.skip (.skip .nil)))))))
/-! ### law_k22 -/
abbrev K_law_k22_L2 (square_here' : Sq) (many' : Int) (both' : (List (List Int))) : Ks := [none, some (eSq square_here'), some (eI many'), none, none, some ((eT (eT eI)) both'), none, none, none, none, none, none, none, none, none, none, none]
abbrev K_law_k22_L3 (square_here' : Sq) (many' : Int) (both' : (List (List Int))) (wish_here' : (List (List Int))) (keys' : (Option (List Int))) (best' : Sq) : Ks := [none, some (eSq square_here'), some (eI many'), none, none, some ((eT (eT eI)) both'), some ((eT (eT eI)) wish_here'), none, none, some ((eO (eT eI)) keys'), some (eSq best'), none, none, none, none, none, none]
abbrev K_law_k22_L4 (square_here' : Sq) (many' : Int) (both' : (List (List Int))) (wish_here' : (List (List Int))) (keys' : (Option (List Int))) (best' : Sq) (here' : Sq) (free' : (List Int)) : Ks := [none, some (eSq square_here'), some (eI many'), none, none, some ((eT (eT eI)) both'), some ((eT (eT eI)) wish_here'), none, none, some ((eO (eT eI)) keys'), some (eSq best'), none, some (eSq here'), some ((eL eI) free'), none, none, none]
def T_law_k22_L4_1 (square_here' : Sq) (many' : Int) (both' : (List (List Int))) (wish_here' : (List (List Int))) (keys' : (Option (List Int))) (best' : Sq) (here' : Sq) (free' : (List Int)) (key' : Int) (rest' : Sq) : (Option Bool) := (if ((T_is_served here' wish_here') && (!(decide ((inE key' free') = (T_is_served rest' wish_here'))))) then (some false) else none)
def P_law_k22_L4_1 (square_here' : Sq) (many' : Int) (both' : (List (List Int))) (wish_here' : (List (List Int))) (keys' : (Option (List Int))) (best' : Sq) (here' : Sq) (free' : (List Int)) (key' : Int) (rest' : Sq) : Prop := (((P_is_served here' wish_here')) ∧ ((T_is_served here' wish_here') = true → ((P_is_served rest' wish_here'))))
theorem x_law_k22_L4_1 (square_here' : Sq) (many' : Int) (both' : (List (List Int))) (wish_here' : (List (List Int))) (keys' : (Option (List Int))) (best' : Sq) (here' : Sq) (free' : (List Int)) (key' : Int) (rest' : Sq) (h : P_law_k22_L4_1 square_here' many' both' wish_here' keys' best' here' free' key' rest') : Tx [none, some (eSq square_here'), some (eI many'), none, none, some ((eT (eT eI)) both'), some ((eT (eT eI)) wish_here'), none, none, some ((eO (eT eI)) keys'), some (eSq best'), none, some (eSq here'), some ((eL eI) free'), some (eI key'), some (eSq rest'), none] G_law_k22_L4_1 (opR (K_law_k22_L4 square_here' many' both' wish_here' keys' best' here' free') eB (T_law_k22_L4_1 square_here' many' both' wish_here' keys' best' here' free' key' rest')) :=
  (ex_if (fun z => opR (K_law_k22_L4 square_here' many' both' wish_here' keys' best' here' free') eB z) (ev_andt (ev_tst (ev_nop (ea_cons (ev_var rfl) (ea_cons (ev_var rfl) ea_nil)) (f_is_served here' wish_here' (And.left h)))) fun u452 => (ev_tst (ev_bin (ev_bin (ev_var rfl) (ev_var rfl) (t_inL (e := eI) okI key' free')) (ev_nop (ea_cons (ev_var rfl) (ea_cons (ev_var rfl) ea_nil)) (f_is_served rest' wish_here' ((And.right h) u452))) (t_ne (e := eB) okB (inE key' free') (T_is_served rest' wish_here'))))) (fun hb => (ex_ret ev_cst)) (fun hb => (ex_sub ex_skp (.skip (.keep (.keep (.skip (.skip (.keep (.keep (.skip (.skip (.keep (.keep (.skip (.keep (.keep (.skip (.skip (.skip .nil))))))))))))))))))))
def T_law_k22_L4 (square_here' : Sq) (many' : Int) (both' : (List (List Int))) (wish_here' : (List (List Int))) (keys' : (Option (List Int))) (best' : Sq) (here' : Sq) (free' : (List Int)) (key' : Int) : (Option Bool) := (T_law_k22_L4_1 square_here' many' both' wish_here' keys' best' here' free' key' (withD here' (here'.2.filter (fun (more' : Int) => (!(decide (more' = key')))))))
def P_law_k22_L4 (square_here' : Sq) (many' : Int) (both' : (List (List Int))) (wish_here' : (List (List Int))) (keys' : (Option (List Int))) (best' : Sq) (here' : Sq) (free' : (List Int)) (key' : Int) : Prop := ((((here'.2.length ≤ LIM))) ∧ (PWith here' (here'.2.filter (fun (more' : Int) => (!(decide (more' = key'))))))) ∧ (P_law_k22_L4_1 square_here' many' both' wish_here' keys' best' here' free' key' (withD here' (here'.2.filter (fun (more' : Int) => (!(decide (more' = key')))))))
theorem x_law_k22_L4 (square_here' : Sq) (many' : Int) (both' : (List (List Int))) (wish_here' : (List (List Int))) (keys' : (Option (List Int))) (best' : Sq) (here' : Sq) (free' : (List Int)) (key' : Int) (h : P_law_k22_L4 square_here' many' both' wish_here' keys' best' here' free' key') : Tx [none, some (eSq square_here'), some (eI many'), none, none, some ((eT (eT eI)) both'), some ((eT (eT eI)) wish_here'), none, none, some ((eO (eT eI)) keys'), some (eSq best'), none, some (eSq here'), some ((eL eI) free'), some (eI key'), none, none] G_law_k22_L4 (opR (K_law_k22_L4 square_here' many' both' wish_here' keys' best' here' free') eB (T_law_k22_L4 square_here' many' both' wish_here' keys' best' here' free' key')) :=
  (ex_sq (ex_set (ev_nop (ea_cons (ev_var rfl) (ea_cons (ev_nop (ea_cons (ev_lstF (ev_compI (e := eI) (fun (more' : Int) => (!(decide (more' = key')))) _ (it_itemsT (ev_bin (ev_var rfl) ev_cst t_idxP1)) (And.left (And.left h)) fun more' u450 => ⟨tg1, (ev_tst (ev_bin (ev_var rfl) (ev_var rfl) (t_ne (e := eI) okI more' key'))), fun u451 => (ev_var rfl)⟩)) ea_nil) rfl) ea_nil)) (t_with_diodes here' (here'.2.filter (fun (more' : Int) => (!(decide (more' = key'))))) (And.right (And.left h))))) (ex_pre (x_law_k22_L4_1 square_here' many' both' wish_here' keys' best' here' free' key' (withD here' (here'.2.filter (fun (more' : Int) => (!(decide (more' = key')))))) (And.right h)) (.skip (.keep (.keep (.skip (.skip (.keep (.keep (.skip (.skip (.keep (.keep (.skip (.keep (.keep (.keep (.keep (.skip .nil)))))))))))))))))))
def T_law_k22_L3_2 (square_here' : Sq) (many' : Int) (both' : (List (List Int))) (wish_here' : (List (List Int))) (keys' : (Option (List Int))) (best' : Sq) (here' : Sq) (free' : (List Int)) : (Option Bool) := (opM (here'.2.findSome? (fun (key' : Int) => T_law_k22_L4 square_here' many' both' wish_here' keys' best' here' free' key')) none (fun a => (some a)))
def P_law_k22_L3_2 (square_here' : Sq) (many' : Int) (both' : (List (List Int))) (wish_here' : (List (List Int))) (keys' : (Option (List Int))) (best' : Sq) (here' : Sq) (free' : (List Int)) : Prop := (∀ key' ∈ here'.2, P_law_k22_L4 square_here' many' both' wish_here' keys' best' here' free' key')
theorem x_law_k22_L3_2 (square_here' : Sq) (many' : Int) (both' : (List (List Int))) (wish_here' : (List (List Int))) (keys' : (Option (List Int))) (best' : Sq) (here' : Sq) (free' : (List Int)) (h : P_law_k22_L3_2 square_here' many' both' wish_here' keys' best' here' free') : Tx [none, some (eSq square_here'), some (eI many'), none, none, some ((eT (eT eI)) both'), some ((eT (eT eI)) wish_here'), none, none, some ((eO (eT eI)) keys'), some (eSq best'), none, some (eSq here'), some ((eL eI) free'), none, none, none] G_law_k22_L3_2 (opR (K_law_k22_L3 square_here' many' both' wish_here' keys' best') eB (T_law_k22_L3_2 square_here' many' both' wish_here' keys' best' here' free')) :=
  (ex_last_op (fun z => opR (K_law_k22_L3 square_here' many' both' wish_here' keys' best') eB z) (fun a => (some a)) (ex_find (e := eI) (e' := eB) (kh := (K_law_k22_L4 square_here' many' both' wish_here' keys' best' here' free')) (g := (fun (key' : Int) => T_law_k22_L4 square_here' many' both' wish_here' keys' best' here' free' key')) (it_itemsT (ev_bin (ev_var rfl) ev_cst t_idxP1)) (.skip (.keep (.keep (.skip (.skip (.keep (.keep (.skip (.skip (.keep (.keep (.skip (.keep (.keep (.skip (.skip (.skip .nil))))))))))))))))) fun key' hx => ⟨_, tg1, ex_pre (x_law_k22_L4 square_here' many' both' wish_here' keys' best' here' free' key' (h key' hx)) (.skip (.keep (.keep (.skip (.skip (.keep (.keep (.skip (.skip (.keep (.keep (.skip (.keep (.keep (.keep (.skip (.skip .nil)))))))))))))))))⟩) (fun _ => rfl) (fun _ => (ex_sub ex_skp (.skip (.keep (.keep (.skip (.skip (.keep (.keep (.skip (.skip (.keep (.keep (.skip (.skip (.skip (.skip (.skip (.skip .nil))))))))))))))))))))
def T_law_k22_L3_1 (square_here' : Sq) (many' : Int) (both' : (List (List Int))) (wish_here' : (List (List Int))) (keys' : (Option (List Int))) (best' : Sq) (here' : Sq) (free' : (List Int)) : (Option Bool) := (if ((!(T_is_served here' wish_here')) && (!(decide (free' = ([] : List Int))))) then (some false) else (T_law_k22_L3_2 square_here' many' both' wish_here' keys' best' here' free'))
def P_law_k22_L3_1 (square_here' : Sq) (many' : Int) (both' : (List (List Int))) (wish_here' : (List (List Int))) (keys' : (Option (List Int))) (best' : Sq) (here' : Sq) (free' : (List Int)) : Prop := (((P_is_served here' wish_here'))) ∧ (((!(T_is_served here' wish_here')) && (!(decide (free' = ([] : List Int))))) = false → P_law_k22_L3_2 square_here' many' both' wish_here' keys' best' here' free')
theorem x_law_k22_L3_1 (square_here' : Sq) (many' : Int) (both' : (List (List Int))) (wish_here' : (List (List Int))) (keys' : (Option (List Int))) (best' : Sq) (here' : Sq) (free' : (List Int)) (h : P_law_k22_L3_1 square_here' many' both' wish_here' keys' best' here' free') : Tx [none, some (eSq square_here'), some (eI many'), none, none, some ((eT (eT eI)) both'), some ((eT (eT eI)) wish_here'), none, none, some ((eO (eT eI)) keys'), some (eSq best'), none, some (eSq here'), some ((eL eI) free'), none, none, none] G_law_k22_L3_1 (opR (K_law_k22_L3 square_here' many' both' wish_here' keys' best') eB (T_law_k22_L3_1 square_here' many' both' wish_here' keys' best' here' free')) :=
  (ex_guard (fun z => opR (K_law_k22_L3 square_here' many' both' wish_here' keys' best') eB z) (ev_andt (ev_nott (ev_tst (ev_nop (ea_cons (ev_var rfl) (ea_cons (ev_var rfl) ea_nil)) (f_is_served here' wish_here' (And.left h))))) fun u447 => (ev_tst (ev_bin (ev_var rfl) (ev_lst (as := []) ea_nil lim_nil) (t_ne (e := (eL eI)) (okL okI) free' ([] : List Int))))) (fun hb => (ex_ret ev_cst)) rfl (fun hb => (ex_pre (x_law_k22_L3_2 square_here' many' both' wish_here' keys' best' here' free' ((And.right h) hb)) (.skip (.keep (.keep (.skip (.skip (.keep (.keep (.skip (.skip (.keep (.keep (.skip (.keep (.keep (.skip (.skip (.skip .nil))))))))))))))))))))
def T_law_k22_L3 (square_here' : Sq) (many' : Int) (both' : (List (List Int))) (wish_here' : (List (List Int))) (keys' : (Option (List Int))) (best' : Sq) (here' : Sq) : (Option Bool) := (T_law_k22_L3_1 square_here' many' both' wish_here' keys' best' here' (T_needless_diodes here' wish_here'))
def P_law_k22_L3 (square_here' : Sq) (many' : Int) (both' : (List (List Int))) (wish_here' : (List (List Int))) (keys' : (Option (List Int))) (best' : Sq) (here' : Sq) : Prop := ((P_needless_diodes here' wish_here')) ∧ (P_law_k22_L3_1 square_here' many' both' wish_here' keys' best' here' (T_needless_diodes here' wish_here'))
theorem x_law_k22_L3 (square_here' : Sq) (many' : Int) (both' : (List (List Int))) (wish_here' : (List (List Int))) (keys' : (Option (List Int))) (best' : Sq) (here' : Sq) (h : P_law_k22_L3 square_here' many' both' wish_here' keys' best' here') : Tx [none, some (eSq square_here'), some (eI many'), none, none, some ((eT (eT eI)) both'), some ((eT (eT eI)) wish_here'), none, none, some ((eO (eT eI)) keys'), some (eSq best'), none, some (eSq here'), none, none, none, none] G_law_k22_L3 (opR (K_law_k22_L3 square_here' many' both' wish_here' keys' best') eB (T_law_k22_L3 square_here' many' both' wish_here' keys' best' here')) :=
  (ex_sq (ex_set (ev_nop (ea_cons (ev_var rfl) (ea_cons (ev_var rfl) ea_nil)) (f_needless_diodes here' wish_here' (And.left h)))) (ex_pre (x_law_k22_L3_1 square_here' many' both' wish_here' keys' best' here' (T_needless_diodes here' wish_here') (And.right h)) (.skip (.keep (.keep (.skip (.skip (.keep (.keep (.skip (.skip (.keep (.keep (.skip (.keep (.keep (.skip (.skip (.skip .nil)))))))))))))))))))
def T_law_k22_L2_7 (square_here' : Sq) (many' : Int) (both' : (List (List Int))) (keys' : (Option (List Int))) (best' : Sq) : (Option Bool) := (if (decide ((T_rolls_by_diodes square_here' ((oGet keys').length : Int)) < (T_safe_rolls best'))) then (some false) else none)
def P_law_k22_L2_7 (square_here' : Sq) (many' : Int) (both' : (List (List Int))) (keys' : (Option (List Int))) (best' : Sq) : Prop := (((((keys'.isSome = true))) ∧ (P_rolls_by_diodes square_here' ((oGet keys').length : Int))) ∧ ((P_safe_rolls best')))
theorem x_law_k22_L2_7 (square_here' : Sq) (many' : Int) (both' : (List (List Int))) (keys' : (Option (List Int))) (best' : Sq) (h : P_law_k22_L2_7 square_here' many' both' keys' best') : Tx [none, some (eSq square_here'), some (eI many'), none, none, some ((eT (eT eI)) both'), none, none, none, some ((eO (eT eI)) keys'), some (eSq best'), none, none, none, none, none, none] G_law_k22_L2_7 (opR (K_law_k22_L2 square_here' many' both') eB (T_law_k22_L2_7 square_here' many' both' keys' best')) :=
  (ex_if (fun z => opR (K_law_k22_L2 square_here' many' both') eB z) (ev_tst (ev_bin (ev_nop (ea_cons (ev_var rfl) (ea_cons (ev_nop (ea_cons (ev_oGet (e := (eT eI)) (ev_var rfl) (And.left (And.left h))) ea_nil) (t_lenT _ eI)) ea_nil)) (f_rolls_by_diodes square_here' ((oGet keys').length : Int) (And.right (And.left h)))) (ev_nop (ea_cons (ev_var rfl) ea_nil) (f_safe_rolls best' (And.right h))) (lt_int _ _))) (fun hb => (ex_ret ev_cst)) (fun hb => (ex_sub ex_skp (.skip (.keep (.keep (.skip (.skip (.keep (.skip (.skip (.skip (.skip (.skip (.skip (.skip (.skip (.skip (.skip (.skip .nil))))))))))))))))))))
def T_law_k22_L2_6 (square_here' : Sq) (many' : Int) (both' : (List (List Int))) (wish_here' : (List (List Int))) (keys' : (Option (List Int))) (best' : Sq) (full' : Sq) : (Option Bool) := (opM ([square_here', full'].findSome? (fun (here' : Sq) => T_law_k22_L3 square_here' many' both' wish_here' keys' best' here')) (T_law_k22_L2_7 square_here' many' both' keys' best') (fun a => (some a)))
def P_law_k22_L2_6 (square_here' : Sq) (many' : Int) (both' : (List (List Int))) (wish_here' : (List (List Int))) (keys' : (Option (List Int))) (best' : Sq) (full' : Sq) : Prop := ((∀ here' ∈ [square_here', full'], P_law_k22_L3 square_here' many' both' wish_here' keys' best' here')) ∧ (([square_here', full'].findSome? (fun (here' : Sq) => T_law_k22_L3 square_here' many' both' wish_here' keys' best' here')) = none → P_law_k22_L2_7 square_here' many' both' keys' best')
theorem x_law_k22_L2_6 (square_here' : Sq) (many' : Int) (both' : (List (List Int))) (wish_here' : (List (List Int))) (keys' : (Option (List Int))) (best' : Sq) (full' : Sq) (h : P_law_k22_L2_6 square_here' many' both' wish_here' keys' best' full') : Tx [none, some (eSq square_here'), some (eI many'), none, none, some ((eT (eT eI)) both'), some ((eT (eT eI)) wish_here'), none, none, some ((eO (eT eI)) keys'), some (eSq best'), some (eSq full'), none, none, none, none, none] G_law_k22_L2_6 (opR (K_law_k22_L2 square_here' many' both') eB (T_law_k22_L2_6 square_here' many' both' wish_here' keys' best' full')) :=
  (ex_sq_op (fun z => opR (K_law_k22_L2 square_here' many' both') eB z) (fun a => (some a)) (ex_find (e := eSq) (e' := eB) (kh := (K_law_k22_L3 square_here' many' both' wish_here' keys' best')) (g := (fun (here' : Sq) => T_law_k22_L3 square_here' many' both' wish_here' keys' best' here')) (it_itemsT (ev_tup (ea_cons (ev_var rfl) (ea_cons (ev_var rfl) ea_nil)) (lim_small (Nat.le_of_ble_eq_true rfl)))) (.skip (.keep (.keep (.skip (.skip (.keep (.keep (.skip (.skip (.keep (.keep (.skip (.skip (.skip (.skip (.skip (.skip .nil))))))))))))))))) fun here' hx => ⟨_, tg1, ex_pre (x_law_k22_L3 square_here' many' both' wish_here' keys' best' here' ((And.left h) here' hx)) (.skip (.keep (.keep (.skip (.skip (.keep (.keep (.skip (.skip (.keep (.keep (.skip (.keep (.skip (.skip (.skip (.skip .nil)))))))))))))))))⟩) (fun _ => rfl) (fun hb => (ex_pre (x_law_k22_L2_7 square_here' many' both' keys' best' ((And.right h) hb)) (.skip (.keep (.keep (.skip (.skip (.keep (.skip (.skip (.skip (.keep (.keep (.skip (.skip (.skip (.skip (.skip (.skip .nil))))))))))))))))))))
def T_law_k22_L2_5 (square_here' : Sq) (many' : Int) (both' : (List (List Int))) (wish_here' : (List (List Int))) (keys' : (Option (List Int))) (best' : Sq) : (Option Bool) := (T_law_k22_L2_6 square_here' many' both' wish_here' keys' best' (withD square_here' (rgI 0 many')))
def P_law_k22_L2_5 (square_here' : Sq) (many' : Int) (both' : (List (List Int))) (wish_here' : (List (List Int))) (keys' : (Option (List Int))) (best' : Sq) : Prop := ((((RgIn 0 many'))) ∧ (PWith square_here' (rgI 0 many'))) ∧ (P_law_k22_L2_6 square_here' many' both' wish_here' keys' best' (withD square_here' (rgI 0 many')))
theorem x_law_k22_L2_5 (square_here' : Sq) (many' : Int) (both' : (List (List Int))) (wish_here' : (List (List Int))) (keys' : (Option (List Int))) (best' : Sq) (h : P_law_k22_L2_5 square_here' many' both' wish_here' keys' best') : Tx [none, some (eSq square_here'), some (eI many'), none, none, some ((eT (eT eI)) both'), some ((eT (eT eI)) wish_here'), none, none, some ((eO (eT eI)) keys'), some (eSq best'), none, none, none, none, none, none] G_law_k22_L2_5 (opR (K_law_k22_L2 square_here' many' both') eB (T_law_k22_L2_5 square_here' many' both' wish_here' keys' best')) :=
  (ex_sq (ex_set (ev_nop (ea_cons (ev_var rfl) (ea_cons (ev_lrg (ev_var rfl) (And.left (And.left h))) ea_nil)) (t_with_diodes square_here' (rgI 0 many') (And.right (And.left h))))) (ex_pre (x_law_k22_L2_6 square_here' many' both' wish_here' keys' best' (withD square_here' (rgI 0 many')) (And.right h)) (.skip (.keep (.keep (.skip (.skip (.keep (.keep (.skip (.skip (.keep (.keep (.keep (.skip (.skip (.skip (.skip (.skip .nil)))))))))))))))))))
def T_law_k22_L2_4 (square_here' : Sq) (many' : Int) (both' : (List (List Int))) (wish_here' : (List (List Int))) (keys' : (Option (List Int))) (best' : Sq) : (Option Bool) := (if (decide (((oGet (T_fewest_diodes square_here' both')).length : Int) < ((oGet keys').length : Int))) then (some false) else (T_law_k22_L2_5 square_here' many' both' wish_here' keys' best'))
def P_law_k22_L2_4 (square_here' : Sq) (many' : Int) (both' : (List (List Int))) (wish_here' : (List (List Int))) (keys' : (Option (List Int))) (best' : Sq) : Prop := ((((P_fewest_diodes square_here' both')) ∧ ((T_fewest_diodes square_here' both').isSome = true)) ∧ ((keys'.isSome = true))) ∧ ((decide (((oGet (T_fewest_diodes square_here' both')).length : Int) < ((oGet keys').length : Int))) = false → P_law_k22_L2_5 square_here' many' both' wish_here' keys' best')
theorem x_law_k22_L2_4 (square_here' : Sq) (many' : Int) (both' : (List (List Int))) (wish_here' : (List (List Int))) (keys' : (Option (List Int))) (best' : Sq) (h : P_law_k22_L2_4 square_here' many' both' wish_here' keys' best') : Tx [none, some (eSq square_here'), some (eI many'), none, none, some ((eT (eT eI)) both'), some ((eT (eT eI)) wish_here'), none, none, some ((eO (eT eI)) keys'), some (eSq best'), none, none, none, none, none, none] G_law_k22_L2_4 (opR (K_law_k22_L2 square_here' many' both') eB (T_law_k22_L2_4 square_here' many' both' wish_here' keys' best')) :=
  (ex_guard (fun z => opR (K_law_k22_L2 square_here' many' both') eB z) (ev_tst (ev_bin (ev_nop (ea_cons (ev_oGet (e := (eT eI)) (ev_nop (ea_cons (ev_var rfl) (ea_cons (ev_var rfl) ea_nil)) (f_fewest_diodes square_here' both' (And.left (And.left (And.left h))))) (And.right (And.left (And.left h)))) ea_nil) (t_lenT _ eI)) (ev_nop (ea_cons (ev_oGet (e := (eT eI)) (ev_var rfl) (And.right (And.left h))) ea_nil) (t_lenT _ eI)) (lt_int _ _))) (fun hb => (ex_ret ev_cst)) rfl (fun hb => (ex_pre (x_law_k22_L2_5 square_here' many' both' wish_here' keys' best' ((And.right h) hb)) (.skip (.keep (.keep (.skip (.skip (.keep (.keep (.skip (.skip (.keep (.keep (.skip (.skip (.skip (.skip (.skip (.skip .nil))))))))))))))))))))
def T_law_k22_L2_3 (square_here' : Sq) (many' : Int) (both' : (List (List Int))) (wish_here' : (List (List Int))) (keys' : (Option (List Int))) (best' : Sq) : (Option Bool) := (if (!(decide ((decide (keys' = (some ([] : List Int)))) = (T_is_served (withD square_here' ([] : List Int)) wish_here')))) then (some false) else (T_law_k22_L2_4 square_here' many' both' wish_here' keys' best'))
def P_law_k22_L2_3 (square_here' : Sq) (many' : Int) (both' : (List (List Int))) (wish_here' : (List (List Int))) (keys' : (Option (List Int))) (best' : Sq) : Prop := (((((PWith square_here' ([] : List Int)))) ∧ (P_is_served (withD square_here' ([] : List Int)) wish_here'))) ∧ ((!(decide ((decide (keys' = (some ([] : List Int)))) = (T_is_served (withD square_here' ([] : List Int)) wish_here')))) = false → P_law_k22_L2_4 square_here' many' both' wish_here' keys' best')
theorem x_law_k22_L2_3 (square_here' : Sq) (many' : Int) (both' : (List (List Int))) (wish_here' : (List (List Int))) (keys' : (Option (List Int))) (best' : Sq) (h : P_law_k22_L2_3 square_here' many' both' wish_here' keys' best') : Tx [none, some (eSq square_here'), some (eI many'), none, none, some ((eT (eT eI)) both'), some ((eT (eT eI)) wish_here'), none, none, some ((eO (eT eI)) keys'), some (eSq best'), none, none, none, none, none, none] G_law_k22_L2_3 (opR (K_law_k22_L2 square_here' many' both') eB (T_law_k22_L2_3 square_here' many' both' wish_here' keys' best')) :=
  (ex_guard (fun z => opR (K_law_k22_L2 square_here' many' both') eB z) (ev_tst (ev_bin (ev_bin (ev_var rfl) (ev_tup (as := []) ea_nil lim_nil) (t_eq (e := (eO (eT eI))) (okO (okT okI) nonT) keys' (some ([] : List Int)))) (ev_nop (ea_cons (ev_nop (ea_cons (ev_var rfl) (ea_cons (ev_tup (as := []) ea_nil lim_nil) ea_nil)) (t_with_diodes square_here' ([] : List Int) (And.left (And.left h)))) (ea_cons (ev_var rfl) ea_nil)) (f_is_served (withD square_here' ([] : List Int)) wish_here' (And.right (And.left h)))) (t_ne (e := eB) okB (decide (keys' = (some ([] : List Int)))) (T_is_served (withD square_here' ([] : List Int)) wish_here')))) (fun hb => (ex_ret ev_cst)) rfl (fun hb => (ex_pre (x_law_k22_L2_4 square_here' many' both' wish_here' keys' best' ((And.right h) hb)) (.skip (.keep (.keep (.skip (.skip (.keep (.keep (.skip (.skip (.keep (.keep (.skip (.skip (.skip (.skip (.skip (.skip .nil))))))))))))))))))))
def T_law_k22_L2_2 (square_here' : Sq) (many' : Int) (both' : (List (List Int))) (wish_here' : (List (List Int))) (keys' : (Option (List Int))) (best' : Sq) : (Option Bool) := (if ((!(T_is_served best' wish_here')) || (!(decide ((T_needless_diodes best' wish_here') = ([] : List Int))))) then (some false) else (T_law_k22_L2_3 square_here' many' both' wish_here' keys' best'))
def P_law_k22_L2_2 (square_here' : Sq) (many' : Int) (both' : (List (List Int))) (wish_here' : (List (List Int))) (keys' : (Option (List Int))) (best' : Sq) : Prop := (((P_is_served best' wish_here')) ∧ ((!(T_is_served best' wish_here')) = false → ((P_needless_diodes best' wish_here')))) ∧ (((!(T_is_served best' wish_here')) || (!(decide ((T_needless_diodes best' wish_here') = ([] : List Int))))) = false → P_law_k22_L2_3 square_here' many' both' wish_here' keys' best')
theorem x_law_k22_L2_2 (square_here' : Sq) (many' : Int) (both' : (List (List Int))) (wish_here' : (List (List Int))) (keys' : (Option (List Int))) (best' : Sq) (h : P_law_k22_L2_2 square_here' many' both' wish_here' keys' best') : Tx [none, some (eSq square_here'), some (eI many'), none, none, some ((eT (eT eI)) both'), some ((eT (eT eI)) wish_here'), none, none, some ((eO (eT eI)) keys'), some (eSq best'), none, none, none, none, none, none] G_law_k22_L2_2 (opR (K_law_k22_L2 square_here' many' both') eB (T_law_k22_L2_2 square_here' many' both' wish_here' keys' best')) :=
  (ex_guard (fun z => opR (K_law_k22_L2 square_here' many' both') eB z) (ev_ort (ev_nott (ev_tst (ev_nop (ea_cons (ev_var rfl) (ea_cons (ev_var rfl) ea_nil)) (f_is_served best' wish_here' (And.left (And.left h)))))) fun u446 => (ev_tst (ev_bin (ev_nop (ea_cons (ev_var rfl) (ea_cons (ev_var rfl) ea_nil)) (f_needless_diodes best' wish_here' ((And.right (And.left h)) u446))) (ev_lst (as := []) ea_nil lim_nil) (t_ne (e := (eL eI)) (okL okI) (T_needless_diodes best' wish_here') ([] : List Int))))) (fun hb => (ex_ret ev_cst)) rfl (fun hb => (ex_pre (x_law_k22_L2_3 square_here' many' both' wish_here' keys' best' ((And.right h) hb)) (.skip (.keep (.keep (.skip (.skip (.keep (.keep (.skip (.skip (.keep (.keep (.skip (.skip (.skip (.skip (.skip (.skip .nil))))))))))))))))))))
def T_law_k22_L2_1 (square_here' : Sq) (many' : Int) (both' : (List (List Int))) (wish_here' : (List (List Int))) (keys' : (Option (List Int))) : (Option Bool) := (T_law_k22_L2_2 square_here' many' both' wish_here' keys' (withD square_here' (oGet keys')))
def P_law_k22_L2_1 (square_here' : Sq) (many' : Int) (both' : (List (List Int))) (wish_here' : (List (List Int))) (keys' : (Option (List Int))) : Prop := ((((keys'.isSome = true))) ∧ (PWith square_here' (oGet keys'))) ∧ (P_law_k22_L2_2 square_here' many' both' wish_here' keys' (withD square_here' (oGet keys')))
theorem x_law_k22_L2_1 (square_here' : Sq) (many' : Int) (both' : (List (List Int))) (wish_here' : (List (List Int))) (keys' : (Option (List Int))) (h : P_law_k22_L2_1 square_here' many' both' wish_here' keys') : Tx [none, some (eSq square_here'), some (eI many'), none, none, some ((eT (eT eI)) both'), some ((eT (eT eI)) wish_here'), none, none, some ((eO (eT eI)) keys'), none, none, none, none, none, none, none] G_law_k22_L2_1 (opR (K_law_k22_L2 square_here' many' both') eB (T_law_k22_L2_1 square_here' many' both' wish_here' keys')) :=
  (ex_sq (ex_set (ev_nop (ea_cons (ev_var rfl) (ea_cons (ev_oGet (e := (eT eI)) (ev_var rfl) (And.left (And.left h))) ea_nil)) (t_with_diodes square_here' (oGet keys') (And.right (And.left h))))) (ex_pre (x_law_k22_L2_2 square_here' many' both' wish_here' keys' (withD square_here' (oGet keys')) (And.right h)) (.skip (.keep (.keep (.skip (.skip (.keep (.keep (.skip (.skip (.keep (.keep (.skip (.skip (.skip (.skip (.skip (.skip .nil)))))))))))))))))))
def T_law_k22_L2 (square_here' : Sq) (many' : Int) (both' : (List (List Int))) (wish_here' : (List (List Int))) : (Option Bool) := (T_law_k22_L2_1 square_here' many' both' wish_here' (T_fewest_diodes square_here' wish_here'))
def P_law_k22_L2 (square_here' : Sq) (many' : Int) (both' : (List (List Int))) (wish_here' : (List (List Int))) : Prop := ((P_fewest_diodes square_here' wish_here')) ∧ (P_law_k22_L2_1 square_here' many' both' wish_here' (T_fewest_diodes square_here' wish_here'))
theorem x_law_k22_L2 (square_here' : Sq) (many' : Int) (both' : (List (List Int))) (wish_here' : (List (List Int))) (h : P_law_k22_L2 square_here' many' both' wish_here') : Tx [none, some (eSq square_here'), some (eI many'), none, none, some ((eT (eT eI)) both'), some ((eT (eT eI)) wish_here'), none, none, none, none, none, none, none, none, none, none] G_law_k22_L2 (opR (K_law_k22_L2 square_here' many' both') eB (T_law_k22_L2 square_here' many' both' wish_here')) :=
  (ex_sq (ex_set (ev_nop (ea_cons (ev_var rfl) (ea_cons (ev_var rfl) ea_nil)) (f_fewest_diodes square_here' wish_here' (And.left h)))) (ex_pre (x_law_k22_L2_1 square_here' many' both' wish_here' (T_fewest_diodes square_here' wish_here') (And.right h)) (.skip (.keep (.keep (.skip (.skip (.keep (.keep (.skip (.skip (.keep (.skip (.skip (.skip (.skip (.skip (.skip (.skip .nil)))))))))))))))))))
abbrev K_law_k22_L1 (square_here' : Sq) (many' : Int) (s' : Int) : Ks := [none, some (eSq square_here'), some (eI many'), none, none, none, none, some (eI s'), none, none, none, none, none, none, none, none, none]
def T_law_k22_L1_2 (square_here' : Sq) (many' : Int) (last' : Int) (here' : Int) : (Re Int Bool) := (Re.nx here')
theorem x_law_k22_L1_2 (square_here' : Sq) (many' : Int) (last' : Int) (here' : Int) : Tx [none, some (eSq square_here'), some (eI many'), none, none, none, none, some (eI last'), none, none, none, none, some (eI here'), none, none, none, none] G_law_k22_L1_2 (reR (K_law_k22_L1 square_here' many') eB (T_law_k22_L1_2 square_here' many' last' here')) :=
  (ex_sub (ex_set (ev_var rfl)) (.skip (.keep (.keep (.skip (.skip (.skip (.skip (.keep (.skip (.skip (.skip (.skip (.skip (.skip (.skip (.skip (.skip .nil))))))))))))))))))
def T_law_k22_L1_1 (square_here' : Sq) (many' : Int) (last' : Int) (here' : Int) : (Re Int Bool) := (if (decide (here' < last')) then (Re.rt false) else (T_law_k22_L1_2 square_here' many' last' here'))
theorem x_law_k22_L1_1 (square_here' : Sq) (many' : Int) (last' : Int) (here' : Int) : Tx [none, some (eSq square_here'), some (eI many'), none, none, none, none, some (eI last'), none, none, none, none, some (eI here'), none, none, none, none] G_law_k22_L1_1 (reR (K_law_k22_L1 square_here' many') eB (T_law_k22_L1_1 square_here' many' last' here')) :=
  (ex_guard (fun z => reR (K_law_k22_L1 square_here' many') eB z) (ev_tst (ev_bin (ev_var rfl) (ev_var rfl) (lt_int _ _))) (fun hb => (ex_ret ev_cst)) rfl (fun hb => (ex_pre (x_law_k22_L1_2 square_here' many' last' here') (.skip (.keep (.keep (.skip (.skip (.skip (.skip (.keep (.skip (.skip (.skip (.skip (.keep (.skip (.skip (.skip (.skip .nil))))))))))))))))))))
def T_law_k22_L1 (square_here' : Sq) (many' : Int) (last' : Int) (most' : Int) : (Re Int Bool) := (T_law_k22_L1_1 square_here' many' last' (T_rolls_by_diodes square_here' most'))
def P_law_k22_L1 (square_here' : Sq) (many' : Int) (last' : Int) (most' : Int) : Prop := ((P_rolls_by_diodes square_here' most'))
theorem x_law_k22_L1 (square_here' : Sq) (many' : Int) (last' : Int) (most' : Int) (h : P_law_k22_L1 square_here' many' last' most') : Tx [none, some (eSq square_here'), some (eI many'), none, none, none, none, some (eI last'), some (eI most'), none, none, none, none, none, none, none, none] G_law_k22_L1 (reR (K_law_k22_L1 square_here' many') eB (T_law_k22_L1 square_here' many' last' most')) :=
  (ex_sq (ex_set (ev_nop (ea_cons (ev_var rfl) (ea_cons (ev_var rfl) ea_nil)) (f_rolls_by_diodes square_here' most' h))) (ex_pre (x_law_k22_L1_1 square_here' many' last' (T_rolls_by_diodes square_here' most')) (.skip (.keep (.keep (.skip (.skip (.skip (.skip (.keep (.skip (.skip (.skip (.skip (.keep (.skip (.skip (.skip (.skip .nil)))))))))))))))))))
def T_law_k22_8 (square_here' : Sq) (many' : Int) (last' : Int) : Bool := ((decide (last' = many')) && (decide ((T_fewest_diodes square_here' ([] : List (List Int))) = (some ([] : List Int)))))
def P_law_k22_8 (square_here' : Sq) (many' : Int) (last' : Int) : Prop := ((decide (last' = many')) = true → ((P_fewest_diodes square_here' ([] : List (List Int)))))
theorem x_law_k22_8 (square_here' : Sq) (many' : Int) (last' : Int) (h : P_law_k22_8 square_here' many' last') : Tx [none, some (eSq square_here'), some (eI many'), none, none, none, none, some (eI last'), none, none, none, none, none, none, none, none, none] G_law_k22_8 (Rl.rt (eB (T_law_k22_8 square_here' many' last'))) :=
  (ex_ret (ev_andv (ev_bin (ev_var rfl) (ev_var rfl) (t_eq (e := eI) okI last' many')) fun u453 => (ev_bin (ev_nop (ea_cons (ev_var rfl) (ea_cons (ev_tup (as := []) ea_nil lim_nil) ea_nil)) (f_fewest_diodes square_here' ([] : List (List Int)) (h u453))) (ev_tup (as := []) ea_nil lim_nil) (t_eq (e := (eO (eT eI))) (okO (okT okI) nonT) (T_fewest_diodes square_here' ([] : List (List Int))) (some ([] : List Int))))))
def T_law_k22_7 (square_here' : Sq) (many' : Int) (last' : Int) : Bool := (reM (foldRe (fun (s' : Int) (most' : Int) => T_law_k22_L1 square_here' many' s' most') last' (rgI 0 (many' + (1 : Int)))) (fun t' => (T_law_k22_8 square_here' many' t')) (fun a => a))
def P_law_k22_7 (square_here' : Sq) (many' : Int) (last' : Int) : Prop := (((RgIn 0 (many' + (1 : Int)))) ∧ (∃ I : Nat → Int → Prop, I 0 last' ∧ ∀ (i' : Nat) (most' : Int), (rgI 0 (many' + (1 : Int)))[i']? = some most' → ∀ s', I i' s' → P_law_k22_L1 square_here' many' s' most' ∧ ∀ t', (fun (s' : Int) (most' : Int) => T_law_k22_L1 square_here' many' s' most') s' most' = Re.nx t' → I (i' + 1) t')) ∧ (∀ t', (foldRe (fun (s' : Int) (most' : Int) => T_law_k22_L1 square_here' many' s' most') last' (rgI 0 (many' + (1 : Int)))) = Re.nx t' → P_law_k22_8 square_here' many' t')
theorem x_law_k22_7 (square_here' : Sq) (many' : Int) (last' : Int) (h : P_law_k22_7 square_here' many' last') : Tx [none, some (eSq square_here'), some (eI many'), none, none, none, none, some (eI last'), none, none, none, none, none, none, none, none, none] G_law_k22_7 (Rl.rt (eB (T_law_k22_7 square_here' many' last'))) :=
  (ex_sq_re (t := fun t' => (T_law_k22_8 square_here' many' t')) (fun z => Rl.rt (eB z)) (fun a => a) (let ⟨I, h0, hb⟩ := (And.right (And.left h)); ex_re (e := eI) (e' := eB) (kh := (K_law_k22_L1 square_here' many')) (g := (fun (s' : Int) (most' : Int) => T_law_k22_L1 square_here' many' s' most')) (I := I) (it_rng1 (ea_cons (ev_bin (ev_var rfl) ev_cst (add_int _ _)) ea_nil) (And.left (And.left h))) (.skip (.keep (.keep (.skip (.skip (.skip (.skip (.keep (.skip (.skip (.skip (.skip (.skip (.skip (.skip (.skip (.skip .nil))))))))))))))))) h0 fun i' most' hx s' hs => ⟨_, tg1, ex_pre (x_law_k22_L1 square_here' many' s' most' (hb i' most' hx s' hs).1) (.skip (.keep (.keep (.skip (.skip (.skip (.skip (.keep (.keep (.skip (.skip (.skip (.skip (.skip (.skip (.skip (.skip .nil))))))))))))))))), (hb i' most' hx s' hs).2⟩) (fun _ => rfl) (fun t' hb => (ex_pre (x_law_k22_8 square_here' many' t' ((And.right h) t' hb)) (.skip (.keep (.keep (.skip (.skip (.skip (.skip (.keep (.skip (.skip (.skip (.skip (.skip (.skip (.skip (.skip (.skip .nil))))))))))))))))))))
def T_law_k22_6 (square_here' : Sq) (many' : Int) : Bool := (T_law_k22_7 square_here' many' (0 : Int))
def P_law_k22_6 (square_here' : Sq) (many' : Int) : Prop := (P_law_k22_7 square_here' many' (0 : Int))
theorem x_law_k22_6 (square_here' : Sq) (many' : Int) (h : P_law_k22_6 square_here' many') : Tx [none, some (eSq square_here'), some (eI many'), none, none, none, none, none, none, none, none, none, none, none, none, none, none] G_law_k22_6 (Rl.rt (eB (T_law_k22_6 square_here' many'))) :=
  (ex_sq (ex_set ev_cst) (ex_pre (x_law_k22_7 square_here' many' (0 : Int) h) (.skip (.keep (.keep (.skip (.skip (.skip (.skip (.keep (.skip (.skip (.skip (.skip (.skip (.skip (.skip (.skip (.skip .nil)))))))))))))))))))
def T_law_k22_5 (square_here' : Sq) (many' : Int) (one' : (List (List Int))) (other' : (List (List Int))) (both' : (List (List Int))) : Bool := (opM ([one', other', both'].findSome? (fun (wish_here' : (List (List Int))) => T_law_k22_L2 square_here' many' both' wish_here')) (T_law_k22_6 square_here' many') (fun a => a))
def P_law_k22_5 (square_here' : Sq) (many' : Int) (one' : (List (List Int))) (other' : (List (List Int))) (both' : (List (List Int))) : Prop := ((∀ wish_here' ∈ [one', other', both'], P_law_k22_L2 square_here' many' both' wish_here')) ∧ (([one', other', both'].findSome? (fun (wish_here' : (List (List Int))) => T_law_k22_L2 square_here' many' both' wish_here')) = none → P_law_k22_6 square_here' many')
theorem x_law_k22_5 (square_here' : Sq) (many' : Int) (one' : (List (List Int))) (other' : (List (List Int))) (both' : (List (List Int))) (h : P_law_k22_5 square_here' many' one' other' both') : Tx [none, some (eSq square_here'), some (eI many'), some ((eT (eT eI)) one'), some ((eT (eT eI)) other'), some ((eT (eT eI)) both'), none, none, none, none, none, none, none, none, none, none, none] G_law_k22_5 (Rl.rt (eB (T_law_k22_5 square_here' many' one' other' both'))) :=
  (ex_sq_op (fun z => Rl.rt (eB z)) (fun a => a) (ex_find (e := (eT (eT eI))) (e' := eB) (kh := (K_law_k22_L2 square_here' many' both')) (g := (fun (wish_here' : (List (List Int))) => T_law_k22_L2 square_here' many' both' wish_here')) (it_itemsT (ev_tup (ea_cons (ev_var rfl) (ea_cons (ev_var rfl) (ea_cons (ev_var rfl) ea_nil))) (lim_small (Nat.le_of_ble_eq_true rfl)))) (.skip (.keep (.keep (.skip (.skip (.keep (.skip (.skip (.skip (.skip (.skip (.skip (.skip (.skip (.skip (.skip (.skip .nil))))))))))))))))) fun wish_here' hx => ⟨_, tg1, ex_pre (x_law_k22_L2 square_here' many' both' wish_here' ((And.left h) wish_here' hx)) (.skip (.keep (.keep (.skip (.skip (.keep (.keep (.skip (.skip (.skip (.skip (.skip (.skip (.skip (.skip (.skip (.skip .nil)))))))))))))))))⟩) (fun _ => rfl) (fun hb => (ex_pre (x_law_k22_6 square_here' many' ((And.right h) hb)) (.skip (.keep (.keep (.skip (.skip (.skip (.skip (.skip (.skip (.skip (.skip (.skip (.skip (.skip (.skip (.skip (.skip .nil))))))))))))))))))))
def T_law_k22_4 (square_here' : Sq) (many' : Int) (one' : (List (List Int))) (other' : (List (List Int))) : Bool := (T_law_k22_5 square_here' many' one' other' (ssE (eT eI) (one' ++ other')))
def P_law_k22_4 (square_here' : Sq) (many' : Int) (one' : (List (List Int))) (other' : (List (List Int))) : Prop := (((one'.length + other'.length ≤ LIM)) ∧ ((one' ++ other').length < 64)) ∧ (P_law_k22_5 square_here' many' one' other' (ssE (eT eI) (one' ++ other')))
theorem x_law_k22_4 (square_here' : Sq) (many' : Int) (one' : (List (List Int))) (other' : (List (List Int))) (h : P_law_k22_4 square_here' many' one' other') : Tx [none, some (eSq square_here'), some (eI many'), some ((eT (eT eI)) one'), some ((eT (eT eI)) other'), none, none, none, none, none, none, none, none, none, none, none, none] G_law_k22_4 (Rl.rt (eB (T_law_k22_4 square_here' many' one' other'))) :=
  (ex_sq (ex_set (ev_nop (ea_cons (ev_un (ev_bin (ev_var rfl) (ev_var rfl) (t_addT (e := (eT eI)) (a := one') (b := other') (And.left (And.left h)))) (t_ssAT (e := (eT eI)) stK (okT okI) (And.right (And.left h)))) ea_nil) rfl)) (ex_pre (x_law_k22_5 square_here' many' one' other' (ssE (eT eI) (one' ++ other')) (And.right h)) (.skip (.keep (.keep (.keep (.keep (.keep (.skip (.skip (.skip (.skip (.skip (.skip (.skip (.skip (.skip (.skip (.skip .nil)))))))))))))))))))
def T_law_k22_3 (script' : Scr) (square_here' : Sq) (many' : Int) (one' : (List (List Int))) : Bool := (T_law_k22_4 square_here' many' one' (T__law_wish script' (140 : Int) many' (4 : Int)))
def P_law_k22_3 (script' : Scr) (square_here' : Sq) (many' : Int) (one' : (List (List Int))) : Prop := ((P__law_wish script' (140 : Int) many' (4 : Int))) ∧ (P_law_k22_4 square_here' many' one' (T__law_wish script' (140 : Int) many' (4 : Int)))
theorem x_law_k22_3 (script' : Scr) (square_here' : Sq) (many' : Int) (one' : (List (List Int))) (h : P_law_k22_3 script' square_here' many' one') : Tx [some (eC' script'), some (eSq square_here'), some (eI many'), some ((eT (eT eI)) one'), none, none, none, none, none, none, none, none, none, none, none, none, none] G_law_k22_3 (Rl.rt (eB (T_law_k22_3 script' square_here' many' one'))) :=
  (ex_sq (ex_set (ev_nop (ea_cons (ev_var rfl) (ea_cons ev_cst (ea_cons (ev_var rfl) (ea_cons ev_cst ea_nil)))) (f__law_wish script' (140 : Int) many' (4 : Int) (And.left h)))) (ex_pre (x_law_k22_4 square_here' many' one' (T__law_wish script' (140 : Int) many' (4 : Int)) (And.right h)) (.skip (.keep (.keep (.keep (.keep (.skip (.skip (.skip (.skip (.skip (.skip (.skip (.skip (.skip (.skip (.skip (.skip .nil)))))))))))))))))))
def T_law_k22_2 (script' : Scr) (square_here' : Sq) (many' : Int) : Bool := (T_law_k22_3 script' square_here' many' (T__law_wish script' (80 : Int) many' (4 : Int)))
def P_law_k22_2 (script' : Scr) (square_here' : Sq) (many' : Int) : Prop := ((P__law_wish script' (80 : Int) many' (4 : Int))) ∧ (P_law_k22_3 script' square_here' many' (T__law_wish script' (80 : Int) many' (4 : Int)))
theorem x_law_k22_2 (script' : Scr) (square_here' : Sq) (many' : Int) (h : P_law_k22_2 script' square_here' many') : Tx [some (eC' script'), some (eSq square_here'), some (eI many'), none, none, none, none, none, none, none, none, none, none, none, none, none, none] G_law_k22_2 (Rl.rt (eB (T_law_k22_2 script' square_here' many'))) :=
  (ex_sq (ex_set (ev_nop (ea_cons (ev_var rfl) (ea_cons ev_cst (ea_cons (ev_var rfl) (ea_cons ev_cst ea_nil)))) (f__law_wish script' (80 : Int) many' (4 : Int) (And.left h)))) (ex_pre (x_law_k22_3 script' square_here' many' (T__law_wish script' (80 : Int) many' (4 : Int)) (And.right h)) (.keep (.keep (.keep (.keep (.skip (.skip (.skip (.skip (.skip (.skip (.skip (.skip (.skip (.skip (.skip (.skip (.skip .nil)))))))))))))))))))
def T_law_k22_1 (script' : Scr) (square_here' : Sq) : Bool := (T_law_k22_2 script' square_here' (square_here'.1.length : Int))
def P_law_k22_1 (script' : Scr) (square_here' : Sq) : Prop := (P_law_k22_2 script' square_here' (square_here'.1.length : Int))
theorem x_law_k22_1 (script' : Scr) (square_here' : Sq) (h : P_law_k22_1 script' square_here') : Tx [some (eC' script'), some (eSq square_here'), none, none, none, none, none, none, none, none, none, none, none, none, none, none, none] G_law_k22_1 (Rl.rt (eB (T_law_k22_1 script' square_here'))) :=
  (ex_sq (ex_set (ev_nop (ea_cons (ev_bin (ev_var rfl) ev_cst t_idxP0) ea_nil) (t_lenT _ (eP eI eI)))) (ex_pre (x_law_k22_2 script' square_here' (square_here'.1.length : Int) h) (.keep (.keep (.keep (.skip (.skip (.skip (.skip (.skip (.skip (.skip (.skip (.skip (.skip (.skip (.skip (.skip (.skip .nil)))))))))))))))))))
def T_law_k22 (script' : Scr) : Bool := (T_law_k22_1 script' (T__law_square script' (0 : Int) (4 : Int)))
def P_law_k22 (script' : Scr) : Prop := ((P__law_square script' (0 : Int) (4 : Int))) ∧ (P_law_k22_1 script' (T__law_square script' (0 : Int) (4 : Int)))
theorem x_law_k22 (script' : Scr) (h : P_law_k22 script') : Tx [some (eC' script'), none, none, none, none, none, none, none, none, none, none, none, none, none, none, none, none] G_law_k22 (Rl.rt (eB (T_law_k22 script'))) :=
  (ex_sq (ex_set (ev_nop (ea_cons (ev_var rfl) (ea_cons ev_cst (ea_cons ev_cst ea_nil))) (f__law_square script' (0 : Int) (4 : Int) (And.left h)))) (ex_pre (x_law_k22_1 script' (T__law_square script' (0 : Int) (4 : Int)) (And.right h)) (.keep (.keep (.skip (.skip (.skip (.skip (.skip (.skip (.skip (.skip (.skip (.skip (.skip (.skip (.skip (.skip (.skip .nil)))))))))))))))))))
theorem f_law_k22 (script' : Scr) (h : P_law_k22 script') : F_law_k22 [eC' script'] = pure (eB (T_law_k22 script')) :=
  fn_of rfl rfl (ex_pre (x_law_k22 script' h) (.keep (.skip (.skip (.skip (.skip (.skip (.skip (.skip (.skip (.skip (.skip (.skip (.skip (.skip (.skip (.skip (.skip .nil))))))))))))))))))
end DL

/-! MC3: diodes: the fewest, the needless, what is rolled by them. -/
namespace DL
open PySem PySem.Spec PyProof.Rows L2

def Srv (q : Sq) (w : List (List Int)) : Prop := ∀ k ∈ w, Sv q k
noncomputable instance (q : Sq) (w : List (List Int)) : Decidable (Srv q w) := Classical.propDecidable _
section
variable {q : Sq} {w : List (List Int)}
theorem t_srv (g : Good q) (hk : ∀ k ∈ w, Keys q.1.length k) : T_serves q w = decide (Srv q w) := by
  rw [t_servesK g hk, Bool.eq_iff_iff, List.all_eq_true, decide_eq_true_iff]
  simp [Srv]
theorem t_servedW (g : Good q) (h : WishOk q.1.length w) : T_is_served q w = decide (Srv q w) := t_srv g h.keys
theorem Srv.diodes {d : List Int} (hs : ∀ k ∈ q.2, k ∈ d) (hk : ∀ k ∈ w, Keys q.1.length k) (h : Srv q w) : Srv (withD q d) w := fun k hk2 => sv_diodes hs (hk k hk2) (h k hk2)
theorem srv_full (g : Good q) (hk : ∀ k ∈ w, Keys q.1.length k) : Srv (withD q (rgI 0 q.1.length)) w := fun k hk2 => sv_full g (hk k hk2)
/-- the fewest keys at which diodes serve, the least of such -/
structure IsFew (q : Sq) (w : List (List Int)) (k : List Int) : Prop where
  ks : Keys q.1.length k
  srv : Srv (withD q k) w
  few : ∀ k2, Keys q.1.length k2 → Srv (withD q k2) w → k.length ≤ k2.length
  lst : ∀ k2, Keys q.1.length k2 → Srv (withD q k2) w → k2.length = k.length → klt k2 k = false
theorem IsFew.uniq {a b : List Int} (ha : IsFew q w a) (hb : IsFew q w b) : a = b := by
  have h1 := ha.few b hb.ks hb.srv
  have h2 := hb.few a ha.ks ha.srv
  refine Classical.byContradiction fun c => ?_
  rcases klt_total c with h | h
  · rw [hb.lst a ha.ks ha.srv (by omega)] at h; cases h
  · rw [ha.lst b hb.ks hb.srv (by omega)] at h; cases h
theorem opM_id {α : Type} (o : Option α) : opM o none (fun a => some a) = o := by cases o <;> rfl
theorem few_ok (g : Good q) (h : WishOk q.1.length w) : P_fewest_diodes q w ∧ ∃ k, T_fewest_diodes q w = some k ∧ IsFew q w k := by
  have hl := g.len
  have hsz : ∀ size ∈ rgI 0 ((q.1.length : Int) + 1), P_sets_of q.1.length size ∧ SzS q.1.length size.toNat (T_sets_of q.1.length size) := fun size hs => by
    rw [mem_rgI] at hs
    exact sets_of_ok (by omega) (by omega)
  constructor
  · unfold P_fewest_diodes P_fewest_diodes_1 P_fewest_diodes_2
    refine ⟨psq g, p_need_wish hl.2 h, rgIn_of (by omega), fun size hs => ?_⟩
    unfold P_fewest_diodes_L1 P_fewest_diodes_L2
    obtain ⟨h1, h2⟩ := hsz size hs
    exact ⟨h1, fun k hk => p_servesK (g.withD ((h2.mem k).mp hk).1) h.keys (by have := h.len; omega)⟩
  · -- inner: by a set's size
    have hin : ∀ size ∈ rgI 0 ((q.1.length : Int) + 1), T_fewest_diodes_L1 q w size = ((T_sets_of q.1.length size).find? fun k => decide (Srv (withD q k) w)).map some := fun size hs => by
      obtain ⟨_, h2⟩ := hsz size hs
      unfold T_fewest_diodes_L1 T_fewest_diodes_L2
      rw [opM_id]
      have : ∀ l : List (List Int), (∀ k ∈ l, Keys q.1.length k) → l.findSome? (fun keys' => if T_serves (q.1, keys') w = true then some (some keys') else none) = (l.find? fun k => decide (Srv (withD q k) w)).map some := by
        intro l
        induction l with
        | nil => intro _; rfl
        | cons x r ih =>
          intro hx
          have e : T_serves (q.1, x) w = decide (Srv (withD q x) w) := t_srv (q := withD q x) (g.withD (hx x List.mem_cons_self)) h.keys
          rw [List.findSome?_cons, List.find?_cons, e]
          by_cases c : Srv (withD q x) w
          · rw [decide_eq_true c]; rfl
          · rw [decide_eq_false c]
            exact ih fun k hk => hx k (List.mem_cons_of_mem _ hk)
      exact this _ fun k hk => ((h2.mem k).mp hk).1
    have key : ∀ (xs : List Int), xs.Pairwise (· < ·) → (∀ x ∈ xs, x ∈ rgI 0 ((q.1.length : Int) + 1)) → (∀ k, Keys q.1.length k → Srv (withD q k) w → ∃ x ∈ xs, ((k.length : Int) = x)) → ∃ k, xs.findSome? (fun size' => T_fewest_diodes_L1 q w size') = some (some k) ∧ IsFew q w k := by
      intro xs
      induction xs with
      | nil =>
        intro _ _ hall
        obtain ⟨x, hx, _⟩ := hall _ (keys_rg _) (srv_full g h.keys)
        cases hx
      | cons x r ih =>
        intro hp hm hall
        rw [List.pairwise_cons] at hp
        rw [List.findSome?_cons, hin x (hm x List.mem_cons_self)]
        obtain ⟨_, h2⟩ := hsz x (hm x List.mem_cons_self)
        have hx0 := mem_rgI.mp (hm x List.mem_cons_self)
        cases q2 : (T_sets_of q.1.length x).find? fun k => decide (Srv (withD q k) w) with
        | some k =>
          obtain ⟨e1, as, bs, e2, e3⟩ := List.find?_eq_some_iff_append.mp q2
          rw [decide_eq_true_iff] at e1
          have hk := (h2.mem k).mp (by rw [e2]; simp)
          refine ⟨k, rfl, hk.1, e1, fun k2 hk2 s2 => ?_, fun k2 hk2 s2 hl2 => ?_⟩
          · obtain ⟨y, hy, e⟩ := hall k2 hk2 s2
            rcases List.mem_cons.mp hy with rfl | hy
            · omega
            · have := hp.1 y hy
              omega
          · have hk3 := (h2.mem k2).mpr ⟨hk2, by omega⟩
            rw [e2] at hk3
            have hr := h2.ris
            rw [e2] at hr
            have hr' := List.pairwise_append.mp hr
            rcases List.mem_append.mp hk3 with z | z
            · have := e3 k2 z
              simp [s2] at this
            · rcases List.mem_cons.mp z with rfl | z
              · exact klt_irrefl _
              · exact klt_asym ((List.pairwise_cons.mp hr'.2.1).1 k2 z)
        | none =>
          have hn := List.find?_eq_none.mp q2
          refine ih hp.2 (fun y hy => hm y (List.mem_cons_of_mem _ hy)) fun k hk s => ?_
          obtain ⟨y, hy, e⟩ := hall k hk s
          rcases List.mem_cons.mp hy with rfl | hy
          · have := hn k ((h2.mem k).mpr ⟨hk, by omega⟩)
            simp [s] at this
          · exact ⟨y, hy, e⟩
    obtain ⟨k, e, hf⟩ := key (rgI 0 ((q.1.length : Int) + 1)) (rgI_pw _ _) (fun _ hx => hx) fun k hk _ => ⟨k.length, mem_rgI.mpr (by have := pw_len hk; omega), rfl⟩
    refine ⟨k, ?_, hf⟩
    show opM ((rgI 0 ((q.1.length : Int) + 1)).findSome? fun size' => T_fewest_diodes_L1 q w size') T_fewest_diodes_3 (fun a => a) = some k
    rw [e]; rfl
/-- those that can go -/
noncomputable def needL (q : Sq) (w : List (List Int)) : List Int := if Srv q w then q.2.filter fun k => decide (Srv (withD q (q.2.filter fun j => !decide (j = k))) w) else []
theorem keys_without {n : Int} {d : List Int} (h : Keys n d) (k : Int) : Keys n (d.filter fun j => !decide (j = k)) := h.filter _
theorem needless_ok (g : Good q) (h : WishOk q.1.length w) : P_needless_diodes q w ∧ T_needless_diodes q w = needL q w := by
  have hl := g.len
  have hd := keys_len6 g.di hl.2
  have ps : ∀ d, Keys q.1.length d → P_serves (withD q d) w := fun d hk => p_servesK (g.withD hk) h.keys (by have := h.len; omega)
  constructor
  · unfold P_needless_diodes P_needless_diodes_1 P_needless_diodes_2 P_needless_diodes_3 P_needless_diodes_4
    refine ⟨psq g, p_need_wish hl.2 h, p_servesK g h.keys (by have := h.len; omega), fun _ => ⟨⟨lim_of (by omega), fun k _ => lim_of (by omega)⟩, lim_of (by rw [List.length_map]; omega), fun z hz => ?_⟩⟩
    obtain ⟨k, _, rfl⟩ := List.mem_map.mp hz
    exact ps _ (keys_without g.di k)
  · have e : T_needless_diodes q w = if (!(T_serves q w)) = true then [] else ((q.2.map (fun (key' : Int) => (key', (q.2.filter (fun (one' : Int) => (!(decide (one' = key')))))))).filter (fun (z : (Int × (List Int))) => (T_serves (q.1, z.2) w))).map (fun (z : (Int × (List Int))) => z.1) := rfl
    rw [e, t_srv g h.keys]
    unfold needL
    by_cases c : Srv q w
    · rw [decide_eq_true c, if_neg (by simp), if_pos c, List.filter_map, List.map_map]
      refine ((List.map_congr_left fun _ _ => rfl).trans (List.map_id _)).trans ?_
      refine List.filter_congr fun k _ => ?_
      exact t_srv (q := withD q _) (g.withD (keys_without g.di k)) h.keys
    · rw [decide_eq_false c, if_pos (by rfl), if_neg c]
theorem mem_need {k : Int} : k ∈ needL q w ↔ Srv q w ∧ k ∈ q.2 ∧ Srv (withD q (q.2.filter fun j => !decide (j = k))) w := by
  unfold needL
  by_cases c : Srv q w
  · rw [if_pos c, List.mem_filter, decide_eq_true_iff]
    exact ⟨fun h => ⟨c, h⟩, fun h => h.2⟩
  · rw [if_neg c]
    exact ⟨fun h => (by cases h), fun h => absurd h.1 c⟩
theorem without_len {d : List Int} {k : Int} (h : k ∈ d) : (d.filter fun j => !decide (j = k)).length < d.length := by
  rcases Nat.lt_or_ge (d.filter fun j => !decide (j = k)).length d.length with c | c
  · exact c
  · have : d.filter (fun j => !decide (j = k)) = d := List.filter_sublist.eq_of_length_le c
    have h2 := List.filter_eq_self.mp this k h
    simp at h2
/-- of the fewest none is needless -/
theorem IsFew.need {k : List Int} (h : IsFew q w k) : needL (withD q k) w = [] := by
  refine List.eq_nil_iff_forall_not_mem.mpr fun j hj => ?_
  obtain ⟨_, h2, h3⟩ := mem_need.mp hj
  have := h.few _ (keys_without h.ks j) h3
  have := without_len h2
  have h2' : j ∈ k := h2
  have := without_len h2'
  omega
/-- a diode that makes a wish served more wants -/
theorem IsFew.mono {w2 : List (List Int)} {a b : List Int} (ha : IsFew q w a) (hb : IsFew q w2 b) (hs : ∀ k ∈ w, k ∈ w2) : a.length ≤ b.length := ha.few b hb.ks fun k hk => hb.srv k (hs k hk)
end
/-! ### rolled by diodes -/
section
variable {q : Sq}
theorem upto_ok {n size : Int} (hn : 0 ≤ n ∧ n ≤ 6) (hs : 0 ≤ size ∧ size ≤ 6) : P_sets_upto n size ∧ (∀ z, z ∈ T_sets_upto n size ↔ Keys n z ∧ (z.length : Int) ≤ size) ∧ (T_sets_upto n size).length ≤ 350000 := by
  have hsz : ∀ (i : Nat) (x : Int), (rgI 0 (size + 1))[i]? = some x → x = i ∧ P_sets_of n x ∧ SzS n i (T_sets_of n x) ∧ (T_sets_of n x).length ≤ 50000 := fun i x hx => by
    obtain ⟨e1, e2⟩ := rgI_get hx
    rw [Int.zero_add] at e1
    subst e1
    obtain ⟨h1, h2⟩ := sets_of_ok hn (size := (i : Int)) (by omega)
    refine ⟨rfl, h1, ?_, sz_len hn (by omega)⟩
    have : ((i : Int)).toNat = i := by omega
    rw [this] at h2
    exact h2
  have hf := foldl_idx (f := fun (s' : List (List Int)) (one' : Int) => T_sets_upto_L1 n s' one') (fun i l => (∀ z, z ∈ l ↔ Keys n z ∧ z.length < i) ∧ l.length ≤ 50000 * i) (rgI 0 (size + 1)) 0 [] ⟨by simp, by simp⟩ fun i x hx s hs2 => by
    rw [Nat.zero_add] at hs2 ⊢
    obtain ⟨rfl, _, h3, h4⟩ := hsz i x hx
    refine ⟨fun z => ?_, ?_⟩
    · unfold T_sets_upto_L1
      rw [List.mem_append, hs2.1, h3.mem]
      constructor
      · rintro (⟨a, b⟩ | ⟨a, b⟩)
        · exact ⟨a, by omega⟩
        · exact ⟨a, by omega⟩
      · rintro ⟨a, b⟩
        by_cases c : z.length < i
        · exact .inl ⟨a, c⟩
        · exact .inr ⟨a, by omega⟩
    · unfold T_sets_upto_L1
      rw [List.length_append]
      have := hs2.2
      omega
  rw [rgI_length, Nat.zero_add] at hf
  refine ⟨?_, fun z => ?_, ?_⟩
  · unfold P_sets_upto P_sets_upto_1
    refine ⟨rgIn_of (by omega), fun i l => l.length ≤ 50000 * i, by simp, fun i x hx s hs2 => ?_⟩
    obtain ⟨e, h2, h3, h4⟩ := hsz i x hx
    have hi := rgI_get hx
    unfold P_sets_upto_L1 T_sets_upto_L1
    refine ⟨⟨h2, by rw [LIM_val]; omega⟩, ?_⟩
    show (s ++ T_sets_of n x).length ≤ 50000 * (i + 1)
    rw [List.length_append]
    omega
  · have : T_sets_upto n size = (rgI 0 (size + 1)).foldl (fun (s' : List (List Int)) (one' : Int) => T_sets_upto_L1 n s' one') [] := rfl
    rw [this, hf.1]
    refine and_congr_right fun _ => ?_
    omega
  · have : T_sets_upto n size = (rgI 0 (size + 1)).foldl (fun (s' : List (List Int)) (one' : Int) => T_sets_upto_L1 n s' one') [] := rfl
    rw [this]
    have := hf.2
    omega
theorem maxI (a b : Int) : max a b = if a ≤ b then b else a := rfl
/-- one set of diodes tried -/
theorem roll_one (g : Good q) {d : List Int} (hd : Keys q.1.length d) {best : Int} (hb : 0 ≤ best ∧ best ≤ q.1.length) : P_rolls_by_diodes_L2 q q.1.length best d ∧ T_rolls_by_diodes_L2 q q.1.length best d = max best (T_safe_rolls (withD q d)) := by
  have hl := g.len
  have gd' := g.withD hd
  have hs := safe_is gd'
  have hsb : 0 ≤ T_safe_rolls (withD q d) ∧ T_safe_rolls (withD q d) ≤ (q.1.length : Int) := hs.bd
  have hcond : ∀ s : Int, 0 ≤ s → s < q.1.length → (T_serves__2 (q.1, d) (T_sets_upto q.1.length (s + 1)) = true ↔ s < T_safe_rolls (withD q d)) := fun s h0 h1 => by
    obtain ⟨_, hm, _⟩ := upto_ok (n := (q.1.length : Int)) (size := s + 1) (by omega) (by omega)
    have := serves2_iff (q := withD q d) gd' (w := T_sets_upto q.1.length (s + 1)) fun k hk => ((hm k).mp hk).1
    rw [show T_serves__2 (q.1, d) (T_sets_upto q.1.length (s + 1)) = T_serves__2 (withD q d) (T_sets_upto q.1.length (s + 1)) from rfl, this]
    constructor
    · intro h
      refine Classical.byContradiction fun c => hs.hi (show _ < (q.1.length : Int) by omega) fun k hk e => ?_
      exact h k ((hm k).mpr ⟨hk, by omega⟩)
    · intro h k hk
      obtain ⟨h2, h3⟩ := (hm k).mp hk
      exact hs.lo (k.length : Int) (by omega) k h2 rfl
  have key := whl_inv (c := fun (s' : Int) => ((decide (s' < (q.1.length : Int))) && (T_serves__2 (q.1, d) (T_sets_upto q.1.length (s' + (1 : Int)))))) (st := fun (s' : Int) => T_rolls_by_diodes_L3 q q.1.length s' d)
    (fun s => best ≤ s ∧ s ≤ q.1.length ∧ s ≤ max best (T_safe_rolls (withD q d))) (fun s => (q.1.length - s).toNat) (fun s hs2 hc => ?_) FUEL best ⟨Int.le_refl _, hb.2, by omega⟩ (by unfold FUEL; omega)
  · obtain ⟨h1, h2, h3⟩ := key
    constructor
    · unfold P_rolls_by_diodes_L2
      refine ⟨h1, fun s => 0 ≤ s ∧ s ≤ q.1.length, hb, fun s hs2 => ⟨fun hc => ?_, fun hc => ?_⟩⟩
      · rw [decide_eq_true_iff] at hc
        obtain ⟨u1, u2, u3⟩ := upto_ok (n := (q.1.length : Int)) (size := s + 1) (by omega) (by omega)
        have pk : P_serves__2 (withD q d) (T_sets_upto q.1.length (s + 1)) := ⟨by rw [LIM_val]; omega, fun k hk => p_seenK gd' ((u2 k).mp hk).1⟩
        exact ⟨u1, pk⟩
      · rw [Bool.and_eq_true, decide_eq_true_iff] at hc
        show 0 ≤ s + 1 ∧ s + 1 ≤ (q.1.length : Int)
        omega
    · show whl _ _ FUEL best = _
      generalize whl (fun (s' : Int) => ((decide (s' < (q.1.length : Int))) && (T_serves__2 (q.1, d) (T_sets_upto q.1.length (s' + (1 : Int)))))) (fun (s' : Int) => T_rolls_by_diodes_L3 q q.1.length s' d) FUEL best = r at *
      have h4 : r < q.1.length → ¬ r < T_safe_rolls (withD q d) := fun hr hlt => by
        have := (hcond r (by omega) hr).mpr hlt
        rw [this, Bool.and_true, decide_eq_false_iff_not] at h3
        exact h3 hr
      omega
  · rw [Bool.and_eq_true, decide_eq_true_iff] at hc
    have h4 := (hcond s (by omega) hc.1).mp hc.2
    refine ⟨⟨show best ≤ s + 1 by omega, show s + 1 ≤ (q.1.length : Int) by omega, show s + 1 ≤ max best (T_safe_rolls (withD q d)) by omega⟩, ?_⟩
    show (q.1.length - (s + 1) : Int).toNat < (q.1.length - s : Int).toNat
    omega
/-- the most that is rolled by so many diodes -/
structure RollsIs (q : Sq) (m r : Int) : Prop where
  bd : 0 ≤ r ∧ r ≤ q.1.length
  ex : r = 0 ∨ ∃ d, Keys q.1.length d ∧ (d.length : Int) ≤ m ∧ T_safe_rolls (withD q d) = r
  all : ∀ d, Keys q.1.length d → (d.length : Int) ≤ m → T_safe_rolls (withD q d) ≤ r
theorem rolls_ok (g : Good q) {m : Int} (hm : 0 ≤ m ∧ m ≤ 6) : P_rolls_by_diodes q m ∧ RollsIs q m (T_rolls_by_diodes q m) := by
  have hl := g.len
  have hmin : min2 m q.1.length ≤ m ∧ min2 m q.1.length ≤ q.1.length ∧ (min2 m q.1.length = m ∨ min2 m q.1.length = q.1.length) := by unfold min2; split <;> omega
  -- one size
  have one : ∀ (i : Nat) (x best : Int), (rgI 0 (min2 m q.1.length + 1))[i]? = some x → 0 ≤ best ∧ best ≤ q.1.length → P_rolls_by_diodes_L1 q q.1.length best x ∧
      let r := T_rolls_by_diodes_L1 q q.1.length best x
      (0 ≤ r ∧ r ≤ q.1.length) ∧ best ≤ r ∧ (r = best ∨ ∃ d, Keys q.1.length d ∧ d.length = i ∧ T_safe_rolls (withD q d) = r) ∧ ∀ d, Keys q.1.length d → d.length = i → T_safe_rolls (withD q d) ≤ r := fun i x best hx hb => by
    obtain ⟨e1, e2⟩ := rgI_get hx
    rw [Int.zero_add] at e1
    subst e1
    obtain ⟨h1, h2⟩ := sets_of_ok (n := (q.1.length : Int)) (size := (i : Int)) (by omega) (by omega)
    have h2' : SzS q.1.length i (T_sets_of q.1.length i) := by
      have : ((i : Int)).toNat = i := by omega
      rw [this] at h2; exact h2
    have hstep : ∀ (l : List (List Int)) (b : Int), (∀ k ∈ l, Keys q.1.length k) → 0 ≤ b ∧ b ≤ q.1.length →
        let r := l.foldl (fun (s' : Int) (keys' : List Int) => T_rolls_by_diodes_L2 q q.1.length s' keys') b
        (0 ≤ r ∧ r ≤ q.1.length) ∧ b ≤ r ∧ (r = b ∨ ∃ d ∈ l, T_safe_rolls (withD q d) = r) ∧ ∀ d ∈ l, T_safe_rolls (withD q d) ≤ r := by
      intro l
      induction l with
      | nil => intro b _ hb; exact ⟨hb, Int.le_refl _, .inl rfl, fun _ h => by cases h⟩
      | cons y t ih =>
        intro b hk hb
        have e := (roll_one g (hk y List.mem_cons_self) hb).2
        have hsb := (safe_is (g.withD (hk y List.mem_cons_self))).bd
        have hsb' : 0 ≤ T_safe_rolls (withD q y) ∧ T_safe_rolls (withD q y) ≤ (q.1.length : Int) := hsb
        obtain ⟨a1, a2, a3, a4⟩ := ih (T_rolls_by_diodes_L2 q q.1.length b y) (fun k hk2 => hk k (List.mem_cons_of_mem _ hk2)) (by rw [e]; omega)
        intro r
        have er : r = t.foldl (fun (s' : Int) (keys' : List Int) => T_rolls_by_diodes_L2 q q.1.length s' keys') (T_rolls_by_diodes_L2 q q.1.length b y) := rfl
        rw [← er] at a1 a2 a3 a4
        rw [e] at a2 a3
        refine ⟨a1, by omega, ?_, fun d hd => ?_⟩
        · rcases a3 with a3 | ⟨d, hd, e3⟩
          · by_cases c : b ≤ T_safe_rolls (withD q y)
            · exact .inr ⟨y, List.mem_cons_self, by omega⟩
            · exact .inl (by omega)
          · exact .inr ⟨d, List.mem_cons_of_mem _ hd, e3⟩
        · rcases List.mem_cons.mp hd with rfl | hd
          · omega
          · exact a4 d hd
    obtain ⟨a1, a2, a3, a4⟩ := hstep (T_sets_of q.1.length i) best (fun k hk => ((h2'.mem k).mp hk).1) hb
    refine ⟨⟨h1, fun _ s => 0 ≤ s ∧ s ≤ q.1.length, hb, fun j k hj s hs => ?_⟩, a1, a2, ?_, fun d hd e => a4 d ((h2'.mem d).mpr ⟨hd, e⟩)⟩
    · have hk := ((h2'.mem k).mp (List.mem_of_getElem? hj)).1
      obtain ⟨r1, r2⟩ := roll_one g hk hs
      have hsb : 0 ≤ T_safe_rolls (withD q k) ∧ T_safe_rolls (withD q k) ≤ (q.1.length : Int) := (safe_is (g.withD hk)).bd
      refine ⟨r1, ?_⟩
      show 0 ≤ T_rolls_by_diodes_L2 q q.1.length s k ∧ T_rolls_by_diodes_L2 q q.1.length s k ≤ q.1.length
      rw [r2]; omega
    · rcases a3 with a3 | ⟨d, hd, e⟩
      · exact .inl a3
      · obtain ⟨b1, b2⟩ := (h2'.mem d).mp hd
        exact .inr ⟨d, b1, b2, e⟩
  have hf := foldl_idx (f := fun (s' : Int) (size' : Int) => T_rolls_by_diodes_L1 q q.1.length s' size') (fun i r => (0 ≤ r ∧ r ≤ q.1.length) ∧ (r = 0 ∨ ∃ d, Keys q.1.length d ∧ d.length < i ∧ T_safe_rolls (withD q d) = r) ∧ ∀ d, Keys q.1.length d → d.length < i → T_safe_rolls (withD q d) ≤ r)
    (rgI 0 (min2 m q.1.length + 1)) 0 0 ⟨by omega, .inl rfl, fun _ _ h => by omega⟩ fun i x hx s hs => by
      rw [Nat.zero_add] at hs ⊢
      obtain ⟨_, a1, a2, a3, a4⟩ := one i x s hx hs.1
      refine ⟨a1, ?_, fun d hd hl2 => ?_⟩
      · rcases a3 with a3 | ⟨d, b1, b2, b3⟩
        · rcases hs.2.1 with c | ⟨d, b1, b2, b3⟩
          · exact .inl (by rw [a3]; exact c)
          · exact .inr ⟨d, b1, by omega, by rw [a3]; exact b3⟩
        · exact .inr ⟨d, b1, by omega, b3⟩
      · by_cases c : d.length < i
        · have := hs.2.2 d hd c
          omega
        · exact a4 d hd (by omega)
  rw [rgI_length, Nat.zero_add] at hf
  constructor
  · unfold P_rolls_by_diodes P_rolls_by_diodes_1 P_rolls_by_diodes_2 P_rolls_by_diodes_3 P_rolls_by_diodes_4
    refine ⟨psq g, by unfold isNum; simp; omega, rgIn_of (by omega), fun _ s => 0 ≤ s ∧ s ≤ q.1.length, by omega, fun i x hx s hs => ?_⟩
    obtain ⟨p, a1, _⟩ := one i x s hx hs
    exact ⟨p, a1⟩
  · have : T_rolls_by_diodes q m = (rgI 0 (min2 m q.1.length + 1)).foldl (fun (s' : Int) (size' : Int) => T_rolls_by_diodes_L1 q q.1.length s' size') 0 := rfl
    rw [this]
    refine ⟨hf.1, ?_, fun d hd hle => hf.2.2 d hd ?_⟩
    · rcases hf.2.1 with c | ⟨d, b1, b2, b3⟩
      · exact .inl c
      · exact .inr ⟨d, b1, by omega, b3⟩
    · have hdn : (d.length : Int) ≤ q.1.length := by
        have := pw_len hd
        omega
      clear hf this one
      generalize min2 m q.1.length = v at *
      generalize d.length = dl at *
      omega
end
end DL

/-! M22: the law k22. -/
namespace DL
open PySem PySem.Spec PyProof.Rows L2
namespace K22
section
variable {s : Scr} {q : Sq} {w both : List (List Int)}
theorem served_d (g : Good q) (h : WishOk q.1.length w) : T_is_served q w = decide (Srv q w) := t_servedW g h
theorem fewQ_ok (g : Good q) (h : WishOk q.1.length w) : P_fewest_diodes q w ∧ ∃ k, T_fewest_diodes q w = some k ∧ IsFew q w k := few_ok g h
theorem l4_ok (g : Good q) (h : WishOk q.1.length w) (q0 best : Sq) (ks : Option (List Int)) {key : Int} (hk : key ∈ q.2) : P_law_k22_L4 q0 q0.1.length both w ks best q (needL q w) key ∧ T_law_k22_L4 q0 q0.1.length both w ks best q (needL q w) key = none := by
  have hl := g.len
  have hd := keys_len6 g.di hl.2
  have kw := keys_without g.di key
  have gw := g.withD kw
  unfold P_law_k22_L4 T_law_k22_L4
  refine g_and ⟨lim_of (by omega), pwith g kw⟩ ?_
  unfold P_law_k22_L4_1 T_law_k22_L4_1
  refine g_if0 ⟨p_served g h, fun _ => p_served gw h⟩ ?_ rfl
  rw [served_d g h, served_d gw h]
  by_cases c : Srv q w
  · rw [decide_eq_true c, Bool.true_and]
    refine ne_false ?_
    rw [Bool.eq_iff_iff, inE_iff, mem_need, decide_eq_true_iff]
    exact ⟨fun h => h.2.2, fun h => ⟨c, hk, h⟩⟩
  · rw [decide_eq_false c, Bool.false_and]
theorem l3_ok (g : Good q) (h : WishOk q.1.length w) (q0 best : Sq) (ks : Option (List Int)) : P_law_k22_L3 q0 q0.1.length both w ks best q ∧ T_law_k22_L3 q0 q0.1.length both w ks best q = none := by
  obtain ⟨n1, n2⟩ := needless_ok g h
  unfold P_law_k22_L3 T_law_k22_L3
  refine g_and n1 ?_
  rw [n2]
  unfold P_law_k22_L3_1 T_law_k22_L3_1
  refine g_if (p_served g h) ?_ ?_
  · rw [served_d g h]
    by_cases c : Srv q w
    · rw [decide_eq_true c]; rfl
    · rw [decide_eq_false c]
      have : needL q w = [] := if_neg c
      rw [decide_eq_true this]; rfl
  unfold P_law_k22_L3_2 T_law_k22_L3_2
  refine ⟨fun key hk => (l4_ok g h q0 best ks hk).1, opM_all fun key hk => (l4_ok g h q0 best ks hk).2⟩
theorem l2_ok (g : Good q) (h : WishOk q.1.length w) (hb : WishOk q.1.length both) (hs : ∀ k ∈ w, k ∈ both) : P_law_k22_L2 q q.1.length both w ∧ T_law_k22_L2 q q.1.length both w = none := by
  have hl := g.len
  obtain ⟨f1, k, f2, f3⟩ := few_ok g h
  obtain ⟨b1, kb, b2, b3⟩ := few_ok g hb
  have lk := keys_len6 f3.ks hl.2
  unfold P_law_k22_L2 T_law_k22_L2
  refine g_and f1 ?_
  rw [f2]
  unfold P_law_k22_L2_1 T_law_k22_L2_1
  refine g_and ⟨rfl, pwith g f3.ks⟩ ?_
  have gb := g.withD f3.ks
  obtain ⟨n1, n2⟩ := needless_ok gb (w := w) h
  unfold P_law_k22_L2_2 T_law_k22_L2_2
  refine g_if ⟨p_served gb h, fun _ => n1⟩ (or_false2 ?_ (ne_false (n2.trans f3.need))) ?_
  · rw [show T_is_served (withD q (oGet (some k))) w = decide (Srv (withD q k) w) from served_d gb h, decide_eq_true f3.srv]; rfl
  unfold P_law_k22_L2_3 T_law_k22_L2_3
  have gn := g.withD (keys_nil (q.1.length : Int))
  refine g_if ⟨pwith g (keys_nil _), p_served gn h⟩ (ne_false ?_) ?_
  · rw [show T_is_served (withD q []) w = decide (Srv (withD q []) w) from served_d gn h, Bool.eq_iff_iff, decide_eq_true_iff, decide_eq_true_iff, Option.some_inj]
    refine ⟨fun e => e ▸ f3.srv, fun e => ?_⟩
    have := f3.few _ (keys_nil _) e
    exact List.length_eq_zero_iff.mp (by simpa using this)
  unfold P_law_k22_L2_4 T_law_k22_L2_4
  refine g_if ⟨⟨b1, by rw [b2]; rfl⟩, rfl⟩ ?_ ?_
  · rw [b2, decide_eq_false_iff_not]
    have := IsFew.mono f3 b3 hs
    show ¬ (kb.length : Int) < (k.length : Int)
    omega
  unfold P_law_k22_L2_5 T_law_k22_L2_5
  have kf := keys_rg (q.1.length : Int)
  have gf := g.withD kf
  refine g_and ⟨rgIn_of (by omega), pwith g kf⟩ ?_
  unfold P_law_k22_L2_6 T_law_k22_L2_6
  refine g_op1 (fun z hz => ?_) ?_
  · rcases List.mem_cons.mp hz with rfl | hz
    · exact l3_ok g h _ _ _
    · rcases List.mem_cons.mp hz with rfl | hz
      · exact l3_ok gf h _ _ _
      · cases hz
  unfold P_law_k22_L2_7 T_law_k22_L2_7
  obtain ⟨r1, r2⟩ := rolls_ok g (m := (k.length : Int)) (by omega)
  refine g_if0 ⟨⟨rfl, r1⟩, p_safe gb⟩ ?_ rfl
  rw [decide_eq_false_iff_not]
  have := r2.all k f3.ks (Int.le_refl _)
  show ¬ T_rolls_by_diodes q (k.length : Int) < T_safe_rolls (withD q k)
  omega
theorem roll_mono (g : Good q) {a b : Int} (ha : 0 ≤ a ∧ a ≤ 6) (hb : 0 ≤ b ∧ b ≤ 6) (h : a ≤ b) : T_rolls_by_diodes q a ≤ T_rolls_by_diodes q b := by
  obtain ⟨_, ra⟩ := rolls_ok g ha
  obtain ⟨_, rb⟩ := rolls_ok g hb
  rcases ra.ex with e | ⟨d, h1, h2, h3⟩
  · rw [e]; exact rb.bd.1
  · rw [← h3]; exact rb.all d h1 (by omega)
theorem roll_full (g : Good q) : T_rolls_by_diodes q q.1.length = q.1.length := by
  have hl := g.len
  obtain ⟨_, r⟩ := rolls_ok g (m := (q.1.length : Int)) (by omega)
  have := r.all _ (keys_rg _) (by rw [rgI_length]; omega)
  rw [safe_full g] at this
  have := r.bd
  omega
theorem step (g : Good q) {most s' : Int} (hm : 0 ≤ most ∧ most ≤ q.1.length) (hs : s' ≤ T_rolls_by_diodes q most) : P_law_k22_L1 q q.1.length s' most ∧ T_law_k22_L1 q q.1.length s' most = .nx (T_rolls_by_diodes q most) := by
  have hl := g.len
  obtain ⟨p, r⟩ := rolls_ok g (m := most) (by omega)
  refine ⟨p, ?_⟩
  unfold T_law_k22_L1 T_law_k22_L1_1 T_law_k22_L1_2
  exact if_neg (by rw [decide_eq_true_iff]; omega)
theorem loop (g : Good q) : ∀ (xs : List Int) (s' : Int), (∀ x ∈ xs, 0 ≤ x ∧ x ≤ q.1.length) → xs.Pairwise (· < ·) → (∀ x ∈ xs, s' ≤ T_rolls_by_diodes q x) → foldRe (fun (s' : Int) (most' : Int) => T_law_k22_L1 q q.1.length s' most') s' xs = .nx (xs.getLast?.elim s' (T_rolls_by_diodes q))
  | [], s', _, _, _ => rfl
  | x :: r, s', hx, hp, hs => by
    have hl := g.len
    rw [List.pairwise_cons] at hp
    unfold foldRe
    have h1 := hx x List.mem_cons_self
    rw [(step g h1 (hs x List.mem_cons_self)).2]
    show foldRe _ _ r = _
    rw [loop g r _ (fun y hy => hx y (List.mem_cons_of_mem _ hy)) hp.2 fun y hy => ?_]
    · cases r with
      | nil => rfl
      | cons y t => rfl
    · have h2 := hx y (List.mem_cons_of_mem _ hy)
      have := hp.1 y hy
      exact roll_mono g (by omega) (by omega) (by omega)
theorem tail_ok (g : Good q) : P_law_k22_6 q q.1.length ∧ T_law_k22_6 q q.1.length = true := by
  have hl := g.len
  unfold P_law_k22_6 T_law_k22_6 P_law_k22_7 T_law_k22_7
  have hm : ∀ x ∈ rgI 0 ((q.1.length : Int) + 1), 0 ≤ x ∧ x ≤ q.1.length := fun x hx => by
    rw [mem_rgI] at hx; omega
  have e := loop g _ 0 hm (rgI_pw _ _) fun x hx => (rolls_ok g (m := x) (by have := hm x hx; omega)).2.bd.1
  have e2 : (rgI 0 ((q.1.length : Int) + 1)).getLast? = some (q.1.length : Int) := by
    rw [rgI_succ (by omega)]; simp
  rw [e2] at e
  have e3 : foldRe (fun (s' : Int) (most' : Int) => T_law_k22_L1 q q.1.length s' most') 0 (rgI 0 ((q.1.length : Int) + 1)) = .nx (q.1.length : Int) := by
    rw [e]; exact congrArg Re.nx (roll_full g)
  have wn : WishOk q.1.length [] := ⟨List.Pairwise.nil, fun _ h => (by cases h), by simp⟩
  obtain ⟨f1, k, f2, f3⟩ := few_ok g wn
  have hk : k = [] := by
    have := f3.few [] (keys_nil _) fun _ h => (by cases h)
    exact List.length_eq_zero_iff.mp (by simpa using this)
  subst hk
  rw [e3]
  refine ⟨⟨⟨rgIn_of (by omega), fun i s => s ≤ T_rolls_by_diodes q (if i = 0 then 0 else i - 1), ?_, fun i x hx s hs => ?_⟩, fun t h => fun _ => f1⟩, ?_⟩
  · exact (rolls_ok g (m := 0) (by omega)).2.bd.1
  · obtain ⟨e1, e4⟩ := rgI_get hx
    rw [Int.zero_add] at e1
    subst e1
    have hs2 : s ≤ T_rolls_by_diodes q (i : Int) := by
      exact Int.le_trans hs (roll_mono g (by split <;> omega) (by omega) (by split <;> omega))
    obtain ⟨p, t⟩ := step g (most := (i : Int)) (by omega) hs2
    refine ⟨p, fun t' ht => ?_⟩
    have := t.symm.trans ht
    injection this with this
    rw [← this]
    refine roll_mono g ?_ ?_ ?_
    · omega
    · split <;> omega
    · split <;> omega
  · rw [reM_nx]
    unfold T_law_k22_8
    rw [f2, decide_eq_true rfl, decide_eq_true rfl]; rfl
theorem ok (s : Scr) : P_law_k22 s ∧ T_law_k22 s = true := by
  obtain ⟨p1, g, hl⟩ := law_square_ok s 0 (most := 4) (by decide)
  unfold P_law_k22 T_law_k22
  refine g_and p1 ?_
  generalize T__law_square s 0 4 = q at *
  have gl := g.len
  unfold P_law_k22_1 T_law_k22_1
  unfold P_law_k22_2 T_law_k22_2
  obtain ⟨a1, a2, a3⟩ := law_wish_ok s 80 (many := q.1.length) (most := 4) (by omega) (by omega)
  generalize T__law_wish s 80 q.1.length 4 = one at *
  refine g_and a1 ?_
  unfold P_law_k22_3 T_law_k22_3
  obtain ⟨b1, b2, b3⟩ := law_wish_ok s 140 (many := q.1.length) (most := 4) (by omega) (by omega)
  generalize T__law_wish s 140 q.1.length 4 = other at *
  refine g_and b1 ?_
  unfold P_law_k22_4 T_law_k22_4
  have hb := wish_union a2 b2 (by omega)
  refine g_and ⟨lim_of (by omega), by rw [List.length_append]; omega⟩ ?_
  unfold P_law_k22_5 T_law_k22_5
  refine g_op1 (fun z hz => ?_) (tail_ok g)
  rcases List.mem_cons.mp hz with rfl | hz
  · exact l2_ok g a2 hb fun k hk => mem_ssK.mpr (List.mem_append_left _ hk)
  rcases List.mem_cons.mp hz with rfl | hz
  · exact l2_ok g b2 hb fun k hk => mem_ssK.mpr (List.mem_append_right _ hk)
  rcases List.mem_cons.mp hz with rfl | hz
  · exact l2_ok g hb hb fun k hk => hk
  · cases hz
end
theorem law {ns : List Int} (h : ns.length ≤ 63) : F_law_k22 [.scr ns] = pure (.bl true) := by
  have := f_law_k22 ⟨ns, h⟩ (ok ⟨ns, h⟩).1
  rw [(ok ⟨ns, h⟩).2] at this
  exact this
end K22
end DL

open DL PySem PySem.Spec PyProof.Rows L2
namespace Wk22
/-! ### the walk, printed by pr.py -/
def top (i : Nat) : Stmt := PySem.Challenge.pw_wiresquares_k22_whole_needless.main.body.getD i (.Pass ⟨0, 0, 0, 0⟩)
def fa : List He.Fa := [.free "len", .free "range", .free "int", .free "tuple", .free "sorted", .free "set", .free "isinstance", .int "MOST_KEYS" 6, .free "bool", .int "MOST_WIRES" 6, .free "all", .free "zip", .exc "NoSquare", .glo "NoSquare", .int "MOST_SETS" 24, .exc "NoWish", .glo "NoWish", .free "enumerate", .free "list", .exc "NoKeys", .glo "NoKeys", .exc "NoNumber", .glo "NoNumber", .free "min", .glo "_law_cell", .glo "_law_drawn", .glo "_law_square", .glo "_law_set", .glo "_law_wish", .glo "is_number", .glo "is_spot", .glo "are_keys_of", .glo "is_square", .glo "need_square", .glo "is_wish_of", .glo "need_wish", .glo "sets_of", .glo "with_more", .glo "back_rows", .glo "columns_from", .glo "keys_seen", .glo "serves", .glo "fewest_diodes", .glo "need_keys", .glo "with_diodes", .glo "is_served", .glo "needless_diodes", .glo "sets_upto", .glo "rolls_by_diodes", .glo "safe_rolls", .glo "law"]
def fn : List He.DefD := [⟨("_law_cell", none), "_law_cell", "_law_cell", defArgs (top 35), defBody (top 35), defScope (top 35), [], []⟩, ⟨("_law_drawn", none), "_law_drawn", "_law_drawn", defArgs (top 36), defBody (top 36), defScope (top 36), [], []⟩, ⟨("_law_square", none), "_law_square", "_law_square", defArgs (top 37), defBody (top 37), defScope (top 37), [], []⟩, ⟨("_law_set", none), "_law_set", "_law_set", defArgs (top 38), defBody (top 38), defScope (top 38), [], []⟩, ⟨("_law_wish", none), "_law_wish", "_law_wish", defArgs (top 39), defBody (top 39), defScope (top 39), [], []⟩, ⟨("is_number", none), "is_number", "is_number", defArgs (top 9), defBody (top 9), defScope (top 9), [], []⟩, ⟨("is_spot", none), "is_spot", "is_spot", defArgs (top 10), defBody (top 10), defScope (top 10), [], []⟩, ⟨("are_keys_of", none), "are_keys_of", "are_keys_of", defArgs (top 11), defBody (top 11), defScope (top 11), [], []⟩, ⟨("is_square", none), "is_square", "is_square", defArgs (top 12), defBody (top 12), defScope (top 12), [], []⟩, ⟨("need_square", none), "need_square", "need_square", defArgs (top 13), defBody (top 13), defScope (top 13), [], []⟩, ⟨("is_wish_of", none), "is_wish_of", "is_wish_of", defArgs (top 23), defBody (top 23), defScope (top 23), [], []⟩, ⟨("need_wish", none), "need_wish", "need_wish", defArgs (top 24), defBody (top 24), defScope (top 24), [], []⟩, ⟨("sets_of", none), "sets_of", "sets_of", defArgs (top 27), defBody (top 27), defScope (top 27), [], []⟩, ⟨("with_more", none), "with_more", "with_more", defArgs (top 18), defBody (top 18), defScope (top 18), [], []⟩, ⟨("back_rows", none), "back_rows", "back_rows", defArgs (top 17), defBody (top 17), defScope (top 17), [], []⟩, ⟨("columns_from", none), "columns_from", "columns_from", defArgs (top 19), defBody (top 19), defScope (top 19), [], []⟩, ⟨("keys_seen", none), "keys_seen", "keys_seen", defArgs (top 20), defBody (top 20), defScope (top 20), [], []⟩, ⟨("serves", none), "serves", "serves", defArgs (top 25), defBody (top 25), defScope (top 25), [], []⟩, ⟨("fewest_diodes", none), "fewest_diodes", "fewest_diodes", defArgs (top 30), defBody (top 30), defScope (top 30), [], []⟩, ⟨("need_keys", none), "need_keys", "need_keys", defArgs (top 14), defBody (top 14), defScope (top 14), [], []⟩, ⟨("with_diodes", none), "with_diodes", "with_diodes", defArgs (top 15), defBody (top 15), defScope (top 15), [], []⟩, ⟨("is_served", none), "is_served", "is_served", defArgs (top 26), defBody (top 26), defScope (top 26), [], []⟩, ⟨("needless_diodes", none), "needless_diodes", "needless_diodes", defArgs (top 31), defBody (top 31), defScope (top 31), [], []⟩, ⟨("sets_upto", none), "sets_upto", "sets_upto", defArgs (top 33), defBody (top 33), defScope (top 33), [], []⟩, ⟨("rolls_by_diodes", none), "rolls_by_diodes", "rolls_by_diodes", defArgs (top 32), defBody (top 32), defScope (top 32), [], []⟩, ⟨("safe_rolls", none), "safe_rolls", "safe_rolls", defArgs (top 28), defBody (top 28), defScope (top 28), [], []⟩, ⟨("law", none), "law", "law", defArgs (top 40), defBody (top 40), defScope (top 40), [], []⟩]
def ex (K : PySem.W.Frag) : Bool := true
abbrev EvL (K : PySem.W.Frag) (mg : Str → Option Value) : Prop := Ev fa fn ex K mg
section
variable {P : Program} {w : World} {K : PySem.W.Frag} {mg : Str → Option Value}
/-! ### _law_cell -/
theorem D__law_cell (E : EvL K mg) : Prom P w K mg "_law_cell" 1 ["_law_script", "_law_k"] F__law_cell :=
  have SC : FnScope ["_law_script", "_law_k"] ["_law_script", "_law_k"] (defScope (top 35)) := ⟨rfl, rfl, rfl, by decide +kernel, rfl, by decide +kernel, by decide +kernel⟩
  E.prom 0 24 "_law_cell" (top 35) ["_law_script", "_law_k"] ["_law_script", "_law_k"] 2 2 0 [] G__law_cell rfl rfl (by rfl) (by rfl) SC (fun _ _ _ _ _ _ us hl => match us, hl with | [_, _], _ => rfl) fun base cdv A outer s H EX hr => by
    exact (dss_cons (o1 := []) (ds_if (by exact mDef_pl) (dt_cmp (cm_eq hr) (de_var 0) (de_lst da_nil)) (dss_one (ds_ret (by exact mDef_pl) (de_mul de_int (de_var 1)))) dss_nil) (dss_one (ds_ret (by exact mDef_pl) (de_add (de_idx (de_var 0) (de_mod (de_var 1) (de_len rfl (E.free 0) (da_cons (de_var 0) da_nil)))) (de_mul de_int (de_fdiv (de_var 1) (de_len rfl (E.free 0) (da_cons (de_var 0) da_nil))))))))

/-! ### _law_drawn -/
theorem D__law_drawn (E : EvL K mg) : Prom P w K mg "_law_drawn" 2 ["_law_script", "_law_k", "_law_many"] F__law_drawn :=
  have SC : FnScope ["_law_script", "_law_k", "_law_many", "_law_cell_here"] ["_law_script", "_law_k", "_law_many"] (defScope (top 36)) := ⟨rfl, rfl, rfl, by decide +kernel, rfl, by decide +kernel, by decide +kernel⟩
  E.prom 1 25 "_law_drawn" (top 36) ["_law_script", "_law_k", "_law_many", "_law_cell_here"] ["_law_script", "_law_k", "_law_many"] 4 3 1 [] G__law_drawn rfl rfl (by rfl) (by rfl) SC (fun _ _ _ _ _ _ us hl => match us, hl with | [_, _, _], _ => rfl) fun base cdv A outer s H EX hr => by
    exact (dss_cons (o1 := []) (ds_set (by exact mDef_pl) 3 [] SC.nd (de_mod (de_add (de_mul (de_mod (de_call (D__law_cell E) (hr.mono (by decide)) (by exact mDef_tk) rfl (da_cons (de_var 0) (da_cons (de_var 1) da_nil))) de_int) de_int) (de_mul de_int (de_add (de_var 1) de_int))) de_int)) (dss_cons (o1 := []) (ds_set (by exact mDef_pl) 3 [] SC.nd (de_mod (de_add (de_mul (de_var 3) (de_var 3)) (de_fdiv (de_var 3) de_int)) de_int)) (dss_one (ds_ret (by exact mDef_pl) (de_mod (de_fdiv (de_mod (de_add (de_mul (de_var 3) (de_var 3)) (de_fdiv (de_var 3) de_int)) de_int) de_int) (de_var 2))))))

/-! ### _law_square -/
theorem D__law_square (E : EvL K mg) : Prom P w K mg "_law_square" 3 ["_law_script", "_law_at", "_law_most"] F__law_square :=
  have SC : FnScope ["_law_script", "_law_at", "_law_most", "_law_many", "_law_wide", "_law_shift", "_law_spots", "_law_k", "_law_rare", "_law_diodes", "_law_here", "_law_spot", "_law_key"] ["_law_script", "_law_at", "_law_most"] (defScope (top 37)) := ⟨rfl, rfl, rfl, by decide +kernel, rfl, by decide +kernel, by decide +kernel⟩
  E.prom 2 26 "_law_square" (top 37) ["_law_script", "_law_at", "_law_most", "_law_many", "_law_wide", "_law_shift", "_law_spots", "_law_k", "_law_rare", "_law_diodes", "_law_here", "_law_spot", "_law_key"] ["_law_script", "_law_at", "_law_most"] 13 3 2 [] G__law_square rfl rfl (by rfl) (by rfl) SC (fun _ _ _ _ _ _ us hl => match us, hl with | [_, _, _], _ => rfl) fun base cdv A outer s H EX hr => by
    exact (dss_cons (o1 := []) (ds_set (by exact mDef_pl) 3 [] SC.nd (de_add de_int (de_call (D__law_drawn E) (hr.mono (by decide)) (by exact mDef_tk) rfl (da_cons (de_var 0) (da_cons (de_var 1) (da_cons (de_var 2) da_nil)))))) (dss_cons (o1 := []) (ds_set (by exact mDef_pl) 4 [] SC.nd (de_add de_int (de_call (D__law_drawn E) (hr.mono (by decide)) (by exact mDef_tk) rfl (da_cons (de_var 0) (da_cons (de_add (de_var 1) de_int) (da_cons de_int da_nil)))))) (dss_cons (o1 := []) (ds_set (by exact mDef_pl) 5 [] SC.nd (de_call (D__law_drawn E) (hr.mono (by decide)) (by exact mDef_tk) rfl (da_cons (de_var 0) (da_cons (de_add (de_var 1) de_int) (da_cons de_int da_nil))))) (dss_cons (o1 := []) (ds_plain (by exact mDef_pl) [] (dsn_e 6 SC.nd (dn_lst da_nil))) (dss_cons (o1 := []) (ds_for (by exact mDef_pl) (by exact mDef_po) rfl (di_range1 rfl (E.free 1) (da_cons (de_mul de_int (de_var 3)) da_nil)) (pg_name (i := 7) SC.nd rfl (by first | exact Or.inl rfl | exact Or.inr rfl)) (tg_name (i := 7)) (nonesIn rfl) (dss_cons (o1 := []) (ds_set (by exact mDef_pl) 10 [] SC.nd (de_add (de_add (de_var 1) de_int) (de_mul de_int (de_var 7)))) (dss_cons (o1 := []) (ds_set (by exact mDef_pl) 11 [] SC.nd (de_tup (da_cons (de_add (de_var 5) (de_call (D__law_drawn E) (hr.mono (by decide)) (by exact mDef_tk) rfl (da_cons (de_var 0) (da_cons (de_var 10) (da_cons (de_var 4) da_nil))))) (da_cons (de_sub (de_add (de_call (D__law_drawn E) (hr.mono (by decide)) (by exact mDef_tk) rfl (da_cons (de_var 0) (da_cons (de_add (de_var 10) de_int) (da_cons (de_var 4) da_nil)))) de_int) (de_var 5)) da_nil)))) (dss_one (ds_set (by exact mDef_pl) 6 [] SC.nd (de_add (de_var 6) (de_mul (de_lst (da_cons (de_var 11) da_nil)) (de_toInt rfl (E.free 2) (da_cons (de_and (de_cmp (cm_nin hr rfl) (de_var 11) (de_var 6)) (de_one (de_cmp (cm_lt hr) (de_len rfl (E.free 0) (da_cons (de_var 6) da_nil)) (de_var 3)))) da_nil))))))))) (dss_cons (o1 := []) (ds_set (by exact mDef_pl) 8 [] SC.nd (de_idx (de_lst (da_cons de_int (da_cons de_int (da_cons de_int da_nil)))) (de_call (D__law_drawn E) (hr.mono (by decide)) (by exact mDef_tk) rfl (da_cons (de_var 0) (da_cons (de_add (de_var 1) de_int) (da_cons de_int da_nil)))))) (dss_cons (o1 := []) (ds_plain (by exact mDef_pl) [] (by first | exact (dsn_lc 9 [("_law_key", 12)] rfl SC.nd rfl (di_range1 rfl (E.free 1) (da_cons (de_len rfl (E.free 0) (da_cons (de_var 6) da_nil)) da_nil)) (blkOk_by rfl) (fun _ _ _ _ _ => (pg_name (i := 12) SC.nd rfl (by first | exact Or.inl rfl | exact Or.inr rfl))) (tg_name (i := 12)) (by decide) (nonesIn rfl) (fun _ _ _ _ _ => (dts_one (dt_cmp (cm_eq hr) (de_call (D__law_drawn E) (hr.mono (by decide)) (by exact takesF) rfl (da_cons (de_var 0) (da_cons (de_add (de_add (de_var 1) de_int) (de_var 12)) (da_cons (de_var 8) da_nil)))) de_int))) (fun _ _ _ _ _ => (de_var 12)) (sw_true rfl rfl rfl rfl)) | exact (dsn_e 9 SC.nd (dn_comp [("_law_key", 12)] rfl SC.nd rfl (di_range1 rfl (E.free 1) (da_cons (de_len rfl (E.free 0) (da_cons (de_var 6) da_nil)) da_nil)) (blkOk_by rfl) (fun _ _ _ _ _ => (pg_name (i := 12) SC.nd rfl (by first | exact Or.inl rfl | exact Or.inr rfl))) (tg_name (i := 12)) (by decide) (nonesIn rfl) (fun _ _ _ _ _ => (dts_one (dt_cmp (cm_eq hr) (de_call (D__law_drawn E) (hr.mono (by decide)) (by exact takesF) rfl (da_cons (de_var 0) (da_cons (de_add (de_add (de_var 1) de_int) (de_var 12)) (da_cons (de_var 8) da_nil)))) de_int))) (fun _ _ _ _ _ => (de_var 12)))))) (dss_one (ds_ret (by exact mDef_pl) (de_tup (da_cons (de_tuple rfl (E.free 3) (da_cons (de_var 6) da_nil)) (da_cons (de_tuple rfl (E.free 3) (da_cons (de_var 9) da_nil)) da_nil))))))))))))

/-! ### _law_set -/
theorem D__law_set (E : EvL K mg) : Prom P w K mg "_law_set" 3 ["_law_script", "_law_at", "_law_many"] F__law_set :=
  have SC : FnScope ["_law_script", "_law_at", "_law_many", "_law_key"] ["_law_script", "_law_at", "_law_many"] (defScope (top 38)) := ⟨rfl, rfl, rfl, by decide +kernel, rfl, by decide +kernel, by decide +kernel⟩
  E.prom 3 27 "_law_set" (top 38) ["_law_script", "_law_at", "_law_many", "_law_key"] ["_law_script", "_law_at", "_law_many"] 4 3 2 [] G__law_set rfl rfl (by rfl) (by rfl) SC (fun _ _ _ _ _ _ us hl => match us, hl with | [_, _, _], _ => rfl) fun base cdv A outer s H EX hr => by
    exact (dss_one (ds_ret (by exact mDef_pl) (de_tuple rfl (E.free 3) (da_cons (de_ofN (dn_comp [("_law_key", 3)] rfl SC.nd rfl (di_range1 rfl (E.free 1) (da_cons (de_var 2) da_nil)) (blkOk_by rfl) (fun _ _ _ _ _ => (pg_name (i := 3) SC.nd rfl (by first | exact Or.inl rfl | exact Or.inr rfl))) (tg_name (i := 3)) (by decide) (nonesIn rfl) (fun _ _ _ _ _ => (dts_one (dt_cmp cm_gt (de_call (D__law_drawn E) (hr.mono (by decide)) (by exact takesF) rfl (da_cons (de_var 0) (da_cons (de_add (de_var 1) (de_var 3)) (da_cons de_int da_nil)))) de_int))) (fun _ _ _ _ _ => (de_var 3)))) da_nil))))

/-! ### _law_wish -/
theorem D__law_wish (E : EvL K mg) : Prom P w K mg "_law_wish" 4 ["_law_script", "_law_at", "_law_many", "_law_most"] F__law_wish :=
  have SC : FnScope ["_law_script", "_law_at", "_law_many", "_law_most", "_law_some", "_law_k"] ["_law_script", "_law_at", "_law_many", "_law_most"] (defScope (top 39)) := ⟨rfl, rfl, rfl, by decide +kernel, rfl, by decide +kernel, by decide +kernel⟩
  E.prom 4 28 "_law_wish" (top 39) ["_law_script", "_law_at", "_law_many", "_law_most", "_law_some", "_law_k"] ["_law_script", "_law_at", "_law_many", "_law_most"] 6 4 3 [] G__law_wish rfl rfl (by rfl) (by rfl) SC (fun _ _ _ _ _ _ us hl => match us, hl with | [_, _, _, _], _ => rfl) fun base cdv A outer s H EX hr => by
    exact (dss_cons (o1 := []) (ds_plain (by exact mDef_pl) [] (by first | exact (dsn_lc 4 [("_law_k", 5)] rfl SC.nd rfl (di_range1 rfl (E.free 1) (da_cons (de_call (D__law_drawn E) (hr.mono (by decide)) (by exact mDef_tk) rfl (da_cons (de_var 0) (da_cons (de_var 1) (da_cons (de_add (de_var 3) de_int) da_nil)))) da_nil)) (blkOk_by rfl) (fun _ _ _ _ _ => (pg_name (i := 5) SC.nd rfl (by first | exact Or.inl rfl | exact Or.inr rfl))) (tg_name (i := 5)) (by decide) (nonesIn rfl) (fun _ _ _ _ _ => dts_nil) (fun _ _ _ _ _ => (de_call (D__law_set E) (hr.mono (by decide)) (by exact takesF) rfl (da_cons (de_var 0) (da_cons (de_add (de_add (de_var 1) de_int) (de_mul de_int (de_var 5))) (da_cons (de_var 2) da_nil))))) (sw_true rfl rfl rfl rfl)) | exact (dsn_e 4 SC.nd (dn_comp [("_law_k", 5)] rfl SC.nd rfl (di_range1 rfl (E.free 1) (da_cons (de_call (D__law_drawn E) (hr.mono (by decide)) (by exact mDef_tk) rfl (da_cons (de_var 0) (da_cons (de_var 1) (da_cons (de_add (de_var 3) de_int) da_nil)))) da_nil)) (blkOk_by rfl) (fun _ _ _ _ _ => (pg_name (i := 5) SC.nd rfl (by first | exact Or.inl rfl | exact Or.inr rfl))) (tg_name (i := 5)) (by decide) (nonesIn rfl) (fun _ _ _ _ _ => dts_nil) (fun _ _ _ _ _ => (de_call (D__law_set E) (hr.mono (by decide)) (by exact takesF) rfl (da_cons (de_var 0) (da_cons (de_add (de_add (de_var 1) de_int) (de_mul de_int (de_var 5))) (da_cons (de_var 2) da_nil))))))))) (dss_one (ds_ret (by exact mDef_pl) (de_tuple rfl (E.free 3) (da_cons (de_srtSet (rm_of hr) rfl rfl (E.free 4) rfl (E.free 5) (de_var 4)) da_nil)))))

/-! ### is_number -/
theorem D_is_number (E : EvL K mg) : Prom P w K mg "is_number" 1 ["thing", "low", "high"] F_is_number :=
  have SC : FnScope ["thing", "low", "high"] ["thing", "low", "high"] (defScope (top 9)) := ⟨rfl, rfl, rfl, by decide +kernel, rfl, by decide +kernel, by decide +kernel⟩
  E.prom 5 29 "is_number" (top 9) ["thing", "low", "high"] ["thing", "low", "high"] 3 3 0 [] G_is_number rfl rfl (by rfl) (by rfl) SC (fun _ _ _ _ _ _ us hl => match us, hl with | [_, _, _], _ => rfl) fun base cdv A outer s H EX hr => by
    exact (dss_one (ds_ret (by exact mDef_pl) (de_and (de_isi IsT5.int (pe_ty rfl (E.free 2) boot_int) rfl (E.free 6) (de_var 0)) (de_and (de_not (de_isi IsT5.bl (pe_ty rfl (E.free 8) boot_bool) rfl (E.free 6) (de_var 0))) (de_one (de_chain cm_le cm_le (de_var 1) (de_var 0) (de_var 2)))))))

/-! ### is_spot -/
theorem D_is_spot (E : EvL K mg) : Prom P w K mg "is_spot" 2 ["thing"] F_is_spot :=
  have SC : FnScope ["thing"] ["thing"] (defScope (top 10)) := ⟨rfl, rfl, rfl, by decide +kernel, rfl, by decide +kernel, by decide +kernel⟩
  E.prom 6 30 "is_spot" (top 10) ["thing"] ["thing"] 1 1 1 [] G_is_spot rfl rfl (by rfl) (by rfl) SC (fun _ _ _ _ _ _ us hl => match us, hl with | [_], _ => rfl) fun base cdv A outer s H EX hr => by
    exact (dss_cons (o1 := []) (ds_if (by exact mDef_pl) (DW.t (dw_or (dt_not (dt_of (de_isi IsT5.tup (pe_ty rfl (E.free 3) boot_tuple) rfl (E.free 6) (de_var 0)))) (dw_or1 (dt_cmp (cm_ne hr) (de_len rfl (E.free 0) (da_cons (de_var 0) da_nil)) de_int)))) (dss_one (ds_ret (by exact mDef_pl) de_bl)) dss_nil) (dss_one (ds_ret (by exact mDef_pl) (de_and (de_call (D_is_number E) (hr.mono (by decide)) (by exact mDef_tk) rfl (da_cons (de_idx (de_var 0) de_int) (da_cons de_int (da_cons (de_sub (de_gint (E.int 9)) de_int) da_nil)))) (de_one (de_call (D_is_number E) (hr.mono (by decide)) (by exact mDef_tk) rfl (da_cons (de_idx (de_var 0) de_int) (da_cons de_int (da_cons (de_sub (de_gint (E.int 9)) de_int) da_nil)))))))))

/-! ### are_keys_of -/
theorem D_are_keys_of (E : EvL K mg) : Prom P w K mg "are_keys_of" 2 ["many", "thing"] F_are_keys_of :=
  have SC : FnScope ["many", "thing", "one", "other"] ["many", "thing"] (defScope (top 11)) := ⟨rfl, rfl, rfl, by decide +kernel, rfl, by decide +kernel, by decide +kernel⟩
  E.prom 7 31 "are_keys_of" (top 11) ["many", "thing", "one", "other"] ["many", "thing"] 4 2 1 [] G_are_keys_of rfl rfl (by rfl) (by rfl) SC (fun _ _ _ _ _ _ us hl => match us, hl with | [_, _], _ => rfl) fun base cdv A outer s H EX hr => by
    exact (dss_cons (o1 := []) (ds_if (by exact mDef_pl) (DW.t (dw_or (dt_not (dt_of (de_isi IsT5.tup (pe_ty rfl (E.free 3) boot_tuple) rfl (E.free 6) (de_var 1)))) (dw_or1 (dt_not (dt_of (de_all rfl rfl (E.free 10) (da_cons (de_ofN (dn_comp [("one", 2)] rfl SC.nd rfl (di_seq (de_var 1)) (blkOk_by rfl) (fun _ _ _ _ _ => (pg_name (i := 2) SC.nd rfl (by first | exact Or.inl rfl | exact Or.inr rfl))) (tg_name (i := 2)) (by decide) (nonesIn rfl) (fun _ _ _ _ _ => dts_nil) (fun _ _ _ _ _ => (de_call (D_is_number E) (hr.mono (by decide)) (by exact takesF) rfl (da_cons (de_var 2) (da_cons de_int (da_cons (de_sub (de_var 0) de_int) da_nil))))))) da_nil))))))) (dss_one (ds_ret (by exact mDef_pl) de_bl)) dss_nil) (dss_one (ds_ret (by exact mDef_pl) (de_all rfl rfl (E.free 10) (da_cons (de_ofN (dn_comp [("one", 2), ("other", 3)] rfl SC.nd rfl (di_zip rfl (E.free 11) (da_cons (de_var 1) (da_cons (de_slice (de_var 1) (do_some de_int) do_none) da_nil))) (blkOk_by rfl) (fun _ _ _ _ _ => (pg_tup rfl (pgs_cons (pg_name (i := 2) SC.nd rfl (by first | exact Or.inl rfl | exact Or.inr rfl)) (pgs_cons (pg_name (i := 3) SC.nd rfl (by first | exact Or.inl rfl | exact Or.inr rfl)) pgs_nil)))) (tg_tup (is := [2, 3]) (.cons (i := 2) (.cons (i := 3) .nil))) (by decide) (nonesIn rfl) (fun _ _ _ _ _ => dts_nil) (fun _ _ _ _ _ => (de_cmp (cm_lt hr) (de_var 2) (de_var 3))))) da_nil)))))

/-! ### is_square -/
theorem D_is_square (E : EvL K mg) : Prom P w K mg "is_square" 3 ["thing"] F_is_square :=
  have SC : FnScope ["thing", "one"] ["thing"] (defScope (top 12)) := ⟨rfl, rfl, rfl, by decide +kernel, rfl, by decide +kernel, by decide +kernel⟩
  E.prom 8 32 "is_square" (top 12) ["thing", "one"] ["thing"] 2 1 2 [] G_is_square rfl rfl (by rfl) (by rfl) SC (fun _ _ _ _ _ _ us hl => match us, hl with | [_], _ => rfl) fun base cdv A outer s H EX hr => by
    exact (dss_cons (o1 := []) (ds_if (by exact mDef_pl) (DW.t (dw_or (dt_not (dt_of (de_isi IsT5.tup (pe_ty rfl (E.free 3) boot_tuple) rfl (E.free 6) (de_var 0)))) (dw_or (dt_cmp (cm_ne hr) (de_len rfl (E.free 0) (da_cons (de_var 0) da_nil)) de_int) (dw_or1 (dt_not (dt_of (de_isi IsT5.tup (pe_ty rfl (E.free 3) boot_tuple) rfl (E.free 6) (de_idx (de_var 0) de_int)))))))) (dss_one (ds_ret (by exact mDef_pl) de_bl)) dss_nil) (dss_cons (o1 := []) (ds_if (by exact mDef_pl) (DW.t (dw_or (dt_not (dt_chain cm_le cm_le de_int (de_len rfl (E.free 0) (da_cons (de_idx (de_var 0) de_int) da_nil)) (de_gint (E.int 7)))) (dw_or1 (dt_not (dt_of (de_all rfl rfl (E.free 10) (da_cons (de_ofN (dn_comp [("one", 1)] rfl SC.nd rfl (di_seq (de_idx (de_var 0) de_int)) (blkOk_by rfl) (fun _ _ _ _ _ => (pg_name (i := 1) SC.nd rfl (by first | exact Or.inl rfl | exact Or.inr rfl))) (tg_name (i := 1)) (by decide) (nonesIn rfl) (fun _ _ _ _ _ => dts_nil) (fun _ _ _ _ _ => (de_call (D_is_spot E) (hr.mono (by decide)) (by exact takesF) rfl (da_cons (de_var 1) da_nil))))) da_nil))))))) (dss_one (ds_ret (by exact mDef_pl) de_bl)) dss_nil) (dss_one (ds_ret (by exact mDef_pl) (de_and (de_cmp (cm_eq hr) (de_lenSet2 (rm_of hr) rfl rfl (E.free 0) rfl (E.free 5) (de_idx (de_var 0) de_int)) (de_len rfl (E.free 0) (da_cons (de_idx (de_var 0) de_int) da_nil))) (de_one (de_call (D_are_keys_of E) (hr.mono (by decide)) (by exact mDef_tk) rfl (da_cons (de_len rfl (E.free 0) (da_cons (de_idx (de_var 0) de_int) da_nil)) (da_cons (de_idx (de_var 0) de_int) da_nil)))))))))

/-! ### need_square -/
theorem D_need_square (E : EvL K mg) : Prom P w K mg "need_square" 4 ["square"] F_need_square :=
  have SC : FnScope ["square"] ["square"] (defScope (top 13)) := ⟨rfl, rfl, rfl, by decide +kernel, rfl, by decide +kernel, by decide +kernel⟩
  E.prom 9 33 "need_square" (top 13) ["square"] ["square"] 1 1 3 [] G_need_square rfl rfl (by rfl) (by rfl) SC (fun _ _ _ _ _ _ us hl => match us, hl with | [_], _ => rfl) fun base cdv A outer s H EX hr => by
    exact (dss_one (ds_if (by exact mDef_pl) (dt_not (dt_of (de_call (D_is_square E) (hr.mono (by decide)) (by exact mDef_tk) rfl (da_cons (de_var 0) da_nil)))) (dss_one (ds_raise rfl (by exact mDef_tk) (E.exc 12) (E.glo 13))) dss_nil))

/-! ### is_wish_of -/
theorem D_is_wish_of (E : EvL K mg) : Prom P w K mg "is_wish_of" 3 ["many", "thing"] F_is_wish_of :=
  have SC : FnScope ["many", "thing", "one", "other"] ["many", "thing"] (defScope (top 23)) := ⟨rfl, rfl, rfl, by decide +kernel, rfl, by decide +kernel, by decide +kernel⟩
  E.prom 10 34 "is_wish_of" (top 23) ["many", "thing", "one", "other"] ["many", "thing"] 4 2 2 [] G_is_wish_of rfl rfl (by rfl) (by rfl) SC (fun _ _ _ _ _ _ us hl => match us, hl with | [_, _], _ => rfl) fun base cdv A outer s H EX hr => by
    exact (dss_cons (o1 := []) (ds_if (by exact mDef_pl) (DW.t (dw_or (dt_not (dt_of (de_isi IsT5.tup (pe_ty rfl (E.free 3) boot_tuple) rfl (E.free 6) (de_var 1)))) (dw_or (dt_cmp cm_gt (de_len rfl (E.free 0) (da_cons (de_var 1) da_nil)) (de_gint (E.int 14))) (dw_or1 (dt_not (dt_of (de_all rfl rfl (E.free 10) (da_cons (de_ofN (dn_comp [("one", 2)] rfl SC.nd rfl (di_seq (de_var 1)) (blkOk_by rfl) (fun _ _ _ _ _ => (pg_name (i := 2) SC.nd rfl (by first | exact Or.inl rfl | exact Or.inr rfl))) (tg_name (i := 2)) (by decide) (nonesIn rfl) (fun _ _ _ _ _ => dts_nil) (fun _ _ _ _ _ => (de_call (D_are_keys_of E) (hr.mono (by decide)) (by exact takesF) rfl (da_cons (de_var 0) (da_cons (de_var 2) da_nil)))))) da_nil)))))))) (dss_one (ds_ret (by exact mDef_pl) de_bl)) dss_nil) (dss_one (ds_ret (by exact mDef_pl) (de_all rfl rfl (E.free 10) (da_cons (de_ofN (dn_comp [("one", 2), ("other", 3)] rfl SC.nd rfl (di_zip rfl (E.free 11) (da_cons (de_var 1) (da_cons (de_slice (de_var 1) (do_some de_int) do_none) da_nil))) (blkOk_by rfl) (fun _ _ _ _ _ => (pg_tup rfl (pgs_cons (pg_name (i := 2) SC.nd rfl (by first | exact Or.inl rfl | exact Or.inr rfl)) (pgs_cons (pg_name (i := 3) SC.nd rfl (by first | exact Or.inl rfl | exact Or.inr rfl)) pgs_nil)))) (tg_tup (is := [2, 3]) (.cons (i := 2) (.cons (i := 3) .nil))) (by decide) (nonesIn rfl) (fun _ _ _ _ _ => dts_nil) (fun _ _ _ _ _ => (de_cmp (cm_lt hr) (de_var 2) (de_var 3))))) da_nil)))))

/-! ### need_wish -/
theorem D_need_wish (E : EvL K mg) : Prom P w K mg "need_wish" 4 ["many", "wish"] F_need_wish :=
  have SC : FnScope ["many", "wish"] ["many", "wish"] (defScope (top 24)) := ⟨rfl, rfl, rfl, by decide +kernel, rfl, by decide +kernel, by decide +kernel⟩
  E.prom 11 35 "need_wish" (top 24) ["many", "wish"] ["many", "wish"] 2 2 3 [] G_need_wish rfl rfl (by rfl) (by rfl) SC (fun _ _ _ _ _ _ us hl => match us, hl with | [_, _], _ => rfl) fun base cdv A outer s H EX hr => by
    exact (dss_one (ds_if (by exact mDef_pl) (dt_not (dt_of (de_call (D_is_wish_of E) (hr.mono (by decide)) (by exact mDef_tk) rfl (da_cons (de_var 0) (da_cons (de_var 1) da_nil))))) (dss_one (ds_raise rfl (by exact mDef_tk) (E.exc 15) (E.glo 16))) dss_nil))

/-! ### sets_of -/
theorem D_sets_of (E : EvL K mg) : Prom P w K mg "sets_of" 1 ["many", "size"] F_sets_of :=
  have SC : FnScope ["many", "size", "found", "turn", "longer", "one", "first", "key"] ["many", "size"] (defScope (top 27)) := ⟨rfl, rfl, rfl, by decide +kernel, rfl, by decide +kernel, by decide +kernel⟩
  E.prom 12 36 "sets_of" (top 27) ["many", "size", "found", "turn", "longer", "one", "first", "key"] ["many", "size"] 8 2 0 [] G_sets_of rfl rfl (by rfl) (by rfl) SC (fun _ _ _ _ _ _ us hl => match us, hl with | [_, _], _ => rfl) fun base cdv A outer s H EX hr => by
    exact (dss_cons (o1 := []) (ds_plain (by exact mDef_pl) [] (dsn_e 2 SC.nd (dn_lst (da_cons (de_tup da_nil) da_nil)))) (dss_cons (o1 := []) (ds_for (by exact mDef_pl) (by exact mDef_po) rfl (di_range1 rfl (E.free 1) (da_cons (de_var 1) da_nil)) (pg_name (i := 3) SC.nd rfl (by first | exact Or.inl rfl | exact Or.inr rfl)) (tg_name (i := 3)) (nonesIn rfl) (dss_cons (o1 := [4]) (ds_own (by exact mDef_pl) [4] (dsn_e 4 SC.nd (dn_lst da_nil))) (dss_cons (o1 := [4]) (ds_for (by exact mDef_pl) (by exact mDef_po) rfl (di_seq (de_var 2)) (pg_name (i := 5) SC.nd rfl (by first | exact Or.inl rfl | exact Or.inr rfl)) (tg_name (i := 5)) (nonesIn rfl) (dss_cons (o1 := [4]) (ds_set (by exact mDef_pl) 6 [4] SC.nd (de_if (dt_cmp (cm_ne hr) (de_var 5) (de_tup da_nil)) (de_add (de_idx (de_var 5) (de_neg de_int)) de_int) de_int)) (dss_one (ds_extend (by exact mDef_pl) 4 (yIn rfl) (pe_bm_extend (pv 4) (de_ofN (dn_comp [("key", 7)] rfl SC.nd rfl (di_range2 rfl (E.free 1) (da_cons (de_var 6) (da_cons (de_var 0) da_nil))) (blkOk_by rfl) (fun _ _ _ _ _ => (pg_name (i := 7) SC.nd rfl (by first | exact Or.inl rfl | exact Or.inr rfl))) (tg_name (i := 7)) (by decide) (nonesIn rfl) (fun _ _ _ _ _ => dts_nil) (fun _ _ _ _ _ => (de_add (de_var 5) (de_tup (da_cons (de_var 7) da_nil))))))) rfl)))) (dss_freeze 4 [] (dss_one (ds_set (by exact mDef_pl) 2 [] SC.nd (de_var 4))))))) (dss_one (ds_ret (by exact mDef_pl) (de_var 2)))))

/-! ### with_more -/
theorem D_with_more (E : EvL K mg) : Prom P w K mg "with_more" 1 ["rows", "more"] F_with_more :=
  have SC : FnScope ["rows", "more", "place", "one"] ["rows", "more"] (defScope (top 18)) := ⟨rfl, rfl, rfl, by decide +kernel, rfl, by decide +kernel, by decide +kernel⟩
  E.prom 13 37 "with_more" (top 18) ["rows", "more", "place", "one"] ["rows", "more"] 4 2 0 [] G_with_more rfl rfl (by rfl) (by rfl) SC (fun _ _ _ _ _ _ us hl => match us, hl with | [_, _], _ => rfl) fun base cdv A outer s H EX hr => by
    exact (dss_one (ds_ret (by exact mDef_pl) (de_add (de_var 0) (de_ofN (dn_comp [("place", 2), ("one", 3)] rfl SC.nd rfl (di_enum rfl (E.free 17) (da_cons (de_var 1) da_nil)) (blkOk_by rfl) (fun _ _ _ _ _ => (pg_tup rfl (pgs_cons (pg_name (i := 2) SC.nd rfl (by first | exact Or.inl rfl | exact Or.inr rfl)) (pgs_cons (pg_name (i := 3) SC.nd rfl (by first | exact Or.inl rfl | exact Or.inr rfl)) pgs_nil)))) (tg_tup (is := [2, 3]) (.cons (i := 2) (.cons (i := 3) .nil))) (by decide) (nonesIn rfl) (fun _ _ _ _ _ => (dts_one (DW.t (dw_and (dt_cmp (cm_nin hr rfl) (de_var 3) (de_var 0)) (dw_and1 (dt_cmp (cm_nin hr rfl) (de_var 3) (de_slice (de_var 1) do_none (do_some (de_var 2))))))))) (fun _ _ _ _ _ => (de_var 3)))))))

/-! ### back_rows -/
theorem D_back_rows (E : EvL K mg) : Prom P w K mg "back_rows" 1 ["square", "pressed", "column"] F_back_rows :=
  have SC : FnScope ["square", "pressed", "column", "spots", "diodes", "key"] ["square", "pressed", "column"] (defScope (top 17)) := ⟨rfl, rfl, rfl, by decide +kernel, rfl, by decide +kernel, by decide +kernel⟩
  E.prom 14 38 "back_rows" (top 17) ["square", "pressed", "column", "spots", "diodes", "key"] ["square", "pressed", "column"] 6 3 0 [] G_back_rows rfl rfl (by rfl) (by rfl) SC (fun _ _ _ _ _ _ us hl => match us, hl with | [_, _, _], _ => rfl) fun base cdv A outer s H EX hr => by
    exact (dss_cons (o1 := []) (ds_setT (by exact mDef_pl) [] (de_var 0) (pg_tup rfl (pgs_cons (pg_name (i := 3) SC.nd rfl (by first | exact Or.inl rfl | exact Or.inr rfl)) (pgs_cons (pg_name (i := 4) SC.nd rfl (by first | exact Or.inl rfl | exact Or.inr rfl)) pgs_nil))) (tg_tup (is := [3, 4]) (.cons (i := 3) (.cons (i := 4) .nil)))) (dss_one (ds_ret (by exact mDef_pl) (de_ofN (dn_comp [("key", 5)] rfl SC.nd rfl (di_seq (de_var 1)) (blkOk_by rfl) (fun _ _ _ _ _ => (pg_name (i := 5) SC.nd rfl (by first | exact Or.inl rfl | exact Or.inr rfl))) (tg_name (i := 5)) (by decide) (nonesIn rfl) (fun _ _ _ _ _ => (dts_one (DW.t (dw_and (dt_cmp (cm_eq hr) (de_idx (de_idx (de_var 3) (de_var 5)) de_int) (de_var 2)) (dw_and1 (dt_cmp (cm_nin hr rfl) (de_var 5) (de_var 4))))))) (fun _ _ _ _ _ => (de_idx (de_idx (de_var 3) (de_var 5)) de_int)))))))

/-! ### columns_from -/
theorem D_columns_from (E : EvL K mg) : Prom P w K mg "columns_from" 2 ["square", "pressed", "row"] F_columns_from :=
  have SC : FnScope ["square", "pressed", "row", "rows", "columns", "at", "key"] ["square", "pressed", "row"] (defScope (top 19)) := ⟨rfl, rfl, rfl, by decide +kernel, rfl, by decide +kernel, by decide +kernel⟩
  E.prom 15 39 "columns_from" (top 19) ["square", "pressed", "row", "rows", "columns", "at", "key"] ["square", "pressed", "row"] 7 3 1 [] G_columns_from rfl rfl (by rfl) (by rfl) SC (fun _ _ _ _ _ _ us hl => match us, hl with | [_, _, _], _ => rfl) fun base cdv A outer s H EX hr => by
    exact (dss_cons (o1 := []) (ds_plain (by exact mDef_pl) [] (dsn_e 3 SC.nd (dn_lst (da_cons (de_var 2) da_nil)))) (dss_cons (o1 := [4]) (ds_own (by exact mDef_pl) [4] (dsn_e 4 SC.nd (dn_lst da_nil))) (dss_cons (o1 := [4]) (ds_set (by exact mDef_pl) 5 [4] SC.nd de_int) (dss_cons (o1 := [4]) (ds_while (by exact mDef_pl) FUEL (by exact mDef_po) (dt_cmp (cm_lt hr) (de_var 5) (de_len rfl (E.free 0) (da_cons (de_var 3) da_nil))) (dss_cons (o1 := [4]) (ds_for (by exact mDef_pl) (by exact mDef_po) rfl (di_seq (de_var 1)) (pg_name (i := 6) SC.nd rfl (by first | exact Or.inl rfl | exact Or.inr rfl)) (tg_name (i := 6)) (nonesIn rfl) (dss_one (ds_if (by exact mDef_pl) (DW.t (dw_and (dt_cmp (cm_eq hr) (de_idx (de_idx (de_idx (de_var 0) de_int) (de_var 6)) de_int) (de_idx (de_var 3) (de_var 5))) (dw_and1 (dt_ninO 4 hr (de_idx (de_idx (de_idx (de_var 0) de_int) (de_var 6)) de_int) (pv 4))))) (dss_cons (o1 := [4]) (ds_append (by exact mDef_pl) 4 (yIn rfl) (pe_bm_append (pv 4) (de_idx (de_idx (de_idx (de_var 0) de_int) (de_var 6)) de_int)) rfl) (dss_one (ds_set (by exact mDef_pl) 3 [4] SC.nd (de_call (D_with_more E) (hr.mono (by decide)) (by exact mDef_tk) rfl (da_cons (de_var 3) (da_cons (de_call (D_back_rows E) (hr.mono (by decide)) (by exact mDef_tk) rfl (da_cons (de_var 0) (da_cons (de_var 1) (da_cons (de_idx (de_idx (de_idx (de_var 0) de_int) (de_var 6)) de_int) da_nil)))) da_nil)))))) dss_nil))) (dss_one (ds_set (by exact mDef_pl) 5 [4] SC.nd (de_add (de_var 5) de_int))))) (dss_freeze 4 [] (dss_one (ds_ret (by exact mDef_pl) (de_srt (rm_of hr) rfl rfl (E.free 4) (da_cons (de_var 4) da_nil)))))))))

/-! ### keys_seen -/
theorem D_keys_seen (E : EvL K mg) : Prom P w K mg "keys_seen" 3 ["square", "pressed"] F_keys_seen :=
  have SC : FnScope ["square", "pressed", "found", "key", "spot"] ["square", "pressed"] (defScope (top 20)) := ⟨rfl, rfl, rfl, by decide +kernel, rfl, by decide +kernel, by decide +kernel⟩
  E.prom 16 40 "keys_seen" (top 20) ["square", "pressed", "found", "key", "spot"] ["square", "pressed"] 5 2 2 [] G_keys_seen rfl rfl (by rfl) (by rfl) SC (fun _ _ _ _ _ _ us hl => match us, hl with | [_, _], _ => rfl) fun base cdv A outer s H EX hr => by
    exact (dss_cons (o1 := [2]) (ds_own (by exact mDef_pl) [2] (dsn_e 2 SC.nd (dn_lst da_nil))) (dss_cons (o1 := [2]) (ds_for (by exact mDef_pl) (by exact mDef_po) rfl (di_enum rfl (E.free 17) (da_cons (de_idx (de_var 0) de_int) da_nil)) (pg_tup rfl (pgs_cons (pg_name (i := 3) SC.nd rfl (by first | exact Or.inl rfl | exact Or.inr rfl)) (pgs_cons (pg_name (i := 4) SC.nd rfl (by first | exact Or.inl rfl | exact Or.inr rfl)) pgs_nil))) (tg_tup (is := [3, 4]) (.cons (i := 3) (.cons (i := 4) .nil))) (nonesIn rfl) (dss_one (ds_if (by exact mDef_pl) (dt_cmp (cm_in hr rfl) (de_idx (de_var 4) de_int) (de_call (D_columns_from E) (hr.mono (by decide)) (by exact mDef_tk) rfl (da_cons (de_var 0) (da_cons (de_var 1) (da_cons (de_idx (de_var 4) de_int) da_nil))))) (dss_one (ds_append (by exact mDef_pl) 2 (yIn rfl) (pe_bm_append (pv 2) (de_var 3)) rfl)) dss_nil))) (dss_freeze 2 [] (dss_one (ds_ret (by exact mDef_pl) (de_var 2))))))

/-! ### serves -/
theorem D_serves (E : EvL K mg) : Prom P w K mg "serves" 4 ["square", "wish"] F_serves :=
  have SC : FnScope ["square", "wish", "one"] ["square", "wish"] (defScope (top 25)) := ⟨rfl, rfl, rfl, by decide +kernel, rfl, by decide +kernel, by decide +kernel⟩
  E.prom 17 41 "serves" (top 25) ["square", "wish", "one"] ["square", "wish"] 3 2 3 [] G_serves rfl rfl (by rfl) (by rfl) SC (fun _ _ _ _ _ _ us hl => match us, hl with | [_, _], _ => rfl) fun base cdv A outer s H EX hr => by
    exact (dss_one (ds_ret (by exact mDef_pl) (de_all rfl rfl (E.free 10) (da_cons (de_ofN (dn_comp [("one", 2)] rfl SC.nd rfl (di_seq (de_var 1)) (blkOk_by rfl) (fun _ _ _ _ _ => (pg_name (i := 2) SC.nd rfl (by first | exact Or.inl rfl | exact Or.inr rfl))) (tg_name (i := 2)) (by decide) (nonesIn rfl) (fun _ _ _ _ _ => dts_nil) (fun _ _ _ _ _ => (de_cmp (cm_eq hr) (de_call (D_keys_seen E) (hr.mono (by decide)) (by exact takesF) rfl (da_cons (de_var 0) (da_cons (de_var 2) da_nil))) (de_list rfl (E.free 18) (da_cons (de_var 2) da_nil)))))) da_nil))))

/-! ### fewest_diodes -/
theorem D_fewest_diodes (E : EvL K mg) : Prom P w K mg "fewest_diodes" 5 ["square", "wish"] F_fewest_diodes :=
  have SC : FnScope ["square", "wish", "size", "keys"] ["square", "wish"] (defScope (top 30)) := ⟨rfl, rfl, rfl, by decide +kernel, rfl, by decide +kernel, by decide +kernel⟩
  E.prom 18 42 "fewest_diodes" (top 30) ["square", "wish", "size", "keys"] ["square", "wish"] 4 2 4 [] G_fewest_diodes rfl rfl (by rfl) (by rfl) SC (fun _ _ _ _ _ _ us hl => match us, hl with | [_, _], _ => rfl) fun base cdv A outer s H EX hr => by
    exact (dss_cons (o1 := []) (ds_expr (by exact mDef_pl) (de_call (D_need_square E) (hr.mono (by decide)) (by exact mDef_tk) rfl (da_cons (de_var 0) da_nil))) (dss_cons (o1 := []) (ds_expr (by exact mDef_pl) (de_call (D_need_wish E) (hr.mono (by decide)) (by exact mDef_tk) rfl (da_cons (de_len rfl (E.free 0) (da_cons (de_idx (de_var 0) de_int) da_nil)) (da_cons (de_var 1) da_nil)))) (dss_cons (o1 := []) (ds_for (by exact mDef_pl) (by exact mDef_po) rfl (di_range1 rfl (E.free 1) (da_cons (de_add (de_len rfl (E.free 0) (da_cons (de_idx (de_var 0) de_int) da_nil)) de_int) da_nil)) (pg_name (i := 2) SC.nd rfl (by first | exact Or.inl rfl | exact Or.inr rfl)) (tg_name (i := 2)) (nonesIn rfl) (dss_one (ds_for (by exact mDef_pl) (by exact mDef_po) rfl (di_seq (de_call (D_sets_of E) (hr.mono (by decide)) (by exact mDef_tk) rfl (da_cons (de_len rfl (E.free 0) (da_cons (de_idx (de_var 0) de_int) da_nil)) (da_cons (de_var 2) da_nil)))) (pg_name (i := 3) SC.nd rfl (by first | exact Or.inl rfl | exact Or.inr rfl)) (tg_name (i := 3)) (nonesIn rfl) (dss_one (ds_if (by exact mDef_pl) (dt_of (de_call (D_serves E) (hr.mono (by decide)) (by exact mDef_tk) rfl (da_cons (de_tup (da_cons (de_idx (de_var 0) de_int) (da_cons (de_var 3) da_nil))) (da_cons (de_var 1) da_nil)))) (dss_one (ds_ret (by exact mDef_pl) (de_var 3))) dss_nil))))) (dss_one (ds_ret (by exact mDef_pl) de_non)))))

/-! ### need_keys -/
theorem D_need_keys (E : EvL K mg) : Prom P w K mg "need_keys" 3 ["square", "keys"] F_need_keys :=
  have SC : FnScope ["square", "keys"] ["square", "keys"] (defScope (top 14)) := ⟨rfl, rfl, rfl, by decide +kernel, rfl, by decide +kernel, by decide +kernel⟩
  E.prom 19 43 "need_keys" (top 14) ["square", "keys"] ["square", "keys"] 2 2 2 [] G_need_keys rfl rfl (by rfl) (by rfl) SC (fun _ _ _ _ _ _ us hl => match us, hl with | [_, _], _ => rfl) fun base cdv A outer s H EX hr => by
    exact (dss_one (ds_if (by exact mDef_pl) (dt_not (dt_of (de_call (D_are_keys_of E) (hr.mono (by decide)) (by exact mDef_tk) rfl (da_cons (de_len rfl (E.free 0) (da_cons (de_idx (de_var 0) de_int) da_nil)) (da_cons (de_var 1) da_nil))))) (dss_one (ds_raise rfl (by exact mDef_tk) (E.exc 19) (E.glo 20))) dss_nil))

/-! ### with_diodes -/
theorem D_with_diodes (E : EvL K mg) : Prom P w K mg "with_diodes" 5 ["square", "keys"] F_with_diodes :=
  have SC : FnScope ["square", "keys"] ["square", "keys"] (defScope (top 15)) := ⟨rfl, rfl, rfl, by decide +kernel, rfl, by decide +kernel, by decide +kernel⟩
  E.prom 20 44 "with_diodes" (top 15) ["square", "keys"] ["square", "keys"] 2 2 4 [] G_with_diodes rfl rfl (by rfl) (by rfl) SC (fun _ _ _ _ _ _ us hl => match us, hl with | [_, _], _ => rfl) fun base cdv A outer s H EX hr => by
    exact (dss_cons (o1 := []) (ds_expr (by exact mDef_pl) (de_call (D_need_square E) (hr.mono (by decide)) (by exact mDef_tk) rfl (da_cons (de_var 0) da_nil))) (dss_cons (o1 := []) (ds_expr (by exact mDef_pl) (de_call (D_need_keys E) (hr.mono (by decide)) (by exact mDef_tk) rfl (da_cons (de_var 0) (da_cons (de_var 1) da_nil)))) (dss_one (ds_ret (by exact mDef_pl) (de_tup (da_cons (de_idx (de_var 0) de_int) (da_cons (de_var 1) da_nil)))))))

/-! ### is_served -/
theorem D_is_served (E : EvL K mg) : Prom P w K mg "is_served" 5 ["square", "wish"] F_is_served :=
  have SC : FnScope ["square", "wish"] ["square", "wish"] (defScope (top 26)) := ⟨rfl, rfl, rfl, by decide +kernel, rfl, by decide +kernel, by decide +kernel⟩
  E.prom 21 45 "is_served" (top 26) ["square", "wish"] ["square", "wish"] 2 2 4 [] G_is_served rfl rfl (by rfl) (by rfl) SC (fun _ _ _ _ _ _ us hl => match us, hl with | [_, _], _ => rfl) fun base cdv A outer s H EX hr => by
    exact (dss_cons (o1 := []) (ds_expr (by exact mDef_pl) (de_call (D_need_square E) (hr.mono (by decide)) (by exact mDef_tk) rfl (da_cons (de_var 0) da_nil))) (dss_cons (o1 := []) (ds_expr (by exact mDef_pl) (de_call (D_need_wish E) (hr.mono (by decide)) (by exact mDef_tk) rfl (da_cons (de_len rfl (E.free 0) (da_cons (de_idx (de_var 0) de_int) da_nil)) (da_cons (de_var 1) da_nil)))) (dss_one (ds_ret (by exact mDef_pl) (de_call (D_serves E) (hr.mono (by decide)) (by exact mDef_tk) rfl (da_cons (de_var 0) (da_cons (de_var 1) da_nil)))))))

/-! ### needless_diodes -/
theorem D_needless_diodes (E : EvL K mg) : Prom P w K mg "needless_diodes" 5 ["square", "wish"] F_needless_diodes :=
  have SC : FnScope ["square", "wish", "rest", "key", "keys", "one"] ["square", "wish"] (defScope (top 31)) := ⟨rfl, rfl, rfl, by decide +kernel, rfl, by decide +kernel, by decide +kernel⟩
  E.prom 22 46 "needless_diodes" (top 31) ["square", "wish", "rest", "key", "keys", "one"] ["square", "wish"] 6 2 4 [] G_needless_diodes rfl rfl (by rfl) (by rfl) SC (fun _ _ _ _ _ _ us hl => match us, hl with | [_, _], _ => rfl) fun base cdv A outer s H EX hr => by
    exact (dss_cons (o1 := []) (ds_expr (by exact mDef_pl) (de_call (D_need_square E) (hr.mono (by decide)) (by exact mDef_tk) rfl (da_cons (de_var 0) da_nil))) (dss_cons (o1 := []) (ds_expr (by exact mDef_pl) (de_call (D_need_wish E) (hr.mono (by decide)) (by exact mDef_tk) rfl (da_cons (de_len rfl (E.free 0) (da_cons (de_idx (de_var 0) de_int) da_nil)) (da_cons (de_var 1) da_nil)))) (dss_cons (o1 := []) (ds_if (by exact mDef_pl) (dt_not (dt_of (de_call (D_serves E) (hr.mono (by decide)) (by exact mDef_tk) rfl (da_cons (de_var 0) (da_cons (de_var 1) da_nil))))) (dss_one (ds_ret (by exact mDef_pl) (de_lst da_nil))) dss_nil) (dss_cons (o1 := []) (ds_plain (by exact mDef_pl) [] (by first | exact (dsn_lc 2 [("key", 3)] rfl SC.nd rfl (di_seq (de_idx (de_var 0) de_int)) (blkOk_by rfl) (fun _ _ _ _ _ => (pg_name (i := 3) SC.nd rfl (by first | exact Or.inl rfl | exact Or.inr rfl))) (tg_name (i := 3)) (by decide) (nonesIn rfl) (fun _ _ _ _ _ => dts_nil) (fun _ _ _ _ _ => (de_tup (da_cons (de_var 3) (da_cons (de_tuple rfl (E.free 3) (da_cons (de_ofN (dn_comp [("one", 5)] rfl SC.nd rfl (di_seq (de_idx (de_var 0) de_int)) (blkOk_by rfl) (fun _ _ _ _ _ => (pg_name (i := 5) SC.nd rfl (by first | exact Or.inl rfl | exact Or.inr rfl))) (tg_name (i := 5)) (by decide) (nonesIn rfl) (fun _ _ _ _ _ => (dts_one (dt_cmp (cm_ne hr) (de_var 5) (de_var 3)))) (fun _ _ _ _ _ => (de_var 5)))) da_nil)) da_nil)))) (sw_true rfl rfl rfl rfl)) | exact (dsn_e 2 SC.nd (dn_comp [("key", 3)] rfl SC.nd rfl (di_seq (de_idx (de_var 0) de_int)) (blkOk_by rfl) (fun _ _ _ _ _ => (pg_name (i := 3) SC.nd rfl (by first | exact Or.inl rfl | exact Or.inr rfl))) (tg_name (i := 3)) (by decide) (nonesIn rfl) (fun _ _ _ _ _ => dts_nil) (fun _ _ _ _ _ => (de_tup (da_cons (de_var 3) (da_cons (de_tuple rfl (E.free 3) (da_cons (de_ofN (dn_comp [("one", 5)] rfl SC.nd rfl (di_seq (de_idx (de_var 0) de_int)) (blkOk_by rfl) (fun _ _ _ _ _ => (pg_name (i := 5) SC.nd rfl (by first | exact Or.inl rfl | exact Or.inr rfl))) (tg_name (i := 5)) (by decide) (nonesIn rfl) (fun _ _ _ _ _ => (dts_one (dt_cmp (cm_ne hr) (de_var 5) (de_var 3)))) (fun _ _ _ _ _ => (de_var 5)))) da_nil)) da_nil)))))))) (dss_one (ds_ret (by exact mDef_pl) (de_ofN (dn_comp [("key", 3), ("keys", 4)] rfl SC.nd rfl (di_seq (de_var 2)) (blkOk_by rfl) (fun _ _ _ _ _ => (pg_tup rfl (pgs_cons (pg_name (i := 3) SC.nd rfl (by first | exact Or.inl rfl | exact Or.inr rfl)) (pgs_cons (pg_name (i := 4) SC.nd rfl (by first | exact Or.inl rfl | exact Or.inr rfl)) pgs_nil)))) (tg_tup (is := [3, 4]) (.cons (i := 3) (.cons (i := 4) .nil))) (by decide) (nonesIn rfl) (fun _ _ _ _ _ => (dts_one (dt_of (de_call (D_serves E) (hr.mono (by decide)) (by exact takesF) rfl (da_cons (de_tup (da_cons (de_idx (de_var 0) de_int) (da_cons (de_var 4) da_nil))) (da_cons (de_var 1) da_nil)))))) (fun _ _ _ _ _ => (de_var 3))))))))))

/-! ### sets_upto -/
theorem D_sets_upto (E : EvL K mg) : Prom P w K mg "sets_upto" 2 ["many", "size"] F_sets_upto :=
  have SC : FnScope ["many", "size", "found", "one"] ["many", "size"] (defScope (top 33)) := ⟨rfl, rfl, rfl, by decide +kernel, rfl, by decide +kernel, by decide +kernel⟩
  E.prom 23 47 "sets_upto" (top 33) ["many", "size", "found", "one"] ["many", "size"] 4 2 1 [] G_sets_upto rfl rfl (by rfl) (by rfl) SC (fun _ _ _ _ _ _ us hl => match us, hl with | [_, _], _ => rfl) fun base cdv A outer s H EX hr => by
    exact (dss_cons (o1 := [2]) (ds_own (by exact mDef_pl) [2] (dsn_e 2 SC.nd (dn_lst da_nil))) (dss_cons (o1 := [2]) (ds_for (by exact mDef_pl) (by exact mDef_po) rfl (di_range1 rfl (E.free 1) (da_cons (de_add (de_var 1) de_int) da_nil)) (pg_name (i := 3) SC.nd rfl (by first | exact Or.inl rfl | exact Or.inr rfl)) (tg_name (i := 3)) (nonesIn rfl) (dss_one (ds_extend (by exact mDef_pl) 2 (yIn rfl) (pe_bm_extend (pv 2) (de_call (D_sets_of E) (hr.mono (by decide)) (by exact mDef_tk) rfl (da_cons (de_var 0) (da_cons (de_var 3) da_nil)))) rfl))) (dss_freeze 2 [] (dss_one (ds_ret (by exact mDef_pl) (de_var 2))))))

/-! ### rolls_by_diodes -/
theorem D_rolls_by_diodes (E : EvL K mg) : Prom P w K mg "rolls_by_diodes" 5 ["square", "most"] F_rolls_by_diodes :=
  have SC : FnScope ["square", "most", "many", "best", "size", "keys"] ["square", "most"] (defScope (top 32)) := ⟨rfl, rfl, rfl, by decide +kernel, rfl, by decide +kernel, by decide +kernel⟩
  E.prom 24 48 "rolls_by_diodes" (top 32) ["square", "most", "many", "best", "size", "keys"] ["square", "most"] 6 2 4 [] G_rolls_by_diodes rfl rfl (by rfl) (by rfl) SC (fun _ _ _ _ _ _ us hl => match us, hl with | [_, _], _ => rfl) fun base cdv A outer s H EX hr => by
    exact (dss_cons (o1 := []) (ds_expr (by exact mDef_pl) (de_call (D_need_square E) (hr.mono (by decide)) (by exact mDef_tk) rfl (da_cons (de_var 0) da_nil))) (dss_cons (o1 := []) (ds_if (by exact mDef_pl) (dt_not (dt_of (de_call (D_is_number E) (hr.mono (by decide)) (by exact mDef_tk) rfl (da_cons (de_var 1) (da_cons de_int (da_cons (de_gint (E.int 7)) da_nil)))))) (dss_one (ds_raise rfl (by exact mDef_tk) (E.exc 21) (E.glo 22))) dss_nil) (dss_cons (o1 := []) (ds_set (by exact mDef_pl) 2 [] SC.nd (de_len rfl (E.free 0) (da_cons (de_idx (de_var 0) de_int) da_nil))) (dss_cons (o1 := []) (ds_set (by exact mDef_pl) 3 [] SC.nd de_int) (dss_cons (o1 := []) (ds_for (by exact mDef_pl) (by exact mDef_po) rfl (di_range1 rfl (E.free 1) (da_cons (de_add (de_min2 rfl rfl (E.free 23) (da_cons (de_var 1) (da_cons (de_var 2) da_nil))) de_int) da_nil)) (pg_name (i := 4) SC.nd rfl (by first | exact Or.inl rfl | exact Or.inr rfl)) (tg_name (i := 4)) (nonesIn rfl) (dss_one (ds_for (by exact mDef_pl) (by exact mDef_po) rfl (di_seq (de_call (D_sets_of E) (hr.mono (by decide)) (by exact mDef_tk) rfl (da_cons (de_var 2) (da_cons (de_var 4) da_nil)))) (pg_name (i := 5) SC.nd rfl (by first | exact Or.inl rfl | exact Or.inr rfl)) (tg_name (i := 5)) (nonesIn rfl) (dss_one (ds_while (by exact mDef_pl) FUEL (by exact mDef_po) (DW.t (dw_and (dt_cmp (cm_lt hr) (de_var 3) (de_var 2)) (dw_and1 (dt_of (de_call (D_serves E) (hr.mono (by decide)) (by exact mDef_tk) rfl (da_cons (de_tup (da_cons (de_idx (de_var 0) de_int) (da_cons (de_var 5) da_nil))) (da_cons (de_call (D_sets_upto E) (hr.mono (by decide)) (by exact mDef_tk) rfl (da_cons (de_var 2) (da_cons (de_add (de_var 3) de_int) da_nil))) da_nil))))))) (dss_one (ds_set (by exact mDef_pl) 3 [] SC.nd (de_add (de_var 3) de_int)))))))) (dss_one (ds_ret (by exact mDef_pl) (de_var 3))))))))

/-! ### safe_rolls -/
theorem D_safe_rolls (E : EvL K mg) : Prom P w K mg "safe_rolls" 5 ["square"] F_safe_rolls :=
  have SC : FnScope ["square", "found"] ["square"] (defScope (top 28)) := ⟨rfl, rfl, rfl, by decide +kernel, rfl, by decide +kernel, by decide +kernel⟩
  E.prom 25 49 "safe_rolls" (top 28) ["square", "found"] ["square"] 2 1 4 [] G_safe_rolls rfl rfl (by rfl) (by rfl) SC (fun _ _ _ _ _ _ us hl => match us, hl with | [_], _ => rfl) fun base cdv A outer s H EX hr => by
    exact (dss_cons (o1 := []) (ds_expr (by exact mDef_pl) (de_call (D_need_square E) (hr.mono (by decide)) (by exact mDef_tk) rfl (da_cons (de_var 0) da_nil))) (dss_cons (o1 := []) (ds_set (by exact mDef_pl) 1 [] SC.nd de_int) (dss_cons (o1 := []) (ds_while (by exact mDef_pl) FUEL (by exact mDef_po) (DW.t (dw_and (dt_cmp (cm_lt hr) (de_var 1) (de_len rfl (E.free 0) (da_cons (de_idx (de_var 0) de_int) da_nil))) (dw_and1 (dt_of (de_call (D_serves E) (hr.mono (by decide)) (by exact mDef_tk) rfl (da_cons (de_var 0) (da_cons (de_call (D_sets_of E) (hr.mono (by decide)) (by exact mDef_tk) rfl (da_cons (de_len rfl (E.free 0) (da_cons (de_idx (de_var 0) de_int) da_nil)) (da_cons (de_add (de_var 1) de_int) da_nil))) da_nil))))))) (dss_one (ds_set (by exact mDef_pl) 1 [] SC.nd (de_add (de_var 1) de_int)))) (dss_one (ds_ret (by exact mDef_pl) (de_var 1))))))

/-! ### law -/
theorem D_law (E : EvL K mg) : Prom P w K mg "law" 6 ["_law_script"] F_law_k22 :=
  have SC : FnScope ["_law_script", "_law_square_here", "_law_many", "_law_one", "_law_other", "_law_both", "_law_wish_here", "_law_last", "_law_most", "_law_keys", "_law_best", "_law_full", "_law_here", "_law_free", "_law_key", "_law_rest", "_law_more"] ["_law_script"] (defScope (top 40)) := ⟨rfl, rfl, rfl, by decide +kernel, rfl, by decide +kernel, by decide +kernel⟩
  E.prom 26 50 "law" (top 40) ["_law_script", "_law_square_here", "_law_many", "_law_one", "_law_other", "_law_both", "_law_wish_here", "_law_last", "_law_most", "_law_keys", "_law_best", "_law_full", "_law_here", "_law_free", "_law_key", "_law_rest", "_law_more"] ["_law_script"] 17 1 5 [] G_law_k22 rfl rfl (by rfl) (by rfl) SC (fun _ _ _ _ _ _ us hl => match us, hl with | [_], _ => rfl) fun base cdv A outer s H EX hr => by
    exact (dss_cons (o1 := []) (ds_set (by exact mDef_pl) 1 [] SC.nd (de_call (D__law_square E) (hr.mono (by decide)) (by exact mDef_tk) rfl (da_cons (de_var 0) (da_cons de_int (da_cons de_int da_nil))))) (dss_cons (o1 := []) (ds_set (by exact mDef_pl) 2 [] SC.nd (de_len rfl (E.free 0) (da_cons (de_idx (de_var 1) de_int) da_nil))) (dss_cons (o1 := []) (ds_set (by exact mDef_pl) 3 [] SC.nd (de_call (D__law_wish E) (hr.mono (by decide)) (by exact mDef_tk) rfl (da_cons (de_var 0) (da_cons de_int (da_cons (de_var 2) (da_cons de_int da_nil)))))) (dss_cons (o1 := []) (ds_set (by exact mDef_pl) 4 [] SC.nd (de_call (D__law_wish E) (hr.mono (by decide)) (by exact mDef_tk) rfl (da_cons (de_var 0) (da_cons de_int (da_cons (de_var 2) (da_cons de_int da_nil)))))) (dss_cons (o1 := []) (ds_set (by exact mDef_pl) 5 [] SC.nd (de_tuple rfl (E.free 3) (da_cons (de_srtSet (rm_of hr) rfl rfl (E.free 4) rfl (E.free 5) (de_add (de_var 3) (de_var 4))) da_nil))) (dss_cons (o1 := []) (ds_for (by exact mDef_pl) (by exact mDef_po) rfl (di_seq (de_tup (da_cons (de_var 3) (da_cons (de_var 4) (da_cons (de_var 5) da_nil))))) (pg_name (i := 6) SC.nd rfl (by first | exact Or.inl rfl | exact Or.inr rfl)) (tg_name (i := 6)) (nonesIn rfl) (dss_cons (o1 := []) (ds_set (by exact mDef_pl) 9 [] SC.nd (de_call (D_fewest_diodes E) (hr.mono (by decide)) (by exact mDef_tk) rfl (da_cons (de_var 1) (da_cons (de_var 6) da_nil)))) (dss_cons (o1 := []) (ds_set (by exact mDef_pl) 10 [] SC.nd (de_call (D_with_diodes E) (hr.mono (by decide)) (by exact mDef_tk) rfl (da_cons (de_var 1) (da_cons (de_var 9) da_nil)))) (dss_cons (o1 := []) (ds_if (by exact mDef_pl) (DW.t (dw_or (dt_not (dt_of (de_call (D_is_served E) (hr.mono (by decide)) (by exact mDef_tk) rfl (da_cons (de_var 10) (da_cons (de_var 6) da_nil))))) (dw_or1 (dt_cmp (cm_ne hr) (de_call (D_needless_diodes E) (hr.mono (by decide)) (by exact mDef_tk) rfl (da_cons (de_var 10) (da_cons (de_var 6) da_nil))) (de_lst da_nil))))) (dss_one (ds_ret (by exact mDef_pl) de_bl)) dss_nil) (dss_cons (o1 := []) (ds_if (by exact mDef_pl) (dt_cmp (cm_ne hr) (de_cmp (cm_eq hr) (de_var 9) (de_tup da_nil)) (de_call (D_is_served E) (hr.mono (by decide)) (by exact mDef_tk) rfl (da_cons (de_call (D_with_diodes E) (hr.mono (by decide)) (by exact mDef_tk) rfl (da_cons (de_var 1) (da_cons (de_tup da_nil) da_nil))) (da_cons (de_var 6) da_nil)))) (dss_one (ds_ret (by exact mDef_pl) de_bl)) dss_nil) (dss_cons (o1 := []) (ds_if (by exact mDef_pl) (dt_cmp (cm_lt hr) (de_len rfl (E.free 0) (da_cons (de_call (D_fewest_diodes E) (hr.mono (by decide)) (by exact mDef_tk) rfl (da_cons (de_var 1) (da_cons (de_var 5) da_nil))) da_nil)) (de_len rfl (E.free 0) (da_cons (de_var 9) da_nil))) (dss_one (ds_ret (by exact mDef_pl) de_bl)) dss_nil) (dss_cons (o1 := []) (ds_set (by exact mDef_pl) 11 [] SC.nd (de_call (D_with_diodes E) (hr.mono (by decide)) (by exact mDef_tk) rfl (da_cons (de_var 1) (da_cons (de_trg1 rfl rfl (E.free 3) rfl (E.free 1) (de_var 2)) da_nil)))) (dss_cons (o1 := []) (ds_for (by exact mDef_pl) (by exact mDef_po) rfl (di_seq (de_tup (da_cons (de_var 1) (da_cons (de_var 11) da_nil)))) (pg_name (i := 12) SC.nd rfl (by first | exact Or.inl rfl | exact Or.inr rfl)) (tg_name (i := 12)) (nonesIn rfl) (dss_cons (o1 := []) (ds_set (by exact mDef_pl) 13 [] SC.nd (de_call (D_needless_diodes E) (hr.mono (by decide)) (by exact mDef_tk) rfl (da_cons (de_var 12) (da_cons (de_var 6) da_nil)))) (dss_cons (o1 := []) (ds_if (by exact mDef_pl) (DW.t (dw_and (dt_not (dt_of (de_call (D_is_served E) (hr.mono (by decide)) (by exact mDef_tk) rfl (da_cons (de_var 12) (da_cons (de_var 6) da_nil))))) (dw_and1 (dt_cmp (cm_ne hr) (de_var 13) (de_lst da_nil))))) (dss_one (ds_ret (by exact mDef_pl) de_bl)) dss_nil) (dss_one (ds_for (by exact mDef_pl) (by exact mDef_po) rfl (di_seq (de_idx (de_var 12) de_int)) (pg_name (i := 14) SC.nd rfl (by first | exact Or.inl rfl | exact Or.inr rfl)) (tg_name (i := 14)) (nonesIn rfl) (dss_cons (o1 := []) (ds_set (by exact mDef_pl) 15 [] SC.nd (de_call (D_with_diodes E) (hr.mono (by decide)) (by exact mDef_tk) rfl (da_cons (de_var 12) (da_cons (de_tuple rfl (E.free 3) (da_cons (de_ofN (dn_comp [("_law_more", 16)] rfl SC.nd rfl (di_seq (de_idx (de_var 12) de_int)) (blkOk_by rfl) (fun _ _ _ _ _ => (pg_name (i := 16) SC.nd rfl (by first | exact Or.inl rfl | exact Or.inr rfl))) (tg_name (i := 16)) (by decide) (nonesIn rfl) (fun _ _ _ _ _ => (dts_one (dt_cmp (cm_ne hr) (de_var 16) (de_var 14)))) (fun _ _ _ _ _ => (de_var 16)))) da_nil)) da_nil)))) (dss_one (ds_if (by exact mDef_pl) (DW.t (dw_and (dt_of (de_call (D_is_served E) (hr.mono (by decide)) (by exact mDef_tk) rfl (da_cons (de_var 12) (da_cons (de_var 6) da_nil)))) (dw_and1 (dt_cmp (cm_ne hr) (de_cmp (cm_in hr rfl) (de_var 14) (de_var 13)) (de_call (D_is_served E) (hr.mono (by decide)) (by exact mDef_tk) rfl (da_cons (de_var 15) (da_cons (de_var 6) da_nil))))))) (dss_one (ds_ret (by exact mDef_pl) de_bl)) dss_nil)))))))) (dss_one (ds_if (by exact mDef_pl) (dt_cmp (cm_lt hr) (de_call (D_rolls_by_diodes E) (hr.mono (by decide)) (by exact mDef_tk) rfl (da_cons (de_var 1) (da_cons (de_len rfl (E.free 0) (da_cons (de_var 9) da_nil)) da_nil))) (de_call (D_safe_rolls E) (hr.mono (by decide)) (by exact mDef_tk) rfl (da_cons (de_var 10) da_nil))) (dss_one (ds_ret (by exact mDef_pl) de_bl)) dss_nil)))))))))) (dss_cons (o1 := []) (ds_set (by exact mDef_pl) 7 [] SC.nd de_int) (dss_cons (o1 := []) (ds_for (by exact mDef_pl) (by exact mDef_po) rfl (di_range1 rfl (E.free 1) (da_cons (de_add (de_var 2) de_int) da_nil)) (pg_name (i := 8) SC.nd rfl (by first | exact Or.inl rfl | exact Or.inr rfl)) (tg_name (i := 8)) (nonesIn rfl) (dss_cons (o1 := []) (ds_set (by exact mDef_pl) 12 [] SC.nd (de_call (D_rolls_by_diodes E) (hr.mono (by decide)) (by exact mDef_tk) rfl (da_cons (de_var 1) (da_cons (de_var 8) da_nil)))) (dss_cons (o1 := []) (ds_if (by exact mDef_pl) (dt_cmp (cm_lt hr) (de_var 12) (de_var 7)) (dss_one (ds_ret (by exact mDef_pl) de_bl)) dss_nil) (dss_one (ds_set (by exact mDef_pl) 7 [] SC.nd (de_var 12)))))) (dss_one (ds_ret (by exact mDef_pl) (de_and (de_cmp (cm_eq hr) (de_var 7) (de_var 2)) (de_one (de_cmp (cm_eq hr) (de_call (D_fewest_diodes E) (hr.mono (by decide)) (by exact mDef_tk) rfl (da_cons (de_var 1) (da_cons (de_tup da_nil) da_nil))) (de_tup da_nil))))))))))))))

end
def loose : List Str := [("SquareError" : Str), ("NoSquare" : Str), ("NoKeys" : Str), ("NoWish" : Str), ("NoNumber" : Str), ("MOST_KEYS" : Str), ("MOST_WIRES" : Str), ("is_number" : Str), ("is_spot" : Str), ("are_keys_of" : Str), ("is_square" : Str), ("need_square" : Str), ("need_keys" : Str), ("with_diodes" : Str), ("back_rows" : Str), ("with_more" : Str), ("columns_from" : Str), ("keys_seen" : Str), ("MOST_SETS" : Str), ("is_wish_of" : Str), ("need_wish" : Str), ("serves" : Str), ("is_served" : Str), ("sets_of" : Str), ("safe_rolls" : Str), ("fewest_diodes" : Str), ("needless_diodes" : Str), ("rolls_by_diodes" : Str), ("sets_upto" : Str), ("_law_cell" : Str), ("_law_drawn" : Str), ("_law_square" : Str), ("_law_set" : Str), ("_law_wish" : Str)]
def lawAt : Nat := 40
def lawLev : Nat := 6

/-! ### the head, the end -/
abbrev R : PySem.W.OpenRow := PySem.W.OpenLaw.row PySem.Challenge.rw_wiresquares_k22_whole_needless
abbrev hk : PySem.W.Hook := hookQ 4 fa fn ex
def ob (s : PySem.W.SharedT) : AlQ := obsQ 4 fa fn ex (HandSHeadRun.getT s)
theorem ob_eq (s : PySem.W.SharedT) : ob s = hk.obs s.abs := obsQ_eq (HandSHeadRun.getT_eq s)
theorem run (w : World) : HandSHeadRun.RunEq R (PySem.W.view R.prog [lawAt]) hk ob 3000 loose w := by
  intro os
  kernel_rfl
theorem holds_of (hF : ∀ ns : List Int, ns.length ≤ 63 → F_law_k22 [.scr ns] [] = .ok (.bl true) []) : PySem.Challenge.rw_wiresquares_k22_whole_needless.Holds := by
  w_on; o_law
  refine HandSHeadRun.head_any (r := PySem.W.OpenLaw.row PySem.Challenge.rw_wiresquares_k22_whole_needless) (q := PySem.W.view (PySem.W.OpenLaw.row PySem.Challenge.rw_wiresquares_k22_whole_needless).prog [lawAt]) (H := hk) (ob := ob) (M := 3000) (loose := loose) (d := HandSHeadRun.topDef (PySem.W.OpenLaw.row PySem.Challenge.rw_wiresquares_k22_whole_needless).prog lawAt) (kwd := []) ob_eq
    (by kernel_rfl) (fun s => by kernel_rfl) run (by kernel_rfl) (by kernel_rfl) (by kernel_rfl) (by rfl) (by first | assumption | decide +kernel) (by decide +kernel) ⟨rfl, rfl, rfl, rfl, rfl, by decide +kernel⟩ ?hw ?hc
  case hw => w_witness2
  case hc =>
    refine L2.walk_ofE (l := PySem.Challenge.rw_wiresquares_k22_whole_needless) (n := 63) (k := lawLev) (x := "_law_script") (CX := fun o H s E u s' => ∃ w : World, L2N.CX (PySem.Challenge.rw_wiresquares_k22_whole_needless).prog w o H s E u s') rfl (by decide) (by kernel_rfl) ⟨rfl, by decide, by decide⟩ ?F (fun H s e s' ⟨w, z⟩ => cx_none H s e s' z)
    intro w mg f h Y G hmg0
    obtain ⟨K, KX, c, cx⟩ := Y
    have hmg : mg ("law" : PySem.Str) = some (.ref f) := by
      have e : (HandSHeadRun.topDef (PySem.W.OpenLaw.row PySem.Challenge.rw_wiresquares_k22_whole_needless).prog lawAt).name = ("law" : PySem.Str) := by kernel_rfl
      rw [← e]
      exact hmg0
    obtain ⟨fd, hb, hP⟩ := Prom.at (D_law (P := (PySem.Challenge.rw_wiresquares_k22_whole_needless).prog) (w := w) ⟨⟨h, KX, G⟩, c, cx⟩) hmg
    exact ⟨K, fd, spD K F_law_k22, KX, hb, fun H a ns hl _ hS => sp_law (hF ns hl) hS, fun base h1 h2 => fn_cx (hP base h1 h2) fun _ _ _ _ _ _ z => ⟨w, z⟩⟩


end Wk22

theorem PySem.Challenge.cw_wiresquares_k22_whole_needless_holds : PySem.Challenge.rw_wiresquares_k22_whole_needless.Holds := by
  exact Wk22.holds_of fun ns h => by
    rw [DL.K22.law h]
    rfl
