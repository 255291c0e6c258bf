import PyProof.Rows.All
import Wide.All
import OpenK.AllK
import Wide.FinOn
import HandS.ForMost
import HandS.Exc
import HandS.TryOnly
import HandS.ExcOwn
import HandS.WordsExc
import HandS.CallSlots
import HandS.TupAny
import HandS.Wide
import HandS.Walk
import HandS.Zip
import HandS.Style
import HandS.Defaults
import HandS.IsInst
import HandS.SortInts
import HandS.Strs
import KE.GoesMore
import Lean
import KE.KStateDown
import HandS.More
import HandS.Head0
import HandS.Head1
import HandS.Head2
import HandS.HeadEnd
import HandS.HeadHook1
import HandS.HeadHook2
import HandS.Conv
import PySem.Challenge.RW_readsenough_k03_what_askings_ask_for
set_option Elab.async false
set_option linter.all false
set_option autoImplicit false
set_option maxRecDepth 100000
set_option maxHeartbeats 0
namespace Mi
open PySem PySem.Spec PyProof.Rows L2
abbrev St := L2.St

/-- what a program's value is, lists by value where nothing writes them -/
inductive D where
  | non | bl (b : Bool) | int (i : Int) | str (x : Str) | tup (xs : List D) | lst (xs : List D) | scr (xs : List D) | ref (n : Nat) | raw (v : V)

inductive Cell where
  | dead
  | lst (xs : List D)
  | dct (kvs : List (Str × D))
abbrev Cs := List Cell

structure Exc where
  c : Str
  fs : Option (List (Str × D))

inductive R (α : Type) where
  | ok (a : α)
  | err (e : Exc) (c : Cs)
  | stuck
def R.bind {α β : Type} : R α → (α → R β) → R β
  | .ok a, f => f a
  | .err e c, _ => .err e c
  | .stuck, _ => .stuck
@[simp] theorem R.bind_ok {α β : Type} (a : α) (f : α → R β) : (R.ok a).bind f = f a := rfl
@[simp] theorem R.bind_err {α β : Type} (e : Exc) (c : Cs) (f : α → R β) : (R.err e c).bind f = .err e c := rfl
@[simp] theorem R.bind_stuck {α β : Type} (f : α → R β) : (R.stuck : R α).bind f = .stuck := rfl

abbrev Env := List (Option D)
abbrev EF := Env → Cs → R (D × Cs)
abbrev AF := Env → Cs → R (List D × Cs)
abbrev TF := Env → Cs → R (Bool × Cs)
abbrev DF := List D → Cs → R (D × Cs)
inductive Fl where
  | next | ret (d : D) | brk | cont
abbrev SF := Env → Cs → R (Fl × Env × Cs)

/-- a state: the addresses of the cells, the cells, the heap -/
structure Am where
  l : List Addr
  x : List Addr
structure Wd where
  m : Am
  c : Cs
  H : Hp
/-- what may be written: a cell that lives, a list in the making -/
def Wd.act (w : Wd) (a : Addr) : Prop := (∃ (n : Nat) (k : Cell), w.m.l[n]? = some a ∧ w.c[n]? = some k ∧ k ≠ Cell.dead) ∨ a ∈ w.m.x

/-- a list that stands still: the script -/
def SqF (K : PySem.W.Frag) (H : Hp) (a : Addr) (xs : List V) : Prop := (∃ o, H a = some (.frz o (.lst xs))) ∨
  ∃ (o : Obj) (its : Array Value) (n : Nat), K.lookup a = some o ∧ o.cls = .type "list" ∧ o.dict = none ∧ o.data = .seq its n ∧ its.size ≤ sizeLine ∧ Vals xs its.toList
theorem SqF.sq {K : PySem.W.Frag} {H : Hp} {a : Addr} {xs : List V} (h : SqF K H a xs) : SqL K H a xs := by
  rcases h with ⟨o, h⟩ | h
  · exact .inl (.inr ⟨o, h⟩)
  · exact .inr h
theorem SqF.ty {K : PySem.W.Frag} {H : Hp} {a : Addr} {xs : List V} (h : SqF K H a xs) : (∃ o, H a = some (.frz o (.lst xs))) ∨ ∃ o, K.lookup a = some o ∧ o.cls = .type "list" := by
  rcases h with h | ⟨o, its, n, h, c, _⟩
  · exact .inl h
  · exact .inr ⟨o, h, c⟩
section
variable (K : PySem.W.Frag) (w : Wd)
mutual
def Rp : D → V → Prop
  | .non, v => v = .non
  | .bl b, v => v = .bl b
  | .int i, v => v = .int i
  | .str x, v => v = .str x
  | .raw u, v => v = u
  | .ref n, v => ∃ a, v = .ref a ∧ w.m.l[n]? = some a
  | .tup xs, v => ∃ a vs, v = .ref a ∧ SqT K w.H a vs ∧ Rps xs vs
  | .lst xs, v => ∃ a vs, v = .ref a ∧ w.H a = some (.lst vs) ∧ ¬ w.act a ∧ Rps xs vs
  | .scr xs, v => ∃ a vs, v = .ref a ∧ SqF K w.H a vs ∧ Rps xs vs
def Rps : List D → List V → Prop
  | [], vs => vs = []
  | x :: xs, vs => ∃ v ws, vs = v :: ws ∧ Rp x v ∧ Rps xs ws
end
end

structure Lat0 (w w' : Wd) : Prop where
  pre : ∃ t, w'.m.l = w.m.l ++ t
  tup : ∀ a vs, w.H a = some (.tup vs) → w'.H a = some (.tup vs)
  lst : ∀ a vs, w.H a = some (.lst vs) → ¬ w.act a → w'.H a = some (.lst vs) ∧ ¬ w'.act a
  frz : ∀ a o u, w.H a = some (.frz o u) → w'.H a = some (.frz o u)
structure Later (w w' : Wd) : Prop extends Lat0 w w' where
  sx : w'.m.x = w.m.x
  exm : ∀ a ∈ w.m.x, w'.H a = w.H a
theorem Lat0.refl (w : Wd) : Lat0 w w := ⟨⟨[], by simp⟩, fun _ _ h => h, fun _ _ h n => ⟨h, n⟩, fun _ _ _ h => h⟩
theorem Later.refl (w : Wd) : Later w w := ⟨Lat0.refl w, rfl, fun _ _ => rfl⟩
theorem Lat0.trans {a b c : Wd} (x : Lat0 a b) (y : Lat0 b c) : Lat0 a c := by
  refine ⟨?_, fun p vs h => y.tup p vs (x.tup p vs h), fun p vs h n => ?_, fun p o u h => y.frz p o u (x.frz p o u h)⟩
  · obtain ⟨t, e⟩ := x.pre
    obtain ⟨t', e'⟩ := y.pre
    exact ⟨t ++ t', by rw [e', e, List.append_assoc]⟩
  · obtain ⟨h1, n1⟩ := x.lst p vs h n
    exact y.lst p vs h1 n1
theorem Later.trans {a b c : Wd} (x : Later a b) (y : Later b c) : Later a c :=
  ⟨x.toLat0.trans y.toLat0, y.sx.trans x.sx, fun p h => (y.exm p (by rw [x.sx]; exact h)).trans (x.exm p h)⟩
theorem Lat0.get {w w' : Wd} (x : Lat0 w w') {n : Nat} {a : Addr} (h : w.m.l[n]? = some a) : w'.m.l[n]? = some a := by
  obtain ⟨t, e⟩ := x.pre
  rw [e, List.getElem?_append_left (List.getElem?_eq_some_iff.mp h).1]
  exact h
theorem Lat0.sqT {w w' : Wd} {K : PySem.W.Frag} (x : Lat0 w w') {a : Addr} {vs : List V} (h : SqT K w.H a vs) : SqT K w'.H a vs := by
  rcases h with (h | ⟨o, h⟩) | h
  · exact .inl (.inl (x.tup a vs h))
  · exact .inl (.inr ⟨o, x.frz a o _ h⟩)
  · exact .inr h

mutual
theorem Rp.mono {K : PySem.W.Frag} {w w' : Wd} (x : Lat0 w w') : ∀ (d : D) (v : V), Rp K w d v → Rp K w' d v
  | .non, v, h => by simpa [Rp] using h
  | .bl b, v, h => by simpa [Rp] using h
  | .int i, v, h => by simpa [Rp] using h
  | .str s, v, h => by simpa [Rp] using h
  | .raw u, v, h => by simpa [Rp] using h
  | .ref n, v, h => by
    simp only [Rp] at h ⊢
    obtain ⟨a, e, h⟩ := h
    exact ⟨a, e, x.get h⟩
  | .tup xs, v, h => by
    simp only [Rp] at h ⊢
    obtain ⟨a, vs, e, h, r⟩ := h
    exact ⟨a, vs, e, x.sqT h, Rps.mono x xs vs r⟩
  | .lst xs, v, h => by
    simp only [Rp] at h ⊢
    obtain ⟨a, vs, e, h, n, r⟩ := h
    obtain ⟨h', n'⟩ := x.lst a vs h n
    exact ⟨a, vs, e, h', n', Rps.mono x xs vs r⟩
  | .scr xs, v, h => by
    simp only [Rp] at h ⊢
    obtain ⟨a, vs, e, h, r⟩ := h
    exact ⟨a, vs, e, h.elim (fun ⟨o, h⟩ => .inl ⟨o, x.frz a o _ h⟩) .inr, Rps.mono x xs vs r⟩
theorem Rps.mono {K : PySem.W.Frag} {w w' : Wd} (x : Lat0 w w') : ∀ (ds : List D) (vs : List V), Rps K w ds vs → Rps K w' ds vs
  | [], vs, h => by simpa [Rps] using h
  | d :: ds, vs, h => by
    simp only [Rps] at h ⊢
    obtain ⟨v, ws, e, h1, h2⟩ := h
    exact ⟨v, ws, e, Rp.mono x d v h1, Rps.mono x ds ws h2⟩
end
theorem Rps.nil {K : PySem.W.Frag} {w : Wd} : Rps K w [] [] := by simp [Rps]
theorem Rps.cons {K : PySem.W.Frag} {w : Wd} {d : D} {ds : List D} {v : V} {vs : List V} (h : Rp K w d v) (hs : Rps K w ds vs) : Rps K w (d :: ds) (v :: vs) := by
  simp only [Rps]; exact ⟨v, vs, rfl, h, hs⟩
theorem Rps.length {K : PySem.W.Frag} {w : Wd} : ∀ {ds : List D} {vs : List V}, Rps K w ds vs → ds.length = vs.length
  | [], vs, h => by simp only [Rps] at h; subst h; rfl
  | d :: ds, vs, h => by
    simp only [Rps] at h
    obtain ⟨v, ws, rfl, _, h⟩ := h
    simp [h.length]
theorem Rps.append {K : PySem.W.Frag} {w : Wd} : ∀ {ds es : List D} {vs us : List V}, Rps K w ds vs → Rps K w es us → Rps K w (ds ++ es) (vs ++ us)
  | [], es, vs, us, h, h' => by simp only [Rps] at h; subst h; exact h'
  | d :: ds, es, vs, us, h, h' => by
    simp only [Rps] at h
    obtain ⟨v, ws, rfl, h1, h2⟩ := h
    exact Rps.cons h1 (Rps.append h2 h')
theorem Rps.get {K : PySem.W.Frag} {w : Wd} : ∀ {ds : List D} {vs : List V} {i : Nat} {d : D}, Rps K w ds vs → ds[i]? = some d → ∃ v, vs[i]? = some v ∧ Rp K w d v
  | [], vs, i, d, h, e => by simp at e
  | x :: ds, vs, i, d, h, e => by
    simp only [Rps] at h
    obtain ⟨v, ws, rfl, h1, h2⟩ := h
    cases i with
    | zero => simp at e; subst e; exact ⟨v, by simp, h1⟩
    | succ i =>
      obtain ⟨u, e1, e2⟩ := Rps.get (i := i) h2 (by simpa using e)
      exact ⟨u, by simpa using e1, e2⟩
theorem Rps.take {K : PySem.W.Frag} {w : Wd} : ∀ {ds : List D} {vs : List V} (n : Nat), Rps K w ds vs → Rps K w (ds.take n) (vs.take n)
  | [], vs, n, h => by simp only [Rps] at h; subst h; simp [Rps]
  | x :: ds, vs, n, h => by
    simp only [Rps] at h
    obtain ⟨v, ws, rfl, h1, h2⟩ := h
    cases n with
    | zero => simp [Rps]
    | succ n => exact Rps.cons h1 (Rps.take n h2)
theorem Rps.drop {K : PySem.W.Frag} {w : Wd} : ∀ {ds : List D} {vs : List V} (n : Nat), Rps K w ds vs → Rps K w (ds.drop n) (vs.drop n)
  | [], vs, n, h => by simp only [Rps] at h; subst h; simp [Rps]
  | x :: ds, vs, n, h => by
    simp only [Rps] at h
    obtain ⟨v, ws, rfl, h1, h2⟩ := h
    cases n with
    | zero => exact Rps.cons h1 h2
    | succ n => exact Rps.drop n h2
theorem Rps.set {K : PySem.W.Frag} {w : Wd} {d : D} {v : V} (r : Rp K w d v) : ∀ {ds : List D} {vs : List V} (i : Nat), Rps K w ds vs → Rps K w (ds.set i d) (vs.set i v)
  | [], vs, i, h => by simp only [Rps] at h; subst h; simp [Rps]
  | x :: ds, vs, i, h => by
    simp only [Rps] at h
    obtain ⟨u, ws, rfl, h1, h2⟩ := h
    cases i with
    | zero => exact Rps.cons r h2
    | succ i => exact Rps.cons h1 (Rps.set r i h2)
theorem Rps.reverse {K : PySem.W.Frag} {w : Wd} : ∀ {ds : List D} {vs : List V}, Rps K w ds vs → Rps K w ds.reverse vs.reverse
  | [], vs, h => by simp only [Rps] at h; subst h; simp [Rps]
  | x :: ds, vs, h => by
    simp only [Rps] at h
    obtain ⟨u, ws, rfl, h1, h2⟩ := h
    rw [List.reverse_cons, List.reverse_cons]
    exact Rps.append (Rps.reverse h2) (Rps.cons h1 Rps.nil)

/-- a dict's pairs -/
def Rkv (K : PySem.W.Frag) (w : Wd) : List (Str × D) → List (Key × V) → Prop
  | [], vs => vs = []
  | x :: xs, vs => ∃ v ws, vs = (Sum.inr x.1, v) :: ws ∧ Rp K w x.2 v ∧ Rkv K w xs ws
theorem Rkv.mono {K : PySem.W.Frag} {w w' : Wd} (x : Lat0 w w') : ∀ (ds : List (Str × D)) (vs : List (Key × V)), Rkv K w ds vs → Rkv K w' ds vs
  | [], vs, h => by simpa [Rkv] using h
  | d :: ds, vs, h => by
    simp only [Rkv] at h ⊢
    obtain ⟨v, ws, e, h1, h2⟩ := h
    exact ⟨v, ws, e, Rp.mono x _ v h1, Rkv.mono x ds ws h2⟩

def CellOk (K : PySem.W.Frag) (w : Wd) (a : Addr) : Cell → Prop
  | .dead => ∃ vs, w.H a = some (.lst vs)
  | .lst xs => ∃ vs, w.H a = some (.lst vs) ∧ Rps K w xs vs
  | .dct kvs => ∃ vs, w.H a = some (.dK vs) ∧ Rkv K w kvs vs
structure Hrel (K : PySem.W.Frag) (w : Wd) : Prop where
  len : w.m.l.length = w.c.length
  nd : w.m.l.Nodup
  at_ : ∀ (n : Nat) (a : Addr) (k : Cell), w.m.l[n]? = some a → w.c[n]? = some k → CellOk K w a k
  ex : ∀ a ∈ w.m.x, a ∉ w.m.l ∧ ∃ vs, w.H a = some (.lst vs)
theorem Hrel.there {K : PySem.W.Frag} {w : Wd} (h : Hrel K w) {a : Addr} (ha : a ∈ w.m.l) : w.H a ≠ none := by
  obtain ⟨n, hn⟩ := List.getElem?_of_mem ha
  have hlt : n < w.c.length := by rw [← h.len]; exact (List.getElem?_eq_some_iff.mp hn).1
  have q := h.at_ n a _ hn (List.getElem?_eq_some_iff.mpr ⟨hlt, rfl⟩)
  intro z
  cases e : w.c[n] with
  | dead => rw [e] at q; obtain ⟨vs, q⟩ := q; rw [z] at q; cases q
  | lst xs => rw [e] at q; obtain ⟨vs, q, _⟩ := q; rw [z] at q; cases q
  | dct xs => rw [e] at q; obtain ⟨vs, q, _⟩ := q; rw [z] at q; cases q
theorem Hrel.inj {K : PySem.W.Frag} {w : Wd} (h : Hrel K w) {i j : Nat} {a : Addr} (hi : w.m.l[i]? = some a) (hj : w.m.l[j]? = some a) : i = j := by
  obtain ⟨h1, e1⟩ := List.getElem?_eq_some_iff.mp hi
  obtain ⟨h2, e2⟩ := List.getElem?_eq_some_iff.mp hj
  exact (List.getElem_inj h.nd).mp (e1.trans e2.symm)

/-- the names' values -/
structure Ev (K : PySem.W.Frag) (w : Wd) (env : Env) (σ : L2.St) : Prop where
  len : env.length ≤ σ.length
  at_ : ∀ (i : Nat) (d : D), env[i]? = some (some d) → ∃ v, σ[i]? = some (some v) ∧ Rp K w d v
theorem Ev.mono {K : PySem.W.Frag} {w w' : Wd} {env : Env} {σ : L2.St} (x : Lat0 w w') (h : Ev K w env σ) : Ev K w' env σ :=
  ⟨h.len, fun i d e => let ⟨v, e1, r⟩ := h.at_ i d e; ⟨v, e1, Rp.mono x d v r⟩⟩
theorem Ev.set {K : PySem.W.Frag} {w : Wd} {env : Env} {σ : St} {d : D} {v : V} (h : Ev K w env σ) (r : Rp K w d v) (i : Nat) : Ev K w (env.set i (some d)) (σ.set i (some v)) := by
  refine ⟨by simpa using h.len, fun j e hj => ?_⟩
  by_cases hij : i = j
  · subst hij
    by_cases hl : i < env.length
    · rw [List.getElem?_set_self hl] at hj
      cases hj
      exact ⟨v, List.getElem?_set_self (Nat.lt_of_lt_of_le hl h.len), r⟩
    · rw [List.getElem?_eq_none (by simpa using hl)] at hj; cases hj
  · rw [List.getElem?_set_ne hij] at hj ⊢
    exact h.at_ j e hj

def ExOk (K : PySem.W.Frag) (mg : Str → Option Value) (w : Wd) (e : Exc) (cls : Value) (d : Option Addr) : Prop :=
  mg e.c = some cls ∧ match e.fs with
    | none => d = none
    | some fs => ∃ a vs, d = some a ∧ w.H a = some (.xd vs) ∧ ∀ f x, fs.lookup f = some x → ∃ v, vs.lookup f = some v ∧ Rp K w x v

section
variable (K : PySem.W.Frag) (mg : Str → Option Value) (W : WX)
/-- what is wanted of a result -/
def Po {α β : Type} (Rel : Wd → α → β → Prop) (w : Wd) (σ : L2.St) (r : R (α × Cs)) (Q : β → Hp → Prop) : Prop :=
  match r with
  | .ok p => ∀ b m' H', Later w ⟨m', p.2, H'⟩ → Hrel K ⟨m', p.2, H'⟩ → Rel ⟨m', p.2, H'⟩ p.1 b → Q b H'
  | .err e c' => ∀ cls d m' H', Later w ⟨m', c', H'⟩ → Hrel K ⟨m', c', H'⟩ → ExOk K mg ⟨m', c', H'⟩ e cls d → W cls d σ H'
  | .stuck => False
def rdE (f : EF) : TE := fun σ H Q => ∃ m c env, Hrel K ⟨m, c, H⟩ ∧ Ev K ⟨m, c, H⟩ env σ ∧ Po K mg W (Rp K) ⟨m, c, H⟩ σ (f env c) Q
def rdA (f : AF) : TA := fun σ H Q => ∃ m c env, Hrel K ⟨m, c, H⟩ ∧ Ev K ⟨m, c, H⟩ env σ ∧ Po K mg W (Rps K) ⟨m, c, H⟩ σ (f env c) Q
def rdT (f : TF) : TT := fun σ H Q => ∃ m c env, Hrel K ⟨m, c, H⟩ ∧ Ev K ⟨m, c, H⟩ env σ ∧ Po K mg W (fun _ a b => a = b) ⟨m, c, H⟩ σ (f env c) Q
/-- a statement's: the slots too -/
def rdS (f : SF) : TS := fun D σ H => ∃ m c env, Hrel K ⟨m, c, H⟩ ∧ Ev K ⟨m, c, H⟩ env σ ∧
  match f env c with
  | .ok p => ∀ σ' m' H', Later ⟨m, c, H⟩ ⟨m', p.2.2, H'⟩ → Hrel K ⟨m', p.2.2, H'⟩ → Ev K ⟨m', p.2.2, H'⟩ p.2.1 σ' →
    match p.1 with
    | .next => D.nx σ' H'
    | .brk => D.bk σ' H'
    | .cont => D.ct σ' H'
    | .ret d => ∀ v, Rp K ⟨m', p.2.2, H'⟩ d v → D.rt v H'
  | .err e c' => ∀ cls d (σ' : L2.St) m' H', Later ⟨m, c, H⟩ ⟨m', c', H'⟩ → Hrel K ⟨m', c', H'⟩ → ExOk K mg ⟨m', c', H'⟩ e cls d → W cls d σ' H'
  | .stuck => False
end
end Mi
namespace Mi
open PySem PySem.Spec PyProof.Rows L2
section
variable {K : PySem.W.Frag} {mg : Str → Option Value} {W : WX}
theorem Po.imp {α β : Type} {Rel : Wd → α → β → Prop} {w : Wd} {σ : L2.St} {r : R (α × Cs)} {Q Q' : β → Hp → Prop} (h : Po K mg W Rel w σ r Q) (hq : ∀ b H, Q b H → Q' b H) : Po K mg W Rel w σ r Q' := by
  cases r with
  | ok p => exact fun b m' H' x y z => hq _ _ (h b m' H' x y z)
  | err e c => exact h
  | stuck => exact h
theorem Po.later {α β : Type} {Rel : Wd → α → β → Prop} {w w' : Wd} {σ : L2.St} {r : R (α × Cs)} {Q : β → Hp → Prop} (x : Later w w') (h : Po K mg W Rel w σ r Q) : Po K mg W Rel w' σ r Q := by
  cases r with
  | ok p => exact fun b m' H' l y z => h b m' H' (x.trans l) y z
  | err e c => exact fun cls d m' H' l y z => h cls d m' H' (x.trans l) y z
  | stuck => exact h
/-- one after another -/
theorem Po.bind {α β α' β' : Type} {Rel : Wd → α → β → Prop} {Rel' : Wd → α' → β' → Prop} {w : Wd} {σ : L2.St} {r : R (α × Cs)} {k : α × Cs → R (α' × Cs)} {Q : β' → Hp → Prop}
    (h : Po K mg W Rel' w σ (r.bind k) Q) :
    Po K mg W Rel w σ r (fun b H1 => ∃ m1 a c1, Later w ⟨m1, c1, H1⟩ ∧ Hrel K ⟨m1, c1, H1⟩ ∧ Rel ⟨m1, c1, H1⟩ a b ∧ Po K mg W Rel' ⟨m1, c1, H1⟩ σ (k (a, c1)) Q) := by
  cases r with
  | ok p => exact fun b m' H' x y z => ⟨m', p.1, p.2, x, y, z, Po.later x h⟩
  | err e c => exact h
  | stuck => exact h
theorem Po.ok {α β : Type} {Rel : Wd → α → β → Prop} {w : Wd} {σ : L2.St} {a : α} {b : β} {Q : β → Hp → Prop} (h : Po K mg W Rel w σ (.ok (a, w.c)) Q) (r : Rel w a b) (hr : Hrel K w) : Q b w.H :=
  h b w.m w.H (Later.refl w) hr r
theorem Po.ok' {α β : Type} {Rel : Wd → α → β → Prop} {w w' : Wd} {σ : L2.St} {a : α} {b : β} {Q : β → Hp → Prop} (h : Po K mg W Rel w σ (.ok (a, w'.c)) Q) (l : Later w w') (hr : Hrel K w') (r : Rel w' a b) : Q b w'.H :=
  h b w'.m w'.H l hr r

/-- a new object laid at a free place -/
theorem Later.new {w : Wd} {p : Addr} {o : HO} (hr : Hrel K w) (hp : w.H p = none) : Later w ⟨w.m, w.c, upd w.H p o⟩ := by
  refine ⟨⟨⟨[], by simp⟩, fun a vs h => ?_, fun a vs h n => ⟨?_, n⟩, fun a o u h => ?_⟩, rfl, fun a ha => ?_⟩
  · show upd w.H p _ a = _; rw [upd_ne (ne_of_none h hp)]; exact h
  · show upd w.H p _ a = _; rw [upd_ne (ne_of_none h hp)]; exact h
  · show upd w.H p _ a = _; rw [upd_ne (ne_of_none h hp)]; exact h
  · obtain ⟨_, vs, h⟩ := hr.ex a ha
    show upd w.H p _ a = _; rw [upd_ne (ne_of_none h hp)]
theorem CellOk.mono {w w' : Wd} (x : Lat0 w w') {a : Addr} {k : Cell} (hm : w'.H a = w.H a) (h : CellOk K w a k) : CellOk K w' a k := by
  cases k with
  | dead => obtain ⟨vs, h⟩ := h; exact ⟨vs, hm.trans h⟩
  | lst xs => obtain ⟨vs, h, r⟩ := h; exact ⟨vs, hm.trans h, Rps.mono x _ _ r⟩
  | dct xs => obtain ⟨vs, h, r⟩ := h; exact ⟨vs, hm.trans h, Rkv.mono x _ _ r⟩
theorem Hrel.new {w : Wd} {p : Addr} {o : HO} (h : Hrel K w) (hp : w.H p = none) : Hrel K ⟨w.m, w.c, upd w.H p o⟩ := by
  refine ⟨h.len, h.nd, fun n a k hn hk => (h.at_ n a k hn hk).mono (Later.new h hp).toLat0 ?_, fun a ha => ?_⟩
  · show upd w.H p o a = _
    rw [upd_ne]
    rintro rfl
    exact h.there (List.mem_of_getElem? hn) hp
  · obtain ⟨n, vs, e⟩ := h.ex a ha
    exact ⟨n, vs, by show upd w.H p o a = _; rw [upd_ne (ne_of_none e hp)]; exact e⟩
theorem Hrel.noact {w : Wd} {p : Addr} {o : HO} (h : Hrel K w) (hp : w.H p = none) : ¬ (⟨w.m, w.c, upd w.H p o⟩ : Wd).act p := by
  rintro (⟨n, k, hn, _, _⟩ | hx)
  · exact h.there (List.mem_of_getElem? hn) hp
  · obtain ⟨_, vs, e⟩ := h.ex p hx
    rw [hp] at e; cases e
theorem Rp.newTup {w : Wd} {p : Addr} {ds : List D} {vs : List V} (h : Hrel K w) (hp : w.H p = none) (r : Rps K w ds vs) : Rp K ⟨w.m, w.c, upd w.H p (.tup vs)⟩ (.tup ds) (.ref p) := by
  simp only [Rp]
  exact ⟨p, vs, rfl, .inl (.inl upd_same), Rps.mono (Later.new h hp).toLat0 _ _ r⟩
theorem Rp.newLst {w : Wd} {p : Addr} {ds : List D} {vs : List V} (h : Hrel K w) (hp : w.H p = none) (r : Rps K w ds vs) : Rp K ⟨w.m, w.c, upd w.H p (.lst vs)⟩ (.lst ds) (.ref p) := by
  simp only [Rp]
  exact ⟨p, vs, rfl, upd_same, h.noact hp, Rps.mono (Later.new h hp).toLat0 _ _ r⟩
/-- a new cell -/
theorem Later.cell {w : Wd} {p : Addr} {o : HO} {k : Cell} (hr : Hrel K w) (hp : w.H p = none) : Later w ⟨⟨w.m.l ++ [p], w.m.x⟩, w.c ++ [k], upd w.H p o⟩ := by
  refine ⟨⟨⟨[p], rfl⟩, fun a vs h => ?_, fun a vs h n => ⟨?_, ?_⟩, fun a o u h => ?_⟩, rfl, fun a ha => ?_⟩
  · show upd w.H p _ a = _; rw [upd_ne (ne_of_none h hp)]; exact h
  · show upd w.H p _ a = _; rw [upd_ne (ne_of_none h hp)]; exact h
  · rintro (⟨i, k', h1, h2, h3⟩ | hx)
    · simp only at h1 h2
      by_cases hi : i < w.m.l.length
      · rw [List.getElem?_append_left hi] at h1
        rw [List.getElem?_append_left (by rw [← hr.len]; exact hi)] at h2
        exact n (.inl ⟨i, k', h1, h2, h3⟩)
      · rw [List.getElem?_append_right (by omega)] at h1
        have : a = p := by
          cases e : i - w.m.l.length with
          | zero => rw [e] at h1; simpa using h1.symm
          | succ j => rw [e] at h1; simp at h1
        subst this; rw [hp] at h; cases h
    · exact n (.inr hx)
  · show upd w.H p _ a = _; rw [upd_ne (ne_of_none h hp)]; exact h
  · obtain ⟨_, vs, h⟩ := hr.ex a ha
    show upd w.H p _ a = _; rw [upd_ne (ne_of_none h hp)]
theorem Hrel.cell {w : Wd} {p : Addr} {o : HO} {k : Cell} (hr : Hrel K w) (hp : w.H p = none) (hk : CellOk K ⟨⟨w.m.l ++ [p], w.m.x⟩, w.c ++ [k], upd w.H p o⟩ p k) : Hrel K ⟨⟨w.m.l ++ [p], w.m.x⟩, w.c ++ [k], upd w.H p o⟩ := by
  have hnp : p ∉ w.m.l := fun z => hr.there z hp
  refine ⟨by simp [hr.len], ?_, fun i a k' h1 h2 => ?_, fun a ha => ?_⟩
  · rw [List.nodup_append]
    exact ⟨hr.nd, by simp, fun a ha b hb => by simp at hb; subst hb; rintro rfl; exact hnp ha⟩
  · simp only at h1 h2
    by_cases hi : i < w.m.l.length
    · rw [List.getElem?_append_left hi] at h1
      rw [List.getElem?_append_left (by rw [← hr.len]; exact hi)] at h2
      refine (hr.at_ i a k' h1 h2).mono (Later.cell hr hp).toLat0 ?_
      show upd w.H p o a = _
      rw [upd_ne]
      rintro rfl
      exact hnp (List.mem_of_getElem? h1)
    · rw [List.getElem?_append_right (by omega)] at h1
      rw [List.getElem?_append_right (by rw [← hr.len]; omega)] at h2
      rw [← hr.len] at h2
      cases e : i - w.m.l.length with
      | zero => rw [e] at h1 h2; simp at h1 h2; subst h1; subst h2; exact hk
      | succ j => rw [e] at h1; simp at h1
  · obtain ⟨n, vs, e⟩ := hr.ex a ha
    refine ⟨?_, vs, by show upd w.H p o a = _; rw [upd_ne (ne_of_none e hp)]; exact e⟩
    rw [List.mem_append]
    rintro (z | z)
    · exact n z
    · simp at z; subst z; rw [hp] at e; cases e
end

/-! ### the context -/
theorem PE.imp {X : Cx} {e : Expr} {t t' : TE} (h : PE X e t) (i : ∀ σ H Q, t' σ H Q → t σ H Q) : PE X e t' := ⟨fun pins s σ H Q I q => h.run pins s σ H Q I (i σ H Q q)⟩
theorem PT.imp {X : Cx} {e : Expr} {t t' : TT} (h : PT X e t) (i : ∀ σ H Q, t' σ H Q → t σ H Q) : PT X e t' := ⟨fun pins s σ H Q I q => h.run pins s σ H Q I (i σ H Q q)⟩
theorem PW.imp {X : Cx} {e : Expr} {t t' : TT} (h : PW X e t) (i : ∀ σ H Q, t' σ H Q → t σ H Q) : PW X e t' := ⟨fun wh pins s σ H Q I q => h.run wh pins s σ H Q I (i σ H Q q)⟩
theorem PA.imp {X : Cx} {e : List Expr} {t t' : TA} (h : PA X e t) (i : ∀ σ H Q, t' σ H Q → t σ H Q) : PA X e t' := ⟨fun ps pins s σ H Q I q => h.run ps pins s σ H Q I (i σ H Q q)⟩
theorem PS.imp {X : Cx} {e : Stmt} {t t' : TS} (h : PS X e t) (i : ∀ D σ H, t' D σ H → t D σ H) : PS X e t' := ⟨fun pins s σ H Q I q => h.run pins s σ H Q I (i Q σ H q)⟩
theorem PSs.imp {X : Cx} {e : List Stmt} {t t' : TS} (h : PSs X e t) (i : ∀ D σ H, t' D σ H → t D σ H) : PSs X e t' := ⟨fun pins s σ H Q I q => h.run pins s σ H Q I (i Q σ H q)⟩

def E (X : Cx) (W : WX) (e : Expr) (f : EF) : Prop := PE X e (rdE X.K X.mg W f)
def T (X : Cx) (W : WX) (e : Expr) (f : TF) : Prop := PT X e (rdT X.K X.mg W f)
def TW (X : Cx) (W : WX) (e : Expr) (f : TF) : Prop := PW X e (rdT X.K X.mg W f)
def As (X : Cx) (W : WX) (e : List Expr) (f : AF) : Prop := PA X e (rdA X.K X.mg W f)
def S (X : Cx) (W : WX) (e : Stmt) (f : SF) : Prop := PS X e (rdS X.K X.mg W f)
def Ss (X : Cx) (W : WX) (e : List Stmt) (f : SF) : Prop := PSs X e (rdS X.K X.mg W f)

def dVar (i : Nat) : EF := fun env c => match env[i]? with
  | some (some d) => .ok (d, c)
  | _ => .stuck
def dC (d : D) : EF := fun _ c => .ok (d, c)
def d2 (f g : EF) (h : D → D → Cs → R (D × Cs)) : EF := fun env c => (f env c).bind fun p => (g env p.2).bind fun q => h p.1 q.1 q.2
def d1 (f : EF) (h : D → Cs → R (D × Cs)) : EF := fun env c => (f env c).bind fun p => h p.1 p.2
def dNil : AF := fun _ c => .ok ([], c)
def dCons (f : EF) (g : AF) : AF := fun env c => (f env c).bind fun p => (g env p.2).bind fun q => .ok (p.1 :: q.1, q.2)
def dA (g : AF) (h : List D → Cs → R (D × Cs)) : EF := fun env c => (g env c).bind fun p => h p.1 p.2

section
variable {X : Cx} {W : WX} {a b e : Expr} {es : List Expr} {f g : EF} {fa : AF} {pos : Pos} {σ : L2.St} {H : Hp}

theorem e_var {i : Nat} {x : Str} (hN : X.N[i]? = some x) (hv : Vis X.env.scope x) (hd : (x == ("__debug__" : Str)) = false := by decide) (hcd : (x == ("__classdict__" : Str)) = false := by decide) : E X W (.Name x pos) (dVar i) := by
  refine PE.imp (pe_var hN hv hd hcd) fun σ H Q ⟨m, c, env, hr, ev, h⟩ => ?_
  unfold dVar at h
  split at h
  · rename_i d hd
    obtain ⟨v, e1, r⟩ := ev.at_ i d hd
    exact ⟨v, e1, h.ok (w := ⟨m, c, H⟩) r hr⟩
  · exact h.elim
/-- a constant's reading -/
theorem rd_c {d : D} {v : V} {Q : VK} (hd : ∀ w, Rp X.K w d v) (h : rdE X.K X.mg W (dC d) σ H Q) : Q v H := by
  obtain ⟨m, c, env, hr, ev, h⟩ := h
  exact h.ok (w := ⟨m, c, H⟩) (hd _) hr
theorem e_int {i j} : E X W (.Constant (.int i) j pos) (dC (.int i)) := PE.imp pe_int fun _ _ _ h => rd_c (fun _ => by simp [Rp]) h
theorem e_bl {b j} : E X W (.Constant (.bool b) j pos) (dC (.bl b)) := PE.imp pe_bl fun _ _ _ h => rd_c (fun _ => by simp [Rp]) h
theorem e_non {j} : E X W (.Constant .none j pos) (dC .non) := PE.imp pe_non fun _ _ _ h => rd_c (fun _ => by simp [Rp]) h
theorem e_str {x j} : E X W (.Constant (.str x) j pos) (dC (.str x)) := PE.imp pe_str fun _ _ _ h => rd_c (fun _ => by simp [Rp]) h
/-- a module's constant -/
theorem e_glob {x : Str} {u : Value} {v : V} {d : D} (hg : Gl X x) (hm : X.mg x = some u) (r : RelV v u) (hd : ∀ w, Rp X.K w d v) (hdb : (x == ("__debug__" : Str)) = false := by decide) : E X W (.Name x pos) (dC d) :=
  PE.imp (pe_glob hg hm r hdb) fun _ _ _ h => rd_c hd h

/-- two values -/
theorem rd_2 {h : D → D → Cs → R (D × Cs)} {r : R2} {Q : VK}
    (hr : ∀ (w : Wd) (σ : L2.St) (a b : D) (x y : V) (Q : VK), Hrel X.K w → Rp X.K w a x → Rp X.K w b y → Po X.K X.mg W (Rp X.K) w σ (h a b w.c) Q → r x y w.H Q)
    (hq : rdE X.K X.mg W (d2 f g h) σ H Q) : tOp r (rdE X.K X.mg W f) (rdE X.K X.mg W g) σ H Q := by
  obtain ⟨m, c, env, h0, ev, hp⟩ := hq
  refine ⟨m, c, env, h0, ev, (Po.bind (Rel := Rp X.K) hp).imp fun x H1 ⟨m1, a, c1, l1, h1, r1, p1⟩ => ?_⟩
  refine ⟨m1, c1, env, h1, ev.mono l1.toLat0, (Po.bind (Rel := Rp X.K) p1).imp fun y H2 ⟨m2, b, c2, l2, h2, r2, p2⟩ => ?_⟩
  exact hr ⟨m2, c2, H2⟩ σ a b x y Q h2 (Rp.mono l2.toLat0 _ _ r1) r2 p2
theorem e_2 {op : Operator} {h : D → D → Cs → R (D × Cs)} {r : R2} (ho : OpR X (binaryOp op) r)
    (hr : ∀ (w : Wd) (σ : L2.St) (a b : D) (x y : V) (Q : VK), Hrel X.K w → Rp X.K w a x → Rp X.K w b y → Po X.K X.mg W (Rp X.K) w σ (h a b w.c) Q → r x y w.H Q)
    (ha : E X W a f) (hb : E X W b g) : E X W (.BinOp a op b pos) (d2 f g h) := PE.imp (pe_op ho ha hb) fun _ _ _ hq => rd_2 hr hq
theorem rd_1 {h : D → Cs → R (D × Cs)} {r : V → Hp → VK → Prop} {Q : VK}
    (hr : ∀ (w : Wd) (σ : L2.St) (a : D) (x : V) (Q : VK), Hrel X.K w → Rp X.K w a x → Po X.K X.mg W (Rp X.K) w σ (h a w.c) Q → r x w.H Q)
    (hq : rdE X.K X.mg W (d1 f h) σ H Q) : tUn r (rdE X.K X.mg W f) σ H Q := by
  obtain ⟨m, c, env, h0, ev, hp⟩ := hq
  exact ⟨m, c, env, h0, ev, (Po.bind (Rel := Rp X.K) hp).imp fun x H1 ⟨m1, a, c1, l1, h1, r1, p1⟩ => hr ⟨m1, c1, H1⟩ σ a x Q h1 r1 p1⟩
theorem rd_A {h : List D → Cs → R (D × Cs)} {r : List V → Hp → VK → Prop} {Q : VK}
    (hr : ∀ (w : Wd) (σ : L2.St) (as : List D) (xs : List V) (Q : VK), Hrel X.K w → Rps X.K w as xs → Po X.K X.mg W (Rp X.K) w σ (h as w.c) Q → r xs w.H Q)
    (hq : rdE X.K X.mg W (dA fa h) σ H Q) : rdA X.K X.mg W fa σ H (fun xs H1 => r xs H1 Q) := by
  obtain ⟨m, c, env, h0, ev, hp⟩ := hq
  exact ⟨m, c, env, h0, ev, (Po.bind (Rel := Rps X.K) hp).imp fun x H1 ⟨m1, a, c1, l1, h1, r1, p1⟩ => hr ⟨m1, c1, H1⟩ σ a x Q h1 r1 p1⟩

theorem a_nil : As X W [] dNil := by
  refine PA.imp pa_nil fun σ H Q ⟨m, c, env, hr, ev, h⟩ => ?_
  exact h.ok (w := ⟨m, c, H⟩) Rps.nil hr
theorem a_cons (h : E X W e f) (hr : As X W es fa) (hs : starEach (e :: es) X.env = (false, eval e X.env) :: starEach es X.env := by rfl) : As X W (e :: es) (dCons f fa) := by
  refine PA.imp (pa_cons h hr hs) fun σ H Q ⟨m, c, env, hr, ev, hp⟩ => ?_
  refine ⟨m, c, env, hr, ev, (Po.bind (Rel := Rp X.K) hp).imp fun x H1 ⟨m1, a, c1, l1, h1, r1, p1⟩ => ?_⟩
  refine ⟨m1, c1, env, h1, ev.mono l1.toLat0, (Po.bind (Rel := Rps X.K) p1).imp fun xs H2 ⟨m2, b, c2, l2, h2, r2, p2⟩ => ?_⟩
  exact p2.ok (w := ⟨m2, c2, H2⟩) (Rps.cons (Rp.mono l2.toLat0 _ _ r1) r2) h2

def lim : Nat := 16777216
theorem lim_eq : sizeLine = lim := sizeLine_eq
def mkTup (xs : List D) (c : Cs) : R (D × Cs) := if xs.length ≤ lim then .ok (.tup xs, c) else .stuck
def mkLst (xs : List D) (c : Cs) : R (D × Cs) := if xs.length ≤ lim then .ok (.lst xs, c) else .stuck
/-- a list with a cell of its own -/
def mkCell (xs : List D) (c : Cs) : R (D × Cs) := if xs.length ≤ lim then .ok (.ref c.length, c ++ [.lst xs]) else .stuck

theorem po_newTup {w : Wd} {ds : List D} {vs : List V} {Q : VK} {c' : Cs} (hw : Hrel X.K w) (r : Rps X.K w ds vs) (h : Po X.K X.mg W (Rp X.K) w σ (.ok (.tup ds, w.c)) Q) : ∀ p, w.H p = none → Q (.ref p) (upd w.H p (.tup vs)) :=
  fun p hp => h.ok' (w' := ⟨w.m, w.c, upd w.H p (.tup vs)⟩) (Later.new hw hp) (hw.new hp) (Rp.newTup hw hp r)
theorem po_newLst {w : Wd} {ds : List D} {vs : List V} {Q : VK} (hw : Hrel X.K w) (r : Rps X.K w ds vs) (h : Po X.K X.mg W (Rp X.K) w σ (.ok (.lst ds, w.c)) Q) : ∀ p, w.H p = none → Q (.ref p) (upd w.H p (.lst vs)) :=
  fun p hp => h.ok' (w' := ⟨w.m, w.c, upd w.H p (.lst vs)⟩) (Later.new hw hp) (hw.new hp) (Rp.newLst hw hp r)
theorem e_tup {x1} (h : As X W es fa) : E X W (.Tuple es x1 pos) (dA fa mkTup) := by
  refine PE.imp (pe_tup h) fun σ H Q hq => rd_A (r := fun xs H1 Q => xs.length ≤ sizeLine ∧ ∀ p, H1 p = none → Q (.ref p) (upd H1 p (.tup xs))) (fun w σ as xs Q hw r hp => ?_) hq
  unfold mkTup at hp
  split at hp
  · rename_i hl
    exact ⟨by rw [← r.length, lim_eq]; exact hl, po_newTup (c' := w.c) hw r hp⟩
  · exact hp.elim
theorem e_lst (h : As X W es fa) : E X W (.List es pos) (dA fa mkLst) := by
  refine PE.imp (pe_lst h) fun σ H Q hq => rd_A (r := fun xs H1 Q => xs.length ≤ sizeLine ∧ ∀ p, H1 p = none → Q (.ref p) (upd H1 p (.lst xs))) (fun w σ as xs Q hw r hp => ?_) hq
  unfold mkLst at hp
  split at hp
  · rename_i hl
    exact ⟨by rw [← r.length, lim_eq]; exact hl, po_newLst hw r hp⟩
  · exact hp.elim
theorem e_lstC (h : As X W es fa) : E X W (.List es pos) (dA fa mkCell) := by
  refine PE.imp (pe_lst h) fun σ H Q hq => rd_A (r := fun xs H1 Q => xs.length ≤ sizeLine ∧ ∀ p, H1 p = none → Q (.ref p) (upd H1 p (.lst xs))) (fun w σ as xs Q hw r hp => ?_) hq
  unfold mkCell at hp
  split at hp
  · rename_i hl
    refine ⟨by rw [← r.length, lim_eq]; exact hl, fun p hn => ?_⟩
    have l := Later.cell (o := .lst xs) (k := .lst as) hw hn
    refine hp.ok' (w' := ⟨⟨w.m.l ++ [p], w.m.x⟩, w.c ++ [.lst as], upd w.H p (.lst xs)⟩) l (hw.cell hn (k := .lst as) (show CellOk _ _ _ (.lst as) from ⟨xs, upd_same, Rps.mono l.toLat0 _ _ r⟩)) ?_
    simp only [Rp]
    exact ⟨p, rfl, by rw [← hw.len, List.getElem?_append_right (Nat.le_refl _)]; simp⟩
  · exact hp.elim
end
end Mi
namespace Mi
open PySem PySem.Spec PyProof.Rows L2

/-- the items of a list, by value or in a cell -/
def getL (c : Cs) : D → Option (List D)
  | .lst xs => some xs
  | .scr xs => some xs
  | .ref n => match c[n]? with
    | some (.lst xs) => some xs
    | _ => none
  | _ => none
/-- .. one that may be joined -/
def getM (c : Cs) : D → Option (List D)
  | .lst xs => some xs
  | .ref n => match c[n]? with
    | some (.lst xs) => some xs
    | _ => none
  | _ => none
section
variable {K : PySem.W.Frag} {w : Wd}
theorem getM_ok (h : Hrel K w) {d : D} {xs : List D} {v : V} (e : getM w.c d = some xs) (r : Rp K w d v) : ∃ a vs, v = .ref a ∧ w.H a = some (.lst vs) ∧ Rps K w xs vs := by
  unfold getM at e
  split at e
  · cases e; simp only [Rp] at r; obtain ⟨a, vs, e1, e2, _, r⟩ := r; exact ⟨a, vs, e1, e2, r⟩
  · split at e
    · rename_i n _ ys hn
      cases e
      simp only [Rp] at r
      obtain ⟨a, e1, e2⟩ := r
      obtain ⟨vs, q, r⟩ := h.at_ n a _ e2 hn
      exact ⟨a, vs, e1, q, r⟩
    · cases e
  · cases e
theorem getL_ok (h : Hrel K w) {d : D} {xs : List D} {v : V} (e : getL w.c d = some xs) (r : Rp K w d v) : ∃ a vs, v = .ref a ∧ SqL K w.H a vs ∧ Rps K w xs vs := by
  unfold getL at e
  split at e
  · cases e; simp only [Rp] at r; obtain ⟨a, vs, e1, e2, _, r⟩ := r; exact ⟨a, vs, e1, SqL.of e2, r⟩
  · cases e; simp only [Rp] at r; obtain ⟨a, vs, e1, e2, r⟩ := r; exact ⟨a, vs, e1, e2.sq, r⟩
  · split at e
    · rename_i n _ ys hn
      cases e
      simp only [Rp] at r
      obtain ⟨a, e1, e2⟩ := r
      obtain ⟨vs, q, r⟩ := h.at_ n a _ e2 hn
      exact ⟨a, vs, e1, SqL.of q, r⟩
    · cases e
  · cases e
end

def addD : D → D → Cs → R (D × Cs)
  | .int i, .int j, c => .ok (.int (i + j), c)
  | .str x, .str y, c => if x.length + y.length ≤ lim then .ok (.str (x ++ y), c) else .stuck
  | .tup xs, .tup ys, c => if xs.length + ys.length ≤ lim then .ok (.tup (xs ++ ys), c) else .stuck
  | a, b, c => match getM c a, getM c b with
    | some xs, some ys => if xs.length + ys.length ≤ lim then .ok (.lst (xs ++ ys), c) else .stuck
    | _, _ => .stuck
def subD : D → D → Cs → R (D × Cs)
  | .int i, .int j, c => .ok (.int (i - j), c)
  | _, _, _ => .stuck
def mulOk (i j : Int) : Bool := decide (i.natAbs < 2 ^ 63) || decide (j.natAbs < 2 ^ 63)
def mulD : D → D → Cs → R (D × Cs)
  | .int i, .int j, c => if mulOk i j then .ok (.int (i * j), c) else .stuck
  | a, .int k, c => match getM c a with
    | some xs => if decide (k < 2 ^ 62) && decide (-(2 ^ 62) < k) && decide (xs.length * k.toNat ≤ lim) then .ok (.lst (List.replicate k.toNat xs).flatten, c) else .stuck
    | none => .stuck
  | _, _, _ => .stuck
def modD : D → D → Cs → R (D × Cs)
  | .int i, .int j, c => if 0 < j then .ok (.int (i % j), c) else .stuck
  | _, _, _ => .stuck
def divD : D → D → Cs → R (D × Cs)
  | .int i, .int j, c => if 0 < j ∧ j.natAbs < 2 ^ 100 then .ok (.int (i / j), c) else .stuck
  | _, _, _ => .stuck
def powD : D → D → Cs → R (D × Cs)
  | .int i, .int j, c => if 0 ≤ j ∧ j ≤ 1000 ∧ i.natAbs < 2 ^ 64 then .ok (.int (i ^ j.toNat), c) else .stuck
  | _, _, _ => .stuck
def negD : D → Cs → R (D × Cs)
  | .int i, c => .ok (.int (-i), c)
  | _, _ => .stuck

section
variable {X : Cx} {W : WX} {a b e : Expr} {es : List Expr} {f g : EF} {fa : AF} {pos : Pos} {σ : L2.St} {H : Hp}
theorem rp_int {K : PySem.W.Frag} {w : Wd} {i : Int} {v : V} : Rp K w (.int i) v ↔ v = .int i := by simp [Rp]
theorem rp_str {K : PySem.W.Frag} {w : Wd} {i : Str} {v : V} : Rp K w (.str i) v ↔ v = .str i := by simp [Rp]
theorem rp_bl {K : PySem.W.Frag} {w : Wd} {i : Bool} {v : V} : Rp K w (.bl i) v ↔ v = .bl i := by simp [Rp]
theorem rp_non {K : PySem.W.Frag} {w : Wd} {v : V} : Rp K w .non v ↔ v = .non := by simp [Rp]
theorem rp_raw {K : PySem.W.Frag} {w : Wd} {u v : V} : Rp K w (.raw u) v ↔ v = u := by simp [Rp]

theorem e_add (ha : E X W a f) (hb : E X W b g) : E X W (.BinOp a .Add b pos) (d2 f g addD) := by
  refine e_2 (((op_add (X := X)).or op_add_str).or (op_catA.or op_cat)) (fun w σ x y u v Q hw rx ry hp => ?_) ha hb
  unfold addD at hp
  split at hp
  · rw [rp_int] at rx ry; subst rx; subst ry
    exact .inl (.inl ⟨_, _, rfl, rfl, hp.ok (rp_int.mpr rfl) hw⟩)
  · split at hp
    · rename_i hl
      rw [rp_str] at rx ry; subst rx; subst ry
      exact .inl (.inr ⟨_, _, rfl, rfl, by rw [lim_eq]; exact hl, hp.ok (rp_str.mpr rfl) hw⟩)
    · exact hp.elim
  · split at hp
    · rename_i xs ys hl
      have rx' := rx; have ry' := ry
      simp only [Rp] at rx ry
      obtain ⟨p, vs, rfl, hs, rs⟩ := rx
      obtain ⟨q, us, rfl, ht, rt⟩ := ry
      refine .inr (.inl ⟨p, q, vs, us, rfl, rfl, hs, ht, by rw [← rs.length, ← rt.length, lim_eq]; exact hl, ?_, ?_, ?_⟩)
      · rintro rfl
        have : xs = [] := List.eq_nil_of_length_eq_zero rs.length
        subst this
        exact hp.ok ry' hw
      · rintro _ rfl
        have : ys = [] := List.eq_nil_of_length_eq_zero rt.length
        subst this
        rw [List.append_nil] at hp
        exact hp.ok rx' hw
      · intro _ _ p hn
        exact po_newTup (c' := w.c) hw (rs.append rt) hp p hn
    · exact hp.elim
  · split at hp
    · rename_i xs ys ex ey
      split at hp
      · rename_i hl
        obtain ⟨p, vs, rfl, hs, rs⟩ := getM_ok hw ex rx
        obtain ⟨q, us, rfl, ht, rt⟩ := getM_ok hw ey ry
        exact .inr (.inr ⟨p, q, vs, us, rfl, rfl, hs, ht, by rw [← rs.length, ← rt.length, lim_eq]; exact hl, fun p hn => po_newLst hw (rs.append rt) hp p hn⟩)
      · exact hp.elim
    · exact hp.elim
theorem e_sub (ha : E X W a f) (hb : E X W b g) : E X W (.BinOp a .Sub b pos) (d2 f g subD) := by
  refine e_2 op_sub (fun w σ x y u v Q hw rx ry hp => ?_) ha hb
  unfold subD at hp
  split at hp
  · rw [rp_int] at rx ry; subst rx; subst ry
    exact ⟨_, _, rfl, rfl, hp.ok (rp_int.mpr rfl) hw⟩
  · exact hp.elim
theorem e_mod (ha : E X W a f) (hb : E X W b g) : E X W (.BinOp a .Mod b pos) (d2 f g modD) := by
  refine e_2 op_mod (fun w σ x y u v Q hw rx ry hp => ?_) ha hb
  unfold modD at hp
  split at hp
  · split at hp
    · rename_i h
      rw [rp_int] at rx ry; subst rx; subst ry
      exact ⟨_, _, rfl, rfl, h, hp.ok (rp_int.mpr rfl) hw⟩
    · exact hp.elim
  · exact hp.elim
theorem e_div (ha : E X W a f) (hb : E X W b g) : E X W (.BinOp a .FloorDiv b pos) (d2 f g divD) := by
  refine e_2 op_fdivW (fun w σ x y u v Q hw rx ry hp => ?_) ha hb
  unfold divD at hp
  split at hp
  · split at hp
    · rename_i h
      rw [rp_int] at rx ry; subst rx; subst ry
      exact ⟨_, _, rfl, rfl, wide_div h.1 h.2 (by decide) (by decide), hp.ok (rp_int.mpr rfl) hw⟩
    · exact hp.elim
  · exact hp.elim
theorem e_pow (ha : E X W a f) (hb : E X W b g) : E X W (.BinOp a .Pow b pos) (d2 f g powD) := by
  refine e_2 op_pow (fun w σ x y u v Q hw rx ry hp => ?_) ha hb
  unfold powD at hp
  split at hp
  · split at hp
    · rename_i h
      rw [rp_int] at rx ry; subst rx; subst ry
      exact ⟨_, _, rfl, rfl, ⟨h.1, by omega, h.2.2⟩, hp.ok (rp_int.mpr rfl) hw⟩
    · exact hp.elim
  · exact hp.elim
theorem Rps.rep {K : PySem.W.Frag} {w : Wd} {ds : List D} {vs : List V} (h : Rps K w ds vs) : ∀ n : Nat, Rps K w (List.replicate n ds).flatten (List.replicate n vs).flatten
  | 0 => by simpa using Rps.nil
  | n + 1 => by
    rw [List.replicate_succ, List.replicate_succ, List.flatten_cons, List.flatten_cons]
    exact h.append (Rps.rep h n)
theorem e_mul (ha : E X W a f) (hb : E X W b g) : E X W (.BinOp a .Mult b pos) (d2 f g mulD) := by
  refine e_2 (op_mul.or op_rep) (fun w σ x y u v Q hw rx ry hp => ?_) ha hb
  unfold mulD at hp
  split at hp
  · split at hp
    · rename_i h
      rw [rp_int] at rx ry; subst rx; subst ry
      refine .inl ⟨_, _, rfl, rfl, ?_, hp.ok (rp_int.mpr rfl) hw⟩
      unfold mulOk at h
      simp only [Bool.or_eq_true, decide_eq_true_eq] at h
      unfold CMul
      omega
    · exact hp.elim
  · split at hp
    · rename_i xs ex
      split at hp
      · rename_i hl
        simp only [Bool.and_eq_true, decide_eq_true_eq] at hl
        rw [rp_int] at ry; subst ry
        obtain ⟨p, vs, rfl, hs, rs⟩ := getM_ok hw ex rx
        refine .inr ⟨p, _, vs, rfl, rfl, hs, by omega, by omega, by rw [← rs.length, lim_eq]; exact hl.2, fun p hn => ?_⟩
        exact po_newLst hw (rs.rep _) hp p hn
      · exact hp.elim
    · exact hp.elim
  · exact hp.elim
theorem e_neg (ha : E X W a f) : E X W (.UnaryOp .USub a pos) (d1 f negD) := by
  refine PE.imp (pe_un un_neg ha) fun σ H Q hq => rd_1 (fun w σ x u Q hw rx hp => ?_) hq
  unfold negD at hp
  split at hp
  · rw [rp_int] at rx; subst rx
    exact ⟨_, rfl, hp.ok (rp_int.mpr rfl) hw⟩
  · exact hp.elim
end
end Mi
namespace Mi
open PySem PySem.Spec PyProof.Rows L2

/-! ### data, and == -/
mutual
def D.py : D → Option PyData
  | .non => some .none
  | .bl b => some (.bool b)
  | .int i => some (.int i)
  | .str x => some (.str x)
  | .tup xs => (pys xs).map PyData.tuple
  | .lst xs => (pys xs).map PyData.list
  | .scr xs => (pys xs).map PyData.list
  | .ref _ => none
  | .raw _ => none
def pys : List D → Option (List PyData)
  | [] => some []
  | x :: xs => match x.py, pys xs with
    | some d, some ds => some (d :: ds)
    | _, _ => none
end
mutual
theorem py_ok {K : PySem.W.Frag} {w : Wd} : ∀ (d : D) (p : PyData) (v : V), d.py = some p → Rp K w d v → Dp K w.H v p
  | .non, p, v, e, r => by simp only [D.py, Option.some.injEq] at e; subst e; simp only [Rp] at r; subst r; exact .non
  | .bl b, p, v, e, r => by simp only [D.py, Option.some.injEq] at e; subst e; simp only [Rp] at r; subst r; exact .bl b
  | .int b, p, v, e, r => by simp only [D.py, Option.some.injEq] at e; subst e; simp only [Rp] at r; subst r; exact .int b
  | .str b, p, v, e, r => by simp only [D.py, Option.some.injEq] at e; subst e; simp only [Rp] at r; subst r; exact .str b
  | .tup xs, p, v, e, r => by
    simp only [D.py, Option.map_eq_some_iff] at e
    obtain ⟨ps, e, rfl⟩ := e
    simp only [Rp] at r
    obtain ⟨a, vs, rfl, h, r⟩ := r
    exact .tup h (pys_ok xs ps vs e r)
  | .lst xs, p, v, e, r => by
    simp only [D.py, Option.map_eq_some_iff] at e
    obtain ⟨ps, e, rfl⟩ := e
    simp only [Rp] at r
    obtain ⟨a, vs, rfl, h, _, r⟩ := r
    exact .lst (SqL.of h) (pys_ok xs ps vs e r)
  | .scr xs, p, v, e, r => by
    simp only [D.py, Option.map_eq_some_iff] at e
    obtain ⟨ps, e, rfl⟩ := e
    simp only [Rp] at r
    obtain ⟨a, vs, rfl, h, r⟩ := r
    exact .lst h.sq (pys_ok xs ps vs e r)
  | .ref n, p, v, e, r => by simp [D.py] at e
  | .raw n, p, v, e, r => by simp [D.py] at e
theorem pys_ok {K : PySem.W.Frag} {w : Wd} : ∀ (ds : List D) (ps : List PyData) (vs : List V), pys ds = some ps → Rps K w ds vs → DpAll K w.H vs ps
  | [], ps, vs, e, r => by simp only [pys, Option.some.injEq] at e; subst e; simp only [Rps] at r; subst r; exact .nil
  | d :: ds, ps, vs, e, r => by
    unfold pys at e
    split at e
    · rename_i q qs h1 h2
      cases e
      simp only [Rps] at r
      obtain ⟨v, ws, rfl, r1, r2⟩ := r
      exact .cons (py_ok d q v h1 r1) (pys_ok ds qs ws h2 r2)
    · cases e
end
/-- a list's cell is read -/
def deref (c : Cs) : D → D
  | .ref n => match c[n]? with
    | some (.lst xs) => .lst xs
    | _ => .ref n
  | d => d
/-- what == says of two data -/
def eqv (a b : D) : Option Bool :=
  match a, b with
  | .int i, .int j => some (decide (i = j))
  | .str x, .str y => some (decide (x = y))
  | .bl x, .bl y => some (decide (x = y))
  | .non, .non => some true
  | a, b => match a.py, b.py with
    | some p, some q => if SeqAt.shaped p && SeqAt.shaped q then some (PyData.eqv p q) else none
    | _, _ => none
def eqD (a b : D) (c : Cs) : R (D × Cs) := match eqv (deref c a) (deref c b) with
  | some t => .ok (.bl t, c)
  | none => .stuck
def neD (a b : D) (c : Cs) : R (D × Cs) := match eqv (deref c a) (deref c b) with
  | some t => .ok (.bl (!t), c)
  | none => .stuck
theorem deref_dp {K : PySem.W.Frag} {w : Wd} (h : Hrel K w) {d : D} {p : PyData} {v : V} (e : (deref w.c d).py = some p) (r : Rp K w d v) : Dp K w.H v p := by
  unfold deref at e
  split at e
  · split at e
    · rename_i n _ ys hn
      simp only [Rp] at r
      obtain ⟨a, e1, e2⟩ := r
      obtain ⟨vs, q, r⟩ := h.at_ n a _ e2 hn
      subst e1
      simp only [D.py, Option.map_eq_some_iff] at e
      obtain ⟨ps, e, rfl⟩ := e
      exact .lst (SqL.of q) (pys_ok ys ps vs e r)
    · simp [D.py] at e
  · exact py_ok _ p v e r
theorem eqv_ok {K : PySem.W.Frag} {w : Wd} (hw : Hrel K w) {a b : D} {x y : V} {t : Bool} (h : eqv (deref w.c a) (deref w.c b) = some t) (rx : Rp K w a x) (ry : Rp K w b y) :
    (scal x y = true ∧ decide (x = y) = t) ∨ ∃ d e, Dp K w.H x d ∧ Dp K w.H y e ∧ SeqAt.shaped d = true ∧ SeqAt.shaped e = true ∧ PyData.eqv d e = t := by
  unfold eqv at h
  have dd : ∀ {d e : D}, deref w.c d = e → (∀ n, e ≠ .ref n) → (∀ xs, e ≠ .lst xs) → d = e := by
    intro d e h1 h2 h3
    unfold deref at h1
    split at h1
    · split at h1
      · exact absurd h1.symm (h3 _)
      · exact absurd h1.symm (h2 _)
    · exact h1
  split at h
  · rename_i i j e1 e2
    have := dd e1 (by simp) (by simp); subst this
    have := dd e2 (by simp) (by simp); subst this
    rw [rp_int] at rx ry; subst rx; subst ry
    exact .inl ⟨rfl, by simpa using h⟩
  · rename_i i j e1 e2
    have := dd e1 (by simp) (by simp); subst this
    have := dd e2 (by simp) (by simp); subst this
    rw [rp_str] at rx ry; subst rx; subst ry
    exact .inl ⟨rfl, by simpa using h⟩
  · rename_i i j e1 e2
    have := dd e1 (by simp) (by simp); subst this
    have := dd e2 (by simp) (by simp); subst this
    rw [rp_bl] at rx ry; subst rx; subst ry
    exact .inl ⟨rfl, by simpa using h⟩
  · rename_i e1 e2
    have := dd e1 (by simp) (by simp); subst this
    have := dd e2 (by simp) (by simp); subst this
    rw [rp_non] at rx ry; subst rx; subst ry
    exact .inl ⟨rfl, by simpa using h⟩
  · split at h
    · rename_i p q e1 e2
      split at h
      · rename_i hs
        rw [Bool.and_eq_true] at hs
        exact .inr ⟨p, q, deref_dp hw e1 rx, deref_dp hw e2 ry, hs.1, hs.2, by simpa using h⟩
      · cases h
    · cases h

def ltD : D → D → Cs → R (D × Cs)
  | .int i, .int j, c => .ok (.bl (decide (i < j)), c)
  | _, _, _ => .stuck
def leD : D → D → Cs → R (D × Cs)
  | .int i, .int j, c => .ok (.bl (decide (i ≤ j)), c)
  | _, _, _ => .stuck
def gtD : D → D → Cs → R (D × Cs)
  | .int i, .int j, c => .ok (.bl (decide (j < i)), c)
  | _, _, _ => .stuck
def geD : D → D → Cs → R (D × Cs)
  | .int i, .int j, c => .ok (.bl (decide (j ≤ i)), c)
  | _, _, _ => .stuck
def flat : D → Option V
  | .non => some .non
  | .bl b => some (.bl b)
  | .int i => some (.int i)
  | .str x => some (.str x)
  | _ => none
def flats : List D → Option (List V)
  | [] => some []
  | x :: xs => match flat x, flats xs with
    | some v, some vs => some (v :: vs)
    | _, _ => none
theorem flat_ok {K : PySem.W.Frag} {w : Wd} {d : D} {v u : V} (h : flat d = some v) (r : Rp K w d u) : u = v ∧ flatV v = true := by
  cases d <;> simp [flat] at h <;> subst h <;> simp [Rp] at r <;> subst r <;> exact ⟨rfl, rfl⟩
theorem flats_ok {K : PySem.W.Frag} {w : Wd} : ∀ {ds : List D} {vs us : List V}, flats ds = some vs → Rps K w ds us → us = vs ∧ vs.all flatV = true
  | [], vs, us, h, r => by simp [flats] at h; subst h; simp [Rps] at r; subst r; simp
  | d :: ds, vs, us, h, r => by
    unfold flats at h
    split at h
    · rename_i v ws h1 h2
      cases h
      simp only [Rps] at r
      obtain ⟨u, us', rfl, r1, r2⟩ := r
      obtain ⟨rfl, f1⟩ := flat_ok h1 r1
      obtain ⟨rfl, f2⟩ := flats_ok h2 r2
      exact ⟨rfl, by simp only [List.all_cons, f1, f2, Bool.and_self]⟩
    · cases h
/-- the items of a tuple or list -/
def getS (c : Cs) : D → Option (List D)
  | .tup xs => some xs
  | d => getL c d
theorem getS_ok {K : PySem.W.Frag} {w : Wd} (h : Hrel K w) {d : D} {xs : List D} {v : V} (e : getS w.c d = some xs) (r : Rp K w d v) : ∃ a vs, v = .ref a ∧ (SqL K w.H a vs ∨ SqT K w.H a vs) ∧ Rps K w xs vs := by
  unfold getS at e
  split at e
  · cases e; simp only [Rp] at r; obtain ⟨a, vs, e1, e2, r⟩ := r; exact ⟨a, vs, e1, .inr e2, r⟩
  · obtain ⟨a, vs, e1, e2, r⟩ := getL_ok h e r
    exact ⟨a, vs, e1, .inl e2, r⟩
def getDc (c : Cs) : D → Option (List (Str × D))
  | .ref n => match c[n]? with
    | some (.dct kvs) => some kvs
    | _ => none
  | _ => none
theorem getDc_ok {K : PySem.W.Frag} {w : Wd} (h : Hrel K w) {d : D} {xs : List (Str × D)} {v : V} (e : getDc w.c d = some xs) (r : Rp K w d v) : ∃ a vs, v = .ref a ∧ w.H a = some (.dK vs) ∧ Rkv K w xs vs := by
  unfold getDc at e
  split at e
  · split at e
    · rename_i n _ ys hn
      cases e
      simp only [Rp] at r
      obtain ⟨a, e1, e2⟩ := r
      obtain ⟨vs, q, r⟩ := h.at_ n a _ e2 hn
      exact ⟨a, vs, e1, q, r⟩
    · cases e
  · cases e
/-- a key's value -/
def kv (kvs : List (Str × D)) (k : Str) : Option D := (kvs.find? fun p => decide (p.1 = k)).map (·.2)
theorem kv_ok {K : PySem.W.Frag} {w : Wd} (k : Str) : ∀ {xs : List (Str × D)} {vs : List (Key × V)}, Rkv K w xs vs →
    match kv xs k with
    | some d => ∃ v, valV vs (.inr k : Key) = some v ∧ Rp K w d v
    | none => valV vs (.inr k : Key) = none
  | [], vs, h => by simp [Rkv] at h; subst h; simp [kv, valV]
  | x :: xs, vs, h => by
    simp only [Rkv] at h
    obtain ⟨v, ws, rfl, r, h⟩ := h
    by_cases e : x.1 = k
    · simp only [kv, List.find?_cons, e, decide_true, Option.map_some]
      exact ⟨v, valV_pos rfl, r⟩
    · have ih := kv_ok k h
      have e' : ¬ (Sum.inr x.1 : Key) = .inr k := fun z => e (Sum.inr.inj z)
      have hk : kv (x :: xs) k = kv xs k := by simp [kv, List.find?_cons, e]
      rw [hk, valV_neg (p := (Sum.inr x.1, v)) e']
      exact ih
def inD (a b : D) (c : Cs) : R (D × Cs) := match getDc c b with
  | some kvs => match a with
    | .str k => .ok (.bl (kv kvs k).isSome, c)
    | _ => .stuck
  | none => match getS c b, flat a with
    | some xs, some v => match flats xs with
      | some vs => .ok (.bl (inV v vs), c)
      | none => .stuck
    | _, _ => .stuck
def ninD (a b : D) (c : Cs) : R (D × Cs) := match getDc c b with
  | some kvs => match a with
    | .str k => .ok (.bl (!(kv kvs k).isSome), c)
    | _ => .stuck
  | none => match getS c b, flat a with
    | some xs, some v => match flats xs with
      | some vs => .ok (.bl (!inV v vs), c)
      | none => .stuck
    | _, _ => .stuck
def isN : D → Cs → R (D × Cs)
  | .non, c => .ok (.bl true, c)
  | .raw _, _ => .stuck
  | _, c => .ok (.bl false, c)
def isnN : D → Cs → R (D × Cs)
  | .non, c => .ok (.bl false, c)
  | .raw _, _ => .stuck
  | _, c => .ok (.bl true, c)

/-! ### items -/
/-- at a place -/
def ixD (a b : D) (c : Cs) : R (D × Cs) := match getDc c a with
  | some kvs => match b with
    | .str k => match kv kvs k with
      | some d => .ok (d, c)
      | none => .stuck
    | _ => .stuck
  | none => match getS c a, b with
    | some xs, .int i => match atI xs i with
      | some d => .ok (d, c)
      | none => .stuck
    | _, _ => .stuck
theorem Rps.atI {K : PySem.W.Frag} {w : Wd} {ds : List D} {vs : List V} {i : Int} {d : D} (r : Rps K w ds vs) (h : L2.atI ds i = some d) : ∃ v, L2.atI vs i = some v ∧ Rp K w d v := by
  unfold L2.atI at h ⊢
  rw [← r.length]
  cases e : ixN ds.length i with
  | none => rw [e] at h; cases h
  | some j => rw [e] at h; exact r.get h
/-- a slice's bound -/
def bnd : D → Option (Option Int)
  | .non => some none
  | .int i => some (some i)
  | _ => none
def cutD (xs : List D) (lo hi : Option Int) : List D := (xs.drop (HT.sIx xs.length 0 lo)).take (HT.sIx xs.length xs.length hi - HT.sIx xs.length 0 lo)
def slD (a : D) (lo hi : Option Int) (c : Cs) : R (D × Cs) := match a with
  | .tup xs => .ok (.tup (cutD xs lo hi), c)
  | a => match getL c a with
    | some xs => .ok (.lst (cutD xs lo hi), c)
    | none => .stuck
theorem Rps.cut {K : PySem.W.Frag} {w : Wd} {ds : List D} {vs : List V} (r : Rps K w ds vs) (lo hi : Option Int) : Rps K w (cutD ds lo hi) (cutV vs lo hi) := by
  unfold cutD cutV
  rw [← r.length]
  exact (r.drop _).take _

theorem PC.imp {X : Cx} {op : CmpOp} {a b : Expr} {t t' : TE} (h : PC X op a b t) (i : ∀ σ H Q, t' σ H Q → t σ H Q) : PC X op a b t' := ⟨fun pins s σ H Q I q => h.run pins s σ H Q I (i σ H Q q)⟩
/-- a comparison -/
def Cj (X : Cx) (W : WX) (op : CmpOp) (a b : Expr) (f : EF) : Prop := PC X op a b (rdE X.K X.mg W f)
section
variable {X : Cx} {W : WX} {a b e : Expr} {es : List Expr} {f g : EF} {fa : AF} {pos : Pos} {σ : L2.St} {H : Hp}
theorem c_cmp {op : CmpOp} {h : D → D → Cs → R (D × Cs)} {r : R2} (ho : OpR X (compareOp op) r)
    (hr : ∀ (w : Wd) (σ : L2.St) (a b : D) (x y : V) (Q : VK), Hrel X.K w → Rp X.K w a x → Rp X.K w b y → Po X.K X.mg W (Rp X.K) w σ (h a b w.c) Q → r x y w.H Q)
    (ha : E X W a f) (hb : E X W b g) : Cj X W op a b (d2 f g h) := PC.imp (t := tOp r (rdE X.K X.mg W f) (rdE X.K X.mg W g)) ⟨fun pins s σ H Q I hq => binT ha hb I (R := fun x y H2 => r x y H2 Q) hq fun v u s2 x y H2 I2 rx ry q => ho pins s2 σ H2 x y v u Q I2 rx ry q⟩ fun _ _ _ hq => rd_2 hr hq
/-- .. as a value -/
theorem e_c {op : CmpOp} (h : Cj X W op a b f) (hm : behindInMarks op b = false := by first | exact nobehind _ (by decide) (by decide) | rfl) : E X W (.Compare a [op] [b] pos) f := pe_cmp h hm
def truB : D × Cs → R (Bool × Cs) := fun p => match p.1 with
  | .bl b => .ok (b, p.2)
  | _ => .stuck
def dTb (f : EF) : TF := fun env c => (f env c).bind truB
theorem rd_tb {Q : Bool → Hp → Prop} (h : rdT X.K X.mg W (dTb f) σ H Q) : tB (rdE X.K X.mg W f) σ H Q := by
  obtain ⟨m, c, env, hr, ev, hp⟩ := h
  refine ⟨m, c, env, hr, ev, (Po.bind (Rel := Rp X.K) hp).imp fun x H1 ⟨m1, a, c1, l1, h1, r1, p1⟩ => ?_⟩
  unfold truB at p1
  simp only at p1
  split at p1
  · rw [rp_bl] at r1; subst r1
    exact ⟨_, rfl, p1.ok (w := ⟨m1, c1, H1⟩) rfl h1⟩
  · exact p1.elim
/-- .. as a test -/
theorem t_c {op : CmpOp} (h : Cj X W op a b f) (hm : behindInMarks op b = false := by first | exact nobehind _ (by decide) (by decide) | rfl) : T X W (.Compare a [op] [b] pos) (dTb f) := PT.imp (pt_cmp h hm) fun _ _ _ hq => rd_tb hq
theorem c_eq (hu : X.A.units + 64 < cLine) (ha : E X W a f) (hb : E X W b g) : Cj X W .Eq a b (d2 f g eqD) := by
  refine c_cmp (op_eq.or (op_eqD hu)) (fun w σ x y u v Q hw rx ry hp => ?_) ha hb
  unfold eqD at hp
  split at hp
  · rename_i t ht
    rcases eqv_ok hw ht rx ry with ⟨h1, rfl⟩ | ⟨d, e, h1, h2, h3, h4, rfl⟩
    · exact .inl ⟨h1, hp.ok (rp_bl.mpr rfl) hw⟩
    · exact .inr ⟨d, e, h1, h2, h3, h4, hp.ok (rp_bl.mpr rfl) hw⟩
  · exact hp.elim
theorem c_ne (hu : X.A.units + 64 < cLine) (ha : E X W a f) (hb : E X W b g) : Cj X W .NotEq a b (d2 f g neD) := by
  refine c_cmp (op_ne.or (op_neD hu)) (fun w σ x y u v Q hw rx ry hp => ?_) ha hb
  unfold neD at hp
  split at hp
  · rename_i t ht
    rcases eqv_ok hw ht rx ry with ⟨h1, rfl⟩ | ⟨d, e, h1, h2, h3, h4, rfl⟩
    · exact .inl ⟨h1, hp.ok (rp_bl.mpr rfl) hw⟩
    · exact .inr ⟨d, e, h1, h2, h3, h4, hp.ok (rp_bl.mpr rfl) hw⟩
  · exact hp.elim
theorem c_lt (ha : E X W a f) (hb : E X W b g) : Cj X W .Lt a b (d2 f g ltD) := by
  refine c_cmp op_lt (fun w σ x y u v Q hw rx ry hp => ?_) ha hb
  unfold ltD at hp
  split at hp
  · rw [rp_int] at rx ry; subst rx; subst ry
    exact ⟨_, _, rfl, rfl, hp.ok (rp_bl.mpr rfl) hw⟩
  · exact hp.elim
theorem c_le (ha : E X W a f) (hb : E X W b g) : Cj X W .LtE a b (d2 f g leD) := by
  refine c_cmp op_le (fun w σ x y u v Q hw rx ry hp => ?_) ha hb
  unfold leD at hp
  split at hp
  · rw [rp_int] at rx ry; subst rx; subst ry
    exact ⟨_, _, rfl, rfl, hp.ok (rp_bl.mpr rfl) hw⟩
  · exact hp.elim
theorem c_gt (ha : E X W a f) (hb : E X W b g) : Cj X W .Gt a b (d2 f g gtD) := by
  refine c_cmp op_gt (fun w σ x y u v Q hw rx ry hp => ?_) ha hb
  unfold gtD at hp
  split at hp
  · rw [rp_int] at rx ry; subst rx; subst ry
    exact ⟨_, _, rfl, rfl, hp.ok (rp_bl.mpr rfl) hw⟩
  · exact hp.elim
theorem c_ge (ha : E X W a f) (hb : E X W b g) : Cj X W .GtE a b (d2 f g geD) := by
  refine c_cmp op_ge (fun w σ x y u v Q hw rx ry hp => ?_) ha hb
  unfold geD at hp
  split at hp
  · rw [rp_int] at rx ry; subst rx; subst ry
    exact ⟨_, _, rfl, rfl, hp.ok (rp_bl.mpr rfl) hw⟩
  · exact hp.elim
theorem op_inDict (hu : X.A.units + 1 < cLine) : OpR X (compareOp .In) (fun x y H Q => ∃ a o, y = .ref a ∧ DGet H a x o ∧ Q (.bl o.isSome) H) := by
  intro pins s σ H x y v u Q I rx ry ⟨a, o, e, g, q⟩
  subst e
  cases (show u = Value.ref a from ry)
  exact d_in hu I g rx fun s' I' => ⟨.bl _, H, I', rfl, q⟩
theorem op_notInDict (hu : X.A.units + 1 < cLine) : OpR X (compareOp .NotIn) (fun x y H Q => ∃ a o, y = .ref a ∧ DGet H a x o ∧ Q (.bl (!o.isSome)) H) := by
  intro pins s σ H x y v u Q I rx ry ⟨a, o, e, g, q⟩
  subst e
  cases (show u = Value.ref a from ry)
  exact d_notIn hu I g rx fun s' I' => ⟨.bl _, H, I', rfl, q⟩
theorem dget_kv {K : PySem.W.Frag} {w : Wd} {a : Addr} {xs : List (Str × D)} {vs : List (Key × V)} (k : Str) (h : w.H a = some (.dK vs)) (r : Rkv K w xs vs) : ∃ o, DGet w.H a (.str k) o ∧ o.isSome = (kv xs k).isSome ∧ ∀ d, kv xs k = some d → ∃ v, o = some v ∧ Rp K w d v := by
  have q := kv_ok k r
  refine ⟨_, DGet.k (k := Sum.inr k) h, ?_, fun d hd => ?_⟩
  · cases e : kv xs k with
    | none => rw [e] at q; simp only at q; rw [q]; rfl
    | some d => rw [e] at q; obtain ⟨v, q, _⟩ := q; rw [q]; rfl
  · rw [hd] at q; obtain ⟨v, q, r⟩ := q; exact ⟨v, q, r⟩
theorem c_in (hu : X.A.units + 64 < cLine) (ha : E X W a f) (hb : E X W b g) : Cj X W .In a b (d2 f g inD) := by
  refine c_cmp ((op_inDict (by omega)).or op_in_seq) (fun w σ x y u v Q hw rx ry hp => ?_) ha hb
  unfold inD at hp
  split at hp
  · rename_i kvs hk
    split at hp
    · rename_i k
      obtain ⟨p, vs, rfl, hh, r⟩ := getDc_ok hw hk ry
      rw [rp_str] at rx; subst rx
      obtain ⟨o, g, e, _⟩ := dget_kv k hh r
      exact .inl ⟨p, o, rfl, g, by rw [e]; exact hp.ok (rp_bl.mpr rfl) hw⟩
    · exact hp.elim
  · split at hp
    · rename_i xs v0 h1 h2
      split at hp
      · rename_i vs h3
        obtain ⟨p, us, rfl, hh, r⟩ := getS_ok hw h1 ry
        obtain ⟨rfl, f1⟩ := flat_ok h2 rx
        obtain ⟨rfl, f2⟩ := flats_ok h3 r
        exact .inr ⟨p, _, rfl, hh, f1, f2, hp.ok (rp_bl.mpr rfl) hw⟩
      · exact hp.elim
    · exact hp.elim
theorem c_nin (hu : X.A.units + 64 < cLine) (ha : E X W a f) (hb : E X W b g) : Cj X W .NotIn a b (d2 f g ninD) := by
  refine c_cmp ((op_notInDict (by omega)).or op_notIn_seq) (fun w σ x y u v Q hw rx ry hp => ?_) ha hb
  unfold ninD at hp
  split at hp
  · rename_i kvs hk
    split at hp
    · rename_i k
      obtain ⟨p, vs, rfl, hh, r⟩ := getDc_ok hw hk ry
      rw [rp_str] at rx; subst rx
      obtain ⟨o, g, e, _⟩ := dget_kv k hh r
      exact .inl ⟨p, o, rfl, g, by rw [e]; exact hp.ok (rp_bl.mpr rfl) hw⟩
    · exact hp.elim
  · split at hp
    · rename_i xs v0 h1 h2
      split at hp
      · rename_i vs h3
        obtain ⟨p, us, rfl, hh, r⟩ := getS_ok hw h1 ry
        obtain ⟨rfl, f1⟩ := flat_ok h2 rx
        obtain ⟨rfl, f2⟩ := flats_ok h3 r
        exact .inr ⟨p, _, rfl, hh, f1, f2, hp.ok (rp_bl.mpr rfl) hw⟩
      · exact hp.elim
    · exact hp.elim
theorem isN_ok {K : PySem.W.Frag} {mg : Str → Option Value} {w : Wd} {d : D} {v : V} {Q : VK} (hw : Hrel K w) (r : Rp K w d v) (h : Po K mg W (Rp K) w σ (isN d w.c) Q) : Q (.bl (decide (v = .non))) w.H := by
  cases d with
  | non => rw [rp_non] at r; subst r; exact h.ok (rp_bl.mpr rfl) hw
  | bl b => rw [rp_bl] at r; subst r; exact h.ok (rp_bl.mpr rfl) hw
  | int b => rw [rp_int] at r; subst r; exact h.ok (rp_bl.mpr rfl) hw
  | str b => rw [rp_str] at r; subst r; exact h.ok (rp_bl.mpr rfl) hw
  | tup xs => simp only [Rp] at r; obtain ⟨a, vs, rfl, _⟩ := r; exact h.ok (rp_bl.mpr rfl) hw
  | lst xs => simp only [Rp] at r; obtain ⟨a, vs, rfl, _⟩ := r; exact h.ok (rp_bl.mpr rfl) hw
  | scr xs => simp only [Rp] at r; obtain ⟨a, vs, rfl, _⟩ := r; exact h.ok (rp_bl.mpr rfl) hw
  | ref n => simp only [Rp] at r; obtain ⟨a, rfl, _⟩ := r; exact h.ok (rp_bl.mpr rfl) hw
  | raw u => exact h.elim
theorem isnN_ok {K : PySem.W.Frag} {mg : Str → Option Value} {w : Wd} {d : D} {v : V} {Q : VK} (hw : Hrel K w) (r : Rp K w d v) (h : Po K mg W (Rp K) w σ (isnN d w.c) Q) : Q (.bl (!decide (v = .non))) w.H := by
  cases d with
  | non => rw [rp_non] at r; subst r; exact h.ok (rp_bl.mpr rfl) hw
  | bl b => rw [rp_bl] at r; subst r; exact h.ok (rp_bl.mpr rfl) hw
  | int b => rw [rp_int] at r; subst r; exact h.ok (rp_bl.mpr rfl) hw
  | str b => rw [rp_str] at r; subst r; exact h.ok (rp_bl.mpr rfl) hw
  | tup xs => simp only [Rp] at r; obtain ⟨a, vs, rfl, _⟩ := r; exact h.ok (rp_bl.mpr rfl) hw
  | lst xs => simp only [Rp] at r; obtain ⟨a, vs, rfl, _⟩ := r; exact h.ok (rp_bl.mpr rfl) hw
  | scr xs => simp only [Rp] at r; obtain ⟨a, vs, rfl, _⟩ := r; exact h.ok (rp_bl.mpr rfl) hw
  | ref n => simp only [Rp] at r; obtain ⟨a, rfl, _⟩ := r; exact h.ok (rp_bl.mpr rfl) hw
  | raw u => exact h.elim
theorem c_isN {j pos'} (ha : E X W a f) : Cj X W .Is a (.Constant .none j pos') (d1 f isN) := by
  refine PC.imp (pc_isN ha) fun σ H Q hq => rd_1 (r := fun x H1 Q => Q (.bl (decide (x = .non))) H1) (fun w σ x u Q hw rx hp => isN_ok hw rx hp) hq
theorem c_isnN {j pos'} (ha : E X W a f) : Cj X W .IsNot a (.Constant .none j pos') (d1 f isnN) := by
  refine PC.imp (pc_notN ha) fun σ H Q hq => rd_1 (r := fun x H1 Q => Q (.bl (!decide (x = .non))) H1) (fun w σ x u Q hw rx hp => isnN_ok hw rx hp) hq

theorem ix_dict (hu : X.A.units + 1 < cLine) : IxR X (fun x y H Q => ∃ a v, x = .ref a ∧ DGet H a y (some v) ∧ Q v H) := by
  intro value slice pins s σ H x y v u Q I rx ry ⟨a, z, e, g, q⟩ hs
  subst e
  cases (show v = Value.ref a from rx)
  exact tail_any (dict_typeIs I g) PySem.F.slot_dict_getitem.lookup (d_getItem hu I g ry fun w' s3 I3 rw' => ⟨z, H, I3, rw', q⟩) hs
theorem e_ix (hu : X.A.units + 1 < cLine) (ha : E X W a f) (hb : E X W b g) (hs : PlainIx b) : E X W (.Subscript a b pos) (d2 f g ixD) := by
  refine PE.imp (pe_ix ((ix_dict hu).or (ix_list.or ix_tup)) ha hb hs) fun σ H Q hq => rd_2 (fun w σ x y u v Q hw rx ry hp => ?_) hq
  unfold ixD at hp
  split at hp
  · rename_i kvs hk
    split at hp
    · rename_i k
      split at hp
      · rename_i d hd
        obtain ⟨p, vs, rfl, hh, r⟩ := getDc_ok hw hk rx
        rw [rp_str] at ry; subst ry
        obtain ⟨o, g, _, e⟩ := dget_kv k hh r
        obtain ⟨v, rfl, r⟩ := e d hd
        exact .inl ⟨p, v, rfl, g, hp.ok r hw⟩
      · exact hp.elim
    · exact hp.elim
  · split at hp
    · rename_i xs i hx
      split at hp
      · rename_i d hd
        obtain ⟨p, vs, rfl, hh, r⟩ := getS_ok hw hx rx
        rw [rp_int] at ry; subst ry
        obtain ⟨v, hv, rv⟩ := r.atI hd
        rcases hh with hh | hh
        · exact .inr (.inl ⟨p, vs, i, v, rfl, rfl, hh, hv, hp.ok rv hw⟩)
        · exact .inr (.inr ⟨p, vs, i, v, rfl, rfl, hh, hv, hp.ok rv hw⟩)
      · exact hp.elim
    · exact hp.elim

/-- a slice's part -/
abbrev OF := Env → Cs → R (Option Int × Cs)
def oNone : OF := fun _ c => .ok (none, c)
def oSome (f : EF) : OF := fun env c => (f env c).bind fun p => match p.1 with
  | .int i => .ok (some i, p.2)
  | _ => .stuck
def rdO (K : PySem.W.Frag) (mg : Str → Option Value) (W : WX) (f : OF) : TO := fun σ H Q => ∃ m c env, Hrel K ⟨m, c, H⟩ ∧ Ev K ⟨m, c, H⟩ env σ ∧ Po K mg W (fun _ a b => a = b) ⟨m, c, H⟩ σ (f env c) Q
def Os (X : Cx) (W : WX) (e : Option Expr) (f : OF) : Prop := PO X e (rdO X.K X.mg W f)
theorem PO.imp {X : Cx} {e : Option Expr} {t t' : TO} (h : PO X e t) (i : ∀ σ H Q, t' σ H Q → t σ H Q) : PO X e t' := ⟨fun pins s σ H Q I q => h.run pins s σ H Q I (i σ H Q q)⟩
theorem o_none : Os X W none oNone := by
  refine PO.imp po_none fun σ H Q ⟨m, c, env, hr, ev, h⟩ => ?_
  exact h.ok (w := ⟨m, c, H⟩) rfl hr
theorem o_some (h : E X W e f) : Os X W (some e) (oSome f) := by
  refine PO.imp (po_some h) fun σ H Q ⟨m, c, env, hr, ev, hp⟩ => ?_
  refine ⟨m, c, env, hr, ev, (Po.bind (Rel := Rp X.K) hp).imp fun x H1 ⟨m1, a, c1, l1, h1, r1, p1⟩ => ?_⟩
  simp only at p1
  split at p1
  · rw [rp_int] at r1; subst r1
    exact ⟨_, rfl, p1.ok (w := ⟨m1, c1, H1⟩) rfl h1⟩
  · exact p1.elim
def dSl (f : EF) (lo hi : OF) : EF := fun env c => (f env c).bind fun p => (lo env p.2).bind fun q => (hi env q.2).bind fun r => slD p.1 q.1 r.1 r.2
theorem e_sl {lo hi : Option Expr} {l u : OF} {p2 : Pos} (ha : E X W a f) (hl : Os X W lo l) (hu : Os X W hi u) : E X W (.Subscript a (.Slice lo hi none p2) pos) (dSl f l u) := by
  have rule : SlR X (fun x lo hi H Q => rSlA X.K x lo hi H Q ∨ rSlL X.K x lo hi H Q) := sl_tupA.or sl_list
  refine PE.imp (pe_slice rule ha hl hu) fun σ H Q ⟨m, c, env, hr, ev, hp⟩ => ?_
  refine ⟨m, c, env, hr, ev, (Po.bind (Rel := Rp X.K) hp).imp fun x H1 ⟨m1, d, c1, l1, h1, r1, p1⟩ => ?_⟩
  refine ⟨m1, c1, env, h1, ev.mono l1.toLat0, (Po.bind (Rel := fun _ a b => a = b) p1).imp fun o H2 ⟨m2, o', c2, l2, h2, e2, p2⟩ => ?_⟩
  refine ⟨m2, c2, env, h2, ev.mono (l1.trans l2).toLat0, (Po.bind (Rel := fun _ a b => a = b) p2).imp fun o3 H3 ⟨m3, o3', c3, l3, h3, e3, p3⟩ => ?_⟩
  subst e2; subst e3
  have r3 := Rp.mono (l2.trans l3).toLat0 _ _ r1
  simp only at p3
  unfold slD at p3
  split at p3
  · have r3' := r3
    simp only [Rp] at r3
    obtain ⟨p, vs, rfl, hs, rs⟩ := r3
    refine .inl ⟨p, vs, rfl, hs, fun hw => ?_, fun _ => po_newTup (w := ⟨m3, c3, H3⟩) (c' := c3) h3 (rs.cut _ _) p3⟩
    refine p3.ok (w := ⟨m3, c3, H3⟩) ?_ h3
    unfold cutD
    rw [rs.length, hw.1, hw.2, List.drop_zero, ← rs.length, Nat.sub_zero, List.take_length]
    exact r3'
  · split at p3
    · rename_i xs hx
      obtain ⟨p, vs, rfl, hs, rs⟩ := getL_ok (w := ⟨m3, c3, H3⟩) h3 hx r3
      exact .inr ⟨p, vs, rfl, hs, po_newLst (w := ⟨m3, c3, H3⟩) h3 (rs.cut _ _) p3⟩
    · exact p3.elim
end
end Mi
namespace Mi
open PySem PySem.Spec PyProof.Rows L2

/-! ### tests -/
/-- a value's truth -/
def truD (c : Cs) (d : D) : Option Bool := match d with
  | .non => some false
  | .bl b => some b
  | .int i => some (i != 0)
  | .str y => if y.length ≤ lim then some ((y.length : Int) != 0) else none
  | d => match getS c d with
    | some xs => some (!xs.isEmpty)
    | none => none
def dTt (f : EF) : TF := fun env c => (f env c).bind fun p => match truD p.2 p.1 with
  | some b => .ok (b, p.2)
  | none => .stuck
def dAnd (t u : TF) : TF := fun env c => (t env c).bind fun p => if p.1 = true then u env p.2 else .ok (false, p.2)
def dOr (t u : TF) : TF := fun env c => (t env c).bind fun p => if p.1 = true then .ok (true, p.2) else u env p.2
def dNot (t : TF) : TF := fun env c => (t env c).bind fun p => .ok (!p.1, p.2)
def dIf (t : TF) (f g : EF) : EF := fun env c => (t env c).bind fun p => if p.1 = true then f env p.2 else g env p.2
def dAndV (f g : EF) : EF := fun env c => (f env c).bind fun p => match p.1 with
  | .bl true => g env p.2
  | .bl false => .ok (.bl false, p.2)
  | _ => .stuck
def dOrV (f g : EF) : EF := fun env c => (f env c).bind fun p => match p.1 with
  | .bl false => g env p.2
  | .bl true => .ok (.bl true, p.2)
  | _ => .stuck
def notD : D → Cs → R (D × Cs)
  | .bl b, c => .ok (.bl (!b), c)
  | _, _ => .stuck
section
variable {X : Cx} {W : WX} {a b e : Expr} {es rest : List Expr} {f g : EF} {fa : AF} {pos : Pos} {σ : L2.St} {H : Hp} {t u : TF}
theorem isEmpty_len {α β : Type} : ∀ {xs : List α} {ys : List β}, xs.length = ys.length → xs.isEmpty = ys.isEmpty
  | [], [], _ => rfl
  | _ :: _, _ :: _, _ => rfl
theorem truD_ok {K : PySem.W.Frag} {w : Wd} (hw : Hrel K w) {d : D} {v : V} {k : Bool} (h : truD w.c d = some k) (r : Rp K w d v) : TruV K v w.H k := by
  unfold truD at h
  split at h
  · rw [rp_non] at r; subst r; cases h; rfl
  · rw [rp_bl] at r; subst r; cases h; rfl
  · rw [rp_int] at r; subst r; cases h; rfl
  · rw [rp_str] at r; subst r
    split at h
    · rename_i hl; cases h; exact ⟨by rw [lim_eq]; exact hl, rfl⟩
    · cases h
  · split at h
    · rename_i xs hx
      cases h
      obtain ⟨a, vs, rfl, hh, r⟩ := getS_ok hw hx r
      rcases hh with hh | hh
      · exact .inl ⟨vs, hh, by rw [isEmpty_len r.length]⟩
      · exact .inr (.inl ⟨vs, hh, by rw [isEmpty_len r.length]⟩)
    · cases h
/-- any value as a test -/
theorem t_e (h : E X W a f) (he : ∀ whole, isTrue a X.env whole = (do let v ← whole; standAt a.pos; holding [v] (truthy v)) := by intro _; rfl) : T X W a (dTt f) := by
  refine PT.imp (pt_truth h he) fun σ H Q ⟨m, c, env, hr, ev, hp⟩ => ?_
  refine ⟨m, c, env, hr, ev, (Po.bind (Rel := Rp X.K) hp).imp fun x H1 ⟨m1, d, c1, l1, h1, r1, p1⟩ => ?_⟩
  simp only at p1
  split at p1
  · rename_i k hk
    exact ⟨k, truD_ok (w := ⟨m1, c1, H1⟩) h1 hk r1, p1.ok (w := ⟨m1, c1, H1⟩) rfl h1⟩
  · exact p1.elim
theorem rd_and {Q : Bool → Hp → Prop} (h : rdT X.K X.mg W (dAnd t u) σ H Q) : tAnd (rdT X.K X.mg W t) (rdT X.K X.mg W u) σ H Q := by
  obtain ⟨m, c, env, hr, ev, hp⟩ := h
  refine ⟨m, c, env, hr, ev, (Po.bind (Rel := fun _ a b => a = b) hp).imp fun x H1 ⟨m1, d, c1, l1, h1, r1, p1⟩ => ?_⟩
  subst r1
  cases d with
  | true => exact ⟨m1, c1, env, h1, ev.mono l1.toLat0, p1⟩
  | false => exact p1.ok (w := ⟨m1, c1, H1⟩) rfl h1
theorem rd_or {Q : Bool → Hp → Prop} (h : rdT X.K X.mg W (dOr t u) σ H Q) : tOr (rdT X.K X.mg W t) (rdT X.K X.mg W u) σ H Q := by
  obtain ⟨m, c, env, hr, ev, hp⟩ := h
  refine ⟨m, c, env, hr, ev, (Po.bind (Rel := fun _ a b => a = b) hp).imp fun x H1 ⟨m1, d, c1, l1, h1, r1, p1⟩ => ?_⟩
  subst r1
  cases d with
  | true => exact p1.ok (w := ⟨m1, c1, H1⟩) rfl h1
  | false => exact ⟨m1, c1, env, h1, ev.mono l1.toLat0, p1⟩
theorem tw_and1 (ha : T X W a t) : TW X W (.BoolOp .And [a] pos) t := pw_and1 ha
theorem tw_or1 (ha : T X W a t) : TW X W (.BoolOp .Or [a] pos) t := pw_or1 ha
theorem tw_and (ha : T X W a t) (hb : TW X W (.BoolOp .And (b :: rest) pos) u) : TW X W (.BoolOp .And (a :: b :: rest) pos) (dAnd t u) := PW.imp (pw_and ha hb) fun _ _ _ h => rd_and h
theorem tw_or (ha : T X W a t) (hb : TW X W (.BoolOp .Or (b :: rest) pos) u) : TW X W (.BoolOp .Or (a :: b :: rest) pos) (dOr t u) := PW.imp (pw_or ha hb) fun _ _ _ h => rd_or h
theorem t_w (h : TW X W a t) : T X W a t := PW.pt h
theorem t_not (ha : T X W a t) : T X W (.UnaryOp .Not a pos) (dNot t) := by
  refine PT.imp (pt_not ha) fun σ H Q ⟨m, c, env, hr, ev, hp⟩ => ?_
  refine ⟨m, c, env, hr, ev, (Po.bind (Rel := fun _ a b => a = b) hp).imp fun x H1 ⟨m1, d, c1, l1, h1, r1, p1⟩ => ?_⟩
  subst r1
  exact p1.ok (w := ⟨m1, c1, H1⟩) rfl h1
theorem e_if {c : Expr} (hc : T X W c t) (ha : E X W a f) (hb : E X W b g) : E X W (.IfExp c a b pos) (dIf t f g) := by
  refine PE.imp (pe_ifExp hc ha hb) fun σ H Q ⟨m, c, env, hr, ev, hp⟩ => ?_
  refine ⟨m, c, env, hr, ev, (Po.bind (Rel := fun _ a b => a = b) hp).imp fun x H1 ⟨m1, d, c1, l1, h1, r1, p1⟩ => ?_⟩
  subst r1
  cases d with
  | true => exact ⟨m1, c1, env, h1, ev.mono l1.toLat0, p1⟩
  | false => exact ⟨m1, c1, env, h1, ev.mono l1.toLat0, p1⟩
theorem e_one {op} (h : E X W a f) : E X W (.BoolOp op [a] pos) f := pe_one h
theorem e_and (ha : E X W a f) (hb : E X W (.BoolOp .And (b :: rest) pos) g) : E X W (.BoolOp .And (a :: b :: rest) pos) (dAndV f g) := by
  refine PE.imp (pe_and ha hb) fun σ H Q ⟨m, c, env, hr, ev, hp⟩ => ?_
  refine ⟨m, c, env, hr, ev, (Po.bind (Rel := Rp X.K) hp).imp fun x H1 ⟨m1, d, c1, l1, h1, r1, p1⟩ => ?_⟩
  simp only at p1
  split at p1
  · rw [rp_bl] at r1; subst r1
    exact ⟨true, rfl, m1, c1, env, h1, ev.mono l1.toLat0, p1⟩
  · rw [rp_bl] at r1; subst r1
    exact ⟨false, rfl, p1.ok (w := ⟨m1, c1, H1⟩) (rp_bl.mpr rfl) h1⟩
  · exact p1.elim
theorem e_or (ha : E X W a f) (hb : E X W (.BoolOp .Or (b :: rest) pos) g) : E X W (.BoolOp .Or (a :: b :: rest) pos) (dOrV f g) := by
  refine PE.imp (pe_or ha hb) fun σ H Q ⟨m, c, env, hr, ev, hp⟩ => ?_
  refine ⟨m, c, env, hr, ev, (Po.bind (Rel := Rp X.K) hp).imp fun x H1 ⟨m1, d, c1, l1, h1, r1, p1⟩ => ?_⟩
  simp only at p1
  split at p1
  · rw [rp_bl] at r1; subst r1
    exact ⟨false, rfl, m1, c1, env, h1, ev.mono l1.toLat0, p1⟩
  · rw [rp_bl] at r1; subst r1
    exact ⟨true, rfl, p1.ok (w := ⟨m1, c1, H1⟩) (rp_bl.mpr rfl) h1⟩
  · exact p1.elim
theorem e_not (ha : E X W a f) : E X W (.UnaryOp .Not a pos) (d1 f notD) := by
  refine PE.imp (pe_not ha) fun σ H Q hq => rd_1 (r := fun x H1 Q => ∃ c, x = .bl c ∧ Q (.bl (!c)) H1) (fun w σ x u Q hw rx hp => ?_) hq
  unfold notD at hp
  split at hp
  · rw [rp_bl] at rx; subst rx
    exact ⟨_, rfl, hp.ok (rp_bl.mpr rfl) hw⟩
  · exact hp.elim
end

/-! ### targets -/
abbrev GF := D → Env → Cs → Option (Env × Cs)
def rdG (K : PySem.W.Frag) (own : List Nat) (g : GF) : TG := fun v σ H Q => ∃ m c env d, Hrel K ⟨m, c, H⟩ ∧ Ev K ⟨m, c, H⟩ env σ ∧ Rp K ⟨m, c, H⟩ d v ∧
  match g d env c with
  | some p => ∀ σ' m' H', Later ⟨m, c, H⟩ ⟨m', p.2, H'⟩ → Hrel K ⟨m', p.2, H'⟩ → Ev K ⟨m', p.2, H'⟩ p.1 σ' → wipe σ' own = wipe σ own → Q σ' H'
  | none => False
def Gt (X : Cx) (own : List Nat) (e : Expr) (g : GF) : Prop := PG X e (rdG X.K own g)
abbrev GsF := List D → Env → Cs → Option (Env × Cs)
def rdGs (K : PySem.W.Frag) (own : List Nat) (g : GsF) : TGs := fun vs σ H Q => ∃ m c env ds, Hrel K ⟨m, c, H⟩ ∧ Ev K ⟨m, c, H⟩ env σ ∧ Rps K ⟨m, c, H⟩ ds vs ∧
  match g ds env c with
  | some p => ∀ σ' m' H', Later ⟨m, c, H⟩ ⟨m', p.2, H'⟩ → Hrel K ⟨m', p.2, H'⟩ → Ev K ⟨m', p.2, H'⟩ p.1 σ' → wipe σ' own = wipe σ own → Q σ' H'
  | none => False
def Gts (X : Cx) (own : List Nat) (e : List Expr) (g : GsF) : Prop := PGs X e (rdGs X.K own g)
theorem PG.imp {X : Cx} {e : Expr} {t t' : TG} (h : PG X e t) (i : ∀ v σ H Q, t' v σ H Q → t v σ H Q) : PG X e t' := ⟨fun pins s σ H v u Q I r q => h.run pins s σ H v u Q I r (i v σ H Q q)⟩
theorem PGs.imp {X : Cx} {e : List Expr} {t t' : TGs} (h : PGs X e t) (i : ∀ v σ H Q, t' v σ H Q → t v σ H Q) : PGs X e t' := ⟨fun pins s σ H v u Q I r q => h.run pins s σ H v u Q I r (i v σ H Q q)⟩
def gN (i : Nat) : GF := fun d env c => some (env.set i (some d), c)
def gsNil : GsF := fun ds env c => match ds with
  | [] => some (env, c)
  | _ => none
def gsCons (g : GF) (gs : GsF) : GsF := fun ds env c => match ds with
  | d :: r => (g d env c).bind fun p => gs r p.1 p.2
  | [] => none
def gT (n : Nat) (gs : GsF) : GF := fun d env c => match d with
  | .tup ds => if ds.length = n then gs ds env c else none
  | _ => none
section
variable {X : Cx} {W : WX} {a b e : Expr} {es rest : List Expr} {f g : EF} {pos : Pos} {x : Str} {own : List Nat}
theorem wipe_set {σ : L2.St} {i : Nat} {v : Option V} : ∀ {vs : List Nat}, i ∈ vs → wipe (σ.set i v) vs = wipe σ vs
  | [], h => by cases h
  | j :: vs, h => by
    by_cases e : i ∈ vs
    · show (wipe (σ.set i v) vs).set j none = (wipe σ vs).set j none
      rw [wipe_set e]
    · have : i = j := by rcases List.mem_cons.mp h with h | h; exact h; exact absurd h e
      subst this
      show (wipe (σ.set i v) vs).set i none = (wipe σ vs).set i none
      have aux : ∀ {vs : List Nat}, i ∉ vs → wipe (σ.set i v) vs = (wipe σ vs).set i v := by
        intro vs
        induction vs with
        | nil => intro _; rfl
        | cons k ks ih =>
          intro hn
          show (wipe (σ.set i v) ks).set k none = ((wipe σ ks).set k none).set i v
          rw [ih (fun z => hn (List.mem_cons_of_mem _ z)), List.set_comm _ _ (fun z => hn (by rw [z]; exact List.mem_cons_self))]
      rw [aux e, List.set_set]
theorem g_n {i : Nat} (ho : i ∈ own) (hN : X.N.Nodup) (hi : X.N[i]? = some x) (hx : Loc X.env.scope x) (hf : X.fn x = true ∨ X.env.scope.names.lookup x = some .local := by first | exact .inl rfl | exact .inr rfl | assumption) : Gt X own (.Name x pos) (gN i) :=
  PG.imp (pg_name hN hi hx hf) fun v σ H Q ⟨m, c, env, d, hr, ev, r, h⟩ => h _ m H (Later.refl _) hr (ev.set r i) (wipe_set ho)
theorem gs_nil : Gts X own [] gsNil := PGs.imp pgs_nil fun v σ H Q ⟨m, c, env, d, hr, ev, r, h⟩ => by
  cases d with
  | nil => simp only [Rps] at r; exact ⟨r, h _ m H (Later.refl _) hr ev rfl⟩
  | cons a b => exact h.elim
theorem gs_cons {g : GF} {gs : GsF} (h1 : Gt X own e g) (h2 : Gts X own es gs) (hs : (assignEach (e :: es) X.env).map (·.2) = assign e X.env :: (assignEach es X.env).map (·.2) := by rfl) : Gts X own (e :: es) (gsCons g gs) :=
  PGs.imp (pgs_cons h1 h2 hs) fun v σ H Q ⟨m, c, env, ds, hr, ev, r, h⟩ => by
    cases ds with
    | nil => exact h.elim
    | cons d ds =>
      simp only [Rps] at r
      obtain ⟨v, vs, rfl, r1, r2⟩ := r
      refine ⟨v, vs, rfl, m, c, env, d, hr, ev, r1, ?_⟩
      unfold gsCons at h
      simp only at h
      cases hg : g d env c with
      | none => rw [hg] at h; exact h.elim
      | some p =>
        rw [hg] at h
        simp only [Option.bind_some] at h
        intro σ1 m1 H1 l1 hr1 ev1 w1
        refine ⟨m1, p.2, p.1, ds, hr1, ev1, Rps.mono l1.toLat0 _ _ r2, ?_⟩
        cases hg2 : gs ds p.1 p.2 with
        | none => rw [hg2] at h; exact h.elim
        | some q =>
          rw [hg2] at h
          exact fun σ2 m2 H2 l2 hr2 ev2 w2 => h σ2 m2 H2 (l1.trans l2) hr2 ev2 (w2.trans w1)
theorem g_t {k n : Nat} {gs : GsF} (hc : X.calm = true) (h : Gts X own es gs)
    (hn : (assignEach es X.env).length = n := by rfl) (hst : (assignEach es X.env).findIdx? (·.1) = none := by rfl) : Gt X own (.Tuple es k pos) (gT n gs) :=
  PG.imp (pg_tup hc h hn hst) fun v σ H Q ⟨m, c, env, d, hr, ev, r, h⟩ => by
    cases d <;> try exact h.elim
    rename_i ds
    simp only [Rp] at r
    obtain ⟨a, vs, rfl, hs, r⟩ := r
    unfold gT at h
    simp only at h
    by_cases hl : ds.length = n
    · rw [if_pos hl] at h
      exact ⟨a, vs, rfl, hs, by rw [← r.length]; exact hl, m, c, env, ds, hr, ev, r, h⟩
    · rw [if_neg hl] at h; exact h.elim
end

/-! ### statements -/
def sSeq (a b : SF) : SF := fun env c => (a env c).bind fun p => match p.1 with
  | .next => b p.2.1 p.2.2
  | _ => .ok p
def sNext : SF := fun env c => .ok (.next, env, c)
def sRet (f : EF) : SF := fun env c => (f env c).bind fun p => .ok (.ret p.1, env, p.2)
def sRetN : SF := fun env c => .ok (.ret .non, env, c)
def sEx (f : EF) : SF := fun env c => (f env c).bind fun p => .ok (.next, env, p.2)
def sAsg (f : EF) (g : GF) : SF := fun env c => (f env c).bind fun p => match g p.1 env p.2 with
  | some q => .ok (.next, q.1, q.2)
  | none => .stuck
def sIf (t : TF) (a b : SF) : SF := fun env c => (t env c).bind fun p => if p.1 = true then a env p.2 else b env p.2
def sStuck : SF := fun _ _ => .stuck
def sBrk : SF := fun env c => .ok (.brk, env, c)
def sCont : SF := fun env c => .ok (.cont, env, c)

/-- what is wanted of a statement's result -/
def PoS (K : PySem.W.Frag) (mg : Str → Option Value) (W : WX) (w : Wd) (σ : L2.St) (r : R (Fl × Env × Cs)) (DE : Ends) : Prop :=
  match r with
  | .ok p => ∀ σ' m' H', Later w ⟨m', p.2.2, H'⟩ → Hrel K ⟨m', p.2.2, H'⟩ → Ev K ⟨m', p.2.2, H'⟩ p.2.1 σ' →
    match p.1 with
    | .next => DE.nx σ' H'
    | .brk => DE.bk σ' H'
    | .cont => DE.ct σ' H'
    | .ret d => ∀ v, Rp K ⟨m', p.2.2, H'⟩ d v → DE.rt v H'
  | .err e c' => ∀ cls d (σ' : L2.St) m' H', Later w ⟨m', c', H'⟩ → Hrel K ⟨m', c', H'⟩ → ExOk K mg ⟨m', c', H'⟩ e cls d → W cls d σ' H'
  | .stuck => False
theorem rdS_iff {K : PySem.W.Frag} {mg : Str → Option Value} {W : WX} {f : SF} {DE : Ends} {σ : L2.St} {H : Hp} : rdS K mg W f DE σ H ↔ ∃ m c env, Hrel K ⟨m, c, H⟩ ∧ Ev K ⟨m, c, H⟩ env σ ∧ PoS K mg W ⟨m, c, H⟩ σ (f env c) DE := Iff.rfl
section
variable {K : PySem.W.Frag} {mg : Str → Option Value} {W : WX} {w w' : Wd} {σ σ' : L2.St} {DE DE' : Ends} {r : R (Fl × Env × Cs)}
theorem PoS.later (x : Later w w') (h : PoS K mg W w σ r DE) : PoS K mg W w' σ' r DE := by
  cases r with
  | ok p => exact fun σ' m' H' l y z => h σ' m' H' (x.trans l) y z
  | err e c => exact fun cls d σ' m' H' l y z => h cls d σ' m' H' (x.trans l) y z
  | stuck => exact h
/-- an expression first -/
theorem PoS.bind {α β : Type} {Rel : Wd → α → β → Prop} {r : R (α × Cs)} {k : α × Cs → R (Fl × Env × Cs)} (h : PoS K mg W w σ (r.bind k) DE) :
    Po K mg W Rel w σ r (fun b H1 => ∃ m1 a c1, Later w ⟨m1, c1, H1⟩ ∧ Hrel K ⟨m1, c1, H1⟩ ∧ Rel ⟨m1, c1, H1⟩ a b ∧ PoS K mg W ⟨m1, c1, H1⟩ σ (k (a, c1)) DE) := by
  cases r with
  | ok p => exact fun b m' H' x y z => ⟨m', p.1, p.2, x, y, z, PoS.later x h⟩
  | err e c => exact fun cls d m' H' x y z => h cls d σ m' H' x y z
  | stuck => exact h
theorem PoS.next {env : Env} (h : PoS K mg W w σ (.ok (.next, env, w.c)) DE) (hr : Hrel K w) (ev : Ev K w env σ') : DE.nx σ' w.H := h σ' w.m w.H (Later.refl w) hr ev
theorem PoS.next' {w' : Wd} {env : Env} (h : PoS K mg W w σ (.ok (.next, env, w'.c)) DE) (l : Later w w') (hr : Hrel K w') (ev : Ev K w' env σ') : DE.nx σ' w'.H := h σ' w'.m w'.H l hr ev
theorem PoS.ret {env : Env} {d : D} {v : V} (h : PoS K mg W w σ (.ok (.ret d, env, w.c)) DE') (hr : Hrel K w) (ev : Ev K w env σ') (r : Rp K w d v) : DE'.rt v w.H := h σ' w.m w.H (Later.refl w) hr ev v r
end
section
variable {X : Cx} {W : WX} {a b e : Expr} {es : List Expr} {st : Stmt} {sts : List Stmt} {f : EF} {g : GF} {t : TF} {p q : SF} {pos : Pos} {x : Str}
theorem Ss.of {t : TS} (h : PSs X sts t) (i : ∀ m c env DE σ H, Hrel X.K ⟨m, c, H⟩ → Ev X.K ⟨m, c, H⟩ env σ → PoS X.K X.mg W ⟨m, c, H⟩ σ (p env c) DE → t DE σ H) : Ss X W sts p :=
  PSs.imp h fun DE σ H ⟨m, c, env, hr, ev, h⟩ => i m c env DE σ H hr ev h
theorem S.of {t : TS} (h : PS X st t) (i : ∀ m c env DE σ H, Hrel X.K ⟨m, c, H⟩ → Ev X.K ⟨m, c, H⟩ env σ → PoS X.K X.mg W ⟨m, c, H⟩ σ (p env c) DE → t DE σ H) : S X W st p :=
  PS.imp h fun DE σ H ⟨m, c, env, hr, ev, h⟩ => i m c env DE σ H hr ev h
theorem ss_nil : Ss X W [] sNext := Ss.of pss_nil fun m c env DE σ H hr ev h => PoS.next (w := ⟨m, c, H⟩) h hr ev
theorem seq_of {m : Am} {c : Cs} {env : Env} {DE : Ends} {σ : L2.St} {H : Hp} (hr : Hrel X.K ⟨m, c, H⟩) (ev : Ev X.K ⟨m, c, H⟩ env σ) (h : PoS X.K X.mg W ⟨m, c, H⟩ σ (sSeq p q env c) DE) :
    rdS X.K X.mg W p { DE with nx := rdS X.K X.mg W q DE } σ H := by
  refine ⟨m, c, env, hr, ev, ?_⟩
  unfold sSeq at h
  cases hp : p env c with
  | stuck => rw [hp] at h; exact h.elim
  | err e c' => rw [hp] at h; exact h
  | ok z =>
    rw [hp] at h
    simp only [R.bind_ok] at h
    intro σ' m' H' l y ev'
    obtain ⟨fl, env', c'⟩ := z
    cases fl with
    | next => exact ⟨m', c', env', y, ev', PoS.later (σ' := σ') l h⟩
    | brk => exact h σ' m' H' l y ev'
    | cont => exact h σ' m' H' l y ev'
    | ret d => exact h σ' m' H' l y ev'
theorem ss_cons (h1 : S X W st p) (h2 : Ss X W sts q) : Ss X W (st :: sts) (sSeq p q) := Ss.of (pss_cons h1 h2) fun m c env DE σ H hr ev h => seq_of hr ev h
theorem ss_one (h1 : S X W st p) : Ss X W [st] p := Ss.of (pss_one h1) fun m c env DE σ H hr ev h => ⟨m, c, env, hr, ev, h⟩
theorem s_pass : S X W (.Pass pos) sNext := S.of ps_pass fun m c env DE σ H hr ev h => PoS.next (w := ⟨m, c, H⟩) h hr ev
theorem s_stuck : S X W st sStuck := S.of ps_never fun m c env DE σ H hr ev h => h
theorem s_ex (he : E X W e f) (hs : swapsWith e none pos.line X.env = pure false := by rfl) : S X W (.Expr e pos) (sEx f) := S.of (ps_expr he hs) fun m c env DE σ H hr ev h => by
  refine ⟨m, c, env, hr, ev, (PoS.bind (Rel := Rp X.K) h).imp fun x H1 ⟨m1, d, c1, l1, h1, r1, p1⟩ => ?_⟩
  exact PoS.next (w := ⟨m1, c1, H1⟩) p1 h1 (ev.mono l1.toLat0)
theorem s_ret (he : E X W e f) : S X W (.Return (some e) pos) (sRet f) := S.of (ps_ret he) fun m c env DE σ H hr ev h => by
  refine ⟨m, c, env, hr, ev, (PoS.bind (Rel := Rp X.K) h).imp fun x H1 ⟨m1, d, c1, l1, h1, r1, p1⟩ => ?_⟩
  exact PoS.ret (w := ⟨m1, c1, H1⟩) p1 h1 (ev.mono l1.toLat0) r1
theorem s_retN : S X W (.Return none pos) sRetN := S.of ps_retN fun m c env DE σ H hr ev h => PoS.ret (w := ⟨m, c, H⟩) h hr ev (rp_non.mpr rfl)
theorem s_if {c : Expr} {as bs : List Stmt} (hc : T X W c t) (ha : Ss X W as p) (hb : Ss X W bs q) : S X W (.If c as bs pos) (sIf t p q) := S.of (ps_if hc ha hb) fun m c env DE σ H hr ev h => by
  refine ⟨m, c, env, hr, ev, (PoS.bind (Rel := fun _ a b => a = b) h).imp fun x H1 ⟨m1, d, c1, l1, h1, r1, p1⟩ => ?_⟩
  subst r1
  cases d with
  | true => exact ⟨m1, c1, env, h1, ev.mono l1.toLat0, p1⟩
  | false => exact ⟨m1, c1, env, h1, ev.mono l1.toLat0, p1⟩
theorem asg_of {own : List Nat} {m : Am} {c : Cs} {env : Env} {DE : Ends} {σ : L2.St} {H : Hp} (hr : Hrel X.K ⟨m, c, H⟩) (ev : Ev X.K ⟨m, c, H⟩ env σ) (h : PoS X.K X.mg W ⟨m, c, H⟩ σ (sAsg f g env c) DE) :
    tAsg (rdE X.K X.mg W f) (rdG X.K own g) DE σ H := by
  refine ⟨m, c, env, hr, ev, (PoS.bind (Rel := Rp X.K) h).imp fun x H1 ⟨m1, d, c1, l1, h1, r1, p1⟩ => ?_⟩
  refine ⟨m1, c1, env, d, h1, ev.mono l1.toLat0, r1, ?_⟩
  simp only at p1
  cases hg : g d env c1 with
  | none => rw [hg] at p1; exact p1.elim
  | some z =>
    rw [hg] at p1
    exact fun σ' m' H' l y ev' _ => PoS.next' (w' := ⟨m', z.2, H'⟩) p1 l y ev'
theorem s_set {own : List Nat} {tg : Expr} (he : E X W e f) (hg : Gt X own tg g) (hs : swapsWithSole [tg] e pos.line X.env = pure false := by rfl) (hw : swappedStores [tg] e X.env = pure none := by rfl)
    (h1 : (assignEach [tg] X.env).map (·.2) = [assign tg X.env] := by rfl) : S X W (.Assign [tg] e pos) (sAsg f g) := S.of (ps_asg he hg hs hw h1) fun m c env DE σ H hr ev h => asg_of hr ev h
end
end Mi
namespace Mi
open PySem PySem.Spec PyProof.Rows L2

/-! ### what is walked -/
abbrev IF := Env → Cs → R (List D × Cs)
/-- the walk gives these items, whatever happens to the cells -/
def itOk (K : PySem.W.Frag) (w0 : Wd) (items : List D) (J : It) : Prop := ∃ (G : Hp → Prop) (Y : Nat → Hp → V → Hp → Prop), Walk J items.length G Y ∧ (∀ w, Lat0 w0 w → G w.H) ∧
  ∀ i x w H', Lat0 w0 w → Hrel K w → i < items.length → Y i w.H x H' → ∃ d, items[i]? = some d ∧ Later w ⟨w.m, w.c, H'⟩ ∧ Hrel K ⟨w.m, w.c, H'⟩ ∧ Rp K ⟨w.m, w.c, H'⟩ d x
def rdI (K : PySem.W.Frag) (mg : Str → Option Value) (W : WX) (f : IF) : TI := fun σ H R => ∃ m c env, Hrel K ⟨m, c, H⟩ ∧ Ev K ⟨m, c, H⟩ env σ ∧ Po K mg W (itOk K) ⟨m, c, H⟩ σ (f env c) R
def Ij (X : Cx) (W : WX) (tg e : Expr) (f : IF) : Prop := PI X tg e (rdI X.K X.mg W f)
theorem PI.imp {X : Cx} {tg e : Expr} {t t' : TI} (h : PI X tg e t) (i : ∀ σ H R, t' σ H R → t σ H R) : PI X tg e t' := ⟨fun pins s σ H R I q => h.run pins s σ H R I (i σ H R q)⟩
theorem PI.or {X : Cx} {tg e : Expr} {t t' : TI} (h : PI X tg e t) (h' : PI X tg e t') : PI X tg e (fun σ H R => t σ H R ∨ t' σ H R) := ⟨fun pins s σ H R I q => q.elim (fun q => h.run pins s σ H R I q) fun q => h'.run pins s σ H R I q⟩

/-- a container's items; a cell that is walked is no longer written -/
def itemsD (d : D) (c : Cs) : R (List D × Cs) := match d with
  | .tup xs => .ok (xs, c)
  | .lst xs => .ok (xs, c)
  | .scr xs => .ok (xs, c)
  | .ref n => match c[n]? with
    | some (.lst xs) => .ok (xs, c.set n .dead)
    | _ => .stuck
  | _ => .stuck
theorem act_dead {w : Wd} {n : Nat} {p : Addr} (h : (⟨w.m, w.c.set n .dead, w.H⟩ : Wd).act p) : w.act p := by
  rcases h with ⟨i, k, h1, h2, h3⟩ | h
  · by_cases e : n = i
    · subst e
      have hl : n < w.c.length := by
        have := (List.getElem?_eq_some_iff.mp h2).1
        simpa using this
      simp only at h2
      rw [List.getElem?_set_self hl] at h2
      exact absurd (Option.some.inj h2).symm h3
    · simp only at h2
      rw [List.getElem?_set_ne e] at h2
      exact .inl ⟨i, k, h1, h2, h3⟩
  · exact .inr h
theorem Later.dead (w : Wd) (n : Nat) : Later w ⟨w.m, w.c.set n .dead, w.H⟩ :=
  ⟨⟨⟨[], by simp⟩, fun _ _ h => h, fun _ _ h q => ⟨h, fun z => q (act_dead z)⟩, fun _ _ _ h => h⟩, rfl, fun _ _ => rfl⟩
theorem Hrel.dead {K : PySem.W.Frag} {w : Wd} (h : Hrel K w) {n : Nat} {xs : List D} (e : w.c[n]? = some (.lst xs)) : Hrel K ⟨w.m, w.c.set n .dead, w.H⟩ := by
  refine ⟨by simpa using h.len, h.nd, fun i a k h1 h2 => ?_, h.ex⟩
  by_cases q : n = i
  · subst q
    have hl : n < w.c.length := (List.getElem?_eq_some_iff.mp e).1
    simp only at h2
    rw [List.getElem?_set_self hl] at h2
    cases h2
    obtain ⟨vs, hv, _⟩ := h.at_ n a _ h1 e
    exact ⟨vs, hv⟩
  · simp only at h2
    rw [List.getElem?_set_ne q] at h2
    exact (h.at_ i a k h1 h2).mono (Later.dead w n).toLat0 rfl
theorem dead_noact {K : PySem.W.Frag} {w : Wd} (h : Hrel K w) {n : Nat} {a : Addr} {xs : List D} (e : w.c[n]? = some (.lst xs)) (ha : w.m.l[n]? = some a) : ¬ (⟨w.m, w.c.set n .dead, w.H⟩ : Wd).act a := by
  rintro (⟨i, k, h1, h2, h3⟩ | hx)
  · have := h.inj h1 ha
    subst this
    have hl : i < w.c.length := (List.getElem?_eq_some_iff.mp e).1
    simp only at h2
    rw [List.getElem?_set_self hl] at h2
    exact h3 (Option.some.inj h2).symm
  · exact (h.ex a hx).1 (List.mem_of_getElem? ha)
theorem itOk_list {K : PySem.W.Frag} {w : Wd} {a : Addr} {xs : List D} {vs : List V} (h : w.H a = some (.lst vs)) (n : ¬ w.act a) (r : Rps K w xs vs) : itOk K w xs (Itl K a) := by
  have wk := walk_list (K := K) (a := a) (xs := vs)
  rw [← r.length] at wk
  refine ⟨_, _, wk, fun w' l => SqL.of (l.lst a vs h n).1, fun i x w' H' l hr hi y => ?_⟩
  obtain ⟨rfl, hx⟩ := y
  obtain ⟨v, e, rv⟩ := (Rps.mono l _ _ r).get (List.getElem?_eq_getElem hi)
  rw [hx] at e; cases e
  exact ⟨_, List.getElem?_eq_getElem hi, Later.refl w', hr, rv⟩
theorem itOk_scr {K : PySem.W.Frag} {w : Wd} {a : Addr} {xs : List D} {vs : List V} (h : SqF K w.H a vs) (r : Rps K w xs vs) : itOk K w xs (Itl K a) := by
  have wk := walk_list (K := K) (a := a) (xs := vs)
  rw [← r.length] at wk
  refine ⟨_, _, wk, fun w' l => SqF.sq (h.elim (fun ⟨o, h⟩ => .inl ⟨o, l.frz a o _ h⟩) .inr), fun i x w' H' l hr hi y => ?_⟩
  obtain ⟨rfl, hx⟩ := y
  obtain ⟨v, e, rv⟩ := (Rps.mono l _ _ r).get (List.getElem?_eq_getElem hi)
  rw [hx] at e; cases e
  exact ⟨_, List.getElem?_eq_getElem hi, Later.refl w', hr, rv⟩
theorem itOk_tup {K : PySem.W.Frag} {w : Wd} {a : Addr} {xs : List D} {vs : List V} (h : SqT K w.H a vs) (r : Rps K w xs vs) : itOk K w xs (Itt K a) := by
  have wk := walk_tup (K := K) (a := a) (xs := vs)
  rw [← r.length] at wk
  refine ⟨_, _, wk, fun w' l => l.sqT h, fun i x w' H' l hr hi y => ?_⟩
  obtain ⟨rfl, hx⟩ := y
  obtain ⟨v, e, rv⟩ := (Rps.mono l _ _ r).get (List.getElem?_eq_getElem hi)
  rw [hx] at e; cases e
  exact ⟨_, List.getElem?_eq_getElem hi, Later.refl w', hr, rv⟩
def dIt (f : EF) : IF := fun env c => (f env c).bind fun p => itemsD p.1 p.2
section
variable {X : Cx} {W : WX} {tg e iter : Expr} {f : EF} {σ : L2.St} {H : Hp} {pos : Pos} {fa : AF}
theorem i_seq (he : E X W e f) : Ij X W tg e (dIt f) := by
  refine PI.imp (PI.or (pi_list (tg := tg) he) (pi_tup he)) fun σ H R ⟨m, c, env, hr, ev, hp⟩ => ?_
  unfold dIt at hp
  cases hf : f env c with
  | stuck => rw [hf] at hp; exact hp.elim
  | err x c' => exact .inl ⟨m, c, env, hr, ev, by rw [hf] at hp ⊢; exact hp⟩
  | ok p =>
    obtain ⟨d, c1⟩ := p
    have key : Po X.K X.mg W (Rp X.K) ⟨m, c, H⟩ σ (f env c) (fun v H1 => ∃ m1, Later ⟨m, c, H⟩ ⟨m1, c1, H1⟩ ∧ Hrel X.K ⟨m1, c1, H1⟩ ∧ Rp X.K ⟨m1, c1, H1⟩ d v ∧ Po X.K X.mg W (itOk X.K) ⟨m1, c1, H1⟩ σ (itemsD d c1) R) := by
      rw [hf] at hp ⊢
      exact fun v m' H' l h r => ⟨m', l, h, r, Po.later l hp⟩
    cases d with
    | tup xs =>
      refine .inr ⟨m, c, env, hr, ev, key.imp fun v H1 ⟨m1, l, h, r, q⟩ => ?_⟩
      simp only [Rp] at r
      obtain ⟨a, vs, rfl, hs, r⟩ := r
      exact ⟨a, rfl, ⟨vs, hs⟩, q.ok (w := ⟨m1, c1, H1⟩) (itOk_tup hs r) h⟩
    | lst xs =>
      refine .inl ⟨m, c, env, hr, ev, key.imp fun v H1 ⟨m1, l, h, r, q⟩ => ?_⟩
      simp only [Rp] at r
      obtain ⟨a, vs, rfl, hs, n, r⟩ := r
      exact ⟨a, rfl, ⟨vs, SqL.of hs⟩, q.ok (w := ⟨m1, c1, H1⟩) (itOk_list hs n r) h⟩
    | scr xs =>
      refine .inl ⟨m, c, env, hr, ev, key.imp fun v H1 ⟨m1, l, h, r, q⟩ => ?_⟩
      simp only [Rp] at r
      obtain ⟨a, vs, rfl, hs, r⟩ := r
      exact ⟨a, rfl, ⟨vs, hs.sq⟩, q.ok (w := ⟨m1, c1, H1⟩) (itOk_scr hs r) h⟩
    | ref n =>
      refine .inl ⟨m, c, env, hr, ev, key.imp fun v H1 ⟨m1, l, h, r, q⟩ => ?_⟩
      simp only [Rp] at r
      obtain ⟨a, rfl, ha⟩ := r
      unfold itemsD at q
      simp only at q
      split at q
      · rename_i xs hc
        obtain ⟨vs, hv, rs⟩ := h.at_ n a _ ha hc
        have ld := Later.dead ⟨m1, c1, H1⟩ n
        exact ⟨a, rfl, ⟨vs, SqL.of hv⟩, q.ok' (w' := ⟨m1, c1.set n .dead, H1⟩) ld (h.dead hc) (itOk_list hv (dead_noact h hc ha) (Rps.mono ld.toLat0 _ _ rs))⟩
      · exact q.elim
    | non => rw [hf] at hp; exact hp.elim
    | bl b => rw [hf] at hp; exact hp.elim
    | int b => rw [hf] at hp; exact hp.elim
    | str b => rw [hf] at hp; exact hp.elim
    | raw b => rw [hf] at hp; exact hp.elim
/-- lo, lo + 1, .. -/
def rngD (lo : Int) (n : Nat) : List D := (List.range n).map fun i => .int (lo + (i : Nat))
theorem itOk_rng {K : PySem.W.Frag} {w : Wd} {lo : Int} {n : Nat} : itOk K w (rngD lo n) (Itr lo n) := by
  have wk := walk_range (lo := lo) (n := n)
  have hl : (rngD lo n).length = n := by simp [rngD]
  rw [show Walk (Itr lo n) n = Walk (Itr lo n) (rngD lo n).length by rw [hl]] at wk
  refine ⟨_, _, wk, fun _ _ => trivial, fun i x w' H' l hr hi y => ?_⟩
  obtain ⟨rfl, rfl⟩ := y
  rw [hl] at hi
  exact ⟨.int (lo + i), by simp [rngD, hi], Later.refl w', hr, rp_int.mpr rfl⟩
def inR (i : Int) : Bool := decide (-(2 ^ 62) ≤ i) && decide (i < 2 ^ 62)
def rng1 (xs : List D) (c : Cs) : R (List D × Cs) := match xs with
  | [.int j] => if inR j then .ok (rngD 0 j.toNat, c) else .stuck
  | _ => .stuck
def rng2 (xs : List D) (c : Cs) : R (List D × Cs) := match xs with
  | [.int i, .int j] => if inR i && inR j then .ok (rngD i (j - i).toNat, c) else .stuck
  | _ => .stuck
def dItA (fa : AF) (h : List D → Cs → R (List D × Cs)) : IF := fun env c => (fa env c).bind fun p => h p.1 p.2
theorem rd_IA {h : List D → Cs → R (List D × Cs)} {r : List V → Hp → (It → Hp → Prop) → Prop} {R : It → Hp → Prop}
    (hr : ∀ (w : Wd) (σ : L2.St) (as : List D) (xs : List V), Hrel X.K w → Rps X.K w as xs → Po X.K X.mg W (itOk X.K) w σ (h as w.c) R → r xs w.H R)
    (hq : rdI X.K X.mg W (dItA fa h) σ H R) : rdA X.K X.mg W fa σ H (fun xs H1 => r xs H1 R) := by
  obtain ⟨m, c, env, h0, ev, hp⟩ := hq
  exact ⟨m, c, env, h0, ev, (Po.bind (Rel := Rps X.K) hp).imp fun x H1 ⟨m1, a, c1, l1, h1, r1, p1⟩ => hr ⟨m1, c1, H1⟩ σ a x h1 r1 p1⟩
theorem rps1 {K : PySem.W.Frag} {w : Wd} {d : D} {vs : List V} (h : Rps K w [d] vs) : ∃ v, vs = [v] ∧ Rp K w d v := by
  simp only [Rps] at h
  obtain ⟨v, ws, rfl, r, rfl⟩ := h
  exact ⟨v, rfl, r⟩
theorem rps2 {K : PySem.W.Frag} {w : Wd} {d e : D} {vs : List V} (h : Rps K w [d, e] vs) : ∃ v u, vs = [v, u] ∧ Rp K w d v ∧ Rp K w e u := by
  simp only [Rps] at h
  obtain ⟨v, ws, rfl, r, u, us, rfl, r2, rfl⟩ := h
  exact ⟨v, u, rfl, r, r2⟩
theorem i_rng1 {a : Expr} {p : Pos} (hg : Gl X "range") (hm : X.mg "range" = none) (ha : As X W [a] fa) (hs : starEach [a] X.env = [(false, eval a X.env)] := by rfl) : Ij X W tg (.Call (.Name "range" p) [a] [] pos) (dItA fa rng1) := by
  refine PI.imp (pi_range1 hg hm ha hs) fun σ H R hq => rd_IA (r := fun vs H1 R => ∃ j : Int, vs = [.int j] ∧ -(2 ^ 62) ≤ j ∧ j < 2 ^ 62 ∧ R (Itr 0 j.toNat) H1) (fun w σ as xs hw r hp => ?_) hq
  unfold rng1 at hp
  split at hp
  · split at hp
    · rename_i hj
      unfold inR at hj
      simp only [Bool.and_eq_true, decide_eq_true_eq] at hj
      obtain ⟨v, rfl, q⟩ := rps1 r
      rw [rp_int] at q; subst q
      exact ⟨_, rfl, hj.1, hj.2, hp.ok itOk_rng hw⟩
    · exact hp.elim
  · exact hp.elim
theorem i_rng2 {a b : Expr} {p : Pos} (hg : Gl X "range") (hm : X.mg "range" = none) (ha : As X W [a, b] fa) (hs : starEach [a, b] X.env = [(false, eval a X.env), (false, eval b X.env)] := by rfl) (hs2 : starEach [b] X.env = [(false, eval b X.env)] := by rfl) : Ij X W tg (.Call (.Name "range" p) [a, b] [] pos) (dItA fa rng2) := by
  refine PI.imp (pi_range2 hg hm ha hs hs2) fun σ H R hq => rd_IA (r := fun vs H1 R => ∃ i j : Int, vs = [.int i, .int j] ∧ (-(2 ^ 62) ≤ i ∧ i < 2 ^ 62 ∧ -(2 ^ 62) ≤ j ∧ j < 2 ^ 62) ∧ R (Itr i (j - i).toNat) H1) (fun w σ as xs hw r hp => ?_) hq
  unfold rng2 at hp
  split at hp
  · split at hp
    · rename_i hj
      unfold inR at hj
      simp only [Bool.and_eq_true, decide_eq_true_eq] at hj
      obtain ⟨v, u, rfl, q, q2⟩ := rps2 r
      rw [rp_int] at q q2; subst q; subst q2
      exact ⟨_, _, rfl, ⟨hj.1.1, hj.1.2, hj.2.1, hj.2.2⟩, hp.ok itOk_rng hw⟩
    · exact hp.elim
  · exact hp.elim
end

/-! ### for -/
def forD (g : GF) (b : SF) : List D → Env → Cs → R (Fl × Env × Cs)
  | [], env, c => .ok (.next, env, c)
  | d :: ds, env, c => match g d env c with
    | none => .stuck
    | some p => (b p.1 p.2).bind fun q => match q.1 with
      | .next => forD g b ds q.2.1 q.2.2
      | .cont => forD g b ds q.2.1 q.2.2
      | .brk => .ok (.next, q.2.1, q.2.2)
      | .ret d => .ok (.ret d, q.2.1, q.2.2)
def sFor (fi : IF) (g : GF) (b : SF) : SF := fun env c => (fi env c).bind fun p => forD g b p.1 env p.2
section
variable {X : Cx} {W : WX} {tg e iter : Expr} {f : EF} {g : GF} {fi : IF} {t : TF} {b : SF} {body : List Stmt} {pos : Pos} {own : List Nat}
theorem s_for (hp : PassesOwn (model X.prog X.w) X.A X.env X.xe) (hc : X.calm = true) (hi : Ij X W tg iter fi) (hg : Gt X own tg g) (hb : Ss X W body b) (hs : ∀ x, foldedSetIterable iter X.env x = pure x := by intro _; rfl) :
    S X W (.For tg iter body [] pos) (sFor fi g b) := S.of (ps_for hp hc hi hg hb hs) fun m c env DE σ H hr ev h => by
  refine ⟨m, c, env, hr, ev, (PoS.bind (Rel := itOk X.K) h).imp fun J H1 ⟨m1, items, c1, l1, h1, ⟨G, Y, wk, hG, hY⟩, p1⟩ => ?_⟩
  simp only at p1
  refine for_it wk (fun i σ H => ∃ m c env, Lat0 ⟨m1, c1, H1⟩ ⟨m, c, H⟩ ∧ Hrel X.K ⟨m, c, H⟩ ∧ Ev X.K ⟨m, c, H⟩ env σ ∧ PoS X.K X.mg W ⟨m, c, H⟩ σ (forD g b (items.drop i) env c) DE)
    ⟨m1, c1, env, Lat0.refl _, h1, ev.mono l1.toLat0, by simpa using p1⟩ (fun i σ H hi ⟨m, c, env, l, hr, ev, hp⟩ => hG ⟨m, c, H⟩ l) (fun i x σ H H' hi ⟨m, c, env, l, hr, ev, hp⟩ y => ?_) (fun σ H ⟨m, c, env, l, hr, ev, hp⟩ => ?_)
  · obtain ⟨d, hd, l2, h2, r2⟩ := hY i x ⟨m, c, H⟩ H' l hr hi y
    have l2 : Later ⟨m, c, H⟩ ⟨m, c, H'⟩ := l2
    refine ⟨m, c, env, d, h2, ev.mono l2.toLat0, r2, ?_⟩
    have e : items.drop i = d :: items.drop (i + 1) := by
      obtain ⟨h0, rfl⟩ := List.getElem?_eq_some_iff.mp hd
      rw [List.drop_eq_getElem_cons h0]
    rw [e] at hp
    unfold forD at hp
    cases hgd : g d env c with
    | none => rw [hgd] at hp; exact hp.elim
    | some p =>
      rw [hgd] at hp
      simp only at hp
      intro σ3 m3 H3 l3 h3 ev3 _
      refine ⟨m3, p.2, p.1, h3, ev3, ?_⟩
      cases hbd : b p.1 p.2 with
      | stuck => rw [hbd] at hp; exact hp.elim
      | err x c' =>
        rw [hbd] at hp
        exact fun cls d σ' m' H' l' y' z' => hp cls d σ' m' H' ((l2.trans l3).trans l') y' z'
      | ok q =>
        rw [hbd] at hp
        obtain ⟨fl, env4, c4⟩ := q
        simp only [R.bind_ok] at hp
        intro σ4 m4 H4 l4 h4 ev4
        have l0 : Lat0 ⟨m1, c1, H1⟩ ⟨m4, c4, H4⟩ := l.trans ((l2.trans l3).trans l4).toLat0
        cases fl with
        | next => exact ⟨m4, c4, env4, l0, h4, ev4, PoS.later (σ' := σ4) ((l2.trans l3).trans l4) hp⟩
        | cont => exact ⟨m4, c4, env4, l0, h4, ev4, PoS.later (σ' := σ4) ((l2.trans l3).trans l4) hp⟩
        | brk => exact hp σ4 m4 H4 ((l2.trans l3).trans l4) h4 ev4
        | ret d => exact hp σ4 m4 H4 ((l2.trans l3).trans l4) h4 ev4
  · rw [List.drop_length] at hp
    exact PoS.next (w := ⟨m, c, H⟩) hp hr ev

/-! ### while -/
def whN (t : TF) (b : SF) : Nat → Env → Cs → R (Fl × Env × Cs)
  | 0, _, _ => .stuck
  | n + 1, env, c => (t env c).bind fun p => if p.1 = true then (b env p.2).bind fun q => match q.1 with
      | .next => whN t b n q.2.1 q.2.2
      | .cont => whN t b n q.2.1 q.2.2
      | .brk => .ok (.next, q.2.1, q.2.2)
      | .ret d => .ok (.ret d, q.2.1, q.2.2)
    else .ok (.next, env, p.2)
open Classical in
noncomputable def sWh (t : TF) (b : SF) : SF := fun env c => if h : ∃ n, whN t b n env c ≠ .stuck then whN t b h.choose env c else .stuck
theorem whN_mono {t : TF} {b : SF} : ∀ {n : Nat} {env : Env} {c : Cs}, whN t b n env c ≠ .stuck → ∀ m, n ≤ m → whN t b m env c = whN t b n env c
  | 0, _, _, h, _, _ => absurd rfl h
  | n + 1, env, c, h, m, hm => by
    cases m with
    | zero => omega
    | succ m =>
      unfold whN at h ⊢
      cases ht : t env c with
      | stuck => rfl
      | err e c => rfl
      | ok p =>
        rw [ht] at h
        simp only [R.bind_ok] at h ⊢
        by_cases hb : p.1 = true
        · rw [if_pos hb] at h ⊢
          rw [if_pos hb]
          cases hq : b env p.2 with
          | stuck => rfl
          | err e c => rfl
          | ok q =>
            rw [hq] at h
            obtain ⟨fl, env2, c2⟩ := q
            simp only [R.bind_ok] at h ⊢
            cases fl with
            | next => exact whN_mono h m (by omega)
            | cont => exact whN_mono h m (by omega)
            | brk => rfl
            | ret d => rfl
        · rw [if_neg hb, if_neg hb]
theorem sWh_eq {t : TF} {b : SF} {n : Nat} {env : Env} {c : Cs} {r : R (Fl × Env × Cs)} (h : whN t b n env c = r) (hr : r ≠ .stuck) : sWh t b env c = r := by
  have ex : ∃ n, whN t b n env c ≠ .stuck := ⟨n, by rw [h]; exact hr⟩
  unfold sWh
  rw [dif_pos ex]
  have h1 := whN_mono (t := t) (b := b) ex.choose_spec (max n ex.choose) (Nat.le_max_right _ _)
  have h2 := whN_mono (t := t) (b := b) (n := n) (env := env) (c := c) (by rw [h]; exact hr) (max n ex.choose) (Nat.le_max_left _ _)
  rw [← h1, h2, h]
theorem s_while {c : Expr} (hp : PassesOwn (model X.prog X.w) X.A X.env X.xe) (hc : T X W c t) (hb : Ss X W body b) : S X W (.While c body [] pos) (sWh t b) := S.of (ps_while hp hc hb) fun m c env DE σ H hr ev h => by
  have ex : ∃ n, PoS X.K X.mg W ⟨m, c, H⟩ σ (whN t b n env c) DE := by
    unfold sWh at h
    split at h
    · exact ⟨_, h⟩
    · exact h.elim
  obtain ⟨n, h⟩ := ex
  refine ⟨fun n σ H => ∃ m c env, Hrel X.K ⟨m, c, H⟩ ∧ Ev X.K ⟨m, c, H⟩ env σ ∧ PoS X.K X.mg W ⟨m, c, H⟩ σ (whN t b n env c) DE, ⟨n, m, c, env, hr, ev, h⟩, ?_⟩
  rintro n σ H ⟨m, c, env, hr, ev, h⟩
  cases n with
  | zero => exact h.elim
  | succ n =>
    unfold whN at h
    refine ⟨m, c, env, hr, ev, (PoS.bind (Rel := fun _ a b => a = b) h).imp fun k H1 ⟨m1, k', c1, l1, h1, r1, p1⟩ => ?_⟩
    subst r1
    cases k' with
    | false => exact PoS.next (w := ⟨m1, c1, H1⟩) p1 h1 (ev.mono l1.toLat0)
    | true =>
      rw [if_pos rfl]
      refine ⟨fun σ H => ∃ m c env, Hrel X.K ⟨m, c, H⟩ ∧ Ev X.K ⟨m, c, H⟩ env σ ∧ PoS X.K X.mg W ⟨m, c, H⟩ σ (whN t b n env c) DE, fun σ' H' hn => ⟨n, Nat.lt_succ_self _, hn⟩, m1, c1, env, h1, ev.mono l1.toLat0, ?_⟩
      simp only [if_true] at p1
      cases hbd : b env c1 with
      | stuck => rw [hbd] at p1; exact p1.elim
      | err x c' => rw [hbd] at p1; exact p1
      | ok q =>
        rw [hbd] at p1
        obtain ⟨fl, env4, c4⟩ := q
        simp only [R.bind_ok] at p1
        intro σ4 m4 H4 l4 h4 ev4
        cases fl with
        | next => exact ⟨m4, c4, env4, h4, ev4, PoS.later (σ' := σ4) l4 p1⟩
        | cont => exact ⟨m4, c4, env4, h4, ev4, PoS.later (σ' := σ4) l4 p1⟩
        | brk => exact p1 σ4 m4 H4 l4 h4 ev4
        | ret d => exact p1 σ4 m4 H4 l4 h4 ev4
end
end Mi
namespace Mi
open PySem PySem.Spec PyProof.Rows L2

/-! ### comprehensions -/
def wipeE (env : Env) : List Nat → Env
  | [] => env
  | v :: vs => (wipeE env vs).set v none
theorem Ev.wipe {K : PySem.W.Frag} {w : Wd} {env : Env} {σ : L2.St} (h : Ev K w env σ) : ∀ vs : List Nat, Ev K w (wipeE env vs) (L2.wipe σ vs)
  | [] => h
  | v :: vs => by
    have ih := h.wipe vs
    refine ⟨by simpa [wipeE, L2.wipe] using ih.len, fun i d e => ?_⟩
    unfold wipeE at e
    unfold L2.wipe
    by_cases hi : v = i
    · subst hi
      by_cases hl : v < (wipeE env vs).length
      · rw [List.getElem?_set_self hl] at e; cases e
      · rw [List.getElem?_eq_none (by simpa using hl)] at e; cases e
    · rw [List.getElem?_set_ne hi] at e ⊢
      exact ih.at_ i d e
theorem wipe_idem {σ : L2.St} : ∀ {vs us : List Nat}, (∀ v ∈ vs, v ∈ us) → L2.wipe (L2.wipe σ vs) us = L2.wipe σ us
  | [], us, _ => rfl
  | v :: vs, us, h => by
    show L2.wipe ((L2.wipe σ vs).set v none) us = _
    rw [wipe_set (h v List.mem_cons_self)]
    exact wipe_idem fun x hx => h x (List.mem_cons_of_mem _ hx)
/-- no exception leaves a comprehension here -/
def R.noe {α : Type} : R α → R α
  | .ok a => .ok a
  | _ => .stuck
@[simp] theorem R.noe_ok {α : Type} (a : α) : (R.ok a).noe = .ok a := rfl
@[simp] theorem R.noe_err {α : Type} (e : Exc) (c : Cs) : (R.err e c : R α).noe = .stuck := rfl
@[simp] theorem R.noe_stuck {α : Type} : (R.stuck : R α).noe = .stuck := rfl
def lcD (g : GF) (ft : TF) (fe : EF) : List D → List D → Env → Cs → R (List D × Cs)
  | [], acc, _, c => .ok (acc, c)
  | d :: ds, acc, env, c => match g d env c with
    | none => .stuck
    | some p => (ft p.1 p.2).noe.bind fun q => if q.1 = true then (fe p.1 q.2).noe.bind fun r => if acc.length < lim then lcD g ft fe ds (acc ++ [r.1]) env r.2 else .stuck
        else lcD g ft fe ds acc env q.2
def dLc (own : List Nat) (fi : IF) (g : GF) (ft : TF) (fe : EF) : EF := fun env c => (fi env c).bind fun p => (lcD g ft fe p.1 [] (wipeE env own) p.2).bind fun q => .ok (.lst q.1, q.2)
theorem lcD_noe {g : GF} {ft : TF} {fe : EF} {e : Exc} {c' : Cs} : ∀ {ds acc : List D} {env : Env} {c : Cs}, lcD g ft fe ds acc env c ≠ .err e c'
  | [], acc, env, c, h => by cases h
  | d :: ds, acc, env, c, h => by
    unfold lcD at h
    split at h
    · cases h
    · rename_i p hp
      cases h1 : ft p.1 p.2 with
      | stuck => rw [h1] at h; cases h
      | err x y => rw [h1] at h; cases h
      | ok q =>
        rw [h1] at h
        simp only [R.noe_ok, R.bind_ok] at h
        split at h
        · cases h2 : fe p.1 q.2 with
          | stuck => rw [h2] at h; cases h
          | err x y => rw [h2] at h; cases h
          | ok r =>
            rw [h2] at h
            simp only [R.noe_ok, R.bind_ok] at h
            split at h
            · exact lcD_noe h
            · cases h
        · exact lcD_noe h
/-- .. into a cell of its own -/
def dLcC (own : List Nat) (fi : IF) (g : GF) (ft : TF) (fe : EF) : EF := fun env c => (fi env c).bind fun p => (lcD g ft fe p.1 [] (wipeE env own) p.2).bind fun q => .ok (.ref q.2.length, q.2 ++ [.lst q.1])
def dYes : TF := fun _ c => .ok (true, c)
def W0 : WX := fun _ _ _ _ => False
def Tes (X : Cx) (W : WX) (e : List Expr) (f : TF) : Prop := PTs X e (rdT X.K X.mg W f)
theorem PTs.imp {X : Cx} {e : List Expr} {t t' : TT} (h : PTs X e t) (i : ∀ σ H Q, t' σ H Q → t σ H Q) : PTs X e t' := ⟨fun pins s σ H Q I q => h.run pins s σ H Q I (i σ H Q q)⟩
section
variable {X : Cx} {W : WX} {t : TF} {c : Expr}
theorem ts_nil : Tes X W [] dYes := PTs.imp pts_nil fun σ H Q ⟨m, c, env, hr, ev, h⟩ => h.ok (w := ⟨m, c, H⟩) rfl hr
theorem ts_one (h : T X W c t) : Tes X W [c] t := pts_one h
end

/-- a list in the making stands at p -/
theorem Lat0.enter {w : Wd} {p : Addr} {xs : List V} (hp : w.H p = none) : Lat0 w ⟨⟨w.m.l, p :: w.m.x⟩, w.c, upd w.H p (.lst xs)⟩ := by
  refine ⟨⟨[], by simp⟩, fun a vs h => ?_, fun a vs h n => ⟨?_, ?_⟩, fun a o u h => ?_⟩
  · show upd w.H p _ a = _; rw [upd_ne (ne_of_none h hp)]; exact h
  · show upd w.H p _ a = _; rw [upd_ne (ne_of_none h hp)]; exact h
  · rintro (z | z)
    · exact n (.inl z)
    · rcases List.mem_cons.mp z with rfl | z
      · rw [hp] at h; cases h
      · exact n (.inr z)
  · show upd w.H p _ a = _; rw [upd_ne (ne_of_none h hp)]; exact h
theorem Hrel.enter {K : PySem.W.Frag} {w : Wd} {p : Addr} {xs : List V} (h : Hrel K w) (hp : w.H p = none) : Hrel K ⟨⟨w.m.l, p :: w.m.x⟩, w.c, upd w.H p (.lst xs)⟩ := by
  refine ⟨h.len, h.nd, fun n a k hn hk => (h.at_ n a k hn hk).mono (Lat0.enter hp) ?_, fun a ha => ?_⟩
  · show upd w.H p _ a = _
    rw [upd_ne]
    rintro rfl
    exact h.there (List.mem_of_getElem? hn) hp
  · rcases List.mem_cons.mp ha with rfl | ha
    · exact ⟨fun z => h.there z hp, xs, upd_same⟩
    · obtain ⟨n, vs, e⟩ := h.ex a ha
      exact ⟨n, vs, by show upd w.H p _ a = _; rw [upd_ne (ne_of_none e hp)]; exact e⟩
/-- it grows -/
theorem Lat0.grow {w : Wd} {p : Addr} {xs ys : List V} (hx : p ∈ w.m.x) (h : w.H p = some (.lst xs)) : Lat0 w ⟨w.m, w.c, upd w.H p (.lst ys)⟩ := by
  refine ⟨⟨[], by simp⟩, fun a vs e => ?_, fun a vs e n => ⟨?_, n⟩, fun a o u e => ?_⟩
  · show upd w.H p _ a = _; rw [upd_ne (ne_of e h (by simp))]; exact e
  · show upd w.H p _ a = _; rw [upd_ne]; exact e
    rintro rfl; exact n (.inr hx)
  · show upd w.H p _ a = _; rw [upd_ne (ne_of e h (by simp))]; exact e
theorem Hrel.grow {K : PySem.W.Frag} {w : Wd} {p : Addr} {xs ys : List V} (hr : Hrel K w) (hx : p ∈ w.m.x) (h : w.H p = some (.lst xs)) : Hrel K ⟨w.m, w.c, upd w.H p (.lst ys)⟩ := by
  refine ⟨hr.len, hr.nd, fun n a k hn hk => (hr.at_ n a k hn hk).mono (Lat0.grow hx h) ?_, fun a ha => ?_⟩
  · show upd w.H p _ a = _
    rw [upd_ne]
    rintro rfl
    exact (hr.ex a hx).1 (List.mem_of_getElem? hn)
  · obtain ⟨n, vs, e⟩ := hr.ex a ha
    refine ⟨n, ?_⟩
    by_cases q : a = p
    · subst q; exact ⟨ys, upd_same⟩
    · exact ⟨vs, by show upd w.H p _ a = _; rw [upd_ne q]; exact e⟩
/-- it is done: what is known leaves the making -/
theorem Lat0.leave {w : Wd} {x : List Addr} (hx : ∀ a ∈ x, a ∈ w.m.x) : Lat0 w ⟨⟨w.m.l, x⟩, w.c, w.H⟩ :=
  ⟨⟨[], by simp⟩, fun _ _ h => h, fun a vs h n => ⟨h, fun z => n (z.elim .inl fun z => .inr (hx a z))⟩, fun _ _ _ h => h⟩
theorem Hrel.leave {K : PySem.W.Frag} {w : Wd} {x : List Addr} (hr : Hrel K w) (hx : ∀ a ∈ x, a ∈ w.m.x) : Hrel K ⟨⟨w.m.l, x⟩, w.c, w.H⟩ :=
  ⟨hr.len, hr.nd, fun n a k hn hk => (hr.at_ n a k hn hk).mono (Lat0.leave hx) rfl, fun a ha => hr.ex a (hx a ha)⟩
section
variable {X : Cx} {W : WX} {elt tg iter : Expr} {ifs : List Expr} {scope : Scope} {own : List (Str × Nat)} {pos : Pos} {fi : IF} {g : GF} {ft : TF} {fe : EF}
/-- the comprehension's loop -/
theorem lc_of {m0 : Am} {c0 : Cs} {H0 : Hp} {σ : L2.St} {env : Env} {items : List D} {J : It} {Qd : V → Hp → Prop} (h0 : Hrel X.K ⟨m0, c0, H0⟩) (ev : Ev X.K ⟨m0, c0, H0⟩ env σ) (it : itOk X.K ⟨m0, c0, H0⟩ items J) (vs : List Nat)
    {r : R (List D × Cs)} (hr : lcD g ft fe items [] (wipeE env vs) c0 = r)
    (hq : match r with
      | .ok q => ∀ (p : Addr) (l : List Addr) (H' : Hp) (us : List V), H0 p = none → H' p = some (.lst us) → (∃ t, l = m0.l ++ t) → Lat0 ⟨m0, c0, H0⟩ ⟨⟨l, p :: m0.x⟩, q.2, H'⟩ → Hrel X.K ⟨⟨l, p :: m0.x⟩, q.2, H'⟩ → (∀ a ∈ m0.x, H' a = H0 a) →
          Rps X.K ⟨⟨l, p :: m0.x⟩, q.2, H'⟩ q.1 us → Qd (.ref p) H'
      | _ => False) : ∀ p, H0 p = none → ∃ Wm : Nat → Nat → Hp → Prop, (∃ m, Wm 0 m (upd H0 p (.lst []))) ∧ ∀ i m H, Wm i m H →
      (J.stop i H ∧ Qd (.ref p) H) ∨ (J.go i H ∧ ∃ Nx : Hp → Prop, (∀ H', Nx H' → ∃ m', m' < m ∧ Wm (i + 1) m' H') ∧ ∀ x H', J.yld i H x H' → rdG X.K vs g x (L2.wipe σ vs) H' fun σ2 H2 => L2.wipe σ2 vs = L2.wipe σ vs ∧ rdT X.K X.mg W0 ft σ2 H2 fun b H3 =>
        if b = true then rdE X.K X.mg W0 fe σ2 H3 fun y H4 => ∃ acc, H4 p = some (.lst acc) ∧ acc.length < sizeLine ∧ Nx (upd H4 p (.lst (acc ++ [y]))) else Nx H3) := by
  intro p hp
  obtain ⟨G, Y, wk, hG, hY⟩ := it
  let Pv : Nat → Hp → Prop := fun i H => ∃ l c acc us, (∃ t, l = m0.l ++ t) ∧ Lat0 ⟨m0, c0, H0⟩ ⟨⟨l, p :: m0.x⟩, c, H⟩ ∧ Hrel X.K ⟨⟨l, p :: m0.x⟩, c, H⟩ ∧ (∀ a ∈ m0.x, H a = H0 a) ∧ H p = some (.lst us) ∧ Rps X.K ⟨⟨l, p :: m0.x⟩, c, H⟩ acc us ∧
    lcD g ft fe (items.drop i) acc (wipeE env vs) c = r
  refine lc_it wk Pv ?_ (fun i H hi ⟨l, c, acc, us, _, la, _⟩ => hG ⟨⟨l, p :: m0.x⟩, c, H⟩ la) (fun i x H H' hi hP y => ?_) (fun H hP => ?_)
  · exact ⟨m0.l, c0, [], [], ⟨[], by simp⟩, Lat0.enter hp, h0.enter hp, fun a ha => by
      obtain ⟨_, vs, e⟩ := h0.ex a ha
      exact upd_ne (ne_of_none e hp), upd_same, Rps.nil, by simpa using hr⟩
  · obtain ⟨l, c, acc, us, pre, la, hw, hx, ha, hus, he⟩ := hP
    obtain ⟨d, hd, l2, h2, r2⟩ := hY i x ⟨⟨l, p :: m0.x⟩, c, H⟩ H' la hw hi y
    have l2 : Later ⟨⟨l, p :: m0.x⟩, c, H⟩ ⟨⟨l, p :: m0.x⟩, c, H'⟩ := l2
    have e : items.drop i = d :: items.drop (i + 1) := by
      obtain ⟨q0, rfl⟩ := List.getElem?_eq_some_iff.mp hd
      rw [List.drop_eq_getElem_cons q0]
    rw [e] at he
    unfold lcD at he
    have no : ∀ {q : Prop}, r ≠ .stuck → (r = .stuck → q) := fun h h' => absurd h' h
    have ns : r ≠ .stuck := by rintro rfl; exact hq
    have ne : ∀ e c', r ≠ .err e c' := by rintro e c' rfl; exact hq
    refine ⟨⟨l, p :: m0.x⟩, c, wipeE env vs, d, h2, (ev.wipe vs).mono (la.trans l2.toLat0), r2, ?_⟩
    cases hgd : g d (wipeE env vs) c with
    | none => rw [hgd] at he; exact absurd he.symm ns
    | some z =>
      rw [hgd] at he
      simp only at he
      intro σ3 m3 H3 l3 h3 ev3 w3
      refine ⟨by rw [w3, wipe_idem (fun v hv => hv)], m3, z.2, z.1, h3, ev3, ?_⟩
      cases hft : ft z.1 z.2 with
      | stuck => rw [hft] at he; exact absurd he.symm ns
      | err x c' => rw [hft] at he; exact absurd he.symm ns
      | ok q =>
        rw [hft] at he
        obtain ⟨b, c4⟩ := q
        simp only [R.noe_ok, R.bind_ok] at he
        intro b' m4 H4 l4 h4 hb
        have hb : b = b' := hb
        subst hb
        have lz := (l2.trans l3).trans l4
        cases b with
        | false =>
          rw [if_neg Bool.false_ne_true] at he ⊢
          obtain ⟨l', x'⟩ := m4
          have ex : x' = p :: m0.x := lz.sx
          subst ex
          have hpp : H4 p = some (.lst us) := (lz.exm p List.mem_cons_self).trans ha
          refine ⟨l', c4, acc, us, ?_, la.trans lz.toLat0, h4, fun a h => (lz.exm a (List.mem_cons_of_mem _ h)).trans (hx a h), hpp, Rps.mono lz.toLat0 _ _ hus, he⟩
          obtain ⟨t, rfl⟩ := pre
          obtain ⟨t', e'⟩ := lz.pre
          exact ⟨t ++ t', by rw [← List.append_assoc]; exact e'⟩
        | true =>
          rw [if_pos rfl] at he ⊢
          refine ⟨m4, c4, z.1, h4, ev3.mono l4.toLat0, ?_⟩
          cases hfe : fe z.1 c4 with
          | stuck => rw [hfe] at he; exact absurd he.symm ns
          | err x c' => rw [hfe] at he; exact absurd he.symm ns
          | ok q =>
            rw [hfe] at he
            obtain ⟨d5, c5⟩ := q
            simp only [R.noe_ok, R.bind_ok] at he
            intro v m5 H5 l5 h5 r5
            have lz := lz.trans l5
            obtain ⟨l', x'⟩ := m5
            have ex : x' = p :: m0.x := lz.sx
            subst ex
            have hpp : H5 p = some (.lst us) := (lz.exm p List.mem_cons_self).trans ha
            split at he
            · rename_i hl
              have r5 : Rp X.K ⟨⟨l', p :: m0.x⟩, c5, H5⟩ d5 v := r5
              have h5 : Hrel X.K ⟨⟨l', p :: m0.x⟩, c5, H5⟩ := h5
              have lg : Lat0 ⟨⟨l', p :: m0.x⟩, c5, H5⟩ ⟨⟨l', p :: m0.x⟩, c5, upd H5 p (.lst (us ++ [v]))⟩ := Lat0.grow (w := ⟨⟨l', p :: m0.x⟩, c5, H5⟩) List.mem_cons_self hpp
              refine ⟨us, hpp, by rw [← hus.length, lim_eq]; exact hl, l', c5, acc ++ [d5], us ++ [v], ?_, (la.trans lz.toLat0).trans lg, Hrel.grow (w := ⟨⟨l', p :: m0.x⟩, c5, H5⟩) h5 List.mem_cons_self hpp, fun a h => ?_, upd_same, (Rps.append (Rps.mono (lz.toLat0.trans lg) _ _ hus) (Rps.cons (Rp.mono lg _ _ r5) Rps.nil)), he⟩
              · obtain ⟨t, rfl⟩ := pre
                obtain ⟨t', e'⟩ := lz.pre
                exact ⟨t ++ t', by rw [← List.append_assoc]; exact e'⟩
              · obtain ⟨_, vs, ea⟩ := h0.ex a h
                rw [upd_ne (ne_of_none ea hp)]
                exact (lz.exm a (List.mem_cons_of_mem _ h)).trans (hx a h)
            · exact absurd he.symm ns
  · obtain ⟨l, c, acc, us, pre, la, hw, hx, ha, hus, he⟩ := hP
    rw [List.drop_length] at he
    unfold lcD at he
    subst he
    exact hq p l H us hp ha pre la hw hx hus
theorem lc_rd {σ : L2.St} {H : Hp} {Q : VK} {res : List D × Cs → R (D × Cs)}
    (hres : ∀ (q : List D × Cs) (m0 : Am) (c0 : Cs) (H0 : Hp) (p : Addr) (l : List Addr) (H' : Hp) (us : List V), Hrel X.K ⟨m0, c0, H0⟩ → Po X.K X.mg W (Rp X.K) ⟨m0, c0, H0⟩ σ (res q) Q → H0 p = none → H' p = some (.lst us) → (∃ t, l = m0.l ++ t) → Lat0 ⟨m0, c0, H0⟩ ⟨⟨l, p :: m0.x⟩, q.2, H'⟩ → Hrel X.K ⟨⟨l, p :: m0.x⟩, q.2, H'⟩ → (∀ a ∈ m0.x, H' a = H0 a) →
          Rps X.K ⟨⟨l, p :: m0.x⟩, q.2, H'⟩ q.1 us → Q (.ref p) H')
    (vs : List Nat) (hq : rdE X.K X.mg W (fun env c => (fi env c).bind fun p => (lcD g ft fe p.1 [] (wipeE env vs) p.2).bind res) σ H Q) :
    tLc (rdI X.K X.mg W fi) (rdG X.K vs g) (rdT X.K X.mg W0 ft) (rdE X.K X.mg W0 fe) vs σ H Q := by
  obtain ⟨m, c, env, hr, ev, hp⟩ := hq
  refine ⟨m, c, env, hr, ev, (Po.bind (Rel := itOk X.K) hp).imp fun J H1 ⟨m1, items, c1, l1, h1, it, p1⟩ => ?_⟩
  simp only at p1
  cases hlc : lcD g ft fe items [] (wipeE env vs) c1 with
  | stuck => rw [hlc] at p1; exact p1.elim
  | err x c' => exact absurd hlc lcD_noe
  | ok q =>
    rw [hlc] at p1
    simp only [R.bind_ok] at p1
    exact lc_of h1 (ev.mono l1.toLat0) it vs hlc (Qd := Q) fun p l H' us a1 a2 a3 a4 a5 a6 a7 => hres q m1 c1 H1 p l H' us h1 p1 a1 a2 a3 a4 a5 a6 a7
theorem e_lc (hc : X.calm = true) (hN : X.N.Nodup) (hi : Ij X W tg iter fi) (ok : BlkOk X.N X.env.scope scope own)
    (hg : ∀ (s : Shared) (H : Hp) (C : Addr) (cl : List (Str × Addr)) (fp : List Addr), Gt (X.blk s H scope (compEnvC scope cl C X.env) fp) (own.map (·.2)) tg g)
    (ht : ∀ (s : Shared) (H : Hp) (C : Addr) (cl : List (Str × Addr)) (fp : List Addr), Tes (X.blk s H scope (compEnvC scope cl C X.env) fp) W0 ifs ft)
    (he : ∀ (s : Shared) (H : Hp) (C : Addr) (cl : List (Str × Addr)) (fp : List Addr), E (X.blk s H scope (compEnvC scope cl C X.env) fp) W0 elt fe) (hs : ∀ x, foldedSetIterable iter X.env x = pure x := by intro _; rfl) :
    E X W (.ListComp elt [⟨tg, iter, ifs, 0⟩] scope pos) (dLc (own.map (·.2)) fi g ft fe) := by
  refine PE.imp (pe_lc (wi := rdI X.K X.mg W fi) (g := rdG X.K (List.map (fun p : Str × Nat => p.2) own) g) (tt := rdT X.K X.mg W0 ft) (te := rdE X.K X.mg W0 fe) hc hN hi ok hg ht he hs) fun σ H Q hq => lc_rd (res := fun q => .ok (.lst q.1, q.2)) (fun q m0 c0 H0 p l H' us h0 hp hn hpp pre la hw hx hus => ?_) (own.map (·.2)) hq
  have ll : Lat0 ⟨⟨l, p :: m0.x⟩, q.2, H'⟩ ⟨⟨l, m0.x⟩, q.2, H'⟩ := Lat0.leave (w := ⟨⟨l, p :: m0.x⟩, q.2, H'⟩) fun a h => List.mem_cons_of_mem _ h
  have hw' : Hrel X.K ⟨⟨l, m0.x⟩, q.2, H'⟩ := Hrel.leave (w := ⟨⟨l, p :: m0.x⟩, q.2, H'⟩) hw fun a h => List.mem_cons_of_mem _ h
  refine hp.ok' (w' := ⟨⟨l, m0.x⟩, q.2, H'⟩) ⟨la.trans ll, rfl, hx⟩ hw' ?_
  simp only [Rp]
  refine ⟨p, us, rfl, hpp, ?_, Rps.mono ll _ _ hus⟩
  rintro (⟨i, k, h1, _, _⟩ | h)
  · exact (hw.ex p List.mem_cons_self).1 (List.mem_of_getElem? h1)
  · obtain ⟨_, vs, e⟩ := h0.ex p h
    have e : H0 p = _ := e
    rw [hn] at e; cases e
/-- a list in the making becomes a cell -/
theorem Hrel.become {K : PySem.W.Frag} {l x : List Addr} {c : Cs} {H : Hp} {p : Addr} {ds : List D} {us : List V} (hr : Hrel K ⟨⟨l, p :: x⟩, c, H⟩) (hx : ∀ a ∈ x, a ≠ p) (h : H p = some (.lst us)) (r : Rps K ⟨⟨l, p :: x⟩, c, H⟩ ds us) :
    Lat0 ⟨⟨l, p :: x⟩, c, H⟩ ⟨⟨l ++ [p], x⟩, c ++ [.lst ds], H⟩ ∧ Hrel K ⟨⟨l ++ [p], x⟩, c ++ [.lst ds], H⟩ := by
  have hl : l.length = c.length := hr.len
  have la : Lat0 ⟨⟨l, p :: x⟩, c, H⟩ ⟨⟨l ++ [p], x⟩, c ++ [.lst ds], H⟩ := by
    refine ⟨⟨[p], rfl⟩, fun _ _ h => h, fun a vs e n => ⟨e, ?_⟩, fun _ _ _ h => h⟩
    rintro (⟨i, k, h1, h2, h3⟩ | z)
    · simp only at h1 h2
      by_cases hi : i < l.length
      · rw [List.getElem?_append_left hi] at h1
        rw [List.getElem?_append_left (by omega)] at h2
        exact n (.inl ⟨i, k, h1, h2, h3⟩)
      · rw [List.getElem?_append_right (by omega)] at h1
        have : a = p := by
          cases e : i - l.length with
          | zero => rw [e] at h1; simpa using h1.symm
          | succ j => rw [e] at h1; simp at h1
        subst this
        exact n (.inr List.mem_cons_self)
    · exact n (.inr (List.mem_cons_of_mem _ z))
  refine ⟨la, ⟨by simp [hl], ?_, fun i a k h1 h2 => ?_, fun a ha => ?_⟩⟩
  · rw [List.nodup_append]
    refine ⟨hr.nd, by simp, fun a ha b hb => ?_⟩
    simp at hb; subst hb; rintro rfl
    exact (hr.ex a List.mem_cons_self).1 ha
  · simp only at h1 h2
    by_cases hi : i < l.length
    · rw [List.getElem?_append_left hi] at h1
      rw [List.getElem?_append_left (by omega)] at h2
      exact (hr.at_ i a k h1 h2).mono la rfl
    · rw [List.getElem?_append_right (by omega)] at h1
      rw [List.getElem?_append_right (by omega), ← hl] at h2
      cases e : i - l.length with
      | zero =>
        rw [e] at h1 h2; simp at h1 h2; subst h1; subst h2
        exact ⟨us, h, Rps.mono la _ _ r⟩
      | succ j => rw [e] at h1; simp at h1
  · obtain ⟨n, vs, e⟩ := hr.ex a (List.mem_cons_of_mem _ ha)
    refine ⟨?_, vs, e⟩
    rw [List.mem_append]
    rintro (z | z)
    · exact n z
    · simp at z; exact hx a ha z
theorem e_lcC (hc : X.calm = true) (hN : X.N.Nodup) (hi : Ij X W tg iter fi) (ok : BlkOk X.N X.env.scope scope own)
    (hg : ∀ (s : Shared) (H : Hp) (C : Addr) (cl : List (Str × Addr)) (fp : List Addr), Gt (X.blk s H scope (compEnvC scope cl C X.env) fp) (own.map (·.2)) tg g)
    (ht : ∀ (s : Shared) (H : Hp) (C : Addr) (cl : List (Str × Addr)) (fp : List Addr), Tes (X.blk s H scope (compEnvC scope cl C X.env) fp) W0 ifs ft)
    (he : ∀ (s : Shared) (H : Hp) (C : Addr) (cl : List (Str × Addr)) (fp : List Addr), E (X.blk s H scope (compEnvC scope cl C X.env) fp) W0 elt fe) (hs : ∀ x, foldedSetIterable iter X.env x = pure x := by intro _; rfl) :
    E X W (.ListComp elt [⟨tg, iter, ifs, 0⟩] scope pos) (dLcC (own.map (·.2)) fi g ft fe) := by
  refine PE.imp (pe_lc (wi := rdI X.K X.mg W fi) (g := rdG X.K (List.map (fun p : Str × Nat => p.2) own) g) (tt := rdT X.K X.mg W0 ft) (te := rdE X.K X.mg W0 fe) hc hN hi ok hg ht he hs) fun σ H Q hq => lc_rd (res := fun q => .ok (.ref q.2.length, q.2 ++ [.lst q.1])) (fun q m0 c0 H0 p l H' us h0 hp hn hpp pre la hw hx hus => ?_) (own.map (·.2)) hq
  have hxp : ∀ a ∈ m0.x, a ≠ p := fun a ha z => by
    obtain ⟨_, vs, e⟩ := h0.ex a ha
    have e : H0 a = _ := e
    rw [z, hn] at e; cases e
  obtain ⟨lb, hb⟩ := Hrel.become hw hxp hpp hus
  refine hp.ok' (w' := ⟨⟨l ++ [p], m0.x⟩, q.2 ++ [.lst q.1], H'⟩) ⟨la.trans lb, rfl, hx⟩ hb ?_
  simp only [Rp]
  have hl : l.length = q.2.length := hw.len
  exact ⟨p, rfl, by rw [← hl, List.getElem?_append_right (Nat.le_refl _)]; simp⟩
end
end Mi
namespace Mi
open PySem PySem.Spec PyProof.Rows L2

/-! ### what a def promises -/
def rdF (K : PySem.W.Frag) (mg : Str → Option Value) (n : Nat) (F : DF) : Sp := fun vs H Q E => vs.length = n ∧ ∃ m c ds, Hrel K ⟨m, c, H⟩ ∧ Rps K ⟨m, c, H⟩ ds vs ∧ Po K mg (fun cls d _ H => E cls d H) (Rp K) ⟨m, c, H⟩ [] (F ds c) Q
/-- the def at f computes F, at a level -/
def Dok (P : Program) (w : World) (K : PySem.W.Frag) (mg : Str → Option Value) (base : Heap) (k : Nat) (f : Addr) (fd : FuncData) (ps : List Str) (F : DF) : Prop := FnOk P w K mg base (L2.CX P w) k f fd ps (rdF K mg ps.length F)

def fnD (n N : Nat) (body : SF) : DF := fun ds c => if ds.length = n then match body (ds.map some ++ List.replicate (N - ds.length) none) c with
  | .ok p => match p.1 with
    | .next => .ok (.non, p.2.2)
    | .ret d => .ok (d, p.2.2)
    | _ => .stuck
  | .err e c => .err e c
  | .stuck => .stuck
  else .stuck
section
variable {P : Program} {w : World} {K : PySem.W.Frag} {mg : Str → Option Value} {base : Heap} {x qual : Str} {st : Stmt} {f : Addr} {fd : FuncData} {N ps : List Str} {k : Nat} {b : SF} {F : DF}
theorem ev_start {w : Wd} {ds : List D} {vs : List V} (r : Rps K w ds vs) (N : List Str) : Ev K w (ds.map some ++ List.replicate (N.length - ds.length) none) (L2.start N vs) := by
  have hl := r.length
  refine ⟨by unfold L2.start; simp [hl], fun i d e => ?_⟩
  by_cases hi : i < ds.length
  · rw [List.getElem?_append_left (by simpa using hi), List.getElem?_map] at e
    cases q : ds[i]? with
    | none => rw [q] at e; cases e
    | some d' =>
      rw [q] at e; cases e
      obtain ⟨v, e1, e2⟩ := r.get q
      refine ⟨v, ?_, e2⟩
      unfold L2.start
      rw [List.getElem?_append_left (by simp; omega), List.getElem?_map, e1]
      rfl
  · rw [List.getElem?_append_right (by simpa using hi), List.getElem?_replicate] at e
    split at e <;> cases e
/-- THE RULE for a def -/
theorem fn_body {params : Arguments} {body : List Stmt} {scope : Scope} {dvs : List V} {kws : List (Str × V)} (Fu : FunD K x qual params body scope dvs kws f fd) (Sc : FnScope N ps scope) (hn : ps.length ≤ N.length)
    (hbody : ∀ (cdv : Value) (A : Around) (outer : List PySem.Env) (s : Shared) (H : Hp) (E : XK), Room k (A.deeper (envOfC qual scope s.heap.objs.size f cdv)) →
      Ss (cxOf (L2.CX P w) P w K mg base N qual scope f cdv A outer s H E) (fun cls d _ H => E cls d H) body b) : Dok P w K mg base (k + 1) f fd ps (fnD ps.length N.length b) := by
  refine Fu.ok Sc (fun vs H Q E h => h.1) fun cdv A outer s H vs Q E hr ⟨hl, m, c, ds, h0, r, hp⟩ => ⟨_, hbody cdv A outer s H E hr, ?_⟩
  refine ⟨m, c, ds.map some ++ List.replicate (N.length - ds.length) none, h0, ev_start r N, ?_⟩
  unfold fnD at hp
  split at hp
  · cases hb : b (ds.map some ++ List.replicate (N.length - ds.length) none) c with
    | stuck => rw [hb] at hp; exact hp.elim
    | err e c' => rw [hb] at hp; exact fun cls d σ' m' H' => hp cls d m' H'
    | ok p =>
      rw [hb] at hp
      obtain ⟨fl, env, c'⟩ := p
      cases fl with
      | next => exact fun σ' m' H' l y _ => hp .non m' H' l y (rp_non.mpr rfl)
      | ret d => exact fun σ' m' H' l y _ v rv => hp v m' H' l y rv
      | brk => exact hp.elim
      | cont => exact hp.elim
  · exact hp.elim
theorem Dok.mono {j : Nat} (h : Dok P w K mg base j f fd ps F) (hk : j ≤ k) : Dok P w K mg base k f fd ps F := FnOk.mono h hk
/-- what is stuck promises nothing -/
theorem Dok.zero {params : Arguments} {body : List Stmt} {scope : Scope} {dvs : List V} {kws : List (Str × V)} (Fu : FunD K x qual params body scope dvs kws f fd) (Sc : FnScope N ps scope) : Dok P w K mg base (k + 1) f fd ps (fun _ _ => .stuck) :=
  Fu.ok (CX := L2.CX P w) Sc (fun vs H Q E h => h.1) fun cdv A outer s H vs Q E hr ⟨hl, m, c, ds, h0, r, hp⟩ => hp.elim
end

/-! ### what a call made and no one holds is let go -/
mutual
def D.lo (n : Nat) : D → Bool
  | .tup xs => los n xs
  | .lst xs => los n xs
  | .scr xs => los n xs
  | .ref i => decide (i < n)
  | _ => true
def los (n : Nat) : List D → Bool
  | [] => true
  | x :: xs => x.lo n && los n xs
end
def Cell.lo (n : Nat) : Cell → Bool
  | .dead => true
  | .lst xs => los n xs
  | .dct kvs => kvs.all fun p => p.2.lo n
def trunc (n : Nat) (r : R (D × Cs)) : R (D × Cs) := r.bind fun p => if p.1.lo n && (p.2.take n).all (Cell.lo n) then .ok (p.1, p.2.take n) else .stuck
def fnT (F : DF) : DF := fun ds c => trunc c.length (F ds c)
section
variable {K : PySem.W.Frag} {m : Am} {c : Cs} {H : Hp} {n : Nat}
theorem act_cut {a : Addr} (h : (⟨⟨m.l.take n, m.x⟩, c.take n, H⟩ : Wd).act a) : (⟨m, c, H⟩ : Wd).act a := by
  rcases h with ⟨i, k, h1, h2, h3⟩ | h
  · simp only [List.getElem?_take] at h1 h2
    split at h1
    · rename_i hi
      rw [if_pos hi] at h2
      exact .inl ⟨i, k, h1, h2, h3⟩
    · cases h1
  · exact .inr h
mutual
theorem Rp.trim : ∀ (d : D) (v : V), d.lo n = true → Rp K ⟨m, c, H⟩ d v → Rp K ⟨⟨m.l.take n, m.x⟩, c.take n, H⟩ d v
  | .non, v, b, h => by simpa [Rp] using h
  | .bl _, v, b, h => by simpa [Rp] using h
  | .int _, v, b, h => by simpa [Rp] using h
  | .str _, v, b, h => by simpa [Rp] using h
  | .raw _, v, b, h => by simpa [Rp] using h
  | .ref i, v, b, h => by
    simp only [Rp] at h ⊢
    simp only [D.lo, decide_eq_true_eq] at b
    obtain ⟨a, e, h⟩ := h
    exact ⟨a, e, by rw [List.getElem?_take_of_lt b]; exact h⟩
  | .tup xs, v, b, h => by
    simp only [Rp] at h ⊢
    simp only [D.lo] at b
    obtain ⟨a, vs, e, h, r⟩ := h
    exact ⟨a, vs, e, h, Rps.trim xs vs b r⟩
  | .lst xs, v, b, h => by
    simp only [Rp] at h ⊢
    simp only [D.lo] at b
    obtain ⟨a, vs, e, h, q, r⟩ := h
    exact ⟨a, vs, e, h, fun z => q (act_cut z), Rps.trim xs vs b r⟩
  | .scr xs, v, b, h => by
    simp only [Rp] at h ⊢
    simp only [D.lo] at b
    obtain ⟨a, vs, e, h, r⟩ := h
    exact ⟨a, vs, e, h, Rps.trim xs vs b r⟩
theorem Rps.trim : ∀ (ds : List D) (vs : List V), los n ds = true → Rps K ⟨m, c, H⟩ ds vs → Rps K ⟨⟨m.l.take n, m.x⟩, c.take n, H⟩ ds vs
  | [], vs, b, h => by simpa [Rps] using h
  | d :: ds, vs, b, h => by
    simp only [los, Bool.and_eq_true] at b
    simp only [Rps] at h ⊢
    obtain ⟨v, ws, e, h1, h2⟩ := h
    exact ⟨v, ws, e, Rp.trim d v b.1 h1, Rps.trim ds ws b.2 h2⟩
end
theorem Rkv.trim : ∀ (ds : List (Str × D)) (vs : List (Key × V)), (ds.all fun p => p.2.lo n) = true → Rkv K ⟨m, c, H⟩ ds vs → Rkv K ⟨⟨m.l.take n, m.x⟩, c.take n, H⟩ ds vs
  | [], vs, b, h => by simpa [Rkv] using h
  | d :: ds, vs, b, h => by
    simp only [List.all_cons, Bool.and_eq_true] at b
    simp only [Rkv] at h ⊢
    obtain ⟨v, ws, e, h1, h2⟩ := h
    exact ⟨v, ws, e, Rp.trim _ v b.1 h1, Rkv.trim ds ws b.2 h2⟩
theorem Hrel.trim (h : Hrel K ⟨m, c, H⟩) (b : (c.take n).all (Cell.lo n) = true) : Hrel K ⟨⟨m.l.take n, m.x⟩, c.take n, H⟩ := by
  have hl : m.l.length = c.length := h.len
  refine ⟨by simp [hl], h.nd.sublist (List.take_sublist _ _), fun i a k h1 h2 => ?_, fun a ha => ?_⟩
  · simp only at h1 h2
    have hb : k.lo n = true := List.all_eq_true.mp b k (List.mem_of_getElem? h2)
    simp only [List.getElem?_take] at h1 h2
    split at h1
    · rename_i hi
      rw [if_pos hi] at h2
      have q := h.at_ i a k h1 h2
      cases k with
      | dead => exact q
      | lst xs => obtain ⟨vs, q, r⟩ := q; exact ⟨vs, q, Rps.trim xs vs hb r⟩
      | dct xs => obtain ⟨vs, q, r⟩ := q; exact ⟨vs, q, Rkv.trim xs vs hb r⟩
    · cases h1
  · obtain ⟨q, e⟩ := h.ex a ha
    exact ⟨fun z => q (List.take_sublist n m.l |>.subset z), e⟩
theorem Po.trunc {mg : Str → Option Value} {W : WX} {σ : L2.St} {r : R (D × Cs)} {Q : VK} {m0 : Am} {c0 : Cs} {H0 : Hp} (h0 : Hrel K ⟨m0, c0, H0⟩) (h : Po K mg W (Rp K) ⟨m0, c0, H0⟩ σ (trunc c0.length r) Q) : Po K mg W (Rp K) ⟨m0, c0, H0⟩ σ r Q := by
  cases r with
  | stuck => exact h
  | err e c' => exact h
  | ok p =>
    obtain ⟨d, c1⟩ := p
    unfold Mi.trunc at h
    simp only [R.bind_ok] at h
    split at h
    · rename_i hb
      rw [Bool.and_eq_true] at hb
      intro v m' H' l hw r
      have hl : m0.l.length = c0.length := h0.len
      refine h v ⟨m'.l.take c0.length, m'.x⟩ H' ⟨⟨⟨[], ?_⟩, l.tup, fun a vs e q => ⟨(l.lst a vs e q).1, fun z => (l.lst a vs e q).2 (act_cut z)⟩, l.frz⟩, l.sx, l.exm⟩ (hw.trim hb.2) (Rp.trim d v hb.1 r)
      obtain ⟨t, e⟩ := l.pre
      have e : m'.l = m0.l ++ t := e
      show m'.l.take c0.length = m0.l ++ []
      rw [e, ← hl, List.take_left, List.append_nil]
    · exact h.elim
end
theorem Dok.trunc {P : Program} {w : World} {K : PySem.W.Frag} {mg : Str → Option Value} {base : Heap} {f : Addr} {fd : FuncData} {ps : List Str} {k : Nat} {F : DF} (h : Dok P w K mg base k f fd ps F) : Dok P w K mg base k f fd ps (fnT F) :=
  FnOk.imp h fun vs H Q E ⟨hl, m, c, ds, h0, r, hp⟩ => ⟨hl, m, c, ds, h0, r, Po.trunc h0 hp⟩
/-- a promise by a function that says the same -/
theorem Dok.eq {P : Program} {w : World} {K : PySem.W.Frag} {mg : Str → Option Value} {base : Heap} {f : Addr} {fd : FuncData} {ps : List Str} {k : Nat} {F G : DF} (h : Dok P w K mg base k f fd ps F) (e : F = G) : Dok P w K mg base k f fd ps G := e ▸ h

/-! ### a cell is frozen -/
def frzD (d : D) (c : Cs) : R (D × Cs) := match d with
  | .ref n => match c[n]? with
    | some (.lst xs) => .ok (.lst xs, c.set n .dead)
    | _ => .ok (.ref n, c)
  | d => .ok (d, c)
section
variable {X : Cx} {W : WX} {a e : Expr} {es : List Expr} {f : EF} {fa : AF}
theorem e_frz (h : E X W e f) : E X W e (d1 f frzD) := PE.imp h fun σ H Q ⟨m, c, env, hr, ev, hp⟩ => by
  refine ⟨m, c, env, hr, ev, (Po.bind (Rel := Rp X.K) hp).imp fun v H1 ⟨m1, d, c1, l1, h1, r1, p1⟩ => ?_⟩
  simp only at p1
  unfold frzD at p1
  split at p1
  · split at p1
    · rename_i n _ xs hc
      simp only [Rp] at r1
      obtain ⟨a, rfl, ha⟩ := r1
      obtain ⟨vs, hv, rs⟩ := h1.at_ n a _ ha hc
      have ld := Later.dead ⟨m1, c1, H1⟩ n
      refine p1.ok' (w' := ⟨m1, c1.set n .dead, H1⟩) ld (h1.dead hc) ?_
      simp only [Rp]
      exact ⟨a, vs, rfl, hv, dead_noact h1 hc ha, Rps.mono ld.toLat0 _ _ rs⟩
    · exact p1.ok (w := ⟨m1, c1, H1⟩) r1 h1
  · exact p1.ok (w := ⟨m1, c1, H1⟩) r1 h1

/-! ### calls -/
def callD (n : Nat) (F : DF) (dd : List D) (as : List D) (c : Cs) : R (D × Cs) := if (as ++ dd).length = n then F (as ++ dd) c else .stuck
variable {x : Str} {p pos : Pos} {g : Addr} {fd : FuncData} {ps : List Str} {k : Nat} {F : DF} {ds : List Value} {dvs : List V} {dd : List D}
theorem e_call (Fo : Dok X.prog X.w X.K X.mg X.base k g fd ps F) (hr : Room k X.A) (hg : Gl X x) (hm : X.mg x = some (.ref g)) (hk : PySem.W.keepIn X.K (.ref g) = true) (hb : Binds X.K fd ps ds) (hd : Vals dvs ds) (hdd : ∀ w, Rps X.K w dd dvs) (tk : Takes X W)
    (ha : As X W (e :: es) fa) (hdb : (x == ("__debug__" : Str)) = false := by decide) (he : starEach (e :: es) X.env = (false, eval e X.env) :: starEach es X.env := by rfl) (hpl : (backTo pos (starEach es X.env)).any (·.1) = false := by rfl) :
    E X W (.Call (.Name x p) (e :: es) [] pos) (dA fa (callD ps.length F dd)) := PE.imp (pe_callSD Fo hr hg hm hk hb hd (fun σ => passAt tk σ) ha hdb he hpl) fun σ H Q ⟨m, c, env, hr, ev, hp⟩ => by
  refine ⟨m, c, env, hr, ev, (Po.bind (Rel := Rps X.K) hp).imp fun vs H1 ⟨m1, as, c1, l1, h1, r1, p1⟩ => ?_⟩
  simp only at p1
  unfold callD at p1
  split at p1
  · rename_i hl
    have r2 := r1.append (hdd ⟨m1, c1, H1⟩)
    refine ⟨by rw [← r2.length]; exact hl, m1, c1, as ++ dd, h1, r2, ?_⟩
    cases hF : F (as ++ dd) c1 with
    | stuck => rw [hF] at p1; exact p1.elim
    | err e c' => rw [hF] at p1; exact p1
    | ok q => rw [hF] at p1; exact p1
  · exact p1.elim
theorem e_call0 (Fo : Dok X.prog X.w X.K X.mg X.base k g fd ps F) (hr : Room k X.A) (hg : Gl X x) (hm : X.mg x = some (.ref g)) (hk : PySem.W.keepIn X.K (.ref g) = true) (hb : Binds X.K fd ps ds) (hd : Vals dvs ds) (hdd : ∀ w, Rps X.K w dd dvs) (hx : Passes (L2.CX X.prog X.w) X E0)
    (hdb : (x == ("__debug__" : Str)) = false := by decide) : E X W (.Call (.Name x p) [] [] pos) (fun env c => (callD ps.length F dd [] c).noe) := PE.imp (pe_call0 Fo hr hg hm hk hb hd hx hdb) fun σ H Q ⟨m, c, env, hr, ev, hp⟩ => by
  simp only at hp
  unfold callD at hp
  show rdF X.K X.mg ps.length F ([] ++ dvs) H Q E0
  split at hp
  · rename_i hl
    have r2 := hdd ⟨m, c, H⟩
    refine ⟨by rw [List.nil_append, ← r2.length]; exact hl, m, c, dd, hr, r2, ?_⟩
    rw [List.nil_append] at hp
    cases hF : F dd c with
    | stuck => rw [hF] at hp; exact hp.elim
    | err e c' => rw [hF] at hp; exact hp.elim
    | ok q => rw [hF] at hp; exact hp
  · exact hp.elim
end
end Mi
namespace Mi
open PySem PySem.Spec PyProof.Rows L2

section
variable {X : Cx} {W : WX} {a b e : Expr} {es : List Expr} {f g : EF} {fa : AF} {pos p apos : Pos} {x : Str} {σ : L2.St} {H : Hp}
theorem e_callB {id : String} {h : List D → Cs → R (D × Cs)} {r : List V → Hp → VK → Prop} (hc : CallR X (.builtin id) r)
    (hr : ∀ (w : Wd) (σ : L2.St) (as : List D) (xs : List V) (Q : VK), Hrel X.K w → Rps X.K w as xs → Po X.K X.mg W (Rp X.K) w σ (h as w.c) Q → r xs w.H Q)
    (hg : Gl X x) (hm : X.mg x = none) (hv : bootBuiltins x = some (.builtin id)) (ha : As X W (e :: es) fa) (hn : x ≠ "__name__" := by decide) (hdb : (x == ("__debug__" : Str)) = false := by decide)
    (he : starEach (e :: es) X.env = (false, eval e X.env) :: starEach es X.env := by rfl) (hpl : (backTo pos (starEach es X.env)).any (·.1) = false := by rfl) : E X W (.Call (.Name x p) (e :: es) [] pos) (dA fa h) :=
  PE.imp (pe_callB hc hg hm hv ha hn hdb he hpl) fun _ _ _ hq => rd_A hr hq
theorem e_callTy {id : String} {h : List D → Cs → R (D × Cs)} {r : List V → Hp → VK → Prop} (hc : CallR X (.type id) r)
    (hr : ∀ (w : Wd) (σ : L2.St) (as : List D) (xs : List V) (Q : VK), Hrel X.K w → Rps X.K w as xs → Po X.K X.mg W (Rp X.K) w σ (h as w.c) Q → r xs w.H Q)
    (hg : Gl X x) (hm : X.mg x = none) (hv : bootBuiltins x = some (.type id)) (ha : As X W (e :: es) fa) (hn : x ≠ "__name__" := by decide) (hdb : (x == ("__debug__" : Str)) = false := by decide)
    (he : starEach (e :: es) X.env = (false, eval e X.env) :: starEach es X.env := by rfl) (hpl : (backTo pos (starEach es X.env)).any (·.1) = false := by rfl) : E X W (.Call (.Name x p) (e :: es) [] pos) (dA fa h) :=
  PE.imp (pe_callTy hc hg hm hv ha hn hdb he hpl) fun _ _ _ hq => rd_A hr hq
/-- a built-in's name as a value -/
theorem e_bltn {u : Value} {v : V} (hg : Gl X x) (hm : X.mg x = none) (hv : bootBuiltins x = some u) (r : RelV v u) (hn : x ≠ "__name__" := by decide) (hd : (x == ("__debug__" : Str)) = false := by decide) : E X W (.Name x pos) (dC (.raw v)) :=
  PE.imp (pe_bltn hg hm hv r hn hd) fun _ _ _ h => rd_c (fun _ => rp_raw.mpr rfl) h

/-! ### len, int, abs, max, min -/
def lenD (as : List D) (c : Cs) : R (D × Cs) := match as with
  | [.str y] => if y.length ≤ lim then .ok (.int y.length, c) else .stuck
  | [d] => match getS c d with
    | some xs => .ok (.int xs.length, c)
    | none => .stuck
  | _ => .stuck
theorem e_len (hg : Gl X "len") (hm : X.mg "len" = none) (ha : As X W [a] fa) (he : starEach [a] X.env = (false, eval a X.env) :: starEach [] X.env := by rfl) : E X W (.Call (.Name "len" p) [a] [] pos) (dA fa lenD) := by
  refine e_callB call_len (fun w σ as xs Q hw r hp => ?_) hg hm PySem.boot_len ha (by decide) (by decide) he rfl
  unfold lenD at hp
  split at hp
  · obtain ⟨v, rfl, q⟩ := rps1 r
    split at hp
    · rename_i hl
      rw [rp_str] at q; subst q
      exact ⟨_, _, rfl, ⟨by rw [lim_eq]; exact hl, rfl⟩, hp.ok (rp_int.mpr rfl) hw⟩
    · exact hp.elim
  · obtain ⟨v, rfl, q⟩ := rps1 r
    split at hp
    · rename_i xs hx
      obtain ⟨p, vs, rfl, hh, r⟩ := getS_ok hw hx q
      refine ⟨.ref p, vs.length, rfl, ?_, by rw [← r.length]; exact hp.ok (rp_int.mpr rfl) hw⟩
      rcases hh with hh | hh
      · exact .inl ⟨vs, hh, rfl⟩
      · exact .inr ⟨vs, hh, rfl⟩
    · exact hp.elim
  · exact hp.elim
def intD (as : List D) (c : Cs) : R (D × Cs) := match as with
  | [.int i] => .ok (.int i, c)
  | [.bl b] => .ok (.int (if b then 1 else 0), c)
  | _ => .stuck
theorem e_intc (hg : Gl X "int") (hm : X.mg "int" = none) (ha : As X W [a] fa) (he : starEach [a] X.env = (false, eval a X.env) :: starEach [] X.env := by rfl) : E X W (.Call (.Name "int" p) [a] [] pos) (dA fa intD) := by
  refine e_callTy call_int1 (fun w σ as xs Q hw r hp => ?_) hg hm PyProof.Rows.boot_int ha (by decide) (by decide) he rfl
  unfold intD at hp
  split at hp
  · obtain ⟨v, rfl, q⟩ := rps1 r
    rw [rp_int] at q; subst q
    exact .inl ⟨_, rfl, hp.ok (rp_int.mpr rfl) hw⟩
  · obtain ⟨v, rfl, q⟩ := rps1 r
    rw [rp_bl] at q; subst q
    exact .inr ⟨_, rfl, hp.ok (rp_int.mpr rfl) hw⟩
  · exact hp.elim
def absD (as : List D) (c : Cs) : R (D × Cs) := match as with
  | [.int i] => .ok (.int (if i < 0 then -i else i), c)
  | _ => .stuck
theorem e_abs (hg : Gl X "abs") (hm : X.mg "abs" = none) (ha : As X W [a] fa) (he : starEach [a] X.env = (false, eval a X.env) :: starEach [] X.env := by rfl) : E X W (.Call (.Name "abs" p) [a] [] pos) (dA fa absD) := by
  refine e_callB call_abs (fun w σ as xs Q hw r hp => ?_) hg hm PyProof.Rows.boot_abs ha (by decide) (by decide) he rfl
  unfold absD at hp
  split at hp
  · obtain ⟨v, rfl, q⟩ := rps1 r
    rw [rp_int] at q; subst q
    exact ⟨_, rfl, hp.ok (rp_int.mpr rfl) hw⟩
  · exact hp.elim
def maxD (as : List D) (c : Cs) : R (D × Cs) := match as with
  | [.int i, .int j] => .ok (.int (if j > i then j else i), c)
  | _ => .stuck
def minD (as : List D) (c : Cs) : R (D × Cs) := match as with
  | [.int i, .int j] => .ok (.int (if j < i then j else i), c)
  | _ => .stuck
theorem e_max (hc : X.calm = true) (hg : Gl X "max") (hm : X.mg "max" = none) (ha : As X W [a, b] fa) (he : starEach [a, b] X.env = (false, eval a X.env) :: starEach [b] X.env := by rfl) (hpl : (backTo pos (starEach [b] X.env)).any (·.1) = false := by rfl) : E X W (.Call (.Name "max" p) [a, b] [] pos) (dA fa maxD) := by
  refine e_callB (call_max2 hc) (fun w σ as xs Q hw r hp => ?_) hg hm (by decide +kernel) ha (by decide) (by decide) he hpl
  unfold maxD at hp
  split at hp
  · obtain ⟨v, u, rfl, q, q2⟩ := rps2 r
    rw [rp_int] at q q2; subst q; subst q2
    exact ⟨_, _, rfl, hp.ok (rp_int.mpr rfl) hw⟩
  · exact hp.elim
theorem e_min (hc : X.calm = true) (hg : Gl X "min") (hm : X.mg "min" = none) (ha : As X W [a, b] fa) (he : starEach [a, b] X.env = (false, eval a X.env) :: starEach [b] X.env := by rfl) (hpl : (backTo pos (starEach [b] X.env)).any (·.1) = false := by rfl) : E X W (.Call (.Name "min" p) [a, b] [] pos) (dA fa minD) := by
  refine e_callB (call_min2 hc) (fun w σ as xs Q hw r hp => ?_) hg hm (by decide +kernel) ha (by decide) (by decide) he hpl
  unfold minD at hp
  split at hp
  · obtain ⟨v, u, rfl, q, q2⟩ := rps2 r
    rw [rp_int] at q q2; subst q; subst q2
    exact ⟨_, _, rfl, hp.ok (rp_int.mpr rfl) hw⟩
  · exact hp.elim
/-! ### list, tuple, all, sorted -/
def listD (as : List D) (c : Cs) : R (D × Cs) := match as with
  | [d] => match getS c d with
    | some xs => .ok (.lst xs, c)
    | none => .stuck
  | _ => .stuck
theorem e_list (hg : Gl X "list") (hm : X.mg "list" = none) (ha : As X W [a] fa) (he : starEach [a] X.env = (false, eval a X.env) :: starEach [] X.env := by rfl) : E X W (.Call (.Name "list" p) [a] [] pos) (dA fa listD) := by
  refine e_callTy call_list_of (fun w σ as xs Q hw r hp => ?_) hg hm (by decide +kernel) ha (by decide) (by decide) he rfl
  unfold listD at hp
  split at hp
  · obtain ⟨v, rfl, q⟩ := rps1 r
    split at hp
    · rename_i xs hx
      obtain ⟨p, vs, rfl, hh, r⟩ := getS_ok hw hx q
      exact ⟨p, vs, rfl, hh, po_newLst hw r hp⟩
    · exact hp.elim
  · exact hp.elim
def tupD (as : List D) (c : Cs) : R (D × Cs) := match as with
  | [.tup xs] => .ok (.tup xs, c)
  | [d] => match getL c d with
    | some xs => .ok (.tup xs, c)
    | none => .stuck
  | _ => .stuck
theorem e_tuple (hg : Gl X "tuple") (hm : X.mg "tuple" = none) (ha : As X W [a] fa) (he : starEach [a] X.env = (false, eval a X.env) :: starEach [] X.env := by rfl) : E X W (.Call (.Name "tuple" p) [a] [] pos) (dA fa tupD) := by
  refine e_callTy call_tuple_of (fun w σ as xs Q hw r hp => ?_) hg hm (by decide +kernel) ha (by decide) (by decide) he rfl
  unfold tupD at hp
  split at hp
  · obtain ⟨v, rfl, q⟩ := rps1 r
    have q' := q
    simp only [Rp] at q
    obtain ⟨p, vs, rfl, hh, r⟩ := q
    exact ⟨p, vs, rfl, .inr ⟨hh, hp.ok q' hw⟩⟩
  · obtain ⟨v, rfl, q⟩ := rps1 r
    split at hp
    · rename_i xs hx
      obtain ⟨p, vs, rfl, hh, r⟩ := getL_ok hw hx q
      exact ⟨p, vs, rfl, .inl ⟨hh, po_newTup (c' := w.c) hw r hp⟩⟩
    · exact hp.elim
  · exact hp.elim
def blsD : List D → Option (List Bool)
  | [] => some []
  | .bl b :: r => (blsD r).map (b :: ·)
  | _ => none
theorem bls_ok {K : PySem.W.Frag} {w : Wd} : ∀ {ds : List D} {bs : List Bool} {vs : List V}, blsD ds = some bs → Rps K w ds vs → vs = bs.map V.bl
  | [], bs, vs, e, r => by simp only [blsD, Option.some.injEq] at e; subst e; simp only [Rps] at r; exact r
  | d :: ds, bs, vs, e, r => by
    cases d <;> simp only [blsD, Option.map_eq_some_iff] at e <;> try cases e
    rename_i b bs' e
    obtain ⟨e, rfl⟩ := e
    simp only [Rps] at r
    obtain ⟨v, ws, rfl, r1, r2⟩ := r
    rw [rp_bl] at r1; subst r1
    rw [bls_ok e r2]; rfl
def allD (as : List D) (c : Cs) : R (D × Cs) := match as with
  | [d] => match getL c d with
    | some xs => match blsD xs with
      | some bs => .ok (.bl (bs.all id), c)
      | none => .stuck
    | none => .stuck
  | _ => .stuck
theorem e_all (hc : X.calm = true) (hg : Gl X "all") (hm : X.mg "all" = none) (ha : As X W [a] fa) (he : starEach [a] X.env = (false, eval a X.env) :: starEach [] X.env := by rfl) : E X W (.Call (.Name "all" p) [a] [] pos) (dA fa allD) := by
  refine e_callB (cr_all hc) (fun w σ as xs Q hw r hp => ?_) hg hm (by decide +kernel) ha (by decide) (by decide) he rfl
  unfold allD at hp
  split at hp
  · obtain ⟨v, rfl, q⟩ := rps1 r
    split at hp
    · rename_i xs hx
      split at hp
      · rename_i bs hb
        obtain ⟨p, vs, rfl, hh, r⟩ := getL_ok hw hx q
        have := bls_ok hb r
        subst this
        exact ⟨p, bs, rfl, hh, hp.ok (rp_bl.mpr rfl) hw⟩
      · exact hp.elim
    · exact hp.elim
  · exact hp.elim
def intsD : List D → Option (List Int)
  | [] => some []
  | .int b :: r => (intsD r).map (b :: ·)
  | _ => none
theorem ints_ok {K : PySem.W.Frag} {w : Wd} : ∀ {ds : List D} {bs : List Int} {vs : List V}, intsD ds = some bs → Rps K w ds vs → vs = bs.map V.int
  | [], bs, vs, e, r => by simp only [intsD, Option.some.injEq] at e; subst e; simp only [Rps] at r; exact r
  | d :: ds, bs, vs, e, r => by
    cases d <;> simp only [intsD, Option.map_eq_some_iff] at e <;> try cases e
    rename_i b bs' e
    obtain ⟨e, rfl⟩ := e
    simp only [Rps] at r
    obtain ⟨v, ws, rfl, r1, r2⟩ := r
    rw [rp_int] at r1; subst r1
    rw [ints_ok e r2]; rfl
theorem rps_ints {K : PySem.W.Frag} {w : Wd} : ∀ (ns : List Int), Rps K w (ns.map D.int) (ns.map V.int)
  | [] => by simp [Rps]
  | n :: ns => Rps.cons (rp_int.mpr rfl) (rps_ints ns)
def insI (x : Int) : List Int → List Int
  | [] => [x]
  | y :: r => if x ≤ y then x :: y :: r else y :: insI x r
def sortI : List Int → List Int
  | [] => []
  | x :: r => insI x (sortI r)
theorem insI_perm (x : Int) : ∀ l : List Int, (insI x l).Perm (x :: l)
  | [] => .refl _
  | y :: r => by
    unfold insI
    split
    · exact .refl _
    · exact ((insI_perm x r).cons y).trans (.swap x y r)
theorem sortI_perm : ∀ l : List Int, (sortI l).Perm l
  | [] => .refl _
  | x :: r => (insI_perm x _).trans ((sortI_perm r).cons x)
theorem insI_pw (x : Int) : ∀ l : List Int, l.Pairwise (· ≤ ·) → (insI x l).Pairwise (· ≤ ·)
  | [], _ => by simp [insI]
  | y :: r, h => by
    unfold insI
    rw [List.pairwise_cons] at h
    split
    · rename_i hxy
      refine List.pairwise_cons.mpr ⟨fun z hz => ?_, List.pairwise_cons.mpr h⟩
      rcases List.mem_cons.mp hz with rfl | hz
      · exact hxy
      · exact Int.le_trans hxy (h.1 z hz)
    · rename_i hxy
      refine List.pairwise_cons.mpr ⟨fun z hz => ?_, insI_pw x r h.2⟩
      rcases List.mem_cons.mp ((insI_perm x r).mem_iff.mp hz) with rfl | hz
      · omega
      · exact h.1 z hz
theorem sortI_pw : ∀ l : List Int, (sortI l).Pairwise (· ≤ ·)
  | [] => .nil
  | x :: r => insI_pw x _ (sortI_pw r)
theorem pw_uniq : ∀ {l l' : List Int}, l.Perm l' → l.Pairwise (· ≤ ·) → l'.Pairwise (· ≤ ·) → l = l'
  | [], l', p, _, _ => (List.nil_perm.mp p).symm
  | x :: l, l', p, h, h' => by
    cases l' with
    | nil => exact absurd p.symm (by simp)
    | cons y l' =>
      rw [List.pairwise_cons] at h h'
      have hxy : x = y := by
        have h1 : x ∈ y :: l' := p.mem_iff.mp List.mem_cons_self
        have h2 : y ∈ x :: l := p.mem_iff.mpr List.mem_cons_self
        rcases List.mem_cons.mp h1 with e | h1
        · exact e
        · rcases List.mem_cons.mp h2 with e | h2
          · exact e.symm
          · exact Int.le_antisymm (h.1 y h2) (h'.1 x h1)
      subst hxy
      rw [pw_uniq ((List.perm_cons x).mp p) h.2 h'.2]
def sortedD (as : List D) (c : Cs) : R (D × Cs) := match as with
  | [d] => match getL c d with
    | some xs => match intsD xs with
      | some ns => .ok (.lst ((sortI ns).map D.int), c)
      | none => .stuck
    | none => .stuck
  | _ => .stuck
theorem e_sorted (hg : Gl X "sorted") (hm : X.mg "sorted" = none) (ha : As X W [a] fa) (he : starEach [a] X.env = (false, eval a X.env) :: starEach [] X.env := by rfl) : E X W (.Call (.Name "sorted" p) [a] [] pos) (dA fa sortedD) := by
  refine e_callB cr_sortedI (fun w σ as xs Q hw r hp => ?_) hg hm (by decide +kernel) ha (by decide) (by decide) he rfl
  unfold sortedD at hp
  split at hp
  · obtain ⟨v, rfl, q⟩ := rps1 r
    split at hp
    · rename_i xs hx
      split at hp
      · rename_i ns hb
        obtain ⟨p, vs, rfl, hh, r⟩ := getL_ok hw hx q
        have := ints_ok hb r
        subst this
        refine ⟨p, ns, rfl, hh, fun ns' p' h1 h2 hn => ?_⟩
        have e : ns' = sortI ns := pw_uniq (h1.trans (sortI_perm ns).symm) h2 (sortI_pw ns)
        subst e
        exact po_newLst hw (rps_ints _) hp p' hn
      · exact hp.elim
    · exact hp.elim
  · exact hp.elim

/-! ### isinstance -/
/-- a value's type by name -/
def tyD (c : Cs) : D → Option String
  | .non => some "NoneType"
  | .bl _ => some "bool"
  | .int _ => some "int"
  | .str _ => some "str"
  | .tup _ => some "tuple"
  | .lst _ => some "list"
  | .scr _ => some "list"
  | .ref n => match c[n]? with
    | some (.lst _) => some "list"
    | some (.dct _) => some "dict"
    | _ => none
  | .raw _ => none
theorem tyD_ok {K : PySem.W.Frag} {w : Wd} (hw : Hrel K w) {d : D} {v : V} {t : String} (h : tyD w.c d = some t) (r : Rp K w d v) : TyX K w.H v (.type t) := by
  cases d with
  | non => cases h; rw [rp_non] at r; subst r; exact .base .non
  | bl b => cases h; rw [rp_bl] at r; subst r; exact .base (.bl b)
  | int b => cases h; rw [rp_int] at r; subst r; exact .base (.int b)
  | str b => cases h; rw [rp_str] at r; subst r; exact .base (.str b)
  | tup xs =>
    cases h; simp only [Rp] at r; obtain ⟨a, vs, rfl, hs, _⟩ := r
    rcases hs with (hs | ⟨o, hs⟩) | ⟨o, its, n, hk, hc, _⟩
    · exact .base (.tup hs)
    · exact .fTuple hs
    · exact .kTuple hk hc
  | lst xs => cases h; simp only [Rp] at r; obtain ⟨a, vs, rfl, hs, _⟩ := r; exact .base (.lst hs)
  | scr xs =>
    cases h; simp only [Rp] at r; obtain ⟨a, vs, rfl, hs, _⟩ := r
    rcases hs.ty with ⟨o, hs⟩ | ⟨o, h1, h2⟩
    · exact .base (.frz hs)
    · exact .kList h1 h2
  | ref n =>
    simp only [Rp] at r; obtain ⟨a, rfl, ha⟩ := r
    unfold tyD at h
    simp only at h
    split at h
    · rename_i xs hc; cases h
      obtain ⟨vs, e, _⟩ := hw.at_ n a _ ha hc
      exact .base (.lst e)
    · rename_i xs hc; cases h
      obtain ⟨vs, e, _⟩ := hw.at_ n a _ ha hc
      exact .base (.dK e)
    · cases h
  | raw u => cases h
def isiD (as : List D) (c : Cs) : R (D × Cs) := match as with
  | [d, .raw (.ty n)] => match tyD c d with
    | some t => match kitB t n with
      | some b => .ok (.bl b, c)
      | none => .stuck
    | none => .stuck
  | _ => .stuck
theorem e_isi (hg : Gl X "isinstance") (hm : X.mg "isinstance" = none) (ha : As X W [a, b] fa) (he : starEach [a, b] X.env = (false, eval a X.env) :: starEach [b] X.env := by rfl) (hpl : (backTo pos (starEach [b] X.env)).any (·.1) = false := by rfl) : E X W (.Call (.Name "isinstance" p) [a, b] [] pos) (dA fa isiD) := by
  refine e_callB call_isi (fun w σ as xs Q hw r hp => ?_) hg hm PyProof.Rows.boot_isinstance ha (by decide) (by decide) he hpl
  unfold isiD at hp
  split at hp
  · obtain ⟨v, u, rfl, q, q2⟩ := rps2 r
    rw [rp_raw] at q2; subst q2
    split at hp
    · rename_i t ht
      split at hp
      · rename_i b hb
        exact ⟨_, _, _, _, b, rfl, .ty _, tyD_ok hw ht q, kit_ty hb, hp.ok (rp_bl.mpr rfl) hw⟩
      · exact hp.elim
    · exact hp.elim
  · exact hp.elim
end

/-! ### methods -/
/-- the receiver is of the type T -/
def isTy (c : Cs) (T : String) : D → Bool
  | .str _ => T == "str"
  | .lst _ => T == "list"
  | .scr _ => T == "list"
  | .ref n => match c[n]? with
    | some (.lst _) => T == "list"
    | some (.dct _) => T == "dict"
    | _ => false
  | _ => false
theorem isTy_ok {K : PySem.W.Frag} {w : Wd} (hw : Hrel K w) {d : D} {v : V} {T : String} (h : isTy w.c T d = true) (r : Rp K w d v) : tyV K T v w.H := by
  cases d with
  | str b => rw [rp_str] at r; subst r; exact eq_of_beq h
  | lst xs => simp only [Rp] at r; obtain ⟨a, vs, rfl, hs, _⟩ := r; exact .inl ⟨eq_of_beq h, vs, SqL.of hs⟩
  | scr xs => simp only [Rp] at r; obtain ⟨a, vs, rfl, hs, _⟩ := r; exact .inl ⟨eq_of_beq h, vs, hs.sq⟩
  | ref n =>
    simp only [Rp] at r; obtain ⟨a, rfl, ha⟩ := r
    unfold isTy at h
    simp only at h
    split at h
    · rename_i xs hc
      obtain ⟨vs, e, _⟩ := hw.at_ n a _ ha hc
      exact .inl ⟨eq_of_beq h, vs, SqL.of e⟩
    · rename_i xs hc
      obtain ⟨vs, e, _⟩ := hw.at_ n a _ ha hc
      exact .inr (.inr (.inl ⟨eq_of_beq h, .inl ⟨vs, e⟩⟩))
    · cases h
  | _ => cases h
def dM (T : String) (f : EF) (fa : AF) (h : D → List D → Cs → R (D × Cs)) : EF := fun env c => (f env c).bind fun p => if isTy p.2 T p.1 then (fa env p.2).bind fun q => h p.1 q.1 q.2 else .stuck
section
variable {X : Cx} {W : WX} {o e : Expr} {es : List Expr} {f g : EF} {fa : AF} {pos p apos : Pos} {name : Str} {T id : String} {σ : L2.St} {H : Hp}
theorem e_m {h : D → List D → Cs → R (D × Cs)} {r : V → List V → Hp → VK → Prop} (pa : PlainAttrs T) (slot : Slot T name id) (hty : typeOf (.builtin id) = pure (.type "method_descriptor")) (hmt : MtR X id r)
    (hr : ∀ (w : Wd) (σ : L2.St) (d : D) (v : V) (as : List D) (xs : List V) (Q : VK), Hrel X.K w → Rp X.K w d v → Rps X.K w as xs → Po X.K X.mg W (Rp X.K) w σ (h d as w.c) Q → r v xs w.H Q)
    (ho : E X W o f) (ha : As X W (e :: es) fa)
    (hbase : attributeBase o name X.env (eval o X.env) = eval o X.env := by rfl) (hfew : ((backTo pos (starEach (e :: es) X.env)).all (fun x => !x.1) && (backToKw pos (keywordEach [] X.env)).all (fun x => x.1.isSome) && decide ((e :: es).length + ([] : List Keyword).length + (if ([] : List Keyword).isEmpty then 0 else 1) < 30)) = true := by rfl) (he : starEach (e :: es) X.env = (false, eval e X.env) :: starEach es X.env := by rfl) (hpl : (backTo pos (starEach es X.env)).any (·.1) = false := by rfl) (hline : (apos.endLine == pos.line) = true := by rfl) :
    E X W (.Call (.Attribute o name apos) (e :: es) [] pos) (dM T f fa h) := by
  refine PE.imp (pe_bm pa slot hty hmt ho ha hbase hfew hline he hpl) fun σ H Q ⟨m, c, env, hr0, ev, hp⟩ => ?_
  refine ⟨m, c, env, hr0, ev, (Po.bind (Rel := Rp X.K) hp).imp fun v H1 ⟨m1, d, c1, l1, h1, r1, p1⟩ => ?_⟩
  simp only at p1
  split at p1
  · rename_i ht
    refine ⟨isTy_ok (w := ⟨m1, c1, H1⟩) h1 ht r1, m1, c1, env, h1, ev.mono l1.toLat0, (Po.bind (Rel := Rps X.K) p1).imp fun xs H2 ⟨m2, as, c2, l2, h2, r2, p2⟩ => ?_⟩
    exact hr ⟨m2, c2, H2⟩ σ d v as xs Q h2 (Rp.mono l2.toLat0 _ _ r1) r2 p2
  · exact p1.elim
theorem e_m0 {h : D → List D → Cs → R (D × Cs)} {r : V → List V → Hp → VK → Prop} (pa : PlainAttrs T) (slot : Slot T name id) (hty : typeOf (.builtin id) = pure (.type "method_descriptor")) (hmt : MtR X id r)
    (hr : ∀ (w : Wd) (σ : L2.St) (d : D) (v : V) (as : List D) (xs : List V) (Q : VK), Hrel X.K w → Rp X.K w d v → Rps X.K w as xs → Po X.K X.mg W (Rp X.K) w σ (h d as w.c) Q → r v xs w.H Q)
    (ho : E X W o f) (hbase : attributeBase o name X.env (eval o X.env) = eval o X.env := by rfl) (hline : (apos.endLine == pos.line) = true := by rfl) :
    E X W (.Call (.Attribute o name apos) [] [] pos) (dM T f dNil h) := by
  refine PE.imp (pe_bm0 pa slot hty hmt ho hbase hline) fun σ H Q ⟨m, c, env, hr0, ev, hp⟩ => ?_
  refine ⟨m, c, env, hr0, ev, (Po.bind (Rel := Rp X.K) hp).imp fun v H1 ⟨m1, d, c1, l1, h1, r1, p1⟩ => ?_⟩
  simp only at p1
  split at p1
  · rename_i ht
    exact ⟨isTy_ok (w := ⟨m1, c1, H1⟩) h1 ht r1, hr ⟨m1, c1, H1⟩ σ d v [] [] Q h1 r1 Rps.nil p1⟩
  · exact p1.elim

/-! ### a cell is written -/
theorem Later.write {K : PySem.W.Frag} {w : Wd} {n : Nat} {a : Addr} {k : Cell} {o : HO} (hw : Hrel K w) (ha : w.m.l[n]? = some a) (hk : ∃ k0, w.c[n]? = some k0 ∧ k0 ≠ .dead) (hd : ∀ vs, w.H a ≠ some (.tup vs)) (hf : ∀ ob u, w.H a ≠ some (.frz ob u)) : Later w ⟨w.m, w.c.set n k, upd w.H a o⟩ := by
  obtain ⟨k0, e0, nd⟩ := hk
  have ac : w.act a := .inl ⟨n, k0, ha, e0, nd⟩
  refine ⟨⟨⟨[], by simp⟩, fun b vs h => ?_, fun b vs h q => ⟨?_, ?_⟩, fun b ob u h => ?_⟩, rfl, fun b hb => ?_⟩
  · show upd w.H a o b = _; rw [upd_ne]; exact h
    rintro rfl; exact hd _ h
  · show upd w.H a o b = _; rw [upd_ne]; exact h
    rintro rfl; exact q ac
  · rintro (⟨i, k', h1, h2, h3⟩ | z)
    · by_cases e : n = i
      · subst e
        have : a = b := by rw [ha] at h1; exact Option.some.inj h1
        subst this; exact q ac
      · simp only at h2
        rw [List.getElem?_set_ne e] at h2
        exact q (.inl ⟨i, k', h1, h2, h3⟩)
    · exact q (.inr z)
  · show upd w.H a o b = _; rw [upd_ne]; exact h
    rintro rfl; exact hf _ _ h
  · show upd w.H a o b = _; rw [upd_ne]
    rintro rfl
    exact (hw.ex b hb).1 (List.mem_of_getElem? ha)
theorem Hrel.write {K : PySem.W.Frag} {w : Wd} {n : Nat} {a : Addr} {k : Cell} {o : HO} (hw : Hrel K w) (ha : w.m.l[n]? = some a) (l : Later w ⟨w.m, w.c.set n k, upd w.H a o⟩) (hk : CellOk K ⟨w.m, w.c.set n k, upd w.H a o⟩ a k) : Hrel K ⟨w.m, w.c.set n k, upd w.H a o⟩ := by
  refine ⟨by simpa using hw.len, hw.nd, fun i b k' h1 h2 => ?_, fun b hb => ?_⟩
  · by_cases e : n = i
    · subst e
      have : a = b := by rw [ha] at h1; exact Option.some.inj h1
      subst this
      simp only at h2
      rw [List.getElem?_set_self (by rw [← hw.len]; exact (List.getElem?_eq_some_iff.mp ha).1)] at h2
      cases h2
      exact hk
    · simp only at h2
      rw [List.getElem?_set_ne e] at h2
      refine (hw.at_ i b k' h1 h2).mono l.toLat0 ?_
      show upd w.H a o b = _
      rw [upd_ne]
      rintro rfl
      exact e (hw.inj ha h1)
  · obtain ⟨n', vs, e⟩ := hw.ex b hb
    exact ⟨n', vs, (l.exm b hb).trans e⟩
theorem write_lst {K : PySem.W.Frag} {w : Wd} {n : Nat} {a : Addr} {ds es : List D} {us : List V} (hw : Hrel K w) (ha : w.m.l[n]? = some a) (hc : w.c[n]? = some (.lst ds)) {vs : List V} (hv : w.H a = some (.lst vs)) (r : Rps K w es us) :
    Later w ⟨w.m, w.c.set n (.lst es), upd w.H a (.lst us)⟩ ∧ Hrel K ⟨w.m, w.c.set n (.lst es), upd w.H a (.lst us)⟩ := by
  have l : Later w ⟨w.m, w.c.set n (.lst es), upd w.H a (.lst us)⟩ := Later.write hw ha ⟨_, hc, by simp⟩ (fun _ z => by rw [hv] at z; cases z) (fun _ _ z => by rw [hv] at z; cases z)
  exact ⟨l, hw.write ha l ⟨us, upd_same, Rps.mono l.toLat0 _ _ r⟩⟩
theorem write_dct {K : PySem.W.Frag} {w : Wd} {n : Nat} {a : Addr} {ds es : List (Str × D)} {us : List (Key × V)} (hw : Hrel K w) (ha : w.m.l[n]? = some a) (hc : w.c[n]? = some (.dct ds)) {vs : List (Key × V)} (hv : w.H a = some (.dK vs)) (r : Rkv K w es us) :
    Later w ⟨w.m, w.c.set n (.dct es), upd w.H a (.dK us)⟩ ∧ Hrel K ⟨w.m, w.c.set n (.dct es), upd w.H a (.dK us)⟩ := by
  have l : Later w ⟨w.m, w.c.set n (.dct es), upd w.H a (.dK us)⟩ := Later.write hw ha ⟨_, hc, by simp⟩ (fun _ z => by rw [hv] at z; cases z) (fun _ _ z => by rw [hv] at z; cases z)
  exact ⟨l, hw.write ha l ⟨us, upd_same, Rkv.mono l.toLat0 _ _ r⟩⟩
def cellL (c : Cs) : D → Option (Nat × List D)
  | .ref n => match c[n]? with
    | some (.lst xs) => some (n, xs)
    | _ => none
  | _ => none
theorem cellL_ok {K : PySem.W.Frag} {w : Wd} (hw : Hrel K w) {d : D} {v : V} {n : Nat} {xs : List D} (h : cellL w.c d = some (n, xs)) (r : Rp K w d v) : ∃ a vs, v = .ref a ∧ w.m.l[n]? = some a ∧ w.c[n]? = some (.lst xs) ∧ w.H a = some (.lst vs) ∧ Rps K w xs vs := by
  unfold cellL at h
  split at h
  · split at h
    · rename_i m _ ys hc
      cases h
      simp only [Rp] at r
      obtain ⟨a, rfl, ha⟩ := r
      obtain ⟨vs, e, r⟩ := hw.at_ _ a _ ha hc
      exact ⟨a, vs, rfl, ha, hc, e, r⟩
    · cases h
  · cases h
def appD (d : D) (as : List D) (c : Cs) : R (D × Cs) := match cellL c d, as with
  | some (n, xs), [x] => if xs.length < lim then .ok (.non, c.set n (.lst (xs ++ [x]))) else .stuck
  | _, _ => .stuck
theorem e_append (ho : E X W o f) (ha : As X W [e] fa) (hbase : attributeBase o "append" X.env (eval o X.env) = eval o X.env := by rfl) (hfew : ((backTo pos (starEach [e] X.env)).all (fun x => !x.1) && (backToKw pos (keywordEach [] X.env)).all (fun x => x.1.isSome) && decide ([e].length + ([] : List Keyword).length + (if ([] : List Keyword).isEmpty then 0 else 1) < 30)) = true := by rfl) (he : starEach [e] X.env = (false, eval e X.env) :: starEach [] X.env := by rfl) (hline : (apos.endLine == pos.line) = true := by rfl) :
    E X W (.Call (.Attribute o "append" apos) [e] [] pos) (dM "list" f fa appD) := by
  refine e_m PySem.F.plainAttrs_list PySem.F.slot_list_append PySem.F.type_list_append mt_append (fun w σ d v as xs Q hw rd ra hp => ?_) ho ha hbase hfew he rfl hline
  unfold appD at hp
  split at hp
  · rename_i n ys x hc
    split at hp
    · rename_i hl
      obtain ⟨u, rfl, ru⟩ := rps1 ra
      obtain ⟨a, vs, rfl, h1, h2, h3, h4⟩ := cellL_ok hw hc rd
      obtain ⟨l, hr⟩ := write_lst hw h1 h2 h3 (h4.append (Rps.cons ru Rps.nil))
      exact ⟨a, vs, u, rfl, rfl, h3, by rw [← h4.length, lim_eq]; exact hl, hp.ok' (w' := ⟨w.m, w.c.set n _, _⟩) l hr (rp_non.mpr rfl)⟩
    · exact hp.elim
  · exact hp.elim
end
end Mi
namespace Mi
open PySem PySem.Spec PyProof.Rows L2

/-! ### o[i] = v -/
def kput (kvs : List (Str × D)) (k : Str) (v : D) : List (Str × D) := if (kvs.any fun p => decide (p.1 = k)) = true then kvs.map (fun p => if p.1 = k then (p.1, v) else p) else kvs ++ [(k, v)]
section
variable {K : PySem.W.Frag} {w : Wd}
theorem Rkv.any (k : Str) : ∀ {xs : List (Str × D)} {vs : List (Key × V)}, Rkv K w xs vs → (vs.any fun p => decide (p.1 = (Sum.inr k : Key))) = xs.any fun p => decide (p.1 = k)
  | [], vs, h => by simp only [Rkv] at h; subst h; rfl
  | x :: xs, vs, h => by
    simp only [Rkv] at h
    obtain ⟨v, ws, rfl, r, h⟩ := h
    simp only [List.any_cons, Rkv.any k h, Sum.inr.injEq]
theorem Rkv.append : ∀ {xs ys : List (Str × D)} {vs us : List (Key × V)}, Rkv K w xs vs → Rkv K w ys us → Rkv K w (xs ++ ys) (vs ++ us)
  | [], ys, vs, us, h, h' => by simp only [Rkv] at h; subst h; exact h'
  | x :: xs, ys, vs, us, h, h' => by
    simp only [Rkv] at h
    obtain ⟨v, ws, rfl, r, h⟩ := h
    exact ⟨v, ws ++ us, rfl, r, Rkv.append h h'⟩
theorem Rkv.repl {k : Str} {d : D} {v : V} (rd : Rp K w d v) : ∀ {xs : List (Str × D)} {vs : List (Key × V)}, Rkv K w xs vs → Rkv K w (xs.map fun p => if p.1 = k then (p.1, d) else p) (vs.map fun p => if p.1 = (Sum.inr k : Key) then (p.1, v) else p)
  | [], vs, h => by simp only [Rkv] at h; subst h; simp [Rkv]
  | x :: xs, vs, h => by
    simp only [Rkv] at h
    obtain ⟨u, ws, rfl, r, h⟩ := h
    have ih := Rkv.repl (k := k) rd h
    simp only [List.map_cons, Sum.inr.injEq]
    by_cases e : x.1 = k
    · rw [if_pos e, if_pos e]
      exact ⟨v, _, rfl, rd, ih⟩
    · rw [if_neg e, if_neg e]
      exact ⟨u, _, rfl, r, ih⟩
theorem Rkv.put {k : Str} {d : D} {v : V} {xs : List (Str × D)} {vs : List (Key × V)} (h : Rkv K w xs vs) (rd : Rp K w d v) : Rkv K w (kput xs k d) (putK vs (Sum.inr k : Key) v) := by
  unfold kput putK
  rw [h.any k]
  split
  · exact Rkv.repl rd h
  · exact h.append ⟨v, [], rfl, rd, rfl⟩
theorem Rkv.length : ∀ {xs : List (Str × D)} {vs : List (Key × V)}, Rkv K w xs vs → xs.length = vs.length
  | [], vs, h => by simp only [Rkv] at h; subst h; rfl
  | x :: xs, vs, h => by
    simp only [Rkv] at h
    obtain ⟨v, ws, rfl, r, h⟩ := h
    simp [h.length]
end
def cellD (c : Cs) : D → Option (Nat × List (Str × D))
  | .ref n => match c[n]? with
    | some (.dct xs) => some (n, xs)
    | _ => none
  | _ => none
theorem cellD_ok {K : PySem.W.Frag} {w : Wd} (hw : Hrel K w) {d : D} {v : V} {n : Nat} {xs : List (Str × D)} (h : cellD w.c d = some (n, xs)) (r : Rp K w d v) : ∃ a vs, v = .ref a ∧ w.m.l[n]? = some a ∧ w.c[n]? = some (.dct xs) ∧ w.H a = some (.dK vs) ∧ Rkv K w xs vs := by
  unfold cellD at h
  split at h
  · split at h
    · rename_i m _ ys hc
      cases h
      simp only [Rp] at r
      obtain ⟨a, rfl, ha⟩ := r
      obtain ⟨vs, e, r⟩ := hw.at_ _ a _ ha hc
      exact ⟨a, vs, rfl, ha, hc, e, r⟩
    · cases h
  · cases h
/-- o[i] = v -/
def setD (o i v : D) (c : Cs) : Option Cs := match cellL c o with
  | some (n, xs) => match i with
    | .int k => match ixN xs.length k with
      | some j => some (c.set n (.lst (xs.set j v)))
      | none => none
    | _ => none
  | none => match cellD c o, i with
    | some (n, kvs), .str k => if kvs.length < lim then some (c.set n (.dct (kput kvs k v))) else none
    | _, _ => none
def sSub (fv fo fi : EF) : SF := fun env c => (fv env c).bind fun p => (fo env p.2).bind fun q => (fi env q.2).bind fun r => match setD q.1 r.1 p.1 r.2 with
  | some c' => .ok (.next, env, c')
  | none => .stuck
section
variable {X : Cx} {W : WX} {o i e value : Expr} {es : List Expr} {f fv fo fi : EF} {fa : AF} {pos pos' p apos : Pos} {σ : L2.St} {H : Hp}
theorem s_sub (hu : X.A.units + 1 < cLine) (hv : E X W value fv) (ho : E X W o fo) (hi : E X W i fi) (hs : swapsWith value (some (.Subscript o i pos')) pos.line X.env = pure false := by rfl) : S X W (.Assign [.Subscript o i pos'] value pos) (sSub fv fo fi) := by
  refine S.of (t := fun DE σ H => rdE X.K X.mg W fv σ H fun v H1 => rdE X.K X.mg W fo σ H1 fun x H2 => rdE X.K X.mg W fi σ H2 fun y H3 => rSetL x y v H3 (fun H4 => DE.nx σ H4) ∨ ∃ a H4, x = .ref a ∧ DPut H3 a y v H4 ∧ DE.nx σ H4) ⟨fun pins s σ H DE I h => ?_⟩ fun m c env DE σ H hr ev h => ?_
  · refine wpAny_Assign_Subscript (thn (hv.run pins s σ H _ I h) fun r s1 ⟨v, H1, I1, rv, q1⟩ => thn (ho.run pins s1 σ H1 _ I1 q1) fun u s2 ⟨x, H2, I2, rx, q2⟩ => thn (hi.run pins s2 σ H2 _ I2 q2) fun iv s3 ⟨y, H3, I3, ry, q3⟩ => ?_) hs
    rcases q3 with q3 | ⟨a, H4, ex, g, q3⟩
    · exact thn (set_list pins s3 σ H3 x y v u iv r _ I3 rx ry rv q3) fun _ s4 ⟨H4, I4, q4⟩ => ⟨σ, H4, I4, q4⟩
    · subst ex
      obtain rfl : u = Value.ref a := rx
      exact d_setItem hu I3 g ry rv fun s4 I4 => ⟨σ, H4, I4, q3⟩
  · refine ⟨m, c, env, hr, ev, (PoS.bind (Rel := Rp X.K) h).imp fun v H1 ⟨m1, dv, c1, l1, h1, r1, p1⟩ => ?_⟩
    refine ⟨m1, c1, env, h1, ev.mono l1.toLat0, (PoS.bind (Rel := Rp X.K) p1).imp fun x H2 ⟨m2, dx, c2, l2, h2, r2, p2⟩ => ?_⟩
    refine ⟨m2, c2, env, h2, ev.mono (l1.trans l2).toLat0, (PoS.bind (Rel := Rp X.K) p2).imp fun y H3 ⟨m3, dy, c3, l3, h3, r3, p3⟩ => ?_⟩
    have r1 := Rp.mono (l2.trans l3).toLat0 _ _ r1
    have r2 := Rp.mono l3.toLat0 _ _ r2
    have ev3 := ev.mono ((l1.trans l2).trans l3).toLat0
    simp only at p3
    cases hsd : setD dx dy dv c3 with
    | none => rw [hsd] at p3; exact p3.elim
    | some c4 =>
      rw [hsd] at p3
      simp only at p3
      unfold setD at hsd
      split at hsd
      · rename_i n xs hc
        split at hsd
        · rename_i k
          split at hsd
          · rename_i j hj
            cases hsd
            obtain ⟨a, vs, rfl, q1, q2, q3, q4⟩ := cellL_ok (w := ⟨m3, c3, H3⟩) h3 hc r2
            rw [rp_int] at r3; subst r3
            obtain ⟨l, hr'⟩ := write_lst (w := ⟨m3, c3, H3⟩) h3 q1 q2 q3 (q4.set r1 j)
            exact .inl ⟨a, vs, k, j, rfl, rfl, q3, by rw [← q4.length]; exact hj, PoS.next' (w := ⟨m3, c3, H3⟩) (w' := ⟨m3, _, _⟩) p3 l hr' (ev3.mono l.toLat0)⟩
          · cases hsd
        · cases hsd
      · split at hsd
        · rename_i n kvs k hc
          split at hsd
          · rename_i hl
            cases hsd
            obtain ⟨a, vs, rfl, q1, q2, q3, q4⟩ := cellD_ok (w := ⟨m3, c3, H3⟩) h3 hc r2
            rw [rp_str] at r3; subst r3
            obtain ⟨l, hr'⟩ := write_dct (w := ⟨m3, c3, H3⟩) h3 q1 q2 q3 (q4.put (k := k) r1)
            exact .inr ⟨a, _, rfl, DPut.k (k := Sum.inr k) q3 (by rw [← q4.length, lim_eq]; exact hl), PoS.next' (w := ⟨m3, c3, H3⟩) (w' := ⟨m3, _, _⟩) p3 l hr' (ev3.mono l.toLat0)⟩
          · cases hsd
        · cases hsd

/-! ### {k: v, ..} -/
/-- the pairs, from the left -/
def prsD : List (EF × EF) → Env → Cs → R (List (D × D) × Cs)
  | [], _, c => .ok ([], c)
  | (fk, fv) :: r, env, c => (fk env c).bind fun p => (fv env p.2).bind fun q => (prsD r env q.2).bind fun z => .ok ((p.1, q.1) :: z.1, z.2)
def kvsD : List (D × D) → Option (List (Str × D))
  | [] => some []
  | (.str k, d) :: r => (kvsD r).map ((k, d) :: ·)
  | _ => none
def kmerge (kvs more : List (Str × D)) : List (Str × D) := more.foldl (fun acc p => kput acc p.1 p.2) kvs
def dDisp (prs : List (EF × EF)) : EF := fun env c => (prsD prs env (c ++ [.dct []])).bind fun z => match z.2[c.length]?, kvsD z.1 with
  | some (.dct []), some kvs => if kvs.length ≤ 15 then .ok (.ref c.length, z.2.set c.length (.dct (kmerge [] kvs))) else .stuck
  | _, _ => .stuck
def Rprs (K : PySem.W.Frag) (w : Wd) : List (D × D) → List (V × V) → Prop
  | [], vs => vs = []
  | x :: xs, vs => ∃ u v ws, vs = (u, v) :: ws ∧ Rp K w x.1 u ∧ Rp K w x.2 v ∧ Rprs K w xs ws
theorem Rprs.kvs {K : PySem.W.Frag} {w : Wd} : ∀ {ps : List (D × D)} {kvs : List (Str × D)} {vs : List (V × V)}, kvsD ps = some kvs → Rprs K w ps vs → ∃ us : List (Key × V), vs = us.map (fun q => (kV q.1, q.2)) ∧ Rkv K w kvs us
  | [], kvs, vs, h, r => by simp only [kvsD, Option.some.injEq] at h; subst h; simp only [Rprs] at r; subst r; exact ⟨[], rfl, rfl⟩
  | (d, e) :: ps, kvs, vs, h, r => by
    cases d <;> simp only [kvsD, Option.map_eq_some_iff] at h <;> try cases h
    rename_i k kvs' h
    obtain ⟨h, rfl⟩ := h
    simp only [Rprs] at r
    obtain ⟨u, v, ws, rfl, r1, r2, r3⟩ := r
    rw [rp_str] at r1; subst r1
    obtain ⟨us, rfl, q⟩ := Rprs.kvs h r3
    exact ⟨(Sum.inr k, v) :: us, rfl, v, us, rfl, r2, q⟩
theorem Rkv.merge {K : PySem.W.Frag} {w : Wd} : ∀ {more kvs : List (Str × D)} {us vs : List (Key × V)}, Rkv K w more us → Rkv K w kvs vs → Rkv K w (kmerge kvs more) (mergeK vs us)
  | [], kvs, us, vs, h, r => by simp only [Rkv] at h; subst h; exact r
  | x :: more, kvs, us, vs, h, r => by
    simp only [Rkv] at h
    obtain ⟨v, ws, rfl, r1, h⟩ := h
    show Rkv K w (kmerge (kput kvs x.1 x.2) more) (mergeK (putK vs (Sum.inr x.1) v) ws)
    exact Rkv.merge (more := more) (us := ws) h (r.put r1)
inductive Ds (X : Cx) (W : WX) (pos : Pos) : List (Option Expr) → List Expr → List (EF × EF) → Prop where
  | nil : Ds X W pos [] [] []
  | cons {k v : Expr} {ks : List (Option Expr)} {vs : List Expr} {fk fv : EF} {r : List (EF × EF)} : E X W k fk → E X W v fv → Ds X W pos ks vs r → Ds X W pos (some k :: ks) (v :: vs) ((fk, fv) :: r)
theorem Ds.pps {ks : List (Option Expr)} {vs : List Expr} {prs : List (EF × EF)} (h : Ds X W pos ks vs prs) : PPs X pos ks vs (prs.map fun q => (rdE X.K X.mg W q.1, rdE X.K X.mg W q.2)) := by
  induction h with
  | nil => exact pps_nil
  | cons h1 h2 _ ih => exact pps_cons h1 h2 ih
theorem prs_rd : ∀ (prs : List (EF × EF)) {m : Am} {c : Cs} {H : Hp} {σ : L2.St} {env : Env} {Q : List (V × V) → Hp → Prop} {β : Type}, Hrel X.K ⟨m, c, H⟩ → Ev X.K ⟨m, c, H⟩ env σ →
    Po X.K X.mg W (Rprs X.K) ⟨m, c, H⟩ σ (prsD prs env c) Q → tPairs (prs.map fun q => (rdE X.K X.mg W q.1, rdE X.K X.mg W q.2)) σ H Q
  | [], m, c, H, σ, env, Q, _, hr, ev, h => h.ok (w := ⟨m, c, H⟩) (show Rprs X.K _ [] [] from rfl) hr
  | (fk, fv) :: r, m, c, H, σ, env, Q, β, hr, ev, h => by
    refine ⟨m, c, env, hr, ev, (Po.bind (Rel := Rp X.K) h).imp fun x H1 ⟨m1, dk, c1, l1, h1, r1, p1⟩ => ?_⟩
    refine ⟨m1, c1, env, h1, ev.mono l1.toLat0, (Po.bind (Rel := Rp X.K) p1).imp fun y H2 ⟨m2, dv, c2, l2, h2, r2, p2⟩ => ?_⟩
    refine prs_rd r (β := β) h2 (ev.mono (l1.trans l2).toLat0) ((Po.bind (Rel := Rprs X.K) p2).imp fun ps H3 ⟨m3, dps, c3, l3, h3, r3, p3⟩ => ?_)
    exact p3.ok (w := ⟨m3, c3, H3⟩) (show Rprs X.K _ (_ :: _) (_ :: _) from ⟨x, y, ps, rfl, Rp.mono (l2.trans l3).toLat0 _ _ r1, Rp.mono l3.toLat0 _ _ r2, r3⟩) h3
theorem e_dict {ks : List (Option Expr)} {vs : List Expr} {prs : List (EF × EF)} (h : Ds X W pos ks vs prs) (hall : ks.all (·.isSome) = true := by rfl) (hl : ks.length = vs.length := by rfl) (h0 : ks ≠ [] := by simp) (h15 : ks.length ≤ 15 := by decide) :
    E X W (.Dict ks vs pos) (dDisp prs) := by
  refine PE.imp (pe_disp h.pps hall hl h0 h15) fun σ H Q ⟨m, c, env, hr, ev, hp⟩ => ?_
  intro p hn
  have l := Later.cell (o := .dK []) (k := .dct []) hr hn
  have hr1 := Hrel.cell (w := ⟨m, c, H⟩) (o := .dK []) (k := .dct []) hr hn (show CellOk _ _ _ (.dct []) from ⟨[], upd_same, rfl⟩)
  refine prs_rd (X := X) (W := W) prs (β := Unit) hr1 (ev.mono l.toLat0) ((Po.bind (Rel := Rprs X.K) (Po.later l hp)).imp fun ps H2 ⟨m2, dps, c2, l2, h2, r2, p2⟩ => ?_)
  simp only at p2
  split at p2
  · rename_i kvs hc hk
    have hm2 : m2.l[c.length]? = some p := by
      refine l2.get (w := ⟨⟨m.l ++ [p], m.x⟩, c ++ [.dct []], upd H p (.dK [])⟩) ?_
      have : m.l.length = c.length := hr.len
      show (m.l ++ [p])[c.length]? = some p
      rw [← this, List.getElem?_append_right (Nat.le_refl _)]; simp
    obtain ⟨us, hu, ru⟩ := h2.at_ _ p _ hm2 hc
    simp only [Rkv] at ru; subst ru
    obtain ⟨us, rfl, q⟩ := Rprs.kvs hk r2
    obtain ⟨l3, hr3⟩ := write_dct (w := ⟨m2, c2, H2⟩) h2 hm2 hc hu (Rkv.merge q (show Rkv X.K _ [] [] from rfl))
    split at p2
    · rename_i h15
      exact ⟨hu, us, rfl, by rw [← q.length]; exact h15, p2.ok' (w' := ⟨m2, _, _⟩) l3 hr3 (by simp only [Rp]; exact ⟨p, rfl, hm2⟩)⟩
    · exact p2.elim
  · exact p2.elim

/-! ### d.update(e), d.get(k, x), dict(d) -/
def rUpd : V → List V → Hp → VK → Prop := fun x xs H Q => ∃ a b kvs more, x = .ref a ∧ xs = [.ref b] ∧ a ≠ b ∧ H a = some (.dK kvs) ∧ H b = some (.dK more) ∧ kvs.length + more.length ≤ sizeLine ∧ Q .non (upd H a (.dK (mergeK kvs more)))
theorem mt_update : MtR X "dict.update" rUpd := by
  intro pins s σ H x xs v us Q I rx rs h
  obtain ⟨a, b, kvs, more, rfl, rfl, hne, ha, hb, hz, q⟩ := h
  cases rx
  obtain ⟨u, rfl, ru⟩ := vals1 rs
  cases (show u = Value.ref b from ru)
  obtain ⟨z1, hd1, vs, rel, dd⟩ := dk_of I.hok ha
  obtain ⟨z2, hd2, vs2, rel2, dd2⟩ := dk_of I.hok hb
  refine call_meetsIn PySem.F.slot_dict_update dd.typeIs PySem.F.entry_dict_update (PySem.F.args_dict_update_2 _ _) (meets_dict_update (mixKind X.prog X.w) a b hne hd2) ⟨vs, vs2, dd, dd2, by rw [← rel.length, ← rel2.length]; exact hz, fun h' dd' _ hs => ?_⟩
  have hz' : (mergeK kvs more).length ≤ sizeLine := Nat.le_trans (length_mergeK more kvs) hz
  have he : ∃ q, h'.get? a = some q := let ⟨q, _, _, hq, _⟩ := dd'; ⟨q, hq⟩
  exact ⟨.non, _, L2.d_write (t' := s.toks) I (by rw [ha]; exact True.intro) hs he (dk_new hz' hd1 (rel2.merge rel) dd'), rfl, q⟩
def updD (d : D) (as : List D) (c : Cs) : R (D × Cs) := match cellD c d, as with
  | some (n, kvs), [e] => match cellD c e with
    | some (k, more) => if n ≠ k ∧ kvs.length + more.length ≤ lim then .ok (.non, c.set n (.dct (kmerge kvs more))) else .stuck
    | none => .stuck
  | _, _ => .stuck
theorem e_update (ho : E X W o f) (ha : As X W [e] fa) (hbase : attributeBase o "update" X.env (eval o X.env) = eval o X.env := by rfl) (hfew : ((backTo pos (starEach [e] X.env)).all (fun x => !x.1) && (backToKw pos (keywordEach [] X.env)).all (fun x => x.1.isSome) && decide ([e].length + ([] : List Keyword).length + (if ([] : List Keyword).isEmpty then 0 else 1) < 30)) = true := by rfl) (he : starEach [e] X.env = (false, eval e X.env) :: starEach [] X.env := by rfl) (hline : (apos.endLine == pos.line) = true := by rfl) :
    E X W (.Call (.Attribute o "update" apos) [e] [] pos) (dM "dict" f fa updD) := by
  refine e_m PySem.F.plainAttrs_dict PySem.F.slot_dict_update PySem.F.type_dict_update mt_update (fun w σ d v as xs Q hw rd ra hp => ?_) ho ha hbase hfew he rfl hline
  unfold updD at hp
  split at hp
  · rename_i n kvs e hc
    obtain ⟨u, rfl, ru⟩ := rps1 ra
    split at hp
    · rename_i k more hk
      split at hp
      · rename_i hl
        obtain ⟨a, vs, rfl, h1, h2, h3, h4⟩ := cellD_ok hw hc rd
        obtain ⟨b, us, rfl, g1, g2, g3, g4⟩ := cellD_ok hw hk ru
        have hab : a ≠ b := fun z => hl.1 (hw.inj h1 (z ▸ g1))
        obtain ⟨l, hr⟩ := write_dct hw h1 h2 h3 (Rkv.merge g4 h4)
        exact ⟨a, b, vs, us, rfl, rfl, hab, h3, g3, by rw [← h4.length, ← g4.length, lim_eq]; exact hl.2, hp.ok' (w' := ⟨w.m, w.c.set n _, _⟩) l hr (rp_non.mpr rfl)⟩
      · exact hp.elim
    · exact hp.elim
  · exact hp.elim
/-- dict(d): a copy -/
theorem call_dict_copy : CallR X (.type "dict") (fun xs H Q => ∃ a kvs, xs = [.ref a] ∧ H a = some (.dK kvs) ∧ ∀ p, H p = none → Q (.ref p) (upd H p (.dK kvs))) := by
  intro pins s σ H xs us Q I r h
  obtain ⟨a, kvs, rfl, ha, q⟩ := h
  obtain ⟨u, rfl, ru⟩ := vals1 r
  cases (show u = Value.ref a from ru)
  exact d_copyOf I (.inl ha) fun p s' hp I' => ⟨.ref p, _, I', rfl, q p hp⟩
def dcpD (as : List D) (c : Cs) : R (D × Cs) := match as with
  | [d] => match cellD c d with
    | some (n, kvs) => .ok (.ref c.length, c ++ [.dct kvs])
    | none => .stuck
  | _ => .stuck
theorem e_dcopy (hg : Gl X "dict") (hm : X.mg "dict" = none) (ha : As X W [e] fa) (he : starEach [e] X.env = (false, eval e X.env) :: starEach [] X.env := by rfl) : E X W (.Call (.Name "dict" p) [e] [] pos) (dA fa dcpD) := by
  refine e_callTy call_dict_copy (fun w σ as xs Q hw r hp => ?_) hg hm (by decide +kernel) ha (by decide) (by decide) he rfl
  unfold dcpD at hp
  split at hp
  · obtain ⟨v, rfl, q⟩ := rps1 r
    split at hp
    · rename_i n kvs hc
      obtain ⟨a, vs, rfl, h1, h2, h3, h4⟩ := cellD_ok hw hc q
      refine ⟨a, vs, rfl, h3, fun p hn => ?_⟩
      have l := Later.cell (o := .dK vs) (k := .dct kvs) hw hn
      refine hp.ok' (w' := ⟨⟨w.m.l ++ [p], w.m.x⟩, w.c ++ [.dct kvs], upd w.H p (.dK vs)⟩) l (hw.cell hn (k := .dct kvs) (show CellOk _ _ _ (.dct kvs) from ⟨vs, upd_same, Rkv.mono l.toLat0 _ _ h4⟩)) ?_
      simp only [Rp]
      exact ⟨p, rfl, by rw [← hw.len, List.getElem?_append_right (Nat.le_refl _)]; simp⟩
    · exact hp.elim
  · exact hp.elim
/-- {} -/
def dEmp : EF := fun _ c => .ok (.ref c.length, c ++ [.dct []])
theorem e_dict0 : E X W (.Dict [] [] pos) dEmp := by
  refine PE.imp pe_dnewK fun σ H Q ⟨m, c, env, hr, ev, hp⟩ => ?_
  intro p hn
  have l := Later.cell (w := ⟨m, c, H⟩) (o := .dK []) (k := .dct []) hr hn
  refine hp.ok' (w' := ⟨⟨m.l ++ [p], m.x⟩, c ++ [.dct []], upd H p (.dK [])⟩) l (Hrel.cell (w := ⟨m, c, H⟩) hr hn (k := .dct []) (show CellOk _ _ _ (.dct []) from ⟨[], upd_same, rfl⟩)) ?_
  simp only [Rp]
  have : m.l.length = c.length := hr.len
  exact ⟨p, rfl, by show (m.l ++ [p])[c.length]? = _; rw [← this, List.getElem?_append_right (Nat.le_refl _)]; simp⟩
end
end Mi
namespace Mi
open PySem PySem.Spec PyProof.Rows L2 RZ

/-! ### enumerate of a tuple -/
section
open Sem (wp)
open AutoSeq1 (wpAny_loadPart')
theorem meets_enumerate_newT (l : Addr) (items : Array Value) (n : Nat) (dct : Option Addr) (sl : Array (Option Value)) :
    Meets (Builtin.«enumerate.__new__» ⟨[.type "enumerate", .ref l], []⟩) (fun _ R s => s.heap.get? l = some { cls := .type "tuple", dict := dct, data := .seq items n, slots := sl } ∧
      R (.ok (.ret (.ref (s.heap.push { cls := .type "tuple_iterator", data := .fields #[.ref l, .int 0 0] }).objs.size)))
        { s with heap := (s.heap.push { cls := .type "tuple_iterator", data := .fields #[.ref l, .int 0 0] }).push { cls := .type "enumerate", data := .fields #[.none, .bool false, .ref s.heap.objs.size, rawInt 0, .none, .none] } }) :=
  .of_wp fun prog w A R s h => by
    obtain ⟨hp, g, d, tk, os⟩ := s; obtain ⟨hl, h⟩ := h
    have hsub := sub_enumerate
    have hL : Heap.IsTuple (Shared.heap ⟨hp, g, d, tk, os⟩) l items := ⟨_, hl, rfl, n, rfl⟩
    wp_walk using wpAny_loadPart' hl
    refine wpAny_stack_any fun st => wpAny_pure ?_
    split
    · rename_i c _ _ _ _ _
      cases (c == Value.type "enumerate")
      · wp_walk using wpAny_loadPart' hl, wpAny_pyIter_tuple hL
        exact ⟨_, rfl, h⟩
      · wp_walk using wpAny_loadPart' hl, wpAny_pyIter_tuple hL
        exact ⟨_, rfl, h⟩
    · wp_walk using wpAny_loadPart' hl, wpAny_pyIter_tuple hL
      exact ⟨_, rfl, h⟩
end
section
variable {prog : Program} {w : World} {A : Around} {E : Value → Shared → Prop} {s : Shared}
theorem call_enumerate_tuple {l : Addr} {items : Array Value} {Q : Value → Shared → Prop} (hL : s.heap.IsTuple l items)
    (h : ∀ h', IsEnum h' (s.heap.objs.size + 1) s.heap.objs.size 0 .none → h'.IsTupleIter s.heap.objs.size l 0 → h'.objs.size = s.heap.objs.size + 2 →
      (∀ b o, s.heap.get? b = some o → h'.get? b = some o) → Q (.ref (s.heap.objs.size + 1)) { s with heap := h' }) :
    wpAny (model prog w) A (call (.type "enumerate") [.ref l]) Q E s := by
  obtain ⟨⟨c, dct, dt, sl⟩, hl, hc, n, hd⟩ := hL
  replace hc : c = .type "tuple" := hc
  replace hd : dt = .seq items n := hd
  subst hc hd
  refine callType_new F.called_enumerate (by decide) (F.typeCall_enumerate_1 _) (F.newCall_enumerate_1 _) (fun obj => F.args_object_init_2 obj _) F.entry_enumerate_new
    (meets_enumerate_newT l items n dct sl) ⟨hl, ?_⟩
  have hz : (s.heap.push { cls := .type "tuple_iterator", data := .fields #[.ref l, .int 0 0] }).objs.size = s.heap.objs.size + 1 := Heap.size_push ..
  show _ ∧ _
  rw [hz]
  have he : IsEnum ((s.heap.push { cls := .type "tuple_iterator", data := .fields #[.ref l, .int 0 0] }).push
      { cls := .type "enumerate", data := .fields #[.none, .bool false, .ref s.heap.objs.size, rawInt 0, .none, .none] }) (s.heap.objs.size + 1) s.heap.objs.size 0 .none := by
    have := Heap.get?_push_size (s.heap.push { cls := .type "tuple_iterator", data := .fields #[.ref l, .int 0 0] })
      (o := { cls := .type "enumerate", data := .fields #[.none, .bool false, .ref s.heap.objs.size, rawInt 0, .none, .none] }) rfl
    rw [hz] at this; exact this
  refine ⟨⟨_, he, rfl⟩, h _ he ⟨_, Heap.get?_push_of_some _ (Heap.get?_push_size _ rfl), rfl, rfl⟩ (by rw [Heap.size_push, hz]) fun b o x => Heap.get?_push_of_some _ (Heap.get?_push_of_some _ x)⟩
end
section
variable {prog : Program} {w : World} {A : Around} {E : Value → Shared → Prop} {s : Shared}
theorem wpAny_pyNext_enum_endT {e it l : Addr} {i : Nat} {items : Array Value} {old : Value} {Q : Option Value → Shared → Prop} (hh : A.handled = none)
    (he : IsEnum s.heap e it i old) (hit : s.heap.IsTupleIter it l i) (hl : s.heap.IsTuple l items) (hx : items[i]? = none)
    (hQ : ∀ h', Heap.ExtBut it s.heap h' → Q none { s with heap := h' }) : wpAny (model prog w) A (pyNext (.ref e)) Q E s := by
  have hT : s.TypeIs (.ref e) "enumerate" := ⟨_, he, rfl⟩
  unfold pyNext
  refine wpAny_bind (wpAny_attempt (wpAny_callSpecial?_slot (name := Str.ofString "__next__") hT F.slot_enumerate_next
    (wpAny_call_entry F.slot_enumerate_next hT F.entry_enumerate_next ?_ (F.args_enumerate_next_1 _))))
  show wpAny _ _ (field (.ref e) 2 >>= _) _ _ _
  refine wpAny_bind (wpAny_field he rfl (x := .ref it) rfl ?_)
  refine wpAny_bind (wpAny_nextOf_tuple_end hh hit hl hx fun h' x he' hx' => ?_)
  obtain ⟨o, ho, hc⟩ := hx'
  refine wpAny_bind (wpAny_isInstance (T := "StopIteration") (b := true) ⟨o, ho, hc⟩ isSubtype_stop ?_)
  exact wpAny_pure (hQ _ he')
end
def IteT (K : PySem.W.Frag) (a : Addr) : It :=
  ⟨fun i H => ∃ (xs : List V) (x : V), SqT K H a xs ∧ xs[i]? = some x, fun i H v H' => ∃ T x, v = .ref T ∧ H T = none ∧ H' = upd H T (.tup [.int (i : Nat), x]) ∧ ∀ xs, SqT K H a xs → xs[i]? = some x, fun i H => ∃ xs : List V, SqT K H a xs ∧ xs.length ≤ i⟩
theorem turn_enumT {P : Program} {w : World} {K : PySem.W.Frag} {elts : List Expr} {kk : Nat} {tpos : Pos} (a e it : Addr) (hea : e ≠ a) (hia : a ≠ it) :
    Turn P w K (.Tuple elts kk tpos) (IteT K a) [e, it] e (fun i h => (∃ old, IsEnum h e it ((i : Nat) : Int) old) ∧ h.IsTupleIter it a i ∧ e ≠ it) where
  mem := by simp
  obj := fun i h st b hb => by
    obtain ⟨⟨old, he⟩, ⟨o, ho, hc, hd⟩, _⟩ := st
    have e' : b = e ∨ b = it := by simpa using hb
    rcases e' with z | z
    · rw [z]; exact ⟨_, he, fun v q => nomatch q⟩
    · rw [z]; exact ⟨o, ho, fun v q => by rw [hd] at q; cases q⟩
  keep := fun i h h' st k => let ⟨⟨old, he⟩, hi, hne⟩ := st; ⟨⟨old, k e (by simp) _ he⟩, hi.at fun o q => k it (by simp) o q, hne⟩
  item := by
    intro X hP hw hK hc i pins s σ H E I hf st hg
    subst hP hw hK
    obtain ⟨⟨old, he⟩, hit, hne⟩ := st
    obtain ⟨xs, x, hq, hx⟩ := hg
    obtain ⟨its, rv, p, hz⟩ := I.tuple hq
    obtain ⟨u, hu, ru⟩ := rv.get hx
    have hel : e < s.heap.objs.size := Heap.lt_size he
    have hil : it < s.heap.objs.size := by obtain ⟨_, q, _⟩ := hit; exact Heap.lt_size q
    have hlt : i < its.toArray.size := by
      have := (List.getElem?_eq_some_iff.mp hu).1
      simpa using this
    have D := Draws.tuple (prog := X.prog) (w := X.w) (A := X.A.in1) (show X.A.in1.handled = none from I.ok.hd hc) it a hia its.toArray
    refine wpAny_pyNext_enum_itemD D he (show s.heap.IsTupleIter it a i ∧ s.heap.IsTuple a its.toArray from ⟨hit, p⟩) hlt hne (by simp [hne, hea]) fun u' h' tk hu' ho hst hT hsz hk => ?_
    have eu : u' = u := by
      have : its.toArray[i]? = some u' := hu'
      have h2 : its.toArray[i]? = some u := by simpa using hu
      rw [h2] at this; exact (Option.some.inj this).symm
    subst eu
    refine ⟨_, rfl, wpAny_letOwnedTupleGo_enum (s := { s with heap := h', toks := tk + 1 }) ho fun h'' he' sb => ?_⟩
    have hT2 : h''.get? s.heap.objs.size = some { cls := .type "tuple", data := .seq #[.int i tk, u'] } := (sb.2 _ (Nat.ne_of_gt hel)).trans hT
    have new : ObjOk X.prog X.w (upd H s.heap.objs.size (.tup [.int (i : Nat), x])) h'' s.heap.objs.size (.tup [.int (i : Nat), x]) :=
      ⟨by show 2 ≤ sizeLine; decide, [.int i tk, u'], .cons ⟨_, rfl⟩ (.cons ru .nil), ⟨_, hT2, rfl, _, rfl⟩⟩
    have I1 : Inv X pins σ (upd H s.heap.objs.size (.tup [.int (i : Nat), x])) { s with heap := h'', toks := tk + 1 } :=
      I.turnedNew (ch := [e, it]) (fun b ob hb q => (sb.2 b (fun z => hb (by simp [z]))).trans (hk b ob (fun z => hb (by simp [z])) (fun z => hb (by simp [z])) q)) hf (Nat.le_refl _) new
    refine ⟨.ref s.heap.objs.size, _, I1, rfl, ⟨_, x, rfl, I.hok.fresh (Nat.le_refl _), rfl, fun ys hy => by rw [I.tuple_inj hy hq]; exact hx⟩, ⟨⟨u', ?_⟩, hst.1.at fun o q => (sb.2 it (Ne.symm hne)).trans q, hne⟩, fun b hb => ?_⟩
    · have e1 : ((i + 1 : Nat) : Int) = (i : Int) + 1 := by omega
      rw [e1]; exact he'
    · have hb' : b < s.heap.objs.size := by
        have e' : b = e ∨ b = it := by simpa using hb
        rcases e' with z | z
        · rw [z]; exact hel
        · rw [z]; exact hil
      rw [upd_ne (Nat.ne_of_lt hb')]
      exact (hf b hb).1
  done := by
    intro X hP hw hK hc i pins s σ H E I hf st hg
    subst hP hw hK
    obtain ⟨⟨old, he⟩, hit, hne⟩ := st
    obtain ⟨xs, hq, hx⟩ := hg
    obtain ⟨its, rv, p, hz⟩ := I.tuple hq
    obtain ⟨f0, f1, f2, f3, f4, f5⟩ := hf it (by simp)
    have hl := rv.length
    exact wpAny_pyNext_enum_endT (I.ok.hd hc) he hit (show s.heap.IsTuple a its.toArray from p) (by simp; omega) fun h' eb => ⟨rfl, I.turned (t' := s.toks) (fun b o hb q => eb b o hb q) f0 f1 f3 f4 f5⟩
  self := fun A i s Q E st h => let ⟨⟨_, he⟩, _⟩ := st; wpAny_pyIter_enum he h
def iEnumT (K : PySem.W.Frag) (ta : TA) : TI := fun σ H R => ta σ H fun vs H1 => ∃ a xs, vs = [.ref a] ∧ SqT K H1 a xs ∧ R (IteT K a) H1
theorem pi_enumT {X : Cx} {e : Expr} {ta : TA} {p pos tpos : Pos} {elts : List Expr} {kk : Nat} (hg : Gl X "enumerate") (hm : X.mg "enumerate" = none) (ha : PA X [e] ta) (hs : starEach [e] X.env = [(false, eval e X.env)] := by rfl) :
    PI X (.Tuple elts kk tpos) (.Call (.Name "enumerate" p) [e] [] pos) (iEnumT X.K ta) := by
  refine ⟨fun pins s σ H R I h => ?_⟩
  refine Call_ (ld_blt I hg hm boot_enumerate (PyProof.Rows.callWith_type1 (thn (ha.run pos pins s σ H _ I h) fun us s1 ⟨vs, H1, I1, r1, q1⟩ => ?_) hs rfl))
  obtain ⟨a, xs, ex, hq, q⟩ := q1
  subst ex
  cases r1 with
  | cons r rr =>
    cases rr
    cases r
    obtain ⟨its, rv, p', hz⟩ := I1.tuple hq
    have hlt : a < s1.heap.objs.size := p'.lt
    refine call_enumerate_tuple (show s1.heap.IsTuple a its.toArray from p') fun h' he hit hsz hk => wpAny_pyIter_enum he ?_
    have I2 : Inv X pins σ H1 { s1 with heap := h' } := I1.kept (t' := s1.toks) hk
    refine ⟨s1.heap.objs.size + 1, [s1.heap.objs.size + 1, s1.heap.objs.size], _, _, H1, rfl, I2, turn_enumT a (s1.heap.objs.size + 1) s1.heap.objs.size (by intro z; rw [← z] at hlt; exact absurd hlt (Nat.not_lt.mpr (Nat.le_add_right _ _))) (Nat.ne_of_lt hlt), ⟨⟨.none, he⟩, hit, Nat.succ_ne_self _⟩, fun b hb => ?_, q⟩
    have e' : b = s1.heap.objs.size + 1 ∨ b = s1.heap.objs.size := by simpa using hb
    have hle : s1.heap.objs.size ≤ b := by
      rcases e' with z | z
      · rw [z]; exact Nat.le_add_right _ _
      · rw [z]; exact Nat.le_refl _
    exact I1.fpOk hle (I1.hok.fresh hle)
/-- the items with their places -/
def enumL (i : Nat) : List D → List D
  | [] => []
  | d :: ds => .tup [.int i, d] :: enumL (i + 1) ds
theorem enumL_len : ∀ (ds : List D) (i : Nat), (enumL i ds).length = ds.length
  | [], _ => rfl
  | d :: ds, i => by simp [enumL, enumL_len ds]
theorem enumL_get : ∀ (ds : List D) (i j : Nat) (d : D), ds[j]? = some d → (enumL i ds)[j]? = some (.tup [.int ((i + j : Nat) : Int), d])
  | [], _, _, _, h => by simp at h
  | x :: ds, i, 0, d, h => by simp at h; subst h; simp [enumL]
  | x :: ds, i, j + 1, d, h => by
    have := enumL_get ds (i + 1) j d (by simpa using h)
    simp only [enumL, List.getElem?_cons_succ, this]
    rw [show i + 1 + j = i + (j + 1) by omega]
/-- .. of two together -/
def zipL : List D → List D → List D
  | x :: xs, y :: ys => .tup [x, y] :: zipL xs ys
  | _, _ => []
theorem zipL_len : ∀ (xs ys : List D), (zipL xs ys).length = min xs.length ys.length
  | [], _ => by simp [zipL]
  | _ :: _, [] => by simp [zipL]
  | x :: xs, y :: ys => by simp only [zipL, List.length_cons, zipL_len xs ys]; omega
theorem zipL_get : ∀ (xs ys : List D) (j : Nat) (d e : D), xs[j]? = some d → ys[j]? = some e → (zipL xs ys)[j]? = some (.tup [d, e])
  | [], _, _, _, _, h, _ => by simp at h
  | _ :: _, [], _, _, _, _, h => by simp at h
  | x :: xs, y :: ys, 0, d, e, h, h' => by simp at h h'; subst h; subst h'; simp [zipL]
  | x :: xs, y :: ys, j + 1, d, e, h, h' => by
    simp only [zipL, List.getElem?_cons_succ]
    exact zipL_get xs ys j d e (by simpa using h) (by simpa using h')
/-- a new pair at T -/
theorem pair_new {K : PySem.W.Frag} {w : Wd} {T : Addr} {d e : D} {u v : V} (hw : Hrel K w) (hn : w.H T = none) (r1 : Rp K w d u) (r2 : Rp K w e v) :
    Later w ⟨w.m, w.c, upd w.H T (.tup [u, v])⟩ ∧ Hrel K ⟨w.m, w.c, upd w.H T (.tup [u, v])⟩ ∧ Rp K ⟨w.m, w.c, upd w.H T (.tup [u, v])⟩ (.tup [d, e]) (.ref T) :=
  ⟨Later.new hw hn, hw.new hn, Rp.newTup hw hn (Rps.cons r1 (Rps.cons r2 Rps.nil))⟩
theorem itOk_enumT {K : PySem.W.Frag} {w : Wd} {a : Addr} {xs : List D} {vs : List V} (h : SqT K w.H a vs) (r : Rps K w xs vs) : itOk K w (enumL 0 xs) (IteT K a) := by
  have hl : (enumL 0 xs).length = vs.length := by rw [enumL_len, r.length]
  refine ⟨fun H => SqT K H a vs, fun i H v H' => ∃ T x, v = .ref T ∧ H T = none ∧ H' = upd H T (.tup [.int (i : Nat), x]) ∧ vs[i]? = some x, ?_, fun w' l => l.sqT h, fun i x w' H' l hr hi y => ?_⟩
  · rw [hl]
    exact ⟨fun i _ hi q => ⟨vs, vs[i], q, by simp [hi]⟩, fun _ q => ⟨vs, q, Nat.le_refl _⟩, fun _ _ _ _ _ q ⟨T, x, e1, e2, e3, e4⟩ => ⟨T, x, e1, e2, e3, e4 vs q⟩⟩
  · obtain ⟨T, u, rfl, hn, rfl, hu⟩ := y
    rw [enumL_len] at hi
    obtain ⟨v, e, rv⟩ := (Rps.mono l _ _ r).get (List.getElem?_eq_getElem hi)
    rw [hu] at e; cases e
    obtain ⟨q1, q2, q3⟩ := pair_new hr hn (rp_int.mpr rfl : Rp K w' (.int (i : Nat)) _) rv
    refine ⟨_, enumL_get xs 0 i _ (List.getElem?_eq_getElem hi), q1, q2, ?_⟩
    rw [Nat.zero_add]; exact q3
theorem itOk_enumL {K : PySem.W.Frag} {w : Wd} {a : Addr} {xs : List D} {vs : List V} (h : ∀ w', Lat0 w w' → SqL K w'.H a vs) (r : Rps K w xs vs) : itOk K w (enumL 0 xs) (Ite K a) := by
  have hl : (enumL 0 xs).length = vs.length := by rw [enumL_len, r.length]
  refine ⟨fun H => SqL K H a vs, fun i H v H' => ∃ T x, v = .ref T ∧ H T = none ∧ H' = upd H T (.tup [.int (i : Nat), x]) ∧ vs[i]? = some x, ?_, fun w' l => h w' l, fun i x w' H' l hr hi y => ?_⟩
  · rw [hl]
    exact ⟨fun i _ hi q => ⟨vs, vs[i], q, by simp [hi]⟩, fun _ q => ⟨vs, q, Nat.le_refl _⟩, fun _ _ _ _ _ q ⟨T, x, e1, e2, e3, e4⟩ => ⟨T, x, e1, e2, e3, e4 vs q⟩⟩
  · obtain ⟨T, u, rfl, hn, rfl, hu⟩ := y
    rw [enumL_len] at hi
    obtain ⟨v, e, rv⟩ := (Rps.mono l _ _ r).get (List.getElem?_eq_getElem hi)
    rw [hu] at e; cases e
    obtain ⟨q1, q2, q3⟩ := pair_new hr hn (rp_int.mpr rfl : Rp K w' (.int (i : Nat)) _) rv
    refine ⟨_, enumL_get xs 0 i _ (List.getElem?_eq_getElem hi), q1, q2, ?_⟩
    rw [Nat.zero_add]; exact q3
def enumD (as : List D) (c : Cs) : R (List D × Cs) := match as with
  | [.tup xs] => .ok (enumL 0 xs, c)
  | [.lst xs] => .ok (enumL 0 xs, c)
  | _ => .stuck
def zipD (as : List D) (c : Cs) : R (List D × Cs) := match as with
  | [.tup xs, .tup ys] => .ok (zipL xs ys, c)
  | [.lst xs, .lst ys] => .ok (zipL xs ys, c)
  | _ => .stuck
theorem itOk_zipT {K : PySem.W.Frag} {w : Wd} {a b : Addr} {xs ys : List D} {vs us : List V} (h : SqT K w.H a vs) (h' : SqT K w.H b us) (r : Rps K w xs vs) (r' : Rps K w ys us) : itOk K w (zipL xs ys) (ItzT K a b) := by
  have hl : (zipL xs ys).length = min vs.length us.length := by rw [zipL_len, r.length, r'.length]
  refine ⟨fun H => SqT K H a vs ∧ SqT K H b us, fun i H v H' => ∃ T x y, v = .ref T ∧ H T = none ∧ H' = upd H T (.tup [x, y]) ∧ vs[i]? = some x ∧ us[i]? = some y, ?_, fun w' l => ⟨l.sqT h, l.sqT h'⟩, fun i x w' H' l hr hi y => ?_⟩
  · rw [hl]
    refine ⟨fun i _ hi q => ⟨vs, us, vs[i], us[i], q.1, q.2, by simp, by simp⟩, fun _ q => ⟨vs, us, q.1, q.2, by omega⟩, fun _ _ _ _ _ q ⟨T, x, y, e1, e2, e3, e4, e5⟩ => ⟨T, x, y, e1, e2, e3, e4 vs q.1, e5 us q.2⟩⟩
  · obtain ⟨T, u, v, rfl, hn, rfl, hu, hv⟩ := y
    rw [zipL_len] at hi
    have h1 : i < xs.length := by omega
    have h2 : i < ys.length := by omega
    obtain ⟨_, e, rv⟩ := (Rps.mono l _ _ r).get (List.getElem?_eq_getElem h1)
    rw [hu] at e; cases e
    obtain ⟨_, e, rv'⟩ := (Rps.mono l _ _ r').get (List.getElem?_eq_getElem h2)
    rw [hv] at e; cases e
    obtain ⟨q1, q2, q3⟩ := pair_new hr hn rv rv'
    exact ⟨_, zipL_get xs ys i _ _ (List.getElem?_eq_getElem h1) (List.getElem?_eq_getElem h2), q1, q2, q3⟩
theorem itOk_zipL {K : PySem.W.Frag} {w : Wd} {a b : Addr} {xs ys : List D} {vs us : List V} (h : ∀ w', Lat0 w w' → SqL K w'.H a vs) (h' : ∀ w', Lat0 w w' → SqL K w'.H b us) (r : Rps K w xs vs) (r' : Rps K w ys us) : itOk K w (zipL xs ys) (Itz K a b) := by
  have hl : (zipL xs ys).length = min vs.length us.length := by rw [zipL_len, r.length, r'.length]
  refine ⟨fun H => SqL K H a vs ∧ SqL K H b us, fun i H v H' => ∃ T x y, v = .ref T ∧ H T = none ∧ H' = upd H T (.tup [x, y]) ∧ vs[i]? = some x ∧ us[i]? = some y, ?_, fun w' l => ⟨h w' l, h' w' l⟩, fun i x w' H' l hr hi y => ?_⟩
  · rw [hl]
    refine ⟨fun i _ hi q => ⟨vs, us, vs[i], us[i], q.1, q.2, by simp, by simp⟩, fun _ q => ⟨vs, us, q.1, q.2, by omega⟩, fun _ _ _ _ _ q ⟨T, x, y, e1, e2, e3, e4, e5⟩ => ⟨T, x, y, e1, e2, e3, e4 vs q.1, e5 us q.2⟩⟩
  · obtain ⟨T, u, v, rfl, hn, rfl, hu, hv⟩ := y
    rw [zipL_len] at hi
    have h1 : i < xs.length := by omega
    have h2 : i < ys.length := by omega
    obtain ⟨_, e, rv⟩ := (Rps.mono l _ _ r).get (List.getElem?_eq_getElem h1)
    rw [hu] at e; cases e
    obtain ⟨_, e, rv'⟩ := (Rps.mono l _ _ r').get (List.getElem?_eq_getElem h2)
    rw [hv] at e; cases e
    obtain ⟨q1, q2, q3⟩ := pair_new hr hn rv rv'
    exact ⟨_, zipL_get xs ys i _ _ (List.getElem?_eq_getElem h1) (List.getElem?_eq_getElem h2), q1, q2, q3⟩
section
variable {X : Cx} {W : WX} {e e2 : Expr} {fa : AF} {p pos tpos : Pos} {elts : List Expr} {kk : Nat}
theorem i_enum (hg : Gl X "enumerate") (hm : X.mg "enumerate" = none) (ha : As X W [e] fa) (hs : starEach [e] X.env = [(false, eval e X.env)] := by rfl) : Ij X W (.Tuple elts kk tpos) (.Call (.Name "enumerate" p) [e] [] pos) (dItA fa enumD) := by
  refine PI.imp (PI.or (pi_enum (tpos := tpos) (elts := elts) (kk := kk) hg hm ha hs) (pi_enumT hg hm ha hs)) fun σ H R hq => ?_
  obtain ⟨m, c, env, h0, ev, hp⟩ := hq
  unfold dItA at hp
  cases hf : fa env c with
  | stuck => rw [hf] at hp; exact hp.elim
  | err x c' => exact .inl ⟨m, c, env, h0, ev, by rw [hf] at hp ⊢; exact hp⟩
  | ok q =>
    obtain ⟨as, c1⟩ := q
    rw [hf] at hp
    simp only [Mi.R.bind_ok] at hp
    unfold enumD at hp
    split at hp
    · refine .inr ⟨m, c, env, h0, ev, ?_⟩
      rw [hf]
      intro vs m' H' l hw r
      obtain ⟨v, rfl, q⟩ := rps1 r
      simp only [Rp] at q
      obtain ⟨a, us, rfl, hs, r3⟩ := q
      exact ⟨a, us, rfl, hs, (Po.later l hp).ok (w := ⟨m', c1, H'⟩) (itOk_enumT hs r3) hw⟩
    · refine .inl ⟨m, c, env, h0, ev, ?_⟩
      rw [hf]
      intro vs m' H' l hw r
      obtain ⟨v, rfl, q⟩ := rps1 r
      simp only [Rp] at q
      obtain ⟨a, us, rfl, hs, hn, r3⟩ := q
      exact ⟨a, us, rfl, SqL.of hs, (Po.later l hp).ok (w := ⟨m', c1, H'⟩) (itOk_enumL (fun w' l => SqL.of (l.lst a us hs hn).1) r3) hw⟩
    · exact hp.elim
theorem i_zip (hg : Gl X "zip") (hm : X.mg "zip" = none) (ha : As X W [e, e2] fa) (hs : starEach [e, e2] X.env = (false, eval e X.env) :: starEach [e2] X.env := by rfl) (hpl : (backTo pos (starEach [e2] X.env)).any (·.1) = false := by rfl) : Ij X W (.Tuple elts kk tpos) (.Call (.Name "zip" p) [e, e2] [] pos) (dItA fa zipD) := by
  refine PI.imp (pi_zipA hg hm ha hs hpl) fun σ H R hq => ?_
  refine rd_IA (r := fun vs H1 R => ∃ a b xs ys, vs = [.ref a, .ref b] ∧ ((SqL X.K H1 a xs ∧ SqL X.K H1 b ys ∧ R (Itz X.K a b) H1) ∨ (SqT X.K H1 a xs ∧ SqT X.K H1 b ys ∧ R (ItzT X.K a b) H1))) (fun w σ as xs hw r hp => ?_) hq
  unfold zipD at hp
  split at hp
  · obtain ⟨v, u, rfl, q, q2⟩ := rps2 r
    simp only [Rp] at q q2
    obtain ⟨a, us, rfl, hs, r1⟩ := q
    obtain ⟨b, ws, rfl, hs2, r2⟩ := q2
    exact ⟨a, b, us, ws, rfl, .inr ⟨hs, hs2, hp.ok (itOk_zipT hs hs2 r1 r2) hw⟩⟩
  · obtain ⟨v, u, rfl, q, q2⟩ := rps2 r
    simp only [Rp] at q q2
    obtain ⟨a, us, rfl, hs, hn, r1⟩ := q
    obtain ⟨b, ws, rfl, hs2, hn2, r2⟩ := q2
    exact ⟨a, b, us, ws, rfl, .inl ⟨SqL.of hs, SqL.of hs2, hp.ok (itOk_zipL (fun w' l => SqL.of (l.lst a us hs hn).1) (fun w' l => SqL.of (l.lst b ws hs2 hn2).1) r1 r2) hw⟩⟩
  · exact hp.elim
end
end Mi
namespace Mi
open PySem PySem.Spec PyProof.Rows L2 RZ

/-! ### a, b = x, y -/
def sPar (i j : Nat) (fa : AF) : SF := fun env c => (fa env c).bind fun p => match p.1 with
  | [d, e] => .ok (.next, (env.set i (some d)).set j (some e), p.2)
  | _ => .stuck
def sPar3 (i j l : Nat) (fa : AF) : SF := fun env c => (fa env c).bind fun p => match p.1 with
  | [d, e, f] => .ok (.next, ((env.set i (some d)).set j (some e)).set l (some f), p.2)
  | _ => .stuck
section
variable {X : Cx} {W : WX} {a b c e : Expr} {es : List Expr} {f g : EF} {fa : AF} {pos p apos : Pos}
theorem s_par {i j : Nat} {x y : Str} {px py pt : Pos} {kt k2 pt2} (hc : X.calm = true) (hN : X.N.Nodup) (hi : X.N[i]? = some x) (hj : X.N[j]? = some y) (hij : i ≠ j)
    (hx : X.env.scope.names.lookup x = some .local) (hy : X.env.scope.names.lookup y = some .local) (ha : As X W [a, b] fa)
    (hw : swappedStores [.Tuple [.Name x px, .Name y py] kt pt] (.Tuple [a, b] k2 pt2) X.env = pure (some [x, y]) := by rfl)
    (hs : swapsWithSole [.Tuple [.Name x px, .Name y py] kt pt] (.Tuple [a, b] k2 pt2) pos.line X.env = pure false := by rfl) :
    S X W (.Assign [.Tuple [.Name x px, .Name y py] kt pt] (.Tuple [a, b] k2 pt2) pos) (sPar i j fa) := S.of (ps_par hc hN hi hj hij hx hy ha hw hs) fun m c env DE σ H hr ev h => by
  refine ⟨m, c, env, hr, ev, (PoS.bind (Rel := Rps X.K) h).imp fun vs H1 ⟨m1, as, c1, l1, h1, r1, p1⟩ => ?_⟩
  simp only at p1
  split at p1
  · obtain ⟨v, u, rfl, q, q2⟩ := rps2 r1
    exact ⟨v, u, rfl, PoS.next (w := ⟨m1, c1, H1⟩) p1 h1 (((ev.mono l1.toLat0).set q i).set q2 j)⟩
  · exact p1.elim
theorem s_par3 {i j l : Nat} {x y z : Str} {px py pz pt : Pos} {kt k2 pt2} (hc : X.calm = true) (hN : X.N.Nodup) (hi : X.N[i]? = some x) (hj : X.N[j]? = some y) (hl : X.N[l]? = some z) (hij : i ≠ j) (hil : i ≠ l) (hjl : j ≠ l)
    (hx : X.env.scope.names.lookup x = some .local) (hy : X.env.scope.names.lookup y = some .local) (hz : X.env.scope.names.lookup z = some .local) (ha : As X W [a, b, c] fa)
    (hw : swappedStores [.Tuple [.Name x px, .Name y py, .Name z pz] kt pt] (.Tuple [a, b, c] k2 pt2) X.env = pure (some [x, y, z]) := by rfl)
    (hs : swapsWithSole [.Tuple [.Name x px, .Name y py, .Name z pz] kt pt] (.Tuple [a, b, c] k2 pt2) pos.line X.env = pure false := by rfl) :
    S X W (.Assign [.Tuple [.Name x px, .Name y py, .Name z pz] kt pt] (.Tuple [a, b, c] k2 pt2) pos) (sPar3 i j l fa) := S.of (ps_par3 hc hN hi hj hl hij hil hjl hx hy hz ha hw hs) fun m c env DE σ H hr ev h => by
  refine ⟨m, c, env, hr, ev, (PoS.bind (Rel := Rps X.K) h).imp fun vs H1 ⟨m1, as, c1, l1, h1, r1, p1⟩ => ?_⟩
  simp only at p1
  split at p1
  · have q := r1
    simp only [Rps] at q
    obtain ⟨v, _, rfl, q1, u, _, rfl, q2, t, _, rfl, q3, rfl⟩ := q
    exact ⟨v, u, t, rfl, PoS.next (w := ⟨m1, c1, H1⟩) p1 h1 ((((ev.mono l1.toLat0).set q1 i).set q2 j).set q3 l)⟩
  · exact p1.elim

/-! ### xs[::-1] of a list -/
def revD (d : D) (c : Cs) : R (D × Cs) := match getL c d with
  | some xs => .ok (.lst xs.reverse, c)
  | none => .stuck
theorem e_rev {k : Nat} {p1 p2 p3 : Pos} (he : E X W e f) : E X W (.Subscript e (.Slice none none (some (.UnaryOp .USub (.Constant (.int 1) k p1) p2)) p3) pos) (d1 f revD) := by
  refine PE.imp (pe_revL he) fun σ H Q hq => rd_1 (r := fun x H1 Q => ∃ a xs, x = .ref a ∧ SqL X.K H1 a xs ∧ ∀ p, H1 p = none → Q (.ref p) (upd H1 p (.lst xs.reverse))) (fun w σ d v Q hw r hp => ?_) hq
  unfold revD at hp
  split at hp
  · rename_i xs hx
    obtain ⟨a, vs, rfl, hh, r⟩ := getL_ok hw hx r
    exact ⟨a, vs, rfl, hh, po_newLst hw r.reverse hp⟩
  · exact hp.elim

/-! ### xs.index(x), T.index(x) of a constant -/
def flat2 (d : D) : Option V := flat d
def idxV (v : V) : List V → Option Nat
  | [] => none
  | y :: r => if eqV y v then some 0 else (idxV v r).map (· + 1)
theorem idxV_ok {v : V} : ∀ {ys : List V} {j : Nat}, idxV v ys = some j → ∃ z, ys[j]? = some z ∧ eqV z v = true ∧ ∀ (m : Nat) (z' : V), m < j → ys[m]? = some z' → eqV z' v = false
  | [], j, h => by cases h
  | y :: r, j, h => by
    unfold idxV at h
    split at h
    · rename_i hy
      cases h
      exact ⟨y, rfl, hy, fun m _ hm _ => by omega⟩
    · rename_i hy
      obtain ⟨i, hi, rfl⟩ := Option.map_eq_some_iff.mp h
      obtain ⟨z, h1, h2, h3⟩ := idxV_ok hi
      refine ⟨z, by simpa using h1, h2, fun m z' hm hz => ?_⟩
      cases m with
      | zero => simp at hz; subst hz; simpa using hy
      | succ m => exact h3 m z' (by omega) (by simpa using hz)
def idxD (d : D) (as : List D) (c : Cs) : R (D × Cs) := match getL c d, as with
  | some xs, [x] => match flats xs, flat x with
    | some vs, some v => match idxV v vs with
      | some j => .ok (.int j, c)
      | none => .stuck
    | _, _ => .stuck
  | _, _ => .stuck
theorem e_index (ho : E X W b f) (ha : As X W [e] fa) (hbase : attributeBase b "index" X.env (eval b X.env) = eval b X.env := by rfl) (hfew : ((backTo pos (starEach [e] X.env)).all (fun x => !x.1) && (backToKw pos (keywordEach [] X.env)).all (fun x => x.1.isSome) && decide ([e].length + ([] : List Keyword).length + (if ([] : List Keyword).isEmpty then 0 else 1) < 30)) = true := by rfl) (he : starEach [e] X.env = (false, eval e X.env) :: starEach [] X.env := by rfl) (hline : (apos.endLine == pos.line) = true := by rfl) :
    E X W (.Call (.Attribute b "index" apos) [e] [] pos) (dM "list" f fa idxD) := by
  refine e_m PySem.F.plainAttrs_list PySem.F.slot_list_index PySem.F.type_list_index mt_index (fun w σ d v as xs Q hw rd ra hp => ?_) ho ha hbase hfew he rfl hline
  unfold idxD at hp
  split at hp
  · rename_i ys x hx
    split at hp
    · rename_i vs u h1 h2
      split at hp
      · rename_i j hj
        obtain ⟨t, rfl, rt⟩ := rps1 ra
        obtain ⟨a, us, rfl, hh, r⟩ := getL_ok hw hx rd
        obtain ⟨rfl, f1⟩ := flat_ok h2 rt
        obtain ⟨rfl, f2⟩ := flats_ok h1 r
        obtain ⟨z, g1, g2, g3⟩ := idxV_ok hj
        exact ⟨a, _, _, j, z, rfl, rfl, hh, f1, f2, g1, g2, g3, hp.ok (rp_int.mpr rfl) hw⟩
      · exact hp.elim
    · exact hp.elim
  · exact hp.elim
def strsD : List D → Option (List Str)
  | [] => some []
  | .str b :: r => (strsD r).map (b :: ·)
  | _ => none
theorem strs_ok {K : PySem.W.Frag} {w : Wd} : ∀ {ds : List D} {bs : List Str} {vs : List V}, strsD ds = some bs → Rps K w ds vs → vs = bs.map V.str
  | [], bs, vs, e, r => by simp only [strsD, Option.some.injEq] at e; subst e; simp only [Rps] at r; exact r
  | d :: ds, bs, vs, e, r => by
    cases d <;> simp only [strsD, Option.map_eq_some_iff] at e <;> try cases e
    rename_i b bs' e
    obtain ⟨e, rfl⟩ := e
    simp only [Rps] at r
    obtain ⟨v, ws, rfl, r1, r2⟩ := r
    rw [rp_str] at r1; subst r1
    rw [strs_ok e r2]; rfl
def idxS (z : Str) : List Str → Option Nat
  | [] => none
  | y :: r => if y = z then some 0 else (idxS z r).map (· + 1)
theorem idxS_ok {z : Str} : ∀ {ys : List Str} {j : Nat}, idxS z ys = some j → ys[j]? = some z ∧ ∀ m, m < j → ys[m]? ≠ some z
  | [], j, h => by cases h
  | y :: r, j, h => by
    unfold idxS at h
    split at h
    · rename_i hy
      cases h
      subst hy
      exact ⟨rfl, fun m hm => by omega⟩
    · rename_i hy
      obtain ⟨i, hi, rfl⟩ := Option.map_eq_some_iff.mp h
      obtain ⟨h1, h3⟩ := idxS_ok hi
      refine ⟨by simpa using h1, fun m hm => ?_⟩
      cases m with
      | zero => simpa using hy
      | succ m => simpa using h3 m (by omega)
/-- a tuple of texts of the module -/
structure KStrs (K : PySem.W.Frag) (a : Addr) (ys : List Str) : Prop where
  ex : ∃ (o : Obj) (its : Array Value) (n : Nat), K.lookup a = some o ∧ o.cls = .type "tuple" ∧ o.dict = none ∧ o.data = .seq its n ∧ its.size ≤ sizeLine ∧ Vals (ys.map V.str) its.toList
theorem KStrs.sqT {K : PySem.W.Frag} {a : Addr} {ys : List Str} {H : Hp} (h : KStrs K a ys) : SqT K H a (ys.map V.str) := by
  obtain ⟨o, its, n, h1, h2, _, h4, h5, h6⟩ := h.ex
  exact .inr ⟨o, its, n, h1, h2, h4, h5, h6⟩
def kidx (ys : List Str) (as : List D) (c : Cs) : R (D × Cs) := match as with
  | [.str z] => match idxS z ys with
    | some j => .ok (.int j, c)
    | none => .stuck
  | _ => .stuck
theorem e_kindex {x : Str} {t : Addr} {ys : List Str} (hg : Gl X x) (hm : X.mg x = some (.ref t)) (hk : KStrs X.K t ys) (ha : As X W [e] fa) (hdb : (x == ("__debug__" : Str)) = false := by decide) (hbase : attributeBase (.Name x p) "index" X.env (eval (.Name x p) X.env) = eval (.Name x p) X.env := by rfl) (hfew : ((backTo pos (starEach [e] X.env)).all (fun x => !x.1) && (backToKw pos (keywordEach [] X.env)).all (fun x => x.1.isSome) && decide ([e].length + ([] : List Keyword).length + (if ([] : List Keyword).isEmpty then 0 else 1) < 30)) = true := by rfl) (he : starEach [e] X.env = (false, eval e X.env) :: starEach [] X.env := by rfl) (hline : (apos.endLine == pos.line) = true := by rfl) :
    E X W (.Call (.Attribute (.Name x p) "index" apos) [e] [] pos) (dA fa (kidx ys)) := by
  refine PE.imp (pe_bm PySem.F.plainAttrs_tuple PySem.F.slot_tuple_index PySem.F.type_tuple_index mt_tup_index (pe_glob (v := .ref t) hg hm rfl hdb) ha hbase hfew hline he rfl) fun σ H Q ⟨m, c, env, hr, ev, hp⟩ => ?_
  obtain ⟨o, its, n, h1, h2, h3, h4, h5, h6⟩ := hk.ex
  refine ⟨.inr (.inl ⟨rfl, o, h1, h2, h3⟩), m, c, env, hr, ev, (Po.bind (Rel := Rps X.K) hp).imp fun vs H1 ⟨m1, as, c1, l1, hw, r1, p1⟩ => ?_⟩
  simp only at p1
  unfold kidx at p1
  split at p1
  · split at p1
    · rename_i z _ j hj
      obtain ⟨v, rfl, q⟩ := rps1 r1
      rw [rp_str] at q; subst q
      obtain ⟨g1, g2⟩ := idxS_ok hj
      exact ⟨t, ys, z, j, rfl, rfl, hk.sqT, g1, g2, p1.ok (w := ⟨m1, c1, H1⟩) (rp_int.mpr rfl) hw⟩
    · exact p1.elim
  · exact p1.elim
theorem rps_strs {K : PySem.W.Frag} {w : Wd} : ∀ (ns : List Str), Rps K w (ns.map D.str) (ns.map V.str)
  | [] => by simp [Rps]
  | n :: ns => Rps.cons (rp_str.mpr rfl) (rps_strs ns)
/-- a constant tuple of texts as a value -/
theorem KStrs.rp {K : PySem.W.Frag} {a : Addr} {ys : List Str} (h : KStrs K a ys) (w : Wd) : Rp K w (.tup (ys.map D.str)) (.ref a) := by
  simp only [Rp]
  exact ⟨a, _, rfl, h.sqT, rps_strs ys⟩

/-! ### texts -/
def joinD (d : D) (as : List D) (c : Cs) : R (D × Cs) := match d, as with
  | .str a, [x] => match getS c x with
    | some xs => match strsD xs with
      | some ys => if (ys.map (·.length)).sum + ys.length * a.length ≤ 16777216 then .ok (.str (Txt.join a ys), c) else .stuck
      | none => .stuck
    | none => .stuck
  | _, _ => .stuck
theorem e_join (ho : E X W b f) (ha : As X W [e] fa) (hbase : attributeBase b "join" X.env (eval b X.env) = eval b X.env := by rfl) (hfew : ((backTo pos (starEach [e] X.env)).all (fun x => !x.1) && (backToKw pos (keywordEach [] X.env)).all (fun x => x.1.isSome) && decide ([e].length + ([] : List Keyword).length + (if ([] : List Keyword).isEmpty then 0 else 1) < 30)) = true := by rfl) (he : starEach [e] X.env = (false, eval e X.env) :: starEach [] X.env := by rfl) (hline : (apos.endLine == pos.line) = true := by rfl) :
    E X W (.Call (.Attribute b "join" apos) [e] [] pos) (dM "str" f fa joinD) := by
  refine e_m PySem.F.plainAttrs_str PySem.F.slot_str_join PySem.F.type_str_join mt_join (fun w σ d v as xs Q hw rd ra hp => ?_) ho ha hbase hfew he rfl hline
  unfold joinD at hp
  split at hp
  · rename_i a x
    split at hp
    · rename_i xs hx
      split at hp
      · rename_i ys hy
        split at hp
        · rename_i hl
          rw [rp_str] at rd; subst rd
          obtain ⟨t, rfl, rt⟩ := rps1 ra
          obtain ⟨q, us, rfl, hh, r⟩ := getS_ok hw hx rt
          have := strs_ok hy r
          subst this
          exact ⟨a, q, ys, rfl, rfl, hh, hl, hp.ok (rp_str.mpr rfl) hw⟩
        · exact hp.elim
      · exact hp.elim
    · exact hp.elim
  · exact hp.elim
def splitD (d : D) (as : List D) (c : Cs) : R (D × Cs) := match d, as with
  | .str a, [.str b] => if (b.length == 0) = false ∧ a.length + 2 ≤ lim then .ok (.lst ((Txt.split a b).map D.str), c) else .stuck
  | _, _ => .stuck
theorem e_split (ho : E X W b f) (ha : As X W [e] fa) (hbase : attributeBase b "split" X.env (eval b X.env) = eval b X.env := by rfl) (hfew : ((backTo pos (starEach [e] X.env)).all (fun x => !x.1) && (backToKw pos (keywordEach [] X.env)).all (fun x => x.1.isSome) && decide ([e].length + ([] : List Keyword).length + (if ([] : List Keyword).isEmpty then 0 else 1) < 30)) = true := by rfl) (he : starEach [e] X.env = (false, eval e X.env) :: starEach [] X.env := by rfl) (hline : (apos.endLine == pos.line) = true := by rfl) :
    E X W (.Call (.Attribute b "split" apos) [e] [] pos) (dM "str" f fa splitD) := by
  refine e_m PySem.F.plainAttrs_str PySem.F.slot_str_split PySem.F.type_str_split mt_split (fun w σ d v as xs Q hw rd ra hp => ?_) ho ha hbase hfew he rfl hline
  unfold splitD at hp
  split at hp
  · rename_i a b
    split at hp
    · rename_i hl
      rw [rp_str] at rd; subst rd
      obtain ⟨t, rfl, rt⟩ := rps1 ra
      rw [rp_str] at rt; subst rt
      exact ⟨a, b, rfl, rfl, hl.1, by rw [lim_eq]; exact hl.2, fun p hn => po_newLst hw (rps_strs _) hp p hn⟩
    · exact hp.elim
  · exact hp.elim
end
end Mi
namespace Mi
open PySem PySem.Spec PyProof.Rows L2 RZ

/-! ### a constant of the module -/
def repB (K : PySem.W.Frag) : Nat → D → Value → Bool
  | _, .non, .none => true
  | _, .bl b, .bool c => b == c
  | _, .int i, .int j _ => decide (i = j)
  | _, .str x, .str y _ => decide (x = y)
  | n + 1, .tup xs, .ref a => match K.lookup a with
    | some o => (match o.cls with
      | .type t => t == "tuple"
      | _ => false) && (match o.data with
      | .seq its _ => xs.length == its.toList.length && (decide (its.size ≤ lim) && (xs.zip its.toList).all fun p => repB K n p.1 p.2)
      | _ => false)
    | none => false
  | _, _, _ => false
theorem reps_ok {K : PySem.W.Frag} {P : D → Value → Prop} (hP : ∀ d u, P d u → ∃ v, RelV v u ∧ ∀ w, Rp K w d v) : ∀ {xs : List D} {us : List Value}, xs.length = us.length → (∀ p ∈ xs.zip us, P p.1 p.2) → ∃ vs, Vals vs us ∧ ∀ w, Rps K w xs vs
  | [], [], _, _ => ⟨[], .nil, fun w => Rps.nil⟩
  | [], _ :: _, h, _ => by cases h
  | _ :: _, [], h, _ => by cases h
  | d :: xs, u :: us, h, hp => by
    obtain ⟨v, r, q⟩ := hP d u (hp (d, u) List.mem_cons_self)
    obtain ⟨vs, rs, qs⟩ := reps_ok hP (xs := xs) (us := us) (by simpa using h) fun p hp' => hp p (List.mem_cons_of_mem _ hp')
    exact ⟨v :: vs, .cons r rs, fun w => Rps.cons (q w) (qs w)⟩
theorem repB_ok {K : PySem.W.Frag} : ∀ (n : Nat) (d : D) (u : Value), repB K n d u = true → ∃ v, RelV v u ∧ ∀ w, Rp K w d v := by
  intro n
  induction n with
  | zero =>
    intro d u h
    unfold repB at h
    split at h
    · exact ⟨.non, rfl, fun w => rp_non.mpr rfl⟩
    · have := eq_of_beq h; subst this; exact ⟨.bl _, rfl, fun w => rp_bl.mpr rfl⟩
    · have := of_decide_eq_true h; subst this; exact ⟨.int _, ⟨_, rfl⟩, fun w => rp_int.mpr rfl⟩
    · have := of_decide_eq_true h; subst this; exact ⟨.str _, ⟨_, rfl⟩, fun w => rp_str.mpr rfl⟩
    · rename_i h0; exact absurd h0 (by simp)
    · cases h
  | succ n ih =>
    intro d u h
    unfold repB at h
    split at h
    · exact ⟨.non, rfl, fun w => rp_non.mpr rfl⟩
    · have := eq_of_beq h; subst this; exact ⟨.bl _, rfl, fun w => rp_bl.mpr rfl⟩
    · have := of_decide_eq_true h; subst this; exact ⟨.int _, ⟨_, rfl⟩, fun w => rp_int.mpr rfl⟩
    · have := of_decide_eq_true h; subst this; exact ⟨.str _, ⟨_, rfl⟩, fun w => rp_str.mpr rfl⟩
    · rename_i m xs a hm
      cases hm
      split at h
      · rename_i o ho
        rw [Bool.and_eq_true] at h
        obtain ⟨hc, hd⟩ := h
        have hcls : o.cls = .type "tuple" := by
          split at hc
          · rename_i t ht; rw [ht, eq_of_beq hc]
          · cases hc
        split at hd
        · rename_i its k hk
          rw [Bool.and_eq_true, Bool.and_eq_true] at hd
          obtain ⟨h1, h2, h3⟩ := hd
          obtain ⟨vs, rs, qs⟩ := reps_ok (K := K) (P := fun d u => repB K n d u = true) ih (eq_of_beq h1) (fun p hp => List.all_eq_true.mp h3 p hp)
          refine ⟨.ref a, rfl, fun w => ?_⟩
          simp only [Rp]
          exact ⟨a, vs, rfl, .inr ⟨o, its, k, ho, hcls, hk, by rw [lim_eq]; exact of_decide_eq_true h2, rs⟩, qs w⟩
        · cases hd
      · cases h
    · cases h
/-- the name x stands for d -/
def conB (K : PySem.W.Frag) (p : Str × D) : Bool := match PySem.W.nsIn K mainGlobals p.1 with
  | some (some u) => repB K 8 p.2 u
  | _ => false
/-- a tuple of texts, whose methods may be asked -/
def kstB (K : PySem.W.Frag) (p : Str × List Str) : Bool := match PySem.W.nsIn K mainGlobals p.1 with
  | some (some (.ref a)) => (match K.lookup a with
    | some o => (match o.cls with
      | .type t => t == "tuple"
      | _ => false) && (o.dict.isNone && (match o.data with
      | .seq its _ => decide (its.size ≤ lim) && He.relAll (p.2.map V.str) its.toList
      | _ => false))
    | none => false)
  | _ => false
theorem conB_ok {K : PySem.W.Frag} {h : Heap} {mg : Str → Option Value} (X : K.In h) (G : h.Ns mainGlobals mg) {p : Str × D} (c : conB K p = true) : ∃ u v, mg p.1 = some u ∧ RelV v u ∧ ∀ w, Rp K w p.2 v := by
  unfold conB at c
  split at c
  · rename_i u hu
    obtain ⟨v, r, q⟩ := repB_ok 8 p.2 u c
    exact ⟨u, v, PySem.W.mg_of X G hu, r, q⟩
  · cases c
theorem kstB_ok {K : PySem.W.Frag} {h : Heap} {mg : Str → Option Value} (X : K.In h) (G : h.Ns mainGlobals mg) {p : Str × List Str} (c : kstB K p = true) : ∃ a, mg p.1 = some (.ref a) ∧ KStrs K a p.2 := by
  unfold kstB at c
  split at c
  · rename_i a ha
    split at c
    · rename_i o ho
      rw [Bool.and_eq_true, Bool.and_eq_true] at c
      obtain ⟨c1, c2, c3⟩ := c
      have hcls : o.cls = .type "tuple" := by
        split at c1
        · rename_i t ht; rw [ht, eq_of_beq c1]
        · cases c1
      split at c3
      · rename_i its k hk
        rw [Bool.and_eq_true] at c3
        exact ⟨a, PySem.W.mg_of X G ha, ⟨o, its, k, ho, hcls, by simpa using c2, hk, by rw [lim_eq]; exact of_decide_eq_true c3.1, He.relAll_ok c3.2⟩⟩
      · cases c3
    · cases c
  · cases c

/-! ### what the top leaves -/
/-- bl: the built-ins' names; cs: constants; ks: tuples of texts; fn: the defs; cl: own classes of errors -/
structure Top where
  bl : List Str
  cs : List (Str × D)
  ks : List (Str × List Str)
  fn : List He.DefD
  cl : List Str
def Top.ex (t : Top) (K : PySem.W.Frag) : Bool := (t.bl.all fun x => (He.Fa.free x).ok K) && ((t.cs.all (conB K)) && ((t.ks.all (kstB K)) && ((t.fn.all fun d => (He.Fa.glo d.at_.1).ok K) && (t.cl.all fun x => (He.Fa.glo x).ok K && (He.Fa.exc x).ok K))))
structure Txt (t : Top) (K : PySem.W.Frag) (mg : Str → Option Value) : Prop where
  bl : ∀ (i : Nat) (x : Str), t.bl[i]? = some x → mg x = none
  cs : ∀ (i : Nat) (x : Str) (d : D), t.cs[i]? = some (x, d) → ∃ u v, mg x = some u ∧ RelV v u ∧ ∀ w, Rp K w d v
  ks : ∀ (i : Nat) (x : Str) (ys : List Str), t.ks[i]? = some (x, ys) → ∃ a, mg x = some (.ref a) ∧ KStrs K a ys
  gl : ∀ (i : Nat) (d : He.DefD), t.fn[i]? = some d → mg d.at_.1 = some (.ref (He.ga K d.at_.1))
  df : ∀ (i : Nat) (d : He.DefD), t.fn[i]? = some d → ∃ fd, FunD K d.name d.qual d.params d.body d.scope (d.dvs K) (d.kws K) (He.fAd K d.at_) fd
  cl : ∀ (i : Nat) (x : Str), t.cl[i]? = some x → mg x = some (.ref (He.ga K x)) ∧ (He.Fa.exc x).ok K = true
theorem all_at {α : Type} {f : α → Bool} {l : List α} (h : l.all f = true) {i : Nat} {x : α} (e : l[i]? = some x) : f x = true := List.all_eq_true.mp h x (List.mem_of_getElem? e)
theorem Txt.of {t : Top} {K : PySem.W.Frag} {h : Heap} {mg : Str → Option Value} (X : K.In h) (G : h.Ns mainGlobals mg) (c : t.ex K = true) (s : He.SaysD [] t.fn K) : Txt t K mg := by
  unfold Top.ex at c
  simp only [Bool.and_eq_true] at c
  obtain ⟨c1, c2, c3, c4, c5⟩ := c
  refine ⟨fun i x e => He.free_ok X G (all_at c1 e), fun i x d e => conB_ok X G (all_at c2 e), fun i x ys e => kstB_ok X G (all_at c3 e), fun i d e => He.glo_ok X G (all_at c4 e), fun i d e => s.def_ i e, fun i x e => ?_⟩
  have := all_at c5 e
  simp only [Bool.and_eq_true] at this
  exact ⟨He.glo_ok X G this.1, this.2⟩

def hookM (n : Nat) (t : Top) : PySem.W.Hook where
  α := He.AlD × Bool
  obs := fun s => (He.obsDG n [] t.fn s.heap.get?, t.ex (He.frG s.heap.get? (He.asD s.heap.get? n)))
  val := fun _ => (He.valD t.fn, true)
  says := fun _ h => ∃ K : PySem.W.Frag, K.In h ∧ He.SaysD [] t.fn K ∧ t.ex K = true
  of := fun _ _ e => ⟨_, He.frG_in, congrArg Prod.fst e, congrArg Prod.snd e⟩
  keeps := fun _ _ _ ⟨K, hK, c⟩ k => ⟨K, PySem.W.Frag.In.keeps hK k, c⟩
def obM (n : Nat) (t : Top) (s : PySem.W.SharedT) : He.AlD × Bool := (He.obsDG n [] t.fn (HandSHeadRun.getT s), t.ex (He.frG (HandSHeadRun.getT s) (He.asD (HandSHeadRun.getT s) n)))
theorem obM_eq (n : Nat) (t : Top) (s : PySem.W.SharedT) : obM n t s = (hookM n t).obs s.abs := by
  have e : HandSHeadRun.getT s = s.abs.heap.get? := funext (HandSHeadRun.getT_eq s)
  unfold obM hookM
  rw [e]

/-! ### a def that may be called -/
def Cal (P : Program) (w : World) (K : PySem.W.Frag) (mg : Str → Option Value) (base : Heap) (x : Str) (k : Nat) (ps : List Str) (dd : List D) (F : DF) : Prop :=
  ∃ (f : Addr) (fd : FuncData) (ds : List Value) (dvs : List V), mg x = some (.ref f) ∧ PySem.W.keepIn K (.ref f) = true ∧ Binds K fd ps ds ∧ Vals dvs ds ∧ (∀ w, Rps K w dd dvs) ∧ Dok P w K mg base k f fd ps F
theorem Cal.mono {P : Program} {w : World} {K : PySem.W.Frag} {mg : Str → Option Value} {base : Heap} {x : Str} {j k : Nat} {ps : List Str} {dd : List D} {F : DF} (h : Cal P w K mg base x j ps dd F) (hk : j ≤ k) : Cal P w K mg base x k ps dd F :=
  let ⟨f, fd, ds, dvs, h1, h2, h3, h4, h5, h6⟩ := h; ⟨f, fd, ds, dvs, h1, h2, h3, h4, h5, h6.mono hk⟩
section
variable {P : Program} {w : World} {K : PySem.W.Frag} {mg : Str → Option Value} {base : Heap} {x : Str} {k n : Nat} {ps N : List Str} {dd : List D} {F : DF} {b : SF} {t : Top}
/-- a def without defaults -/
theorem cal_of (T : Txt t K mg) (i : Nat) {d : He.DefD} (hd : t.fn[i]? = some d) (h0 : d.at_ = (x, none)) (hdf : d.dfl = []) (hkw : d.kwd = []) (Sc : FnScope N ps d.scope) (hn : ps.length ≤ N.length)
    (hb : ∀ (kV doc pm : Value) (an : Option Addr) (cdv ct : Value) (us : List Value), us.length = ps.length → bindArgs (PySem.W.fnOf d.name d.qual d.params d.body d.scope .none kV doc pm an cdv ct) ⟨us, []⟩ = pure (ps.zip us))
    (hbody : ∀ (f : Addr) (cdv : Value) (A : Around) (outer : List PySem.Env) (s : Shared) (H : Hp) (E : XK), Room k (A.deeper (envOfC d.qual d.scope s.heap.objs.size f cdv)) →
      Ss (cxOf (L2.CX P w) P w K mg base N d.qual d.scope f cdv A outer s H E) (fun cls d _ H => E cls d H) d.body b) : Cal P w K mg base x (k + 1) ps [] (fnD ps.length N.length b) := by
  obtain ⟨fd, Fu⟩ := T.df i d hd
  have e1 : d.dvs K = [] := by unfold He.DefD.dvs; rw [hdf]; rfl
  have e2 : d.kws K = [] := by unfold He.DefD.kws; rw [hkw]; rfl
  have hf : He.fAd K d.at_ = He.ga K d.at_.1 := by rw [h0]; rfl
  rw [e1, e2] at Fu
  have hm := T.gl i d hd
  rw [← hf] at hm
  refine ⟨_, fd, [], [], by rw [h0] at hm ⊢; exact hm, Fu.kp, Fu.bindsN hb, .nil, fun w => Rps.nil, fn_body Fu Sc hn fun cdv A outer s H E hr => hbody _ cdv A outer s H E hr⟩
theorem cal_zero (T : Txt t K mg) (i : Nat) {d : He.DefD} (hd : t.fn[i]? = some d) (h0 : d.at_ = (x, none)) (hdf : d.dfl = []) (hkw : d.kwd = []) (Sc : FnScope N ps d.scope) (hn : ps.length ≤ N.length)
    (hb : ∀ (kV doc pm : Value) (an : Option Addr) (cdv ct : Value) (us : List Value), us.length = ps.length → bindArgs (PySem.W.fnOf d.name d.qual d.params d.body d.scope .none kV doc pm an cdv ct) ⟨us, []⟩ = pure (ps.zip us)) : Cal P w K mg base x (k + 1) ps [] (fun _ _ => .stuck) := by
  obtain ⟨fd, Fu⟩ := T.df i d hd
  have e1 : d.dvs K = [] := by unfold He.DefD.dvs; rw [hdf]; rfl
  have e2 : d.kws K = [] := by unfold He.DefD.kws; rw [hkw]; rfl
  have hf : He.fAd K d.at_ = He.ga K d.at_.1 := by rw [h0]; rfl
  rw [e1, e2] at Fu
  have hm := T.gl i d hd
  rw [← hf] at hm
  exact ⟨_, fd, [], [], by rw [h0] at hm ⊢; exact hm, Fu.kp, Fu.bindsN hb, .nil, fun w => Rps.nil, Dok.zero Fu Sc⟩
theorem Cal.trunc (h : Cal P w K mg base x k ps dd F) : Cal P w K mg base x k ps dd (fnT F) :=
  let ⟨f, fd, ds, dvs, h1, h2, h3, h4, h5, h6⟩ := h; ⟨f, fd, ds, dvs, h1, h2, h3, h4, h5, h6.trunc⟩
theorem Cal.eq {G : DF} (h : Cal P w K mg base x k ps dd F) (e : F = G) : Cal P w K mg base x k ps dd G := e ▸ h
end
section
variable {X : Cx} {W : WX} {e : Expr} {es : List Expr} {fa : AF} {pos p : Pos} {x : Str} {k : Nat} {ps : List Str} {dd : List D} {F : DF} {t : Top}
theorem ec (C : Cal X.prog X.w X.K X.mg X.base x k ps dd F) (hr : Room k X.A) (tk : Takes X W) (ha : As X W (e :: es) fa) (hg : Gl X x := by rfl) (hdb : (x == ("__debug__" : Str)) = false := by decide)
    (he : starEach (e :: es) X.env = (false, eval e X.env) :: starEach es X.env := by rfl) (hpl : (backTo pos (starEach es X.env)).any (·.1) = false := by rfl) :
    E X W (.Call (.Name x p) (e :: es) [] pos) (dA fa (callD ps.length F dd)) := by
  obtain ⟨f, fd, ds, dvs, h1, h2, h3, h4, h5, h6⟩ := C
  exact e_call h6 hr hg h1 h2 h3 h4 h5 tk ha hdb he hpl
theorem ec0 (C : Cal X.prog X.w X.K X.mg X.base x k ps dd F) (hr : Room k X.A) (hg : Gl X x := by rfl) (hdb : (x == ("__debug__" : Str)) = false := by decide) :
    E X W (.Call (.Name x p) [] [] pos) (fun env c => (callD ps.length F dd [] c).noe) := by
  obtain ⟨f, fd, ds, dvs, h1, h2, h3, h4, h5, h6⟩ := C
  exact e_call0 h6 hr hg h1 h2 h3 h4 h5 passL hdb
/-- a local name -/
theorem ev (i : Nat) (hN : X.N[i]? = some x := by rfl) (hv : Vis X.env.scope x := by first | exact Or.inl rfl | exact Or.inr (Or.inl rfl) | exact Or.inr (Or.inr rfl)) (hd : (x == ("__debug__" : Str)) = false := by decide) (hcd : (x == ("__classdict__" : Str)) = false := by decide) : E X W (.Name x pos) (dVar i) := e_var hN hv hd hcd
/-- a module's constant -/
theorem eg (T : Txt t X.K X.mg) (i : Nat) {d : D} (he : t.cs[i]? = some (x, d) := by rfl) (hg : Gl X x := by rfl) (hdb : (x == ("__debug__" : Str)) = false := by decide) : E X W (.Name x pos) (dC d) := by
  obtain ⟨u, v, h1, h2, h3⟩ := T.cs i x d he
  exact e_glob hg h1 h2 h3 hdb
end
/-- the law's own promise -/
theorem law_ok {P : Program} {w : World} {K : PySem.W.Frag} {mg : Str → Option Value} {base : Heap} {f : Addr} {fd : FuncData} {ps : List Str} {k : Nat} {F : DF} (h : Dok P w K mg base k f fd ps F) : FnOk P w K mg base CX0 k f fd ps (fun vs H Q _ => rdF K mg ps.length F vs H Q E0) :=
  ⟨fun vs H Q E q => h.len _ _ _ _ q, fun A outer s H args us vs Q E hr e0 hb hv hs => codeAny_mono (h.run A outer s H args us vs Q E0 hr e0 hb hv hs) fun r s' hq => by
    cases r with
    | error e =>
      obtain ⟨_, _, _, _, _, _, _, _, _, _, _, _, z⟩ := hq
      exact z.elim
    | ok fl => cases fl <;> exact hq⟩
theorem law_sp {K : PySem.W.Frag} {mg : Str → Option Value} {F : DF} {H : Hp} {a : Addr} {ns : List Int} (hO : Only H) (hS : SqL K H a (ns.map V.int)) (hF : ∃ c, F [.scr (ns.map D.int)] [] = .ok (.bl true, c)) : rdF K mg 1 F [.ref a] H (fun v _ => v = .bl true) E0 := by
  obtain ⟨c, hF⟩ := hF
  refine ⟨rfl, ⟨[], []⟩, [], [.scr (ns.map D.int)], ⟨rfl, .nil, fun n a k h1 _ => ?_, fun a ha => by cases ha⟩, ?_, ?_⟩
  · simp at h1
  · refine Rps.cons ?_ Rps.nil
    simp only [Rp]
    refine ⟨a, _, rfl, ?_, rps_ints ns⟩
    rcases hS with (h | h) | h
    · rcases hO a with z | ⟨o, xs, z⟩
      · rw [z] at h; cases h
      · rw [z] at h; cases h
    · exact .inl h
    · exact .inr h
  · rw [hF]
    intro b m' H' _ _ r
    exact rp_bl.mp r
end Mi
namespace Mi
open PySem PySem.Spec PyProof.Rows L2 RZ
section
variable {X : Cx} {W : WX} {a b e : Expr} {es : List Expr} {f g : EF} {fa : AF} {pos p p2 pos2 : Pos} {σ : L2.St} {H : Hp}
def rgOk (i j : Int) : Bool := inR i && inR j && decide ((j - i).toNat ≤ lim)
theorem rgOk_ok {i j : Int} (h : rgOk i j = true) : RgOk i j := by
  unfold rgOk inR at h
  simp only [Bool.and_eq_true, decide_eq_true_eq] at h
  obtain ⟨⟨⟨h1, h2⟩, h3, h4⟩, h5⟩ := h
  unfold lim at h5
  exact ⟨h1, h2, h3, h4, by omega⟩
theorem rps_rng {K : PySem.W.Frag} {w : Wd} (i j : Int) : Rps K w (rngD i (j - i).toNat) (rgV i j) := by
  unfold rngD rgV
  have : ∀ l : List Nat, Rps K w (l.map fun n => D.int (i + (n : Nat))) (l.map fun n => V.int (i + (n : Nat))) := by
    intro l
    induction l with
    | nil => exact Rps.nil
    | cons x l ih => exact Rps.cons (rp_int.mpr rfl) ih
  exact this _
def lrg1D (d : D) (c : Cs) : R (D × Cs) := match d with
  | .int n => if rgOk 0 n then .ok (.lst (rngD 0 n.toNat), c) else .stuck
  | _ => .stuck
theorem e_lrg1 (hc : X.calm = true) (hg : Gl X "list") (hm : X.mg "list" = none) (hg2 : Gl X "range") (hm2 : X.mg "range" = none) (ha : E X W a f) (na : starEach [a] X.env = (false, eval a X.env) :: starEach [] X.env := by rfl) (na2 : starEach [.Call (.Name "range" p2) [a] [] pos2] X.env = (false, eval (.Call (.Name "range" p2) [a] [] pos2) X.env) :: starEach [] X.env := by rfl) :
    E X W (.Call (.Name "list" p) [.Call (.Name "range" p2) [a] [] pos2] [] pos) (d1 f lrg1D) := by
  refine PE.imp (pe_listRg hc hg hm (prg_1 hg2 hm2 ha na) na2) fun σ H Q ⟨m, c, env, hr, ev, hp⟩ => ?_
  refine ⟨m, c, env, hr, ev, (Po.bind (Rel := Rp X.K) hp).imp fun x H1 ⟨m1, d, c1, l1, h1, r1, p1⟩ => ?_⟩
  simp only at p1
  unfold lrg1D at p1
  split at p1
  · rename_i n
    split at p1
    · rename_i hk
      rw [rp_int] at r1; subst r1
      have q := rps_rng (K := X.K) (w := ⟨m1, c1, H1⟩) 0 n
      rw [Int.sub_zero] at q
      exact ⟨n, rfl, rgOk_ok hk, fun p hn => po_newLst (w := ⟨m1, c1, H1⟩) h1 q p1 p hn⟩
    · exact p1.elim
  · exact p1.elim
def lrg2D (d e : D) (c : Cs) : R (D × Cs) := match d, e with
  | .int i, .int j => if rgOk i j then .ok (.lst (rngD i (j - i).toNat), c) else .stuck
  | _, _ => .stuck
theorem e_lrg2 (hc : X.calm = true) (hg : Gl X "list") (hm : X.mg "list" = none) (hg2 : Gl X "range") (hm2 : X.mg "range" = none) (ha : E X W a f) (hb : E X W b g) (na : starEach [a, b] X.env = (false, eval a X.env) :: starEach [b] X.env := by rfl) (nb : (backTo pos2 (starEach [b] X.env)).any (·.1) = false := by rfl) (nb2 : starEach [b] X.env = (false, eval b X.env) :: starEach [] X.env := by rfl) (na2 : starEach [.Call (.Name "range" p2) [a, b] [] pos2] X.env = (false, eval (.Call (.Name "range" p2) [a, b] [] pos2) X.env) :: starEach [] X.env := by rfl) :
    E X W (.Call (.Name "list" p) [.Call (.Name "range" p2) [a, b] [] pos2] [] pos) (d2 f g lrg2D) := by
  refine PE.imp (pe_listRg hc hg hm (prg_2 hg2 hm2 ha hb na nb2 nb) na2) fun σ H Q ⟨m, c, env, hr, ev, hp⟩ => ?_
  refine ⟨m, c, env, hr, ev, (Po.bind (Rel := Rp X.K) hp).imp fun x H1 ⟨m1, d, c1, l1, h1, r1, p1⟩ => ?_⟩
  refine ⟨m1, c1, env, h1, ev.mono l1.toLat0, (Po.bind (Rel := Rp X.K) p1).imp fun y H2 ⟨m2, d2, c2, l2, h2, r2, p2⟩ => ?_⟩
  have r1 := Rp.mono l2.toLat0 _ _ r1
  simp only at p2
  unfold lrg2D at p2
  split at p2
  · rename_i i j
    split at p2
    · rename_i hk
      rw [rp_int] at r1 r2; subst r1; subst r2
      exact ⟨_, _, rfl, rfl, rgOk_ok hk, fun p hn => po_newLst (w := ⟨m2, c2, H2⟩) h2 (rps_rng _ _) p2 p hn⟩
    · exact p2.elim
  · exact p2.elim
/-- a + b of lists, into a cell of its own -/
def addC (a b : D) (c : Cs) : R (D × Cs) := match getM c a, getM c b with
  | some xs, some ys => if xs.length + ys.length ≤ lim then .ok (.ref c.length, c ++ [.lst (xs ++ ys)]) else .stuck
  | _, _ => .stuck
theorem e_addC (ha : E X W a f) (hb : E X W b g) : E X W (.BinOp a .Add b pos) (d2 f g addC) := by
  refine e_2 op_cat (fun w σ x y u v Q hw rx ry hp => ?_) ha hb
  unfold addC at hp
  split at hp
  · rename_i xs ys ex ey
    split at hp
    · rename_i hl
      obtain ⟨p, vs, rfl, hs, rs⟩ := getM_ok hw ex rx
      obtain ⟨q, us, rfl, ht, rt⟩ := getM_ok hw ey ry
      refine ⟨p, q, vs, us, rfl, rfl, hs, ht, by rw [← rs.length, ← rt.length, lim_eq]; exact hl, fun p hn => ?_⟩
      have l := Later.cell (o := .lst (vs ++ us)) (k := .lst (xs ++ ys)) hw hn
      refine hp.ok' (w' := ⟨⟨w.m.l ++ [p], w.m.x⟩, w.c ++ [.lst (xs ++ ys)], upd w.H p (.lst (vs ++ us))⟩) l (hw.cell hn (k := .lst (xs ++ ys)) (show CellOk _ _ _ (.lst (xs ++ ys)) from ⟨_, upd_same, Rps.mono l.toLat0 _ _ (rs.append rt)⟩)) ?_
      simp only [Rp]
      exact ⟨p, rfl, by rw [← hw.len, List.getElem?_append_right (Nat.le_refl _)]; simp⟩
    · exact hp.elim
  · exact hp.elim
end
end Mi
namespace Mi
open PySem PySem.Spec PyProof.Rows L2
/-- BlkOk by computing -/
def kindB : NameKind → Nat
  | .local => 1
  | .cell => 2
  | .free => 3
  | _ => 4
theorem kindB_l {k : NameKind} : kindB k = 1 ↔ k = .local := by cases k <;> simp [kindB]
theorem kindB_c {k : NameKind} : kindB k = 2 ↔ k = .cell := by cases k <;> simp [kindB]
theorem kindB_f {k : NameKind} : kindB k = 3 ↔ k = .free := by cases k <;> simp [kindB]
def lkB (l : List (Str × NameKind)) (x : Str) : Nat := match l.lookup x with
  | some k => kindB k
  | none => 0
def blkB (N : List Str) (sc ns : List (Str × NameKind)) (own : List (Str × Nat)) : Bool :=
  (ns.all fun y => decide (lkB ns y.1 = kindB y.2)) && ((own.all fun p => decide (N[p.2]? = some p.1)) && ((ns.all fun y => !(kindB y.2 == 3) || (lkB sc y.1 == 2 || lkB sc y.1 == 3)) && (ns.all fun y => !(kindB y.2 == 1 || kindB y.2 == 2) || ((own.map (·.1)).contains y.1 || !N.contains y.1))))
theorem kindB_inj {a b : NameKind} (h : kindB a = kindB b) (ha : kindB a = 1 ∨ kindB a = 2 ∨ kindB a = 3) : a = b := by
  cases a <;> cases b <;> simp [kindB] at h ha ⊢
theorem lk_2 {l : List (Str × NameKind)} {x : Str} (h : lkB l x = 2) : l.lookup x = some .cell := by
  unfold lkB at h
  split at h
  · rename_i k e; rw [e, kindB_c.mp h]
  · cases h
theorem lk_3 {l : List (Str × NameKind)} {x : Str} (h : lkB l x = 3) : l.lookup x = some .free := by
  unfold lkB at h
  split at h
  · rename_i k e; rw [e, kindB_f.mp h]
  · cases h
theorem uniq_of {ns : List (Str × NameKind)} (h : (ns.map (·.1)).Nodup) : ∀ y ∈ ns, ns.lookup y.1 = some y.2 := by
  induction ns with
  | nil => intro y hy; cases hy
  | cons a l ih =>
    intro y hy
    rw [List.map_cons, List.nodup_cons] at h
    rcases List.mem_cons.mp hy with rfl | hy
    · simp [List.lookup]
    · have : y.1 ≠ a.1 := fun e => h.1 (e ▸ List.mem_map_of_mem hy)
      unfold List.lookup
      have e : (y.1 == a.1) = false := by simpa using this
      rw [e]
      exact ih h.2 y hy
def ndB : List Str → Bool
  | [] => true
  | x :: xs => !xs.contains x && ndB xs
theorem ndB_ok : ∀ {l : List Str}, ndB l = true → l.Nodup
  | [], _ => List.nodup_nil
  | x :: xs, h => by
    unfold ndB at h
    rw [Bool.and_eq_true] at h
    rw [List.nodup_cons]
    exact ⟨by simpa using h.1, ndB_ok h.2⟩
theorem blk_ok {N : List Str} {sc scope : Scope} {own : List (Str × Nat)} (hk : scope.kind = .function) (h : (ndB (scope.names.map (·.1)) && blkB N sc.names scope.names own) = true) : BlkOk N sc scope own := by
  unfold blkB at h
  simp only [Bool.and_eq_true, List.all_eq_true, decide_eq_true_eq, Bool.or_eq_true, Bool.not_eq_true', beq_iff_eq, List.contains_iff_mem, beq_eq_false_iff_ne, ne_eq] at h
  obtain ⟨h0, h1, h2, h3, h4⟩ := h
  refine ⟨hk, uniq_of (ndB_ok h0), h2, fun y hy e => ?_, fun y hy e => ?_⟩
  · rcases h3 y hy with z | z | z
    · exact absurd (kindB_f.mpr e) z
    · exact .inl (lk_2 z)
    · exact .inr (lk_3 z)
  · rcases h4 y hy with z | z | z
    · have z := Bool.or_eq_false_iff.mp z
      rcases e with e | e
      · rw [e] at z; simp [kindB] at z
      · rw [e] at z; simp [kindB] at z
    · exact .inl z
    · right
      intro hm
      have : N.contains y.1 = true := List.contains_iff_mem.mpr hm
      rw [this] at z; cases z

section
variable {X : Cx} {W : WX} {elt tg iter : Expr} {ifs : List Expr} {scope : Scope} {own : List (Str × Nat)} {pos spos py : Pos} {y : Str} {fi : IF} {g : GF} {ft : TF} {fe : EF}
theorem lc_imp {σ : L2.St} {H : Hp} {Q : VK} (hq : rdE X.K X.mg W (dLc (own.map (·.2)) fi g ft fe) σ H Q) :
    tLc (rdI X.K X.mg W fi) (rdG X.K (List.map (fun p : Str × Nat => p.2) own) g) (rdT X.K X.mg W0 ft) (rdE X.K X.mg W0 fe) (own.map (·.2)) σ H Q := by
  refine lc_rd (res := fun q => .ok (.lst q.1, q.2)) (fun q m0 c0 H0 p l H' us h0 hp hn hpp pre la hw hx hus => ?_) (own.map (·.2)) hq
  have ll : Lat0 ⟨⟨l, p :: m0.x⟩, q.2, H'⟩ ⟨⟨l, m0.x⟩, q.2, H'⟩ := Lat0.leave (w := ⟨⟨l, p :: m0.x⟩, q.2, H'⟩) fun a h => List.mem_cons_of_mem _ h
  have hw' : Hrel X.K ⟨⟨l, m0.x⟩, q.2, H'⟩ := Hrel.leave (w := ⟨⟨l, p :: m0.x⟩, q.2, H'⟩) hw fun a h => List.mem_cons_of_mem _ h
  refine hp.ok' (w' := ⟨⟨l, m0.x⟩, q.2, H'⟩) ⟨la.trans ll, rfl, hx⟩ hw' ?_
  simp only [Rp]
  refine ⟨p, us, rfl, hpp, ?_, Rps.mono ll _ _ hus⟩
  rintro (⟨i, k, h1, _, _⟩ | h)
  · exact (hw.ex p List.mem_cons_self).1 (List.mem_of_getElem? h1)
  · obtain ⟨_, vs, e⟩ := h0.ex p h
    have e : H0 p = _ := e
    rw [hn] at e; cases e
theorem lcC_imp {σ : L2.St} {H : Hp} {Q : VK} (hq : rdE X.K X.mg W (dLcC (own.map (·.2)) fi g ft fe) σ H Q) :
    tLc (rdI X.K X.mg W fi) (rdG X.K (List.map (fun p : Str × Nat => p.2) own) g) (rdT X.K X.mg W0 ft) (rdE X.K X.mg W0 fe) (own.map (·.2)) σ H Q := by
  refine lc_rd (res := fun q => .ok (.ref q.2.length, q.2 ++ [.lst q.1])) (fun q m0 c0 H0 p l H' us h0 hp hn hpp pre la hw hx hus => ?_) (own.map (·.2)) hq
  have hxp : ∀ a ∈ m0.x, a ≠ p := fun a ha z => by
    obtain ⟨_, vs, e⟩ := h0.ex a ha
    have e : H0 a = _ := e
    rw [z, hn] at e; cases e
  obtain ⟨lb, hb⟩ := Hrel.become hw hxp hpp hus
  refine hp.ok' (w' := ⟨⟨l ++ [p], m0.x⟩, q.2 ++ [.lst q.1], H'⟩) ⟨la.trans lb, rfl, hx⟩ hb ?_
  simp only [Rp]
  have hl : l.length = q.2.length := hw.len
  exact ⟨p, rfl, by rw [← hl, List.getElem?_append_right (Nat.le_refl _)]; simp⟩
theorem asgLc {f : EF} {t : TE} {i : Nat} (him : ∀ {σ : L2.St} {H : Hp} {Q : VK}, rdE X.K X.mg W f σ H Q → t σ H Q) {m : Am} {c : Cs} {env : Env} {DE : Ends} {σ : L2.St} {H : Hp} (hr : Hrel X.K ⟨m, c, H⟩) (ev : Ev X.K ⟨m, c, H⟩ env σ) (h : PoS X.K X.mg W ⟨m, c, H⟩ σ (sAsg f (gN i) env c) DE) :
    tAsg t (gName i) DE σ H := him (by
  have q := asg_of (own := [i]) hr ev h
  obtain ⟨m1, c1, env1, h1, ev1, p⟩ := (q : rdE X.K X.mg W f σ H fun x H1 => rdG X.K [i] (gN i) x σ H1 DE.nx)
  refine ⟨m1, c1, env1, h1, ev1, p.imp fun v H1 ⟨m, c, env, d, hr, ev, r, h⟩ => ?_⟩
  exact h _ m H1 (Later.refl _) hr (ev.set r i) (wipe_set List.mem_cons_self))
/-- x = [..] on one line, x a local name -/
theorem s_lc {i : Nat} (hc : X.calm = true) (hN : X.N.Nodup) (hy : X.N[i]? = some y) (hyl : X.env.scope.names.lookup y = some .local) (hi : Ij X W tg iter fi) (ok : BlkOk X.N X.env.scope scope own)
    (hg : ∀ (s : Shared) (H : Hp) (C : Addr) (cl : List (Str × Addr)) (fp : List Addr), Gt (X.blk s H scope (compEnvC scope cl C X.env) fp) (own.map (·.2)) tg g)
    (ht : ∀ (s : Shared) (H : Hp) (C : Addr) (cl : List (Str × Addr)) (fp : List Addr), Tes (X.blk s H scope (compEnvC scope cl C X.env) fp) W0 ifs ft)
    (he : ∀ (s : Shared) (H : Hp) (C : Addr) (cl : List (Str × Addr)) (fp : List Addr), E (X.blk s H scope (compEnvC scope cl C X.env) fp) W0 elt fe) (hs : ∀ x, foldedSetIterable iter X.env x = pure x := by intro _; rfl)
    (hsw : swapsWith (.ListComp elt [⟨tg, iter, ifs, 0⟩] scope pos) (some (.Name y py)) spos.line X.env = pure true := by rfl) :
    S X W (.Assign [.Name y py] (.ListComp elt [⟨tg, iter, ifs, 0⟩] scope pos) spos) (sAsg (dLc (own.map (·.2)) fi g ft fe) (gN i)) :=
  S.of (ps_setLc (wi := rdI X.K X.mg W fi) (g := rdG X.K (List.map (fun p : Str × Nat => p.2) own) g) (tt := rdT X.K X.mg W0 ft) (te := rdE X.K X.mg W0 fe) hc hN hy hyl hsw hi ok hg ht he hs) fun m c env DE σ H hr ev h => asgLc lc_imp hr ev h
theorem s_lcC {i : Nat} (hc : X.calm = true) (hN : X.N.Nodup) (hy : X.N[i]? = some y) (hyl : X.env.scope.names.lookup y = some .local) (hi : Ij X W tg iter fi) (ok : BlkOk X.N X.env.scope scope own)
    (hg : ∀ (s : Shared) (H : Hp) (C : Addr) (cl : List (Str × Addr)) (fp : List Addr), Gt (X.blk s H scope (compEnvC scope cl C X.env) fp) (own.map (·.2)) tg g)
    (ht : ∀ (s : Shared) (H : Hp) (C : Addr) (cl : List (Str × Addr)) (fp : List Addr), Tes (X.blk s H scope (compEnvC scope cl C X.env) fp) W0 ifs ft)
    (he : ∀ (s : Shared) (H : Hp) (C : Addr) (cl : List (Str × Addr)) (fp : List Addr), E (X.blk s H scope (compEnvC scope cl C X.env) fp) W0 elt fe) (hs : ∀ x, foldedSetIterable iter X.env x = pure x := by intro _; rfl)
    (hsw : swapsWith (.ListComp elt [⟨tg, iter, ifs, 0⟩] scope pos) (some (.Name y py)) spos.line X.env = pure true := by rfl) :
    S X W (.Assign [.Name y py] (.ListComp elt [⟨tg, iter, ifs, 0⟩] scope pos) spos) (sAsg (dLcC (own.map (·.2)) fi g ft fe) (gN i)) :=
  S.of (ps_setLc (wi := rdI X.K X.mg W fi) (g := rdG X.K (List.map (fun p : Str × Nat => p.2) own) g) (tt := rdT X.K X.mg W0 ft) (te := rdE X.K X.mg W0 fe) hc hN hy hyl hsw hi ok hg ht he hs) fun m c env DE σ H hr ev h => asgLc lcC_imp hr ev h
/-- a built-in class by its name -/
theorem e_ty {x : Str} {t : String} (hm : X.mg x = none) (hg : Gl X x := by rfl) (hv : bootBuiltins x = some (.type t) := by decide +kernel) (hn : x ≠ "__name__" := by decide) (hd : (x == ("__debug__" : Str)) = false := by decide) : E X W (.Name x pos) (dC (.raw (.ty t))) := e_bltn hg hm hv rfl hn hd
/-- a constant tuple's index -/
theorem ekx {t : Top} {x : Str} {ys : List Str} {e : Expr} {fa : AF} {p apos pos : Pos} (T : Txt t X.K X.mg) (i : Nat) (ha : As X W [e] fa) (he : t.ks[i]? = some (x, ys) := by rfl) (hg : Gl X x := by rfl) (hdb : (x == ("__debug__" : Str)) = false := by decide)
    (hbase : attributeBase (.Name x p) "index" X.env (eval (.Name x p) X.env) = eval (.Name x p) X.env := by rfl) (hfew : ((backTo pos (starEach [e] X.env)).all (fun x => !x.1) && (backToKw pos (keywordEach [] X.env)).all (fun x => x.1.isSome) && decide ([e].length + ([] : List Keyword).length + (if ([] : List Keyword).isEmpty then 0 else 1) < 30)) = true := by rfl) (hse : starEach [e] X.env = (false, eval e X.env) :: starEach [] X.env := by rfl) (hline : (apos.endLine == pos.line) = true := by rfl) :
    E X W (.Call (.Attribute (.Name x p) "index" apos) [e] [] pos) (dA fa (kidx ys)) := by
  obtain ⟨a, h1, h2⟩ := T.ks i x ys he
  exact e_kindex hg h1 h2 ha hdb hbase hfew hse hline
end
theorem ecn {X : Cx} {W : WX} {e : Expr} {es : List Expr} {fa : AF} {pos p : Pos} {x : Str} {k n : Nat} {ps : List Str} {dd : List D} {F : DF} (C : Cal X.prog X.w X.K X.mg X.base x k ps dd F) (hr : Room k X.A) (tk : Takes X W) (ha : As X W (e :: es) fa) (hn : ps.length = n := by rfl) (hg : Gl X x := by rfl) (hdb : (x == ("__debug__" : Str)) = false := by decide)
    (he : starEach (e :: es) X.env = (false, eval e X.env) :: starEach es X.env := by rfl) (hpl : (backTo pos (starEach es X.env)).any (·.1) = false := by rfl) :
    E X W (.Call (.Name x p) (e :: es) [] pos) (dA fa (callD n F dd)) := by
  subst hn
  exact ec C hr tk ha hg hdb he hpl
end Mi
namespace Mi
open PySem

/-! ### reckoning with what a def computes: what is done next stands aside, unread, until its turn comes -/
variable {f g : EF} {fa ga : AF} {t u : TF} {p q b : SF} {fi : IF} {env : Env} {c : Cs} {d e : D} {ds : List D} {h1 : D → Cs → R (D × Cs)} {h2 : D → D → Cs → R (D × Cs)} {hA : List D → Cs → R (D × Cs)} {gt : GF}
theorem v0 : dVar 0 (some d :: env) c = .ok (d, c) := rfl
theorem vS {i : Nat} {x : Option D} : dVar (i + 1) (x :: env) c = dVar i env c := rfl
theorem vC : dC d env c = .ok (d, c) := rfl
def k1 (h : D → Cs → R (D × Cs)) (r : R (D × Cs)) : R (D × Cs) := r.bind fun p => h p.1 p.2
theorem v1 : d1 f h1 env c = k1 h1 (f env c) := rfl
theorem v1' : k1 h1 (.ok (d, c)) = h1 d c := rfl
def k2 (g : EF) (h : D → D → Cs → R (D × Cs)) (env : Env) (r : R (D × Cs)) : R (D × Cs) := r.bind fun p => (g env p.2).bind fun q => h p.1 q.1 q.2
def l2 (h : D → D → Cs → R (D × Cs)) (d : D) (r : R (D × Cs)) : R (D × Cs) := r.bind fun q => h d q.1 q.2
theorem v2 : d2 f g h2 env c = k2 g h2 env (f env c) := rfl
theorem v2' : k2 g h2 env (.ok (d, c)) = l2 h2 d (g env c) := rfl
theorem v2'' : l2 h2 d (.ok (e, c)) = h2 d e c := rfl
theorem vN : dNil env c = .ok ([], c) := rfl
def kc (g : AF) (env : Env) (r : R (D × Cs)) : R (List D × Cs) := r.bind fun p => (g env p.2).bind fun q => .ok (p.1 :: q.1, q.2)
def lc (d : D) (r : R (List D × Cs)) : R (List D × Cs) := r.bind fun q => .ok (d :: q.1, q.2)
theorem vc : dCons f fa env c = kc fa env (f env c) := rfl
theorem vc' : kc fa env (.ok (d, c)) = lc d (fa env c) := rfl
theorem vc'' : lc d (.ok (ds, c)) = .ok (d :: ds, c) := rfl
def kA (h : List D → Cs → R (D × Cs)) (r : R (List D × Cs)) : R (D × Cs) := r.bind fun p => h p.1 p.2
theorem vA : dA fa hA env c = kA hA (fa env c) := rfl
theorem vA' : kA hA (.ok (ds, c)) = hA ds c := rfl
def kTb (r : R (D × Cs)) : R (Bool × Cs) := r.bind truB
theorem vTb : dTb f env c = kTb (f env c) := rfl
theorem vTb' {x : Bool} : kTb (.ok (.bl x, c)) = .ok (x, c) := rfl
def kTt (r : R (D × Cs)) : R (Bool × Cs) := r.bind fun p => match truD p.2 p.1 with
  | some b => .ok (b, p.2)
  | none => .stuck
theorem vTt : dTt f env c = kTt (f env c) := rfl
theorem vTt' {x : Bool} : kTt (.ok (.bl x, c)) = .ok (x, c) := rfl
theorem vTtN : kTt (.ok (.non, c)) = .ok (false, c) := rfl
theorem vTtT : kTt (.ok (.tup ds, c)) = .ok (!ds.isEmpty, c) := rfl
theorem vTtL : kTt (.ok (.lst ds, c)) = .ok (!ds.isEmpty, c) := rfl
theorem vTtI {i : Int} : kTt (.ok (.int i, c)) = .ok (i != 0, c) := rfl
def kAnd (u : TF) (env : Env) (r : R (Bool × Cs)) : R (Bool × Cs) := r.bind fun p => if p.1 = true then u env p.2 else .ok (false, p.2)
theorem vAnd : dAnd t u env c = kAnd u env (t env c) := rfl
theorem vAndT : kAnd u env (.ok (true, c)) = u env c := rfl
theorem vAndF : kAnd u env (.ok (false, c)) = .ok (false, c) := rfl
def kOr (u : TF) (env : Env) (r : R (Bool × Cs)) : R (Bool × Cs) := r.bind fun p => if p.1 = true then .ok (true, p.2) else u env p.2
theorem vOr : dOr t u env c = kOr u env (t env c) := rfl
theorem vOrT : kOr u env (.ok (true, c)) = .ok (true, c) := rfl
theorem vOrF : kOr u env (.ok (false, c)) = u env c := rfl
def kNot (r : R (Bool × Cs)) : R (Bool × Cs) := r.bind fun p => .ok (!p.1, p.2)
theorem vNot : dNot t env c = kNot (t env c) := rfl
theorem vNot' {x : Bool} : kNot (.ok (x, c)) = .ok (!x, c) := rfl
def kIf (f g : EF) (env : Env) (r : R (Bool × Cs)) : R (D × Cs) := r.bind fun p => if p.1 = true then f env p.2 else g env p.2
theorem vIf : dIf t f g env c = kIf f g env (t env c) := rfl
theorem vIfT : kIf f g env (.ok (true, c)) = f env c := rfl
theorem vIfF : kIf f g env (.ok (false, c)) = g env c := rfl
theorem vIfB {x : Bool} : kIf f g env (.ok (x, c)) = if x = true then f env c else g env c := rfl
def kAndV (g : EF) (env : Env) (r : R (D × Cs)) : R (D × Cs) := r.bind fun p => match p.1 with
  | .bl true => g env p.2
  | .bl false => .ok (.bl false, p.2)
  | _ => .stuck
theorem vAndV : dAndV f g env c = kAndV g env (f env c) := rfl
theorem vAndVT : kAndV g env (.ok (.bl true, c)) = g env c := rfl
theorem vAndVF : kAndV g env (.ok (.bl false, c)) = .ok (.bl false, c) := rfl
def kOrV (g : EF) (env : Env) (r : R (D × Cs)) : R (D × Cs) := r.bind fun p => match p.1 with
  | .bl false => g env p.2
  | .bl true => .ok (.bl true, p.2)
  | _ => .stuck
theorem vOrV : dOrV f g env c = kOrV g env (f env c) := rfl
theorem vOrVT : kOrV g env (.ok (.bl true, c)) = .ok (.bl true, c) := rfl
theorem vOrVF : kOrV g env (.ok (.bl false, c)) = g env c := rfl
theorem vnot {x : Bool} : notD (.bl x) c = .ok (.bl (!x), c) := rfl
theorem voN : oNone env c = .ok (none, c) := rfl
def koS (r : R (D × Cs)) : R (Option Int × Cs) := r.bind fun p => match p.1 with
  | .int i => .ok (some i, p.2)
  | _ => .stuck
theorem voS : oSome f env c = koS (f env c) := rfl
theorem voS' {i : Int} : koS (.ok (.int i, c)) = .ok (some i, c) := rfl
def kSl (lo hi : OF) (env : Env) (r : R (D × Cs)) : R (D × Cs) := r.bind fun p => (lo env p.2).bind fun q => (hi env q.2).bind fun r => slD p.1 q.1 r.1 r.2
def kSl1 (d : D) (hi : OF) (env : Env) (r : R (Option Int × Cs)) : R (D × Cs) := r.bind fun q => (hi env q.2).bind fun r => slD d q.1 r.1 r.2
def kSl2 (d : D) (lo : Option Int) (r : R (Option Int × Cs)) : R (D × Cs) := r.bind fun r => slD d lo r.1 r.2
theorem vSl {lo hi : OF} : dSl f lo hi env c = kSl lo hi env (f env c) := rfl
theorem vSl1 {lo hi : OF} : kSl lo hi env (.ok (d, c)) = kSl1 d hi env (lo env c) := rfl
theorem vSl2 {hi : OF} {x : Option Int} : kSl1 d hi env (.ok (x, c)) = kSl2 d x (hi env c) := rfl
theorem vSl3 {x y : Option Int} : kSl2 d x (.ok (y, c)) = slD d x y c := rfl
def kIt (r : R (D × Cs)) : R (List D × Cs) := r.bind fun p => itemsD p.1 p.2
theorem vIt : dIt f env c = kIt (f env c) := rfl
theorem vIt' : kIt (.ok (d, c)) = itemsD d c := rfl
def kItA (h : List D → Cs → R (List D × Cs)) (r : R (List D × Cs)) : R (List D × Cs) := r.bind fun p => h p.1 p.2
theorem vItA {h : List D → Cs → R (List D × Cs)} : dItA fa h env c = kItA h (fa env c) := rfl
theorem vItA' {h : List D → Cs → R (List D × Cs)} : kItA h (.ok (ds, c)) = h ds c := rfl
theorem viT : itemsD (.tup ds) c = .ok (ds, c) := rfl
theorem viL : itemsD (.lst ds) c = .ok (ds, c) := rfl
theorem viS : itemsD (.scr ds) c = .ok (ds, c) := rfl
/-! comprehensions -/
def kLc (own : List Nat) (g : GF) (ft : TF) (fe : EF) (env : Env) (r : R (List D × Cs)) : R (D × Cs) := r.bind fun p => (lcD g ft fe p.1 [] (wipeE env own) p.2).bind fun q => .ok (.lst q.1, q.2)
def kLc2 (r : R (List D × Cs)) : R (D × Cs) := r.bind fun q => .ok (.lst q.1, q.2)
theorem vLc {own : List Nat} : dLc own fi gt t f env c = kLc own gt t f env (fi env c) := rfl
theorem vLc' {own : List Nat} : kLc own gt t f env (.ok (ds, c)) = kLc2 (lcD gt t f ds [] (wipeE env own) c) := rfl
theorem vLc2 : kLc2 (.ok (ds, c)) = .ok (.lst ds, c) := rfl
def kLcC (own : List Nat) (g : GF) (ft : TF) (fe : EF) (env : Env) (r : R (List D × Cs)) : R (D × Cs) := r.bind fun p => (lcD g ft fe p.1 [] (wipeE env own) p.2).bind fun q => .ok (.ref q.2.length, q.2 ++ [.lst q.1])
def kLcC2 (r : R (List D × Cs)) : R (D × Cs) := r.bind fun q => .ok (.ref q.2.length, q.2 ++ [.lst q.1])
theorem vLcC {own : List Nat} : dLcC own fi gt t f env c = kLcC own gt t f env (fi env c) := rfl
theorem vLcC' {own : List Nat} : kLcC own gt t f env (.ok (ds, c)) = kLcC2 (lcD gt t f ds [] (wipeE env own) c) := rfl
theorem vLcC2 : kLcC2 (.ok (ds, c)) = .ok (.ref c.length, c ++ [.lst ds]) := rfl
theorem vYes : dYes env c = .ok (true, c) := rfl
theorem vw0 : wipeE env [] = env := rfl
theorem vw {v : Nat} {vs : List Nat} : wipeE env (v :: vs) = (wipeE env vs).set v none := rfl
/-! statements -/
def kSeq (q : SF) (r : R (Fl × Env × Cs)) : R (Fl × Env × Cs) := r.bind fun p => match p.1 with
  | .next => q p.2.1 p.2.2
  | _ => .ok p
theorem vSeq : sSeq p q env c = kSeq q (p env c) := rfl
theorem vSeqN : kSeq q (.ok (.next, env, c)) = q env c := rfl
theorem vSeqR : kSeq q (.ok (.ret d, env, c)) = .ok (.ret d, env, c) := rfl
theorem vNext : sNext env c = .ok (.next, env, c) := rfl
def kRet (env : Env) (r : R (D × Cs)) : R (Fl × Env × Cs) := r.bind fun p => .ok (.ret p.1, env, p.2)
theorem vRet : sRet f env c = kRet env (f env c) := rfl
theorem vRet' : kRet env (.ok (d, c)) = .ok (.ret d, env, c) := rfl
theorem vRetN : sRetN env c = .ok (.ret .non, env, c) := rfl
def kEx (env : Env) (r : R (D × Cs)) : R (Fl × Env × Cs) := r.bind fun p => .ok (.next, env, p.2)
theorem vEx : sEx f env c = kEx env (f env c) := rfl
theorem vEx' : kEx env (.ok (d, c)) = .ok (.next, env, c) := rfl

def kAsg (g : GF) (env : Env) (r : R (D × Cs)) : R (Fl × Env × Cs) := r.bind fun p => match g p.1 env p.2 with
  | some q => .ok (.next, q.1, q.2)
  | none => .stuck
def kAsg' (r : Option (Env × Cs)) : R (Fl × Env × Cs) := match r with
  | some q => .ok (.next, q.1, q.2)
  | none => .stuck
theorem vAsg : sAsg f gt env c = kAsg gt env (f env c) := rfl
theorem vAsg' : kAsg gt env (.ok (d, c)) = kAsg' (gt d env c) := rfl
theorem vAsg'' : kAsg' (some (env, c)) = .ok (.next, env, c) := rfl
theorem vgN {i : Nat} : gN i d env c = some (env.set i (some d), c) := rfl
theorem vgs0 : gsNil [] env c = some (env, c) := rfl
def kgs (gs : GsF) (ds : List D) (r : Option (Env × Cs)) : Option (Env × Cs) := r.bind fun p => gs ds p.1 p.2
theorem vgsC {gs : GsF} : gsCons gt gs (d :: ds) env c = kgs gs ds (gt d env c) := rfl
theorem vgsC' {gs : GsF} : kgs gs ds (some (env, c)) = gs ds env c := rfl
theorem vgT {n : Nat} {gs : GsF} (h : ds.length = n) : gT n gs (.tup ds) env c = gs ds env c := if_pos h
theorem vgT2 {gs : GsF} : gT 2 gs (.tup [d, e]) env c = gs [d, e] env c := rfl
theorem vgT3 {gs : GsF} {a : D} : gT 3 gs (.tup [d, e, a]) env c = gs [d, e, a] env c := rfl
def kSIf (a b : SF) (env : Env) (r : R (Bool × Cs)) : R (Fl × Env × Cs) := r.bind fun p => if p.1 = true then a env p.2 else b env p.2
theorem vSIf : sIf t p q env c = kSIf p q env (t env c) := rfl
theorem vSIfT : kSIf p q env (.ok (true, c)) = p env c := rfl
theorem vSIfF : kSIf p q env (.ok (false, c)) = q env c := rfl
def kPar (i j : Nat) (env : Env) (r : R (List D × Cs)) : R (Fl × Env × Cs) := r.bind fun p => match p.1 with
  | [d, e] => .ok (.next, (env.set i (some d)).set j (some e), p.2)
  | _ => .stuck
theorem vPar {i j : Nat} : sPar i j fa env c = kPar i j env (fa env c) := rfl
theorem vPar' {i j : Nat} : kPar i j env (.ok ([d, e], c)) = .ok (.next, (env.set i (some d)).set j (some e), c) := rfl
def kPar3 (i j l : Nat) (env : Env) (r : R (List D × Cs)) : R (Fl × Env × Cs) := r.bind fun p => match p.1 with
  | [d, e, f] => .ok (.next, ((env.set i (some d)).set j (some e)).set l (some f), p.2)
  | _ => .stuck
theorem vPar3 {i j l : Nat} : sPar3 i j l fa env c = kPar3 i j l env (fa env c) := rfl
theorem vPar3' {i j l : Nat} {a : D} : kPar3 i j l env (.ok ([d, e, a], c)) = .ok (.next, ((env.set i (some d)).set j (some e)).set l (some a), c) := rfl
def kFor (g : GF) (b : SF) (env : Env) (r : R (List D × Cs)) : R (Fl × Env × Cs) := r.bind fun p => forD g b p.1 env p.2
theorem vFor : sFor fi gt b env c = kFor gt b env (fi env c) := rfl
theorem vFor' : kFor gt b env (.ok (ds, c)) = forD gt b ds env c := rfl
def kSub (fo fi : EF) (env : Env) (r : R (D × Cs)) : R (Fl × Env × Cs) := r.bind fun p => (fo env p.2).bind fun q => (fi env q.2).bind fun r => match setD q.1 r.1 p.1 r.2 with
  | some c' => .ok (.next, env, c')
  | none => .stuck
def kSub1 (v : D) (fi : EF) (env : Env) (r : R (D × Cs)) : R (Fl × Env × Cs) := r.bind fun q => (fi env q.2).bind fun r => match setD q.1 r.1 v r.2 with
  | some c' => .ok (.next, env, c')
  | none => .stuck
def kSub2 (v o : D) (env : Env) (r : R (D × Cs)) : R (Fl × Env × Cs) := r.bind fun r => match setD o r.1 v r.2 with
  | some c' => .ok (.next, env, c')
  | none => .stuck
def kSub3 (env : Env) (r : Option Cs) : R (Fl × Env × Cs) := match r with
  | some c' => .ok (.next, env, c')
  | none => .stuck
theorem vSub {fo fj : EF} : sSub f fo fj env c = kSub fo fj env (f env c) := rfl
theorem vSub1 {fo fj : EF} : kSub fo fj env (.ok (d, c)) = kSub1 d fj env (fo env c) := rfl
theorem vSub2 {fj : EF} {v : D} : kSub1 v fj env (.ok (d, c)) = kSub2 v d env (fj env c) := rfl
theorem vSub3 {v o : D} : kSub2 v o env (.ok (d, c)) = kSub3 env (setD o d v c) := rfl
theorem vSub4 {c' : Cs} : kSub3 env (some c') = .ok (.next, env, c') := rfl
/-! calls -/
def kFn (r : R (Fl × Env × Cs)) : R (D × Cs) := match r with
  | .ok p => match p.1 with
    | .next => .ok (.non, p.2.2)
    | .ret d => .ok (d, p.2.2)
    | _ => .stuck
  | .err e c => .err e c
  | .stuck => .stuck
theorem vFn {n N : Nat} (h : ds.length = n) : fnD n N b ds c = kFn (b (ds.map some ++ List.replicate (N - ds.length) none) c) := by
  unfold fnD
  rw [if_pos h]
  unfold kFn
  rfl
theorem vFnR : kFn (.ok (.ret d, env, c)) = .ok (d, c) := rfl
theorem vFnN : kFn (.ok (.next, env, c)) = .ok (.non, c) := rfl
theorem vCall {n : Nat} {F : DF} (h : ds.length = n) : callD n F [] ds c = F ds c := by
  unfold callD
  rw [List.append_nil, if_pos h]
def dCall0 (F : DF) : EF := fun env c => (callD 0 F [] [] c).noe
theorem vCall0 {F : DF} : dCall0 F env c = (F [] c).noe := rfl
theorem vnoe {α : Type} {a : α} : (R.ok a).noe = .ok a := rfl
def kM (T : String) (fa : AF) (h : D → List D → Cs → R (D × Cs)) (env : Env) (r : R (D × Cs)) : R (D × Cs) := r.bind fun p => if isTy p.2 T p.1 then (fa env p.2).bind fun q => h p.1 q.1 q.2 else .stuck
def kM1 (h : D → List D → Cs → R (D × Cs)) (d : D) (r : R (List D × Cs)) : R (D × Cs) := r.bind fun q => h d q.1 q.2
theorem vM {T : String} {h : D → List D → Cs → R (D × Cs)} : dM T f fa h env c = kM T fa h env (f env c) := rfl
theorem vM' {T : String} {h : D → List D → Cs → R (D × Cs)} (e : isTy c T d = true) : kM T fa h env (.ok (d, c)) = kM1 h d (fa env c) := by
  show (if isTy c T d then _ else _) = _
  rw [if_pos e]; rfl
theorem vM'' {h : D → List D → Cs → R (D × Cs)} : kM1 h d (.ok (ds, c)) = h d ds c := rfl
def kT (n : Nat) (r : R (D × Cs)) : R (D × Cs) := trunc n r
theorem vT {F : DF} : fnT F ds c = kT c.length (F ds c) := rfl
theorem vT' {n : Nat} (h : (d.lo n && (c.take n).all (Cell.lo n)) = true) : kT n (.ok (d, c)) = .ok (d, c.take n) := by
  show trunc n (.ok (d, c)) = _
  unfold trunc
  rw [R.bind_ok, if_pos h]
/-! displays of dicts -/
def kD (n : Nat) (r : R (List (D × D) × Cs)) : R (D × Cs) := r.bind fun z => match z.2[n]?, kvsD z.1 with
  | some (.dct []), some kvs => if kvs.length ≤ 15 then .ok (.ref n, z.2.set n (.dct (kmerge [] kvs))) else .stuck
  | _, _ => .stuck
theorem vD {prs : List (EF × EF)} : dDisp prs env c = kD c.length (prsD prs env (c ++ [.dct []])) := rfl
theorem vPr0 : prsD [] env c = .ok ([], c) := rfl
def kPr (fv : EF) (r : List (EF × EF)) (env : Env) (x : R (D × Cs)) : R (List (D × D) × Cs) := x.bind fun p => (fv env p.2).bind fun q => (prsD r env q.2).bind fun z => .ok ((p.1, q.1) :: z.1, z.2)
def kPr1 (d : D) (r : List (EF × EF)) (env : Env) (x : R (D × Cs)) : R (List (D × D) × Cs) := x.bind fun q => (prsD r env q.2).bind fun z => .ok ((d, q.1) :: z.1, z.2)
def kPr2 (d e : D) (x : R (List (D × D) × Cs)) : R (List (D × D) × Cs) := x.bind fun z => .ok ((d, e) :: z.1, z.2)
theorem vPr {r : List (EF × EF)} : prsD ((f, g) :: r) env c = kPr g r env (f env c) := rfl
theorem vPr1 {r : List (EF × EF)} : kPr g r env (.ok (d, c)) = kPr1 d r env (g env c) := rfl
theorem vPr2 {r : List (EF × EF)} : kPr1 d r env (.ok (e, c)) = kPr2 d e (prsD r env c) := rfl
theorem vPr3 {l : List (D × D)} : kPr2 d e (.ok (l, c)) = .ok ((d, e) :: l, c) := rfl
theorem vEmp : dEmp env c = .ok (.ref c.length, c ++ [.dct []]) := rfl
def ev0 := And.intro @v0 <| And.intro @vS <| And.intro @vC <| And.intro @v1 <| And.intro @v1' <| And.intro @v2 <| And.intro @v2' <| And.intro @v2'' <| And.intro @vN <| And.intro @vc <| And.intro @vc' <| And.intro @vc'' <| And.intro @vA <| And.intro @vA' <| And.intro @vTb <| And.intro @vTb' <| And.intro @vTt <| And.intro @vTt' <| And.intro @vTtN <| @vTtT
def ev1 := And.intro @vTtL <| And.intro @vTtI <| And.intro @vAnd <| And.intro @vAndT <| And.intro @vAndF <| And.intro @vOr <| And.intro @vOrT <| And.intro @vOrF <| And.intro @vNot <| And.intro @vNot' <| And.intro @vIf <| And.intro @vIfT <| And.intro @vIfF <| And.intro @vAndV <| And.intro @vAndVT <| And.intro @vAndVF <| And.intro @vOrV <| And.intro @vOrVT <| And.intro @vOrVF <| @vnot
def ev2 := And.intro @voN <| And.intro @voS <| And.intro @voS' <| And.intro @vSl <| And.intro @vSl1 <| And.intro @vSl2 <| And.intro @vSl3 <| And.intro @vIt <| And.intro @vIt' <| And.intro @vItA <| And.intro @vItA' <| And.intro @viT <| And.intro @viL <| And.intro @viS <| And.intro @vLc <| And.intro @vLc' <| And.intro @vLc2 <| And.intro @vLcC <| And.intro @vLcC' <| @vLcC2
def ev3 := And.intro @vYes <| And.intro @vw0 <| And.intro @vw <| And.intro @vSeq <| And.intro @vSeqN <| And.intro @vSeqR <| And.intro @vNext <| And.intro @vRet <| And.intro @vRet' <| And.intro @vRetN <| And.intro @vEx <| And.intro @vEx' <| And.intro @vAsg <| And.intro @vAsg' <| And.intro @vAsg'' <| And.intro @vgN <| And.intro @vgs0 <| And.intro @vgsC <| And.intro @vgsC' <| @vgT2
def ev4 := And.intro @vgT3 <| And.intro @vSIf <| And.intro @vSIfT <| And.intro @vSIfF <| And.intro @vPar <| And.intro @vPar' <| And.intro @vPar3 <| And.intro @vPar3' <| And.intro @vFor <| And.intro @vFor' <| And.intro @vSub <| And.intro @vSub1 <| And.intro @vSub2 <| And.intro @vSub3 <| And.intro @vSub4 <| And.intro @vFnR <| And.intro @vFnN <| And.intro @vCall0 <| And.intro @vnoe <| @vM
def ev5 := And.intro @vM'' <| And.intro @vT <| And.intro @vD <| And.intro @vPr0 <| And.intro @vPr <| And.intro @vPr1 <| And.intro @vPr2 <| And.intro @vPr3 <| @vEmp
end Mi
namespace Mi
open PySem L2
/-! ### operations -/
section
variable {c : Cs} {i j : Int} {xs ys ds : List D} {a d e : D} {n : Nat} {x y : Str}
theorem wAdd : addD (.int i) (.int j) c = .ok (.int (i + j), c) := rfl
theorem wSub : subD (.int i) (.int j) c = .ok (.int (i - j), c) := rfl
theorem wMul (h : mulOk i j = true) : mulD (.int i) (.int j) c = .ok (.int (i * j), c) := if_pos h
theorem wMulL (h : i.natAbs < 2 ^ 63) : mulD (.int i) (.int j) c = .ok (.int (i * j), c) := wMul (by unfold mulOk; simp only [h, decide_true, Bool.true_or])
theorem wMulR (h : j.natAbs < 2 ^ 63) : mulD (.int i) (.int j) c = .ok (.int (i * j), c) := wMul (by unfold mulOk; simp only [h, decide_true, Bool.or_true])
theorem wMod (h : 0 < j) : modD (.int i) (.int j) c = .ok (.int (i % j), c) := if_pos h
theorem wDiv (h : 0 < j) (h2 : j.natAbs < 2 ^ 100) : divD (.int i) (.int j) c = .ok (.int (i / j), c) := if_pos ⟨h, h2⟩
theorem wPow (h : 0 ≤ j ∧ j ≤ 1000 ∧ i.natAbs < 2 ^ 64) : powD (.int i) (.int j) c = .ok (.int (i ^ j.toNat), c) := if_pos h
theorem wNeg : negD (.int i) c = .ok (.int (-i), c) := rfl
theorem wInt : intD [.int i] c = .ok (.int i, c) := rfl
theorem wAbs : absD [.int i] c = .ok (.int (if i < 0 then -i else i), c) := rfl
theorem wMax : maxD [.int i, .int j] c = .ok (.int (if j > i then j else i), c) := rfl
theorem wMin : minD [.int i, .int j] c = .ok (.int (if j < i then j else i), c) := rfl
theorem wLt : ltD (.int i) (.int j) c = .ok (.bl (decide (i < j)), c) := rfl
theorem wLe : leD (.int i) (.int j) c = .ok (.bl (decide (i ≤ j)), c) := rfl
theorem wGt : gtD (.int i) (.int j) c = .ok (.bl (decide (j < i)), c) := rfl
theorem wGe : geD (.int i) (.int j) c = .ok (.bl (decide (j ≤ i)), c) := rfl
theorem wEqI : eqD (.int i) (.int j) c = .ok (.bl (decide (i = j)), c) := rfl
theorem wNeI : neD (.int i) (.int j) c = .ok (.bl (!decide (i = j)), c) := rfl
theorem wEqS : eqD (.str x) (.str y) c = .ok (.bl (decide (x = y)), c) := rfl
theorem wNeS : neD (.str x) (.str y) c = .ok (.bl (!decide (x = y)), c) := rfl
theorem wEqB {p q : Bool} : eqD (.bl p) (.bl q) c = .ok (.bl (decide (p = q)), c) := rfl
theorem wNeB {p q : Bool} : neD (.bl p) (.bl q) c = .ok (.bl (!decide (p = q)), c) := rfl
theorem wTup (h : ds.length ≤ lim) : mkTup ds c = .ok (.tup ds, c) := if_pos h
theorem wLst (h : ds.length ≤ lim) : mkLst ds c = .ok (.lst ds, c) := if_pos h
theorem wCell (h : ds.length ≤ lim) : mkCell ds c = .ok (.ref c.length, c ++ [.lst ds]) := if_pos h
theorem gsT : getS c (.tup xs) = some xs := rfl
theorem gsL : getS c (.lst xs) = some xs := rfl
theorem gsS : getS c (.scr xs) = some xs := rfl
theorem gsR (h : c[n]? = some (.lst xs)) : getS c (.ref n) = some xs := by
  unfold getS getL; simp only [h]
theorem glL : getL c (.lst xs) = some xs := rfl
theorem glS : getL c (.scr xs) = some xs := rfl
theorem glR (h : c[n]? = some (.lst xs)) : getL c (.ref n) = some xs := by
  unfold getL; simp only [h]
theorem gmL : getM c (.lst xs) = some xs := rfl
theorem gmR (h : c[n]? = some (.lst xs)) : getM c (.ref n) = some xs := by
  unfold getM; simp only [h]
theorem wLen (h : getS c d = some xs) : lenD [d] c = .ok (.int xs.length, c) := by
  cases d <;> first | (unfold getS getL at h; cases h; done) | (unfold lenD; simp only [h]; done)
theorem wLenT : lenD [.tup xs] c = .ok (.int xs.length, c) := rfl
theorem wLenL : lenD [.lst xs] c = .ok (.int xs.length, c) := rfl
theorem wLenS : lenD [.scr xs] c = .ok (.int xs.length, c) := rfl
theorem wAddL (h : xs.length + ys.length ≤ lim) : addD (.lst xs) (.lst ys) c = .ok (.lst (xs ++ ys), c) := if_pos h
theorem wAddT (h : xs.length + ys.length ≤ lim) : addD (.tup xs) (.tup ys) c = .ok (.tup (xs ++ ys), c) := if_pos h
theorem wAddS (h : x.length + y.length ≤ lim) : addD (.str x) (.str y) c = .ok (.str (x ++ y), c) := if_pos h
theorem dcT : getDc c (.tup xs) = none := rfl
theorem dcL : getDc c (.lst xs) = none := rfl
theorem dcS : getDc c (.scr xs) = none := rfl
theorem dcR (h : c[n]? = some (.lst xs)) : getDc c (.ref n) = none := by
  unfold getDc; simp only [h]
theorem dcD {kvs : List (Str × D)} (h : c[n]? = some (.dct kvs)) : getDc c (.ref n) = some kvs := by
  unfold getDc; simp only [h]
theorem wIx (h0 : getDc c a = none) (h : getS c a = some xs) (h2 : atI xs i = some d) : ixD a (.int i) c = .ok (d, c) := by
  unfold ixD; simp only [h0, h, h2]
theorem ixN_nat {k m : Nat} : ixN m (k : Int) = if k < m then some k else none := by
  unfold ixN
  rw [if_pos (Int.natCast_nonneg k)]
  by_cases h : k < m
  · rw [if_pos h, if_pos (by omega)]; simp
  · rw [if_neg h, if_neg (by omega)]
theorem atI_nat {α : Type} {xs : List α} {k : Nat} : atI xs (k : Int) = xs[k]? := by
  unfold atI
  rw [ixN_nat]
  by_cases h : k < xs.length
  · rw [if_pos h]; rfl
  · rw [if_neg h, List.getElem?_eq_none (by omega)]; rfl
theorem wIxT (h2 : atI xs i = some d) : ixD (.tup xs) (.int i) c = .ok (d, c) := wIx dcT gsT h2
theorem wIxL (h2 : atI xs i = some d) : ixD (.lst xs) (.int i) c = .ok (d, c) := wIx dcL gsL h2
theorem wIxS (h2 : atI xs i = some d) : ixD (.scr xs) (.int i) c = .ok (d, c) := wIx dcS gsS h2
theorem wIxR (h : c[n]? = some (.lst xs)) (h2 : atI xs i = some d) : ixD (.ref n) (.int i) c = .ok (d, c) := wIx (dcR h) (gsR h) h2
theorem wIxD {kvs : List (Str × D)} {k : Str} (h : c[n]? = some (.dct kvs)) (h2 : kv kvs k = some d) : ixD (.ref n) (.str k) c = .ok (d, c) := by
  unfold ixD; rw [dcD h]; simp only [h2]
theorem wList (h : getS c d = some xs) : listD [d] c = .ok (.lst xs, c) := by
  unfold listD; simp only [h]
theorem wListT : listD [.tup xs] c = .ok (.lst xs, c) := rfl
theorem wListL : listD [.lst xs] c = .ok (.lst xs, c) := rfl
theorem wTupl : tupD [.lst xs] c = .ok (.tup xs, c) := rfl
theorem wTuplT : tupD [.tup xs] c = .ok (.tup xs, c) := rfl
theorem wTuplR (h : c[n]? = some (.lst xs)) : tupD [.ref n] c = .ok (.tup xs, c) := by
  unfold tupD; simp only [glR h]
theorem wSlT {p q : Option Int} : slD (.tup xs) p q c = .ok (.tup (cutD xs p q), c) := rfl
theorem wSlL {p q : Option Int} : slD (.lst xs) p q c = .ok (.lst (cutD xs p q), c) := rfl
theorem wRev : revD (.lst xs) c = .ok (.lst xs.reverse, c) := rfl
theorem wRng1 (h : inR j = true) : rng1 [.int j] c = .ok (rngD 0 j.toNat, c) := if_pos h
theorem wRng2 (h : (inR i && inR j) = true) : rng2 [.int i, .int j] c = .ok (rngD i (j - i).toNat, c) := if_pos h
theorem wLrg1 (h : rgOk 0 i = true) : lrg1D (.int i) c = .ok (.lst (rngD 0 i.toNat), c) := if_pos h
theorem wLrg2 (h : rgOk i j = true) : lrg2D (.int i) (.int j) c = .ok (.lst (rngD i (j - i).toNat), c) := if_pos h
theorem wEnT : enumD [.tup xs] c = .ok (enumL 0 xs, c) := rfl
theorem wEnL : enumD [.lst xs] c = .ok (enumL 0 xs, c) := rfl
theorem wZiT : zipD [.tup xs, .tup ys] c = .ok (zipL xs ys, c) := rfl
theorem wZiL : zipD [.lst xs, .lst ys] c = .ok (zipL xs ys, c) := rfl
theorem atI_0 : atI (d :: xs) 0 = some d := by simpa using (atI_nat (xs := d :: xs) (k := 0))
theorem atI_1 : atI (d :: e :: xs) 1 = some e := by simpa using (atI_nat (xs := d :: e :: xs) (k := 1))
theorem wSetL {v : D} {k : Nat} (h : c[n]? = some (.lst xs)) (hk : k < xs.length) : setD (.ref n) (.int k) v c = some (c.set n (.lst (xs.set k v))) := by
  unfold setD cellL
  simp only [h]
  have : ixN xs.length (k : Int) = some k := by rw [ixN_nat, if_pos hk]
  rw [this]
theorem setD_0 {v : D} (h : c[n]? = some (.lst (d :: xs))) : setD (.ref n) (.int 0) v c = some (c.set n (.lst (v :: xs))) := wSetL (k := 0) h (by simp)
theorem setD_1 {v : D} (h : c[n]? = some (.lst (d :: e :: xs))) : setD (.ref n) (.int 1) v c = some (c.set n (.lst (d :: v :: xs))) := wSetL (k := 1) h (by simp)
end

section
variable {N : Nat} {b : SF} {c : Cs} {x1 x2 x3 x4 x5 : D}
theorem fn_0 : fnD 0 N b [] c = kFn (b (List.replicate N none) c) := vFn rfl
theorem fn_1 : fnD 1 N b [x1] c = kFn (b (some x1 :: List.replicate (N - 1) none) c) := vFn rfl
theorem fn_2 : fnD 2 N b [x1, x2] c = kFn (b (some x1 :: some x2 :: List.replicate (N - 2) none) c) := vFn rfl
theorem fn_3 : fnD 3 N b [x1, x2, x3] c = kFn (b (some x1 :: some x2 :: some x3 :: List.replicate (N - 3) none) c) := vFn rfl
theorem fn_4 : fnD 4 N b [x1, x2, x3, x4] c = kFn (b (some x1 :: some x2 :: some x3 :: some x4 :: List.replicate (N - 4) none) c) := vFn rfl
theorem fn_5 : fnD 5 N b [x1, x2, x3, x4, x5] c = kFn (b (some x1 :: some x2 :: some x3 :: some x4 :: some x5 :: List.replicate (N - 5) none) c) := vFn rfl
variable {F : DF}
theorem ca_0 : callD 0 F [] [] c = F [] c := vCall rfl
theorem ca_1 : callD 1 F [] [x1] c = F [x1] c := vCall rfl
theorem ca_2 : callD 2 F [] [x1, x2] c = F [x1, x2] c := vCall rfl
theorem ca_3 : callD 3 F [] [x1, x2, x3] c = F [x1, x2, x3] c := vCall rfl
theorem ca_4 : callD 4 F [] [x1, x2, x3, x4] c = F [x1, x2, x3, x4] c := vCall rfl
theorem ca_5 : callD 5 F [] [x1, x2, x3, x4, x5] c = F [x1, x2, x3, x4, x5] c := vCall rfl
end
def ev6 := And.intro @fn_0 <| And.intro @fn_1 <| And.intro @fn_2 <| And.intro @fn_3 <| And.intro @fn_4 <| And.intro @fn_5 <| And.intro @ca_0 <| And.intro @ca_1 <| And.intro @ca_2 <| And.intro @ca_3 <| And.intro @ca_4 <| And.intro @ca_5 <| And.intro @vFnR <| @vFnN
def ev7 := And.intro (@List.replicate_succ (Option D)) <| And.intro (@List.replicate_zero (Option D)) <| And.intro (@List.set_cons_zero (Option D)) <| (@List.set_cons_succ (Option D))
def ev8 := And.intro @wAdd <| And.intro @wSub <| And.intro @wMod <| And.intro @wNeg <| And.intro @wInt <| And.intro @wAbs <| And.intro @wMax <| And.intro @wMin <| And.intro @wLt <| And.intro @wLe <| And.intro @wGt <| And.intro @wGe <| And.intro @wEqI <| And.intro @wNeI <| And.intro @wEqS <| And.intro @wNeS <| And.intro @wEqB <| And.intro @wNeB <| And.intro @wLenT <| And.intro @wLenL <| And.intro @wLenS <| And.intro @wListT <| And.intro @wListL <| And.intro @wTupl <| And.intro @wTuplT <| And.intro @wSlT <| And.intro @wSlL <| And.intro @wRev <| And.intro @wEnT <| And.intro @wEnL <| And.intro @wZiT <| @wZiL
theorem wTup0 {c : Cs} : mkTup [] c = .ok (.tup [], c) := wTup (by simp [lim])
theorem wLst0 {c : Cs} : mkLst [] c = .ok (.lst [], c) := wLst (by simp [lim])
theorem wCell0 {c : Cs} : mkCell [] c = .ok (.ref c.length, c ++ [.lst []]) := wCell (by simp [lim])
theorem wTup1 {y0 : D} {c : Cs} : mkTup [y0] c = .ok (.tup [y0], c) := wTup (by simp [lim])
theorem wLst1 {y0 : D} {c : Cs} : mkLst [y0] c = .ok (.lst [y0], c) := wLst (by simp [lim])
theorem wCell1 {y0 : D} {c : Cs} : mkCell [y0] c = .ok (.ref c.length, c ++ [.lst [y0]]) := wCell (by simp [lim])
theorem wTup2 {y0 y1 : D} {c : Cs} : mkTup [y0, y1] c = .ok (.tup [y0, y1], c) := wTup (by simp [lim])
theorem wLst2 {y0 y1 : D} {c : Cs} : mkLst [y0, y1] c = .ok (.lst [y0, y1], c) := wLst (by simp [lim])
theorem wCell2 {y0 y1 : D} {c : Cs} : mkCell [y0, y1] c = .ok (.ref c.length, c ++ [.lst [y0, y1]]) := wCell (by simp [lim])
theorem wTup3 {y0 y1 y2 : D} {c : Cs} : mkTup [y0, y1, y2] c = .ok (.tup [y0, y1, y2], c) := wTup (by simp [lim])
theorem wLst3 {y0 y1 y2 : D} {c : Cs} : mkLst [y0, y1, y2] c = .ok (.lst [y0, y1, y2], c) := wLst (by simp [lim])
theorem wCell3 {y0 y1 y2 : D} {c : Cs} : mkCell [y0, y1, y2] c = .ok (.ref c.length, c ++ [.lst [y0, y1, y2]]) := wCell (by simp [lim])
theorem wTup4 {y0 y1 y2 y3 : D} {c : Cs} : mkTup [y0, y1, y2, y3] c = .ok (.tup [y0, y1, y2, y3], c) := wTup (by simp [lim])
theorem wLst4 {y0 y1 y2 y3 : D} {c : Cs} : mkLst [y0, y1, y2, y3] c = .ok (.lst [y0, y1, y2, y3], c) := wLst (by simp [lim])
theorem wTup5 {y0 y1 y2 y3 y4 : D} {c : Cs} : mkTup [y0, y1, y2, y3, y4] c = .ok (.tup [y0, y1, y2, y3, y4], c) := wTup (by simp [lim])
theorem wLst5 {y0 y1 y2 y3 y4 : D} {c : Cs} : mkLst [y0, y1, y2, y3, y4] c = .ok (.lst [y0, y1, y2, y3, y4], c) := wLst (by simp [lim])
theorem wTup6 {y0 y1 y2 y3 y4 y5 : D} {c : Cs} : mkTup [y0, y1, y2, y3, y4, y5] c = .ok (.tup [y0, y1, y2, y3, y4, y5], c) := wTup (by simp [lim])
theorem wLst6 {y0 y1 y2 y3 y4 y5 : D} {c : Cs} : mkLst [y0, y1, y2, y3, y4, y5] c = .ok (.lst [y0, y1, y2, y3, y4, y5], c) := wLst (by simp [lim])
theorem wTup7 {y0 y1 y2 y3 y4 y5 y6 : D} {c : Cs} : mkTup [y0, y1, y2, y3, y4, y5, y6] c = .ok (.tup [y0, y1, y2, y3, y4, y5, y6], c) := wTup (by simp [lim])
theorem wLst7 {y0 y1 y2 y3 y4 y5 y6 : D} {c : Cs} : mkLst [y0, y1, y2, y3, y4, y5, y6] c = .ok (.lst [y0, y1, y2, y3, y4, y5, y6], c) := wLst (by simp [lim])
theorem wTup8 {y0 y1 y2 y3 y4 y5 y6 y7 : D} {c : Cs} : mkTup [y0, y1, y2, y3, y4, y5, y6, y7] c = .ok (.tup [y0, y1, y2, y3, y4, y5, y6, y7], c) := wTup (by simp [lim])
theorem wLst8 {y0 y1 y2 y3 y4 y5 y6 y7 : D} {c : Cs} : mkLst [y0, y1, y2, y3, y4, y5, y6, y7] c = .ok (.lst [y0, y1, y2, y3, y4, y5, y6, y7], c) := wLst (by simp [lim])
theorem wTup9 {y0 y1 y2 y3 y4 y5 y6 y7 y8 : D} {c : Cs} : mkTup [y0, y1, y2, y3, y4, y5, y6, y7, y8] c = .ok (.tup [y0, y1, y2, y3, y4, y5, y6, y7, y8], c) := wTup (by simp [lim])
theorem wLst9 {y0 y1 y2 y3 y4 y5 y6 y7 y8 : D} {c : Cs} : mkLst [y0, y1, y2, y3, y4, y5, y6, y7, y8] c = .ok (.lst [y0, y1, y2, y3, y4, y5, y6, y7, y8], c) := wLst (by simp [lim])
theorem wTup10 {y0 y1 y2 y3 y4 y5 y6 y7 y8 y9 : D} {c : Cs} : mkTup [y0, y1, y2, y3, y4, y5, y6, y7, y8, y9] c = .ok (.tup [y0, y1, y2, y3, y4, y5, y6, y7, y8, y9], c) := wTup (by simp [lim])
theorem wLst10 {y0 y1 y2 y3 y4 y5 y6 y7 y8 y9 : D} {c : Cs} : mkLst [y0, y1, y2, y3, y4, y5, y6, y7, y8, y9] c = .ok (.lst [y0, y1, y2, y3, y4, y5, y6, y7, y8, y9], c) := wLst (by simp [lim])
theorem wTup11 {y0 y1 y2 y3 y4 y5 y6 y7 y8 y9 y10 : D} {c : Cs} : mkTup [y0, y1, y2, y3, y4, y5, y6, y7, y8, y9, y10] c = .ok (.tup [y0, y1, y2, y3, y4, y5, y6, y7, y8, y9, y10], c) := wTup (by simp [lim])
theorem wLst11 {y0 y1 y2 y3 y4 y5 y6 y7 y8 y9 y10 : D} {c : Cs} : mkLst [y0, y1, y2, y3, y4, y5, y6, y7, y8, y9, y10] c = .ok (.lst [y0, y1, y2, y3, y4, y5, y6, y7, y8, y9, y10], c) := wLst (by simp [lim])
theorem wTup12 {y0 y1 y2 y3 y4 y5 y6 y7 y8 y9 y10 y11 : D} {c : Cs} : mkTup [y0, y1, y2, y3, y4, y5, y6, y7, y8, y9, y10, y11] c = .ok (.tup [y0, y1, y2, y3, y4, y5, y6, y7, y8, y9, y10, y11], c) := wTup (by simp [lim])
theorem wLst12 {y0 y1 y2 y3 y4 y5 y6 y7 y8 y9 y10 y11 : D} {c : Cs} : mkLst [y0, y1, y2, y3, y4, y5, y6, y7, y8, y9, y10, y11] c = .ok (.lst [y0, y1, y2, y3, y4, y5, y6, y7, y8, y9, y10, y11], c) := wLst (by simp [lim])
theorem wTup13 {y0 y1 y2 y3 y4 y5 y6 y7 y8 y9 y10 y11 y12 : D} {c : Cs} : mkTup [y0, y1, y2, y3, y4, y5, y6, y7, y8, y9, y10, y11, y12] c = .ok (.tup [y0, y1, y2, y3, y4, y5, y6, y7, y8, y9, y10, y11, y12], c) := wTup (by simp [lim])
theorem wLst13 {y0 y1 y2 y3 y4 y5 y6 y7 y8 y9 y10 y11 y12 : D} {c : Cs} : mkLst [y0, y1, y2, y3, y4, y5, y6, y7, y8, y9, y10, y11, y12] c = .ok (.lst [y0, y1, y2, y3, y4, y5, y6, y7, y8, y9, y10, y11, y12], c) := wLst (by simp [lim])
theorem wTup14 {y0 y1 y2 y3 y4 y5 y6 y7 y8 y9 y10 y11 y12 y13 : D} {c : Cs} : mkTup [y0, y1, y2, y3, y4, y5, y6, y7, y8, y9, y10, y11, y12, y13] c = .ok (.tup [y0, y1, y2, y3, y4, y5, y6, y7, y8, y9, y10, y11, y12, y13], c) := wTup (by simp [lim])
theorem wLst14 {y0 y1 y2 y3 y4 y5 y6 y7 y8 y9 y10 y11 y12 y13 : D} {c : Cs} : mkLst [y0, y1, y2, y3, y4, y5, y6, y7, y8, y9, y10, y11, y12, y13] c = .ok (.lst [y0, y1, y2, y3, y4, y5, y6, y7, y8, y9, y10, y11, y12, y13], c) := wLst (by simp [lim])
theorem wTup15 {y0 y1 y2 y3 y4 y5 y6 y7 y8 y9 y10 y11 y12 y13 y14 : D} {c : Cs} : mkTup [y0, y1, y2, y3, y4, y5, y6, y7, y8, y9, y10, y11, y12, y13, y14] c = .ok (.tup [y0, y1, y2, y3, y4, y5, y6, y7, y8, y9, y10, y11, y12, y13, y14], c) := wTup (by simp [lim])
theorem wLst15 {y0 y1 y2 y3 y4 y5 y6 y7 y8 y9 y10 y11 y12 y13 y14 : D} {c : Cs} : mkLst [y0, y1, y2, y3, y4, y5, y6, y7, y8, y9, y10, y11, y12, y13, y14] c = .ok (.lst [y0, y1, y2, y3, y4, y5, y6, y7, y8, y9, y10, y11, y12, y13, y14], c) := wLst (by simp [lim])
def ev9 := And.intro @wCell0 <| And.intro @wTup0 <| And.intro @wLst0 <| And.intro @wCell1 <| And.intro @wTup1 <| And.intro @wLst1 <| And.intro @wCell2 <| And.intro @wTup2 <| And.intro @wLst2 <| And.intro @wCell3 <| And.intro @wTup3 <| And.intro @wLst3 <| And.intro @wTup4 <| And.intro @wLst4 <| And.intro @wTup5 <| And.intro @wLst5 <| And.intro @wTup6 <| And.intro @wLst6 <| And.intro @wTup7 <| And.intro @wLst7 <| And.intro @wTup8 <| And.intro @wLst8 <| And.intro @wTup9 <| And.intro @wLst9 <| And.intro @wTup10 <| And.intro @wLst10 <| And.intro @wTup11 <| And.intro @wLst11 <| And.intro @wTup12 <| And.intro @wLst12 <| And.intro @wTup13 <| And.intro @wLst13 <| And.intro @wTup14 <| And.intro @wLst14 <| And.intro @wTup15 <| @wLst15
def evs := And.intro @ev9 <| And.intro @ev0 <| And.intro @ev1 <| And.intro @ev2 <| And.intro @ev3 <| And.intro @ev4 <| And.intro @ev5 <| And.intro @ev6 <| And.intro @ev7 <| @ev8
/-! ### comprehensions, loops -/
theorem lc_pure {α : Type} {g : GF} {ft : TF} {fe : EF} {env : Env} {c : Cs} (φ : α → D) (P : α → Bool) (G : α → D) : ∀ (xs : List α) (acc : List D), (∀ x ∈ xs, ∃ e, g (φ x) env c = some (e, c) ∧ ft e c = .ok (P x, c) ∧ (P x = true → fe e c = .ok (G x, c))) → acc.length + xs.length ≤ lim →
    lcD g ft fe (xs.map φ) acc env c = .ok (acc ++ (xs.filter P).map G, c)
  | [], acc, _, _ => by simp [lcD]
  | x :: xs, acc, h, hl => by
    obtain ⟨e, h1, h2, h3⟩ := h x List.mem_cons_self
    rw [List.map_cons]
    unfold lcD
    rw [h1]
    simp only [h2, R.noe_ok, R.bind_ok]
    cases hp : P x with
    | false =>
      rw [if_neg Bool.false_ne_true, lc_pure φ P G xs acc (fun y hy => h y (List.mem_cons_of_mem _ hy)) (by simp at hl ⊢; omega)]
      rw [List.filter_cons_of_neg (by simp [hp])]
    | true =>
      rw [if_pos rfl, h3 hp]
      simp only [R.noe_ok, R.bind_ok]
      rw [if_pos (by simp at hl; omega), lc_pure φ P G xs _ (fun y hy => h y (List.mem_cons_of_mem _ hy)) (by simp at hl ⊢; omega)]
      rw [List.filter_cons_of_pos hp, List.map_cons, List.append_assoc]
      rfl
/-- each item made with what is drawn: what holds of each -/
theorem lc_inv {g : GF} {ft : TF} {fe : EF} {env : Env} (I : Cs → Prop) (Q : D → Prop) : ∀ (xs : List D) (acc : List D) (c : Cs), I c → (∀ x ∈ xs, ∀ c, I c → ∃ e c1 c', g x env c = some (e, c) ∧ ft e c = .ok (true, c1) ∧ ∃ d, fe e c1 = .ok (d, c') ∧ I c' ∧ Q d) → acc.length + xs.length ≤ lim →
    ∃ ds c', lcD g ft fe xs acc env c = .ok (acc ++ ds, c') ∧ I c' ∧ ds.length = xs.length ∧ ∀ d ∈ ds, Q d
  | [], acc, c, hI, _, _ => ⟨[], c, by simp [lcD], hI, rfl, by simp⟩
  | x :: xs, acc, c, hI, h, hl => by
    obtain ⟨e, c1, c', h1, h2, d, h3, h4, h5⟩ := h x List.mem_cons_self c hI
    obtain ⟨ds, c2, i1, i2, i3, i4⟩ := lc_inv I Q xs (acc ++ [d]) c' h4 (fun y hy => h y (List.mem_cons_of_mem _ hy)) (by simp at hl ⊢; omega)
    refine ⟨d :: ds, c2, ?_, i2, by simp [i3], ?_⟩
    · unfold lcD
      rw [h1]
      simp only [h2, R.noe_ok, R.bind_ok, if_pos, h3]
      rw [if_pos (by simp at hl; omega), i1, List.append_assoc]
      rfl
    · intro y hy
      rcases List.mem_cons.mp hy with rfl | hy
      · exact h5
      · exact i4 y hy
theorem for_inv {g : GF} {b : SF} (I : Env → Cs → Prop) : ∀ (xs : List D) (env : Env) (c : Cs), I env c → (∀ x ∈ xs, ∀ env c, I env c → ∃ e c1 e' c', g x env c = some (e, c1) ∧ b e c1 = .ok (.next, e', c') ∧ I e' c') → ∃ env' c', forD g b xs env c = .ok (.next, env', c') ∧ I env' c'
  | [], env, c, hI, _ => ⟨env, c, rfl, hI⟩
  | x :: xs, env, c, hI, h => by
    obtain ⟨e, c1, e', c', h1, h2, h3⟩ := h x List.mem_cons_self env c hI
    obtain ⟨env2, c2, i1, i2⟩ := for_inv I xs e' c' h3 fun y hy => h y (List.mem_cons_of_mem _ hy)
    refine ⟨env2, c2, ?_, i2⟩
    unfold forD
    rw [h1]
    simp only [h2, R.bind_ok]
    exact i1
end Mi
namespace Mi
open PySem L2
/-! ### plain data: equal to itself -/
mutual
def D.pn : Nat → D → Bool
  | _, .non => true
  | _, .bl _ => true
  | _, .int _ => true
  | _, .str x => PyData.strOk x
  | n + 1, .tup xs => pns n xs
  | n + 1, .lst xs => pns n xs
  | _, _ => false
def pns : Nat → List D → Bool
  | _, [] => true
  | n, x :: xs => D.pn n x && pns n xs
end
mutual
theorem pn_py : ∀ (n : Nat) (d : D), D.pn n d = true → ∃ p, d.py = some p ∧ p.canLay0 = true ∧ p.depth ≤ n
  | n, .non, _ => ⟨_, rfl, rfl, by simp [PyData.depth]⟩
  | n, .bl _, _ => ⟨_, rfl, rfl, by simp [PyData.depth]⟩
  | n, .int _, _ => ⟨_, rfl, rfl, by simp [PyData.depth]⟩
  | n, .str x, h => ⟨_, rfl, by simpa [D.pn, PyData.canLay0] using h, by simp [PyData.depth]⟩
  | n + 1, .tup xs, h => by
    obtain ⟨ps, e, h1, h2⟩ := pns_py n xs (by simpa [D.pn] using h)
    exact ⟨.tuple ps, by simp [D.py, e], by simpa [PyData.canLay0] using h1, by simpa [PyData.depth] using h2⟩
  | n + 1, .lst xs, h => by
    obtain ⟨ps, e, h1, h2⟩ := pns_py n xs (by simpa [D.pn] using h)
    exact ⟨.list ps, by simp [D.py, e], by simpa [PyData.canLay0] using h1, by simpa [PyData.depth] using h2⟩
  | 0, .tup xs, h => by simp [D.pn] at h
  | 0, .lst xs, h => by simp [D.pn] at h
  | n, .scr xs, h => by simp [D.pn] at h
  | n, .ref _, h => by simp [D.pn] at h
  | n, .raw _, h => by simp [D.pn] at h
theorem pns_py : ∀ (n : Nat) (ds : List D), pns n ds = true → ∃ p, pys ds = some p ∧ PyData.canLayAll0 p = true ∧ PyData.depthAll p ≤ n
  | n, [], _ => ⟨[], rfl, rfl, by simp [PyData.depthAll]⟩
  | n, x :: xs, h => by
    simp only [pns, Bool.and_eq_true] at h
    obtain ⟨p, e, h1, h2⟩ := pn_py n x h.1
    obtain ⟨ps, e', h3, h4⟩ := pns_py n xs h.2
    refine ⟨p :: ps, by simp [pys, e, e'], by simp [PyData.canLayAll0, h1, h3], ?_⟩
    simp only [PyData.depthAll]
    omega
end
mutual
theorem eqv_self : ∀ p : PyData, p.canLay0 = true → PyData.eqv p p = true
  | .none, _ => rfl
  | .bool _, _ => by simp [PyData.eqv]
  | .int _, _ => by simp [PyData.eqv]
  | .str _, _ => by simp [PyData.eqv]
  | .list xs, h => by simp only [PyData.eqv]; exact eqvAll_self xs (by simpa [PyData.canLay0] using h)
  | .tuple xs, h => by simp only [PyData.eqv]; exact eqvAll_self xs (by simpa [PyData.canLay0] using h)
  | .dict _, h => by simp [PyData.canLay0] at h
theorem eqvAll_self : ∀ p : List PyData, PyData.canLayAll0 p = true → PyData.eqvAll p p = true
  | [], _ => rfl
  | x :: xs, h => by
    simp only [PyData.canLayAll0, Bool.and_eq_true] at h
    simp only [PyData.eqvAll, eqv_self x h.1, eqvAll_self xs h.2, Bool.and_self]
end
theorem eqv_refl {n : Nat} {d : D} (hn : n ≤ 64) (h : d.pn n = true) : eqv d d = some true := by
  obtain ⟨p, e, h1, h2⟩ := pn_py n d h
  have sh : SeqAt.shaped p = true := by
    unfold SeqAt.shaped
    simp only [h1, Bool.true_and, decide_eq_true_eq]
    omega
  have := eqv_self p h1
  cases d <;> simp_all [eqv]
theorem eqv_nilL {n : Nat} {xs : List D} (hn : n < 64) (h : pns n xs = true) : eqv (.lst xs) (.lst []) = some xs.isEmpty := by
  obtain ⟨ps, e, h1, h2⟩ := pns_py n xs h
  have sh : SeqAt.shaped (.list ps) = true := by
    have z : (PyData.list ps).depth ≤ 64 := by
      have : (PyData.list ps).depth = PyData.depthAll ps + 1 := by simp only [PyData.depth]
      omega
    unfold SeqAt.shaped
    simp only [PyData.canLay0, h1, Bool.true_and, z, decide_true]
  have s0 : SeqAt.shaped (.list []) = true := by decide
  show (match (D.lst xs).py, (D.lst []).py with
    | some p, some q => if SeqAt.shaped p && SeqAt.shaped q then some (PyData.eqv p q) else none
    | _, _ => none) = _
  have e1 : (D.lst xs).py = some (.list ps) := by simp [D.py, e]
  have e0 : (D.lst []).py = some (.list []) := by simp [D.py, pys]
  rw [e1, e0]
  simp only [sh, s0, Bool.and_self, if_true]
  cases xs with
  | nil => cases ps with
    | nil => rfl
    | cons a b => simp [pys] at e
  | cons x xs => cases ps with
    | nil =>
      simp only [pys] at e
      split at e <;> simp at e
    | cons a b => simp [PyData.eqv, PyData.eqvAll]
theorem pns_map {α : Type} {f : α → D} {n : Nat} (h : ∀ x, (f x).pn n = true) : ∀ xs : List α, pns n (xs.map f) = true
  | [] => by simp [pns]
  | x :: xs => by simp [pns, h x, pns_map h xs]
theorem pns_ints (xs : List Int) (n : Nat) : pns n (xs.map D.int) = true := pns_map (fun x => by simp [D.pn]) xs
theorem wEqNilL {n : Nat} {xs : List D} {c : Cs} (hn : n < 64) (h : pns n xs = true) : eqD (.lst xs) (.lst []) c = .ok (.bl xs.isEmpty, c) := by
  unfold eqD
  show (match eqv (.lst xs) (.lst []) with
    | some t => R.ok (D.bl t, c)
    | none => .stuck) = _
  rw [eqv_nilL hn h]
theorem wNeNilL {n : Nat} {xs : List D} {c : Cs} (hn : n < 64) (h : pns n xs = true) : neD (.lst xs) (.lst []) c = .ok (.bl (!xs.isEmpty), c) := by
  unfold neD
  show (match eqv (.lst xs) (.lst []) with
    | some t => R.ok (D.bl (!t), c)
    | none => .stuck) = _
  rw [eqv_nilL hn h]
theorem deref_pn {c : Cs} {n : Nat} {d : D} (h : d.pn n = true) : deref c d = d := by
  cases d <;> first | rfl | (simp [D.pn] at h)
theorem wEqSelf {n : Nat} {d : D} {c : Cs} (hn : n ≤ 64) (h : d.pn n = true) : eqD d d c = .ok (.bl true, c) := by
  unfold eqD
  rw [deref_pn h, eqv_refl hn h]
theorem wNeSelf {n : Nat} {d : D} {c : Cs} (hn : n ≤ 64) (h : d.pn n = true) : neD d d c = .ok (.bl false, c) := by
  unfold neD
  rw [deref_pn h, eqv_refl hn h]; rfl
end Mi
namespace Mi
open PySem L2
/-! ### literal texts -/
theorem ofS_inj {a b : String} : (Str.ofString a = Str.ofString b) = (a = b) := by
  apply propext
  constructor
  · intro h
    rw [Str.ofString_eq_toList, Str.ofString_eq_toList] at h
    injection h with h
    have h : a.toList.map Char.toNat = b.toList.map Char.toNat := by simpa using h
    have inj : ∀ (x y : List Char), x.map Char.toNat = y.map Char.toNat → x = y := by
      intro x
      induction x with
      | nil => intro y h; cases y with
        | nil => rfl
        | cons _ _ => simp at h
      | cons c x ih => intro y h; cases y with
        | nil => simp at h
        | cons d y =>
          simp only [List.map_cons, List.cons.injEq] at h
          rw [ih y h.2]
          have : c = d := Char.ext (UInt32.toNat_inj.mp h.1)
          rw [this]
    exact String.ext (inj _ _ h)
  · rintro rfl; rfl

def inE (x : Str) : List D → Option Bool
  | [] => some false
  | .str y :: r => match inE x r with
    | some b => some (decide (y = x) || b)
    | none => none
  | _ => none
def inE' (x y : Str) (o : Option Bool) : Option Bool := match o with
  | some b => some (decide (y = x) || b)
  | none => none
theorem inE_0 {x : Str} : inE x [] = some false := rfl
theorem inE_S {x y : Str} {r : List D} : inE x (.str y :: r) = inE' x y (inE x r) := rfl
theorem inE_1 {x y : Str} {b : Bool} : inE' x y (some b) = some (decide (y = x) || b) := rfl
def kIn (c : Cs) (o : Option Bool) : R (D × Cs) := match o with
  | some b => .ok (.bl b, c)
  | none => .stuck
theorem kIn_1 {c : Cs} {b : Bool} : kIn c (some b) = .ok (.bl b, c) := rfl
theorem inE_flats {x : Str} : ∀ {ds : List D} {b : Bool}, inE x ds = some b → ∃ vs, flats ds = some vs ∧ inV (.str x) vs = b
  | [], b, h => by
    simp only [inE, Option.some.injEq] at h
    exact ⟨[], rfl, by simpa [inV] using h⟩
  | .str y :: r, b, h => by
    unfold inE at h
    split at h
    · rename_i b' h'
      obtain ⟨vs, e, q⟩ := inE_flats h'
      simp only [Option.some.injEq] at h
      refine ⟨.str y :: vs, by simp [flats, flat, e], ?_⟩
      rw [← h, ← q]
      unfold inV
      rw [List.any_cons]
      congr 1
    · cases h
  | .non :: r, b, h => by simp [inE] at h
  | .bl _ :: r, b, h => by simp [inE] at h
  | .int _ :: r, b, h => by simp [inE] at h
  | .tup _ :: r, b, h => by simp [inE] at h
  | .lst _ :: r, b, h => by simp [inE] at h
  | .scr _ :: r, b, h => by simp [inE] at h
  | .ref _ :: r, b, h => by simp [inE] at h
  | .raw _ :: r, b, h => by simp [inE] at h
theorem wInE {x : Str} {d : D} {ds : List D} {c : Cs} {b : Bool} (h0 : getDc c d = none) (hs : getS c d = some ds) (h : inE x ds = some b) : inD (.str x) d c = .ok (.bl b, c) := by
  obtain ⟨vs, e, q⟩ := inE_flats h
  unfold inD
  simp only [h0, hs, flat, e, q]
theorem wInT {x : Str} {ds : List D} {c : Cs} {b : Bool} (h : inE x ds = some b) : inD (.str x) (.tup ds) c = .ok (.bl b, c) := wInE dcT gsT h
theorem wInL {x : Str} {ds : List D} {c : Cs} {b : Bool} (h : inE x ds = some b) : inD (.str x) (.lst ds) c = .ok (.bl b, c) := wInE dcL gsL h
theorem inE_map {x : Str} : ∀ l : List Str, inE x (l.map D.str) = some (decide (x ∈ l))
  | [] => rfl
  | y :: l => by
    rw [List.map_cons, inE_S, inE_map l, inE_1]
    congr 1
    rw [Bool.eq_iff_iff, Bool.or_eq_true, decide_eq_true_eq, decide_eq_true_eq, decide_eq_true_eq, List.mem_cons]
    constructor
    · rintro (h | h)
      · exact .inl h.symm
      · exact .inr h
    · rintro (h | h)
      · exact .inl h.symm
      · exact .inr h
/-! dicts -/
theorem kv_0 {k : Str} : kv [] k = none := rfl
theorem kv_S {k a : Str} {d : D} {r : List (Str × D)} : kv ((a, d) :: r) k = if a = k then some d else kv r k := by
  unfold kv
  rw [List.find?_cons]
  by_cases h : a = k
  · simp [h]
  · simp [h]
theorem wInD {k : Str} {n : Nat} {kvs : List (Str × D)} {c : Cs} (h : c[n]? = some (.dct kvs)) : inD (.str k) (.ref n) c = .ok (.bl (kv kvs k).isSome, c) := by
  unfold inD
  rw [dcD h]
theorem kput_new {kvs : List (Str × D)} {k : Str} {v : D} (h : k ∉ kvs.map (·.1)) : kput kvs k v = kvs ++ [(k, v)] := by
  unfold kput
  rw [if_neg]
  simp only [List.any_eq_true, decide_eq_true_eq, not_exists, not_and]
  rintro p hp rfl
  exact h (List.mem_map_of_mem hp)
theorem kmerge_new : ∀ {more kvs : List (Str × D)}, ((kvs ++ more).map (·.1)).Nodup → kmerge kvs more = kvs ++ more
  | [], kvs, _ => by simp [kmerge]
  | p :: more, kvs, h => by
    have h1 : p.1 ∉ kvs.map (·.1) := by
      rw [List.map_append, List.map_cons, List.nodup_append] at h
      intro hm
      exact h.2.2 _ hm _ List.mem_cons_self rfl
    have e : kmerge kvs (p :: more) = kmerge (kput kvs p.1 p.2) more := rfl
    rw [e, kput_new h1, kmerge_new (by simpa using h)]
    simp
theorem vDd {kvs : List (Str × D)} {c : Cs} (hl : kvs.length ≤ 15) (hn : (kvs.map (·.1)).Nodup) : kD c.length (.ok (kvs.map fun p => (D.str p.1, p.2), c ++ [.dct []])) = .ok (.ref c.length, c ++ [.dct kvs]) := by
  have hk : ∀ l : List (Str × D), kvsD (l.map fun p => (D.str p.1, p.2)) = some l := by
    intro l
    induction l with
    | nil => rfl
    | cons p l ih => simp [kvsD, ih]
  show (match (c ++ [Cell.dct []])[c.length]?, kvsD _ with
    | some (.dct []), some kvs => if kvs.length ≤ 15 then R.ok (D.ref c.length, (c ++ [Cell.dct []]).set c.length (Cell.dct (kmerge [] kvs))) else .stuck
    | _, _ => .stuck) = _
  rw [hk]
  simp only [List.getElem?_append_right (Nat.le_refl _), Nat.sub_self, List.getElem?_cons_zero, hl, if_true]
  rw [kmerge_new (by simpa using hn)]
  simp
/-! a slot, a filter -/
theorem vE {i : Nat} {env : Env} {c : Cs} {d : D} (h : env[i]? = some (some d)) : dVar i env c = .ok (d, c) := by
  unfold dVar
  simp only [h]
theorem vSet {i : Nat} {env : Env} {c : Cs} {d : D} (h : i < env.length) : dVar i (env.set i (some d)) c = .ok (d, c) := vE (by rw [List.getElem?_set_self h])
def nats (l : List Nat) : List D := l.map fun n : Nat => D.int (n : Int)
theorem lc_at {j : Nat} {ft : TF} {env : Env} {c : Cs} {p : Nat → Bool} {l : List Nat} (hj : j < env.length) (h : ∀ n ∈ l, ft (env.set j (some (.int (n : Int)))) c = .ok (p n, c)) (hl : l.length ≤ lim) : lcD (gN j) ft (dVar j) (nats l) [] env c = .ok (nats (l.filter p), c) := by
  have := lc_pure (g := gN j) (ft := ft) (fe := dVar j) (env := env) (c := c) (fun n : Nat => D.int (n : Int)) p (fun n : Nat => D.int (n : Int)) l [] (fun n hn => ⟨_, rfl, h n hn, fun _ => vSet hj⟩) (by simpa using hl)
  simpa [nats] using this
end Mi
namespace Mi
open PySem
noncomputable section
def b_law_bag : SF := (sSeq (sAsg (dIf (dTb (d2 (dVar 1) (dA (dCons (dVar 0) dNil) lenD) ltD)) (dA (dCons (dA (dCons (d2 (dVar 0) (dVar 1) ixD) dNil) intD) dNil) absD) (d2 (d2 (dC (.int 41)) (dVar 1) mulD) (dC (.int 7)) addD)) (gN 2))
  (sRet (dA (dCons (dIf (dTb (d2 (dVar 2) (d2 (dC (.int 10)) (dC (.int 18)) powD) geD)) (dVar 2) (dC (.int 0))) (dCons (d2 (dA (dCons (d2 (d2 (d2 (dA (dCons (dVar 2) dNil) intD) (dC (.int 2147483549)) modD) (d2 (dC (.int 50021)) (dVar 1) mulD) addD) (dC (.int 23)) addD) dNil) intD) (dC (.int 2147483549)) modD) dNil)) mkCell)))
def F_law_bag : DF := (fnD 2 3 b_law_bag)
def b_law_take : SF := (sSeq (sIf (dTb (d2 (d2 (dVar 0) (dC (.int 0)) ixD) (dC (.int 0)) gtD))
  (sSeq (sAsg (d2 (dA (dCons (d2 (dVar 0) (dC (.int 0)) ixD) dNil) intD) (dVar 1) modD) (gN 2))
  (sSeq (sSub (d2 (dA (dCons (d2 (dVar 0) (dC (.int 0)) ixD) dNil) intD) (dVar 1) divD) (dVar 0) (dC (.int 0)))
  (sRet (dVar 2))))
  sNext)
  (sSeq (sSub (d2 (dA (dCons (d2 (d2 (d2 (dVar 0) (dC (.int 1)) ixD) (dC (.int 44485)) mulD) (dC (.int 709)) addD) dNil) intD) (dC (.int 2147483549)) modD) (dVar 0) (dC (.int 1)))
  (sSeq (sAsg (d2 (d2 (dA (dCons (d2 (dVar 0) (dC (.int 1)) ixD) dNil) intD) (d2 (d2 (dA (dCons (d2 (dVar 0) (dC (.int 1)) ixD) dNil) intD) (dC (.int 5)) divD) (dC (.int 17)) addD) mulD) (dC (.int 2147483497)) modD) (gN 3))
  (sRet (d2 (dA (dCons (d2 (dA (dCons (dVar 3) dNil) intD) (dC (.int 14)) divD) dNil) intD) (dVar 1) modD)))))
def F_law_take : DF := (fnD 2 4 b_law_take)
def b_law_of : SF := (sRet (d2 (dVar 1) (dA (dCons (dVar 0) (dCons (dA (dCons (dVar 1) dNil) lenD) dNil)) (callD 2 F_law_take [])) ixD))
def F_law_of : DF := (fnD 2 2 b_law_of)
def b_law_row : SF := (sSeq (sAsg (dA (dCons (dVar 0) (dCons (d2 (dVar 1) (dC (.int 1)) addD) dNil)) (callD 2 F_law_take [])) (gN 2))
  (sSeq (sAsg (dA (dCons (dVar 0) (dCons (dA (dCons (dC (.int 2)) (dCons (dC (.int 3)) (dCons (dC (.int 5)) (dCons (d2 (dVar 2) (dC (.int 1)) addD) dNil)))) mkLst) dNil)) (callD 2 F_law_of [])) (gN 3))
  (sRet (dA (dCons (dLc [4] (dItA (dCons (dVar 2) dNil) rng1) (gN 4) dYes (dA (dCons (dVar 0) (dCons (dVar 3) dNil)) (callD 2 F_law_take []))) dNil) tupD))))
def F_law_row : DF := (fnD 2 5 b_law_row)
def b_is_number : SF := (sRet (dAndV (dA (dCons (dVar 0) (dCons (dC (.raw (.ty "int"))) dNil)) isiD) (d1 (dA (dCons (dVar 0) (dCons (dC (.raw (.ty "bool"))) dNil)) isiD) notD)))
def F_is_number : DF := (fnD 1 1 b_is_number)
def b_is_row : SF := (sRet (dAndV (dA (dCons (dVar 0) (dCons (dC (.raw (.ty "tuple"))) dNil)) isiD) (dAndV (d2 (dA (dCons (dVar 0) dNil) lenD) (dC (.int 40)) leD) (dA (dCons (dLc [1] (dIt (dVar 0)) (gN 1) dYes (dA (dCons (dVar 1) dNil) (callD 1 F_is_number []))) dNil) allD))))
def F_is_row : DF := (fnD 1 2 b_is_row)
def c_ASKINGS : D := .tup [.str "all over", .str "all same", .str "behind same", .str "first fall", .str "first not under", .str "first over", .str "first same", .str "first twice", .str "just one", .str "last same", .str "last under", .str "rising", .str "some same", .str "twins"]
def b_law_words : SF := (sSeq (sAsg (dA (dCons (dC (.str "all over")) (dCons (dC (.str "all same")) (dCons (dC (.str "behind same")) (dCons (dC (.str "first fall")) (dCons (dC (.str "first not under")) (dCons (dC (.str "first over")) (dCons (dC (.str "first same")) dNil))))))) mkLst) (gN 0))
  (sRet (d2 (dVar 0) (dA (dCons (dC (.str "first twice")) (dCons (dC (.str "just one")) (dCons (dC (.str "last same")) (dCons (dC (.str "last under")) (dCons (dC (.str "rising")) (dCons (dC (.str "some same")) (dCons (dC (.str "twins")) dNil))))))) mkLst) addD)))
def F_law_words : DF := (fnD 0 1 b_law_words)
def b_need_row : SF := (sIf (dNot (dTt (dA (dCons (dVar 0) dNil) (callD 1 F_is_row []))))
  sStuck
  sNext)
def F_need_row : DF := (fnD 1 1 b_need_row)
def b_law_key : SF := (sRet (dA (dCons (dVar 0) (dCons (d2 (dA (dCons (dVar 1) dNil) listD) (dA (dCons (dC (.int 1)) (dCons (dC (.int 2)) (dCons (dC (.int 0)) (dCons (dC (.int 3)) dNil)))) mkLst) addD) dNil)) (callD 2 F_law_of [])))
def F_law_key : DF := (fnD 2 2 b_law_key)
def b_is_one_of_2 : SF := (sRet (dAndV (dA (dCons (dVar 0) (dCons (dC (.raw (.ty "str"))) dNil)) isiD) (d2 (dVar 0) (dVar 1) inD)))
def F_is_one_of_2 : DF := (fnD 2 2 b_is_one_of_2)
def b_need_key : SF := (sIf (dNot (dTt (dA (dCons (dVar 0) dNil) (callD 1 F_is_number []))))
  sStuck
  sNext)
def F_need_key : DF := (fnD 1 1 b_need_key)
def b_is_asking_2 : SF := (sRet (dA (dCons (dVar 0) (dCons (dC c_ASKINGS) dNil)) (callD 2 F_is_one_of_2 [])))
def F_is_asking_2 : DF := (fnD 1 1 b_is_asking_2)
def b_need_asking : SF := (sIf (dNot (dTt (dA (dCons (dVar 0) dNil) (callD 1 F_is_asking_2 []))))
  sStuck
  sNext)
def F_need_asking : DF := (fnD 1 1 b_need_asking)
def b_first_of : SF := (sRet (dIf (dTb (d2 (dVar 0) (dA dNil mkLst) neD)) (d2 (dVar 0) (dC (.int 0)) ixD) (dC .non)))
def F_first_of : DF := (fnD 1 1 b_first_of)
def b_falls_in : SF := (sRet (dLc [1] (dIt (d2 (dC (.int 1)) (dA (dCons (dVar 0) dNil) lenD) lrg2D)) (gN 1) (dTb (d2 (d2 (dVar 0) (dVar 1) ixD) (d2 (dVar 0) (d2 (dVar 1) (dC (.int 1)) subD) ixD) ltD)) (dVar 1)))
def F_falls_in : DF := (fnD 1 2 b_falls_in)
def b_twins_in : SF := (sRet (dLc [1] (dIt (d2 (dC (.int 1)) (dA (dCons (dVar 0) dNil) lenD) lrg2D)) (gN 1) (dTb (d2 (d2 (dVar 0) (dVar 1) ixD) (d2 (dVar 0) (d2 (dVar 1) (dC (.int 1)) subD) ixD) eqD)) (dVar 1)))
def F_twins_in : DF := (fnD 1 2 b_twins_in)
def b_place_asked : SF := (sSeq (sIf (dTb (d2 (dVar 0) (dC (.str "first same")) eqD))
  (sRet (dA (dCons (dLc [3, 4] (dItA (dCons (dVar 2) dNil) enumD) (gT 2 (gsCons (gN 3) (gsCons (gN 4) gsNil))) (dTb (d2 (dVar 4) (dVar 1) eqD)) (dVar 3)) dNil) (callD 1 F_first_of [])))
  sNext)
  (sSeq (sIf (dTb (d2 (dVar 0) (dC (.str "last same")) eqD))
  (sRet (dA (dCons (d1 (dLc [3, 4] (dItA (dCons (dVar 2) dNil) enumD) (gT 2 (gsCons (gN 3) (gsCons (gN 4) gsNil))) (dTb (d2 (dVar 4) (dVar 1) eqD)) (dVar 3)) revD) dNil) (callD 1 F_first_of [])))
  sNext)
  (sSeq (sIf (dTb (d2 (dVar 0) (dC (.str "first over")) eqD))
  (sRet (dA (dCons (dLc [3, 4] (dItA (dCons (dVar 2) dNil) enumD) (gT 2 (gsCons (gN 3) (gsCons (gN 4) gsNil))) (dTb (d2 (dVar 4) (dVar 1) gtD)) (dVar 3)) dNil) (callD 1 F_first_of [])))
  sNext)
  (sSeq (sIf (dTb (d2 (dVar 0) (dC (.str "last under")) eqD))
  (sRet (dA (dCons (d1 (dLc [3, 4] (dItA (dCons (dVar 2) dNil) enumD) (gT 2 (gsCons (gN 3) (gsCons (gN 4) gsNil))) (dTb (d2 (dVar 4) (dVar 1) ltD)) (dVar 3)) revD) dNil) (callD 1 F_first_of [])))
  sNext)
  (sSeq (sIf (dTb (d2 (dVar 0) (dC (.str "first not under")) eqD))
  (sRet (dA (dCons (d2 (dLc [3, 4] (dItA (dCons (dVar 2) dNil) enumD) (gT 2 (gsCons (gN 3) (gsCons (gN 4) gsNil))) (dTb (d2 (dVar 4) (dVar 1) geD)) (dVar 3)) (dA (dCons (dA (dCons (dVar 2) dNil) lenD) dNil) mkLst) addD) dNil) (callD 1 F_first_of [])))
  sNext)
  (sSeq (sIf (dTb (d2 (dVar 0) (dC (.str "behind same")) eqD))
  (sRet (dA (dCons (d2 (dLc [3, 4] (dItA (dCons (dVar 2) dNil) enumD) (gT 2 (gsCons (gN 3) (gsCons (gN 4) gsNil))) (dTb (d2 (dVar 4) (dVar 1) gtD)) (dVar 3)) (dA (dCons (dA (dCons (dVar 2) dNil) lenD) dNil) mkLst) addD) dNil) (callD 1 F_first_of [])))
  sNext)
  (sRet (dIf (dTb (d2 (dVar 0) (dC (.str "first fall")) eqD)) (dA (dCons (dA (dCons (dVar 2) dNil) (callD 1 F_falls_in [])) dNil) (callD 1 F_first_of [])) (dA (dCons (dA (dCons (dVar 2) dNil) (callD 1 F_twins_in [])) dNil) (callD 1 F_first_of []))))))))))
def F_place_asked : DF := (fnD 3 5 b_place_asked)
def b_truth_asked : SF := (sSeq (sAsg (dA (dCons (dLc [4] (dIt (dVar 2)) (gN 4) (dTb (d2 (dVar 4) (dVar 1) eqD)) (dVar 4)) dNil) lenD) (gN 3))
  (sSeq (sIf (dTb (d2 (dVar 0) (dC (.str "some same")) eqD))
  (sRet (d2 (dVar 3) (dC (.int 0)) gtD))
  sNext)
  (sSeq (sIf (dTb (d2 (dVar 0) (dC (.str "just one")) eqD))
  (sRet (d2 (dVar 3) (dC (.int 1)) eqD))
  sNext)
  (sSeq (sIf (dTb (d2 (dVar 0) (dC (.str "all same")) eqD))
  (sRet (d2 (dVar 3) (dA (dCons (dVar 2) dNil) lenD) eqD))
  sNext)
  (sSeq (sIf (dTb (d2 (dVar 0) (dC (.str "all over")) eqD))
  (sRet (dA (dCons (dLc [4] (dIt (dVar 2)) (gN 4) dYes (d2 (dVar 4) (dVar 1) gtD)) dNil) allD))
  sNext)
  (sRet (dIf (dTb (d2 (dVar 0) (dC (.str "rising")) eqD)) (d2 (dA (dCons (dVar 2) dNil) (callD 1 F_falls_in [])) (dA dNil mkLst) eqD) (d2 (dA (dCons (dVar 2) dNil) (callD 1 F_twins_in [])) (dA dNil mkLst) neD))))))))
def F_truth_asked : DF := (fnD 3 5 b_truth_asked)
def b_answer_asked : SF := (sSeq (sIf (dTb (d2 (dVar 0) (dA (dCons (dC (.str "some same")) (dCons (dC (.str "just one")) (dCons (dC (.str "all same")) (dCons (dC (.str "all over")) (dCons (dC (.str "rising")) (dCons (dC (.str "twins")) dNil)))))) mkTup) inD))
  (sRet (dA (dCons (dVar 0) (dCons (dVar 1) (dCons (dVar 2) dNil))) (callD 3 F_truth_asked [])))
  sNext)
  (sRet (dA (dCons (dVar 0) (dCons (dVar 1) (dCons (dVar 2) dNil))) (callD 3 F_place_asked []))))
def F_answer_asked : DF := (fnD 3 3 b_answer_asked)
def b_asked : SF := (sSeq (sEx (dA (dCons (dVar 0) dNil) (callD 1 F_need_asking [])))
  (sSeq (sEx (dA (dCons (dVar 1) dNil) (callD 1 F_need_key [])))
  (sSeq (sEx (dA (dCons (dVar 2) dNil) (callD 1 F_need_row [])))
  (sRet (dA (dCons (dVar 0) (dCons (dVar 1) (dCons (dVar 2) dNil))) (callD 3 F_answer_asked []))))))
def F_asked : DF := (fnD 3 3 b_asked)
def b_law_asked : SF := (sSeq (sAsg (d1 (dA (dCons (dVar 2) dNil) lenD) lrg1D) (gN 3))
  (sSeq (sPar 4 5 (dCons (dLc [11] (dIt (dVar 3)) (gN 11) (dTb (d2 (d2 (dVar 2) (dVar 11) ixD) (dVar 1) eqD)) (dVar 11)) (dCons (dLc [11] (dIt (dVar 3)) (gN 11) (dTb (d2 (d2 (dVar 2) (dVar 11) ixD) (dVar 1) gtD)) (dVar 11)) dNil)))
  (sSeq (sAsg (dLc [11] (dIt (dVar 3)) (gN 11) (dTb (d2 (d2 (dVar 2) (dVar 11) ixD) (dVar 1) ltD)) (dVar 11)) (gN 6))
  (sSeq (sAsg (dLc [11] (dIt (dSl (dVar 3) (oSome (dC (.int 1))) oNone)) (gN 11) (dTb (d2 (d2 (dVar 2) (d2 (dVar 11) (dC (.int 1)) subD) ixD) (d2 (dVar 2) (dVar 11) ixD) gtD)) (dVar 11)) (gN 7))
  (sSeq (sAsg (dLc [11] (dIt (dSl (dVar 3) (oSome (dC (.int 1))) oNone)) (gN 11) (dTb (d2 (d2 (dVar 2) (d2 (dVar 11) (dC (.int 1)) subD) ixD) (d2 (dVar 2) (dVar 11) ixD) eqD)) (dVar 11)) (gN 8))
  (sSeq (sAsg (dDisp (((dC (.str "some same")), (d2 (dVar 4) (dA dNil mkLst) neD)) :: (((dC (.str "just one")), (d2 (dA (dCons (dVar 4) dNil) lenD) (dC (.int 1)) eqD)) :: (((dC (.str "all same")), (d2 (d2 (dVar 6) (dVar 5) addD) (dA dNil mkLst) eqD)) :: [])))) (gN 9))
  (sSeq (sEx (dM "dict" (dVar 9) (dCons (dDisp (((dC (.str "all over")), (d2 (d2 (dVar 6) (dVar 4) addD) (dA dNil mkLst) eqD)) :: (((dC (.str "rising")), (d2 (dVar 7) (dA dNil mkLst) eqD)) :: (((dC (.str "twins")), (d2 (dVar 8) (dA dNil mkLst) neD)) :: [])))) dNil) updD))
  (sSeq (sIf (dTb (d2 (dVar 0) (dVar 9) inD))
  (sRet (d2 (dVar 9) (dVar 0) ixD))
  sNext)
  (sSeq (sIf (dTb (d2 (dVar 0) (dA (dCons (dC (.str "last same")) (dCons (dC (.str "last under")) dNil)) mkLst) inD))
  (sAsg (dIf (dTb (d2 (dVar 0) (dC (.str "last same")) eqD)) (dSl (dVar 4) (oSome (d1 (dC (.int 1)) negD)) oNone) (dSl (dVar 6) (oSome (d1 (dC (.int 1)) negD)) oNone)) (gN 10))
  (sIf (dTb (d2 (dVar 0) (dA (dCons (dC (.str "first not under")) (dCons (dC (.str "behind same")) dNil)) mkLst) inD))
  (sAsg (d2 (dA (dCons (dIf (dTb (d2 (dVar 0) (dC (.str "first not under")) eqD)) (d2 (dVar 4) (dVar 5) addD) (dVar 5)) dNil) sortedD) (dA (dCons (dA (dCons (dVar 2) dNil) lenD) dNil) mkLst) addD) (gN 10))
  (sAsg (d2 (dDisp (((dC (.str "first same")), (dVar 4)) :: (((dC (.str "first over")), (dVar 5)) :: (((dC (.str "first fall")), (dVar 7)) :: (((dC (.str "first twice")), (dVar 8)) :: []))))) (dVar 0) ixD) (gN 10))))
  (sRet (dIf (dTb (d2 (dVar 10) (dA dNil mkLst) neD)) (d2 (dVar 10) (dC (.int 0)) ixD) (dC .non))))))))))))
def F_law_asked : DF := fnT (fnD 3 12 b_law_asked)
def b_law_k03 : SF := (sSeq (sFor (dItA (dCons (dA (dCons (dC (.int 4)) (dCons (dA (dCons (dC (.int 12)) (dCons (d2 (dA (dCons (dVar 0) dNil) lenD) (dC (.int 3)) addD) dNil)) minD) dNil)) maxD) dNil) rng1) (gN 1)
  (sSeq (sAsg (dA (dCons (dVar 0) (dCons (dVar 1) dNil)) (callD 2 F_law_bag [])) (gN 2))
  (sFor (dIt (dA (dCons (dA (dCons (dVar 2) (dCons (dC (.int 4)) dNil)) (callD 2 F_law_row [])) (dCons (dA (dCons (dVar 2) (dCons (dC (.int 9)) dNil)) (callD 2 F_law_row [])) (dCons (dA (dCons (dVar 2) (dCons (dC (.int 40)) dNil)) (callD 2 F_law_row [])) (dCons (dA dNil mkTup) dNil)))) mkLst)) (gN 3)
  (sSeq (sAsg (dA (dCons (dVar 2) (dCons (dVar 3) dNil)) (callD 2 F_law_key [])) (gN 4))
  (sFor (dIt (dCall0 F_law_words)) (gN 5)
  (sSeq (sPar 6 7 (dCons (dA (dCons (dVar 5) (dCons (dVar 4) (dCons (dVar 3) dNil))) (callD 3 F_asked [])) (dCons (dA (dCons (dVar 5) (dCons (dVar 4) (dCons (dVar 3) dNil))) (callD 3 F_law_asked [])) dNil)))
  (sIf (dOr (dTb (d2 (dVar 6) (dVar 7) neD)) (dTb (d2 (dA (dCons (dVar 6) (dCons (dC (.raw (.ty "bool"))) dNil)) isiD) (dA (dCons (dVar 7) (dCons (dC (.raw (.ty "bool"))) dNil)) isiD) neD)))
  (sRet (dC (.bl false)))
  sNext)))))))
  (sRet (dC (.bl true))))
def F_law_k03 : DF := fnT (fnD 1 8 b_law_k03)
end
end Mi
namespace Mi
open PySem L2
/-! ### what is drawn -/
def Bag (c : Cs) (b : Nat) : Prop := ∃ x y : Int, c[b]? = some (.lst [.int x, .int y])
def Upd (c : Cs) (b : Nat) (c' : Cs) : Prop := ∃ x y : Int, c' = c.set b (.lst [.int x, .int y])
theorem Bag.lt {c : Cs} {b : Nat} (h : Bag c b) : b < c.length := by
  obtain ⟨x, y, h⟩ := h
  exact (List.getElem?_eq_some_iff.mp h).1
theorem Upd.bag {c c' : Cs} {b : Nat} (h : Bag c b) (u : Upd c b c') : Bag c' b := by
  obtain ⟨x, y, rfl⟩ := u
  exact ⟨x, y, List.getElem?_set_self h.lt⟩
theorem set_same {α : Type} {l : List α} {i : Nat} {a : α} (h : l[i]? = some a) : l.set i a = l := by
  apply List.ext_getElem?
  intro j
  rw [List.getElem?_set]
  split
  · rename_i e
    subst e
    rw [h, if_pos (List.getElem?_eq_some_iff.mp h).1]
  · rfl
theorem Upd.refl {c : Cs} {b : Nat} (h : Bag c b) : Upd c b c := by
  obtain ⟨x, y, h⟩ := h
  exact ⟨x, y, (set_same h).symm⟩
theorem Upd.len {c c' : Cs} {b : Nat} (u : Upd c b c') : c'.length = c.length := by
  obtain ⟨x, y, rfl⟩ := u
  simp
theorem Upd.trans {c c' c2 : Cs} {b : Nat} (u : Upd c b c') (v : Upd c' b c2) : Upd c b c2 := by
  obtain ⟨x, y, rfl⟩ := u
  obtain ⟨z, t, rfl⟩ := v
  exact ⟨z, t, List.set_set ..⟩
theorem sp_take {c : Cs} {b : Nat} {m : Int} (h : Bag c b) (hm : 0 < m) (h2 : m < 2 ^ 63) : ∃ (r : Int) (c' : Cs), F_law_take [.ref b, .int m] c = .ok (.int r, c') ∧ 0 ≤ r ∧ r < m ∧ Upd c b c' := by
  obtain ⟨x, y, hc⟩ := h
  have hb : b < c.length := (List.getElem?_eq_some_iff.mp hc).1
  have hm2 : m.natAbs < 2 ^ 100 := by omega
  unfold F_law_take b_law_take
  by_cases hx : 0 < x
  · refine ⟨x % m, c.set b (.lst [.int (x / m), .int y]), ?_, Int.emod_nonneg _ (by omega), Int.emod_lt_of_pos _ hm, _, _, rfl⟩
    simp only [evs, wIxR hc atI_0, wIxR hc atI_1, hx, decide_true, wMod hm, wDiv hm hm2, setD_0 hc]
  · have hy0 : 0 ≤ (y * 44485 + 709) % 2147483549 := Int.emod_nonneg _ (by omega)
    have hy1 : (y * 44485 + 709) % 2147483549 < 2147483549 := Int.emod_lt_of_pos _ (by omega)
    generalize hy : (y * 44485 + 709) % 2147483549 = z at hy0 hy1
    have hc1 : (c.set b (.lst [.int x, .int z]))[b]? = some (.lst [.int x, .int z]) := List.getElem?_set_self hb
    refine ⟨z * (z / 5 + 17) % 2147483497 / 14 % m, c.set b (.lst [.int x, .int z]), ?_, Int.emod_nonneg _ (by omega), Int.emod_lt_of_pos _ hm, _, _, rfl⟩
    simp only [evs, wIxR hc atI_0, wIxR hc atI_1, hx, decide_false, wMod hm, wMulR (j := 44485) (by decide), wMod (j := 2147483549) (by decide), hy, setD_1 hc, wIxR hc1 atI_1, wDiv (j := 5) (by decide) (by decide), wMulL (i := z) (by omega), wMod (j := 2147483497) (by decide), wDiv (j := 14) (by decide) (by decide)]
theorem atI_mem {xs : List D} {i : Int} (h0 : 0 ≤ i) (h1 : i < xs.length) : ∃ d ∈ xs, atI xs i = some d := by
  obtain ⟨k, rfl⟩ := Int.eq_ofNat_of_zero_le h0
  have hk : k < xs.length := by omega
  exact ⟨xs[k], List.getElem_mem hk, by show atI xs (k : Int) = _; rw [atI_nat, List.getElem?_eq_getElem hk]⟩
theorem sp_of {c : Cs} {b : Nat} {xs : List D} (h : Bag c b) (h0 : xs ≠ []) (h2 : xs.length ≤ lim) : ∃ (d : D) (c' : Cs), F_law_of [.ref b, .lst xs] c = .ok (d, c') ∧ d ∈ xs ∧ Upd c b c' := by
  unfold lim at h2
  have hp : 0 < xs.length := List.length_pos_iff.mpr h0
  obtain ⟨r, c', h1, r0, r1, u⟩ := sp_take (m := xs.length) h (by omega) (by omega)
  obtain ⟨d, hd, e⟩ := atI_mem r0 r1
  refine ⟨d, c', ?_, hd, u⟩
  unfold F_law_of b_law_of
  simp only [evs, h1, wIxL e]
theorem sp_bag0 {c : Cs} {ds : List D} {k : Nat} {z : Int} (hl : k < 2 ^ 40) (h : (k < ds.length ∧ ∃ y, ds[k]? = some (.int y) ∧ z = (if y < 0 then -y else y)) ∨ (ds.length ≤ k ∧ z = 41 * k + 7)) : ∃ x y, F_law_bag [.scr ds, .int k] c = .ok (.ref c.length, c ++ [.lst [.int x, .int y]]) := by
  have e18 : powD (.int 10) (.int 18) c = .ok (.int 1000000000000000000, c) := rfl
  unfold F_law_bag b_law_bag
  have m1 : mulD (.int 50021) (.int k) c = .ok (.int (50021 * k), c) := wMulL (by decide)
  have m2 : mulD (.int 41) (.int k) c = .ok (.int (41 * k), c) := wMulL (by decide)
  rcases h with ⟨hk, y, hy, rfl⟩ | ⟨hk, rfl⟩
  · have hx : ixD (.scr ds) (.int k) c = .ok (.int y, c) := wIxS (by rw [atI_nat]; exact hy)
    have hk : (k : Int) < ds.length := by omega
    generalize hz : (if y < 0 then -y else y) = z
    by_cases h18 : 1000000000000000000 ≤ z
    · refine ⟨z, (z % 2147483549 + 50021 * k + 23) % 2147483549, ?_⟩
      simp only [evs, hk, decide_true, hx, e18, h18, m1, hz, wMod (j := 2147483549) (by decide)]
    · refine ⟨0, (z % 2147483549 + 50021 * k + 23) % 2147483549, ?_⟩
      simp only [evs, hk, decide_true, hx, e18, h18, decide_false, m1, hz, wMod (j := 2147483549) (by decide)]
  · have hk : ¬ (k : Int) < ds.length := by omega
    have h18 : ¬ (1000000000000000000 : Int) ≤ 41 * k + 7 := by omega
    refine ⟨0, ((41 * k + 7) % 2147483549 + 50021 * k + 23) % 2147483549, ?_⟩
    simp only [evs, hk, decide_false, e18, h18, m1, m2, wMod (j := 2147483549) (by decide)]
theorem sp_bag {c : Cs} {ns : List Int} {k : Nat} (hl : k < 2 ^ 40) : ∃ c', F_law_bag [.scr (ns.map D.int), .int k] c = .ok (.ref c.length, c') ∧ Bag c' c.length ∧ ∃ o, c' = c ++ [o] := by
  have key : ∃ x y, F_law_bag [.scr (ns.map D.int), .int k] c = .ok (.ref c.length, c ++ [.lst [.int x, .int y]]) := by
    by_cases hk : k < ns.length
    · exact sp_bag0 (z := if ns[k] < 0 then -ns[k] else ns[k]) hl (.inl ⟨by simpa using hk, ns[k], by simp [hk], rfl⟩)
    · exact sp_bag0 (z := 41 * k + 7) hl (.inr ⟨by simpa using hk, rfl⟩)
  obtain ⟨x, y, e⟩ := key
  exact ⟨_, e, ⟨x, y, by simp⟩, _, rfl⟩
end Mi
namespace Mi
open PySem L2
/-! ### a row, a key -/
theorem ints_of {ds : List D} (h : ∀ d ∈ ds, ∃ i, d = D.int i) : ∃ ns : List Int, ds = ns.map D.int := by
  induction ds with
  | nil => exact ⟨[], rfl⟩
  | cons d ds ih =>
    obtain ⟨i, rfl⟩ := h d List.mem_cons_self
    obtain ⟨ns, rfl⟩ := ih fun d hd => h d (List.mem_cons_of_mem _ hd)
    exact ⟨i :: ns, rfl⟩
theorem rngD_len {i : Int} {n : Nat} : (rngD i n).length = n := by simp [rngD]
theorem sp_row {c : Cs} {b : Nat} {m : Int} (h : Bag c b) (h0 : 0 ≤ m) (h1 : m ≤ 100) : ∃ (row : List Int) (c' : Cs), F_law_row [.ref b, .int m] c = .ok (.tup (row.map D.int), c') ∧ row.length ≤ m ∧ Upd c b c' := by
  obtain ⟨s, c1, e1, s0, s1, u1⟩ := sp_take (m := m + 1) h (by omega) (by omega)
  have b1 := Upd.bag h u1
  obtain ⟨d, c2, e2, hd, u2⟩ := sp_of (xs := [.int 2, .int 3, .int 5, .int (s + 1)]) b1 (by simp) (by simp [lim])
  have b2 := Upd.bag b1 u2
  have hd : ∃ q : Int, d = .int q ∧ 0 < q ∧ q < 2 ^ 63 := by
    simp only [List.mem_cons, List.not_mem_nil, or_false] at hd
    rcases hd with rfl | rfl | rfl | rfl
    · exact ⟨2, rfl, by decide, by decide⟩
    · exact ⟨3, rfl, by decide, by decide⟩
    · exact ⟨5, rfl, by decide, by decide⟩
    · exact ⟨s + 1, rfl, by omega, by omega⟩
  obtain ⟨q, rfl, q0, q1⟩ := hd
  obtain ⟨ds, c3, e3, ⟨b3, u3⟩, hl, hds⟩ := lc_inv (g := gN 4) (ft := dYes) (fe := dA (dCons (dVar 0) (dCons (dVar 3) dNil)) (callD 2 F_law_take [])) (env := [some (.ref b), some (.int m), some (.int s), some (.int q), none]) (fun c' => Bag c' b ∧ Upd c2 b c') (fun d => ∃ i, d = .int i) (rngD 0 s.toNat) [] c2
    ⟨b2, Upd.refl b2⟩ (fun x _ c hc => by
      obtain ⟨r, c', e, _, _, u⟩ := sp_take (m := q) hc.1 q0 q1
      refine ⟨[some (.ref b), some (.int m), some (.int s), some (.int q), some x], c, c', rfl, rfl, .int r, ?_, ⟨Upd.bag hc.1 u, hc.2.trans u⟩, r, rfl⟩
      simp only [evs, e]) (by rw [rngD_len]; simp [lim]; omega)
  obtain ⟨row, rfl⟩ := ints_of hds
  refine ⟨row, c3, ?_, by rw [List.length_map, rngD_len] at hl; omega, u1.trans (u2.trans u3)⟩
  have hr : inR s = true := by unfold inR; simp; omega
  unfold F_law_row b_law_row
  simp only [evs, e1, e2, wRng1 hr, e3, List.nil_append]
theorem sp_key {c : Cs} {b : Nat} {row : List Int} (h : Bag c b) (hl : row.length ≤ 100) : ∃ (k : Int) (c' : Cs), F_law_key [.ref b, .tup (row.map D.int)] c = .ok (.int k, c') ∧ Upd c b c' := by
  obtain ⟨d, c', e, hd, u⟩ := sp_of (xs := row.map D.int ++ [.int 1, .int 2, .int 0, .int 3]) h (by simp) (by simp [lim]; omega)
  have : ∃ k : Int, d = .int k := by
    simp only [List.mem_append, List.mem_map, List.mem_cons, List.not_mem_nil, or_false] at hd
    rcases hd with ⟨k, _, rfl⟩ | rfl | rfl | rfl | rfl <;> exact ⟨_, rfl⟩
  obtain ⟨k, rfl⟩ := this
  refine ⟨k, c', ?_, u⟩
  unfold F_law_key b_law_key
  simp only [evs, wAddL (c := c) (xs := row.map D.int) (ys := [.int 1, .int 2, .int 0, .int 3]) (by simp [lim]; omega), e]
/-! ### the places -/
theorem nats_ints (l : List Nat) : nats l = (l.map fun n : Nat => (n : Int)).map D.int := by simp [nats]
theorem rngD_0 {n : Nat} : rngD 0 n = nats (List.range n) := by simp [rngD, nats]
theorem rngD_1 {n : Nat} : rngD 1 n = nats (List.range' 1 n) := by
  rw [List.range'_eq_map_range]
  simp [rngD, nats]
/-- the places at which p holds -/
def sel (p : Nat → Int → Bool) : Nat → List Int → List Nat
  | _, [] => []
  | i, x :: xs => if p i x then i :: sel p (i + 1) xs else sel p (i + 1) xs
theorem enum_ix : ∀ (i : Nat) (row : List Int), enumL i (row.map D.int) = (row.zipIdx i).map fun p => D.tup [.int (p.2 : Nat), .int p.1]
  | i, [] => rfl
  | i, x :: xs => by simp [enumL, enum_ix (i + 1) xs]
theorem sel_ix (p : Int → Bool) : ∀ (i : Nat) (row : List Int), ((row.zipIdx i).filter fun q => p q.1).map (fun q => D.int (q.2 : Nat)) = nats (sel (fun _ x => p x) i row)
  | i, [] => rfl
  | i, x :: xs => by
    have ih := sel_ix p (i + 1) xs
    simp only [List.zipIdx_cons, List.filter_cons, sel]
    by_cases hp : p x = true
    · simp only [hp, if_true, List.map_cons, ih, nats]
    · simp only [hp, if_false, Bool.false_eq_true, ih]
theorem sel_len (p : Int → Bool) : ∀ (i : Nat) (row : List Int), (sel (fun _ x => p x) i row).length = (row.filter p).length
  | i, [] => rfl
  | i, x :: xs => by
    have ih := sel_len p (i + 1) xs
    simp only [List.filter_cons, sel]
    by_cases hp : p x = true
    · simp only [hp, if_true, List.length_cons, ih]
    · simp only [hp, if_false, Bool.false_eq_true, ih]
theorem sel_eq (p : Nat → Int → Bool) : ∀ (i : Nat) (row : List Int), sel p i row = (List.range' i row.length).filter fun n => match row[n - i]? with
    | some x => p n x
    | none => false
  | i, [] => rfl
  | i, x :: xs => by
    have ih := sel_eq p (i + 1) xs
    rw [List.length_cons, List.range'_succ, List.filter_cons]
    simp only [Nat.sub_self, List.getElem?_cons_zero, sel]
    have e : (List.range' (i + 1) xs.length).filter (fun n => match (x :: xs)[n - i]? with
        | some x => p n x
        | none => false) = (List.range' (i + 1) xs.length).filter fun n => match xs[n - (i + 1)]? with
        | some x => p n x
        | none => false := by
      apply List.filter_congr
      intro n hn
      have : i + 1 ≤ n := (List.mem_range'_1.mp hn).1
      obtain ⟨k, rfl⟩ := Nat.exists_eq_add_of_le this
      have e1 : i + 1 + k - i = k + 1 := by omega
      have e2 : i + 1 + k - (i + 1) = k := by omega
      rw [e1, e2, List.getElem?_cons_succ]
    rw [e, ← ih]

theorem sel_le (p : Nat → Int → Bool) : ∀ (i : Nat) (row : List Int), (sel p i row).length ≤ row.length
  | i, [] => Nat.le_refl _
  | i, x :: xs => by
    have ih := sel_le p (i + 1) xs
    unfold sel
    split
    · simp; omega
    · simp; omega
/-! ### comprehensions of the program -/
theorem lc_enum {op : D → D → Cs → R (D × Cs)} {p : Int → Bool} {k : Int} {c : Cs} (hop : ∀ x, op (.int x) (.int k) c = .ok (.bl (p x), c)) {row : List Int} {w r : D} (hl : row.length ≤ 100) :
    lcD (gT 2 (gsCons (gN 3) (gsCons (gN 4) gsNil))) (dTb (d2 (dVar 4) (dVar 1) op)) (dVar 3) (enumL 0 (row.map D.int)) [] [some w, some (.int k), some r, none, none] c = .ok (nats (sel (fun _ x => p x) 0 row), c) := by
  rw [enum_ix]
  have := lc_pure (g := gT 2 (gsCons (gN 3) (gsCons (gN 4) gsNil))) (ft := dTb (d2 (dVar 4) (dVar 1) op)) (fe := dVar 3) (env := [some w, some (.int k), some r, none, none]) (c := c) (fun q : Int × Nat => D.tup [.int (q.2 : Nat), .int q.1]) (fun q => p q.1) (fun q => D.int (q.2 : Nat)) (row.zipIdx 0) []
    (fun q hq => ⟨[some w, some (.int k), some r, some (.int (q.2 : Nat)), some (.int q.1)], rfl, by simp only [evs, hop], fun _ => by simp only [evs]⟩) (by simp [lim]; omega)
  rw [this, List.nil_append, sel_ix]
theorem lc_ints {op : D → D → Cs → R (D × Cs)} {p : Int → Bool} {c : Cs} {k : D} (hop : ∀ x, op (.int x) k c = .ok (.bl (p x), c)) {row : List Int} {env : Env} {j i : Nat} (hj : j < env.length) (hk : env[i]? = some (some k)) (hi : i ≠ j) (hl : row.length ≤ 100) :
    lcD (gN j) (dTb (d2 (dVar j) (dVar i) op)) (dVar j) (row.map D.int) [] env c = .ok ((row.filter p).map D.int, c) := by
  have := lc_pure (g := gN j) (ft := dTb (d2 (dVar j) (dVar i) op)) (fe := dVar j) (env := env) (c := c) D.int p D.int row [] (fun x hx => ⟨_, rfl, by
    simp only [evs, vSet hj, vE (show (env.set j (some (.int x)))[i]? = some (some k) by rw [List.getElem?_set_ne (Ne.symm hi), hk]), hop], fun _ => vSet hj⟩) (by simp [lim]; omega)
  simpa using this
/-- places of the law -/
theorem row_at {row : List Int} {n : Nat} {x : Int} {c : Cs} (h : row[n]? = some x) : ixD (.tup (row.map D.int)) (.int (n : Int)) c = .ok (.int x, c) := wIxT (by rw [atI_nat]; simp [h])
theorem lc_plc {op : D → D → Cs → R (D × Cs)} {p : Int → Bool} {c : Cs} {k : Int} (hop : ∀ x, op (.int x) (.int k) c = .ok (.bl (p x), c)) {row : List Int} {env : Env} (hj : 11 < env.length) (hk : env[1]? = some (some (.int k))) (hr : env[2]? = some (some (.tup (row.map D.int)))) (hl : row.length ≤ 100) :
    lcD (gN 11) (dTb (d2 (d2 (dVar 2) (dVar 11) ixD) (dVar 1) op)) (dVar 11) (rngD 0 row.length) [] env c = .ok (nats (sel (fun _ x => p x) 0 row), c) := by
  rw [rngD_0, sel_eq, ← List.range_eq_range']
  refine lc_at hj (fun n hn => ?_) (by simp [lim]; omega)
  have hn : n < row.length := List.mem_range.mp hn
  have e : row[n]? = some row[n] := List.getElem?_eq_getElem hn
  simp only [evs, vSet hj, vE (show (env.set 11 (some (.int (n : Int))))[1]? = some (some (.int k)) by rw [List.getElem?_set_ne (by decide), hk]), vE (show (env.set 11 (some (.int (n : Int))))[2]? = some (some (.tup (row.map D.int))) by rw [List.getElem?_set_ne (by decide), hr]), row_at e, hop, Nat.sub_zero, e]
/-- steps: q ahead, item -/
def stp (q : Int → Int → Bool) (row : List Int) : List Nat := (List.range' 1 (row.length - 1)).filter fun n => match row[n - 1]?, row[n]? with
  | some x, some y => q x y
  | _, _ => false
theorem stp_le {q : Int → Int → Bool} {row : List Int} : (stp q row).length ≤ row.length := by
  unfold stp
  refine Nat.le_trans (List.length_filter_le ..) ?_
  rw [List.length_range']; omega
theorem cut_from {xs : List D} {k : Nat} : cutD xs (some (k : Int)) none = xs.drop k := by
  unfold cutD
  rw [HT.sIx_nat, HT.sIx_none]
  by_cases h : k ≤ xs.length
  · rw [Nat.min_eq_left h, List.take_of_length_le (by simp)]
  · rw [Nat.min_eq_right (by omega), List.drop_of_length_le (Nat.le_refl _), List.drop_of_length_le (by omega)]; simp
theorem cut_last {xs : List D} : cutD xs (some (-1)) none = xs.drop (xs.length - 1) := by
  have e : HT.sIx xs.length 0 (some (-1)) = xs.length - 1 := by
    show (if (-1 : Int) < 0 then ((-1 : Int) + (xs.length : Int)).toNat else min (-1 : Int).toNat xs.length) = _
    rw [if_pos (by decide)]; omega
  unfold cutD
  rw [e, HT.sIx_none, List.take_of_length_le (by simp)]
theorem rng_drop {n : Nat} : cutD (rngD 0 n) (some 1) none = nats (List.range' 1 (n - 1)) := by
  have := cut_from (xs := rngD 0 n) (k := 1)
  rw [show ((1 : Nat) : Int) = 1 from rfl] at this
  rw [this, rngD_0, List.range_eq_range']
  cases n with
  | zero => rfl
  | succ m => simp [nats, List.range'_succ]
theorem lc_stp {ft : TF} {q : Int → Int → Bool} {c : Cs} {row : List Int} {env : Env} {j : Nat} (hj : j < env.length) (h : ∀ (n : Nat) (x y : Int), row[n]? = some x → row[n + 1]? = some y → ft (env.set j (some (.int ((n + 1 : Nat) : Int)))) c = .ok (q x y, c)) (hl : row.length ≤ 100) :
    lcD (gN j) ft (dVar j) (nats (List.range' 1 (row.length - 1))) [] env c = .ok (nats (stp q row), c) := by
  refine lc_at hj (fun n hn => ?_) (by simp [lim]; omega)
  have hn := List.mem_range'_1.mp hn
  obtain ⟨m, rfl⟩ := Nat.exists_eq_add_of_le hn.1
  have h1 : m < row.length := by omega
  have h2 : m + 1 < row.length := by omega
  have e1 : row[m]? = some row[m] := List.getElem?_eq_getElem h1
  have e2 : row[m + 1]? = some row[m + 1] := List.getElem?_eq_getElem h2
  have e3 : 1 + m - 1 = m := by omega
  rw [Nat.add_comm 1 m, h m _ _ e1 e2]
  simp only [Nat.add_sub_cancel, e1, e2]

/-! ### the program's answers -/
def hdD : List Nat → D
  | [] => .non
  | x :: _ => .int (x : Int)
theorem nats_pn (l : List Nat) (n : Nat) : pns n (nats l) = true := pns_map (fun x => by simp [D.pn]) l
theorem nats_len (l : List Nat) : (nats l).length = l.length := by simp [nats]
theorem nats_emp (l : List Nat) : (nats l).isEmpty = l.isEmpty := by simp [nats]
theorem sp_first {l : List Nat} {c : Cs} : F_first_of [.lst (nats l)] c = .ok (hdD l, c) := by
  unfold F_first_of b_first_of
  simp only [evs, wNeNilL (n := 0) (xs := nats l) (by decide) (nats_pn l 0), nats_emp]
  cases l with
  | nil => simp only [List.isEmpty_nil, Bool.not_true, evs, hdD]
  | cons x l =>
    have : ixD (.lst (nats (x :: l))) (.int 0) c = .ok (.int (x : Int), c) := wIxL atI_0
    simp only [List.isEmpty_cons, Bool.not_false, evs, this, hdD]
theorem rg_ok {a b : Int} (h0 : 0 ≤ a) (h1 : a ≤ 1000) (h2 : 0 ≤ b) (h3 : b ≤ 1000) : rgOk a b = true := by
  unfold rgOk inR lim
  simp
  omega
theorem ix_b {row : List Int} {n : Nat} {y : Int} {c : Cs} (h : row[n]? = some y) : ixD (.tup (row.map D.int)) (.int (((n + 1 : Nat) : Int) - 1)) c = .ok (.int y, c) := by
  have : (((n + 1 : Nat) : Int) - 1) = (n : Int) := by omega
  rw [this]; exact row_at h
theorem sp_falls {row : List Int} {c : Cs} (hl : row.length ≤ 100) : F_falls_in [.tup (row.map D.int)] c = .ok (.lst (nats (stp (fun x y => decide (y < x)) row)), c) := by
  unfold F_falls_in b_falls_in
  have e : ((row.length : Int) - 1).toNat = row.length - 1 := by omega
  have := lc_stp (ft := dTb (d2 (d2 (dVar 0) (dVar 1) ixD) (d2 (dVar 0) (d2 (dVar 1) (dC (.int 1)) subD) ixD) ltD)) (q := fun x y => decide (y < x)) (c := c) (row := row) (env := [some (.tup (row.map D.int)), none]) (j := 1) (by simp) (fun n x y h1 h2 => by simp only [evs, row_at h2, ix_b h1]) hl
  simp only [evs, List.length_map, wLrg2 (rg_ok (a := 1) (b := row.length) (by omega) (by omega) (by omega) (by omega)), e, rngD_1, this]
theorem sp_twins {row : List Int} {c : Cs} (hl : row.length ≤ 100) : F_twins_in [.tup (row.map D.int)] c = .ok (.lst (nats (stp (fun x y => decide (y = x)) row)), c) := by
  unfold F_twins_in b_twins_in
  have e : ((row.length : Int) - 1).toNat = row.length - 1 := by omega
  have := lc_stp (ft := dTb (d2 (d2 (dVar 0) (dVar 1) ixD) (d2 (dVar 0) (d2 (dVar 1) (dC (.int 1)) subD) ixD) eqD)) (q := fun x y => decide (y = x)) (c := c) (row := row) (env := [some (.tup (row.map D.int)), none]) (j := 1) (by simp) (fun n x y h1 h2 => by simp only [evs, row_at h2, ix_b h1]) hl
  simp only [evs, List.length_map, wLrg2 (rg_ok (a := 1) (b := row.length) (by omega) (by omega) (by omega) (by omega)), e, rngD_1, this]

def aEq (k : Int) (row : List Int) : List Nat := sel (fun _ x => decide (x = k)) 0 row
def aGt (k : Int) (row : List Int) : List Nat := sel (fun _ x => decide (k < x)) 0 row
def aLt (k : Int) (row : List Int) : List Nat := sel (fun _ x => decide (x < k)) 0 row
def aGe (k : Int) (row : List Int) : List Nat := sel (fun _ x => decide (k ≤ x)) 0 row
def aFl (row : List Int) : List Nat := stp (fun x y => decide (y < x)) row
def aTw (row : List Int) : List Nat := stp (fun x y => decide (y = x)) row
section
variable {k : Int} {row : List Int} {c : Cs} {w r : D}
theorem le_eq (hl : row.length ≤ 100) : lcD (gT 2 (gsCons (gN 3) (gsCons (gN 4) gsNil))) (dTb (d2 (dVar 4) (dVar 1) eqD)) (dVar 3) (enumL 0 (row.map D.int)) [] [some w, some (.int k), some r, none, none] c = .ok (nats (aEq k row), c) := lc_enum (fun _ => rfl) hl
theorem le_gt (hl : row.length ≤ 100) : lcD (gT 2 (gsCons (gN 3) (gsCons (gN 4) gsNil))) (dTb (d2 (dVar 4) (dVar 1) gtD)) (dVar 3) (enumL 0 (row.map D.int)) [] [some w, some (.int k), some r, none, none] c = .ok (nats (aGt k row), c) := lc_enum (fun _ => rfl) hl
theorem le_lt (hl : row.length ≤ 100) : lcD (gT 2 (gsCons (gN 3) (gsCons (gN 4) gsNil))) (dTb (d2 (dVar 4) (dVar 1) ltD)) (dVar 3) (enumL 0 (row.map D.int)) [] [some w, some (.int k), some r, none, none] c = .ok (nats (aLt k row), c) := lc_enum (fun _ => rfl) hl
theorem le_ge (hl : row.length ≤ 100) : lcD (gT 2 (gsCons (gN 3) (gsCons (gN 4) gsNil))) (dTb (d2 (dVar 4) (dVar 1) geD)) (dVar 3) (enumL 0 (row.map D.int)) [] [some w, some (.int k), some r, none, none] c = .ok (nats (aGe k row), c) := lc_enum (fun _ => rfl) hl
theorem wRevN {l : List Nat} : (nats l).reverse = nats l.reverse := by simp [nats]
theorem wAddN {l : List Nat} {n : Nat} (h : l.length ≤ 100) : addD (.lst (nats l)) (.lst [.int (n : Int)]) c = .ok (.lst (nats (l ++ [n])), c) := by
  rw [wAddL (by simp [nats, lim]; omega)]; simp [nats]
theorem hLe {p : Int → Bool} (hl : row.length ≤ 100) : (sel (fun _ x => p x) 0 row).length ≤ 100 := Nat.le_trans (sel_le _ _ _) hl
end
theorem sp_place1 {k : Int} {row : List Int} {c : Cs} (hl : row.length ≤ 100) : F_place_asked [.str "first same", .int k, .tup (row.map D.int)] c = .ok (hdD (aEq k row), c) := by
  unfold F_place_asked b_place_asked
  simp only [evs, ofS_inj, String.reduceEq, decide_true, decide_false, Bool.or_false, Bool.false_or, Bool.true_or, Bool.or_true, Bool.not_true, Bool.not_false, le_eq hl, le_gt hl, le_lt hl, le_ge hl, wRevN, sp_first, List.length_map, wAddN (l := aGe k row) (hLe hl), wAddN (l := aGt k row) (hLe hl), sp_falls hl, sp_twins hl]
  first | done | rfl
theorem sp_place2 {k : Int} {row : List Int} {c : Cs} (hl : row.length ≤ 100) : F_place_asked [.str "last same", .int k, .tup (row.map D.int)] c = .ok (hdD (aEq k row).reverse, c) := by
  unfold F_place_asked b_place_asked
  simp only [evs, ofS_inj, String.reduceEq, decide_true, decide_false, Bool.or_false, Bool.false_or, Bool.true_or, Bool.or_true, Bool.not_true, Bool.not_false, le_eq hl, le_gt hl, le_lt hl, le_ge hl, wRevN, sp_first, List.length_map, wAddN (l := aGe k row) (hLe hl), wAddN (l := aGt k row) (hLe hl), sp_falls hl, sp_twins hl]
  first | done | rfl
theorem sp_place3 {k : Int} {row : List Int} {c : Cs} (hl : row.length ≤ 100) : F_place_asked [.str "first over", .int k, .tup (row.map D.int)] c = .ok (hdD (aGt k row), c) := by
  unfold F_place_asked b_place_asked
  simp only [evs, ofS_inj, String.reduceEq, decide_true, decide_false, Bool.or_false, Bool.false_or, Bool.true_or, Bool.or_true, Bool.not_true, Bool.not_false, le_eq hl, le_gt hl, le_lt hl, le_ge hl, wRevN, sp_first, List.length_map, wAddN (l := aGe k row) (hLe hl), wAddN (l := aGt k row) (hLe hl), sp_falls hl, sp_twins hl]
  first | done | rfl
theorem sp_place4 {k : Int} {row : List Int} {c : Cs} (hl : row.length ≤ 100) : F_place_asked [.str "last under", .int k, .tup (row.map D.int)] c = .ok (hdD (aLt k row).reverse, c) := by
  unfold F_place_asked b_place_asked
  simp only [evs, ofS_inj, String.reduceEq, decide_true, decide_false, Bool.or_false, Bool.false_or, Bool.true_or, Bool.or_true, Bool.not_true, Bool.not_false, le_eq hl, le_gt hl, le_lt hl, le_ge hl, wRevN, sp_first, List.length_map, wAddN (l := aGe k row) (hLe hl), wAddN (l := aGt k row) (hLe hl), sp_falls hl, sp_twins hl]
  first | done | rfl
theorem sp_place5 {k : Int} {row : List Int} {c : Cs} (hl : row.length ≤ 100) : F_place_asked [.str "first not under", .int k, .tup (row.map D.int)] c = .ok (hdD (aGe k row ++ [row.length]), c) := by
  unfold F_place_asked b_place_asked
  simp only [evs, ofS_inj, String.reduceEq, decide_true, decide_false, Bool.or_false, Bool.false_or, Bool.true_or, Bool.or_true, Bool.not_true, Bool.not_false, le_eq hl, le_gt hl, le_lt hl, le_ge hl, wRevN, sp_first, List.length_map, wAddN (l := aGe k row) (hLe hl), wAddN (l := aGt k row) (hLe hl), sp_falls hl, sp_twins hl]
  first | done | rfl
theorem sp_place6 {k : Int} {row : List Int} {c : Cs} (hl : row.length ≤ 100) : F_place_asked [.str "behind same", .int k, .tup (row.map D.int)] c = .ok (hdD (aGt k row ++ [row.length]), c) := by
  unfold F_place_asked b_place_asked
  simp only [evs, ofS_inj, String.reduceEq, decide_true, decide_false, Bool.or_false, Bool.false_or, Bool.true_or, Bool.or_true, Bool.not_true, Bool.not_false, le_eq hl, le_gt hl, le_lt hl, le_ge hl, wRevN, sp_first, List.length_map, wAddN (l := aGe k row) (hLe hl), wAddN (l := aGt k row) (hLe hl), sp_falls hl, sp_twins hl]
  first | done | rfl
theorem sp_place7 {k : Int} {row : List Int} {c : Cs} (hl : row.length ≤ 100) : F_place_asked [.str "first fall", .int k, .tup (row.map D.int)] c = .ok (hdD (aFl row), c) := by
  unfold F_place_asked b_place_asked
  simp only [evs, ofS_inj, String.reduceEq, decide_true, decide_false, Bool.or_false, Bool.false_or, Bool.true_or, Bool.or_true, Bool.not_true, Bool.not_false, le_eq hl, le_gt hl, le_lt hl, le_ge hl, wRevN, sp_first, List.length_map, wAddN (l := aGe k row) (hLe hl), wAddN (l := aGt k row) (hLe hl), sp_falls hl, sp_twins hl]
  first | done | rfl
theorem sp_place8 {k : Int} {row : List Int} {c : Cs} (hl : row.length ≤ 100) : F_place_asked [.str "first twice", .int k, .tup (row.map D.int)] c = .ok (hdD (aTw row), c) := by
  unfold F_place_asked b_place_asked
  simp only [evs, ofS_inj, String.reduceEq, decide_true, decide_false, Bool.or_false, Bool.false_or, Bool.true_or, Bool.or_true, Bool.not_true, Bool.not_false, le_eq hl, le_gt hl, le_lt hl, le_ge hl, wRevN, sp_first, List.length_map, wAddN (l := aGe k row) (hLe hl), wAddN (l := aGt k row) (hLe hl), sp_falls hl, sp_twins hl]
  first | done | rfl
theorem wAll {xs : List D} {bs : List Bool} {c : Cs} (h : blsD xs = some bs) : allD [.lst xs] c = .ok (.bl (bs.all id), c) := by
  unfold allD
  simp only [glL, h]
theorem blsD_map {α : Type} (f : α → Bool) : ∀ l : List α, blsD (l.map fun x => D.bl (f x)) = some (l.map f)
  | [] => rfl
  | x :: l => by simp [blsD, blsD_map f l]
theorem lc_over {k : Int} {row : List Int} {c : Cs} {w m : D} {r : D} (hl : row.length ≤ 100) : lcD (gN 4) dYes (d2 (dVar 4) (dVar 1) gtD) (row.map D.int) [] [some w, some (.int k), some r, some m, none] c = .ok (row.map fun x => D.bl (decide (k < x)), c) := by
  have := lc_pure (g := gN 4) (ft := dYes) (fe := d2 (dVar 4) (dVar 1) gtD) (env := [some w, some (.int k), some r, some m, none]) (c := c) D.int (fun _ => true) (fun x => D.bl (decide (k < x))) row [] (fun x hx => ⟨_, rfl, rfl, fun _ => by simp only [evs]⟩) (by simp [lim]; omega)
  rw [this, List.filter_eq_self.mpr (fun _ _ => rfl)]
  rfl
theorem lc_cnt {k : Int} {row : List Int} {c : Cs} {w : D} {r : D} (hl : row.length ≤ 100) : lcD (gN 4) (dTb (d2 (dVar 4) (dVar 1) eqD)) (dVar 4) (row.map D.int) [] [some w, some (.int k), some r, none, none] c = .ok ((row.filter fun x => decide (x = k)).map D.int, c) :=
  lc_ints (i := 1) (k := .int k) (fun _ => rfl) (by simp) rfl (by decide) hl
theorem cast_lt (n : Nat) : decide ((0 : Int) < (n : Int)) = decide (0 < n) := by simp
theorem cast_eq1 (n : Nat) : decide ((n : Int) = 1) = decide (n = 1) := by
  rw [Bool.eq_iff_iff, decide_eq_true_eq, decide_eq_true_eq]; omega
theorem cast_eq (n m : Nat) : decide ((n : Int) = (m : Int)) = decide (n = m) := by
  rw [Bool.eq_iff_iff, decide_eq_true_eq, decide_eq_true_eq]; omega
theorem sp_truth1 {k : Int} {row : List Int} {c : Cs} (hl : row.length ≤ 100) : F_truth_asked [.str "some same", .int k, .tup (row.map D.int)] c = .ok (.bl (decide (0 < (row.filter fun x => decide (x = k)).length)), c) := by
  unfold F_truth_asked b_truth_asked
  simp only [evs, ofS_inj, String.reduceEq, decide_true, decide_false, Bool.or_false, Bool.false_or, Bool.true_or, Bool.or_true, Bool.not_true, Bool.not_false, lc_cnt hl, lc_over hl, List.length_map, cast_lt, cast_eq1, cast_eq, wAll (blsD_map (fun x => decide (k < x)) row), sp_falls hl, sp_twins hl, wEqNilL (n := 0) (xs := nats (stp (fun x y => decide (y < x)) row)) (by decide) (nats_pn _ 0), wNeNilL (n := 0) (xs := nats (stp (fun x y => decide (y = x)) row)) (by decide) (nats_pn _ 0), nats_emp]
  first | done | rfl | (simp [aFl, aTw]; done)
theorem sp_truth2 {k : Int} {row : List Int} {c : Cs} (hl : row.length ≤ 100) : F_truth_asked [.str "just one", .int k, .tup (row.map D.int)] c = .ok (.bl (decide ((row.filter fun x => decide (x = k)).length = 1)), c) := by
  unfold F_truth_asked b_truth_asked
  simp only [evs, ofS_inj, String.reduceEq, decide_true, decide_false, Bool.or_false, Bool.false_or, Bool.true_or, Bool.or_true, Bool.not_true, Bool.not_false, lc_cnt hl, lc_over hl, List.length_map, cast_lt, cast_eq1, cast_eq, wAll (blsD_map (fun x => decide (k < x)) row), sp_falls hl, sp_twins hl, wEqNilL (n := 0) (xs := nats (stp (fun x y => decide (y < x)) row)) (by decide) (nats_pn _ 0), wNeNilL (n := 0) (xs := nats (stp (fun x y => decide (y = x)) row)) (by decide) (nats_pn _ 0), nats_emp]
  first | done | rfl | (simp [aFl, aTw]; done)
theorem sp_truth3 {k : Int} {row : List Int} {c : Cs} (hl : row.length ≤ 100) : F_truth_asked [.str "all same", .int k, .tup (row.map D.int)] c = .ok (.bl (decide ((row.filter fun x => decide (x = k)).length = row.length)), c) := by
  unfold F_truth_asked b_truth_asked
  simp only [evs, ofS_inj, String.reduceEq, decide_true, decide_false, Bool.or_false, Bool.false_or, Bool.true_or, Bool.or_true, Bool.not_true, Bool.not_false, lc_cnt hl, lc_over hl, List.length_map, cast_lt, cast_eq1, cast_eq, wAll (blsD_map (fun x => decide (k < x)) row), sp_falls hl, sp_twins hl, wEqNilL (n := 0) (xs := nats (stp (fun x y => decide (y < x)) row)) (by decide) (nats_pn _ 0), wNeNilL (n := 0) (xs := nats (stp (fun x y => decide (y = x)) row)) (by decide) (nats_pn _ 0), nats_emp]
  first | done | rfl | (simp [aFl, aTw]; done)
theorem sp_truth4 {k : Int} {row : List Int} {c : Cs} (hl : row.length ≤ 100) : F_truth_asked [.str "all over", .int k, .tup (row.map D.int)] c = .ok (.bl ((row.all fun x => decide (k < x))), c) := by
  unfold F_truth_asked b_truth_asked
  simp only [evs, ofS_inj, String.reduceEq, decide_true, decide_false, Bool.or_false, Bool.false_or, Bool.true_or, Bool.or_true, Bool.not_true, Bool.not_false, lc_cnt hl, lc_over hl, List.length_map, cast_lt, cast_eq1, cast_eq, wAll (blsD_map (fun x => decide (k < x)) row), sp_falls hl, sp_twins hl, wEqNilL (n := 0) (xs := nats (stp (fun x y => decide (y < x)) row)) (by decide) (nats_pn _ 0), wNeNilL (n := 0) (xs := nats (stp (fun x y => decide (y = x)) row)) (by decide) (nats_pn _ 0), nats_emp]
  first | done | rfl | (simp [aFl, aTw]; done)
theorem sp_truth5 {k : Int} {row : List Int} {c : Cs} (hl : row.length ≤ 100) : F_truth_asked [.str "rising", .int k, .tup (row.map D.int)] c = .ok (.bl ((aFl row).isEmpty), c) := by
  unfold F_truth_asked b_truth_asked
  simp only [evs, ofS_inj, String.reduceEq, decide_true, decide_false, Bool.or_false, Bool.false_or, Bool.true_or, Bool.or_true, Bool.not_true, Bool.not_false, lc_cnt hl, lc_over hl, List.length_map, cast_lt, cast_eq1, cast_eq, wAll (blsD_map (fun x => decide (k < x)) row), sp_falls hl, sp_twins hl, wEqNilL (n := 0) (xs := nats (stp (fun x y => decide (y < x)) row)) (by decide) (nats_pn _ 0), wNeNilL (n := 0) (xs := nats (stp (fun x y => decide (y = x)) row)) (by decide) (nats_pn _ 0), nats_emp]
  first | done | rfl | (simp [aFl, aTw]; done)
theorem sp_truth6 {k : Int} {row : List Int} {c : Cs} (hl : row.length ≤ 100) : F_truth_asked [.str "twins", .int k, .tup (row.map D.int)] c = .ok (.bl (!(aTw row).isEmpty), c) := by
  unfold F_truth_asked b_truth_asked
  simp only [evs, ofS_inj, String.reduceEq, decide_true, decide_false, Bool.or_false, Bool.false_or, Bool.true_or, Bool.or_true, Bool.not_true, Bool.not_false, lc_cnt hl, lc_over hl, List.length_map, cast_lt, cast_eq1, cast_eq, wAll (blsD_map (fun x => decide (k < x)) row), sp_falls hl, sp_twins hl, wEqNilL (n := 0) (xs := nats (stp (fun x y => decide (y < x)) row)) (by decide) (nats_pn _ 0), wNeNilL (n := 0) (xs := nats (stp (fun x y => decide (y = x)) row)) (by decide) (nats_pn _ 0), nats_emp]
  first | done | rfl | (simp [aFl, aTw]; done)

/-! ### what is needed holds -/
theorem nd_row {row : List Int} {c : Cs} (hl : row.length ≤ 40) : F_need_row [.tup (row.map D.int)] c = .ok (.non, c) := by
  have h1 : isiD [.tup (row.map D.int), .raw (.ty "tuple")] c = .ok (.bl true, c) := rfl
  have h2 : (row.length : Int) ≤ 40 := by omega
  have h3 : lcD (gN 1) dYes (dA (dCons (dVar 1) dNil) (callD 1 F_is_number [])) (row.map D.int) [] [some (.tup (row.map D.int)), none] c = .ok (row.map fun x => D.bl true, c) := by
    have := lc_pure (g := gN 1) (ft := dYes) (fe := dA (dCons (dVar 1) dNil) (callD 1 F_is_number [])) (env := [some (.tup (row.map D.int)), none]) (c := c) D.int (fun _ => true) (fun x => D.bl true) row [] (fun x hx => ⟨_, rfl, rfl, fun _ => rfl⟩) (by simp [lim]; omega)
    rw [this, List.filter_eq_self.mpr (fun _ _ => rfl)]
    rfl
  have h4 : F_is_row [.tup (row.map D.int)] c = .ok (.bl true, c) := by
    unfold F_is_row b_is_row
    simp only [evs, h1, List.length_map, h2, decide_true, h3, wAll (blsD_map (fun _ : Int => true) row)]
    simp
  unfold F_need_row b_need_row
  simp only [evs, h4, Bool.not_true]
theorem nd_key {k : Int} {c : Cs} : F_need_key [.int k] c = .ok (.non, c) := rfl
theorem sp_asked_place1 {k : Int} {row : List Int} {c : Cs} (hl : row.length ≤ 40) : F_asked [.str "first same", .int k, .tup (row.map D.int)] c = .ok (hdD (aEq k row), c) := by
  have h1 : F_need_asking [.str "first same"] c = .ok (.non, c) := rfl
  have h2 : inD (.str "first same") (.tup [.str "some same", .str "just one", .str "all same", .str "all over", .str "rising", .str "twins"]) c = .ok (.bl false, c) := rfl
  unfold F_asked b_asked F_answer_asked b_answer_asked
  simp only [evs, h1, nd_key, nd_row hl, h2, sp_place1 (show row.length ≤ 100 by omega)]
theorem sp_asked_place2 {k : Int} {row : List Int} {c : Cs} (hl : row.length ≤ 40) : F_asked [.str "last same", .int k, .tup (row.map D.int)] c = .ok (hdD (aEq k row).reverse, c) := by
  have h1 : F_need_asking [.str "last same"] c = .ok (.non, c) := rfl
  have h2 : inD (.str "last same") (.tup [.str "some same", .str "just one", .str "all same", .str "all over", .str "rising", .str "twins"]) c = .ok (.bl false, c) := rfl
  unfold F_asked b_asked F_answer_asked b_answer_asked
  simp only [evs, h1, nd_key, nd_row hl, h2, sp_place2 (show row.length ≤ 100 by omega)]
theorem sp_asked_place3 {k : Int} {row : List Int} {c : Cs} (hl : row.length ≤ 40) : F_asked [.str "first over", .int k, .tup (row.map D.int)] c = .ok (hdD (aGt k row), c) := by
  have h1 : F_need_asking [.str "first over"] c = .ok (.non, c) := rfl
  have h2 : inD (.str "first over") (.tup [.str "some same", .str "just one", .str "all same", .str "all over", .str "rising", .str "twins"]) c = .ok (.bl false, c) := rfl
  unfold F_asked b_asked F_answer_asked b_answer_asked
  simp only [evs, h1, nd_key, nd_row hl, h2, sp_place3 (show row.length ≤ 100 by omega)]
theorem sp_asked_place4 {k : Int} {row : List Int} {c : Cs} (hl : row.length ≤ 40) : F_asked [.str "last under", .int k, .tup (row.map D.int)] c = .ok (hdD (aLt k row).reverse, c) := by
  have h1 : F_need_asking [.str "last under"] c = .ok (.non, c) := rfl
  have h2 : inD (.str "last under") (.tup [.str "some same", .str "just one", .str "all same", .str "all over", .str "rising", .str "twins"]) c = .ok (.bl false, c) := rfl
  unfold F_asked b_asked F_answer_asked b_answer_asked
  simp only [evs, h1, nd_key, nd_row hl, h2, sp_place4 (show row.length ≤ 100 by omega)]
theorem sp_asked_place5 {k : Int} {row : List Int} {c : Cs} (hl : row.length ≤ 40) : F_asked [.str "first not under", .int k, .tup (row.map D.int)] c = .ok (hdD (aGe k row ++ [row.length]), c) := by
  have h1 : F_need_asking [.str "first not under"] c = .ok (.non, c) := rfl
  have h2 : inD (.str "first not under") (.tup [.str "some same", .str "just one", .str "all same", .str "all over", .str "rising", .str "twins"]) c = .ok (.bl false, c) := rfl
  unfold F_asked b_asked F_answer_asked b_answer_asked
  simp only [evs, h1, nd_key, nd_row hl, h2, sp_place5 (show row.length ≤ 100 by omega)]
theorem sp_asked_place6 {k : Int} {row : List Int} {c : Cs} (hl : row.length ≤ 40) : F_asked [.str "behind same", .int k, .tup (row.map D.int)] c = .ok (hdD (aGt k row ++ [row.length]), c) := by
  have h1 : F_need_asking [.str "behind same"] c = .ok (.non, c) := rfl
  have h2 : inD (.str "behind same") (.tup [.str "some same", .str "just one", .str "all same", .str "all over", .str "rising", .str "twins"]) c = .ok (.bl false, c) := rfl
  unfold F_asked b_asked F_answer_asked b_answer_asked
  simp only [evs, h1, nd_key, nd_row hl, h2, sp_place6 (show row.length ≤ 100 by omega)]
theorem sp_asked_place7 {k : Int} {row : List Int} {c : Cs} (hl : row.length ≤ 40) : F_asked [.str "first fall", .int k, .tup (row.map D.int)] c = .ok (hdD (aFl row), c) := by
  have h1 : F_need_asking [.str "first fall"] c = .ok (.non, c) := rfl
  have h2 : inD (.str "first fall") (.tup [.str "some same", .str "just one", .str "all same", .str "all over", .str "rising", .str "twins"]) c = .ok (.bl false, c) := rfl
  unfold F_asked b_asked F_answer_asked b_answer_asked
  simp only [evs, h1, nd_key, nd_row hl, h2, sp_place7 (show row.length ≤ 100 by omega)]
theorem sp_asked_place8 {k : Int} {row : List Int} {c : Cs} (hl : row.length ≤ 40) : F_asked [.str "first twice", .int k, .tup (row.map D.int)] c = .ok (hdD (aTw row), c) := by
  have h1 : F_need_asking [.str "first twice"] c = .ok (.non, c) := rfl
  have h2 : inD (.str "first twice") (.tup [.str "some same", .str "just one", .str "all same", .str "all over", .str "rising", .str "twins"]) c = .ok (.bl false, c) := rfl
  unfold F_asked b_asked F_answer_asked b_answer_asked
  simp only [evs, h1, nd_key, nd_row hl, h2, sp_place8 (show row.length ≤ 100 by omega)]
theorem sp_asked_truth1 {k : Int} {row : List Int} {c : Cs} (hl : row.length ≤ 40) : F_asked [.str "some same", .int k, .tup (row.map D.int)] c = .ok (.bl (decide (0 < (row.filter fun x => decide (x = k)).length)), c) := by
  have h1 : F_need_asking [.str "some same"] c = .ok (.non, c) := rfl
  have h2 : inD (.str "some same") (.tup [.str "some same", .str "just one", .str "all same", .str "all over", .str "rising", .str "twins"]) c = .ok (.bl true, c) := rfl
  unfold F_asked b_asked F_answer_asked b_answer_asked
  simp only [evs, h1, nd_key, nd_row hl, h2, sp_truth1 (show row.length ≤ 100 by omega)]
theorem sp_asked_truth2 {k : Int} {row : List Int} {c : Cs} (hl : row.length ≤ 40) : F_asked [.str "just one", .int k, .tup (row.map D.int)] c = .ok (.bl (decide ((row.filter fun x => decide (x = k)).length = 1)), c) := by
  have h1 : F_need_asking [.str "just one"] c = .ok (.non, c) := rfl
  have h2 : inD (.str "just one") (.tup [.str "some same", .str "just one", .str "all same", .str "all over", .str "rising", .str "twins"]) c = .ok (.bl true, c) := rfl
  unfold F_asked b_asked F_answer_asked b_answer_asked
  simp only [evs, h1, nd_key, nd_row hl, h2, sp_truth2 (show row.length ≤ 100 by omega)]
theorem sp_asked_truth3 {k : Int} {row : List Int} {c : Cs} (hl : row.length ≤ 40) : F_asked [.str "all same", .int k, .tup (row.map D.int)] c = .ok (.bl (decide ((row.filter fun x => decide (x = k)).length = row.length)), c) := by
  have h1 : F_need_asking [.str "all same"] c = .ok (.non, c) := rfl
  have h2 : inD (.str "all same") (.tup [.str "some same", .str "just one", .str "all same", .str "all over", .str "rising", .str "twins"]) c = .ok (.bl true, c) := rfl
  unfold F_asked b_asked F_answer_asked b_answer_asked
  simp only [evs, h1, nd_key, nd_row hl, h2, sp_truth3 (show row.length ≤ 100 by omega)]
theorem sp_asked_truth4 {k : Int} {row : List Int} {c : Cs} (hl : row.length ≤ 40) : F_asked [.str "all over", .int k, .tup (row.map D.int)] c = .ok (.bl ((row.all fun x => decide (k < x))), c) := by
  have h1 : F_need_asking [.str "all over"] c = .ok (.non, c) := rfl
  have h2 : inD (.str "all over") (.tup [.str "some same", .str "just one", .str "all same", .str "all over", .str "rising", .str "twins"]) c = .ok (.bl true, c) := rfl
  unfold F_asked b_asked F_answer_asked b_answer_asked
  simp only [evs, h1, nd_key, nd_row hl, h2, sp_truth4 (show row.length ≤ 100 by omega)]
theorem sp_asked_truth5 {k : Int} {row : List Int} {c : Cs} (hl : row.length ≤ 40) : F_asked [.str "rising", .int k, .tup (row.map D.int)] c = .ok (.bl ((aFl row).isEmpty), c) := by
  have h1 : F_need_asking [.str "rising"] c = .ok (.non, c) := rfl
  have h2 : inD (.str "rising") (.tup [.str "some same", .str "just one", .str "all same", .str "all over", .str "rising", .str "twins"]) c = .ok (.bl true, c) := rfl
  unfold F_asked b_asked F_answer_asked b_answer_asked
  simp only [evs, h1, nd_key, nd_row hl, h2, sp_truth5 (show row.length ≤ 100 by omega)]
theorem sp_asked_truth6 {k : Int} {row : List Int} {c : Cs} (hl : row.length ≤ 40) : F_asked [.str "twins", .int k, .tup (row.map D.int)] c = .ok (.bl (!(aTw row).isEmpty), c) := by
  have h1 : F_need_asking [.str "twins"] c = .ok (.non, c) := rfl
  have h2 : inD (.str "twins") (.tup [.str "some same", .str "just one", .str "all same", .str "all over", .str "rising", .str "twins"]) c = .ok (.bl true, c) := rfl
  unfold F_asked b_asked F_answer_asked b_answer_asked
  simp only [evs, h1, nd_key, nd_row hl, h2, sp_truth6 (show row.length ≤ 100 by omega)]

/-! ### the law's answers -/
section
variable {k : Int} {row : List Int} {c : Cs} {x0 x3 x4 x5 x6 x7 x8 x9 x10 : Option D}
theorem lq_eq (hl : row.length ≤ 100) : lcD (gN 11) (dTb (d2 (d2 (dVar 2) (dVar 11) ixD) (dVar 1) eqD)) (dVar 11) (rngD 0 row.length) [] [x0, some (.int k), some (.tup (row.map D.int)), x3, x4, x5, x6, x7, x8, x9, x10, none] c = .ok (nats (aEq k row), c) := lc_plc (fun _ => rfl) (by simp) rfl rfl hl
theorem lq_gt (hl : row.length ≤ 100) : lcD (gN 11) (dTb (d2 (d2 (dVar 2) (dVar 11) ixD) (dVar 1) gtD)) (dVar 11) (rngD 0 row.length) [] [x0, some (.int k), some (.tup (row.map D.int)), x3, x4, x5, x6, x7, x8, x9, x10, none] c = .ok (nats (aGt k row), c) := lc_plc (fun _ => rfl) (by simp) rfl rfl hl
theorem lq_lt (hl : row.length ≤ 100) : lcD (gN 11) (dTb (d2 (d2 (dVar 2) (dVar 11) ixD) (dVar 1) ltD)) (dVar 11) (rngD 0 row.length) [] [x0, some (.int k), some (.tup (row.map D.int)), x3, x4, x5, x6, x7, x8, x9, x10, none] c = .ok (nats (aLt k row), c) := lc_plc (fun _ => rfl) (by simp) rfl rfl hl
theorem lq_fl (hl : row.length ≤ 100) : lcD (gN 11) (dTb (d2 (d2 (dVar 2) (d2 (dVar 11) (dC (.int 1)) subD) ixD) (d2 (dVar 2) (dVar 11) ixD) gtD)) (dVar 11) (nats (List.range' 1 (row.length - 1))) [] [x0, some (.int k), some (.tup (row.map D.int)), x3, x4, x5, x6, x7, x8, x9, x10, none] c = .ok (nats (aFl row), c) :=
  lc_stp (by simp) (fun n x y h1 h2 => by simp only [evs, row_at h2, ix_b h1]) hl
theorem lq_tw (hl : row.length ≤ 100) : lcD (gN 11) (dTb (d2 (d2 (dVar 2) (d2 (dVar 11) (dC (.int 1)) subD) ixD) (d2 (dVar 2) (dVar 11) ixD) eqD)) (dVar 11) (nats (List.range' 1 (row.length - 1))) [] [x0, some (.int k), some (.tup (row.map D.int)), x3, x4, x5, x6, x7, x8, x9, x10, none] c = .ok (nats (aTw row), c) :=
  lc_stp (by simp) (fun n x y h1 h2 => by
    have e : decide (x = y) = decide (y = x) := by rw [Bool.eq_iff_iff, decide_eq_true_eq, decide_eq_true_eq]; exact eq_comm
    simp only [evs, row_at h2, ix_b h1, e]) hl
theorem wAddNN {a b : List Nat} (ha : a.length ≤ 100) (hb : b.length ≤ 100) : addD (.lst (nats a)) (.lst (nats b)) c = .ok (.lst (nats (a ++ b)), c) := by
  rw [wAddL (by simp [nats, lim]; omega)]; simp [nats]
theorem eqN {l : List Nat} : eqD (.lst (nats l)) (.lst []) c = .ok (.bl l.isEmpty, c) := by
  rw [wEqNilL (n := 0) (by decide) (nats_pn l 0), nats_emp]
theorem neN {l : List Nat} : neD (.lst (nats l)) (.lst []) c = .ok (.bl (!l.isEmpty), c) := by
  rw [wNeNilL (n := 0) (by decide) (nats_pn l 0), nats_emp]
theorem cutN {l : List Nat} : cutD (nats l) (some (-1)) none = nats (l.drop (l.length - 1)) := by
  rw [cut_last, nats_len]; simp [nats]
theorem intsN (l : List Nat) : intsD (nats l) = some (l.map fun n : Nat => (n : Int)) := by
  induction l with
  | nil => rfl
  | cons x l ih =>
    show (intsD (nats l)).map _ = _
    rw [ih]; rfl
theorem sortN {l r : List Nat} (hp : l.Perm r) (hr : r.Pairwise (· ≤ ·)) : sortedD [.lst (nats l)] c = .ok (.lst (nats r), c) := by
  unfold sortedD
  simp only [glL, intsN]
  have e : sortI (l.map fun n : Nat => (n : Int)) = r.map fun n : Nat => (n : Int) := by
    refine pw_uniq ((sortI_perm _).trans (hp.map _)) (sortI_pw _) ?_
    exact List.pairwise_map.mpr (hr.imp fun h => Int.ofNat_le.mpr h)
  rw [e]
  simp [nats]
theorem tailK {l : List Nat} {x1 x2 x11 : Option D} : kIf (d2 (dVar 10) (dC (.int 0)) ixD) (dC .non) [x0, x1, x2, x3, x4, x5, x6, x7, x8, x9, some (.lst (nats l)), x11] (.ok (!l.isEmpty, c)) = .ok (hdD l, c) := by
  cases l with
  | nil => simp only [List.isEmpty_nil, Bool.not_true, evs, hdD]
  | cons x l =>
    have : ixD (.lst (nats (x :: l))) (.int 0) c = .ok (.int (x : Int), c) := wIxL atI_0
    simp only [evs, List.isEmpty_cons, Bool.not_false, this, hdD]
theorem hD1 {x y z : D} : kD c.length (.ok ([(.str "some same", x), (.str "just one", y), (.str "all same", z)], c ++ [.dct []])) = .ok (.ref c.length, c ++ [.dct [("some same", x), ("just one", y), ("all same", z)]]) :=
  vDd (kvs := [("some same", x), ("just one", y), ("all same", z)]) (by simp) (show List.Nodup (["some same", "just one", "all same"] : List Str) by decide)
theorem hD2 {x y z : D} : kD c.length (.ok ([(.str "all over", x), (.str "rising", y), (.str "twins", z)], c ++ [.dct []])) = .ok (.ref c.length, c ++ [.dct [("all over", x), ("rising", y), ("twins", z)]]) :=
  vDd (kvs := [("all over", x), ("rising", y), ("twins", z)]) (by simp) (show List.Nodup (["all over", "rising", "twins"] : List Str) by decide)
theorem hD3 {x y z t : D} : kD c.length (.ok ([(.str "first same", x), (.str "first over", y), (.str "first fall", z), (.str "first twice", t)], c ++ [.dct []])) = .ok (.ref c.length, c ++ [.dct [("first same", x), ("first over", y), ("first fall", z), ("first twice", t)]]) :=
  vDd (kvs := [("first same", x), ("first over", y), ("first fall", z), ("first twice", t)]) (by simp) (show List.Nodup (["first same", "first over", "first fall", "first twice"] : List Str) by decide)
def trD (x y z u v w : D) : List (Str × D) := [("some same", x), ("just one", y), ("all same", z), ("all over", u), ("rising", v), ("twins", w)]
def Cup (c : Cs) (x y z u v w : D) : Cs := c ++ [.dct (trD x y z u v w), .dct [("all over", u), ("rising", v), ("twins", w)]]
theorem hUp {x y z u v w : D} : updD (.ref c.length) [.ref (c ++ [Cell.dct [("some same", x), ("just one", y), ("all same", z)]]).length] (c ++ [.dct [("some same", x), ("just one", y), ("all same", z)]] ++ [.dct [("all over", u), ("rising", v), ("twins", w)]]) = .ok (.non, Cup c x y z u v w) := by
  have e1 : cellD (c ++ [.dct [("some same", x), ("just one", y), ("all same", z)]] ++ [.dct [("all over", u), ("rising", v), ("twins", w)]]) (.ref c.length) = some (c.length, ([("some same", x), ("just one", y), ("all same", z)] : List (Str × D))) := by
    unfold cellD
    simp
  have e2 : cellD (c ++ [.dct [("some same", x), ("just one", y), ("all same", z)]] ++ [.dct [("all over", u), ("rising", v), ("twins", w)]]) (.ref (c ++ [Cell.dct [("some same", x), ("just one", y), ("all same", z)]]).length) = some (c.length + 1, ([("all over", u), ("rising", v), ("twins", w)] : List (Str × D))) := by
    unfold cellD
    simp
  unfold updD
  simp only [e1, e2]
  rw [if_pos ⟨by omega, by simp [lim]⟩, kmerge_new (kvs := [("some same", x), ("just one", y), ("all same", z)]) (more := [("all over", u), ("rising", v), ("twins", w)]) (show List.Nodup (["some same", "just one", "all same", "all over", "rising", "twins"] : List Str) by decide)]
  simp [Cup, trD]
theorem Cup_at {x y z u v w : D} : (Cup c x y z u v w)[c.length]? = some (.dct (trD x y z u v w)) := by simp [Cup]
end

theorem trunc_ok {c c' : Cs} {d : D} (h : c'.take c.length = c) (hd : d.lo c.length = true) (hc : c.all (Cell.lo c.length) = true) : kT c.length (.ok (d, c')) = .ok (d, c) := by
  rw [vT' (by rw [h, hd, hc]; rfl), h]
theorem Cup_take {c : Cs} {x y z u v w : D} {r : Cs} : (Cup c x y z u v w ++ r).take c.length = c := by simp [Cup]
theorem Cup_take0 {c : Cs} {x y z u v w : D} : (Cup c x y z u v w).take c.length = c := by simp [Cup]
theorem hdD_lo {l : List Nat} {n : Nat} : (hdD l).lo n = true := by cases l <;> simp [hdD, D.lo]
theorem sp_law_truth1 {k : Int} {row : List Int} {c : Cs} (hl : row.length ≤ 40) (hc : c.all (Cell.lo c.length) = true) : F_law_asked [.str "some same", .int k, .tup (row.map D.int)] c = .ok (.bl (!(aEq k row).isEmpty), c) := by
  have hl : row.length ≤ 100 := by omega
  have q1 : (aEq k row).length ≤ 100 := hLe hl
  have q2 : (aGt k row).length ≤ 100 := hLe hl
  have q3 : (aLt k row).length ≤ 100 := hLe hl
  unfold F_law_asked b_law_asked
  have hi : inD (.str "some same") (.ref c.length) (Cup c (.bl (!(aEq k row).isEmpty)) (.bl (decide ((aEq k row).length = 1))) (.bl (aLt k row ++ aGt k row).isEmpty) (.bl (aLt k row ++ aEq k row).isEmpty) (.bl (aFl row).isEmpty) (.bl (!(aTw row).isEmpty))) = .ok (.bl true, Cup c (.bl (!(aEq k row).isEmpty)) (.bl (decide ((aEq k row).length = 1))) (.bl (aLt k row ++ aGt k row).isEmpty) (.bl (aLt k row ++ aEq k row).isEmpty) (.bl (aFl row).isEmpty) (.bl (!(aTw row).isEmpty))) := by
    rw [wInD Cup_at]; rfl
  have hx : ixD (.ref c.length) (.str "some same") (Cup c (.bl (!(aEq k row).isEmpty)) (.bl (decide ((aEq k row).length = 1))) (.bl (aLt k row ++ aGt k row).isEmpty) (.bl (aLt k row ++ aEq k row).isEmpty) (.bl (aFl row).isEmpty) (.bl (!(aTw row).isEmpty))) = .ok (.bl (!(aEq k row).isEmpty), Cup c (.bl (!(aEq k row).isEmpty)) (.bl (decide ((aEq k row).length = 1))) (.bl (aLt k row ++ aGt k row).isEmpty) (.bl (aLt k row ++ aEq k row).isEmpty) (.bl (aFl row).isEmpty) (.bl (!(aTw row).isEmpty))) := wIxD Cup_at rfl
  simp only [evs, List.length_map, wLrg1 (rg_ok (a := 0) (b := row.length) (by omega) (by omega) (by omega) (by omega)), Int.toNat_natCast, lq_eq hl, lq_gt hl, lq_lt hl, rng_drop, lq_fl hl, lq_tw hl, neN, eqN, nats_len, cast_eq1, wAddNN q3 q2, wAddNN q3 q1, hD1, hD2]
  rw [vM' (by simp [isTy])]
  simp only [evs, List.length_map, wLrg1 (rg_ok (a := 0) (b := row.length) (by omega) (by omega) (by omega) (by omega)), Int.toNat_natCast, lq_eq hl, lq_gt hl, lq_lt hl, rng_drop, lq_fl hl, lq_tw hl, neN, eqN, nats_len, cast_eq1, wAddNN q3 q2, wAddNN q3 q1, hD1, hD2, hUp, hi, hx]
  exact trunc_ok Cup_take0 rfl hc
theorem sp_law_truth2 {k : Int} {row : List Int} {c : Cs} (hl : row.length ≤ 40) (hc : c.all (Cell.lo c.length) = true) : F_law_asked [.str "just one", .int k, .tup (row.map D.int)] c = .ok (.bl (decide ((aEq k row).length = 1)), c) := by
  have hl : row.length ≤ 100 := by omega
  have q1 : (aEq k row).length ≤ 100 := hLe hl
  have q2 : (aGt k row).length ≤ 100 := hLe hl
  have q3 : (aLt k row).length ≤ 100 := hLe hl
  unfold F_law_asked b_law_asked
  have hi : inD (.str "just one") (.ref c.length) (Cup c (.bl (!(aEq k row).isEmpty)) (.bl (decide ((aEq k row).length = 1))) (.bl (aLt k row ++ aGt k row).isEmpty) (.bl (aLt k row ++ aEq k row).isEmpty) (.bl (aFl row).isEmpty) (.bl (!(aTw row).isEmpty))) = .ok (.bl true, Cup c (.bl (!(aEq k row).isEmpty)) (.bl (decide ((aEq k row).length = 1))) (.bl (aLt k row ++ aGt k row).isEmpty) (.bl (aLt k row ++ aEq k row).isEmpty) (.bl (aFl row).isEmpty) (.bl (!(aTw row).isEmpty))) := by
    rw [wInD Cup_at]; rfl
  have hx : ixD (.ref c.length) (.str "just one") (Cup c (.bl (!(aEq k row).isEmpty)) (.bl (decide ((aEq k row).length = 1))) (.bl (aLt k row ++ aGt k row).isEmpty) (.bl (aLt k row ++ aEq k row).isEmpty) (.bl (aFl row).isEmpty) (.bl (!(aTw row).isEmpty))) = .ok (.bl (decide ((aEq k row).length = 1)), Cup c (.bl (!(aEq k row).isEmpty)) (.bl (decide ((aEq k row).length = 1))) (.bl (aLt k row ++ aGt k row).isEmpty) (.bl (aLt k row ++ aEq k row).isEmpty) (.bl (aFl row).isEmpty) (.bl (!(aTw row).isEmpty))) := wIxD Cup_at rfl
  simp only [evs, List.length_map, wLrg1 (rg_ok (a := 0) (b := row.length) (by omega) (by omega) (by omega) (by omega)), Int.toNat_natCast, lq_eq hl, lq_gt hl, lq_lt hl, rng_drop, lq_fl hl, lq_tw hl, neN, eqN, nats_len, cast_eq1, wAddNN q3 q2, wAddNN q3 q1, hD1, hD2]
  rw [vM' (by simp [isTy])]
  simp only [evs, List.length_map, wLrg1 (rg_ok (a := 0) (b := row.length) (by omega) (by omega) (by omega) (by omega)), Int.toNat_natCast, lq_eq hl, lq_gt hl, lq_lt hl, rng_drop, lq_fl hl, lq_tw hl, neN, eqN, nats_len, cast_eq1, wAddNN q3 q2, wAddNN q3 q1, hD1, hD2, hUp, hi, hx]
  exact trunc_ok Cup_take0 rfl hc
theorem sp_law_truth3 {k : Int} {row : List Int} {c : Cs} (hl : row.length ≤ 40) (hc : c.all (Cell.lo c.length) = true) : F_law_asked [.str "all same", .int k, .tup (row.map D.int)] c = .ok (.bl (aLt k row ++ aGt k row).isEmpty, c) := by
  have hl : row.length ≤ 100 := by omega
  have q1 : (aEq k row).length ≤ 100 := hLe hl
  have q2 : (aGt k row).length ≤ 100 := hLe hl
  have q3 : (aLt k row).length ≤ 100 := hLe hl
  unfold F_law_asked b_law_asked
  have hi : inD (.str "all same") (.ref c.length) (Cup c (.bl (!(aEq k row).isEmpty)) (.bl (decide ((aEq k row).length = 1))) (.bl (aLt k row ++ aGt k row).isEmpty) (.bl (aLt k row ++ aEq k row).isEmpty) (.bl (aFl row).isEmpty) (.bl (!(aTw row).isEmpty))) = .ok (.bl true, Cup c (.bl (!(aEq k row).isEmpty)) (.bl (decide ((aEq k row).length = 1))) (.bl (aLt k row ++ aGt k row).isEmpty) (.bl (aLt k row ++ aEq k row).isEmpty) (.bl (aFl row).isEmpty) (.bl (!(aTw row).isEmpty))) := by
    rw [wInD Cup_at]; rfl
  have hx : ixD (.ref c.length) (.str "all same") (Cup c (.bl (!(aEq k row).isEmpty)) (.bl (decide ((aEq k row).length = 1))) (.bl (aLt k row ++ aGt k row).isEmpty) (.bl (aLt k row ++ aEq k row).isEmpty) (.bl (aFl row).isEmpty) (.bl (!(aTw row).isEmpty))) = .ok (.bl (aLt k row ++ aGt k row).isEmpty, Cup c (.bl (!(aEq k row).isEmpty)) (.bl (decide ((aEq k row).length = 1))) (.bl (aLt k row ++ aGt k row).isEmpty) (.bl (aLt k row ++ aEq k row).isEmpty) (.bl (aFl row).isEmpty) (.bl (!(aTw row).isEmpty))) := wIxD Cup_at rfl
  simp only [evs, List.length_map, wLrg1 (rg_ok (a := 0) (b := row.length) (by omega) (by omega) (by omega) (by omega)), Int.toNat_natCast, lq_eq hl, lq_gt hl, lq_lt hl, rng_drop, lq_fl hl, lq_tw hl, neN, eqN, nats_len, cast_eq1, wAddNN q3 q2, wAddNN q3 q1, hD1, hD2]
  rw [vM' (by simp [isTy])]
  simp only [evs, List.length_map, wLrg1 (rg_ok (a := 0) (b := row.length) (by omega) (by omega) (by omega) (by omega)), Int.toNat_natCast, lq_eq hl, lq_gt hl, lq_lt hl, rng_drop, lq_fl hl, lq_tw hl, neN, eqN, nats_len, cast_eq1, wAddNN q3 q2, wAddNN q3 q1, hD1, hD2, hUp, hi, hx]
  exact trunc_ok Cup_take0 rfl hc
theorem sp_law_truth4 {k : Int} {row : List Int} {c : Cs} (hl : row.length ≤ 40) (hc : c.all (Cell.lo c.length) = true) : F_law_asked [.str "all over", .int k, .tup (row.map D.int)] c = .ok (.bl (aLt k row ++ aEq k row).isEmpty, c) := by
  have hl : row.length ≤ 100 := by omega
  have q1 : (aEq k row).length ≤ 100 := hLe hl
  have q2 : (aGt k row).length ≤ 100 := hLe hl
  have q3 : (aLt k row).length ≤ 100 := hLe hl
  unfold F_law_asked b_law_asked
  have hi : inD (.str "all over") (.ref c.length) (Cup c (.bl (!(aEq k row).isEmpty)) (.bl (decide ((aEq k row).length = 1))) (.bl (aLt k row ++ aGt k row).isEmpty) (.bl (aLt k row ++ aEq k row).isEmpty) (.bl (aFl row).isEmpty) (.bl (!(aTw row).isEmpty))) = .ok (.bl true, Cup c (.bl (!(aEq k row).isEmpty)) (.bl (decide ((aEq k row).length = 1))) (.bl (aLt k row ++ aGt k row).isEmpty) (.bl (aLt k row ++ aEq k row).isEmpty) (.bl (aFl row).isEmpty) (.bl (!(aTw row).isEmpty))) := by
    rw [wInD Cup_at]; rfl
  have hx : ixD (.ref c.length) (.str "all over") (Cup c (.bl (!(aEq k row).isEmpty)) (.bl (decide ((aEq k row).length = 1))) (.bl (aLt k row ++ aGt k row).isEmpty) (.bl (aLt k row ++ aEq k row).isEmpty) (.bl (aFl row).isEmpty) (.bl (!(aTw row).isEmpty))) = .ok (.bl (aLt k row ++ aEq k row).isEmpty, Cup c (.bl (!(aEq k row).isEmpty)) (.bl (decide ((aEq k row).length = 1))) (.bl (aLt k row ++ aGt k row).isEmpty) (.bl (aLt k row ++ aEq k row).isEmpty) (.bl (aFl row).isEmpty) (.bl (!(aTw row).isEmpty))) := wIxD Cup_at rfl
  simp only [evs, List.length_map, wLrg1 (rg_ok (a := 0) (b := row.length) (by omega) (by omega) (by omega) (by omega)), Int.toNat_natCast, lq_eq hl, lq_gt hl, lq_lt hl, rng_drop, lq_fl hl, lq_tw hl, neN, eqN, nats_len, cast_eq1, wAddNN q3 q2, wAddNN q3 q1, hD1, hD2]
  rw [vM' (by simp [isTy])]
  simp only [evs, List.length_map, wLrg1 (rg_ok (a := 0) (b := row.length) (by omega) (by omega) (by omega) (by omega)), Int.toNat_natCast, lq_eq hl, lq_gt hl, lq_lt hl, rng_drop, lq_fl hl, lq_tw hl, neN, eqN, nats_len, cast_eq1, wAddNN q3 q2, wAddNN q3 q1, hD1, hD2, hUp, hi, hx]
  exact trunc_ok Cup_take0 rfl hc
theorem sp_law_truth5 {k : Int} {row : List Int} {c : Cs} (hl : row.length ≤ 40) (hc : c.all (Cell.lo c.length) = true) : F_law_asked [.str "rising", .int k, .tup (row.map D.int)] c = .ok (.bl (aFl row).isEmpty, c) := by
  have hl : row.length ≤ 100 := by omega
  have q1 : (aEq k row).length ≤ 100 := hLe hl
  have q2 : (aGt k row).length ≤ 100 := hLe hl
  have q3 : (aLt k row).length ≤ 100 := hLe hl
  unfold F_law_asked b_law_asked
  have hi : inD (.str "rising") (.ref c.length) (Cup c (.bl (!(aEq k row).isEmpty)) (.bl (decide ((aEq k row).length = 1))) (.bl (aLt k row ++ aGt k row).isEmpty) (.bl (aLt k row ++ aEq k row).isEmpty) (.bl (aFl row).isEmpty) (.bl (!(aTw row).isEmpty))) = .ok (.bl true, Cup c (.bl (!(aEq k row).isEmpty)) (.bl (decide ((aEq k row).length = 1))) (.bl (aLt k row ++ aGt k row).isEmpty) (.bl (aLt k row ++ aEq k row).isEmpty) (.bl (aFl row).isEmpty) (.bl (!(aTw row).isEmpty))) := by
    rw [wInD Cup_at]; rfl
  have hx : ixD (.ref c.length) (.str "rising") (Cup c (.bl (!(aEq k row).isEmpty)) (.bl (decide ((aEq k row).length = 1))) (.bl (aLt k row ++ aGt k row).isEmpty) (.bl (aLt k row ++ aEq k row).isEmpty) (.bl (aFl row).isEmpty) (.bl (!(aTw row).isEmpty))) = .ok (.bl (aFl row).isEmpty, Cup c (.bl (!(aEq k row).isEmpty)) (.bl (decide ((aEq k row).length = 1))) (.bl (aLt k row ++ aGt k row).isEmpty) (.bl (aLt k row ++ aEq k row).isEmpty) (.bl (aFl row).isEmpty) (.bl (!(aTw row).isEmpty))) := wIxD Cup_at rfl
  simp only [evs, List.length_map, wLrg1 (rg_ok (a := 0) (b := row.length) (by omega) (by omega) (by omega) (by omega)), Int.toNat_natCast, lq_eq hl, lq_gt hl, lq_lt hl, rng_drop, lq_fl hl, lq_tw hl, neN, eqN, nats_len, cast_eq1, wAddNN q3 q2, wAddNN q3 q1, hD1, hD2]
  rw [vM' (by simp [isTy])]
  simp only [evs, List.length_map, wLrg1 (rg_ok (a := 0) (b := row.length) (by omega) (by omega) (by omega) (by omega)), Int.toNat_natCast, lq_eq hl, lq_gt hl, lq_lt hl, rng_drop, lq_fl hl, lq_tw hl, neN, eqN, nats_len, cast_eq1, wAddNN q3 q2, wAddNN q3 q1, hD1, hD2, hUp, hi, hx]
  exact trunc_ok Cup_take0 rfl hc
theorem sp_law_truth6 {k : Int} {row : List Int} {c : Cs} (hl : row.length ≤ 40) (hc : c.all (Cell.lo c.length) = true) : F_law_asked [.str "twins", .int k, .tup (row.map D.int)] c = .ok (.bl (!(aTw row).isEmpty), c) := by
  have hl : row.length ≤ 100 := by omega
  have q1 : (aEq k row).length ≤ 100 := hLe hl
  have q2 : (aGt k row).length ≤ 100 := hLe hl
  have q3 : (aLt k row).length ≤ 100 := hLe hl
  unfold F_law_asked b_law_asked
  have hi : inD (.str "twins") (.ref c.length) (Cup c (.bl (!(aEq k row).isEmpty)) (.bl (decide ((aEq k row).length = 1))) (.bl (aLt k row ++ aGt k row).isEmpty) (.bl (aLt k row ++ aEq k row).isEmpty) (.bl (aFl row).isEmpty) (.bl (!(aTw row).isEmpty))) = .ok (.bl true, Cup c (.bl (!(aEq k row).isEmpty)) (.bl (decide ((aEq k row).length = 1))) (.bl (aLt k row ++ aGt k row).isEmpty) (.bl (aLt k row ++ aEq k row).isEmpty) (.bl (aFl row).isEmpty) (.bl (!(aTw row).isEmpty))) := by
    rw [wInD Cup_at]; rfl
  have hx : ixD (.ref c.length) (.str "twins") (Cup c (.bl (!(aEq k row).isEmpty)) (.bl (decide ((aEq k row).length = 1))) (.bl (aLt k row ++ aGt k row).isEmpty) (.bl (aLt k row ++ aEq k row).isEmpty) (.bl (aFl row).isEmpty) (.bl (!(aTw row).isEmpty))) = .ok (.bl (!(aTw row).isEmpty), Cup c (.bl (!(aEq k row).isEmpty)) (.bl (decide ((aEq k row).length = 1))) (.bl (aLt k row ++ aGt k row).isEmpty) (.bl (aLt k row ++ aEq k row).isEmpty) (.bl (aFl row).isEmpty) (.bl (!(aTw row).isEmpty))) := wIxD Cup_at rfl
  simp only [evs, List.length_map, wLrg1 (rg_ok (a := 0) (b := row.length) (by omega) (by omega) (by omega) (by omega)), Int.toNat_natCast, lq_eq hl, lq_gt hl, lq_lt hl, rng_drop, lq_fl hl, lq_tw hl, neN, eqN, nats_len, cast_eq1, wAddNN q3 q2, wAddNN q3 q1, hD1, hD2]
  rw [vM' (by simp [isTy])]
  simp only [evs, List.length_map, wLrg1 (rg_ok (a := 0) (b := row.length) (by omega) (by omega) (by omega) (by omega)), Int.toNat_natCast, lq_eq hl, lq_gt hl, lq_lt hl, rng_drop, lq_fl hl, lq_tw hl, neN, eqN, nats_len, cast_eq1, wAddNN q3 q2, wAddNN q3 q1, hD1, hD2, hUp, hi, hx]
  exact trunc_ok Cup_take0 rfl hc
theorem sel_pw (p : Nat → Int → Bool) : ∀ (i : Nat) (row : List Int), (∀ n ∈ sel p i row, i ≤ n) ∧ (sel p i row).Pairwise (· < ·)
  | i, [] => ⟨fun n h => (by cases h), List.Pairwise.nil⟩
  | i, x :: xs => by
    obtain ⟨h1, h2⟩ := sel_pw p (i + 1) xs
    unfold sel
    split
    · refine ⟨fun n hn => ?_, List.pairwise_cons.mpr ⟨fun n hn => h1 n hn, h2⟩⟩
      rcases List.mem_cons.mp hn with rfl | hn
      · exact Nat.le_refl _
      · exact Nat.le_of_succ_le (h1 n hn)
    · exact ⟨fun n hn => Nat.le_of_succ_le (h1 n hn), h2⟩
theorem sel_pl {p : Nat → Int → Bool} {i : Nat} {row : List Int} : (sel p i row).Pairwise (· ≤ ·) := (sel_pw p i row).2.imp fun h => Nat.le_of_lt h
theorem sel_or (k : Int) : ∀ (i : Nat) (row : List Int), (sel (fun _ x => decide (x = k)) i row ++ sel (fun _ x => decide (k < x)) i row).Perm (sel (fun _ x => decide (k ≤ x)) i row)
  | i, [] => .refl _
  | i, x :: xs => by
    have ih := sel_or k (i + 1) xs
    unfold sel
    by_cases h1 : x = k
    · subst h1
      simp only [decide_true, if_true, Int.lt_irrefl, decide_false, Bool.false_eq_true, if_false, Int.le_refl, List.cons_append]
      exact ih.cons _
    · by_cases h2 : k < x
      · have h3 : k ≤ x := by omega
        simp only [h1, h2, h3, decide_true, if_true, decide_false, Bool.false_eq_true, if_false]
        exact (List.perm_middle).trans (ih.cons _)
      · have h3 : ¬ k ≤ x := by omega
        simp only [h1, h2, h3, decide_false, Bool.false_eq_true, if_false]
        exact ih
theorem sp_law_place1 {k : Int} {row : List Int} {c : Cs} (hl : row.length ≤ 40) (hc : c.all (Cell.lo c.length) = true) : F_law_asked [.str "first same", .int k, .tup (row.map D.int)] c = .ok (hdD (aEq k row), c) := by
  have hl : row.length ≤ 100 := by omega
  have q1 : (aEq k row).length ≤ 100 := hLe hl
  have q2 : (aGt k row).length ≤ 100 := hLe hl
  have q3 : (aLt k row).length ≤ 100 := hLe hl
  unfold F_law_asked b_law_asked
  have hi : inD (.str "first same") (.ref c.length) (Cup c (.bl (!(aEq k row).isEmpty)) (.bl (decide ((aEq k row).length = 1))) (.bl (aLt k row ++ aGt k row).isEmpty) (.bl (aLt k row ++ aEq k row).isEmpty) (.bl (aFl row).isEmpty) (.bl (!(aTw row).isEmpty))) = .ok (.bl false, Cup c (.bl (!(aEq k row).isEmpty)) (.bl (decide ((aEq k row).length = 1))) (.bl (aLt k row ++ aGt k row).isEmpty) (.bl (aLt k row ++ aEq k row).isEmpty) (.bl (aFl row).isEmpty) (.bl (!(aTw row).isEmpty))) := by
    rw [wInD Cup_at]; rfl
  have h2 : ∀ c, inD (.str "first same") (.lst [.str "last same", .str "last under"]) c = .ok (.bl false, c) := fun c => rfl
  have h3 : ∀ c, inD (.str "first same") (.lst [.str "first not under", .str "behind same"]) c = .ok (.bl false, c) := fun c => rfl
  have hx : ∀ x y z t (c : Cs), ixD (.ref c.length) (.str "first same") (c ++ [.dct [("first same", x), ("first over", y), ("first fall", z), ("first twice", t)]]) = .ok (x, c ++ [.dct [("first same", x), ("first over", y), ("first fall", z), ("first twice", t)]]) := fun x y z t c => wIxD List.getElem?_concat_length rfl
  simp only [evs, List.length_map, wLrg1 (rg_ok (a := 0) (b := row.length) (by omega) (by omega) (by omega) (by omega)), Int.toNat_natCast, lq_eq hl, lq_gt hl, lq_lt hl, rng_drop, lq_fl hl, lq_tw hl, neN, eqN, nats_len, cast_eq1, wAddNN q3 q2, wAddNN q3 q1, hD1, hD2]
  rw [vM' (by simp [isTy])]
  simp only [evs, List.length_map, wLrg1 (rg_ok (a := 0) (b := row.length) (by omega) (by omega) (by omega) (by omega)), Int.toNat_natCast, lq_eq hl, lq_gt hl, lq_lt hl, rng_drop, lq_fl hl, lq_tw hl, neN, eqN, nats_len, cast_eq1, wAddNN q3 q2, wAddNN q3 q1, hD1, hD2, hUp, hi, h2, h3, tailK, ofS_inj, String.reduceEq, decide_true, decide_false, Bool.or_false, Bool.false_or, Bool.true_or, Bool.or_true, Bool.not_true, Bool.not_false, hD3, hx]
  exact trunc_ok Cup_take hdD_lo hc
theorem sp_law_place2 {k : Int} {row : List Int} {c : Cs} (hl : row.length ≤ 40) (hc : c.all (Cell.lo c.length) = true) : F_law_asked [.str "last same", .int k, .tup (row.map D.int)] c = .ok (hdD ((aEq k row).drop ((aEq k row).length - 1)), c) := by
  have hl : row.length ≤ 100 := by omega
  have q1 : (aEq k row).length ≤ 100 := hLe hl
  have q2 : (aGt k row).length ≤ 100 := hLe hl
  have q3 : (aLt k row).length ≤ 100 := hLe hl
  unfold F_law_asked b_law_asked
  have hi : inD (.str "last same") (.ref c.length) (Cup c (.bl (!(aEq k row).isEmpty)) (.bl (decide ((aEq k row).length = 1))) (.bl (aLt k row ++ aGt k row).isEmpty) (.bl (aLt k row ++ aEq k row).isEmpty) (.bl (aFl row).isEmpty) (.bl (!(aTw row).isEmpty))) = .ok (.bl false, Cup c (.bl (!(aEq k row).isEmpty)) (.bl (decide ((aEq k row).length = 1))) (.bl (aLt k row ++ aGt k row).isEmpty) (.bl (aLt k row ++ aEq k row).isEmpty) (.bl (aFl row).isEmpty) (.bl (!(aTw row).isEmpty))) := by
    rw [wInD Cup_at]; rfl
  have h2 : ∀ c, inD (.str "last same") (.lst [.str "last same", .str "last under"]) c = .ok (.bl true, c) := fun c => rfl
  have h3 : ∀ c, inD (.str "last same") (.lst [.str "first not under", .str "behind same"]) c = .ok (.bl false, c) := fun c => rfl
  simp only [evs, List.length_map, wLrg1 (rg_ok (a := 0) (b := row.length) (by omega) (by omega) (by omega) (by omega)), Int.toNat_natCast, lq_eq hl, lq_gt hl, lq_lt hl, rng_drop, lq_fl hl, lq_tw hl, neN, eqN, nats_len, cast_eq1, wAddNN q3 q2, wAddNN q3 q1, hD1, hD2]
  rw [vM' (by simp [isTy])]
  simp only [evs, List.length_map, wLrg1 (rg_ok (a := 0) (b := row.length) (by omega) (by omega) (by omega) (by omega)), Int.toNat_natCast, lq_eq hl, lq_gt hl, lq_lt hl, rng_drop, lq_fl hl, lq_tw hl, neN, eqN, nats_len, cast_eq1, wAddNN q3 q2, wAddNN q3 q1, hD1, hD2, hUp, hi, h2, h3, tailK, ofS_inj, String.reduceEq, decide_true, decide_false, Bool.or_false, Bool.false_or, Bool.true_or, Bool.or_true, Bool.not_true, Bool.not_false, cutN]
  exact trunc_ok Cup_take0 hdD_lo hc
theorem sp_law_place3 {k : Int} {row : List Int} {c : Cs} (hl : row.length ≤ 40) (hc : c.all (Cell.lo c.length) = true) : F_law_asked [.str "first over", .int k, .tup (row.map D.int)] c = .ok (hdD (aGt k row), c) := by
  have hl : row.length ≤ 100 := by omega
  have q1 : (aEq k row).length ≤ 100 := hLe hl
  have q2 : (aGt k row).length ≤ 100 := hLe hl
  have q3 : (aLt k row).length ≤ 100 := hLe hl
  unfold F_law_asked b_law_asked
  have hi : inD (.str "first over") (.ref c.length) (Cup c (.bl (!(aEq k row).isEmpty)) (.bl (decide ((aEq k row).length = 1))) (.bl (aLt k row ++ aGt k row).isEmpty) (.bl (aLt k row ++ aEq k row).isEmpty) (.bl (aFl row).isEmpty) (.bl (!(aTw row).isEmpty))) = .ok (.bl false, Cup c (.bl (!(aEq k row).isEmpty)) (.bl (decide ((aEq k row).length = 1))) (.bl (aLt k row ++ aGt k row).isEmpty) (.bl (aLt k row ++ aEq k row).isEmpty) (.bl (aFl row).isEmpty) (.bl (!(aTw row).isEmpty))) := by
    rw [wInD Cup_at]; rfl
  have h2 : ∀ c, inD (.str "first over") (.lst [.str "last same", .str "last under"]) c = .ok (.bl false, c) := fun c => rfl
  have h3 : ∀ c, inD (.str "first over") (.lst [.str "first not under", .str "behind same"]) c = .ok (.bl false, c) := fun c => rfl
  have hx : ∀ x y z t (c : Cs), ixD (.ref c.length) (.str "first over") (c ++ [.dct [("first same", x), ("first over", y), ("first fall", z), ("first twice", t)]]) = .ok (y, c ++ [.dct [("first same", x), ("first over", y), ("first fall", z), ("first twice", t)]]) := fun x y z t c => wIxD List.getElem?_concat_length rfl
  simp only [evs, List.length_map, wLrg1 (rg_ok (a := 0) (b := row.length) (by omega) (by omega) (by omega) (by omega)), Int.toNat_natCast, lq_eq hl, lq_gt hl, lq_lt hl, rng_drop, lq_fl hl, lq_tw hl, neN, eqN, nats_len, cast_eq1, wAddNN q3 q2, wAddNN q3 q1, hD1, hD2]
  rw [vM' (by simp [isTy])]
  simp only [evs, List.length_map, wLrg1 (rg_ok (a := 0) (b := row.length) (by omega) (by omega) (by omega) (by omega)), Int.toNat_natCast, lq_eq hl, lq_gt hl, lq_lt hl, rng_drop, lq_fl hl, lq_tw hl, neN, eqN, nats_len, cast_eq1, wAddNN q3 q2, wAddNN q3 q1, hD1, hD2, hUp, hi, h2, h3, tailK, ofS_inj, String.reduceEq, decide_true, decide_false, Bool.or_false, Bool.false_or, Bool.true_or, Bool.or_true, Bool.not_true, Bool.not_false, hD3, hx]
  exact trunc_ok Cup_take hdD_lo hc
theorem sp_law_place4 {k : Int} {row : List Int} {c : Cs} (hl : row.length ≤ 40) (hc : c.all (Cell.lo c.length) = true) : F_law_asked [.str "last under", .int k, .tup (row.map D.int)] c = .ok (hdD ((aLt k row).drop ((aLt k row).length - 1)), c) := by
  have hl : row.length ≤ 100 := by omega
  have q1 : (aEq k row).length ≤ 100 := hLe hl
  have q2 : (aGt k row).length ≤ 100 := hLe hl
  have q3 : (aLt k row).length ≤ 100 := hLe hl
  unfold F_law_asked b_law_asked
  have hi : inD (.str "last under") (.ref c.length) (Cup c (.bl (!(aEq k row).isEmpty)) (.bl (decide ((aEq k row).length = 1))) (.bl (aLt k row ++ aGt k row).isEmpty) (.bl (aLt k row ++ aEq k row).isEmpty) (.bl (aFl row).isEmpty) (.bl (!(aTw row).isEmpty))) = .ok (.bl false, Cup c (.bl (!(aEq k row).isEmpty)) (.bl (decide ((aEq k row).length = 1))) (.bl (aLt k row ++ aGt k row).isEmpty) (.bl (aLt k row ++ aEq k row).isEmpty) (.bl (aFl row).isEmpty) (.bl (!(aTw row).isEmpty))) := by
    rw [wInD Cup_at]; rfl
  have h2 : ∀ c, inD (.str "last under") (.lst [.str "last same", .str "last under"]) c = .ok (.bl true, c) := fun c => rfl
  have h3 : ∀ c, inD (.str "last under") (.lst [.str "first not under", .str "behind same"]) c = .ok (.bl false, c) := fun c => rfl
  simp only [evs, List.length_map, wLrg1 (rg_ok (a := 0) (b := row.length) (by omega) (by omega) (by omega) (by omega)), Int.toNat_natCast, lq_eq hl, lq_gt hl, lq_lt hl, rng_drop, lq_fl hl, lq_tw hl, neN, eqN, nats_len, cast_eq1, wAddNN q3 q2, wAddNN q3 q1, hD1, hD2]
  rw [vM' (by simp [isTy])]
  simp only [evs, List.length_map, wLrg1 (rg_ok (a := 0) (b := row.length) (by omega) (by omega) (by omega) (by omega)), Int.toNat_natCast, lq_eq hl, lq_gt hl, lq_lt hl, rng_drop, lq_fl hl, lq_tw hl, neN, eqN, nats_len, cast_eq1, wAddNN q3 q2, wAddNN q3 q1, hD1, hD2, hUp, hi, h2, h3, tailK, ofS_inj, String.reduceEq, decide_true, decide_false, Bool.or_false, Bool.false_or, Bool.true_or, Bool.or_true, Bool.not_true, Bool.not_false, cutN]
  exact trunc_ok Cup_take0 hdD_lo hc
theorem sp_law_place5 {k : Int} {row : List Int} {c : Cs} (hl : row.length ≤ 40) (hc : c.all (Cell.lo c.length) = true) : F_law_asked [.str "first not under", .int k, .tup (row.map D.int)] c = .ok (hdD (aGe k row ++ [row.length]), c) := by
  have hl : row.length ≤ 100 := by omega
  have q1 : (aEq k row).length ≤ 100 := hLe hl
  have q2 : (aGt k row).length ≤ 100 := hLe hl
  have q3 : (aLt k row).length ≤ 100 := hLe hl
  unfold F_law_asked b_law_asked
  have hi : inD (.str "first not under") (.ref c.length) (Cup c (.bl (!(aEq k row).isEmpty)) (.bl (decide ((aEq k row).length = 1))) (.bl (aLt k row ++ aGt k row).isEmpty) (.bl (aLt k row ++ aEq k row).isEmpty) (.bl (aFl row).isEmpty) (.bl (!(aTw row).isEmpty))) = .ok (.bl false, Cup c (.bl (!(aEq k row).isEmpty)) (.bl (decide ((aEq k row).length = 1))) (.bl (aLt k row ++ aGt k row).isEmpty) (.bl (aLt k row ++ aEq k row).isEmpty) (.bl (aFl row).isEmpty) (.bl (!(aTw row).isEmpty))) := by
    rw [wInD Cup_at]; rfl
  have h2 : ∀ c, inD (.str "first not under") (.lst [.str "last same", .str "last under"]) c = .ok (.bl false, c) := fun c => rfl
  have h3 : ∀ c, inD (.str "first not under") (.lst [.str "first not under", .str "behind same"]) c = .ok (.bl true, c) := fun c => rfl
  simp only [evs, List.length_map, wLrg1 (rg_ok (a := 0) (b := row.length) (by omega) (by omega) (by omega) (by omega)), Int.toNat_natCast, lq_eq hl, lq_gt hl, lq_lt hl, rng_drop, lq_fl hl, lq_tw hl, neN, eqN, nats_len, cast_eq1, wAddNN q3 q2, wAddNN q3 q1, hD1, hD2]
  rw [vM' (by simp [isTy])]
  simp only [evs, List.length_map, wLrg1 (rg_ok (a := 0) (b := row.length) (by omega) (by omega) (by omega) (by omega)), Int.toNat_natCast, lq_eq hl, lq_gt hl, lq_lt hl, rng_drop, lq_fl hl, lq_tw hl, neN, eqN, nats_len, cast_eq1, wAddNN q3 q2, wAddNN q3 q1, hD1, hD2, hUp, hi, h2, h3, tailK, ofS_inj, String.reduceEq, decide_true, decide_false, Bool.or_false, Bool.false_or, Bool.true_or, Bool.or_true, Bool.not_true, Bool.not_false, wAddNN q1 q2, sortN (l := aEq k row ++ aGt k row) (r := aGe k row) (sel_or k 0 row) sel_pl, wAddN (l := aGe k row) (hLe hl)]
  exact trunc_ok Cup_take0 hdD_lo hc
theorem sp_law_place6 {k : Int} {row : List Int} {c : Cs} (hl : row.length ≤ 40) (hc : c.all (Cell.lo c.length) = true) : F_law_asked [.str "behind same", .int k, .tup (row.map D.int)] c = .ok (hdD (aGt k row ++ [row.length]), c) := by
  have hl : row.length ≤ 100 := by omega
  have q1 : (aEq k row).length ≤ 100 := hLe hl
  have q2 : (aGt k row).length ≤ 100 := hLe hl
  have q3 : (aLt k row).length ≤ 100 := hLe hl
  unfold F_law_asked b_law_asked
  have hi : inD (.str "behind same") (.ref c.length) (Cup c (.bl (!(aEq k row).isEmpty)) (.bl (decide ((aEq k row).length = 1))) (.bl (aLt k row ++ aGt k row).isEmpty) (.bl (aLt k row ++ aEq k row).isEmpty) (.bl (aFl row).isEmpty) (.bl (!(aTw row).isEmpty))) = .ok (.bl false, Cup c (.bl (!(aEq k row).isEmpty)) (.bl (decide ((aEq k row).length = 1))) (.bl (aLt k row ++ aGt k row).isEmpty) (.bl (aLt k row ++ aEq k row).isEmpty) (.bl (aFl row).isEmpty) (.bl (!(aTw row).isEmpty))) := by
    rw [wInD Cup_at]; rfl
  have h2 : ∀ c, inD (.str "behind same") (.lst [.str "last same", .str "last under"]) c = .ok (.bl false, c) := fun c => rfl
  have h3 : ∀ c, inD (.str "behind same") (.lst [.str "first not under", .str "behind same"]) c = .ok (.bl true, c) := fun c => rfl
  simp only [evs, List.length_map, wLrg1 (rg_ok (a := 0) (b := row.length) (by omega) (by omega) (by omega) (by omega)), Int.toNat_natCast, lq_eq hl, lq_gt hl, lq_lt hl, rng_drop, lq_fl hl, lq_tw hl, neN, eqN, nats_len, cast_eq1, wAddNN q3 q2, wAddNN q3 q1, hD1, hD2]
  rw [vM' (by simp [isTy])]
  simp only [evs, List.length_map, wLrg1 (rg_ok (a := 0) (b := row.length) (by omega) (by omega) (by omega) (by omega)), Int.toNat_natCast, lq_eq hl, lq_gt hl, lq_lt hl, rng_drop, lq_fl hl, lq_tw hl, neN, eqN, nats_len, cast_eq1, wAddNN q3 q2, wAddNN q3 q1, hD1, hD2, hUp, hi, h2, h3, tailK, ofS_inj, String.reduceEq, decide_true, decide_false, Bool.or_false, Bool.false_or, Bool.true_or, Bool.or_true, Bool.not_true, Bool.not_false, sortN (l := aGt k row) (r := aGt k row) (.refl _) sel_pl, wAddN (l := aGt k row) (hLe hl)]
  exact trunc_ok Cup_take0 hdD_lo hc
theorem sp_law_place7 {k : Int} {row : List Int} {c : Cs} (hl : row.length ≤ 40) (hc : c.all (Cell.lo c.length) = true) : F_law_asked [.str "first fall", .int k, .tup (row.map D.int)] c = .ok (hdD (aFl row), c) := by
  have hl : row.length ≤ 100 := by omega
  have q1 : (aEq k row).length ≤ 100 := hLe hl
  have q2 : (aGt k row).length ≤ 100 := hLe hl
  have q3 : (aLt k row).length ≤ 100 := hLe hl
  unfold F_law_asked b_law_asked
  have hi : inD (.str "first fall") (.ref c.length) (Cup c (.bl (!(aEq k row).isEmpty)) (.bl (decide ((aEq k row).length = 1))) (.bl (aLt k row ++ aGt k row).isEmpty) (.bl (aLt k row ++ aEq k row).isEmpty) (.bl (aFl row).isEmpty) (.bl (!(aTw row).isEmpty))) = .ok (.bl false, Cup c (.bl (!(aEq k row).isEmpty)) (.bl (decide ((aEq k row).length = 1))) (.bl (aLt k row ++ aGt k row).isEmpty) (.bl (aLt k row ++ aEq k row).isEmpty) (.bl (aFl row).isEmpty) (.bl (!(aTw row).isEmpty))) := by
    rw [wInD Cup_at]; rfl
  have h2 : ∀ c, inD (.str "first fall") (.lst [.str "last same", .str "last under"]) c = .ok (.bl false, c) := fun c => rfl
  have h3 : ∀ c, inD (.str "first fall") (.lst [.str "first not under", .str "behind same"]) c = .ok (.bl false, c) := fun c => rfl
  have hx : ∀ x y z t (c : Cs), ixD (.ref c.length) (.str "first fall") (c ++ [.dct [("first same", x), ("first over", y), ("first fall", z), ("first twice", t)]]) = .ok (z, c ++ [.dct [("first same", x), ("first over", y), ("first fall", z), ("first twice", t)]]) := fun x y z t c => wIxD List.getElem?_concat_length rfl
  simp only [evs, List.length_map, wLrg1 (rg_ok (a := 0) (b := row.length) (by omega) (by omega) (by omega) (by omega)), Int.toNat_natCast, lq_eq hl, lq_gt hl, lq_lt hl, rng_drop, lq_fl hl, lq_tw hl, neN, eqN, nats_len, cast_eq1, wAddNN q3 q2, wAddNN q3 q1, hD1, hD2]
  rw [vM' (by simp [isTy])]
  simp only [evs, List.length_map, wLrg1 (rg_ok (a := 0) (b := row.length) (by omega) (by omega) (by omega) (by omega)), Int.toNat_natCast, lq_eq hl, lq_gt hl, lq_lt hl, rng_drop, lq_fl hl, lq_tw hl, neN, eqN, nats_len, cast_eq1, wAddNN q3 q2, wAddNN q3 q1, hD1, hD2, hUp, hi, h2, h3, tailK, ofS_inj, String.reduceEq, decide_true, decide_false, Bool.or_false, Bool.false_or, Bool.true_or, Bool.or_true, Bool.not_true, Bool.not_false, hD3, hx]
  exact trunc_ok Cup_take hdD_lo hc
theorem sp_law_place8 {k : Int} {row : List Int} {c : Cs} (hl : row.length ≤ 40) (hc : c.all (Cell.lo c.length) = true) : F_law_asked [.str "first twice", .int k, .tup (row.map D.int)] c = .ok (hdD (aTw row), c) := by
  have hl : row.length ≤ 100 := by omega
  have q1 : (aEq k row).length ≤ 100 := hLe hl
  have q2 : (aGt k row).length ≤ 100 := hLe hl
  have q3 : (aLt k row).length ≤ 100 := hLe hl
  unfold F_law_asked b_law_asked
  have hi : inD (.str "first twice") (.ref c.length) (Cup c (.bl (!(aEq k row).isEmpty)) (.bl (decide ((aEq k row).length = 1))) (.bl (aLt k row ++ aGt k row).isEmpty) (.bl (aLt k row ++ aEq k row).isEmpty) (.bl (aFl row).isEmpty) (.bl (!(aTw row).isEmpty))) = .ok (.bl false, Cup c (.bl (!(aEq k row).isEmpty)) (.bl (decide ((aEq k row).length = 1))) (.bl (aLt k row ++ aGt k row).isEmpty) (.bl (aLt k row ++ aEq k row).isEmpty) (.bl (aFl row).isEmpty) (.bl (!(aTw row).isEmpty))) := by
    rw [wInD Cup_at]; rfl
  have h2 : ∀ c, inD (.str "first twice") (.lst [.str "last same", .str "last under"]) c = .ok (.bl false, c) := fun c => rfl
  have h3 : ∀ c, inD (.str "first twice") (.lst [.str "first not under", .str "behind same"]) c = .ok (.bl false, c) := fun c => rfl
  have hx : ∀ x y z t (c : Cs), ixD (.ref c.length) (.str "first twice") (c ++ [.dct [("first same", x), ("first over", y), ("first fall", z), ("first twice", t)]]) = .ok (t, c ++ [.dct [("first same", x), ("first over", y), ("first fall", z), ("first twice", t)]]) := fun x y z t c => wIxD List.getElem?_concat_length rfl
  simp only [evs, List.length_map, wLrg1 (rg_ok (a := 0) (b := row.length) (by omega) (by omega) (by omega) (by omega)), Int.toNat_natCast, lq_eq hl, lq_gt hl, lq_lt hl, rng_drop, lq_fl hl, lq_tw hl, neN, eqN, nats_len, cast_eq1, wAddNN q3 q2, wAddNN q3 q1, hD1, hD2]
  rw [vM' (by simp [isTy])]
  simp only [evs, List.length_map, wLrg1 (rg_ok (a := 0) (b := row.length) (by omega) (by omega) (by omega) (by omega)), Int.toNat_natCast, lq_eq hl, lq_gt hl, lq_lt hl, rng_drop, lq_fl hl, lq_tw hl, neN, eqN, nats_len, cast_eq1, wAddNN q3 q2, wAddNN q3 q1, hD1, hD2, hUp, hi, h2, h3, tailK, ofS_inj, String.reduceEq, decide_true, decide_false, Bool.or_false, Bool.false_or, Bool.true_or, Bool.or_true, Bool.not_true, Bool.not_false, hD3, hx]
  exact trunc_ok Cup_take hdD_lo hc

/-! ### both answer the same -/
theorem emp_len {α : Type} (l : List α) : l.isEmpty = decide (l.length = 0) := by cases l <;> simp
theorem hd_rev (l : List Nat) : hdD l.reverse = hdD (l.drop (l.length - 1)) := by
  rcases List.eq_nil_or_concat l with rfl | ⟨r, a, rfl⟩
  · rfl
  · have : (r ++ [a]).drop ((r ++ [a]).length - 1) = [a] := by simp
    rw [List.concat_eq_append, this]; simp [hdD]
theorem three (k : Int) : ∀ row : List Int, (row.filter fun x => decide (x < k)).length + (row.filter fun x => decide (x = k)).length + (row.filter fun x => decide (k < x)).length = row.length
  | [] => rfl
  | x :: xs => by
    have ih := three k xs
    simp only [List.filter_cons, List.length_cons]
    rcases Int.lt_trichotomy x k with h | h | h
    · have h1 : ¬ x = k := by omega
      have h2 : ¬ k < x := by omega
      simp only [h, h1, h2, decide_true, decide_false, if_true, if_false, Bool.false_eq_true, List.length_cons]; omega
    · have h1 : ¬ x < k := by omega
      have h2 : ¬ k < x := by omega
      simp only [h1, h, h2, Int.lt_irrefl, decide_true, decide_false, if_true, if_false, Bool.false_eq_true, List.length_cons]; omega
    · have h1 : ¬ x = k := by omega
      have h2 : ¬ x < k := by omega
      simp only [h, h1, h2, decide_true, decide_false, if_true, if_false, Bool.false_eq_true, List.length_cons]; omega
theorem t_1 {k : Int} {row : List Int} : decide (0 < (row.filter fun x => decide (x = k)).length) = !(aEq k row).isEmpty := by
  rw [emp_len, aEq, sel_len, Bool.eq_iff_iff]; simp only [decide_eq_true_eq, Bool.not_eq_true', decide_eq_false_iff_not]; omega
theorem t_2 {k : Int} {row : List Int} : decide ((row.filter fun x => decide (x = k)).length = 1) = decide ((aEq k row).length = 1) := by rw [aEq, sel_len]
theorem t_3 {k : Int} {row : List Int} : decide ((row.filter fun x => decide (x = k)).length = row.length) = (aLt k row ++ aGt k row).isEmpty := by
  have h := three k row
  rw [emp_len, List.length_append, aLt, aGt, sel_len, sel_len, Bool.eq_iff_iff]; simp only [decide_eq_true_eq]; omega
theorem t_4 {k : Int} {row : List Int} : (row.all fun x => decide (k < x)) = (aLt k row ++ aEq k row).isEmpty := by
  have h := three k row
  have e : (row.all fun x => decide (k < x)) = decide ((row.filter fun x => decide (k < x)).length = row.length) := by
    rw [Bool.eq_iff_iff, decide_eq_true_eq, List.length_filter_eq_length_iff, List.all_eq_true]
  rw [e, emp_len, List.length_append, aLt, aEq, sel_len, sel_len, Bool.eq_iff_iff]; simp only [decide_eq_true_eq]; omega
def words : List Str := ["all over", "all same", "behind same", "first fall", "first not under", "first over", "first same", "first twice", "just one", "last same", "last under", "rising", "some same", "twins"]
theorem pn_hd (l : List Nat) : (hdD l).pn 0 = true := by cases l <;> simp [hdD, D.pn]
theorem same {w : Str} (hw : w ∈ words) {k : Int} {row : List Int} {c : Cs} (hl : row.length ≤ 40) (hc : c.all (Cell.lo c.length) = true) :
    ∃ (d : D) (t : Bool), F_asked [.str w, .int k, .tup (row.map D.int)] c = .ok (d, c) ∧ F_law_asked [.str w, .int k, .tup (row.map D.int)] c = .ok (d, c) ∧ d.pn 0 = true ∧ isiD [d, .raw (.ty "bool")] c = .ok (.bl t, c) := by
  have hb : ∀ b : Bool, isiD [.bl b, .raw (.ty "bool")] c = .ok (.bl true, c) := fun b => rfl
  have hh : ∀ l : List Nat, isiD [hdD l, .raw (.ty "bool")] c = .ok (.bl false, c) := fun l => by cases l <;> rfl
  have pb : ∀ b : Bool, (D.bl b).pn 0 = true := fun b => by simp [D.pn]
  simp only [words, List.mem_cons, List.not_mem_nil, or_false] at hw
  rcases hw with rfl | rfl | rfl | rfl | rfl | rfl | rfl | rfl | rfl | rfl | rfl | rfl | rfl | rfl
  · exact ⟨_, _, sp_asked_truth4 hl, by rw [sp_law_truth4 hl hc, t_4], pb _, hb _⟩
  · exact ⟨_, _, sp_asked_truth3 hl, by rw [sp_law_truth3 hl hc, t_3], pb _, hb _⟩
  · exact ⟨_, _, sp_asked_place6 hl, sp_law_place6 hl hc, pn_hd _, hh _⟩
  · exact ⟨_, _, sp_asked_place7 hl, sp_law_place7 hl hc, pn_hd _, hh _⟩
  · exact ⟨_, _, sp_asked_place5 hl, sp_law_place5 hl hc, pn_hd _, hh _⟩
  · exact ⟨_, _, sp_asked_place3 hl, sp_law_place3 hl hc, pn_hd _, hh _⟩
  · exact ⟨_, _, sp_asked_place1 hl, sp_law_place1 hl hc, pn_hd _, hh _⟩
  · exact ⟨_, _, sp_asked_place8 hl, sp_law_place8 hl hc, pn_hd _, hh _⟩
  · exact ⟨_, _, sp_asked_truth2 hl, by rw [sp_law_truth2 hl hc, t_2], pb _, hb _⟩
  · exact ⟨_, _, sp_asked_place2 hl, by rw [sp_law_place2 hl hc, hd_rev], pn_hd _, hh _⟩
  · exact ⟨_, _, sp_asked_place4 hl, by rw [sp_law_place4 hl hc, hd_rev], pn_hd _, hh _⟩
  · exact ⟨_, _, sp_asked_truth5 hl, sp_law_truth5 hl hc, pb _, hb _⟩
  · exact ⟨_, _, sp_asked_truth1 hl, by rw [sp_law_truth1 hl hc, t_1], pb _, hb _⟩
  · exact ⟨_, _, sp_asked_truth6 hl, sp_law_truth6 hl hc, pb _, hb _⟩
/-! ### the law -/
def CI (c : Cs) : Prop := ∀ k ∈ c, ∃ x y : Int, k = .lst [.int x, .int y]
theorem CI.lo {c : Cs} (h : CI c) : c.all (Cell.lo c.length) = true := by
  rw [List.all_eq_true]
  intro k hk
  obtain ⟨x, y, rfl⟩ := h k hk
  simp [Cell.lo, los, D.lo]
theorem CI.upd {c c' : Cs} {b : Nat} (h : CI c) (u : Upd c b c') : CI c' := by
  obtain ⟨x, y, rfl⟩ := u
  intro k hk
  rcases List.mem_or_eq_of_mem_set hk with hk | rfl
  · exact h k hk
  · exact ⟨x, y, rfl⟩
theorem sp_words {c : Cs} : F_law_words [] c = .ok (.lst (words.map D.str), c) := by
  unfold F_law_words b_law_words
  simp only [evs]
  rw [wAddL (by simp [lim])]
  rfl
theorem word_turn {w : Str} (hw : w ∈ words) {s : D} {k b : Int → D} {x1 x2 x5 x6 x7 : Option D} {key : Int} {row : List Int} {c : Cs} (hl : row.length ≤ 40) (hc : CI c) :
    ∃ e' , (sSeq (sPar 6 7 (dCons (dA (dCons (dVar 5) (dCons (dVar 4) (dCons (dVar 3) dNil))) (callD 3 F_asked [])) (dCons (dA (dCons (dVar 5) (dCons (dVar 4) (dCons (dVar 3) dNil))) (callD 3 F_law_asked [])) dNil)))
      (sIf (dOr (dTb (d2 (dVar 6) (dVar 7) neD)) (dTb (d2 (dA (dCons (dVar 6) (dCons (dC (.raw (.ty "bool"))) dNil)) isiD) (dA (dCons (dVar 7) (dCons (dC (.raw (.ty "bool"))) dNil)) isiD) neD)))
      (sRet (dC (.bl false)))
      sNext)) [some s, x1, x2, some (.tup (row.map D.int)), some (.int key), some (.str w), x6, x7] c = .ok (.next, [some s, x1, x2, some (.tup (row.map D.int)), some (.int key), some (.str w), some e', some e'], c) := by
  obtain ⟨d, t, h1, h2, h3, h4⟩ := same hw (k := key) hl hc.lo
  refine ⟨d, ?_⟩
  simp only [evs, h1, h2, wNeSelf (n := 0) (by decide) h3, h4, decide_true, Bool.not_true]

end Mi
namespace Mi
open PySem L2
theorem mem_nats {d : D} {l : List Nat} (h : d ∈ nats l) : ∃ n ∈ l, d = .int (n : Int) := by
  obtain ⟨n, h, e⟩ := List.mem_map.mp h
  exact ⟨n, h, e.symm⟩
theorem CI.bag {c c' : Cs} {o : Cell} (h : CI c) (e : c' = c ++ [o]) (hb : Bag c' c.length) : CI c' := by
  subst e
  obtain ⟨x, y, hb⟩ := hb
  rw [List.getElem?_concat_length] at hb
  cases hb
  intro k hk
  rcases List.mem_append.mp hk with hk | hk
  · exact h k hk
  · exact ⟨x, y, by simpa using hk⟩
abbrev k3_in : SF := (sSeq (sPar 6 7 (dCons (dA (dCons (dVar 5) (dCons (dVar 4) (dCons (dVar 3) dNil))) (callD 3 F_asked [])) (dCons (dA (dCons (dVar 5) (dCons (dVar 4) (dCons (dVar 3) dNil))) (callD 3 F_law_asked [])) dNil))) (sIf (dOr (dTb (d2 (dVar 6) (dVar 7) neD)) (dTb (d2 (dA (dCons (dVar 6) (dCons (dC (.raw (.ty "bool"))) dNil)) isiD) (dA (dCons (dVar 7) (dCons (dC (.raw (.ty "bool"))) dNil)) isiD) neD))) (sRet (dC (.bl false))) sNext))
abbrev k3_mid : SF := (sSeq (sAsg (dA (dCons (dVar 2) (dCons (dVar 3) dNil)) (callD 2 F_law_key [])) (gN 4)) (sFor (dIt (dCall0 F_law_words)) (gN 5) (sSeq (sPar 6 7 (dCons (dA (dCons (dVar 5) (dCons (dVar 4) (dCons (dVar 3) dNil))) (callD 3 F_asked [])) (dCons (dA (dCons (dVar 5) (dCons (dVar 4) (dCons (dVar 3) dNil))) (callD 3 F_law_asked [])) dNil))) (sIf (dOr (dTb (d2 (dVar 6) (dVar 7) neD)) (dTb (d2 (dA (dCons (dVar 6) (dCons (dC (.raw (.ty "bool"))) dNil)) isiD) (dA (dCons (dVar 7) (dCons (dC (.raw (.ty "bool"))) dNil)) isiD) neD))) (sRet (dC (.bl false))) sNext))))
abbrev k3_out : SF := (sSeq (sAsg (dA (dCons (dVar 0) (dCons (dVar 1) dNil)) (callD 2 F_law_bag [])) (gN 2)) (sFor (dIt (dA (dCons (dA (dCons (dVar 2) (dCons (dC (.int 4)) dNil)) (callD 2 F_law_row [])) (dCons (dA (dCons (dVar 2) (dCons (dC (.int 9)) dNil)) (callD 2 F_law_row [])) (dCons (dA (dCons (dVar 2) (dCons (dC (.int 40)) dNil)) (callD 2 F_law_row [])) (dCons (dA dNil mkTup) dNil)))) mkLst)) (gN 3) (sSeq (sAsg (dA (dCons (dVar 2) (dCons (dVar 3) dNil)) (callD 2 F_law_key [])) (gN 4)) (sFor (dIt (dCall0 F_law_words)) (gN 5) (sSeq (sPar 6 7 (dCons (dA (dCons (dVar 5) (dCons (dVar 4) (dCons (dVar 3) dNil))) (callD 3 F_asked [])) (dCons (dA (dCons (dVar 5) (dCons (dVar 4) (dCons (dVar 3) dNil))) (callD 3 F_law_asked [])) dNil))) (sIf (dOr (dTb (d2 (dVar 6) (dVar 7) neD)) (dTb (d2 (dA (dCons (dVar 6) (dCons (dC (.raw (.ty "bool"))) dNil)) isiD) (dA (dCons (dVar 7) (dCons (dC (.raw (.ty "bool"))) dNil)) isiD) neD))) (sRet (dC (.bl false))) sNext))))))
theorem k3_words {s : D} {x1 x2 x5 x6 x7 : Option D} {key : Int} {row : List Int} {c : Cs} (hl : row.length ≤ 40) (hc : CI c) : ∃ e5 e6 e7, forD (gN 5) k3_in (words.map D.str) [some s, x1, x2, some (.tup (row.map D.int)), some (.int key), x5, x6, x7] c = .ok (.next, [some s, x1, x2, some (.tup (row.map D.int)), some (.int key), e5, e6, e7], c) := by
  obtain ⟨env', c', e, ⟨e5, e6, e7, rfl⟩, rfl⟩ := for_inv (g := gN 5) (b := k3_in) (fun env c2 => (∃ e5 e6 e7, env = [some s, x1, x2, some (.tup (row.map D.int)), some (.int key), e5, e6, e7]) ∧ c2 = c) (words.map D.str) [some s, x1, x2, some (.tup (row.map D.int)), some (.int key), x5, x6, x7] c ⟨⟨_, _, _, rfl⟩, rfl⟩ (fun x hx env c2 hI => by
    obtain ⟨w, hw, rfl⟩ := List.mem_map.mp hx
    obtain ⟨⟨e5, e6, e7, rfl⟩, rfl⟩ := hI
    obtain ⟨e', h⟩ := word_turn hw (s := s) (k := D.int) (b := D.int) (x1 := x1) (x2 := x2) (x5 := none) (x6 := e6) (x7 := e7) (key := key) hl hc
    exact ⟨_, _, _, _, rfl, h, ⟨_, _, _, rfl⟩, rfl⟩)
  exact ⟨_, _, _, e⟩
theorem k3_items {s : D} {x1 x3 x4 x5 x6 x7 : Option D} {b : Nat} {c : Cs} {items : List D} (hi : ∀ d ∈ items, ∃ row : List Int, row.length ≤ 40 ∧ d = .tup (row.map D.int)) (hb : Bag c b) (hc : CI c) :
    ∃ e3 e4 e5 e6 e7 c', forD (gN 3) k3_mid items [some s, x1, some (.ref b), x3, x4, x5, x6, x7] c = .ok (.next, [some s, x1, some (.ref b), e3, e4, e5, e6, e7], c') ∧ CI c' := by
  obtain ⟨env', c', e, ⟨e3, e4, e5, e6, e7, rfl⟩, h1, h2⟩ := for_inv (g := gN 3) (b := k3_mid) (fun env c2 => (∃ e3 e4 e5 e6 e7, env = [some s, x1, some (.ref b), e3, e4, e5, e6, e7]) ∧ CI c2 ∧ Bag c2 b) items [some s, x1, some (.ref b), x3, x4, x5, x6, x7] c ⟨⟨_, _, _, _, _, rfl⟩, hc, hb⟩ (fun x hx env c2 hI => by
    obtain ⟨row, hl, rfl⟩ := hi x hx
    obtain ⟨⟨e3, e4, e5, e6, e7, rfl⟩, hc2, hb2⟩ := hI
    obtain ⟨key, c3, h3, u⟩ := sp_key (row := row) hb2 (by omega)
    obtain ⟨f5, f6, f7, h4⟩ := k3_words (s := s) (x1 := x1) (x2 := some (.ref b)) (x5 := e5) (x6 := e6) (x7 := e7) (key := key) hl (hc2.upd u)
    refine ⟨[some s, x1, some (.ref b), some (.tup (row.map D.int)), e4, e5, e6, e7], c2, [some s, x1, some (.ref b), some (.tup (row.map D.int)), some (.int key), f5, f6, f7], c3, rfl, ?_, ⟨_, _, _, _, _, rfl⟩, hc2.upd u, u.bag hb2⟩
    · simp only [evs, h3, sp_words, h4])
  exact ⟨_, _, _, _, _, _, e, h1⟩
theorem k3_turn {ns : List Int} {k : Nat} {x1 x2 x3 x4 x5 x6 x7 : Option D} {c : Cs} (hk : k < 100) (hc : CI c) : ∃ e2 e3 e4 e5 e6 e7 c', k3_out [some (.scr (ns.map D.int)), some (.int (k : Int)), x2, x3, x4, x5, x6, x7] c = .ok (.next, [some (.scr (ns.map D.int)), some (.int (k : Int)), e2, e3, e4, e5, e6, e7], c') ∧ CI c' := by
  obtain ⟨c1, e1, b1, o, ho⟩ := sp_bag (c := c) (ns := ns) (k := k) (by omega)
  have i1 := hc.bag ho b1
  obtain ⟨r1, c2, e2, l2, u2⟩ := sp_row (m := 4) b1 (by omega) (by omega)
  have b2 := u2.bag b1
  obtain ⟨r2, c3, e3, l3, u3⟩ := sp_row (m := 9) b2 (by omega) (by omega)
  have b3 := u3.bag b2
  obtain ⟨r3, c4, e4, l4, u4⟩ := sp_row (m := 40) b3 (by omega) (by omega)
  have b4 := u4.bag b3
  obtain ⟨f3, f4, f5, f6, f7, c5, e5, i5⟩ := k3_items (s := .scr (ns.map D.int)) (x1 := some (.int (k : Int))) (x3 := x3) (x4 := x4) (x5 := x5) (x6 := x6) (x7 := x7) (items := [.tup (r1.map D.int), .tup (r2.map D.int), .tup (r3.map D.int), .tup []]) (fun d hd => by
    simp only [List.mem_cons, List.not_mem_nil, or_false] at hd
    rcases hd with rfl | rfl | rfl | rfl
    · exact ⟨r1, by omega, rfl⟩
    · exact ⟨r2, by omega, rfl⟩
    · exact ⟨r3, by omega, rfl⟩
    · exact ⟨[], by simp, rfl⟩) b4 (((i1.upd u2).upd u3).upd u4)
  refine ⟨some (.ref c.length), f3, f4, f5, f6, f7, c5, ?_, i5⟩
  simp only [k3_out, evs, e1, e2, e3, e4, e5]
theorem plain_k03 (ns : List Int) (h : ns.length ≤ 63) : ∃ c, F_law_k03 [.scr (ns.map D.int)] [] = .ok (.bl true, c) := by
  have hr : ∃ m : Nat, m ≤ 12 ∧ (if (if ((ns.length : Int) + 3) < 12 then ((ns.length : Int) + 3) else 12) > 4 then (if ((ns.length : Int) + 3) < 12 then ((ns.length : Int) + 3) else 12) else 4) = (m : Int) := by
    refine ⟨(if (if ((ns.length : Int) + 3) < 12 then ((ns.length : Int) + 3) else 12) > 4 then (if ((ns.length : Int) + 3) < 12 then ((ns.length : Int) + 3) else 12) else 4).toNat, ?_, ?_⟩ <;> (split <;> split <;> omega)
  obtain ⟨m, hm, hmE⟩ := hr
  have hin : inR (m : Int) = true := by unfold inR; simp; omega
  obtain ⟨env', c', e, ⟨⟨e1, e2, e3, e4, e5, e6, e7, rfl⟩, hc⟩⟩ := for_inv (g := gN 1) (b := k3_out) (fun env c => (∃ e1 e2 e3 e4 e5 e6 e7, env = [some (.scr (ns.map D.int)), e1, e2, e3, e4, e5, e6, e7]) ∧ CI c) (nats (List.range m)) [some (.scr (ns.map D.int)), none, none, none, none, none, none, none] [] ⟨⟨_, _, _, _, _, _, _, rfl⟩, fun k hk => by cases hk⟩ (fun x hx env c hI => by
    obtain ⟨k, hk, rfl⟩ := mem_nats hx
    have hk := List.mem_range.mp hk
    obtain ⟨⟨e1, e2, e3, e4, e5, e6, e7, rfl⟩, hc⟩ := hI
    obtain ⟨f2, f3, f4, f5, f6, f7, c', h1, h2⟩ := k3_turn (ns := ns) (k := k) (x1 := none) (x2 := e2) (x3 := e3) (x4 := e4) (x5 := e5) (x6 := e6) (x7 := e7) (by omega) hc
    exact ⟨_, _, _, _, rfl, h1, ⟨_, _, _, _, _, _, _, rfl⟩, h2⟩)
  refine ⟨[], ?_⟩
  unfold F_law_k03 b_law_k03
  simp only [evs, List.length_map, hmE, wRng1 hin, Int.toNat_natCast, rngD_0, e]
  exact vT' rfl
end Mi
namespace Mi.K03
open PySem PySem.Spec PyProof.Rows L2 Mi
def topS (i : Nat) : Stmt := PySem.Challenge.pw_readsenough_k03_what_askings_ask_for.main.body.getD i (.Pass ⟨0, 0, 0, 0⟩)
abbrev s__law_bag : Stmt := topS 24
def dd__law_bag : He.DefD := ⟨("_law_bag", none), "_law_bag", "_law_bag", defArgs s__law_bag, defBody s__law_bag, defScope s__law_bag, [], []⟩
abbrev s__law_take : Stmt := topS 25
def dd__law_take : He.DefD := ⟨("_law_take", none), "_law_take", "_law_take", defArgs s__law_take, defBody s__law_take, defScope s__law_take, [], []⟩
abbrev s__law_of : Stmt := topS 26
def dd__law_of : He.DefD := ⟨("_law_of", none), "_law_of", "_law_of", defArgs s__law_of, defBody s__law_of, defScope s__law_of, [], []⟩
abbrev s__law_row : Stmt := topS 27
def dd__law_row : He.DefD := ⟨("_law_row", none), "_law_row", "_law_row", defArgs s__law_row, defBody s__law_row, defScope s__law_row, [], []⟩
abbrev s__law_key : Stmt := topS 28
def dd__law_key : He.DefD := ⟨("_law_key", none), "_law_key", "_law_key", defArgs s__law_key, defBody s__law_key, defScope s__law_key, [], []⟩
abbrev s__law_words : Stmt := topS 29
def dd__law_words : He.DefD := ⟨("_law_words", none), "_law_words", "_law_words", defArgs s__law_words, defBody s__law_words, defScope s__law_words, [], []⟩
abbrev s_is_one_of : Stmt := topS 9
def dd_is_one_of : He.DefD := ⟨("is_one_of", none), "is_one_of", "is_one_of", defArgs s_is_one_of, defBody s_is_one_of, defScope s_is_one_of, [], []⟩
abbrev s_is_asking : Stmt := topS 11
def dd_is_asking : He.DefD := ⟨("is_asking", none), "is_asking", "is_asking", defArgs s_is_asking, defBody s_is_asking, defScope s_is_asking, [], []⟩
abbrev s_need_asking : Stmt := topS 14
def dd_need_asking : He.DefD := ⟨("need_asking", none), "need_asking", "need_asking", defArgs s_need_asking, defBody s_need_asking, defScope s_need_asking, [], []⟩
abbrev s_is_number : Stmt := topS 8
def dd_is_number : He.DefD := ⟨("is_number", none), "is_number", "is_number", defArgs s_is_number, defBody s_is_number, defScope s_is_number, [], []⟩
abbrev s_need_key : Stmt := topS 12
def dd_need_key : He.DefD := ⟨("need_key", none), "need_key", "need_key", defArgs s_need_key, defBody s_need_key, defScope s_need_key, [], []⟩
abbrev s_is_row : Stmt := topS 10
def dd_is_row : He.DefD := ⟨("is_row", none), "is_row", "is_row", defArgs s_is_row, defBody s_is_row, defScope s_is_row, [], []⟩
abbrev s_need_row : Stmt := topS 13
def dd_need_row : He.DefD := ⟨("need_row", none), "need_row", "need_row", defArgs s_need_row, defBody s_need_row, defScope s_need_row, [], []⟩
abbrev s_first_of : Stmt := topS 16
def dd_first_of : He.DefD := ⟨("first_of", none), "first_of", "first_of", defArgs s_first_of, defBody s_first_of, defScope s_first_of, [], []⟩
abbrev s_falls_in : Stmt := topS 17
def dd_falls_in : He.DefD := ⟨("falls_in", none), "falls_in", "falls_in", defArgs s_falls_in, defBody s_falls_in, defScope s_falls_in, [], []⟩
abbrev s_twins_in : Stmt := topS 18
def dd_twins_in : He.DefD := ⟨("twins_in", none), "twins_in", "twins_in", defArgs s_twins_in, defBody s_twins_in, defScope s_twins_in, [], []⟩
abbrev s_place_asked : Stmt := topS 19
def dd_place_asked : He.DefD := ⟨("place_asked", none), "place_asked", "place_asked", defArgs s_place_asked, defBody s_place_asked, defScope s_place_asked, [], []⟩
abbrev s_truth_asked : Stmt := topS 20
def dd_truth_asked : He.DefD := ⟨("truth_asked", none), "truth_asked", "truth_asked", defArgs s_truth_asked, defBody s_truth_asked, defScope s_truth_asked, [], []⟩
abbrev s_answer_asked : Stmt := topS 21
def dd_answer_asked : He.DefD := ⟨("answer_asked", none), "answer_asked", "answer_asked", defArgs s_answer_asked, defBody s_answer_asked, defScope s_answer_asked, [], []⟩
abbrev s_asked : Stmt := topS 22
def dd_asked : He.DefD := ⟨("asked", none), "asked", "asked", defArgs s_asked, defBody s_asked, defScope s_asked, [], []⟩
abbrev s__law_asked : Stmt := topS 30
def dd__law_asked : He.DefD := ⟨("_law_asked", none), "_law_asked", "_law_asked", defArgs s__law_asked, defBody s__law_asked, defScope s__law_asked, [], []⟩
abbrev s_law : Stmt := topS 31
def dd_law : He.DefD := ⟨("law", none), "law", "law", defArgs s_law, defBody s_law, defScope s_law, [], []⟩
def tops : Top := ⟨["len", "int", "abs", "range", "tuple", "list", "str", "isinstance", "bool", "all", "enumerate", "sorted", "min", "max"], [("ASKINGS", c_ASKINGS), ("MOST_ITEMS", .int 40)], [], [dd__law_bag, dd__law_take, dd__law_of, dd__law_row, dd__law_key, dd__law_words, dd_is_one_of, dd_is_asking, dd_need_asking, dd_is_number, dd_need_key, dd_is_row, dd_need_row, dd_first_of, dd_falls_in, dd_twins_in, dd_place_asked, dd_truth_asked, dd_answer_asked, dd_asked, dd__law_asked, dd_law], []⟩
theorem sc__law_bag : FnScope ["script", "k", "cell"] ["script", "k"] (defScope s__law_bag) := ⟨rfl, rfl, rfl, by decide +kernel, rfl, by decide +kernel, by decide +kernel⟩
theorem cal__law_bag {P : Program} {w : World} {K : PySem.W.Frag} {mg : Str → Option Value} {base : Heap} (T : Txt tops K mg) : Cal P w K mg base "_law_bag" 1 ["script", "k"] [] F_law_bag := cal_of (k := 0) (N := ["script", "k", "cell"]) (b := b_law_bag) T 0 (d := dd__law_bag) rfl rfl rfl rfl sc__law_bag (by decide) (fun _ _ _ _ _ _ us hl => match us, hl with | [_, _], _ => rfl) fun f cdv A outer s H E hr => by
    have hu64 := hr.units; have hu1 := hu_of hr; exact (ss_cons (s_set (own := [0, 1, 2]) (e_if (t_c (c_lt (ev 1) (e_len rfl (T.bl 0 "len" rfl) (a_cons (ev 0) a_nil)))) (e_abs rfl (T.bl 2 "abs" rfl) (a_cons (e_intc rfl (T.bl 1 "int" rfl) (a_cons (e_ix hu1 (ev 0) (ev 1) (fun _ _ => rfl)) a_nil)) a_nil)) (e_add (e_mul e_int (ev 1)) e_int)) (g_n (by decide) sc__law_bag.nd rfl (.inl rfl)))
  (ss_one (s_ret (e_lstC (a_cons (e_if (t_c (c_ge (ev 2) (e_pow e_int e_int))) (ev 2) e_int) (a_cons (e_mod (e_intc rfl (T.bl 1 "int" rfl) (a_cons (e_add (e_add (e_mod (e_intc rfl (T.bl 1 "int" rfl) (a_cons (ev 2) a_nil)) e_int) (e_mul e_int (ev 1))) e_int) a_nil)) e_int) a_nil))))))
theorem sc__law_take : FnScope ["bag", "many", "found", "mixed"] ["bag", "many"] (defScope s__law_take) := ⟨rfl, rfl, rfl, by decide +kernel, rfl, by decide +kernel, by decide +kernel⟩
theorem cal__law_take {P : Program} {w : World} {K : PySem.W.Frag} {mg : Str → Option Value} {base : Heap} (T : Txt tops K mg) : Cal P w K mg base "_law_take" 1 ["bag", "many"] [] F_law_take := cal_of (k := 0) (N := ["bag", "many", "found", "mixed"]) (b := b_law_take) T 1 (d := dd__law_take) rfl rfl rfl rfl sc__law_take (by decide) (fun _ _ _ _ _ _ us hl => match us, hl with | [_, _], _ => rfl) fun f cdv A outer s H E hr => by
    have hu64 := hr.units; have hu1 := hu_of hr; exact (ss_cons (s_if (t_c (c_gt (e_ix hu1 (ev 0) e_int (fun _ _ => rfl)) e_int))
  (ss_cons (s_set (own := [0, 1, 2, 3]) (e_mod (e_intc rfl (T.bl 1 "int" rfl) (a_cons (e_ix hu1 (ev 0) e_int (fun _ _ => rfl)) a_nil)) (ev 1)) (g_n (by decide) sc__law_take.nd rfl (.inl rfl)))
  (ss_cons (s_sub hu1 (e_div (e_intc rfl (T.bl 1 "int" rfl) (a_cons (e_ix hu1 (ev 0) e_int (fun _ _ => rfl)) a_nil)) (ev 1)) (ev 0) e_int)
  (ss_one (s_ret (ev 2)))))
  ss_nil)
  (ss_cons (s_sub hu1 (e_mod (e_intc rfl (T.bl 1 "int" rfl) (a_cons (e_add (e_mul (e_ix hu1 (ev 0) e_int (fun _ _ => rfl)) e_int) e_int) a_nil)) e_int) (ev 0) e_int)
  (ss_cons (s_set (own := [0, 1, 2, 3]) (e_mod (e_mul (e_intc rfl (T.bl 1 "int" rfl) (a_cons (e_ix hu1 (ev 0) e_int (fun _ _ => rfl)) a_nil)) (e_add (e_div (e_intc rfl (T.bl 1 "int" rfl) (a_cons (e_ix hu1 (ev 0) e_int (fun _ _ => rfl)) a_nil)) e_int) e_int)) e_int) (g_n (by decide) sc__law_take.nd rfl (.inl rfl)))
  (ss_one (s_ret (e_mod (e_intc rfl (T.bl 1 "int" rfl) (a_cons (e_div (e_intc rfl (T.bl 1 "int" rfl) (a_cons (ev 3) a_nil)) e_int) a_nil)) (ev 1)))))))
theorem sc__law_of : FnScope ["bag", "some"] ["bag", "some"] (defScope s__law_of) := ⟨rfl, rfl, rfl, by decide +kernel, rfl, by decide +kernel, by decide +kernel⟩
theorem cal__law_of {P : Program} {w : World} {K : PySem.W.Frag} {mg : Str → Option Value} {base : Heap} (T : Txt tops K mg) : Cal P w K mg base "_law_of" 2 ["bag", "some"] [] F_law_of := cal_of (k := 1) (N := ["bag", "some"]) (b := b_law_of) T 2 (d := dd__law_of) rfl rfl rfl rfl sc__law_of (by decide) (fun _ _ _ _ _ _ us hl => match us, hl with | [_, _], _ => rfl) fun f cdv A outer s H E hr => by
    have hu64 := hr.units; have hu1 := hu_of hr; exact (ss_one (s_ret (e_ix hu1 (ev 1) (ecn (cal__law_take T) (hr.mono (by decide)) (takes_of rfl rfl rfl rfl) (a_cons (ev 0) (a_cons (e_len rfl (T.bl 0 "len" rfl) (a_cons (ev 1) a_nil)) a_nil))) (fun _ _ => rfl))))
theorem sc__law_row : FnScope ["bag", "most", "size", "many", "place"] ["bag", "most"] (defScope s__law_row) := ⟨rfl, rfl, rfl, by decide +kernel, rfl, by decide +kernel, by decide +kernel⟩
theorem cal__law_row {P : Program} {w : World} {K : PySem.W.Frag} {mg : Str → Option Value} {base : Heap} (T : Txt tops K mg) : Cal P w K mg base "_law_row" 3 ["bag", "most"] [] F_law_row := cal_of (k := 2) (N := ["bag", "most", "size", "many", "place"]) (b := b_law_row) T 3 (d := dd__law_row) rfl rfl rfl rfl sc__law_row (by decide) (fun _ _ _ _ _ _ us hl => match us, hl with | [_, _], _ => rfl) fun f cdv A outer s H E hr => by
    have hu64 := hr.units; have hu1 := hu_of hr; exact (ss_cons (s_set (own := [0, 1, 2, 3, 4]) (ecn (cal__law_take T) (hr.mono (by decide)) (takes_of rfl rfl rfl rfl) (a_cons (ev 0) (a_cons (e_add (ev 1) e_int) a_nil))) (g_n (by decide) sc__law_row.nd rfl (.inl rfl)))
  (ss_cons (s_set (own := [0, 1, 2, 3, 4]) (ecn (cal__law_of T) (hr.mono (by decide)) (takes_of rfl rfl rfl rfl) (a_cons (ev 0) (a_cons (e_lst (a_cons e_int (a_cons e_int (a_cons e_int (a_cons (e_add (ev 2) e_int) a_nil))))) a_nil))) (g_n (by decide) sc__law_row.nd rfl (.inr rfl)))
  (ss_one (s_ret (e_tuple rfl (T.bl 4 "tuple" rfl) (a_cons (e_lc (own := [("place", 4)]) rfl sc__law_row.nd (i_rng1 rfl (T.bl 3 "range" rfl) (a_cons (ev 2) a_nil)) (blk_ok rfl (by kernel_rfl)) (fun _ _ _ _ _ => (g_n (by decide) sc__law_row.nd rfl (.inl rfl))) (fun _ _ _ _ _ => ts_nil) (fun _ _ _ _ _ => (ecn (cal__law_take T) (hr.mono (by decide)) takes0 (a_cons (ev 0) (a_cons (ev 3) a_nil))))) a_nil))))))
theorem sc__law_key : FnScope ["bag", "row"] ["bag", "row"] (defScope s__law_key) := ⟨rfl, rfl, rfl, by decide +kernel, rfl, by decide +kernel, by decide +kernel⟩
theorem cal__law_key {P : Program} {w : World} {K : PySem.W.Frag} {mg : Str → Option Value} {base : Heap} (T : Txt tops K mg) : Cal P w K mg base "_law_key" 3 ["bag", "row"] [] F_law_key := cal_of (k := 2) (N := ["bag", "row"]) (b := b_law_key) T 4 (d := dd__law_key) rfl rfl rfl rfl sc__law_key (by decide) (fun _ _ _ _ _ _ us hl => match us, hl with | [_, _], _ => rfl) fun f cdv A outer s H E hr => by
    have hu64 := hr.units; have hu1 := hu_of hr; exact (ss_one (s_ret (ecn (cal__law_of T) (hr.mono (by decide)) (takes_of rfl rfl rfl rfl) (a_cons (ev 0) (a_cons (e_add (e_list rfl (T.bl 5 "list" rfl) (a_cons (ev 1) a_nil)) (e_lst (a_cons e_int (a_cons e_int (a_cons e_int (a_cons e_int a_nil)))))) a_nil)))))
theorem sc__law_words : FnScope ["found"] [] (defScope s__law_words) := ⟨rfl, rfl, rfl, by decide +kernel, rfl, by decide +kernel, by decide +kernel⟩
theorem cal__law_words {P : Program} {w : World} {K : PySem.W.Frag} {mg : Str → Option Value} {base : Heap} (T : Txt tops K mg) : Cal P w K mg base "_law_words" 1 [] [] F_law_words := cal_of (k := 0) (N := ["found"]) (b := b_law_words) T 5 (d := dd__law_words) rfl rfl rfl rfl sc__law_words (by decide) (fun _ _ _ _ _ _ us hl => match us, hl with | [], _ => rfl) fun f cdv A outer s H E hr => by
    have hu64 := hr.units; have hu1 := hu_of hr; exact (ss_cons (s_set (own := [0]) (e_lst (a_cons e_str (a_cons e_str (a_cons e_str (a_cons e_str (a_cons e_str (a_cons e_str (a_cons e_str a_nil)))))))) (g_n (by decide) sc__law_words.nd rfl (.inl rfl)))
  (ss_one (s_ret (e_add (ev 0) (e_lst (a_cons e_str (a_cons e_str (a_cons e_str (a_cons e_str (a_cons e_str (a_cons e_str (a_cons e_str a_nil))))))))))))
theorem sc_is_one_of : FnScope ["value", "words"] ["value", "words"] (defScope s_is_one_of) := ⟨rfl, rfl, rfl, by decide +kernel, rfl, by decide +kernel, by decide +kernel⟩
theorem cal_is_one_of {P : Program} {w : World} {K : PySem.W.Frag} {mg : Str → Option Value} {base : Heap} (T : Txt tops K mg) : Cal P w K mg base "is_one_of" 1 ["value", "words"] [] F_is_one_of_2 := cal_of (k := 0) (N := ["value", "words"]) (b := b_is_one_of_2) T 6 (d := dd_is_one_of) rfl rfl rfl rfl sc_is_one_of (by decide) (fun _ _ _ _ _ _ us hl => match us, hl with | [_, _], _ => rfl) fun f cdv A outer s H E hr => by
    have hu64 := hr.units; have hu1 := hu_of hr; exact (ss_one (s_ret (e_and (e_isi rfl (T.bl 7 "isinstance" rfl) (a_cons (ev 0) (a_cons (e_ty (T.bl 6 "str" rfl)) a_nil))) (e_one (e_c (c_in hu64 (ev 0) (ev 1)))))))
theorem sc_is_asking : FnScope ["value"] ["value"] (defScope s_is_asking) := ⟨rfl, rfl, rfl, by decide +kernel, rfl, by decide +kernel, by decide +kernel⟩
theorem cal_is_asking {P : Program} {w : World} {K : PySem.W.Frag} {mg : Str → Option Value} {base : Heap} (T : Txt tops K mg) : Cal P w K mg base "is_asking" 2 ["value"] [] F_is_asking_2 := cal_of (k := 1) (N := ["value"]) (b := b_is_asking_2) T 7 (d := dd_is_asking) rfl rfl rfl rfl sc_is_asking (by decide) (fun _ _ _ _ _ _ us hl => match us, hl with | [_], _ => rfl) fun f cdv A outer s H E hr => by
    have hu64 := hr.units; have hu1 := hu_of hr; exact (ss_one (s_ret (ecn (cal_is_one_of T) (hr.mono (by decide)) (takes_of rfl rfl rfl rfl) (a_cons (ev 0) (a_cons (eg T 0) a_nil)))))
theorem sc_need_asking : FnScope ["value"] ["value"] (defScope s_need_asking) := ⟨rfl, rfl, rfl, by decide +kernel, rfl, by decide +kernel, by decide +kernel⟩
theorem cal_need_asking {P : Program} {w : World} {K : PySem.W.Frag} {mg : Str → Option Value} {base : Heap} (T : Txt tops K mg) : Cal P w K mg base "need_asking" 3 ["value"] [] F_need_asking := cal_of (k := 2) (N := ["value"]) (b := b_need_asking) T 8 (d := dd_need_asking) rfl rfl rfl rfl sc_need_asking (by decide) (fun _ _ _ _ _ _ us hl => match us, hl with | [_], _ => rfl) fun f cdv A outer s H E hr => by
    have hu64 := hr.units; have hu1 := hu_of hr; exact (ss_one (s_if (t_not (t_e (ecn (cal_is_asking T) (hr.mono (by decide)) (takes_of rfl rfl rfl rfl) (a_cons (ev 0) a_nil))))
  (ss_one s_stuck)
  ss_nil))
theorem sc_is_number : FnScope ["value"] ["value"] (defScope s_is_number) := ⟨rfl, rfl, rfl, by decide +kernel, rfl, by decide +kernel, by decide +kernel⟩
theorem cal_is_number {P : Program} {w : World} {K : PySem.W.Frag} {mg : Str → Option Value} {base : Heap} (T : Txt tops K mg) : Cal P w K mg base "is_number" 1 ["value"] [] F_is_number := cal_of (k := 0) (N := ["value"]) (b := b_is_number) T 9 (d := dd_is_number) rfl rfl rfl rfl sc_is_number (by decide) (fun _ _ _ _ _ _ us hl => match us, hl with | [_], _ => rfl) fun f cdv A outer s H E hr => by
    have hu64 := hr.units; have hu1 := hu_of hr; exact (ss_one (s_ret (e_and (e_isi rfl (T.bl 7 "isinstance" rfl) (a_cons (ev 0) (a_cons (e_ty (T.bl 1 "int" rfl)) a_nil))) (e_one (e_not (e_isi rfl (T.bl 7 "isinstance" rfl) (a_cons (ev 0) (a_cons (e_ty (T.bl 8 "bool" rfl)) a_nil))))))))
theorem sc_need_key : FnScope ["value"] ["value"] (defScope s_need_key) := ⟨rfl, rfl, rfl, by decide +kernel, rfl, by decide +kernel, by decide +kernel⟩
theorem cal_need_key {P : Program} {w : World} {K : PySem.W.Frag} {mg : Str → Option Value} {base : Heap} (T : Txt tops K mg) : Cal P w K mg base "need_key" 2 ["value"] [] F_need_key := cal_of (k := 1) (N := ["value"]) (b := b_need_key) T 10 (d := dd_need_key) rfl rfl rfl rfl sc_need_key (by decide) (fun _ _ _ _ _ _ us hl => match us, hl with | [_], _ => rfl) fun f cdv A outer s H E hr => by
    have hu64 := hr.units; have hu1 := hu_of hr; exact (ss_one (s_if (t_not (t_e (ecn (cal_is_number T) (hr.mono (by decide)) (takes_of rfl rfl rfl rfl) (a_cons (ev 0) a_nil))))
  (ss_one s_stuck)
  ss_nil))
theorem sc_is_row : FnScope ["value", "item"] ["value"] (defScope s_is_row) := ⟨rfl, rfl, rfl, by decide +kernel, rfl, by decide +kernel, by decide +kernel⟩
theorem cal_is_row {P : Program} {w : World} {K : PySem.W.Frag} {mg : Str → Option Value} {base : Heap} (T : Txt tops K mg) : Cal P w K mg base "is_row" 2 ["value"] [] F_is_row := cal_of (k := 1) (N := ["value", "item"]) (b := b_is_row) T 11 (d := dd_is_row) rfl rfl rfl rfl sc_is_row (by decide) (fun _ _ _ _ _ _ us hl => match us, hl with | [_], _ => rfl) fun f cdv A outer s H E hr => by
    have hu64 := hr.units; have hu1 := hu_of hr; exact (ss_one (s_ret (e_and (e_isi rfl (T.bl 7 "isinstance" rfl) (a_cons (ev 0) (a_cons (e_ty (T.bl 4 "tuple" rfl)) a_nil))) (e_and (e_c (c_le (e_len rfl (T.bl 0 "len" rfl) (a_cons (ev 0) a_nil)) (eg T 1))) (e_one (e_all rfl rfl (T.bl 9 "all" rfl) (a_cons (e_lc (own := [("item", 1)]) rfl sc_is_row.nd (i_seq (ev 0)) (blk_ok rfl (by kernel_rfl)) (fun _ _ _ _ _ => (g_n (by decide) sc_is_row.nd rfl (.inl rfl))) (fun _ _ _ _ _ => ts_nil) (fun _ _ _ _ _ => (ecn (cal_is_number T) (hr.mono (by decide)) takes0 (a_cons (ev 1) a_nil)))) a_nil)))))))
theorem sc_need_row : FnScope ["value"] ["value"] (defScope s_need_row) := ⟨rfl, rfl, rfl, by decide +kernel, rfl, by decide +kernel, by decide +kernel⟩
theorem cal_need_row {P : Program} {w : World} {K : PySem.W.Frag} {mg : Str → Option Value} {base : Heap} (T : Txt tops K mg) : Cal P w K mg base "need_row" 3 ["value"] [] F_need_row := cal_of (k := 2) (N := ["value"]) (b := b_need_row) T 12 (d := dd_need_row) rfl rfl rfl rfl sc_need_row (by decide) (fun _ _ _ _ _ _ us hl => match us, hl with | [_], _ => rfl) fun f cdv A outer s H E hr => by
    have hu64 := hr.units; have hu1 := hu_of hr; exact (ss_one (s_if (t_not (t_e (ecn (cal_is_row T) (hr.mono (by decide)) (takes_of rfl rfl rfl rfl) (a_cons (ev 0) a_nil))))
  (ss_one s_stuck)
  ss_nil))
theorem sc_first_of : FnScope ["places"] ["places"] (defScope s_first_of) := ⟨rfl, rfl, rfl, by decide +kernel, rfl, by decide +kernel, by decide +kernel⟩
theorem cal_first_of {P : Program} {w : World} {K : PySem.W.Frag} {mg : Str → Option Value} {base : Heap} (T : Txt tops K mg) : Cal P w K mg base "first_of" 1 ["places"] [] F_first_of := cal_of (k := 0) (N := ["places"]) (b := b_first_of) T 13 (d := dd_first_of) rfl rfl rfl rfl sc_first_of (by decide) (fun _ _ _ _ _ _ us hl => match us, hl with | [_], _ => rfl) fun f cdv A outer s H E hr => by
    have hu64 := hr.units; have hu1 := hu_of hr; exact (ss_one (s_ret (e_if (t_c (c_ne hu64 (ev 0) (e_lst a_nil))) (e_ix hu1 (ev 0) e_int (fun _ _ => rfl)) e_non)))
theorem sc_falls_in : FnScope ["row", "place"] ["row"] (defScope s_falls_in) := ⟨rfl, rfl, rfl, by decide +kernel, rfl, by decide +kernel, by decide +kernel⟩
theorem cal_falls_in {P : Program} {w : World} {K : PySem.W.Frag} {mg : Str → Option Value} {base : Heap} (T : Txt tops K mg) : Cal P w K mg base "falls_in" 1 ["row"] [] F_falls_in := cal_of (k := 0) (N := ["row", "place"]) (b := b_falls_in) T 14 (d := dd_falls_in) rfl rfl rfl rfl sc_falls_in (by decide) (fun _ _ _ _ _ _ us hl => match us, hl with | [_], _ => rfl) fun f cdv A outer s H E hr => by
    have hu64 := hr.units; have hu1 := hu_of hr; exact (ss_one (s_ret (e_lc (own := [("place", 1)]) rfl sc_falls_in.nd (i_seq (e_lrg2 rfl rfl (T.bl 5 "list" rfl) rfl (T.bl 3 "range" rfl) e_int (e_len rfl (T.bl 0 "len" rfl) (a_cons (ev 0) a_nil)))) (blk_ok rfl (by kernel_rfl)) (fun _ _ _ _ _ => (g_n (by decide) sc_falls_in.nd rfl (.inl rfl))) (fun _ _ _ _ _ => (ts_one (t_c (c_lt (e_ix hu1 (ev 0) (ev 1) (fun _ _ => rfl)) (e_ix hu1 (ev 0) (e_sub (ev 1) e_int) (fun _ _ => rfl)))))) (fun _ _ _ _ _ => (ev 1)))))
theorem sc_twins_in : FnScope ["row", "place"] ["row"] (defScope s_twins_in) := ⟨rfl, rfl, rfl, by decide +kernel, rfl, by decide +kernel, by decide +kernel⟩
theorem cal_twins_in {P : Program} {w : World} {K : PySem.W.Frag} {mg : Str → Option Value} {base : Heap} (T : Txt tops K mg) : Cal P w K mg base "twins_in" 1 ["row"] [] F_twins_in := cal_of (k := 0) (N := ["row", "place"]) (b := b_twins_in) T 15 (d := dd_twins_in) rfl rfl rfl rfl sc_twins_in (by decide) (fun _ _ _ _ _ _ us hl => match us, hl with | [_], _ => rfl) fun f cdv A outer s H E hr => by
    have hu64 := hr.units; have hu1 := hu_of hr; exact (ss_one (s_ret (e_lc (own := [("place", 1)]) rfl sc_twins_in.nd (i_seq (e_lrg2 rfl rfl (T.bl 5 "list" rfl) rfl (T.bl 3 "range" rfl) e_int (e_len rfl (T.bl 0 "len" rfl) (a_cons (ev 0) a_nil)))) (blk_ok rfl (by kernel_rfl)) (fun _ _ _ _ _ => (g_n (by decide) sc_twins_in.nd rfl (.inl rfl))) (fun _ _ _ _ _ => (ts_one (t_c (c_eq hu64 (e_ix hu1 (ev 0) (ev 1) (fun _ _ => rfl)) (e_ix hu1 (ev 0) (e_sub (ev 1) e_int) (fun _ _ => rfl)))))) (fun _ _ _ _ _ => (ev 1)))))
theorem sc_place_asked : FnScope ["word", "key", "row", "place", "item"] ["word", "key", "row"] (defScope s_place_asked) := ⟨rfl, rfl, rfl, by decide +kernel, rfl, by decide +kernel, by decide +kernel⟩
theorem cal_place_asked {P : Program} {w : World} {K : PySem.W.Frag} {mg : Str → Option Value} {base : Heap} (T : Txt tops K mg) : Cal P w K mg base "place_asked" 2 ["word", "key", "row"] [] F_place_asked := cal_of (k := 1) (N := ["word", "key", "row", "place", "item"]) (b := b_place_asked) T 16 (d := dd_place_asked) rfl rfl rfl rfl sc_place_asked (by decide) (fun _ _ _ _ _ _ us hl => match us, hl with | [_, _, _], _ => rfl) fun f cdv A outer s H E hr => by
    have hu64 := hr.units; have hu1 := hu_of hr; exact (ss_cons (s_if (t_c (c_eq hu64 (ev 0) e_str))
  (ss_one (s_ret (ecn (cal_first_of T) (hr.mono (by decide)) (takes_of rfl rfl rfl rfl) (a_cons (e_lc (own := [("place", 3), ("item", 4)]) rfl sc_place_asked.nd (i_enum rfl (T.bl 10 "enumerate" rfl) (a_cons (ev 2) a_nil)) (blk_ok rfl (by kernel_rfl)) (fun _ _ _ _ _ => (g_t rfl (gs_cons (g_n (by decide) sc_place_asked.nd rfl (.inl rfl)) (gs_cons (g_n (by decide) sc_place_asked.nd rfl (.inl rfl)) gs_nil)))) (fun _ _ _ _ _ => (ts_one (t_c (c_eq hu64 (ev 4) (ev 1))))) (fun _ _ _ _ _ => (ev 3))) a_nil))))
  ss_nil)
  (ss_cons (s_if (t_c (c_eq hu64 (ev 0) e_str))
  (ss_one (s_ret (ecn (cal_first_of T) (hr.mono (by decide)) (takes_of rfl rfl rfl rfl) (a_cons (e_rev (e_lc (own := [("place", 3), ("item", 4)]) rfl sc_place_asked.nd (i_enum rfl (T.bl 10 "enumerate" rfl) (a_cons (ev 2) a_nil)) (blk_ok rfl (by kernel_rfl)) (fun _ _ _ _ _ => (g_t rfl (gs_cons (g_n (by decide) sc_place_asked.nd rfl (.inl rfl)) (gs_cons (g_n (by decide) sc_place_asked.nd rfl (.inl rfl)) gs_nil)))) (fun _ _ _ _ _ => (ts_one (t_c (c_eq hu64 (ev 4) (ev 1))))) (fun _ _ _ _ _ => (ev 3)))) a_nil))))
  ss_nil)
  (ss_cons (s_if (t_c (c_eq hu64 (ev 0) e_str))
  (ss_one (s_ret (ecn (cal_first_of T) (hr.mono (by decide)) (takes_of rfl rfl rfl rfl) (a_cons (e_lc (own := [("place", 3), ("item", 4)]) rfl sc_place_asked.nd (i_enum rfl (T.bl 10 "enumerate" rfl) (a_cons (ev 2) a_nil)) (blk_ok rfl (by kernel_rfl)) (fun _ _ _ _ _ => (g_t rfl (gs_cons (g_n (by decide) sc_place_asked.nd rfl (.inl rfl)) (gs_cons (g_n (by decide) sc_place_asked.nd rfl (.inl rfl)) gs_nil)))) (fun _ _ _ _ _ => (ts_one (t_c (c_gt (ev 4) (ev 1))))) (fun _ _ _ _ _ => (ev 3))) a_nil))))
  ss_nil)
  (ss_cons (s_if (t_c (c_eq hu64 (ev 0) e_str))
  (ss_one (s_ret (ecn (cal_first_of T) (hr.mono (by decide)) (takes_of rfl rfl rfl rfl) (a_cons (e_rev (e_lc (own := [("place", 3), ("item", 4)]) rfl sc_place_asked.nd (i_enum rfl (T.bl 10 "enumerate" rfl) (a_cons (ev 2) a_nil)) (blk_ok rfl (by kernel_rfl)) (fun _ _ _ _ _ => (g_t rfl (gs_cons (g_n (by decide) sc_place_asked.nd rfl (.inl rfl)) (gs_cons (g_n (by decide) sc_place_asked.nd rfl (.inl rfl)) gs_nil)))) (fun _ _ _ _ _ => (ts_one (t_c (c_lt (ev 4) (ev 1))))) (fun _ _ _ _ _ => (ev 3)))) a_nil))))
  ss_nil)
  (ss_cons (s_if (t_c (c_eq hu64 (ev 0) e_str))
  (ss_one (s_ret (ecn (cal_first_of T) (hr.mono (by decide)) (takes_of rfl rfl rfl rfl) (a_cons (e_add (e_lc (own := [("place", 3), ("item", 4)]) rfl sc_place_asked.nd (i_enum rfl (T.bl 10 "enumerate" rfl) (a_cons (ev 2) a_nil)) (blk_ok rfl (by kernel_rfl)) (fun _ _ _ _ _ => (g_t rfl (gs_cons (g_n (by decide) sc_place_asked.nd rfl (.inl rfl)) (gs_cons (g_n (by decide) sc_place_asked.nd rfl (.inl rfl)) gs_nil)))) (fun _ _ _ _ _ => (ts_one (t_c (c_ge (ev 4) (ev 1))))) (fun _ _ _ _ _ => (ev 3))) (e_lst (a_cons (e_len rfl (T.bl 0 "len" rfl) (a_cons (ev 2) a_nil)) a_nil))) a_nil))))
  ss_nil)
  (ss_cons (s_if (t_c (c_eq hu64 (ev 0) e_str))
  (ss_one (s_ret (ecn (cal_first_of T) (hr.mono (by decide)) (takes_of rfl rfl rfl rfl) (a_cons (e_add (e_lc (own := [("place", 3), ("item", 4)]) rfl sc_place_asked.nd (i_enum rfl (T.bl 10 "enumerate" rfl) (a_cons (ev 2) a_nil)) (blk_ok rfl (by kernel_rfl)) (fun _ _ _ _ _ => (g_t rfl (gs_cons (g_n (by decide) sc_place_asked.nd rfl (.inl rfl)) (gs_cons (g_n (by decide) sc_place_asked.nd rfl (.inl rfl)) gs_nil)))) (fun _ _ _ _ _ => (ts_one (t_c (c_gt (ev 4) (ev 1))))) (fun _ _ _ _ _ => (ev 3))) (e_lst (a_cons (e_len rfl (T.bl 0 "len" rfl) (a_cons (ev 2) a_nil)) a_nil))) a_nil))))
  ss_nil)
  (ss_one (s_ret (e_if (t_c (c_eq hu64 (ev 0) e_str)) (ecn (cal_first_of T) (hr.mono (by decide)) (takes_of rfl rfl rfl rfl) (a_cons (ecn (cal_falls_in T) (hr.mono (by decide)) (takes_of rfl rfl rfl rfl) (a_cons (ev 2) a_nil)) a_nil)) (ecn (cal_first_of T) (hr.mono (by decide)) (takes_of rfl rfl rfl rfl) (a_cons (ecn (cal_twins_in T) (hr.mono (by decide)) (takes_of rfl rfl rfl rfl) (a_cons (ev 2) a_nil)) a_nil)))))))))))
theorem sc_truth_asked : FnScope ["word", "key", "row", "many", "item"] ["word", "key", "row"] (defScope s_truth_asked) := ⟨rfl, rfl, rfl, by decide +kernel, rfl, by decide +kernel, by decide +kernel⟩
theorem cal_truth_asked {P : Program} {w : World} {K : PySem.W.Frag} {mg : Str → Option Value} {base : Heap} (T : Txt tops K mg) : Cal P w K mg base "truth_asked" 2 ["word", "key", "row"] [] F_truth_asked := cal_of (k := 1) (N := ["word", "key", "row", "many", "item"]) (b := b_truth_asked) T 17 (d := dd_truth_asked) rfl rfl rfl rfl sc_truth_asked (by decide) (fun _ _ _ _ _ _ us hl => match us, hl with | [_, _, _], _ => rfl) fun f cdv A outer s H E hr => by
    have hu64 := hr.units; have hu1 := hu_of hr; exact (ss_cons (s_set (own := [0, 1, 2, 3, 4]) (e_len rfl (T.bl 0 "len" rfl) (a_cons (e_lc (own := [("item", 4)]) rfl sc_truth_asked.nd (i_seq (ev 2)) (blk_ok rfl (by kernel_rfl)) (fun _ _ _ _ _ => (g_n (by decide) sc_truth_asked.nd rfl (.inl rfl))) (fun _ _ _ _ _ => (ts_one (t_c (c_eq hu64 (ev 4) (ev 1))))) (fun _ _ _ _ _ => (ev 4))) a_nil)) (g_n (by decide) sc_truth_asked.nd rfl (.inl rfl)))
  (ss_cons (s_if (t_c (c_eq hu64 (ev 0) e_str))
  (ss_one (s_ret (e_c (c_gt (ev 3) e_int))))
  ss_nil)
  (ss_cons (s_if (t_c (c_eq hu64 (ev 0) e_str))
  (ss_one (s_ret (e_c (c_eq hu64 (ev 3) e_int))))
  ss_nil)
  (ss_cons (s_if (t_c (c_eq hu64 (ev 0) e_str))
  (ss_one (s_ret (e_c (c_eq hu64 (ev 3) (e_len rfl (T.bl 0 "len" rfl) (a_cons (ev 2) a_nil))))))
  ss_nil)
  (ss_cons (s_if (t_c (c_eq hu64 (ev 0) e_str))
  (ss_one (s_ret (e_all rfl rfl (T.bl 9 "all" rfl) (a_cons (e_lc (own := [("item", 4)]) rfl sc_truth_asked.nd (i_seq (ev 2)) (blk_ok rfl (by kernel_rfl)) (fun _ _ _ _ _ => (g_n (by decide) sc_truth_asked.nd rfl (.inl rfl))) (fun _ _ _ _ _ => ts_nil) (fun _ _ _ _ _ => (e_c (c_gt (ev 4) (ev 1))))) a_nil))))
  ss_nil)
  (ss_one (s_ret (e_if (t_c (c_eq hu64 (ev 0) e_str)) (e_c (c_eq hu64 (ecn (cal_falls_in T) (hr.mono (by decide)) (takes_of rfl rfl rfl rfl) (a_cons (ev 2) a_nil)) (e_lst a_nil))) (e_c (c_ne hu64 (ecn (cal_twins_in T) (hr.mono (by decide)) (takes_of rfl rfl rfl rfl) (a_cons (ev 2) a_nil)) (e_lst a_nil)))))))))))
theorem sc_answer_asked : FnScope ["word", "key", "row"] ["word", "key", "row"] (defScope s_answer_asked) := ⟨rfl, rfl, rfl, by decide +kernel, rfl, by decide +kernel, by decide +kernel⟩
theorem cal_answer_asked {P : Program} {w : World} {K : PySem.W.Frag} {mg : Str → Option Value} {base : Heap} (T : Txt tops K mg) : Cal P w K mg base "answer_asked" 3 ["word", "key", "row"] [] F_answer_asked := cal_of (k := 2) (N := ["word", "key", "row"]) (b := b_answer_asked) T 18 (d := dd_answer_asked) rfl rfl rfl rfl sc_answer_asked (by decide) (fun _ _ _ _ _ _ us hl => match us, hl with | [_, _, _], _ => rfl) fun f cdv A outer s H E hr => by
    have hu64 := hr.units; have hu1 := hu_of hr; exact (ss_cons (s_if (t_c (c_in hu64 (ev 0) (e_tup (a_cons e_str (a_cons e_str (a_cons e_str (a_cons e_str (a_cons e_str (a_cons e_str a_nil)))))))))
  (ss_one (s_ret (ecn (cal_truth_asked T) (hr.mono (by decide)) (takes_of rfl rfl rfl rfl) (a_cons (ev 0) (a_cons (ev 1) (a_cons (ev 2) a_nil))))))
  ss_nil)
  (ss_one (s_ret (ecn (cal_place_asked T) (hr.mono (by decide)) (takes_of rfl rfl rfl rfl) (a_cons (ev 0) (a_cons (ev 1) (a_cons (ev 2) a_nil)))))))
theorem sc_asked : FnScope ["asking", "key", "row"] ["asking", "key", "row"] (defScope s_asked) := ⟨rfl, rfl, rfl, by decide +kernel, rfl, by decide +kernel, by decide +kernel⟩
theorem cal_asked {P : Program} {w : World} {K : PySem.W.Frag} {mg : Str → Option Value} {base : Heap} (T : Txt tops K mg) : Cal P w K mg base "asked" 4 ["asking", "key", "row"] [] F_asked := cal_of (k := 3) (N := ["asking", "key", "row"]) (b := b_asked) T 19 (d := dd_asked) rfl rfl rfl rfl sc_asked (by decide) (fun _ _ _ _ _ _ us hl => match us, hl with | [_, _, _], _ => rfl) fun f cdv A outer s H E hr => by
    have hu64 := hr.units; have hu1 := hu_of hr; exact (ss_cons (s_ex (ecn (cal_need_asking T) (hr.mono (by decide)) (takes_of rfl rfl rfl rfl) (a_cons (ev 0) a_nil)))
  (ss_cons (s_ex (ecn (cal_need_key T) (hr.mono (by decide)) (takes_of rfl rfl rfl rfl) (a_cons (ev 1) a_nil)))
  (ss_cons (s_ex (ecn (cal_need_row T) (hr.mono (by decide)) (takes_of rfl rfl rfl rfl) (a_cons (ev 2) a_nil)))
  (ss_one (s_ret (ecn (cal_answer_asked T) (hr.mono (by decide)) (takes_of rfl rfl rfl rfl) (a_cons (ev 0) (a_cons (ev 1) (a_cons (ev 2) a_nil)))))))))
theorem sc__law_asked : FnScope ["word", "key", "row", "places", "even", "more", "less", "falls", "twice", "truths", "some", "at"] ["word", "key", "row"] (defScope s__law_asked) := ⟨rfl, rfl, rfl, by decide +kernel, rfl, by decide +kernel, by decide +kernel⟩
theorem cal__law_asked {P : Program} {w : World} {K : PySem.W.Frag} {mg : Str → Option Value} {base : Heap} (T : Txt tops K mg) : Cal P w K mg base "_law_asked" 1 ["word", "key", "row"] [] F_law_asked := (cal_of (k := 0) (N := ["word", "key", "row", "places", "even", "more", "less", "falls", "twice", "truths", "some", "at"]) (b := b_law_asked) T 20 (d := dd__law_asked) rfl rfl rfl rfl sc__law_asked (by decide) (fun _ _ _ _ _ _ us hl => match us, hl with | [_, _, _], _ => rfl) fun f cdv A outer s H E hr => by
    have hu64 := hr.units; have hu1 := hu_of hr; exact (ss_cons (s_set (own := [0, 1, 2, 3, 4, 5, 6, 7, 8, 9, 10, 11]) (e_lrg1 rfl rfl (T.bl 5 "list" rfl) rfl (T.bl 3 "range" rfl) (e_len rfl (T.bl 0 "len" rfl) (a_cons (ev 2) a_nil))) (g_n (by decide) sc__law_asked.nd rfl (.inl rfl)))
  (ss_cons (s_par rfl sc__law_asked.nd rfl rfl (by decide) rfl rfl (a_cons (e_lc (own := [("at", 11)]) rfl sc__law_asked.nd (i_seq (ev 3)) (blk_ok rfl (by kernel_rfl)) (fun _ _ _ _ _ => (g_n (by decide) sc__law_asked.nd rfl (.inl rfl))) (fun _ _ _ _ _ => (ts_one (t_c (c_eq hu64 (e_ix hu1 (ev 2) (ev 11) (fun _ _ => rfl)) (ev 1))))) (fun _ _ _ _ _ => (ev 11))) (a_cons (e_lc (own := [("at", 11)]) rfl sc__law_asked.nd (i_seq (ev 3)) (blk_ok rfl (by kernel_rfl)) (fun _ _ _ _ _ => (g_n (by decide) sc__law_asked.nd rfl (.inl rfl))) (fun _ _ _ _ _ => (ts_one (t_c (c_gt (e_ix hu1 (ev 2) (ev 11) (fun _ _ => rfl)) (ev 1))))) (fun _ _ _ _ _ => (ev 11))) a_nil)))
  (ss_cons (s_lc (own := [("at", 11)]) rfl sc__law_asked.nd rfl rfl (i_seq (ev 3)) (blk_ok rfl (by kernel_rfl)) (fun _ _ _ _ _ => (g_n (by decide) sc__law_asked.nd rfl (.inl rfl))) (fun _ _ _ _ _ => (ts_one (t_c (c_lt (e_ix hu1 (ev 2) (ev 11) (fun _ _ => rfl)) (ev 1))))) (fun _ _ _ _ _ => (ev 11)))
  (ss_cons (s_lc (own := [("at", 11)]) rfl sc__law_asked.nd rfl rfl (i_seq (e_sl (ev 3) (o_some e_int) o_none)) (blk_ok rfl (by kernel_rfl)) (fun _ _ _ _ _ => (g_n (by decide) sc__law_asked.nd rfl (.inl rfl))) (fun _ _ _ _ _ => (ts_one (t_c (c_gt (e_ix hu1 (ev 2) (e_sub (ev 11) e_int) (fun _ _ => rfl)) (e_ix hu1 (ev 2) (ev 11) (fun _ _ => rfl)))))) (fun _ _ _ _ _ => (ev 11)))
  (ss_cons (s_lc (own := [("at", 11)]) rfl sc__law_asked.nd rfl rfl (i_seq (e_sl (ev 3) (o_some e_int) o_none)) (blk_ok rfl (by kernel_rfl)) (fun _ _ _ _ _ => (g_n (by decide) sc__law_asked.nd rfl (.inl rfl))) (fun _ _ _ _ _ => (ts_one (t_c (c_eq hu64 (e_ix hu1 (ev 2) (e_sub (ev 11) e_int) (fun _ _ => rfl)) (e_ix hu1 (ev 2) (ev 11) (fun _ _ => rfl)))))) (fun _ _ _ _ _ => (ev 11)))
  (ss_cons (s_set (own := [0, 1, 2, 3, 4, 5, 6, 7, 8, 9, 10, 11]) (e_dict (Ds.cons e_str (e_c (c_ne hu64 (ev 4) (e_lst a_nil))) (Ds.cons e_str (e_c (c_eq hu64 (e_len rfl (T.bl 0 "len" rfl) (a_cons (ev 4) a_nil)) e_int)) (Ds.cons e_str (e_c (c_eq hu64 (e_add (ev 6) (ev 5)) (e_lst a_nil))) Ds.nil)))) (g_n (by decide) sc__law_asked.nd rfl (.inl rfl)))
  (ss_cons (s_ex (e_update (ev 9) (a_cons (e_dict (Ds.cons e_str (e_c (c_eq hu64 (e_add (ev 6) (ev 4)) (e_lst a_nil))) (Ds.cons e_str (e_c (c_eq hu64 (ev 7) (e_lst a_nil))) (Ds.cons e_str (e_c (c_ne hu64 (ev 8) (e_lst a_nil))) Ds.nil)))) a_nil)))
  (ss_cons (s_if (t_c (c_in hu64 (ev 0) (ev 9)))
  (ss_one (s_ret (e_ix hu1 (ev 9) (ev 0) (fun _ _ => rfl))))
  ss_nil)
  (ss_cons (s_if (t_c (c_in hu64 (ev 0) (e_lst (a_cons e_str (a_cons e_str a_nil)))))
  (ss_one (s_set (own := [0, 1, 2, 3, 4, 5, 6, 7, 8, 9, 10, 11]) (e_if (t_c (c_eq hu64 (ev 0) e_str)) (e_sl (ev 4) (o_some (e_neg e_int)) o_none) (e_sl (ev 6) (o_some (e_neg e_int)) o_none)) (g_n (by decide) sc__law_asked.nd rfl (.inl rfl))))
  (ss_one (s_if (t_c (c_in hu64 (ev 0) (e_lst (a_cons e_str (a_cons e_str a_nil)))))
  (ss_one (s_set (own := [0, 1, 2, 3, 4, 5, 6, 7, 8, 9, 10, 11]) (e_add (e_sorted rfl (T.bl 11 "sorted" rfl) (a_cons (e_if (t_c (c_eq hu64 (ev 0) e_str)) (e_add (ev 4) (ev 5)) (ev 5)) a_nil)) (e_lst (a_cons (e_len rfl (T.bl 0 "len" rfl) (a_cons (ev 2) a_nil)) a_nil))) (g_n (by decide) sc__law_asked.nd rfl (.inl rfl))))
  (ss_one (s_set (own := [0, 1, 2, 3, 4, 5, 6, 7, 8, 9, 10, 11]) (e_ix hu1 (e_dict (Ds.cons e_str (ev 4) (Ds.cons e_str (ev 5) (Ds.cons e_str (ev 7) (Ds.cons e_str (ev 8) Ds.nil))))) (ev 0) (fun _ _ => rfl)) (g_n (by decide) sc__law_asked.nd rfl (.inl rfl)))))))
  (ss_one (s_ret (e_if (t_c (c_ne hu64 (ev 10) (e_lst a_nil))) (e_ix hu1 (ev 10) e_int (fun _ _ => rfl)) e_non))))))))))))).trunc
theorem sc_law : FnScope ["script", "k", "bag", "items", "number", "word", "found", "due"] ["script"] (defScope s_law) := ⟨rfl, rfl, rfl, by decide +kernel, rfl, by decide +kernel, by decide +kernel⟩
theorem dok_law {P : Program} {w : World} {K : PySem.W.Frag} {mg : Str → Option Value} {base : Heap} (T : Txt tops K mg) {f : Addr} {fd : FuncData} (Fu : FunD K dd_law.name dd_law.qual dd_law.params dd_law.body dd_law.scope (dd_law.dvs K) (dd_law.kws K) f fd) : Dok P w K mg base 5 f fd ["script"] F_law_k03 := (fn_body (N := ["script", "k", "bag", "items", "number", "word", "found", "due"]) (b := b_law_k03) Fu sc_law (by decide) fun cdv A outer s H E hr => by
    have hu64 := hr.units; have hu1 := hu_of hr; exact (ss_cons (s_for (own := [0, 1, 2, 3, 4, 5, 6, 7]) (passes_of rfl) rfl (i_rng1 rfl (T.bl 3 "range" rfl) (a_cons (e_max rfl rfl (T.bl 13 "max" rfl) (a_cons e_int (a_cons (e_min rfl rfl (T.bl 12 "min" rfl) (a_cons e_int (a_cons (e_add (e_len rfl (T.bl 0 "len" rfl) (a_cons (ev 0) a_nil)) e_int) a_nil))) a_nil))) a_nil)) (g_n (by decide) sc_law.nd rfl (.inl rfl))
  (ss_cons (s_set (own := [0, 1, 2, 3, 4, 5, 6, 7]) (ecn (cal__law_bag T) (hr.mono (by decide)) (takes_of rfl rfl rfl rfl) (a_cons (ev 0) (a_cons (ev 1) a_nil))) (g_n (by decide) sc_law.nd rfl (.inl rfl)))
  (ss_one (s_for (own := [0, 1, 2, 3, 4, 5, 6, 7]) (passes_of rfl) rfl (i_seq (e_lst (a_cons (ecn (cal__law_row T) (hr.mono (by decide)) (takes_of rfl rfl rfl rfl) (a_cons (ev 2) (a_cons e_int a_nil))) (a_cons (ecn (cal__law_row T) (hr.mono (by decide)) (takes_of rfl rfl rfl rfl) (a_cons (ev 2) (a_cons e_int a_nil))) (a_cons (ecn (cal__law_row T) (hr.mono (by decide)) (takes_of rfl rfl rfl rfl) (a_cons (ev 2) (a_cons e_int a_nil))) (a_cons (e_tup a_nil) a_nil)))))) (g_n (by decide) sc_law.nd rfl (.inl rfl))
  (ss_cons (s_set (own := [0, 1, 2, 3, 4, 5, 6, 7]) (ecn (cal__law_key T) (hr.mono (by decide)) (takes_of rfl rfl rfl rfl) (a_cons (ev 2) (a_cons (ev 3) a_nil))) (g_n (by decide) sc_law.nd rfl (.inl rfl)))
  (ss_one (s_for (own := [0, 1, 2, 3, 4, 5, 6, 7]) (passes_of rfl) rfl (i_seq (ec0 (cal__law_words T) (hr.mono (by decide)))) (g_n (by decide) sc_law.nd rfl (.inl rfl))
  (ss_cons (s_par rfl sc_law.nd rfl rfl (by decide) rfl rfl (a_cons (ecn (cal_asked T) (hr.mono (by decide)) (takes_of rfl rfl rfl rfl) (a_cons (ev 5) (a_cons (ev 4) (a_cons (ev 3) a_nil)))) (a_cons (ecn (cal__law_asked T) (hr.mono (by decide)) (takes_of rfl rfl rfl rfl) (a_cons (ev 5) (a_cons (ev 4) (a_cons (ev 3) a_nil)))) a_nil)))
  (ss_one (s_if (t_w (tw_or (t_c (c_ne hu64 (ev 6) (ev 7))) (tw_or1 (t_c (c_ne hu64 (e_isi rfl (T.bl 7 "isinstance" rfl) (a_cons (ev 6) (a_cons (e_ty (T.bl 8 "bool" rfl)) a_nil))) (e_isi rfl (T.bl 7 "isinstance" rfl) (a_cons (ev 7) (a_cons (e_ty (T.bl 8 "bool" rfl)) a_nil))))))))
  (ss_one (s_ret e_bl))
  ss_nil))))))))))
  (ss_one (s_ret e_bl)))).trunc
end Mi.K03
namespace Mi.K03
open PySem PySem.Spec PyProof.Rows L2 Mi
abbrev RR : PySem.W.OpenRow := PySem.W.OpenLaw.row PySem.Challenge.rw_readsenough_k03_what_askings_ask_for
theorem run (w : World) : HandSHeadRun.RunEq RR (PySem.W.view RR.prog [31]) (hookM 6 tops) (obM 6 tops) 1680 ["ASKINGS", "InvalidAsking", "InvalidKey", "InvalidRow", "LoopError", "MOST_ITEMS", "__name__", "_law_asked", "_law_bag", "_law_key", "_law_of", "_law_row", "_law_take", "_law_words", "answer_asked", "asked", "falls_in", "first_of", "is_asking", "is_number", "is_one_of", "is_row", "need_asking", "need_key", "need_row", "place_asked", "truth_asked", "twins_in"] w := by
  intro os
  kernel_rfl
end Mi.K03
open PySem PySem.W PySem.Calls PyProof.Rows
theorem PySem.Challenge.cw_readsenough_k03_what_askings_ask_for_holds : PySem.Challenge.rw_readsenough_k03_what_askings_ask_for.Holds := by
  w_on; o_law
  refine HandSHeadRun.head_any (r := OpenLaw.row PySem.Challenge.rw_readsenough_k03_what_askings_ask_for) (q := view (OpenLaw.row PySem.Challenge.rw_readsenough_k03_what_askings_ask_for).prog [31]) (H := Mi.hookM 6 Mi.K03.tops) (ob := Mi.obM 6 Mi.K03.tops) (M := 1680) (loose := ["ASKINGS", "InvalidAsking", "InvalidKey", "InvalidRow", "LoopError", "MOST_ITEMS", "__name__", "_law_asked", "_law_bag", "_law_key", "_law_of", "_law_row", "_law_take", "_law_words", "answer_asked", "asked", "falls_in", "first_of", "is_asking", "is_number", "is_one_of", "is_row", "need_asking", "need_key", "need_row", "place_asked", "truth_asked", "twins_in"]) (d := HandSHeadRun.topDef (OpenLaw.row PySem.Challenge.rw_readsenough_k03_what_askings_ask_for).prog 31) (kwd := []) (Mi.obM_eq 6 Mi.K03.tops)
    (by kernel_rfl) (fun s => by kernel_rfl) Mi.K03.run (by kernel_rfl) (by kernel_rfl) (by kernel_rfl) (by rfl) (by first | assumption | decide +kernel) (by decide +kernel) ⟨rfl, rfl, rfl, rfl, rfl, by decide +kernel⟩ ?hw ?hc
  case hw => w_witness2
  case hc =>
    refine L2.walk_ofE (l := PySem.Challenge.rw_readsenough_k03_what_askings_ask_for) (n := 63) (k := 5) (x := "script") (CX := L2.CX0) rfl (by decide) (by kernel_rfl) ⟨rfl, by decide, by decide⟩ ?F (fun _ _ _ _ z => z)
    intro w mg fa h Y G hmg0
    obtain ⟨K, KX, c, ce⟩ := Y
    have hmg : mg ("law" : PySem.Str) = some (.ref fa) := by
      have e : (HandSHeadRun.topDef (OpenLaw.row PySem.Challenge.rw_readsenough_k03_what_askings_ask_for).prog 31).name = ("law" : PySem.Str) := by kernel_rfl
      rw [← e]
      exact hmg0
    have T := Mi.Txt.of KX G ce c
    obtain ⟨fd, F⟩ := T.df 21 Mi.K03.dd_law rfl
    have e := hmg.symm.trans (T.gl 21 Mi.K03.dd_law rfl)
    cases e
    have hb := L2.FunD.bindsA (ps := ["script"]) F fun _ _ _ _ _ _ us hl => match us, hl with | [_], _ => rfl
    refine ⟨K, fd, fun vs H Q _ => Mi.rdF K mg 1 Mi.F_law_k03 vs H Q L2.E0, KX, fun s v => hb s [v] rfl, fun H a ns hl hO hS => Mi.law_sp hO hS (Mi.plain_k03 ns hl), fun base _ _ => ?_⟩
    exact Mi.law_ok (Mi.K03.dok_law T F)
