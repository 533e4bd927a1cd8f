/- A small affine separation logic over blocks of the heap, and a walk over the code that carries its facts in lists. -/
import Derived.WalkKit
import Derived.RangeFuncLeaves
import Derived.TacticsIn
import Derived.Lib.Builder
import Derived.Lib.UnsafeStr
import Derived.Laws.Externs
namespace Go.Proofs.Sol
open Go

/-- What a place holds: an object; in place 0 what no operation turns. -/
inductive Slot where
  | obj (o : Obj)
  | con (t : Nat → Question → Nat) (os : Os) (out : Array (Nat × ByteArray))
abbrev PH := Nat → Option Slot
abbrev HP := PH → Prop
def Split (h h1 h2 : PH) : Prop := ∀ b, (h1 b = none ∧ h2 b = h b) ∨ (h2 b = none ∧ h1 b = h b)
def stars : List HP → PH → Prop
  | [], _ => True
  | p :: L, h => ∃ h1 h2, Split h h1 h2 ∧ p h1 ∧ stars L h2
def hp (w : World) : PH
  | 0 => some (.con w.tape w.os w.output)
  | b + 1 => (w.heap[b]?).map .obj
def Sat (w : World) (L : List HP) : Prop := stars L (hp w)
def pt (b : Nat) (o : Obj) : HP := fun h => h (b + 1) = some (.obj o)
def con (w : World) : HP := fun h => h 0 = some (.con w.tape w.os w.output)
def exi {α : Type} (f : α → HP) : HP := fun h => ∃ x, f x h
def stp (L : List HP) : HP := stars L

theorem Split.get {h h1 h2 : PH} (s : Split h h1 h2) {b : Nat} {o : Slot} (e : h1 b = some o) : h b = some o := by
  rcases s b with ⟨n, _⟩ | ⟨_, n⟩
  · rw [n] at e; cases e
  · rw [← n]; exact e
theorem Split.get2 {h h1 h2 : PH} (s : Split h h1 h2) {b : Nat} {o : Slot} (e : h2 b = some o) : h b = some o := by
  rcases s b with ⟨_, n⟩ | ⟨n, _⟩
  · rw [← n]; exact e
  · rw [n] at e; cases e
theorem Split.comm {h h1 h2 : PH} (s : Split h h1 h2) : Split h h2 h1 := fun b => (s b).symm
theorem Split.empty (h : PH) : Split h (fun _ => none) h := fun _ => .inl ⟨rfl, rfl⟩
theorem Split.assoc {h h1 h2 h3 h4 : PH} (s : Split h h1 h2) (t : Split h2 h3 h4) :
    ∃ h5, Split h h3 h5 ∧ Split h5 h1 h4 := by
  refine ⟨fun b => match h3 b with | none => h b | some _ => none, fun b => ?_, fun b => ?_⟩
  · cases e : h3 b with
    | none => exact .inl ⟨rfl, by simp [e]⟩
    | some o =>
      have k : h3 b = h b := by
        rcases t b with ⟨n, _⟩ | ⟨_, n⟩
        · rw [n] at e; cases e
        · rcases s b with ⟨_, m⟩ | ⟨m, _⟩
          · rw [n, m]
          · rw [n] at e; rw [m] at e; cases e
      exact .inr ⟨by simp [e], e ▸ k⟩
  · cases e : h3 b with
    | none =>
      rcases s b with ⟨m, m'⟩ | ⟨m, m'⟩
      · refine .inl ⟨m, ?_⟩
        rcases t b with ⟨_, n⟩ | ⟨n, n'⟩
        · simp [e, n, m']
        · rw [e] at n'; simp [e, n, ← m', ← n']
      · refine .inr ⟨?_, by simp [e, m']⟩
        rcases t b with ⟨_, n⟩ | ⟨n, _⟩
        · rw [n, m]
        · exact n
    | some o =>
      refine .inl ⟨?_, ?_⟩
      · rcases s b with ⟨m, _⟩ | ⟨m, _⟩
        · exact m
        · rcases t b with ⟨n, _⟩ | ⟨_, n⟩
          · rw [n] at e; cases e
          · rw [n, m] at e; cases e
      · rcases t b with ⟨n, _⟩ | ⟨n, _⟩
        · rw [n] at e; cases e
        · simp [e, n]

theorem stars_swap {p q : HP} {L : List HP} {h : PH} (s : stars (p :: q :: L) h) : stars (q :: p :: L) h := by
  obtain ⟨h1, h2, s1, hp, h3, h4, s2, hq, hL⟩ := s
  obtain ⟨h5, s3, s4⟩ := s1.assoc s2
  exact ⟨h3, h5, s3, hq, h1, h4, s4, hp, hL⟩
theorem stars_mono {L L' : List HP} {p : HP} (f : ∀ h, stars L h → stars L' h) {h : PH} (s : stars (p :: L) h) : stars (p :: L') h := by
  obtain ⟨h1, h2, s1, hp, hL⟩ := s
  exact ⟨h1, h2, s1, hp, f _ hL⟩
theorem stars_mono_hd {L : List HP} {p q : HP} (f : ∀ h, p h → q h) {h : PH} (s : stars (p :: L) h) : stars (q :: L) h := by
  obtain ⟨h1, h2, s1, hp, hL⟩ := s
  exact ⟨h1, h2, s1, f _ hp, hL⟩
/-- What holds of a part holds of more (for lists: what is left over is let go). -/
theorem stars_tl {L : List HP} {p : HP} {h : PH} (s : stars (p :: L) h) : ∃ h2, Split h (fun b => match h2 b with | none => h b | some _ => none) h2 ∧ stars L h2 := by
  obtain ⟨h1, h2, s1, _, hL⟩ := s
  refine ⟨h2, fun b => ?_, hL⟩
  cases e : h2 b with
  | none => exact .inr ⟨rfl, by simp [e]⟩
  | some o =>
    have k : h2 b = h b := by
      rcases s1 b with ⟨_, n⟩ | ⟨n, _⟩
      · exact n
      · rw [n] at e; cases e
    exact .inl ⟨by simp [e], e ▸ k⟩

/-- A predicate that abides more heap. -/
class Up (p : HP) : Prop where
  up : ∀ h h', (∀ b o, h b = some o → h' b = some o) → p h → p h'
instance (b : Nat) (o : Obj) : Up (pt b o) := ⟨fun _ _ f e => f _ _ e⟩
instance (w : World) : Up (con w) := ⟨fun _ _ f e => f _ _ e⟩
theorem stars_up {L : List HP} {h h' : PH} (f : ∀ b o, h b = some o → h' b = some o) (s : stars L h) : stars L h' := by
  induction L generalizing h h' with
  | nil => trivial
  | cons p L ih =>
    obtain ⟨h1, h2, s1, hp, hL⟩ := s
    refine ⟨h1, fun b => match h1 b with | none => h' b | some _ => none, fun b => ?_, hp, ?_⟩
    · cases e : h1 b with
      | none => exact .inl ⟨rfl, by simp [e]⟩
      | some o => exact .inr ⟨by simp [e], by rw [f b o (s1.get e)]⟩
    · refine ih (fun b o e => ?_) hL
      have e' := s1.get2 e
      rcases s1 b with ⟨n, _⟩ | ⟨n, _⟩
      · simp [n, f b o e']
      · rw [n] at e; cases e
instance (L : List HP) : Up (stp L) := ⟨fun _ _ f e => stars_up f e⟩
instance {α : Type} (f : α → HP) [u : ∀ x, Up (f x)] : Up (exi f) := ⟨fun h h' g ⟨x, e⟩ => ⟨x, (u x).up h h' g e⟩⟩
theorem stars_drop {L : List HP} {p : HP} {h : PH} (s : stars (p :: L) h) : stars L h := by
  obtain ⟨h1, h2, s1, _, hL⟩ := s
  exact stars_up (fun b o e => s1.get2 e) hL
theorem stars_hd {L : List HP} {p : HP} [u : Up p] {h : PH} (s : stars (p :: L) h) : p h := by
  obtain ⟨h1, h2, s1, hp, _⟩ := s
  exact u.up h1 h (fun b o e => s1.get e) hp
theorem stars_append {M L : List HP} {h : PH} : stars (stp M :: L) h → stars (M ++ L) h := by
  induction M generalizing h with
  | nil => exact fun s => stars_drop s
  | cons p M ih =>
    rintro ⟨h1, h2, s1, ⟨h3, h4, s2, hp, hM⟩, hL⟩
    have s1' := s1.comm
    obtain ⟨h5, s3, s4⟩ := s1'.assoc s2
    exact ⟨h3, h5, s3, hp, ih ⟨h4, h2, s4.comm, hM, hL⟩⟩
theorem stars_gather {M L : List HP} {h : PH} : stars (M ++ L) h → stars (stp M :: L) h := by
  induction M generalizing h with
  | nil => exact fun s => ⟨fun _ => none, h, Split.empty h, trivial, s⟩
  | cons p M ih =>
    rintro ⟨h1, h2, s1, hp, hL⟩
    obtain ⟨h3, h4, s2, hM, hL'⟩ := ih hL
    -- h = h1 + (h3 + h4)
    obtain ⟨h5, s3, s4⟩ := s1.assoc s2.comm
    exact ⟨h5, h4, s3.comm, ⟨h1, h3, s4, hp, hM⟩, hL'⟩

/-- A goal laid aside. -/
structure Held (p : Prop) : Prop where
  mk ::
  h : p
/-- p is among L, R is the rest. -/
structure Take (L : List HP) (p : HP) (R : List HP) : Prop where
  out : ∀ h, stars L h → stars (p :: R) h
theorem Take.here {p : HP} {L : List HP} : Take (p :: L) p L := ⟨fun _ s => s⟩
theorem Take.next {p q : HP} {L R : List HP} (t : Take L p R) : Take (q :: L) p (q :: R) :=
  ⟨fun _ s => stars_swap (stars_mono t.out s)⟩
/-- L is at least M beside R. -/
structure Gives (L M : List HP) : Prop where
  out : ∀ h, stars L h → stars M h
theorem Gives.nil {L : List HP} : Gives L [] := ⟨fun _ _ => trivial⟩
theorem Gives.refl {L : List HP} : Gives L L := ⟨fun _ h => h⟩
theorem Gives.cons {L R M : List HP} {p : HP} (t : Take L p R) (g : Gives R M) : Gives L (p :: M) :=
  ⟨fun _ s => stars_mono g.out (t.out _ s)⟩
theorem Gives.last {L R : List HP} {p : HP} (t : Take L p R) : Gives L (p :: R) := ⟨t.out⟩
theorem Gives.drop {L M : List HP} {p : HP} (g : Gives L M) : Gives (p :: L) M := ⟨fun h s => g.out h (stars_drop s)⟩
theorem Gives.trans {L M N : List HP} (g : Gives L M) (g' : Gives M N) : Gives L N := ⟨fun h s => g'.out h (g.out h s)⟩

section
variable {w : World} {L R M : List HP} {p q : HP} {b : Nat} {o : Obj}
theorem Sat.gives (s : Sat w L) (g : Gives L M) : Sat w M := g.out _ s
theorem Sat.take (s : Sat w L) (t : Take L p R) : Sat w (p :: R) := t.out _ s
theorem Sat.hd [Up p] (s : Sat w (p :: L)) : p (hp w) := stars_hd s
theorem Sat.drop (s : Sat w (p :: L)) : Sat w L := stars_drop s
theorem Sat.conv (s : Sat w (p :: L)) (f : ∀ h, p h → q h) : Sat w (q :: L) := stars_mono_hd f s
theorem Sat.swap (s : Sat w (p :: q :: L)) : Sat w (q :: p :: L) := stars_swap s
theorem Sat.open_ (s : Sat w (stp M :: L)) : Sat w (M ++ L) := stars_append s
theorem Sat.shut (s : Sat w (M ++ L)) : Sat w (stp M :: L) := stars_gather s
theorem Sat.exi {α : Type} {f : α → HP} (s : Sat w (exi f :: L)) : ∃ x, Sat w (f x :: L) := by
  obtain ⟨h1, h2, s1, ⟨x, hx⟩, hL⟩ := s
  exact ⟨x, h1, h2, s1, hx, hL⟩
theorem Sat.cell (s : Sat w (pt b o :: L)) : w.heap[b]? = some o := by
  have h : hp w (b + 1) = some (.obj o) := s.hd
  simp only [hp, Option.map_eq_some_iff] at h
  obtain ⟨x, h1, h2⟩ := h
  cases h2; exact h1
theorem Sat.of_heap {w' : World} (s : Sat w L) (e : hp w' = hp w) : Sat w' L := by
  unfold Sat at *; rw [e]; exact s
theorem Sat.alloc (s : Sat w L) (o : Obj) : Sat (w.alloc o) (pt w.heap.size o :: L) := by
  refine ⟨fun b => if b = w.heap.size + 1 then some (.obj o) else none, hp w, fun b => ?_, by simp [pt], s⟩
  cases b with
  | zero => exact .inl ⟨by simp, rfl⟩
  | succ b =>
    simp only [hp, World.alloc, Array.getElem?_push]
    by_cases e : b = w.heap.size
    · subst e; exact .inr ⟨by simp, by simp⟩
    · exact .inl ⟨by simp [e], by simp [e]⟩
theorem Sat.set (s : Sat w (pt b o :: L)) (o' : Obj) {w' : World} (e : w' = { w with heap := w.heap.setIfInBounds b o' }) : Sat w' (pt b o' :: L) := by
  subst e
  have hb : b < w.heap.size := by
    rcases Nat.lt_or_ge b w.heap.size with h | h
    · exact h
    · have := s.cell; simp [h] at this
  obtain ⟨h1, h2, s1, hp1, hL⟩ := s
  refine ⟨fun x => if x = b + 1 then some (.obj o') else h1 x, h2, fun x => ?_, by simp [pt], hL⟩
  by_cases hx : x = b + 1
  · subst hx
    rcases s1 (b + 1) with ⟨n, _⟩ | ⟨n, _⟩
    · simp only [pt] at hp1; rw [n] at hp1; cases hp1
    · refine .inr ⟨n, ?_⟩
      simp [hp, hb]
  · have : hp ({ w with heap := w.heap.setIfInBounds b o' } : World) x = hp w x := by
      cases x with
      | zero => rfl
      | succ x =>
        have hne : b ≠ x := fun h => hx (by omega)
        simp [hp, hne]
    rw [this]; simpa [hx] using s1 x
theorem Sat.con {w0 : World} (s : Sat w (con w0 :: L)) : w.tape = w0.tape ∧ w.os = w0.os ∧ w.output = w0.output := by
  have h : hp w 0 = some (.con w0.tape w0.os w0.output) := s.hd
  simp only [hp, Option.some.injEq, Slot.con.injEq] at h
  exact h
end
end Go.Proofs.Sol

/- The walk: what is known of the temporaries and of memory, step by step through a function's code. -/
namespace Go.Proofs.Sol
open Go

abbrev Env := List (Nat × Value)
def look : Env → Nat → Option Value
  | [], _ => none
  | (k, v) :: e, t => bif Nat.beq k t then some v else look e t
/-- Of an activation: how many temporaries, which deferred calls, in which round of a range over a function. -/
structure NT where
  sz : Nat
  ds : List Deferred
  ro : Option Nat
abbrev fen (ro : Option Nat) : Fence := { Fence.wide with round := ro }
structure EnvOk (n : NT) (l g : Env) (a : Act) : Prop where
  size : a.tmps.size = n.sz
  defers : a.defers = n.ds
  l : ∀ t v, look l t = some v → a.tmps.getD t undef = v
  g : ∀ t v, look g t = some v → a.tmps.getD t undef = v
def ev (l g : Env) : Operand → Option Value
  | .tmp t => match look l t with
    | some v => some v
    | none => look g t
  | .const v => some v
  | .global b => some (.pointer (some ⟨b, 0, none⟩))
  | .func f => some (.func (.func f) #[] #[])
def evl (l g : Env) : List Operand → Option (List Value)
  | [] => some []
  | x :: xs => match ev l g x with
    | some v => (match evl l g xs with
      | some vs => some (v :: vs)
      | none => none)
    | none => none
def evp (l g : Env) : List (Nat × Operand) → Option (List (Nat × Value))
  | [] => some []
  | (i, x) :: xs => match ev l g x with
    | some v => (match evp l g xs with
      | some vs => some ((i, v) :: vs)
      | none => none)
    | none => none
def nth {α : Type} : List α → Nat → Option α
  | [], _ => none
  | x :: _, 0 => some x
  | _ :: xs, n + 1 => nth xs n
def setL {α : Type} : List α → Nat → α → Option (List α)
  | [], _, _ => none
  | _ :: xs, 0, v => some (v :: xs)
  | x :: xs, n + 1, v => match setL xs n v with
    | some ys => some (x :: ys)
    | none => none
def addN (a b : Nat) : Nat := a + b

theorem nth_eq {α : Type} (l : List α) (n : Nat) : nth l n = l[n]? := by
  induction l generalizing n with
  | nil => simp [nth]
  | cons x xs ih => cases n <;> simp [nth, ih]
theorem setL_eq {α : Type} {l : List α} {n : Nat} {v : α} {l' : List α} (h : setL l n v = some l') : n < l.length ∧ l' = l.set n v := by
  induction l generalizing n l' with
  | nil => simp [setL] at h
  | cons x xs ih =>
    cases n with
    | zero => simp [setL] at h; subst h; simp
    | succ n =>
      simp only [setL] at h
      cases e : setL xs n v with
      | none => rw [e] at h; cases h
      | some ys => rw [e] at h; obtain ⟨h1, h2⟩ := ih e; simp at h; subst h; subst h2; simpa using h1

theorem EnvOk.eval {n : NT} {l g : Env} {a : Act} (e : EnvOk n l g a) {x : Operand} {v : Value} (h : ev l g x = some v) : a.eval x = v := by
  cases x with
  | tmp t =>
    simp only [ev] at h
    cases hl : look l t with
    | none => rw [hl] at h; exact e.g t v h
    | some u => rw [hl] at h; cases h; exact e.l t v hl
  | const c => simp [ev] at h; exact h
  | global b => simp [ev] at h; exact h
  | func f => simp [ev] at h; exact h
theorem EnvOk.evall {n : NT} {l g : Env} {a : Act} (e : EnvOk n l g a) {xs : List Operand} {vs : List Value} (h : evl l g xs = some vs) : xs.map a.eval = vs := by
  induction xs generalizing vs with
  | nil => simp [evl] at h; simp [h]
  | cons x xs ih =>
    simp only [evl] at h
    cases hx : ev l g x with
    | none => rw [hx] at h; cases h
    | some v =>
      rw [hx] at h
      cases hs : evl l g xs with
      | none => rw [hs] at h; cases h
      | some us => rw [hs] at h; cases h; simp [e.eval hx, ih hs]
theorem EnvOk.evalp {n : NT} {l g : Env} {a : Act} (e : EnvOk n l g a) {xs : List (Nat × Operand)} {vs : List (Nat × Value)} (h : evp l g xs = some vs) : xs.map (fun (i, x) => (i, a.eval x)) = vs := by
  induction xs generalizing vs with
  | nil => simp [evp] at h; simp [h]
  | cons x xs ih =>
    obtain ⟨i, x⟩ := x
    simp only [evp] at h
    cases hx : ev l g x with
    | none => rw [hx] at h; cases h
    | some v =>
      rw [hx] at h
      cases hs : evp l g xs with
      | none => rw [hs] at h; cases h
      | some us => rw [hs] at h; cases h; simp only [List.map_cons, e.eval hx]; rw [ih hs]
theorem Nat.beq_eq_false_iff_ne {a b : Nat} : Nat.beq a b = false ↔ a ≠ b := by
  constructor
  · intro h e; subst e; simp at h
  · intro h; cases e : Nat.beq a b with
    | false => rfl
    | true => exact absurd (Nat.eq_of_beq_eq_true e) h
theorem getD_put {a : Act} {d t : Nat} {v : Value} (hd : d < a.tmps.size) : (a.put (some d) v).tmps.getD t undef = if d = t then v else a.tmps.getD t undef := by
  simp only [Act.put, Array.getD_eq_getD_getElem?, Array.getElem?_setIfInBounds]
  by_cases h : d = t
  · subst h; simp [hd]
  · simp [h]
theorem EnvOk.putl {n : NT} {l g : Env} {a : Act} (e : EnvOk n l g a) {d : Nat} (hd : Nat.blt d n.sz = true) (hn : look g d = none) (v : Value) :
    EnvOk n ((d, v) :: l) g (a.put (some d) v) := by
  have hd' : d < a.tmps.size := by rw [e.size]; exact Nat.le_of_ble_eq_true hd
  refine ⟨by simp [Act.put, e.size], by simp [Act.put, e.defers], fun t u h => ?_, fun t u h => ?_⟩
  · rw [getD_put hd']
    simp only [look] at h
    by_cases ht : d = t
    · subst ht; simp at h; simp [h]
    · have : Nat.beq d t = false := Nat.beq_eq_false_iff_ne.2 ht
      rw [this] at h; rw [if_neg ht]; exact e.l t u h
  · rw [getD_put hd']
    by_cases ht : d = t
    · subst ht; rw [hn] at h; cases h
    · rw [if_neg ht]; exact e.g t u h
theorem EnvOk.putg {n : NT} {l g : Env} {a : Act} (e : EnvOk n l g a) {d : Nat} (hd : Nat.blt d n.sz = true) (hn : look l d = none) (v : Value) :
    EnvOk n l ((d, v) :: g) (a.put (some d) v) := by
  have hd' : d < a.tmps.size := by rw [e.size]; exact Nat.le_of_ble_eq_true hd
  refine ⟨by simp [Act.put, e.size], by simp [Act.put, e.defers], fun t u h => ?_, fun t u h => ?_⟩
  · rw [getD_put hd']
    by_cases ht : d = t
    · subst ht; rw [hn] at h; cases h
    · rw [if_neg ht]; exact e.l t u h
  · rw [getD_put hd']
    simp only [look] at h
    by_cases ht : d = t
    · subst ht; simp at h; simp [h]
    · have : Nat.beq d t = false := Nat.beq_eq_false_iff_ne.2 ht
      rw [this] at h; rw [if_neg ht]; exact e.g t u h
theorem EnvOk.end_ {n : NT} {l g : Env} {a : Act} (e : EnvOk n l g a) : EnvOk n [] g a := ⟨e.size, e.defers, fun t v h => by simp [look] at h, e.g⟩
/-- What is known of fewer temporaries. -/
def sub (g : Env) : Env → Prop
  | [] => True
  | (t, v) :: g' => look g t = some v ∧ sub g g'
theorem sub_look {g g' : Env} (s : sub g g') {t : Nat} {v : Value} (h : look g' t = some v) : look g t = some v := by
  induction g' with
  | nil => simp [look] at h
  | cons x xs ih =>
    obtain ⟨k, u⟩ := x
    simp only [look] at h
    by_cases hk : Nat.beq k t = true
    · rw [hk] at h; simp at hk; subst hk; simp at h; subst h; exact s.1
    · rw [Bool.not_eq_true] at hk; rw [hk] at h; exact ih s.2 h
theorem EnvOk.sub {n : NT} {l g g' : Env} {a : Act} (e : EnvOk n l g a) (s : Sol.sub g g') : EnvOk n [] g' a :=
  ⟨e.size, e.defers, fun t v h => by simp [look] at h, fun t v h => e.g t v (sub_look s h)⟩

abbrev QT := Exit → Act → World → Prop
/-- A region's operations, one behind the other. -/
def wpL (P : Program) (ops : Array Oper) (Q : QT) : List Oper → Act → World → Prop
  | [], a, w => Q .normal a w
  | o :: rest, a, w => if Region.wanted o (yielded ops a.tmps) then o.wp P a w (wpL P ops Q rest) Q else wpL P ops Q rest (a.put o.dst undef) w
section
variable {P : Program} {ops : Array Oper} {rest : List Oper} {Q : QT}
theorem wpL_nil {a : Act} {w : World} (h : Q .normal a w) : wpL P ops Q [] a w := h
theorem wpL_plain {o : Oper} {a : Act} {w : World} (hg : o.guard = none) (h : ∀ K : Act → World → Prop, (∀ a w, wpL P ops Q rest a w → K a w) → o.wp P a w K Q) : wpL P ops Q (o :: rest) a w := by
  unfold wpL
  rw [if_pos (by simp [Region.wanted, hg])]
  exact h _ fun _ _ h => h
theorem uponIn_of {ro : Option Nat} {o : Oper} {a : Act} {K : Act → World → Prop} {r : Result Next} (h : o.upon P a K Q r) : o.uponIn (fen ro) 0 P a K Q r := by
  cases r with
  | halt x w => cases x <;> exact h
  | ok nx w =>
    cases nx with
    | value v => exact h
    | skip => exact h
    | defer d => exact h
    | enter f args => exact ⟨fun e => (by cases e), ⟨trivial, fun cs _ => ((callsIn_wide (n := 0)).2 h).2 cs (fun d hd => (by cases hd))⟩⟩
    | row row args =>
      refine ⟨fun e => (by cases e), fun c cs _ => ?_⟩
      obtain ⟨v, w', h1, h2⟩ := h c cs
      exact ⟨v, w', h1, stepsIn_wide.2 h2⟩
    | round l f tmps assign body => exact h.elim
    | _ => exact h.elim
theorem upon_mono {o : Oper} {a : Act} {K K' : Act → World → Prop} {r : Result Next} (h : o.upon P a K Q r) (hk : ∀ a w, K a w → K' a w) : o.upon P a K' Q r := by
  cases r with
  | halt x w => cases x <;> exact h
  | ok nx w =>
    cases nx with
    | value v => exact hk _ _ h
    | skip => exact hk _ _ h
    | defer d => exact hk _ _ h
    | enter f args => exact h.mono fun e w' he => by cases e <;> first | exact hk _ _ he | exact he
    | row row args => exact h.mono fun v w' he => hk _ _ he
    | round l f tmps assign body => exact h.elim
    | _ => exact h.elim
def noDefer (o : Oper) : Bool := match o.op with
  | .defer _ => false
  | _ => true
def regOk : Option Nat → List Oper → Bool
  | none, _ => true
  | some _, l => l.all noDefer
theorem wpListIn_of {ro : Option Nat} {l : List Oper} {a : Act} {w : World} (h : wpL P ops Q l a w) (hr : regOk ro l = true) : wpListIn (fen ro) 0 P ops Q l a w := by
  induction l generalizing a w with
  | nil => exact h
  | cons o rest ih =>
    have hr' : regOk ro rest = true := by
      cases ro with
      | none => rfl
      | some _ => simp only [regOk, List.all_cons, Bool.and_eq_true] at hr; exact hr.2
    unfold wpL at h
    unfold wpListIn
    split
    · rename_i hw
      rw [if_pos hw] at h
      refine ⟨fun _ _ => trivial, ?_⟩
      have hs : o.semAt (fen ro).round a.eval = execOp a.eval o := by
        cases ro with
        | none => rfl
        | some _ =>
          refine Oper.semAt_eq _ _ _ fun c hc => ?_
          simp only [regOk, List.all_cons, Bool.and_eq_true, noDefer, hc] at hr
          exact Bool.false_ne_true hr.1
      rw [hs]
      refine uponIn_of ?_
      unfold Oper.wp at h
      refine upon_mono h fun a w h => ih h hr'
    · rename_i hw
      rw [if_neg hw] at h
      exact ⟨fun _ _ => trivial, ih h hr'⟩
end
/-- A region's operations, from here on. -/
def J (P : Program) (ops : Array Oper) (rest : List Oper) (n : NT) (l g : Env) (L : List HP) (Q : QT) : Prop :=
  ∀ a w, EnvOk n l g a → Sat w L → wpL P ops Q rest a w
/-- Code. -/
def R (P : Program) (c : Code) (n : NT) (g : Env) (L : List HP) (Q : QT) : Prop := ∀ a w, EnvOk n [] g a → Sat w L → c.wpIn (fen n.ro) 0 P Q a w
/-- An exit. -/
def E (Q : QT) (e : Exit) (n : NT) (g : Env) (L : List HP) : Prop := ∀ a w, EnvOk n [] g a → Sat w L → Q e a w
/-- A region's operations, in a world. -/
def JW (P : Program) (ops : Array Oper) (rest : List Oper) (n : NT) (l g : Env) (w : World) (Q : QT) : Prop :=
  ∀ a, EnvOk n l g a → wpL P ops Q rest a w

section
variable {P : Program} {ops : Array Oper} {rest : List Oper} {n : NT} {l g : Env} {L M : List HP} {Q : QT}
theorem JW.of {w : World} (s : Sat w L) (h : J P ops rest n l g L Q) : JW P ops rest n l g w Q := fun a e => h a w e s
theorem J.gives (m : Gives L M) (h : J P ops rest n l g M Q) : J P ops rest n l g L Q := fun a w e s => h a w e (s.gives m)
theorem R.gives {c : Code} (m : Gives L M) (h : R P c n g M Q) : R P c n g L Q := fun a w e s => h a w e (s.gives m)
theorem E.gives {e : Exit} (m : Gives L M) (h : E Q e n g M) : E Q e n g L := fun a w o s => h a w o (s.gives m)
theorem R.sub {c : Code} {g' : Env} (m : sub g g') (h : R P c n g' L Q) : R P c n g L Q := fun a w e s => h a w (e.sub m) s
theorem J.at_ (h : ∀ w, Sat w L → JW P ops rest n l g w Q) : J P ops rest n l g L Q := fun a w e s => h w s a e
/-- What the memory says, taken into the context. -/
theorem J.know {φ : Prop} (k : ∀ w, Sat w L → φ) (h : φ → J P ops rest n l g L Q) : J P ops rest n l g L Q := fun a w e s => h (k w s) a w e s
theorem R.know {c : Code} {φ : Prop} (k : ∀ w, Sat w L → φ) (h : φ → R P c n g L Q) : R P c n g L Q := fun a w e s => h (k w s) a w e s
theorem R.open_ {c : Code} {α : Type} {M : α → List HP} (k : ∀ w, Sat w L → ∃ x, Sat w (M x)) (h : ∀ x, R P c n g (M x) Q) : R P c n g L Q := fun a w e s => let ⟨x, hx⟩ := k w s; h x a w e hx
theorem J.open_ {α : Type} {M : α → List HP} (k : ∀ w, Sat w L → ∃ x, Sat w (M x)) (h : ∀ x, J P ops rest n l g (M x) Q) : J P ops rest n l g L Q := fun a w e s => let ⟨x, hx⟩ := k w s; h x a w e hx

theorem R_seq {k : Nat} {ds : List Deferred} {ro : Option Nat} {x y : Code} (h : R P x ⟨k, ds, ro⟩ g L (Exit.then (y.wpIn (fen ro) 0 P Q) Q)) : R P (.seq x y) ⟨k, ds, ro⟩ g L Q := fun a w e s => wpIn_seq (h a w e s)
theorem R_region {id : Nat} {l : List Oper} (h : J P l.toArray l n [] g L Q) (hd : regOk n.ro l = true := by rfl) : R P (.region id l.toArray false) n g L Q := fun a w e s => wpIn_region_lit (wpListIn_of (h a w e s) hd)
theorem R_skip (h : E Q .normal n g L) : R P .skip n g L Q := fun a w e s => wpIn_skip (h a w e s)
theorem R_ret (h : E Q .ret n g L) : R P .ret n g L Q := fun a w e s => wpIn_ret (h a w e s)
theorem R_exit {id : Nat} (h : E Q (.exit id) n g L) : R P (.exit id) n g L Q := fun a w e s => wpIn_exit (h a w e s)
theorem R_block {id : Nat} {c : Code} (h : R P c n g L (Exit.inBlock id Q)) : R P (.block id c) n g L Q := fun a w e s => wpIn_block (h a w e s)
theorem R_cond_true {c : Operand} {x y : Code} (hc : ev [] g c = some (.bool true)) (h : R P x n g L Q) : R P (.cond c x y) n g L Q :=
  fun a w e s => wpIn_cond_true (e.eval hc) (h a w e s)
theorem R_cond_false {c : Operand} {x y : Code} (hc : ev [] g c = some (.bool false)) (h : R P y n g L Q) : R P (.cond c x y) n g L Q :=
  fun a w e s => wpIn_cond_false (e.eval hc) (h a w e s)
theorem R_cond {c : Operand} {x y : Code} {t : Bool} (hc : ev [] g c = some (.bool t)) (h1 : t = true → R P x n g L Q) (h2 : t = false → R P y n g L Q) : R P (.cond c x y) n g L Q :=
  fun a w e s => wpIn_cond_split (e.eval hc) (fun h => h1 h a w e s) (fun h => h2 h a w e s)
theorem E_then {k : Nat} {ds : List Deferred} {ro : Option Nat} {y : Code} (h : R P y ⟨k, ds, ro⟩ g L Q) : E (Exit.then (y.wpIn (fen ro) 0 P Q) Q) .normal ⟨k, ds, ro⟩ g L := h
theorem E_thenK {K : Act → World → Prop} (h : E (fun _ a w => K a w) .normal n g L) : E (Exit.then K Q) .normal n g L := h
theorem E_then_ret {K : Act → World → Prop} (h : E Q .ret n g L) : E (Exit.then K Q) .ret n g L := h
theorem E_then_exit {K : Act → World → Prop} {id : Nat} (h : E Q (.exit id) n g L) : E (Exit.then K Q) (.exit id) n g L := h
theorem E_block_normal {id : Nat} (h : E Q .normal n g L) : E (Exit.inBlock id Q) .normal n g L := h
theorem E_block_ret {id : Nat} (h : E Q .ret n g L) : E (Exit.inBlock id Q) .ret n g L := h
theorem E_block_hit {id : Nat} (h : E Q .normal n g L) : E (Exit.inBlock id Q) (.exit id) n g L := fun a w e s => by simp only [Exit.inBlock, if_true]; exact h a w e s
theorem E_block_miss {id i : Nat} (hi : Nat.beq i id = false) (h : E Q (.exit i) n g L) : E (Exit.inBlock id Q) (.exit i) n g L :=
  fun a w e s => by simp only [Exit.inBlock]; rw [if_neg (Nat.beq_eq_false_iff_ne.1 hi)]; exact h a w e s
theorem J_nil (h : E Q .normal n g L) : J P ops [] n l g L Q := fun a w e s => wpL_nil (h a w e.end_ s)

/-- A loop: at each round's head the temporaries g x and the memory L x are known, x being what the rounds hand on; 'm' goes down. -/
theorem R_loop {X : Type} (G : X → Env) (H : X → List HP) (m : X → Nat) (x₀ : X) {c : Code} (hg : sub g (G x₀)) (hL : Gives L (H x₀))
    (round : ∀ x, R P c n (G x) (H x) (Exit.then (fun a w => ∃ x', m x' < m x ∧ EnvOk n [] (G x') a ∧ Sat w (H x')) Q)) : R P (.loop c) n g L Q := by
  intro a w e s b k' cs hro hb hr
  have key : ∀ j x a w, m x = j → EnvOk n [] (G x) a → Sat w (H x) →
      ∃ e a' w', Q e a' w' ∧ ArrivesIn (Machine.fenced P (fen n.ro)) P (lone (b.atR a (.code c :: .inLoop c :: k')) cs w) b k' cs e a' w' := by
    intro j
    induction j using Nat.strongRecOn with
    | _ j ih =>
      intro x a w hk he hs
      obtain ⟨e, a₁, w₁, hq, harr⟩ := round x a w he hs b (.inLoop c :: k') cs hro hb hr
      cases e with
      | normal =>
        obtain ⟨x', hlt, he', hs'⟩ := hq
        obtain ⟨e₂, a₂, w₂, hq₂, harr₂⟩ := ih (m x') (hk ▸ hlt) x' a₁ w₁ rfl he' hs'
        exact ⟨e₂, a₂, w₂, hq₂, .of_steps (StepsIn.trans harr (.one (fenced_calm hb hr rfl) stepR_inLoop)) harr₂⟩
      | exit id => exact ⟨_, a₁, w₁, hq, .pass (x := .inLoop c) rfl (fun _ _ => .inl (by simp)) harr⟩
      | goto l => exact ⟨_, a₁, w₁, hq, .pass (x := .inLoop c) rfl (fun _ _ => .inl (by simp)) harr⟩
      | ret => exact ⟨_, a₁, w₁, hq, .pass (x := .inLoop c) rfl (fun _ _ => .inl (by simp)) harr⟩
      | panic ch => exact ⟨_, a₁, w₁, hq, .pass (x := .inLoop c) rfl (fun _ _ => .inl (by simp)) harr⟩
      | outgrown => exact ⟨_, a₁, w₁, hq, .pass (x := .inLoop c) rfl (fun _ _ => .inl (by simp)) harr⟩
  obtain ⟨e', a', w', hq, harr⟩ := key _ x₀ a w rfl (e.sub hg) (s.gives hL)
  exact ⟨e', a', w', hq, .of_steps (.one (fenced_calm hb hr rfl) stepR_loop) harr⟩
/-- The end of a round. -/
theorem E_round {X : Type} {G : X → Env} {H : X → List HP} {m : X → Nat} {x : X} (x' : X) (hm : m x' < m x) (hg : sub g (G x')) (hL : Gives L (H x')) :
    E (Exit.then (fun a w => ∃ x', m x' < m x ∧ EnvOk n [] (G x') a ∧ Sat w (H x')) Q) .normal n g L :=
  fun _ _ e s => ⟨x', hm, e.sub hg, s.gives hL⟩
/-- A cut: the ways meet again. -/
theorem R_cut {X : Type} (G : X → Env) (H : X → List HP) {x y : Code} (h : R P x n g L (Exit.then (fun a w => ∃ x, EnvOk n [] (G x) a ∧ Sat w (H x)) Q))
    (k : ∀ x, R P y n (G x) (H x) Q) : R P (.seq x y) n g L Q :=
  fun a w e s => wpIn_seq (wpIn_mono (h a w e s) fun e' a' w' q => by
    cases e' with
    | normal => obtain ⟨x, he, hs⟩ := q; exact k x a' w' he hs
    | _ => exact q)
theorem E_cut {X : Type} {G : X → Env} {H : X → List HP} (x : X) (hg : sub g (G x)) (hL : Gives L (H x)) :
    E (Exit.then (fun a w => ∃ x, EnvOk n [] (G x) a ∧ Sat w (H x)) Q) .normal n g L :=
  fun _ _ e s => ⟨x, e.sub hg, s.gives hL⟩
end

/-- 'Returns, and then post.' -/
def Ret (post : Value → World → Prop) : Ending → World → Prop := fun e w => ∃ v, e = .returned v ∧ post v w
/-- A contract: over whatever world that satisfies L. -/
def Fn (P : Program) (f : FuncId) (args : List Value) (L : List HP) (post : Value → World → Prop) : Prop :=
  ∀ w, Sat w L → Calls P f args.toArray w (Ret post)
def env0 : Nat → List Value → Env
  | _, [] => []
  | k, v :: vs => (k, v) :: env0 (k + 1) vs
theorem env0_look {k : Nat} {vs : List Value} {t : Nat} {v : Value} (h : look (env0 k vs) t = some v) : k ≤ t ∧ vs[t - k]? = some v := by
  induction vs generalizing k with
  | nil => simp [env0, look] at h
  | cons x xs ih =>
    simp only [env0, look] at h
    by_cases ht : Nat.beq k t = true
    · rw [ht] at h; simp at ht; subst ht; simp at h; subst h; simp
    · rw [Bool.not_eq_true] at ht; rw [ht] at h
      have := ih h
      refine ⟨by omega, ?_⟩
      have e : t - k = (t - (k + 1)) + 1 := by omega
      rw [e]; simpa using this.2
theorem enter_env {args : List Value} {m : Nat} (hle : Nat.ble args.length m = true) : EnvOk ⟨m, [], none⟩ [] (env0 0 args) { tmps := args.toArray ++ Array.replicate (m - args.toArray.size) undef, defers := [] } := by
  refine ⟨?_, rfl, fun t v h => by simp [look] at h, fun t v h => ?_⟩
  · have : args.length ≤ m := by simpa using hle
    simp; omega
  · have := env0_look h
    simp only [Array.getD_eq_getD_getElem?]
    have h2 : args.toArray[t]? = some v := by simpa using this.2
    have hlt : t < args.length := by
      rcases Nat.lt_or_ge t args.length with h | h
      · exact h
      · simp [h] at h2
    rw [Array.getElem?_append_left (by simpa using hlt), h2]; rfl
theorem Fn_enter {P : Program} {f : FuncId} {args : List Value} {L : List HP} {post : Value → World → Prop} {fn : Func} {c : Code} {m : Nat}
    (hf : P.funcs[f]? = some fn) (hb : fn.body = some c) (hn : fn.ntmps = m) (hle : Nat.ble args.length m = true)
    (h : R P c ⟨m, [], none⟩ (env0 0 args) L (bodyPost P fn (Ret post))) : Fn P f args L post := by
  intro w s
  subst hn
  exact calls_of_wp hf hb (wpIn_wide.1 (h _ w (enter_env hle) s))
/-- A function that holds a range over a function: it leaves with marks among its deferred calls. -/
theorem Fn_enterM {P : Program} {f : FuncId} {args : List Value} {L : List HP} {post : Value → World → Prop} {fn : Func} {c : Code} {m : Nat}
    (hf : P.funcs[f]? = some fn) (hb : fn.body = some c) (hn : fn.ntmps = m) (hle : Nat.ble args.length m = true)
    (h : R P c ⟨m, [], none⟩ (env0 0 args) L (bodyPostM Fence.wide 0 P fn (Ret post))) : Fn P f args L post := by
  intro w s
  subst hn
  exact callsIn_wide.1 (callsIn_of_wp_marks hf hb trivial (h _ w (enter_env hle) s))
theorem Fn.mono {P : Program} {f : FuncId} {args : List Value} {L M : List HP} {post post' : Value → World → Prop} (h : Fn P f args M post) (hL : Gives L M)
    (hp : ∀ v w, post v w → post' v w) : Fn P f args L post' :=
  fun w s => (h w (s.gives hL)).mono fun _ w' ⟨v, hv, q⟩ => ⟨v, hv, hp v w' q⟩
/-- A part of what must be known may be known as something else. -/
theorem Fn.open_ {P : Program} {f : FuncId} {args : List Value} {L : List HP} {post : Value → World → Prop} {α : Type} {M : α → List HP}
    (k : ∀ w, Sat w L → ∃ x, Sat w (M x)) (h : ∀ x, Fn P f args (M x) post) : Fn P f args L post :=
  fun w s => let ⟨x, hx⟩ := k w s; h x w hx
theorem Fn.know {P : Program} {f : FuncId} {args : List Value} {L : List HP} {post : Value → World → Prop} {φ : Prop}
    (k : ∀ w, Sat w L → φ) (h : φ → Fn P f args L post) : Fn P f args L post :=
  fun w s => h (k w s) w s

/-- The values that the results have. -/
inductive Res (P : Program) (L : List HP) (g : Env) : List ResultVar → List Value → Prop where
  | nil : Res P L g [] []
  | tmp {t : Nat} {v : Value} {rs : List ResultVar} {vs : List Value} (h : look g t = some v) (r : Res P L g rs vs) : Res P L g (.tmp t :: rs) (v :: vs)
  | cell {t T b : Nat} {v : Value} {rs : List ResultVar} {vs : List Value} (h : look g t = some (.pointer (some ⟨b, 0, none⟩)))
      (hv : ∀ w, Sat w L → (loadVar T ⟨b, 0, none⟩).run P w = .ok v w) (r : Res P L g rs vs) : Res P L g (.cell t T :: rs) (v :: vs)
def one : List Value → Value
  | [v] => v
  | vs => .tuple vs.toArray
theorem run_bind {α β : Type} (P : Program) (x : Sem α) (f : α → Sem β) (w : World) : (x >>= f).run P w = match x.run P w with
    | .ok a w' => (f a).run P w'
    | .halt h w' => .halt h w' := by
  show (Sem.bind x f).run P w = _
  induction x generalizing w with
  | pure a => rfl
  | load m a k ih =>
    simp only [Sem.bind, Sem.run]; split
    · exact ih _ _
    · split
      · exact ih _ _
      · rfl
  | store m a v k ih =>
    cases v <;> simp only [Sem.bind, Sem.run] <;> first
      | rfl
      | (split
         · split
           · rfl
           · exact ih _
         · split
           · exact ih _
           · rfl)
  | new o k ih => exact ih _ _
  | shape r k ih => exact ih _ _
  | freeze a n k ih => exact ih _
  | frozen a k ih => exact ih _ _
  | getObj r k ih => simp only [Sem.bind, Sem.run]; split <;> first | rfl | exact ih _ _
  | setObj r o k ih => simp only [Sem.bind, Sem.run]; split <;> first | rfl | exact ih _
  | choose q k ih => simp only [Sem.bind, Sem.run]; split <;> exact ih _ _
  | sys c k ih => exact ih _ _
  | program k ih => exact ih _ _
  | mark m k ih => exact ih _
  | halt h => rfl
end Go.Proofs.Sol

/- The walk's operations: one rule an operation. -/
namespace Go.Proofs.Sol
open Go

class UL (P : Program) (t : TypeId) (d : outParam TypeDesc) : Prop where
  out : P.underlying t = some d
class TI (P : Program) (t : TypeId) (s b : outParam Nat) : Prop where
  out : (P.info? t).map (fun i => (i.size, i.bytes)) = some (s, b)
class TZ (P : Program) (t : TypeId) (zs : outParam (List Value)) : Prop where
  out : (P.info? t).map (fun i => i.zero.map (fun z => z.cells)) = some (some zs.toArray)
class ZV (P : Program) (t : TypeId) (z : outParam Value) : Prop where
  out : (P.info? t).map (fun i => i.zero) = some (some z)
/-- A type of one cell. -/
class SC (P : Program) (t : TypeId) : Prop where
  out : (isAgg t).run P = fun w => .ok false w
class AG (P : Program) (t : TypeId) : Prop where
  out : (isAgg t).run P = fun w => .ok true w
class FO (P : Program) (s f : Nat) (off ty : outParam Nat) : Prop where
  out : ∃ fs, P.underlying s = some (.struct fs) ∧ (fs[f]?).map (fun d => (d.offset, d.type)) = some (off, ty) ∧ (P.info? ty).map (fun i => i.size == 0) = some false
class IsFn (P : Program) (f : FuncId) : Prop where
  out : ∃ fn, P.funcs[f]? = some fn ∧ (fn.name == "runtime.NumGoroutine") = false ∧ fn.body.isNone = false

/-- A block of cells. -/
def clf (b T : Nat) (vs : List Value) (lo hi : Nat) : HP := pt b (.cells vs.toArray T (lo, hi))
abbrev cl (b T : Nat) (vs : List Value) : HP := clf b T vs 0 0
def mp (b : Nat) (es : List MapEntry) (clock : Nat) : HP := pt b (.map es.toArray clock)
instance (b T : Nat) (vs : List Value) (lo hi : Nat) : Up (clf b T vs lo hi) := inferInstanceAs (Up (pt _ _))
instance (b : Nat) (es : List MapEntry) (clock : Nat) : Up (mp b es clock) := inferInstanceAs (Up (pt _ _))

class CG (L : List HP) (b : Nat) (T : outParam Nat) (vs : outParam (List Value)) (lo hi : outParam Nat) : Prop where
  out : ∀ w, Sat w L → w.heap[b]? = some (.cells vs.toArray T (lo, hi))
instance CG_here (L : List HP) (b T : Nat) (vs : List Value) (lo hi : Nat) : CG (clf b T vs lo hi :: L) b T vs lo hi :=
  ⟨fun _ s => s.cell⟩
instance (priority := 900) CG_next (L : List HP) (p : HP) (b T : Nat) (vs : List Value) (lo hi : Nat) [c : CG L b T vs lo hi] : CG (p :: L) b T vs lo hi :=
  ⟨fun _ s => c.out _ s.drop⟩
/-- The block b of L: what else, and how it is put back. -/
class CT (L : List HP) (b : Nat) (T : outParam Nat) (vs : outParam (List Value)) (lo hi : outParam Nat) (f : outParam (HP → List HP)) : Prop where
  out : ∃ R, Take L (clf b T vs lo hi) R ∧ ∀ p, ∀ h, stars (p :: R) h → stars (f p) h
instance CT_here (L : List HP) (b T : Nat) (vs : List Value) (lo hi : Nat) : CT (clf b T vs lo hi :: L) b T vs lo hi (fun p => p :: L) :=
  ⟨⟨L, Take.here, fun _ _ s => s⟩⟩
instance (priority := 900) CT_next (L : List HP) (q : HP) (b T : Nat) (vs : List Value) (lo hi : Nat) (f : HP → List HP) [c : CT L b T vs lo hi f] :
    CT (q :: L) b T vs lo hi (fun p => q :: f p) := by
  obtain ⟨R, t, h⟩ := c.out
  exact ⟨⟨q :: R, t.next, fun p h' s => stars_mono (h p) (stars_swap s)⟩⟩

section
variable {P : Program} {ops : Array Oper} {rest : List Oper} {n : NT} {l g : Env} {L M : List HP} {Q : QT} {d ty : Nat} {pos : String} {aft : Array Edge}

theorem run_pure {α : Type} (a : α) (w : World) : (pure a : Sem α).run P w = .ok a w := rfl
theorem run_value {s : Sem Value} {v : Value} {w w' : World} (h : s.run P w = .ok v w') : (do pure (Next.value (← s)) : Sem Next).run P w = .ok (.value v) w' := by
  rw [run_bind, h]; rfl
theorem run_skip {s : Sem Unit} {w w' : World} (h : s.run P w = .ok () w') : (do s; pure Next.skip : Sem Next).run P w = .ok .skip w' := by
  rw [run_bind, h]; rfl
theorem run_underlying {t : TypeId} {ds : TypeDesc} (u : UL P t ds) (w : World) : (underlying t).run P w = .ok ds w := by
  unfold underlying; rw [run_bind]; simp only [program, Sem.run]; rw [u.out]; rfl
theorem run_sizeOf {t s b : Nat} (u : TI P t s b) (w : World) : (sizeOf t).run P w = .ok s w := by
  have := u.out
  cases h : P.info? t with
  | none => rw [h] at this; cases this
  | some i =>
    rw [h] at this; simp at this
    unfold sizeOf typeInfo; rw [run_bind, run_bind]; simp only [program, Sem.run, h, run_pure]; rw [this.1]
theorem run_info {t s b : Nat} (u : TI P t s b) (w : World) : ∃ i, (typeInfo t).run P w = .ok i w ∧ i.size = s ∧ i.bytes = b ∧ P.info? t = some i := by
  have := u.out
  cases h : P.info? t with
  | none => rw [h] at this; cases this
  | some i =>
    rw [h] at this; simp at this
    exact ⟨i, by unfold typeInfo; rw [run_bind]; simp only [program, Sem.run, h, run_pure], this.1, this.2, rfl⟩
theorem run_zero {t : Nat} {zs : List Value} (u : TZ P t zs) (w : World) : ∃ z, (zeroValue t).run P w = .ok z w ∧ z.cells = zs.toArray := by
  have := u.out
  cases h : P.info? t with
  | none => rw [h] at this; cases this
  | some i =>
    rw [h] at this; simp at this
    obtain ⟨z, hz, hc⟩ := this
    exact ⟨z, by unfold zeroValue typeInfo; rw [run_bind, run_bind]; simp only [program, Sem.run, h, run_pure, hz], hc⟩
theorem run_zeroV {t : Nat} {z : Value} (u : ZV P t z) (w : World) : (zeroValue t).run P w = .ok z w := by
  have := u.out
  cases h : P.info? t with
  | none => rw [h] at this; cases this
  | some i =>
    rw [h] at this; simp at this
    unfold zeroValue typeInfo; rw [run_bind, run_bind]; simp only [program, Sem.run, h, run_pure, this]
theorem add_mk (b o k : Nat) : (⟨b, o, none⟩ : Addr).add k = ⟨b, o + k, none⟩ := by
  unfold Addr.add; split
  · simp [*]
  · rfl

/-- An operation that only looks. -/
def Y (P : Program) (n : NT) (l g : Env) (S : List HP) (o : Oper) (v : Value) : Prop := ∀ a, EnvOk n l g a → ∀ w, Sat w S → (execOp a.eval o).run P w = .ok (.value v) w
theorem J_pure {op : Op} {v : Value} (hv : Y P n l g L ⟨some d, op, ty, pos, aft, none⟩ v)
    (hd : Nat.blt d n.sz = true) (hn : look g d = none) (h : J P ops rest n ((d, v) :: l) g L Q) : J P ops (⟨some d, op, ty, pos, aft, none⟩ :: rest) n l g L Q := by
  intro a w e s
  refine wpL_plain rfl fun K hK => ?_
  unfold Oper.wp
  rw [hv a e w s, Oper.upon_value]
  exact hK _ _ (h _ _ (e.putl hd hn v) s)
/-- The same, with an answer that nobody keeps. -/
theorem J_pure0 {op : Op} {v : Value} (hv : ∀ a, EnvOk n l g a → ∀ w, Sat w L → (execOp a.eval ⟨none, op, ty, pos, aft, none⟩).run P w = .ok (.value v) w)
    (h : J P ops rest n l g L Q) : J P ops (⟨none, op, ty, pos, aft, none⟩ :: rest) n l g L Q := by
  intro a w e s
  refine wpL_plain rfl fun K hK => ?_
  unfold Oper.wp
  rw [hv a e w s, Oper.upon_value]
  exact hK _ _ (h _ _ e s)
theorem Y_move {x : Operand} {v : Value} (hx : ev l g x = some v) : Y P n l g L ⟨some d, .move x, ty, pos, aft, none⟩ (v) :=
  fun a e w _ => by simp only [execOp, e.eval hx]; rfl
theorem J_move {x : Operand} {v : Value} (hx : ev l g x = some v) (hd : Nat.blt d n.sz = true) (hn : look g d = none)
    (h : J P ops rest n ((d, v) :: l) g L Q) : J P ops (⟨some d, .move x, ty, pos, aft, none⟩ :: rest) n l g L Q :=
  J_pure (Y_move hx) hd hn h
theorem J_assign {x : Operand} {v : Value} (hx : ev l g x = some v) (hd : Nat.blt d n.sz = true) (hn : look l d = none)
    (h : J P ops rest n l ((d, v) :: g) L Q) : J P ops (⟨some d, .assign x, ty, pos, aft, none⟩ :: rest) n l g L Q := by
  intro a w e s
  refine wpL_plain rfl fun K hK => ?_
  unfold Oper.wp
  simp only [execOp, e.eval hx, run_pure, Oper.upon_value]
  exact hK _ _ (h _ _ (e.putg hd hn v) s)

/-- A guard. -/
theorem guard_wanted {a : Act} {o : Oper} {j dj : Nat} {want t : Bool} (e : EnvOk n l g a) (hg : o.guard = some (j, want)) (hj : (ops[j]?).bind (·.dst) = some dj)
    (hv : ev l g (.tmp dj) = some (.bool t)) (hd : Nat.blt dj n.sz = true) : Region.wanted o (yielded ops a.tmps) = (t == want) := by
  have h1 := e.eval hv
  have h2 : dj < a.tmps.size := by rw [e.size]; exact Nat.le_of_ble_eq_true hd
  simp only [Act.eval, Array.getD_eq_getD_getElem?] at h1
  rw [Array.getElem?_eq_getElem h2] at h1
  simp only [Option.getD_some] at h1
  simp only [Region.wanted, hg, yielded, hj, Option.bind_some, Array.getElem?_eq_getElem h2, h1]
  cases t <;> cases want <;> rfl
theorem J_guard {dst : Option Nat} {op : Op} {j dj : Nat} {want : Bool} (hj : (ops[j]?).bind (·.dst) = some dj) (hv : ev l g (.tmp dj) = some (.bool want)) (hd : Nat.blt dj n.sz = true)
    (h : J P ops (⟨dst, op, ty, pos, aft, none⟩ :: rest) n l g L Q) : J P ops (⟨dst, op, ty, pos, aft, some (j, want)⟩ :: rest) n l g L Q := by
  intro a w e s
  have hw := guard_wanted (o := ⟨dst, op, ty, pos, aft, some (j, want)⟩) e rfl hj hv hd
  have := h a w e s
  unfold wpL at *
  rw [hw, if_pos (by simp)]
  rw [if_pos (show Region.wanted ⟨dst, op, ty, pos, aft, none⟩ (yielded ops a.tmps) = true from rfl)] at this
  exact this
theorem J_guard_not {op : Op} {j dj : Nat} {want t : Bool} (hj : (ops[j]?).bind (·.dst) = some dj) (hv : ev l g (.tmp dj) = some (.bool t)) (hd : Nat.blt dj n.sz = true) (ht : (t == want) = false)
    (hd' : Nat.blt d n.sz = true) (hn : look g d = none)
    (h : J P ops rest n ((d, undef) :: l) g L Q) : J P ops (⟨some d, op, ty, pos, aft, some (j, want)⟩ :: rest) n l g L Q := by
  intro a w e s
  have hw := guard_wanted (o := ⟨some d, op, ty, pos, aft, some (j, want)⟩) e rfl hj hv hd
  unfold wpL
  rw [hw, ht]
  exact h _ _ (e.putl hd' hn undef) s
theorem J_guard_not0 {op : Op} {j dj : Nat} {want t : Bool} (hj : (ops[j]?).bind (·.dst) = some dj) (hv : ev l g (.tmp dj) = some (.bool t)) (hd : Nat.blt dj n.sz = true) (ht : (t == want) = false)
    (h : J P ops rest n l g L Q) : J P ops (⟨none, op, ty, pos, aft, some (j, want)⟩ :: rest) n l g L Q := by
  intro a w e s
  have hw := guard_wanted (o := ⟨none, op, ty, pos, aft, some (j, want)⟩) e rfl hj hv hd
  unfold wpL
  rw [hw, ht]
  exact h _ _ e s
theorem guard_undef {a : Act} {o : Oper} {j dj : Nat} {want : Bool} (e : EnvOk n l g a) (hg : o.guard = some (j, want)) (hj : (ops[j]?).bind (·.dst) = some dj)
    (hv : ev l g (.tmp dj) = some undef) (hd : Nat.blt dj n.sz = true) : Region.wanted o (yielded ops a.tmps) = false := by
  have h1 := e.eval hv
  have h2 : dj < a.tmps.size := by rw [e.size]; exact Nat.le_of_ble_eq_true hd
  simp only [Act.eval, Array.getD_eq_getD_getElem?] at h1
  rw [Array.getElem?_eq_getElem h2] at h1
  simp only [Option.getD_some] at h1
  simp only [Region.wanted, hg, yielded, hj, Option.bind_some, Array.getElem?_eq_getElem h2, h1]
  cases want <;> rfl
theorem J_guard_notU {op : Op} {j dj : Nat} {want : Bool} (hj : (ops[j]?).bind (·.dst) = some dj) (hv : ev l g (.tmp dj) = some undef) (hd : Nat.blt dj n.sz = true)
    (hd' : Nat.blt d n.sz = true) (hn : look g d = none)
    (h : J P ops rest n ((d, undef) :: l) g L Q) : J P ops (⟨some d, op, ty, pos, aft, some (j, want)⟩ :: rest) n l g L Q := by
  intro a w e s
  have hw := guard_undef (o := ⟨some d, op, ty, pos, aft, some (j, want)⟩) e rfl hj hv hd
  unfold wpL
  rw [hw]
  exact h _ _ (e.putl hd' hn undef) s
/-- A guard that isn't decided: both ways; the temporary's value is known from here on. -/
theorem J_guard_split {dst : Option Nat} {op : Op} {j dj : Nat} {want t : Bool} (hj : (ops[j]?).bind (·.dst) = some dj) (hv : ev l g (.tmp dj) = some (.bool t))
    (h1 : t = true → J P ops (⟨dst, op, ty, pos, aft, some (j, want)⟩ :: rest) n ((dj, .bool true) :: l) g L Q)
    (h2 : t = false → J P ops (⟨dst, op, ty, pos, aft, some (j, want)⟩ :: rest) n ((dj, .bool false) :: l) g L Q) :
    J P ops (⟨dst, op, ty, pos, aft, some (j, want)⟩ :: rest) n l g L Q := by
  intro a w e s
  have _ := hj
  have key : ∀ u, t = u → EnvOk n ((dj, .bool u) :: l) g a := by
    rintro u rfl
    refine ⟨e.size, e.defers, fun x v hx => ?_, e.g⟩
    simp only [look] at hx
    by_cases hb : Nat.beq dj x = true
    · rw [hb] at hx; simp at hx; subst hx
      have := Nat.eq_of_beq_eq_true hb; subst this
      exact e.eval hv
    · rw [Bool.not_eq_true] at hb; rw [hb] at hx; exact e.l x v hx
  cases ht : t with
  | true => exact h1 ht a w (key _ ht) s
  | false => exact h2 ht a w (key _ ht) s

theorem Y_pick_true {c x y : Operand} {v : Value} (hc : ev l g c = some (.bool true)) (hx : ev l g x = some v) : Y P n l g L ⟨some d, .pick c x y, ty, pos, aft, none⟩ (v) :=
  fun a e w _ => by simp only [execOp, e.eval hc, asBool]; rw [run_bind, run_pure]; simp only [if_true, e.eval hx]; rfl
theorem J_pick_true {c x y : Operand} {v : Value} (hc : ev l g c = some (.bool true)) (hx : ev l g x = some v) (hd : Nat.blt d n.sz = true) (hn : look g d = none)
    (h : J P ops rest n ((d, v) :: l) g L Q) : J P ops (⟨some d, .pick c x y, ty, pos, aft, none⟩ :: rest) n l g L Q :=
  J_pure (Y_pick_true hc hx) hd hn h
theorem Y_pick_false {c x y : Operand} {v : Value} (hc : ev l g c = some (.bool false)) (hx : ev l g y = some v) : Y P n l g L ⟨some d, .pick c x y, ty, pos, aft, none⟩ (v) :=
  fun a e w _ => by simp only [execOp, e.eval hc, asBool]; rw [run_bind, run_pure]; simp only [Bool.false_eq_true, if_false, e.eval hx]; rfl
theorem J_pick_false {c x y : Operand} {v : Value} (hc : ev l g c = some (.bool false)) (hx : ev l g y = some v) (hd : Nat.blt d n.sz = true) (hn : look g d = none)
    (h : J P ops rest n ((d, v) :: l) g L Q) : J P ops (⟨some d, .pick c x y, ty, pos, aft, none⟩ :: rest) n l g L Q :=
  J_pure (Y_pick_false hc hx) hd hn h
theorem Y_un_not {T : Nat} {x : Operand} {b : Bool} (hx : ev l g x = some (.bool b)) : Y P n l g L ⟨some d, .unOp .not T x, ty, pos, aft, none⟩ (.bool (!b)) :=
  fun a e w _ => by simp only [execOp, e.eval hx, Op.unary]; rfl
theorem J_un_not {T : Nat} {x : Operand} {b : Bool} (hx : ev l g x = some (.bool b)) (hd : Nat.blt d n.sz = true) (hn : look g d = none)
    (h : J P ops rest n ((d, .bool (!b)) :: l) g L Q) : J P ops (⟨some d, .unOp .not T x, ty, pos, aft, none⟩ :: rest) n l g L Q :=
  J_pure (Y_un_not hx) hd hn h
/-- Comparisons of integers. -/
def cmpI : BinOp → Int → Int → Option Bool
  | .eql, x, y => some (x == y)
  | .neq, x, y => some (x != y)
  | .lss, x, y => some (decide (x < y))
  | .leq, x, y => some (decide (x ≤ y))
  | .gtr, x, y => some (decide (x > y))
  | .geq, x, y => some (decide (x ≥ y))
  | _, _, _ => none
theorem Y_cmp {op : BinOp} {T T' : Nat} {x y : Operand} {k : IntKind} {i j : Int} {b : Bool} (hx : ev l g x = some (.int k i)) (hy : ev l g y = some (.int k j))
    (hb : cmpI op i j = some b) : Y P n l g L ⟨some d, .binOp op T x y T', ty, pos, aft, none⟩ (.bool b) :=
  fun a e w _ => by
    simp only [execOp, e.eval hx, e.eval hy]
    refine run_value ?_
    rw [run_bind]
    cases op <;> simp only [cmpI] at hb <;> first
      | (cases hb; done)
      | (cases hb; simp [eqGuard, binOp, Op.intCmp]; done)
theorem Y_cmpT {op : BinOp} {T T' : Nat} {x y : Operand} {k : IntKind} {i j : Int} {b : Bool} (hx : ev l g x = some (.int k i)) (hy : ev l g y = some (.int k j))
    (hb : cmpI op i j = some b) (h : b = true) : Y P n l g L ⟨some d, .binOp op T x y T', ty, pos, aft, none⟩ (.bool true) := h ▸ Y_cmp hx hy hb
theorem Y_cmpF {op : BinOp} {T T' : Nat} {x y : Operand} {k : IntKind} {i j : Int} {b : Bool} (hx : ev l g x = some (.int k i)) (hy : ev l g y = some (.int k j))
    (hb : cmpI op i j = some b) (h : b = false) : Y P n l g L ⟨some d, .binOp op T x y T', ty, pos, aft, none⟩ (.bool false) := h ▸ Y_cmp hx hy hb
theorem J_cmp {op : BinOp} {T T' : Nat} {x y : Operand} {k : IntKind} {i j : Int} {b : Bool} (hx : ev l g x = some (.int k i)) (hy : ev l g y = some (.int k j))
    (hb : cmpI op i j = some b) (hd : Nat.blt d n.sz = true) (hn : look g d = none)
    (h : J P ops rest n ((d, .bool b) :: l) g L Q) : J P ops (⟨some d, .binOp op T x y T', ty, pos, aft, none⟩ :: rest) n l g L Q :=
  J_pure (Y_cmp hx hy hb) hd hn h
/-- Arithmetic of integers. -/
def ariI (k : IntKind) : BinOp → Int → Int → Option Int
  | .add, x, y => some (k.wrap (x + y))
  | .sub, x, y => some (k.wrap (x - y))
  | .mul, x, y => some (k.wrap (x * y))
  | _, _, _ => none
theorem Y_ari {op : BinOp} {T T' : Nat} {x y : Operand} {k : IntKind} {i j r : Int} (hx : ev l g x = some (.int k i)) (hy : ev l g y = some (.int k j))
    (hb : ariI k op i j = some r) : Y P n l g L ⟨some d, .binOp op T x y T', ty, pos, aft, none⟩ (.int k r) :=
  fun a e w _ => by
    simp only [execOp, e.eval hx, e.eval hy]
    refine run_value ?_
    rw [run_bind]
    cases op <;> simp only [ariI] at hb <;> first
      | (cases hb; done)
      | (cases hb; simp [eqGuard, binOp, Op.intArith]; done)
theorem J_ari {op : BinOp} {T T' : Nat} {x y : Operand} {k : IntKind} {i j r : Int} (hx : ev l g x = some (.int k i)) (hy : ev l g y = some (.int k j))
    (hb : ariI k op i j = some r) (hd : Nat.blt d n.sz = true) (hn : look g d = none)
    (h : J P ops rest n ((d, .int k r) :: l) g L Q) : J P ops (⟨some d, .binOp op T x y T', ty, pos, aft, none⟩ :: rest) n l g L Q :=
  J_pure (Y_ari hx hy hb) hd hn h
theorem wrap64_in {x : Int} (h : -9223372036854775808 ≤ x ∧ x < 9223372036854775808) : IntKind.i64.wrap x = x := IntWalk.i64_in x ⟨h.1, by omega⟩
/-- The same on int, where nothing wraps. -/
def ariZ : BinOp → Int → Int → Option Int
  | .add, x, y => some (x + y)
  | .sub, x, y => some (x - y)
  | .mul, x, y => some (x * y)
  | _, _, _ => none
theorem Y_ari64 {op : BinOp} {T T' : Nat} {x y : Operand} {i j r : Int} (hx : ev l g x = some (.int .i64 i)) (hy : ev l g y = some (.int .i64 j))
    (hb : ariZ op i j = some r) (hr : -9223372036854775808 ≤ r ∧ r < 9223372036854775808) : Y P n l g L ⟨some d, .binOp op T x y T', ty, pos, aft, none⟩ (.int .i64 r) :=
  Y_ari (r := r) hx hy (by cases op <;> simp only [ariZ] at hb <;> first | (cases hb; done) | (cases hb; simp only [ariI]; rw [wrap64_in hr]))
theorem J_ari64 {op : BinOp} {T T' : Nat} {x y : Operand} {i j r : Int} (hx : ev l g x = some (.int .i64 i)) (hy : ev l g y = some (.int .i64 j))
    (hb : ariZ op i j = some r) (hr : -9223372036854775808 ≤ r ∧ r < 9223372036854775808) (hd : Nat.blt d n.sz = true) (hn : look g d = none)
    (h : J P ops rest n ((d, .int .i64 r) :: l) g L Q) : J P ops (⟨some d, .binOp op T x y T', ty, pos, aft, none⟩ :: rest) n l g L Q :=
  J_pure (Y_ari64 hx hy hb hr) hd hn h
theorem Y_nilCheck {x : Operand} {p : Addr} (hx : ev l g x = some (.pointer (some p))) : Y P n l g L ⟨some d, .nilCheck x, ty, pos, aft, none⟩ (.pointer (some p)) :=
  fun a e w _ => by simp only [execOp, e.eval hx]; rfl
theorem J_nilCheck {x : Operand} {p : Addr} (hx : ev l g x = some (.pointer (some p))) (hd : Nat.blt d n.sz = true) (hn : look g d = none)
    (h : J P ops rest n ((d, .pointer (some p)) :: l) g L Q) : J P ops (⟨some d, .nilCheck x, ty, pos, aft, none⟩ :: rest) n l g L Q :=
  J_pure (Y_nilCheck hx) hd hn h
theorem Y_nilCheckF {x : Operand} {f : FuncId} {xs ys : Array Value} (hx : ev l g x = some (.func (.func f) xs ys)) : Y P n l g L ⟨some d, .nilCheck x, ty, pos, aft, none⟩ (.func (.func f) xs ys) :=
  fun a e w _ => by simp only [execOp, e.eval hx]; rfl
theorem J_nilCheckF {x : Operand} {f : FuncId} {xs ys : Array Value} (hx : ev l g x = some (.func (.func f) xs ys)) (hd : Nat.blt d n.sz = true) (hn : look g d = none)
    (h : J P ops rest n ((d, .func (.func f) xs ys) :: l) g L Q) : J P ops (⟨some d, .nilCheck x, ty, pos, aft, none⟩ :: rest) n l g L Q :=
  J_pure (Y_nilCheckF hx) hd hn h
theorem run_fieldAt {s f off fty b o : Nat} (u : FO P s f off fty) (w : World) : (Instr.fieldAt s (.pointer (some ⟨b, o, none⟩)) f).run P w = .ok (.pointer (some ⟨b, o + off, none⟩)) w := by
  obtain ⟨fs, h1, h2, h6⟩ := u.out
  obtain ⟨fd, h2, h3, h4⟩ : ∃ fd, fs[f]? = some fd ∧ fd.offset = off ∧ fd.type = fty := by
    cases e : fs[f]? with
    | none => rw [e] at h2; cases h2
    | some fd => rw [e] at h2; simp at h2; exact ⟨fd, rfl, h2⟩
  obtain ⟨i, h5, h6⟩ : ∃ i, P.info? fty = some i ∧ (i.size == 0) = false := by
    cases e : P.info? fty with
    | none => rw [e] at h6; cases h6
    | some i => rw [e] at h6; simp at h6; exact ⟨i, rfl, by simpa using h6⟩
  unfold Instr.fieldAt
  rw [run_bind, run_underlying ⟨h1⟩]
  simp only [h2]
  rw [run_bind]; simp only [Instr.sureAddr, run_pure]
  rw [run_bind]; unfold fieldPlace
  rw [run_bind]; simp only [h4]
  rw [run_sizeOf (s := i.size) (b := i.bytes) ⟨by rw [h5]; rfl⟩]
  have : ¬ i.size = 0 := by simpa using h6
  simp only [if_neg this, run_pure, add_mk, h3]
theorem Y_fieldAddr {s f off fty b o o' : Nat} {x : Operand} [u : FO P s f off fty] (hx : ev l g x = some (.pointer (some ⟨b, o, none⟩))) (ho : o + off = o')
    : Y P n l g L ⟨some d, .fieldAddr s x f, ty, pos, aft, none⟩ (.pointer (some ⟨b, o', none⟩)) :=
  fun a e w _ => by simp only [execOp, e.eval hx]; exact run_value (by rw [run_fieldAt u, ho])
theorem J_fieldAddr {s f off fty b o o' : Nat} {x : Operand} [u : FO P s f off fty] (hx : ev l g x = some (.pointer (some ⟨b, o, none⟩))) (ho : o + off = o')
    (hd : Nat.blt d n.sz = true) (hn : look g d = none)
    (h : J P ops rest n ((d, .pointer (some ⟨b, o', none⟩)) :: l) g L Q) : J P ops (⟨some d, .fieldAddr s x f, ty, pos, aft, none⟩ :: rest) n l g L Q :=
  J_pure (Y_fieldAddr hx ho) hd hn h
theorem Y_fieldAddr0 {s f off fty b : Nat} {x : Operand} [u : FO P s f off fty] (hx : ev l g x = some (.pointer (some ⟨b, 0, none⟩)))
    : Y P n l g L ⟨some d, .fieldAddr s x f, ty, pos, aft, none⟩ (.pointer (some ⟨b, off, none⟩)) :=
  Y_fieldAddr hx (Nat.zero_add _)
theorem J_fieldAddr0 {s f off fty b : Nat} {x : Operand} [u : FO P s f off fty] (hx : ev l g x = some (.pointer (some ⟨b, 0, none⟩)))
    (hd : Nat.blt d n.sz = true) (hn : look g d = none)
    (h : J P ops rest n ((d, .pointer (some ⟨b, off, none⟩)) :: l) g L Q) : J P ops (⟨some d, .fieldAddr s x f, ty, pos, aft, none⟩ :: rest) n l g L Q :=
  J_pure (Y_fieldAddr0 hx) hd hn h
theorem run_load1 {w : World} {b o T lo hi : Nat} {vs : List Value} {v : Value} (h : w.heap[b]? = some (.cells vs.toArray T (lo, hi))) (hv : vs[o]? = some v) :
    (Go.load ⟨b, o, none⟩).run P w = .ok v w := by
  have : w.cell? ⟨b, o, none⟩ = some v := by simp [World.cell?, h, hv]
  simp [Go.load, Sem.run, this]
theorem run_loadVar1 {w : World} {t b o T lo hi : Nat} {vs : List Value} {v : Value} (u : SC P t) (h : w.heap[b]? = some (.cells vs.toArray T (lo, hi))) (hv : vs[o]? = some v) :
    (loadVar t ⟨b, o, none⟩).run P w = .ok v w := by
  unfold loadVar; rw [run_bind, u.out]
  simp only [Bool.false_eq_true, if_false]
  exact run_load1 h hv
theorem Y_load {t b o T lo hi : Nat} {x : Operand} {vs : List Value} {v : Value} [u : SC P t] (hx : ev l g x = some (.pointer (some ⟨b, o, none⟩))) [c : CG L b T vs lo hi] (hv : nth vs o = some v)
    : Y P n l g L ⟨some d, .load t x, ty, pos, aft, none⟩ (v) :=
  fun a e w s => by
    simp only [execOp, e.eval hx]
    refine run_value ?_
    unfold Instr.loadAt; rw [run_bind]; simp only [Instr.sureAddr, run_pure]
    exact run_loadVar1 u (c.out _ s) (by rw [← nth_eq]; exact hv)
theorem J_load {t b o T lo hi : Nat} {x : Operand} {vs : List Value} {v : Value} [u : SC P t] (hx : ev l g x = some (.pointer (some ⟨b, o, none⟩))) [c : CG L b T vs lo hi] (hv : nth vs o = some v)
    (hd : Nat.blt d n.sz = true) (hn : look g d = none)
    (h : J P ops rest n ((d, v) :: l) g L Q) : J P ops (⟨some d, .load t x, ty, pos, aft, none⟩ :: rest) n l g L Q :=
  J_pure (Y_load hx hv) hd hn h
/-- Not a struct, an array or a tuple. -/
def single : Value → Bool
  | .agg _ | .tuple _ => false
  | _ => true
theorem single_cells {v : Value} (h : single v = true) : v.cells = #[v] := by cases v <;> first | rfl | cases h
theorem setIf {w : World} {b T : Nat} {vs vs' : List Value} {fr : Nat × Nat} (f : Obj → Obj) (h : w.heap[b]? = some (.cells vs.toArray T fr)) (hf : f (.cells vs.toArray T fr) = .cells vs'.toArray T fr) :
    w.heap.modify b f = w.heap.setIfInBounds b (.cells vs'.toArray T fr) := by
  apply Array.ext_getElem?
  intro i
  simp only [Array.getElem?_modify, Array.getElem?_setIfInBounds]
  by_cases hi : b = i
  · subst hi
    have hlt : b < w.heap.size := by
      rcases Nat.lt_or_ge b w.heap.size with hh | hh
      · exact hh
      · simp [hh] at h
    rw [if_pos rfl, if_pos rfl, h, if_pos hlt, Option.map_some, hf]
  · simp [hi]
theorem run_store1 {w : World} {b o T : Nat} {vs : List Value} {v : Value} (h : w.heap[b]? = some (.cells vs.toArray T (0, 0))) (ho : o < vs.length) (hc : single v = true) :
    (Go.store ⟨b, o, none⟩ v).run P w = .ok () { w with heap := w.heap.setIfInBounds b (.cells (vs.set o v).toArray T (0, 0)) } := by
  have h1 : w.cell? ⟨b, o, none⟩ = some vs[o] := by simp [World.cell?, h, ho]
  have h2 : w.frozen? ⟨b, o, none⟩ = false := by simp [World.frozen?, h]
  have h3 : w.setCell ⟨b, o, none⟩ v = { w with heap := w.heap.setIfInBounds b (.cells (vs.set o v).toArray T (0, 0)) } := by
    unfold World.setCell
    rw [setIf (vs' := vs.set o v) _ h (by simp)]
  unfold Go.store
  cases v <;> first | (cases hc; done) | (simp only [Sem.run, h1, h2, h3]; rfl)
def setAll {α : Type} (vs : List α) (o : Nat) (us : List α) : List α := vs.take o ++ us ++ vs.drop (o + us.length)
theorem setAll_nil {α : Type} (vs : List α) (o : Nat) : setAll vs o [] = vs := by simp [setAll]
theorem setAll_cons {α : Type} {vs : List α} {o : Nat} {u : α} {us : List α} (h : o < vs.length) : setAll (vs.set o u) (o + 1) us = setAll vs o (u :: us) := by
  unfold setAll
  apply List.ext_getElem?
  intro i
  simp only [List.take_set, List.drop_set, List.length_cons, List.append_assoc]
  rw [if_pos (by omega)]
  rw [List.take_succ_eq_append_getElem h]
  have em : min o vs.length = o := by omega
  have e : (vs.take o ++ [vs[o]]).set o u = vs.take o ++ [u] := by
    rw [List.set_append_right _ _ (by rw [List.length_take, em]; exact Nat.le_refl _)]
    have : o - (vs.take o).length = 0 := by rw [List.length_take, em]; exact Nat.sub_self _
    rw [this]; rfl
  rw [e]
  have e2 : o + 1 + us.length = o + (us.length + 1) := by omega
  rw [e2, List.append_assoc]; rfl
theorem length_setAll {α : Type} {vs : List α} {o : Nat} {us : List α} (h : o + us.length ≤ vs.length) : (setAll vs o us).length = vs.length := by
  simp [setAll]; omega
theorem setSame {w : World} {b : Nat} {o : Obj} (h : w.heap[b]? = some o) : { w with heap := w.heap.setIfInBounds b o } = w := by
  have : w.heap.setIfInBounds b o = w.heap := by
    apply Array.ext_getElem?
    intro i
    simp only [Array.getElem?_setIfInBounds]
    by_cases hi : b = i
    · subst hi; rw [if_pos rfl]; split
      · exact h.symm
      · rename_i hn; simp at hn; simp [hn] at h
    · simp [hi]
  rw [this]
theorem setSet {w : World} {b : Nat} {o o' : Obj} : ({ { w with heap := w.heap.setIfInBounds b o } with heap := ({ w with heap := w.heap.setIfInBounds b o } : World).heap.setIfInBounds b o' } : World) = { w with heap := w.heap.setIfInBounds b o' } := by
  simp
theorem getSet {w : World} {b : Nat} {o o' : Obj} (h : w.heap[b]? = some o) : (w.heap.setIfInBounds b o')[b]? = some o' := by
  rcases Nat.lt_or_ge b w.heap.size with hh | hh
  · simp [hh]
  · simp [hh] at h
theorem run_storeCells {us : List Value} {w : World} {b o T k : Nat} {vs : List Value} (h : w.heap[b]? = some (.cells vs.toArray T (0, 0))) (ho : o + k + us.length ≤ vs.length) (hc : us.all single = true) :
    (storeCells ⟨b, o, none⟩ us k).run P w = .ok () { w with heap := w.heap.setIfInBounds b (.cells (setAll vs (o + k) us).toArray T (0, 0)) } := by
  induction us generalizing w vs k with
  | nil => simp only [storeCells, run_pure, setAll_nil]; rw [setSame h]
  | cons u us ih =>
    simp only [List.all_cons, Bool.and_eq_true] at hc
    simp only [List.length_cons] at ho
    unfold storeCells
    rw [run_bind, add_mk, run_store1 h (by omega) hc.1]
    simp only []
    rw [ih (vs := vs.set (o + k) u) (getSet h) (by simp; omega) hc.2, setSet]
    have : o + (k + 1) = o + k + 1 := by omega
    rw [this, setAll_cons (by omega)]
theorem run_storeVar {w : World} {t b o T s bs : Nat} {vs : List Value} {v : Value} {us : List Value} (u : TI P t s bs) (hv : v.cells = us.toArray) (hs : us.length = s) (h : w.heap[b]? = some (.cells vs.toArray T (0, 0)))
    (ho : o + us.length ≤ vs.length) (hc : us.all single = true) :
    (storeVar t ⟨b, o, none⟩ v).run P w = .ok () { w with heap := w.heap.setIfInBounds b (.cells (setAll vs o us).toArray T (0, 0)) } := by
  unfold storeVar
  rw [run_bind, run_sizeOf u]
  simp only [hv, List.size_toArray, hs]
  rw [if_neg (by simp)]
  have := run_storeCells (P := P) (k := 0) h (by omega) hc
  simpa using this
/-- A store. -/
theorem J_storeU {t b o T s bs : Nat} {x y : Operand} {vs us vs' : List Value} {v : Value} {f : HP → List HP} [u : TI P t s bs] (hx : ev l g x = some (.pointer (some ⟨b, o, none⟩))) (hy : ev l g y = some v)
    [c : CT L b T vs 0 0 f] (hv : v.cells = us.toArray) (hs : us.length = s) (ho : o + us.length ≤ vs.length) (hc : us.all single = true) (hvs : setAll vs o us = vs')
    (h : J P ops rest n l g (f (cl b T vs')) Q) : J P ops (⟨none, .store t x y, ty, pos, aft, none⟩ :: rest) n l g L Q := by
  intro a w e sa
  obtain ⟨R, tk, bk⟩ := c.out
  have hb := (sa.take tk).cell
  refine wpL_plain rfl fun K hK => ?_
  unfold Oper.wp
  simp only [execOp, e.eval hx, e.eval hy]
  rw [run_skip (w' := { w with heap := w.heap.setIfInBounds b (.cells vs'.toArray T (0, 0)) }), Oper.upon_skip]
  · refine hK _ _ (h _ _ e ?_)
    exact bk _ _ ((sa.take tk).set (.cells vs'.toArray T (0, 0)) rfl)
  · unfold Instr.storeAt
    rw [run_bind]; simp only [Instr.sureAddr, run_pure]
    rw [run_storeVar u hv hs hb ho hc, hvs]
theorem setAll_one {vs vs' : List Value} {o : Nat} {v : Value} (h : setL vs o v = some vs') : setAll vs o [v] = vs' ∧ o + 1 ≤ vs.length := by
  obtain ⟨h1, h2⟩ := setL_eq h
  subst h2
  rw [← setAll_cons h1, setAll_nil]
  exact ⟨rfl, h1⟩
theorem J_store {t b o T bs : Nat} {x y : Operand} {vs vs' : List Value} {v : Value} {f : HP → List HP} [u : TI P t 1 bs] (hx : ev l g x = some (.pointer (some ⟨b, o, none⟩))) (hy : ev l g y = some v)
    [c : CT L b T vs 0 0 f] (hv : single v = true) (hvs : setL vs o v = some vs')
    (h : J P ops rest n l g (f (cl b T vs')) Q) : J P ops (⟨none, .store t x y, ty, pos, aft, none⟩ :: rest) n l g L Q :=
  J_storeU (us := [v]) hx hy (by rw [single_cells hv]) rfl (setAll_one hvs).2 (by simp [hv]) (setAll_one hvs).1 h
/-- Literal lists: several cells set. -/
def setLs {α : Type} : List α → Nat → List α → Option (List α)
  | vs, _, [] => some vs
  | vs, o, u :: us => match setL vs o u with
    | some vs' => setLs vs' (Nat.succ o) us
    | none => none
theorem setLs_eq {α : Type} {us : List α} {vs : List α} {o : Nat} {vs' : List α} (h : setLs vs o us = some vs') : setAll vs o us = vs' ∧ (us ≠ [] → o + us.length ≤ vs.length) := by
  induction us generalizing vs o with
  | nil => simp [setLs] at h; subst h; exact ⟨setAll_nil _ _, by simp⟩
  | cons u us ih =>
    simp only [setLs] at h
    cases e : setL vs o u with
    | none => rw [e] at h; cases h
    | some ws =>
      rw [e] at h
      obtain ⟨h1, h2⟩ := setL_eq e
      obtain ⟨h3, h4⟩ := ih h
      subst h2
      refine ⟨by rw [← setAll_cons h1]; exact h3, fun _ => ?_⟩
      simp only [List.length_cons]
      by_cases hu : us = []
      · subst hu; simp; omega
      · have := h4 hu; simp at this; omega
theorem J_storeA {t b o T s bs : Nat} {x y : Operand} {vs us vs' : List Value} {f : HP → List HP} [u : TI P t s bs] (hx : ev l g x = some (.pointer (some ⟨b, o, none⟩))) (hy : ev l g y = some (.agg us.toArray))
    [c : CT L b T vs 0 0 f] (hne : us.isEmpty = false) (hs : us.length = s) (hc : us.all single = true) (hvs : setLs vs o us = some vs')
    (h : J P ops rest n l g (f (cl b T vs')) Q) : J P ops (⟨none, .store t x y, ty, pos, aft, none⟩ :: rest) n l g L Q :=
  J_storeU (us := us) hx hy rfl hs ((setLs_eq hvs).2 (by intro e; subst e; simp at hne)) hc (setLs_eq hvs).1 h

/-- New variables. -/
theorem J_new {op : Op} {T : Nat} {vs : List Value} (hv : ∀ a, EnvOk n l g a → ∀ w, Sat w L → (execOp a.eval ⟨some d, op, ty, pos, aft, none⟩).run P w = .ok (.value (.pointer (some ⟨w.heap.size, 0, none⟩))) (w.alloc (.cells vs.toArray T)))
    (hd : Nat.blt d n.sz = true) (hn : look l d = none) (h : ∀ b, J P ops rest n l ((d, .pointer (some ⟨b, 0, none⟩)) :: g) (cl b T vs :: L) Q) : J P ops (⟨some d, op, ty, pos, aft, none⟩ :: rest) n l g L Q := by
  intro a w e s
  refine wpL_plain rfl fun K hK => ?_
  unfold Oper.wp
  rw [hv a e w s, Oper.upon_value]
  exact hK _ _ (h w.heap.size _ _ (e.putg hd hn _) (s.alloc _))
theorem J_alloc {T : Nat} {vs : List Value} [u : TZ P T vs] (hd : Nat.blt d n.sz = true) (hn : look l d = none) (h : ∀ b, J P ops rest n l ((d, .pointer (some ⟨b, 0, none⟩)) :: g) (cl b T vs :: L) Q) :
    J P ops (⟨some d, .alloc T, ty, pos, aft, none⟩ :: rest) n l g L Q :=
  J_new (fun a e w s => by
    have _ := e
    have _ := s
    simp only [execOp]
    refine run_value ?_
    obtain ⟨z, hz, hc⟩ := run_zero u w
    unfold Instr.alloc; rw [run_bind, hz]
    simp only []
    rw [run_bind]; unfold newVar newRow; rw [run_bind]; simp only [newObj, Sem.run, run_pure, hc]; rfl) hd hn h
theorem J_boxU {T : Nat} {x : Operand} {v : Value} {vs : List Value} (hx : ev l g x = some v) (hv : v.cells = vs.toArray) (hd : Nat.blt d n.sz = true) (hn : look l d = none) (h : ∀ b, J P ops rest n l ((d, .pointer (some ⟨b, 0, none⟩)) :: g) (cl b T vs :: L) Q) :
    J P ops (⟨some d, .box T x, ty, pos, aft, none⟩ :: rest) n l g L Q :=
  J_new (fun a e w s => by
    have _ := s
    simp only [execOp, e.eval hx]
    refine run_value ?_
    unfold Instr.box newVar newRow; rw [run_bind, run_bind]; simp only [newObj, Sem.run, run_pure, hv]; rfl) hd hn h
theorem J_box {T : Nat} {x : Operand} {v : Value} (hx : ev l g x = some v) (hv : single v = true) (hd : Nat.blt d n.sz = true) (hn : look l d = none) (h : ∀ b, J P ops rest n l ((d, .pointer (some ⟨b, 0, none⟩)) :: g) (cl b T [v] :: L) Q) :
    J P ops (⟨some d, .box T x, ty, pos, aft, none⟩ :: rest) n l g L Q := J_boxU hx (by rw [single_cells hv]) hd hn h
theorem J_boxA {T : Nat} {x : Operand} {vs : List Value} (hx : ev l g x = some (.agg vs.toArray)) (hd : Nat.blt d n.sz = true) (hn : look l d = none) (h : ∀ b, J P ops rest n l ((d, .pointer (some ⟨b, 0, none⟩)) :: g) (cl b T vs :: L) Q) :
    J P ops (⟨some d, .box T x, ty, pos, aft, none⟩ :: rest) n l g L Q := J_boxU hx rfl hd hn h

/-- Calls. -/
theorem run_call {f : FuncId} {args : Array Operand} {at_ : Array TypeId} {a : Act} {vs : List Value} [u : IsFn P f] (e : EnvOk n l g a) (ha : evl l g args.toList = some vs) (dst : Option Nat) (w : World) :
    (execOp a.eval ⟨dst, .call ⟨.value (.func f), args, at_⟩, ty, pos, aft, none⟩).run P w = .ok (.enter f vs.toArray) w := by
  obtain ⟨fn, h1, h2, h3⟩ := u.out
  have h4 : args.map a.eval = vs.toArray := by
    apply Array.ext'; rw [Array.toList_map]; exact e.evall ha
  simp only [execOp]
  rw [run_bind]
  simp only [resolve, Act.eval]
  simp only [run_pure, Deferred.ofValue, invoke, callFunc]
  rw [run_bind]
  simp only [program, Sem.run, h1, h2, h3, Bool.false_eq_true, if_false, run_pure, h4]
  simp
theorem J_call {f : FuncId} {args : Array Operand} {at_ : Array TypeId} {vs : List Value} {post : Value → World → Prop} [u : IsFn P f] (ha : evl l g args.toList = some vs) (c : Fn P f vs L post) (hd : Nat.blt d n.sz = true) (hn : look g d = none)
    (h : ∀ v w, post v w → JW P ops rest n ((d, v) :: l) g w Q) : J P ops (⟨some d, .call ⟨.value (.func f), args, at_⟩, ty, pos, aft, none⟩ :: rest) n l g L Q := by
  intro a w e s
  refine wpL_plain rfl fun K hK => ?_
  unfold Oper.wp
  rw [run_call e ha, Oper.upon_enter]
  refine (c w s).mono ?_
  rintro _ w' ⟨v, rfl, hp⟩
  exact hK _ _ (h v w' hp _ (e.putl hd hn v))
theorem J_call0 {f : FuncId} {args : Array Operand} {at_ : Array TypeId} {vs : List Value} {post : Value → World → Prop} [u : IsFn P f] (ha : evl l g args.toList = some vs) (c : Fn P f vs L post)
    (h : ∀ v w, post v w → JW P ops rest n l g w Q) : J P ops (⟨none, .call ⟨.value (.func f), args, at_⟩, ty, pos, aft, none⟩ :: rest) n l g L Q := by
  intro a w e s
  refine wpL_plain rfl fun K hK => ?_
  unfold Oper.wp
  rw [run_call e ha, Oper.upon_enter]
  refine (c w s).mono ?_
  rintro _ w' ⟨v, rfl, hp⟩
  exact hK _ _ (h v w' hp _ e)
theorem Y_extract {x : Operand} {i : Nat} {vs : List Value} {v : Value} (hx : ev l g x = some (.tuple vs.toArray)) (hv : nth vs i = some v) : Y P n l g L ⟨some d, .extract x i, ty, pos, aft, none⟩ (v) :=
  fun a e w _ => by
    simp only [execOp, e.eval hx]
    refine run_value ?_
    rw [nth_eq] at hv
    simp [Instr.extract, hv]
theorem J_extract {x : Operand} {i : Nat} {vs : List Value} {v : Value} (hx : ev l g x = some (.tuple vs.toArray)) (hv : nth vs i = some v) (hd : Nat.blt d n.sz = true) (hn : look g d = none)
    (h : J P ops rest n ((d, v) :: l) g L Q) : J P ops (⟨some d, .extract x i, ty, pos, aft, none⟩ :: rest) n l g L Q :=
  J_pure (Y_extract hx hv) hd hn h
def resF (tmps : Array Value) : ResultVar → Sem Value
  | .tmp t => pure (tmps.getD t undef)
  | .cell a t => asAddr (tmps.getD a undef) >>= loadVar t
theorem results_eq (fn : Func) (tmps : Array Value) : results fn tmps = (fn.results.mapM (resF tmps) >>= fun vs => pure (if h : vs.size = 1 then vs[0] else .tuple vs)) := by
  unfold results
  congr 2
/-- The results. -/
theorem run_results {fn : Func} {a : Act} {vs : List Value} (e : EnvOk n [] g a) {w : World} (s : Sat w L) {rs : List ResultVar} (r : Res P L g rs vs) (hr : fn.results = rs.toArray) :
    (results fn a.tmps).run P w = .ok (one vs) w := by
  have key : ∀ (rs : List ResultVar) (vs : List Value), Res P L g rs vs → (rs.mapM (resF a.tmps)).run P w = .ok vs w := by
    intro rs vs r
    induction r with
    | nil => rfl
    | tmp h _ ih =>
      rw [List.mapM_cons, run_bind]
      simp only [resF, run_pure, e.g _ _ h]
      rw [run_bind, ih]; rfl
    | @cell t T b v rs vs h hv _ ih =>
      rw [List.mapM_cons, run_bind]
      have h1 : (resF a.tmps (.cell t T)).run P w = .ok v w := by
        unfold resF; rw [run_bind, e.g _ _ h]; exact hv w s
      rw [h1]
      simp only []
      rw [run_bind, ih]; rfl
  have h2 := key rs vs r
  rw [results_eq, hr, List.mapM_toArray, run_bind, ← bind_pure_comp, run_bind, h2]
  simp only [run_pure]
  congr 1
  match vs with
  | [] => rfl
  | [v] => rfl
  | v :: u :: vs => simp [one]
/-- A function's end. -/
theorem E_ret {k : Nat} {ro : Option Nat} {fn : Func} {post : Value → World → Prop} {rs : List ResultVar} {vs : List Value} (hr : fn.results = rs.toArray) (r : Res P L g rs vs) (h : ∀ w, Sat w L → post (one vs) w) :
    E (bodyPost P fn (Ret post)) .ret ⟨k, [], ro⟩ g L :=
  fun _ w e s => ⟨e.defers, _, run_results e s r hr, _, rfl, h w s⟩
theorem E_end {k : Nat} {ro : Option Nat} {fn : Func} {post : Value → World → Prop} {rs : List ResultVar} {vs : List Value} (hr : fn.results = rs.toArray) (r : Res P L g rs vs) (h : ∀ w, Sat w L → post (one vs) w) :
    E (bodyPost P fn (Ret post)) .normal ⟨k, [], ro⟩ g L :=
  fun _ w e s => ⟨e.defers, _, run_results e s r hr, _, rfl, h w s⟩
/-- The end of a function with a range over a function: the block of its rounds' deferred calls is empty. -/
abbrev dfm (r : Nat) : List Deferred := [{ target := .collected r, args := #[] }]
theorem leaves_mark {k r : Nat} {ro : Option Nat} {fn : Func} {post : Value → World → Prop} {rs : List ResultVar} {vs : List Value} {R : List HP} {a : Act} {w : World} (hr : fn.results = rs.toArray) (t : Take L (pt r (.deferred (some []))) R)
    (q : Res P (pt r (.deferred none) :: R) g rs vs) (h : ∀ w, Sat w (pt r (.deferred none) :: R) → post (one vs) w) (e : EnvOk ⟨k, dfm r, ro⟩ [] g a) (s : Sat w L) : LeavesInM Fence.wide 0 P fn a.tmps (Ret post) a.defers .returning w := by
  have s1 := s.take t
  have hb := s1.cell
  have s2 := s1.set (.deferred none) rfl
  have hd : a.defers = dfm r := e.defers
  have e2 : EnvOk ⟨k, [], ro⟩ [] g { a with defers := [] } := ⟨e.size, rfl, e.l, e.g⟩
  rw [hd]
  refine ⟨(by intro h; cases h), .inl ⟨r, { w with heap := w.heap.setIfInBounds r (.deferred none) }, rfl, ?_, ?_⟩⟩
  · unfold Instr.takeDeferred
    rw [run_bind]
    have hg : (getObj r).run P w = .ok (.deferred (some [])) w := by unfold getObj; simp only [Sem.run, hb]
    rw [hg]
    simp only []
    rw [run_bind]
    unfold setObj
    simp only [Sem.run, hb]
    rfl
  · exact ⟨_, run_results e2 s2 q hr, _, rfl, h _ s2⟩
theorem E_retM {k r : Nat} {ro : Option Nat} {fn : Func} {post : Value → World → Prop} {rs : List ResultVar} {vs : List Value} {R : List HP} (hr : fn.results = rs.toArray) (t : Take L (pt r (.deferred (some []))) R)
    (q : Res P (pt r (.deferred none) :: R) g rs vs) (h : ∀ w, Sat w (pt r (.deferred none) :: R) → post (one vs) w) : E (bodyPostM Fence.wide 0 P fn (Ret post)) .ret ⟨k, dfm r, ro⟩ g L :=
  fun _ _ e s => leaves_mark hr t q h e s
theorem E_endM {k r : Nat} {ro : Option Nat} {fn : Func} {post : Value → World → Prop} {rs : List ResultVar} {vs : List Value} {R : List HP} (hr : fn.results = rs.toArray) (t : Take L (pt r (.deferred (some []))) R)
    (q : Res P (pt r (.deferred none) :: R) g rs vs) (h : ∀ w, Sat w (pt r (.deferred none) :: R) → post (one vs) w) : E (bodyPostM Fence.wide 0 P fn (Ret post)) .normal ⟨k, dfm r, ro⟩ g L :=
  fun _ _ e s => leaves_mark hr t q h e s
/-- .. if it ends ahead of the range. -/
theorem E_retM0 {k : Nat} {ro : Option Nat} {fn : Func} {post : Value → World → Prop} {rs : List ResultVar} {vs : List Value} (hr : fn.results = rs.toArray) (q : Res P L g rs vs) (h : ∀ w, Sat w L → post (one vs) w) :
    E (bodyPostM Fence.wide 0 P fn (Ret post)) .ret ⟨k, [], ro⟩ g L :=
  fun a w e s => by
    have hd : a.defers = [] := e.defers
    show LeavesInM Fence.wide 0 P fn a.tmps (Ret post) a.defers .returning w
    rw [hd]
    exact ⟨_, run_results e s q hr, _, rfl, h w s⟩
theorem Res_cell1 {t T b E lo hi : Nat} {v : Value} {rs : List ResultVar} {vs ws : List Value} [u : SC P T] (h : look g t = some (.pointer (some ⟨b, 0, none⟩))) [c : CG L b E ws lo hi] (hv : nth ws 0 = some v)
    (r : Res P L g rs vs) : Res P L g (.cell t T :: rs) (v :: vs) :=
  .cell h (fun _ s => run_loadVar1 u (c.out _ s) (by rw [← nth_eq]; exact hv)) r
end
end Go.Proofs.Sol

/- More rules: pointers, strings, bytes, slices, structs as values. -/
namespace Go.Proofs.Sol
open Go

/-- A text. -/
abbrev S (l : List UInt8) : ByteArray := ⟨⟨l⟩⟩
/-- A byte as a value. -/
def byv (c : UInt8) : Value := .int .u8 (c.toNat : Int)

section
variable {P : Program} {ops : Array Oper} {rest : List Oper} {n : NT} {l g : Env} {L M : List HP} {Q : QT} {d ty : Nat} {pos : String} {aft : Array Edge}

theorem run_guard_none {op : BinOp} {T : Nat} {x y : Operand} {a b : Value} (h : ∀ cs ds, ¬ (a = .agg cs ∧ b = .agg ds)) (h2 : ¬ (a = .nilIface ∧ b = .nilIface)) (w : World) :
    (eqGuard op T x y a b).run P w = .ok () w := by
  unfold eqGuard
  cases op <;> first
    | rfl
    | (cases a <;> first
        | rfl
        | (cases b <;> first | rfl | (exact absurd ⟨rfl, rfl⟩ h2) | (exact absurd ⟨rfl, rfl⟩ (h _ _))))
theorem Y_bin {op : BinOp} {T T' : Nat} {x y : Operand} {u v r : Value} (hx : ev l g x = some u) (hy : ev l g y = some v)
    (h1 : ∀ cs ds, ¬ (u = .agg cs ∧ v = .agg ds)) (h2 : ¬ (u = .nilIface ∧ v = .nilIface)) (hr : ∀ w, Sat w L → (binOp op T u v).run P w = .ok r w) : Y P n l g L ⟨some d, .binOp op T x y T', ty, pos, aft, none⟩ (r) :=
  fun a e w s => by
    simp only [execOp, e.eval hx, e.eval hy]
    refine run_value ?_
    rw [run_bind, run_guard_none h1 h2]; exact hr w s
theorem J_bin {op : BinOp} {T T' : Nat} {x y : Operand} {u v r : Value} (hx : ev l g x = some u) (hy : ev l g y = some v)
    (h1 : ∀ cs ds, ¬ (u = .agg cs ∧ v = .agg ds)) (h2 : ¬ (u = .nilIface ∧ v = .nilIface)) (hr : ∀ w, Sat w L → (binOp op T u v).run P w = .ok r w) (hd : Nat.blt d n.sz = true) (hn : look g d = none)
    (h : J P ops rest n ((d, r) :: l) g L Q) : J P ops (⟨some d, .binOp op T x y T', ty, pos, aft, none⟩ :: rest) n l g L Q :=
  J_pure (Y_bin hx hy h1 h2 hr) hd hn h
/-- A pointer against nil. -/
def ptrN : BinOp → Option Addr → Option Bool
  | .eql, none => some true
  | .eql, some _ => some false
  | .neq, none => some false
  | .neq, some _ => some true
  | _, _ => none
theorem run_equal_ptr {T e : Nat} {p : Option Addr} (u : UL P T (.pointer e)) (w : World) : (Op.equal T (.pointer p) (.pointer none)).run P w = .ok p.isNone w := by
  unfold Op.equal Op.maxDepth
  show (Op.equalIn (9999 + 1) T (.pointer p) (.pointer none)).run P w = _
  unfold Op.equalIn
  rw [run_bind, run_underlying u]
  cases p <;> rfl
theorem Y_ptr_nil {op : BinOp} {T T' e : Nat} {x : Operand} {p : Option Addr} {b : Bool} [u : UL P T (.pointer e)] (hx : ev l g x = some (.pointer p)) (hb : ptrN op p = some b) : Y P n l g L ⟨some d, .binOp op T x (.const (.pointer none)) T', ty, pos, aft, none⟩ (.bool b) :=
  Y_bin hx rfl (by rintro _ _ ⟨h, _⟩; cases h) (by rintro ⟨h, _⟩; cases h) (fun w _ => by
    cases op <;> cases p <;> simp only [ptrN] at hb <;> first
      | (cases hb; done)
      | (cases hb; simp only [binOp]; rw [run_bind, run_equal_ptr u]; rfl))
theorem J_ptr_nil {op : BinOp} {T T' e : Nat} {x : Operand} {p : Option Addr} {b : Bool} [u : UL P T (.pointer e)] (hx : ev l g x = some (.pointer p)) (hb : ptrN op p = some b) (hd : Nat.blt d n.sz = true) (hn : look g d = none)
    (h : J P ops rest n ((d, .bool b) :: l) g L Q) : J P ops (⟨some d, .binOp op T x (.const (.pointer none)) T', ty, pos, aft, none⟩ :: rest) n l g L Q :=
  J_pure (Y_ptr_nil hx hb) hd hn h
/-- Strings. -/
theorem toList_S (a : List UInt8) : (S a).toList = a := ByteArray.toList_eq (S a)
theorem Y_str_add {T T' : Nat} {x y : Operand} {a b : List UInt8} (hx : ev l g x = some (.string (S a))) (hy : ev l g y = some (.string (S b))) (hs : a.length + b.length < 9223372036854775808) : Y P n l g L ⟨some d, .binOp .add T x y T', ty, pos, aft, none⟩ (.string (S (a ++ b))) :=
  Y_bin hx hy (by rintro _ _ ⟨h, _⟩; cases h) (by rintro ⟨h, _⟩; cases h) (fun w _ => by
    have e1 : ¬ (((S a).size + (S b).size : Nat) : Int) > IntKind.i64.max := by
      show ¬ ((a.length + b.length : Nat) : Int) > 9223372036854775807
      omega
    have e2 : S a ++ S b = S (a ++ b) := by
      apply ByteArray.ext
      show (S a ++ S b).data = ⟨a ++ b⟩
      rw [ByteArray.data_append]; apply Array.ext'; simp
    simp only [binOp, Op.stringOp]
    rw [if_neg e1, e2]; rfl)
theorem J_str_add {T T' : Nat} {x y : Operand} {a b : List UInt8} (hx : ev l g x = some (.string (S a))) (hy : ev l g y = some (.string (S b))) (hs : a.length + b.length < 9223372036854775808) (hd : Nat.blt d n.sz = true) (hn : look g d = none)
    (h : J P ops rest n ((d, .string (S (a ++ b))) :: l) g L Q) : J P ops (⟨some d, .binOp .add T x y T', ty, pos, aft, none⟩ :: rest) n l g L Q :=
  J_pure (Y_str_add hx hy hs) hd hn h
def strC : BinOp → List UInt8 → List UInt8 → Option Bool
  | .eql, a, b => some (a == b)
  | .neq, a, b => some (!(a == b))
  | _, _, _ => none
theorem Y_str_cmp {op : BinOp} {T T' : Nat} {x y : Operand} {a b : List UInt8} {r : Bool} (hx : ev l g x = some (.string (S a))) (hy : ev l g y = some (.string (S b))) (hr : strC op a b = some r) : Y P n l g L ⟨some d, .binOp op T x y T', ty, pos, aft, none⟩ (.bool r) :=
  Y_bin hx hy (by rintro _ _ ⟨h, _⟩; cases h) (by rintro ⟨h, _⟩; cases h) (fun w _ => by
    cases op <;> simp only [strC] at hr <;> first
      | (cases hr; done)
      | (cases hr; simp only [binOp, Op.stringOp, toList_S]; rfl))
theorem Y_str_same {T T' : Nat} {x y : Operand} {a : List UInt8} (hx : ev l g x = some (.string (S a))) (hy : ev l g y = some (.string (S a))) : Y P n l g L ⟨some d, .binOp .eql T x y T', ty, pos, aft, none⟩ (.bool true) := by
  have h := Y_str_cmp (P := P) (n := n) (L := L) (op := .eql) (T := T) (T' := T') (d := d) (ty := ty) (pos := pos) (aft := aft) hx hy rfl
  simpa using h
theorem J_str_cmp {op : BinOp} {T T' : Nat} {x y : Operand} {a b : List UInt8} {r : Bool} (hx : ev l g x = some (.string (S a))) (hy : ev l g y = some (.string (S b))) (hr : strC op a b = some r) (hd : Nat.blt d n.sz = true) (hn : look g d = none)
    (h : J P ops rest n ((d, .bool r) :: l) g L Q) : J P ops (⟨some d, .binOp op T x y T', ty, pos, aft, none⟩ :: rest) n l g L Q :=
  J_pure (Y_str_cmp hx hy hr) hd hn h
/-- Bools. -/
def booC : BinOp → Bool → Bool → Option Bool
  | .eql, a, b => some (a == b)
  | .neq, a, b => some (!(a == b))
  | _, _, _ => none
theorem Y_bool_cmp {op : BinOp} {T T' : Nat} {x y : Operand} {a b r : Bool} [u : UL P T .bool] (hx : ev l g x = some (.bool a)) (hy : ev l g y = some (.bool b)) (hr : booC op a b = some r) : Y P n l g L ⟨some d, .binOp op T x y T', ty, pos, aft, none⟩ (.bool r) :=
  Y_bin hx hy (by rintro _ _ ⟨h, _⟩; cases h) (by rintro ⟨h, _⟩; cases h) (fun w _ => by
    have key : (Op.equal T (.bool a) (.bool b)).run P w = .ok (a == b) w := by
      unfold Op.equal Op.maxDepth
      show (Op.equalIn (9999 + 1) T (.bool a) (.bool b)).run P w = _
      unfold Op.equalIn
      rw [run_bind, run_underlying u]; rfl
    cases op <;> simp only [booC] at hr <;> first
      | (cases hr; done)
      | (cases hr; simp only [binOp]; rw [run_bind, key]; rfl))
theorem J_bool_cmp {op : BinOp} {T T' : Nat} {x y : Operand} {a b r : Bool} [u : UL P T .bool] (hx : ev l g x = some (.bool a)) (hy : ev l g y = some (.bool b)) (hr : booC op a b = some r) (hd : Nat.blt d n.sz = true) (hn : look g d = none)
    (h : J P ops rest n ((d, .bool r) :: l) g L Q) : J P ops (⟨some d, .binOp op T x y T', ty, pos, aft, none⟩ :: rest) n l g L Q :=
  J_pure (Y_bool_cmp hx hy hr) hd hn h
/-- len of a string, of a slice. -/
theorem run_builtin {b : Builtin} {args : Array Operand} {at_ : Array TypeId} {a : Act} {vs : List Value} (e : EnvOk n l g a) (ha : evl l g args.toList = some vs) (dst : Option Nat) :
    execOp a.eval ⟨dst, .call ⟨.builtin b, args, at_⟩, ty, pos, aft, none⟩ = builtin b at_ ty (args.map fun | .const _ => true | _ => false) vs.toArray := by
  have h4 : args.map a.eval = vs.toArray := by
    apply Array.ext'; rw [Array.toList_map]; exact e.evall ha
  show (do let d ← resolve a.eval ⟨.builtin b, args, at_⟩ ty; invoke d.target d.args) = _
  simp only [resolve, h4]
  rfl
theorem Y_len_str {x : Operand} {t : Nat} {a : List UInt8} [u : UL P t .string] (hx : ev l g x = some (.string (S a))) : Y P n l g L ⟨some d, .call ⟨.builtin .len, #[x], #[t]⟩, ty, pos, aft, none⟩ (.int .i64 (a.length : Int)) :=
  fun a' e w _ => by
    rw [run_builtin e (vs := [.string (S a)]) (by simp only [evl, hx])]
    unfold builtin
    refine run_value ?_
    unfold Builtin.len_
    simp only [List.getElem?_toArray, List.getElem?_cons_zero]
    rw [run_bind, run_underlying u]; rfl
theorem J_len_str {x : Operand} {t : Nat} {a : List UInt8} [u : UL P t .string] (hx : ev l g x = some (.string (S a))) (hd : Nat.blt d n.sz = true) (hn : look g d = none)
    (h : J P ops rest n ((d, .int .i64 (a.length : Int)) :: l) g L Q) : J P ops (⟨some d, .call ⟨.builtin .len, #[x], #[t]⟩, ty, pos, aft, none⟩ :: rest) n l g L Q :=
  J_pure (Y_len_str hx) hd hn h
theorem Y_len_slice {x : Operand} {t E k c : Nat} {p : Option Addr} [u : UL P t (.slice E)] (hx : ev l g x = some (.slice p k c)) : Y P n l g L ⟨some d, .call ⟨.builtin .len, #[x], #[t]⟩, ty, pos, aft, none⟩ (.int .i64 (k : Int)) :=
  fun a' e w _ => by
    rw [run_builtin e (vs := [.slice p k c]) (by simp only [evl, hx])]
    unfold builtin
    refine run_value ?_
    unfold Builtin.len_
    simp only [List.getElem?_toArray, List.getElem?_cons_zero]
    rw [run_bind, run_underlying u]; rfl
theorem J_len_slice {x : Operand} {t E k c : Nat} {p : Option Addr} [u : UL P t (.slice E)] (hx : ev l g x = some (.slice p k c)) (hd : Nat.blt d n.sz = true) (hn : look g d = none)
    (h : J P ops rest n ((d, .int .i64 (k : Int)) :: l) g L Q) : J P ops (⟨some d, .call ⟨.builtin .len, #[x], #[t]⟩, ty, pos, aft, none⟩ :: rest) n l g L Q :=
  J_pure (Y_len_slice hx) hd hn h
theorem Y_max {x y : Operand} {at_ : Array TypeId} {k : IntKind} {i j : Int} (hx : ev l g x = some (.int k i)) (hy : ev l g y = some (.int k j)) : Y P n l g L ⟨some d, .call ⟨.builtin .max, #[x, y], at_⟩, ty, pos, aft, none⟩ (.int k (if j > i then j else i)) :=
  fun a' e w _ => by
    rw [run_builtin e (vs := [.int k i, .int k j]) (by simp only [evl, hx, hy])]
    unfold builtin
    refine run_value ?_
    rfl
theorem J_max {x y : Operand} {at_ : Array TypeId} {k : IntKind} {i j : Int} (hx : ev l g x = some (.int k i)) (hy : ev l g y = some (.int k j)) (hd : Nat.blt d n.sz = true) (hn : look g d = none)
    (h : J P ops rest n ((d, .int k (if j > i then j else i)) :: l) g L Q) : J P ops (⟨some d, .call ⟨.builtin .max, #[x, y], at_⟩, ty, pos, aft, none⟩ :: rest) n l g L Q :=
  J_pure (Y_max hx hy) hd hn h
theorem Y_min {x y : Operand} {at_ : Array TypeId} {k : IntKind} {i j : Int} (hx : ev l g x = some (.int k i)) (hy : ev l g y = some (.int k j)) : Y P n l g L ⟨some d, .call ⟨.builtin .min, #[x, y], at_⟩, ty, pos, aft, none⟩ (.int k (if j < i then j else i)) :=
  fun a' e w _ => by
    rw [run_builtin e (vs := [.int k i, .int k j]) (by simp only [evl, hx, hy])]
    unfold builtin
    refine run_value ?_
    rfl
theorem J_min {x y : Operand} {at_ : Array TypeId} {k : IntKind} {i j : Int} (hx : ev l g x = some (.int k i)) (hy : ev l g y = some (.int k j)) (hd : Nat.blt d n.sz = true) (hn : look g d = none)
    (h : J P ops rest n ((d, .int k (if j < i then j else i)) :: l) g L Q) : J P ops (⟨some d, .call ⟨.builtin .min, #[x, y], at_⟩, ty, pos, aft, none⟩ :: rest) n l g L Q :=
  J_pure (Y_min hx hy) hd hn h
/-- A byte of a string. -/
theorem Y_index_str {T : Nat} {x y : Operand} {a : List UInt8} {i : Int} {k : IntKind} {c : UInt8} [u : UL P T .string] (hx : ev l g x = some (.string (S a))) (hy : ev l g y = some (.int k i)) (hi : 0 ≤ i) (hc : a[i.toNat]? = some c)
    : Y P n l g L ⟨some d, .index T x y, ty, pos, aft, none⟩ (byv c) :=
  fun a' e w _ => by
    simp only [execOp, e.eval hx, e.eval hy]
    refine run_value ?_
    unfold Instr.index
    rw [run_bind]; simp only [asIntOf, run_pure]
    rw [run_bind, run_underlying u]
    have : (S a)[i.toNat]? = some c := by
      obtain ⟨h1, h2⟩ := List.getElem?_eq_some_iff.1 hc
      have hsz : i.toNat < (S a).size := h1
      rw [getElem?_pos (S a) i.toNat hsz]
      congr 1
    simp only [if_pos hi, this]; rfl
theorem J_index_str {T : Nat} {x y : Operand} {a : List UInt8} {i : Int} {k : IntKind} {c : UInt8} [u : UL P T .string] (hx : ev l g x = some (.string (S a))) (hy : ev l g y = some (.int k i)) (hi : 0 ≤ i) (hc : a[i.toNat]? = some c)
    (hd : Nat.blt d n.sz = true) (hn : look g d = none)
    (h : J P ops rest n ((d, byv c) :: l) g L Q) : J P ops (⟨some d, .index T x y, ty, pos, aft, none⟩ :: rest) n l g L Q :=
  J_pure (Y_index_str hx hy hi hc) hd hn h
/-- A part of a string. -/
theorem run_sliceBound {k : IntKind} {i : Int} {y : Nat} {code : BoundsCode} (h0 : 0 ≤ i) (h1 : i ≤ y) (w : World) : (Instr.sliceBound (.int k i) y code).run P w = .ok i.toNat w := by
  unfold Instr.sliceBound
  rw [run_bind]; simp only [asIntOf, run_pure]
  rw [if_pos ⟨h0, h1⟩]; rfl
theorem extract_S (a : List UInt8) (i j : Nat) : (S a).extract i j = S ((a.take j).drop i) := by
  apply ByteArray.ext
  rw [ByteArray.data_extract]
  apply Array.ext'
  simp [List.drop_take]
theorem Y_slice_lo {T : Nat} {x y : Operand} {a : List UInt8} {i : Int} {k : IntKind} [u : UL P T .string] (hx : ev l g x = some (.string (S a))) (hy : ev l g y = some (.int k i)) (h0 : 0 ≤ i) (h1 : i ≤ a.length)
    : Y P n l g L ⟨some d, .slice T x (some y) none none, ty, pos, aft, none⟩ (.string (S (a.drop i.toNat))) :=
  fun a' e w _ => by
    simp only [execOp, e.eval hx, Option.map_some, Option.map_none, e.eval hy]
    refine run_value ?_
    unfold Instr.sliceAt
    rw [run_bind, run_underlying u]
    simp only []
    unfold Instr.slice
    rw [run_bind, run_underlying u]
    simp only [Option.isSome_none, Bool.false_eq_true, if_false]
    rw [run_bind]
    unfold Instr.sliceBounds
    simp only []
    rw [run_bind]; simp only [run_pure]
    rw [run_bind]; simp only [run_pure]
    rw [run_bind, run_sliceBound (y := (S a).size) h0 h1]
    simp only [run_pure]
    rw [extract_S]
    have : List.take (S a).size a = a := List.take_length
    rw [this]
theorem J_slice_lo {T : Nat} {x y : Operand} {a : List UInt8} {i : Int} {k : IntKind} [u : UL P T .string] (hx : ev l g x = some (.string (S a))) (hy : ev l g y = some (.int k i)) (h0 : 0 ≤ i) (h1 : i ≤ a.length)
    (hd : Nat.blt d n.sz = true) (hn : look g d = none)
    (h : J P ops rest n ((d, .string (S (a.drop i.toNat))) :: l) g L Q) : J P ops (⟨some d, .slice T x (some y) none none, ty, pos, aft, none⟩ :: rest) n l g L Q :=
  J_pure (Y_slice_lo hx hy h0 h1) hd hn h
theorem Y_slice_hi {T : Nat} {x y : Operand} {a : List UInt8} {i : Int} {k : IntKind} [u : UL P T .string] (hx : ev l g x = some (.string (S a))) (hy : ev l g y = some (.int k i)) (h0 : 0 ≤ i) (h1 : i ≤ a.length)
    : Y P n l g L ⟨some d, .slice T x none (some y) none, ty, pos, aft, none⟩ (.string (S (a.take i.toNat))) :=
  fun a' e w _ => by
    simp only [execOp, e.eval hx, Option.map_some, Option.map_none, e.eval hy]
    refine run_value ?_
    unfold Instr.sliceAt
    rw [run_bind, run_underlying u]
    simp only []
    unfold Instr.slice
    rw [run_bind, run_underlying u]
    simp only [Option.isSome_none, Bool.false_eq_true, if_false]
    rw [run_bind]
    unfold Instr.sliceBounds
    simp only []
    rw [run_bind]; simp only [run_pure]
    rw [run_bind, run_sliceBound (y := (S a).size) h0 h1]
    simp only []
    rw [run_bind]; simp only [run_pure]
    rw [extract_S]; rfl
theorem J_slice_hi {T : Nat} {x y : Operand} {a : List UInt8} {i : Int} {k : IntKind} [u : UL P T .string] (hx : ev l g x = some (.string (S a))) (hy : ev l g y = some (.int k i)) (h0 : 0 ≤ i) (h1 : i ≤ a.length)
    (hd : Nat.blt d n.sz = true) (hn : look g d = none)
    (h : J P ops rest n ((d, .string (S (a.take i.toNat))) :: l) g L Q) : J P ops (⟨some d, .slice T x none (some y) none, ty, pos, aft, none⟩ :: rest) n l g L Q :=
  J_pure (Y_slice_hi hx hy h0 h1) hd hn h
theorem Y_slice_lh {T : Nat} {x y z : Operand} {a : List UInt8} {i j : Int} {k k' : IntKind} [u : UL P T .string] (hx : ev l g x = some (.string (S a))) (hy : ev l g y = some (.int k i)) (hz : ev l g z = some (.int k' j)) (h0 : 0 ≤ i) (h1 : i ≤ j) (h2 : j ≤ a.length)
    : Y P n l g L ⟨some d, .slice T x (some y) (some z) none, ty, pos, aft, none⟩ (.string (S ((a.take j.toNat).drop i.toNat))) :=
  fun a' e w _ => by
    simp only [execOp, e.eval hx, Option.map_some, Option.map_none, e.eval hy, e.eval hz]
    refine run_value ?_
    unfold Instr.sliceAt
    rw [run_bind, run_underlying u]
    simp only []
    unfold Instr.slice
    rw [run_bind, run_underlying u]
    simp only [Option.isSome_none, Bool.false_eq_true, if_false]
    rw [run_bind]
    unfold Instr.sliceBounds
    simp only []
    rw [run_bind]; simp only [run_pure]
    rw [run_bind, run_sliceBound (y := (S a).size) (by omega) h2]
    simp only []
    rw [run_bind, run_sliceBound (y := j.toNat) h0 (by omega)]
    simp only [run_pure]
    rw [extract_S]
theorem J_slice_lh {T : Nat} {x y z : Operand} {a : List UInt8} {i j : Int} {k k' : IntKind} [u : UL P T .string] (hx : ev l g x = some (.string (S a))) (hy : ev l g y = some (.int k i)) (hz : ev l g z = some (.int k' j)) (h0 : 0 ≤ i) (h1 : i ≤ j) (h2 : j ≤ a.length)
    (hd : Nat.blt d n.sz = true) (hn : look g d = none)
    (h : J P ops rest n ((d, .string (S ((a.take j.toNat).drop i.toNat))) :: l) g L Q) : J P ops (⟨some d, .slice T x (some y) (some z) none, ty, pos, aft, none⟩ :: rest) n l g L Q :=
  J_pure (Y_slice_lh hx hy hz h0 h1 h2) hd hn h
/-- Conversions of integers. -/
theorem Y_conv {s t : Nat} {x : Operand} {k k' : IntKind} {i : Int} {ds : TypeDesc} [u : UL P s ds] [v : UL P t (.int k')] (hx : ev l g x = some (.int k i)) : Y P n l g L ⟨some d, .convert s t x, ty, pos, aft, none⟩ (.int k' (k'.wrap i)) :=
  fun a e w _ => by
    simp only [execOp, e.eval hx]
    refine run_value ?_
    unfold convert
    rw [run_bind, run_underlying u]
    simp only []
    rw [run_bind, run_underlying v]
    cases ds <;> rfl
theorem J_conv {s t : Nat} {x : Operand} {k k' : IntKind} {i : Int} {ds : TypeDesc} [u : UL P s ds] [v : UL P t (.int k')] (hx : ev l g x = some (.int k i)) (hd : Nat.blt d n.sz = true) (hn : look g d = none)
    (h : J P ops rest n ((d, .int k' (k'.wrap i)) :: l) g L Q) : J P ops (⟨some d, .convert s t x, ty, pos, aft, none⟩ :: rest) n l g L Q :=
  J_pure (Y_conv hx) hd hn h
theorem wrap64_byte (c : UInt8) : IntKind.i64.wrap (c.toNat : Int) = (c.toNat : Int) := wrap64_in (by have := c.toNat_lt; omega)
/-- int(c) of a byte. -/
theorem Y_conv_byte {s t : Nat} {x : Operand} {c : UInt8} {ds : TypeDesc} [u : UL P s ds] [v : UL P t (.int .i64)] (hx : ev l g x = some (byv c)) : Y P n l g L ⟨some d, .convert s t x, ty, pos, aft, none⟩ (.int .i64 (c.toNat : Int)) :=
  wrap64_byte c ▸ Y_conv (k := .u8) hx
theorem J_conv_byte {s t : Nat} {x : Operand} {c : UInt8} {ds : TypeDesc} [u : UL P s ds] [v : UL P t (.int .i64)] (hx : ev l g x = some (byv c)) (hd : Nat.blt d n.sz = true) (hn : look g d = none)
    (h : J P ops rest n ((d, .int .i64 (c.toNat : Int)) :: l) g L Q) : J P ops (⟨some d, .convert s t x, ty, pos, aft, none⟩ :: rest) n l g L Q :=
  J_pure (Y_conv_byte hx) hd hn h
/-- A whole struct or array, loaded. -/
theorem run_loadCellsFrom {w : World} {b T lo hi : Nat} {vs : List Value} (h : w.heap[b]? = some (.cells vs.toArray T (lo, hi))) (o : Nat) :
    ∀ (k i : Nat) (acc : Array Value), o + i + k ≤ vs.length → (loadCellsFrom ⟨b, o, none⟩ i k acc).run P w = .ok (acc ++ ((vs.drop (o + i)).take k).toArray) w := by
  intro k
  induction k with
  | zero => intro i acc _; simp [loadCellsFrom]
  | succ k ih =>
    intro i acc hle
    unfold loadCellsFrom
    have hlt : o + i < vs.length := by omega
    rw [run_bind, add_mk, run_load1 h (List.getElem?_eq_getElem hlt)]
    simp only []
    rw [ih (i + 1) _ (by omega)]
    congr 1
    apply Array.ext'
    rw [List.drop_eq_getElem_cons hlt]
    simp [Nat.add_assoc]
theorem run_loadCells {w : World} {b T lo hi o k : Nat} {vs : List Value} (h : w.heap[b]? = some (.cells vs.toArray T (lo, hi))) (hle : o + k ≤ vs.length) :
    (loadCells ⟨b, o, none⟩ k).run P w = .ok ((vs.drop o).take k).toArray w := by
  unfold loadCells
  rw [run_loadCellsFrom h o k 0 _ (by omega)]
  simp
theorem run_loadVarA {w : World} {t b o T lo hi s bs : Nat} {vs : List Value} (u : AG P t) (i : TI P t s bs) (h : w.heap[b]? = some (.cells vs.toArray T (lo, hi))) (hle : o + s ≤ vs.length) :
    (loadVar t ⟨b, o, none⟩).run P w = .ok (.agg ((vs.drop o).take s).toArray) w := by
  unfold loadVar; rw [run_bind, u.out]
  simp only [if_true]
  rw [run_bind, run_sizeOf i]
  simp only []
  rw [run_bind, run_loadCells h hle]; rfl
/-- A part of a list, as a list of as many terms. -/
def part' {α : Type} : List α → Nat → Nat → Option (List α)
  | _, 0, 0 => some []
  | x :: xs, 0, k + 1 => match part' xs 0 k with
    | some ys => some (x :: ys)
    | none => none
  | _ :: xs, o + 1, k => part' xs o k
  | [], _, _ => none
theorem part'_eq {α : Type} {xs : List α} {o k : Nat} {ys : List α} (h : part' xs o k = some ys) : o + k ≤ xs.length ∧ (xs.drop o).take k = ys := by
  induction xs generalizing o k ys with
  | nil =>
    cases o <;> cases k <;> simp [part'] at h
    subst h; simp
  | cons x xs ih =>
    cases o with
    | zero =>
      cases k with
      | zero => simp [part'] at h; subst h; simp
      | succ k =>
        simp only [part'] at h
        cases e : part' xs 0 k with
        | none => rw [e] at h; cases h
        | some zs =>
          rw [e] at h; cases h
          obtain ⟨h1, h2⟩ := ih e
          refine ⟨by simp; omega, ?_⟩
          simp at h2; simp [h2]
    | succ o =>
      have h' : part' xs o k = some ys := by
        cases k <;> simpa [part'] using h
      obtain ⟨h1, h2⟩ := ih h'
      exact ⟨by simp; omega, by simpa using h2⟩
theorem Y_loadA {t b o T lo hi s bs : Nat} {x : Operand} {vs us : List Value} [u : AG P t] [i : TI P t s bs] (hx : ev l g x = some (.pointer (some ⟨b, o, none⟩))) [c : CG L b T vs lo hi] (hu : part' vs o s = some us)
    : Y P n l g L ⟨some d, .load t x, ty, pos, aft, none⟩ (.agg us.toArray) :=
  fun a e w s' => by
    simp only [execOp, e.eval hx]
    refine run_value ?_
    unfold Instr.loadAt; rw [run_bind]; simp only [Instr.sureAddr, run_pure]
    rw [run_loadVarA u i (c.out _ s') (part'_eq hu).1, (part'_eq hu).2]
theorem J_loadA {t b o T lo hi s bs : Nat} {x : Operand} {vs us : List Value} [u : AG P t] [i : TI P t s bs] (hx : ev l g x = some (.pointer (some ⟨b, o, none⟩))) [c : CG L b T vs lo hi] (hu : part' vs o s = some us)
    (hd : Nat.blt d n.sz = true) (hn : look g d = none)
    (h : J P ops rest n ((d, .agg us.toArray) :: l) g L Q) : J P ops (⟨some d, .load t x, ty, pos, aft, none⟩ :: rest) n l g L Q :=
  J_pure (Y_loadA hx hu) hd hn h
theorem Res_cellA {t T b E lo hi s bs : Nat} {rs : List ResultVar} {vs ws us : List Value} [u : AG P T] [i : TI P T s bs] (h : look g t = some (.pointer (some ⟨b, 0, none⟩))) [c : CG L b E ws lo hi] (hv : part' ws 0 s = some us)
    (r : Res P L g rs vs) : Res P L g (.cell t T :: rs) (.agg us.toArray :: vs) :=
  .cell h (fun _ s' => by rw [run_loadVarA u i (c.out _ s') (part'_eq hv).1, (part'_eq hv).2]) r
/-- A field of a struct that is a value. -/
theorem run_part1 {t o : Nat} {cs : List Value} {v : Value} (u : SC P t) (hv : cs[o]? = some v) (w : World) : (part t cs.toArray o).run P w = .ok v w := by
  unfold part; rw [run_bind, u.out]
  simp only [Bool.false_eq_true, if_false, List.getElem?_toArray, hv]; rfl
theorem run_partA {t o s bs : Nat} {cs : List Value} (u : AG P t) (i : TI P t s bs) (w : World) : (part t cs.toArray o).run P w = .ok (.agg ((cs.drop o).take s).toArray) w := by
  unfold part; rw [run_bind, u.out]
  simp only [if_true]
  rw [run_bind, run_sizeOf i]
  simp only [run_pure]
  congr 2
  apply Array.ext'
  simp [List.extract]
theorem run_field {s f off fty : Nat} {cs : List Value} {r : Value} (u : FO P s f off fty) {w : World} (hp : (part fty cs.toArray off).run P w = .ok r w) : (Instr.field s (.agg cs.toArray) f).run P w = .ok r w := by
  obtain ⟨fs, h1, h2, _⟩ := u.out
  obtain ⟨fd, h2, h3, h4⟩ : ∃ fd, fs[f]? = some fd ∧ fd.offset = off ∧ fd.type = fty := by
    cases e : fs[f]? with
    | none => rw [e] at h2; cases h2
    | some fd => rw [e] at h2; simp at h2; exact ⟨fd, rfl, h2⟩
  unfold Instr.field
  rw [run_bind, run_underlying ⟨h1⟩]
  simp only [h2]
  rw [run_bind]; simp only [asAgg, run_pure, h3, h4]; exact hp
theorem Y_field {s f off fty : Nat} {x : Operand} {cs : List Value} {v : Value} [u : FO P s f off fty] [c : SC P fty] (hx : ev l g x = some (.agg cs.toArray)) (hv : nth cs off = some v) : Y P n l g L ⟨some d, .field s x f, ty, pos, aft, none⟩ (v) :=
  fun a e w _ => by
    simp only [execOp, e.eval hx]
    exact run_value (run_field u (run_part1 c (by rw [← nth_eq]; exact hv) w))
theorem J_field {s f off fty : Nat} {x : Operand} {cs : List Value} {v : Value} [u : FO P s f off fty] [c : SC P fty] (hx : ev l g x = some (.agg cs.toArray)) (hv : nth cs off = some v) (hd : Nat.blt d n.sz = true) (hn : look g d = none)
    (h : J P ops rest n ((d, v) :: l) g L Q) : J P ops (⟨some d, .field s x f, ty, pos, aft, none⟩ :: rest) n l g L Q :=
  J_pure (Y_field hx hv) hd hn h
theorem Y_fieldA {s f off fty k bs : Nat} {x : Operand} {cs us : List Value} [u : FO P s f off fty] [c : AG P fty] [i : TI P fty k bs] (hx : ev l g x = some (.agg cs.toArray)) (hv : part' cs off k = some us) : Y P n l g L ⟨some d, .field s x f, ty, pos, aft, none⟩ (.agg us.toArray) :=
  fun a e w _ => by
    simp only [execOp, e.eval hx]
    exact run_value (run_field u (by rw [run_partA c i, (part'_eq hv).2]))
theorem J_fieldA {s f off fty k bs : Nat} {x : Operand} {cs us : List Value} [u : FO P s f off fty] [c : AG P fty] [i : TI P fty k bs] (hx : ev l g x = some (.agg cs.toArray)) (hv : part' cs off k = some us) (hd : Nat.blt d n.sz = true) (hn : look g d = none)
    (h : J P ops rest n ((d, .agg us.toArray) :: l) g L Q) : J P ops (⟨some d, .field s x f, ty, pos, aft, none⟩ :: rest) n l g L Q :=
  J_pure (Y_fieldA hx hv) hd hn h
end
end Go.Proofs.Sol

/- More rules: values put together, slices, append, bytes to strings and back, shifts and bits. -/
namespace Go.Proofs.Sol
open Go

def placesOf (P : Program) (t : TypeId) : Option (List (Nat × Nat)) :=
  match P.underlying t with
  | some (.struct fs) => fs.toList.mapM fun f => (P.info? f.type).map fun i => (f.offset, i.size)
  | _ => none
class PL (P : Program) (t : TypeId) (pl : outParam (List (Nat × Nat))) : Prop where
  out : placesOf P t = some pl
def cellsL : Value → List Value
  | .agg cs => cs.toList
  | v => [v]
theorem cellsL_eq (v : Value) : v.cells = (cellsL v).toArray := by cases v <;> rfl
def fillL (pl : Nat → Option (Nat × Nat)) : List Value → List (Nat × Value) → Option (List Value)
  | zs, [] => some zs
  | zs, (i, v) :: rest => match pl i with
    | some (off, size) => (match cellsL v with
      | [] => none
      | c :: cs => bif Nat.beq (c :: cs).length size then (match setLs zs off (c :: cs) with
        | some zs' => fillL pl zs' rest
        | none => none) else none)
    | none => none
theorem foldl_sets (cs : List Value) (off : Nat) : ∀ (zs : List Value) (j : Nat), off + j + cs.length ≤ zs.length →
    (cs.zipIdx j).foldl (fun (a : Array Value) (x : Value × Nat) => a.setIfInBounds (off + x.2) x.1) zs.toArray = (setAll zs (off + j) cs).toArray := by
  induction cs with
  | nil => intro zs j _; simp [setAll_nil]
  | cons c cs ih =>
    intro zs j h
    simp only [List.length_cons] at h
    rw [List.zipIdx_cons, List.foldl_cons]
    have e : (zs.toArray.setIfInBounds (off + j) c) = (zs.set (off + j) c).toArray := by simp
    rw [e, ih (zs.set (off + j) c) (j + 1) (by simp; omega)]
    have : off + (j + 1) = off + j + 1 := by omega
    rw [this, setAll_cons (by omega)]
theorem fill_eq {pl : Nat → Option (Nat × Nat)} {zs : List Value} {parts : List (Nat × Value)} {out : List Value} (h : fillL pl zs parts = some out) :
    Instr.fill pl zs.toArray parts = some out.toArray := by
  induction parts generalizing zs with
  | nil => simp [fillL] at h; subst h; rfl
  | cons p rest ih =>
    obtain ⟨i, v⟩ := p
    simp only [fillL] at h
    unfold Instr.fill
    cases hp : pl i with
    | none => rw [hp] at h; cases h
    | some q =>
      obtain ⟨off, size⟩ := q
      rw [hp] at h
      simp only [] at h ⊢
      rw [cellsL_eq]
      generalize hcs : cellsL v = cs at *
      cases cs with
      | nil => cases h
      | cons c cs =>
      simp only [] at h
      cases hb : Nat.beq (c :: cs).length size with
      | false => rw [hb] at h; cases h
      | true =>
        rw [hb] at h
        simp only [cond_true] at h
        cases hs : setLs zs off (c :: cs) with
        | none => rw [hs] at h; cases h
        | some zs' =>
          rw [hs] at h
          have hsz := Nat.eq_of_beq_eq_true hb
          obtain ⟨h1, h2⟩ := setLs_eq hs
          have hle' := h2 (by simp)
          have hc : ¬ (((c :: cs).toArray.size ≠ size || off + (c :: cs).toArray.size > zs.toArray.size) = true) := by
            simp only [List.size_toArray, hsz, ne_eq, not_true_eq_false, decide_false, Bool.false_or, gt_iff_lt, decide_eq_true_eq]
            omega
          rw [if_neg hc]
          have e := foldl_sets (c :: cs) off zs 0 (by omega)
          simp only [Nat.add_zero] at e
          have e2 : (Array.foldl (fun (cs : Array Value) (x : Value × Nat) => match x with | (c, j) => cs.setIfInBounds (off + j) c) zs.toArray (c :: cs).toArray.zipIdx) = (setAll zs off (c :: cs)).toArray := by
            rw [← e, ← Array.foldl_toList]; simp
          rw [e2, h1]; exact ih h
section
variable {P : Program} {ops : Array Oper} {rest : List Oper} {n : NT} {l g : Env} {L M : List HP} {Q : QT} {d ty : Nat} {pos : String} {aft : Array Edge}
theorem run_sizes {fs : List Field} {pl : List (Nat × Nat)} {w : World} (h : (fs.mapM fun f => (P.info? f.type).map fun i => (f.offset, i.size)) = some pl) :
    (fs.mapM fun f => (do pure (f.offset, ← sizeOf f.type) : Sem (Nat × Nat))).run P w = .ok pl w := by
  induction fs generalizing pl with
  | nil => simp at h; subst h; rfl
  | cons f fs ih =>
    rw [List.mapM_cons] at h
    cases hi : P.info? f.type with
    | none => rw [hi] at h; simp at h
    | some i =>
      rw [hi] at h
      simp only [Option.map_some, Option.bind_eq_bind, Option.bind_some, Option.bind_eq_some_iff, Option.pure_def] at h
      obtain ⟨ps, h1, h2⟩ := h
      cases h2
      rw [List.mapM_cons, run_bind, run_bind, run_sizeOf (s := i.size) (b := i.bytes) ⟨by rw [hi]; rfl⟩]
      simp only [run_pure]
      rw [run_bind, ih h1]; rfl
theorem Y_build {T : Nat} {fs : Array Field} {parts : Array (Nat × Operand)} {zs out : List Value} {pl : List (Nat × Nat)} {vs : List (Nat × Value)} [z : TZ P T zs] [u : UL P T (.struct fs)] [p : PL P T pl] (hv : evp l g parts.toList = some vs)
    (hf : fillL (nth pl) zs vs = some out) : Y P n l g L ⟨some d, .build T parts, ty, pos, aft, none⟩ (.agg out.toArray) :=
  fun a e w _ => by
    have h4 : parts.map (fun (i, x) => (i, a.eval x)) = vs.toArray := by
      apply Array.ext'; rw [Array.toList_map]; exact e.evalp hv
    simp only [execOp, h4]
    refine run_value ?_
    unfold Instr.build
    obtain ⟨z0, hz, hc⟩ := run_zero z w
    rw [run_bind, hz]
    simp only [hc]
    rw [run_bind, run_underlying u]
    simp only []
    have hp := p.out
    unfold placesOf at hp
    rw [u.out] at hp
    simp only [] at hp
    have hm : (fs.mapM fun f => (do pure (f.offset, ← sizeOf f.type) : Sem (Nat × Nat))).run P w = .ok pl.toArray w := by
      have h1 := run_sizes (P := P) (w := w) hp
      obtain ⟨fl⟩ := fs
      rw [List.mapM_toArray, ← bind_pure_comp, run_bind]
      simp only [] at h1
      rw [h1]; rfl
    rw [run_bind, hm]
    simp only []
    have hfl : Instr.fill (fun i => pl.toArray[i]?) zs.toArray vs = some out.toArray := by
      have e : (fun i => pl.toArray[i]?) = nth pl := by funext i; rw [nth_eq]; simp
      rw [e]; exact fill_eq hf
    simp only [hfl]; rfl
theorem J_build {T : Nat} {fs : Array Field} {parts : Array (Nat × Operand)} {zs out : List Value} {pl : List (Nat × Nat)} {vs : List (Nat × Value)} [z : TZ P T zs] [u : UL P T (.struct fs)] [p : PL P T pl] (hv : evp l g parts.toList = some vs)
    (hf : fillL (nth pl) zs vs = some out) (hd : Nat.blt d n.sz = true) (hn : look g d = none)
    (h : J P ops rest n ((d, .agg out.toArray) :: l) g L Q) : J P ops (⟨some d, .build T parts, ty, pos, aft, none⟩ :: rest) n l g L Q :=
  J_pure (Y_build hv hf) hd hn h
end
end Go.Proofs.Sol

/- More rules: slices and what they lead to; append; bytes and texts; bits. -/
namespace Go.Proofs.Sol
open Go

section
variable {P : Program} {ops : Array Oper} {rest : List Oper} {n : NT} {l g : Env} {L M : List HP} {Q : QT} {d ty : Nat} {pos : String} {aft : Array Edge}

theorem Y_indexAddr {T E s bs b o len cap : Nat} {x y : Operand} {k : IntKind} {i : Int} [u : UL P T (.slice E)] [t : TI P E s bs] (hx : ev l g x = some (.slice (some ⟨b, o, none⟩) len cap)) (hy : ev l g y = some (.int k i))
    (h0 : 0 ≤ i) (h1 : i < len) : Y P n l g L ⟨some d, .indexAddr T x y, ty, pos, aft, none⟩ (.pointer (some ⟨b, o + i.toNat * s, none⟩)) :=
  fun a e w _ => by
    simp only [execOp, e.eval hx, e.eval hy]
    refine run_value ?_
    unfold Instr.indexAt
    rw [run_bind]; simp only [asIntOf, run_pure]
    rw [run_bind, run_underlying u]
    simp only []
    rw [run_bind]; simp only [run_pure]
    rw [run_bind, run_underlying u]
    simp only []
    rw [if_pos ⟨h0, h1⟩, run_bind, run_sizeOf t]
    simp only [run_pure, add_mk]
theorem J_indexAddr {T E s bs b o len cap : Nat} {x y : Operand} {k : IntKind} {i : Int} [u : UL P T (.slice E)] [t : TI P E s bs] (hx : ev l g x = some (.slice (some ⟨b, o, none⟩) len cap)) (hy : ev l g y = some (.int k i))
    (h0 : 0 ≤ i) (h1 : i < len) (hd : Nat.blt d n.sz = true) (hn : look g d = none)
    (h : J P ops rest n ((d, .pointer (some ⟨b, o + i.toNat * s, none⟩)) :: l) g L Q) : J P ops (⟨some d, .indexAddr T x y, ty, pos, aft, none⟩ :: rest) n l g L Q :=
  J_pure (Y_indexAddr hx hy h0 h1) hd hn h
theorem Y_indexAddrA {T E s bs b o len : Nat} {x y : Operand} {k : IntKind} {i : Int} [u : UL P T (.array len E)] [t : TI P E s bs] (hx : ev l g x = some (.pointer (some ⟨b, o, none⟩))) (hy : ev l g y = some (.int k i))
    (h0 : 0 ≤ i) (h1 : i < len) : Y P n l g L ⟨some d, .indexAddr T x y, ty, pos, aft, none⟩ (.pointer (some ⟨b, o + i.toNat * s, none⟩)) :=
  fun a e w _ => by
    simp only [execOp, e.eval hx, e.eval hy]
    refine run_value ?_
    unfold Instr.indexAt
    rw [run_bind]; simp only [asIntOf, run_pure]
    rw [run_bind, run_underlying u]
    simp only []
    rw [run_bind]; simp only [Instr.sureAddr, run_pure]
    rw [run_bind]; simp only [run_pure]
    rw [run_bind, run_underlying u]
    simp only []
    rw [if_pos ⟨h0, h1⟩, run_bind, run_sizeOf t]
    simp only [run_pure, add_mk]
theorem J_indexAddrA {T E s bs b o len : Nat} {x y : Operand} {k : IntKind} {i : Int} [u : UL P T (.array len E)] [t : TI P E s bs] (hx : ev l g x = some (.pointer (some ⟨b, o, none⟩))) (hy : ev l g y = some (.int k i))
    (h0 : 0 ≤ i) (h1 : i < len) (hd : Nat.blt d n.sz = true) (hn : look g d = none)
    (h : J P ops rest n ((d, .pointer (some ⟨b, o + i.toNat * s, none⟩)) :: l) g L Q) : J P ops (⟨some d, .indexAddr T x y, ty, pos, aft, none⟩ :: rest) n l g L Q :=
  J_pure (Y_indexAddrA hx hy h0 h1) hd hn h
/-- Loads and stores at a place that is no literal. -/
theorem Y_loadX {t b o T lo hi : Nat} {x : Operand} {vs : List Value} {v : Value} [u : SC P t] (hx : ev l g x = some (.pointer (some ⟨b, o, none⟩))) [c : CG L b T vs lo hi] (hv : vs[o]? = some v)
    : Y P n l g L ⟨some d, .load t x, ty, pos, aft, none⟩ (v) :=
  Y_load hx (by rw [nth_eq]; exact hv)
theorem J_loadX {t b o T lo hi : Nat} {x : Operand} {vs : List Value} {v : Value} [u : SC P t] (hx : ev l g x = some (.pointer (some ⟨b, o, none⟩))) [c : CG L b T vs lo hi] (hv : vs[o]? = some v)
    (hd : Nat.blt d n.sz = true) (hn : look g d = none)
    (h : J P ops rest n ((d, v) :: l) g L Q) : J P ops (⟨some d, .load t x, ty, pos, aft, none⟩ :: rest) n l g L Q :=
  J_pure (Y_loadX hx hv) hd hn h
theorem Y_loadAX {t b o T lo hi s bs : Nat} {x : Operand} {vs us : List Value} [u : AG P t] [i : TI P t s bs] (hx : ev l g x = some (.pointer (some ⟨b, o, none⟩))) [c : CG L b T vs lo hi] (hle : o + s ≤ vs.length) (hu : (vs.drop o).take s = us)
    : Y P n l g L ⟨some d, .load t x, ty, pos, aft, none⟩ (.agg us.toArray) :=
  fun a e w s' => by
    simp only [execOp, e.eval hx]
    refine run_value ?_
    unfold Instr.loadAt; rw [run_bind]; simp only [Instr.sureAddr, run_pure]
    rw [run_loadVarA u i (c.out _ s') hle, hu]
theorem J_loadAX {t b o T lo hi s bs : Nat} {x : Operand} {vs us : List Value} [u : AG P t] [i : TI P t s bs] (hx : ev l g x = some (.pointer (some ⟨b, o, none⟩))) [c : CG L b T vs lo hi] (hle : o + s ≤ vs.length) (hu : (vs.drop o).take s = us)
    (hd : Nat.blt d n.sz = true) (hn : look g d = none)
    (h : J P ops rest n ((d, .agg us.toArray) :: l) g L Q) : J P ops (⟨some d, .load t x, ty, pos, aft, none⟩ :: rest) n l g L Q :=
  J_pure (Y_loadAX hx hle hu) hd hn h
theorem J_storeX {t b o T bs : Nat} {x y : Operand} {vs vs' : List Value} {v : Value} {f : HP → List HP} [u : TI P t 1 bs] (hx : ev l g x = some (.pointer (some ⟨b, o, none⟩))) (hy : ev l g y = some v)
    [c : CT L b T vs 0 0 f] (hv : single v = true) (ho : o < vs.length) (hvs : vs.set o v = vs')
    (h : J P ops rest n l g (f (cl b T vs')) Q) : J P ops (⟨none, .store t x y, ty, pos, aft, none⟩ :: rest) n l g L Q :=
  J_storeU (us := [v]) hx hy (by rw [single_cells hv]) rfl (by simp; omega) (by simp [hv]) (by rw [← hvs, ← setAll_cons ho, setAll_nil]) h
theorem J_storeAX {t b o T s bs : Nat} {x y : Operand} {vs us vs' : List Value} {f : HP → List HP} [u : TI P t s bs] (hx : ev l g x = some (.pointer (some ⟨b, o, none⟩))) (hy : ev l g y = some (.agg us.toArray))
    [c : CT L b T vs 0 0 f] (hs : us.length = s) (hc : us.all single = true) (ho : o + us.length ≤ vs.length) (hvs : setAll vs o us = vs')
    (h : J P ops rest n l g (f (cl b T vs')) Q) : J P ops (⟨none, .store t x y, ty, pos, aft, none⟩ :: rest) n l g L Q :=
  J_storeU (us := us) hx hy rfl hs ho hc hvs h

/-- A slice literal. -/
def zeroRow (zs : List Value) (k : Nat) : List Value := (List.range k).map fun i => zs.getD (i % zs.length) default
theorem zeroRow_eq (zs : List Value) (k : Nat) : ((Array.range k).map fun i => zs.toArray[i % zs.toArray.size]!) = (zeroRow zs k).toArray := by
  apply Array.ext'
  simp [zeroRow]
theorem run_newRow {E : Nat} {vs : List Value} (w : World) : (newRow E vs.toArray).run P w = .ok ⟨w.heap.size, 0, none⟩ (w.alloc (.cells vs.toArray E)) := by
  unfold newRow; rw [run_bind]; simp only [newObj, Sem.run, run_pure]; rfl
theorem J_newL {op : Op} {T : Nat} {vs : List Value} {len cap : Nat} (hv : ∀ a, EnvOk n l g a → ∀ w, Sat w L → (execOp a.eval ⟨some d, op, ty, pos, aft, none⟩).run P w = .ok (.value (.slice (some ⟨w.heap.size, 0, none⟩) len cap)) (w.alloc (.cells vs.toArray T)))
    (hd : Nat.blt d n.sz = true) (hn : look g d = none) (h : ∀ b, J P ops rest n ((d, .slice (some ⟨b, 0, none⟩) len cap) :: l) g (cl b T vs :: L) Q) : J P ops (⟨some d, op, ty, pos, aft, none⟩ :: rest) n l g L Q := by
  intro a w e s
  refine wpL_plain rfl fun K hK => ?_
  unfold Oper.wp
  rw [hv a e w s, Oper.upon_value]
  exact hK _ _ (h w.heap.size _ _ (e.putl hd hn _) (s.alloc _))
theorem J_buildSlice {T E s bs k : Nat} {parts : Array (Nat × Operand)} {zs out : List Value} {vs : List (Nat × Value)} [u : UL P T (.slice E)] [i : TI P E s bs] [z : TZ P E zs] (hv : evp l g parts.toList = some vs)
    (hk : Nat.blt 0 (k * s) = true) (hk2 : Nat.ble (k * s) 16777216 = true)
    (hf : fillL (fun i => some (i * s, s)) (zeroRow zs (k * s)) vs = some out) (hd : Nat.blt d n.sz = true) (hn : look g d = none)
    (h : ∀ b, J P ops rest n ((d, .slice (some ⟨b, 0, none⟩) k k) :: l) g (cl b E out :: L) Q) : J P ops (⟨some d, .buildSlice T k parts, ty, pos, aft, none⟩ :: rest) n l g L Q :=
  J_newL (fun a e w _ => by
    have h4 : parts.map (fun (i, x) => (i, a.eval x)) = vs.toArray := by
      apply Array.ext'; rw [Array.toList_map]; exact e.evalp hv
    have hk' : 0 < k * s := Nat.le_of_ble_eq_true hk
    have hk2' : k * s ≤ 16777216 := Nat.le_of_ble_eq_true hk2
    simp only [execOp, h4]
    refine run_value ?_
    unfold Instr.buildSlice
    rw [run_bind, run_underlying u]
    simp only []
    rw [run_bind, run_sizeOf i]
    simp only []
    rw [if_neg (by omega)]
    obtain ⟨z0, hz, hc⟩ := run_zero z w
    rw [if_neg (by omega), run_bind, hz]
    simp only []
    rw [run_bind]
    simp only [run_pure, hc, zeroRow_eq]
    rw [fill_eq hf]
    simp only []
    rw [run_bind, run_newRow]; rfl) hd hn h
/-- make. -/
theorem J_makeSlice {T E s bs : Nat} {x y : Operand} {zs : List Value} {k : IntKind} {i : Int} [u : UL P T (.slice E)] [t : TI P E s bs] [z : TZ P E zs] (hx : ev l g x = some (.int k i)) (hy : ev l g y = some (.int k i))
    (h0 : 0 ≤ i) (h1 : i * bs ≤ 140737488355328) (h2 : 0 < bs) (hd : Nat.blt d n.sz = true) (hn : look g d = none)
    (h : ∀ b, J P ops rest n ((d, .slice (some ⟨b, 0, none⟩) i.toNat i.toNat) :: l) g (cl b E (zeroRow zs (i.toNat * s)) :: L) Q) : J P ops (⟨some d, .makeSlice T x y, ty, pos, aft, none⟩ :: rest) n l g L Q :=
  J_newL (fun a e w _ => by
    have hi : i ≤ 140737488355328 := by
      have : i * 1 ≤ i * (bs : Int) := Int.mul_le_mul_of_nonneg_left (by omega) h0
      omega
    have hw : IntKind.i64.wrap i = i := wrap64_in (by omega)
    simp only [execOp, e.eval hx, e.eval hy]
    refine run_value ?_
    unfold Instr.makeSlice
    rw [run_bind, run_underlying u]
    simp only []
    rw [run_bind]; simp only [asInt]; rw [run_bind]; simp only [asIntOf, run_pure]
    rw [run_bind, run_bind]; simp only [run_pure]
    obtain ⟨ti, hti, _, hb, _⟩ := run_info t w
    rw [run_bind, hti]
    simp only [hw, hb]
    have hm : (bs : Int) * i ≤ 140737488355328 := by rw [Int.mul_comm]; exact h1
    rw [if_neg (by simp; refine ⟨⟨by omega, ?_⟩, by omega⟩; omega)]
    rw [run_bind]
    have hr : (askRoom (i.toNat * bs)).run P w = .ok () w := by
      unfold askRoom roomBytes
      rw [if_neg]
      · rfl
      · have : ((i.toNat * bs : Nat) : Int) = i * bs := by rw [Int.natCast_mul]; congr 1; omega
        omega
    rw [hr]
    simp only []
    rw [run_bind, run_sizeOf t]
    simp only []
    obtain ⟨z0, hz, hc⟩ := run_zero z w
    by_cases hn0 : i.toNat * s = 0
    · rw [if_pos hn0, run_bind]
      simp only [run_pure]
      rw [run_bind]
      have e0 : ((Array.range (i.toNat * s)).map fun i => (#[] : Array Value)[i % (#[] : Array Value).size]!) = (zeroRow zs (i.toNat * s)).toArray := by rw [hn0]; simp [zeroRow]
      rw [e0, run_newRow]; rfl
    · rw [if_neg hn0, run_bind, hz]
      simp only []
      rw [run_bind]
      simp only [run_pure, hc, zeroRow_eq]
      rw [run_bind, run_newRow]; rfl) hd hn h
theorem zeroRow_one (z : Value) (k : Nat) : zeroRow [z] k = List.replicate k z := by
  unfold zeroRow
  apply List.ext_getElem?
  intro i
  by_cases h : i < k
  · simp [h, Nat.mod_one]
  · simp [h]
/-- Bytes as a text. -/
theorem byv_map (cs : List UInt8) : cs.map byv = (cs.map (fun b => (b.toNat : Int))).map (Value.int .u8) := by
  rw [List.map_map]; rfl
theorem Y_bytesToStr {s t E b o len cap T lo hi : Nat} {x : Operand} {vs : List Value} {cs : List UInt8} [u : UL P s (.slice E)] [u2 : UL P E (.int .u8)] [v : UL P t .string] (hx : ev l g x = some (.slice (some ⟨b, o, none⟩) len cap))
    [c : CG L b T vs lo hi] (hle : o + len ≤ vs.length) (hcs : (vs.drop o).take len = cs.map byv) : Y P n l g L ⟨some d, .convert s t x, ty, pos, aft, none⟩ (.string (S cs)) :=
  fun a e w s' => by
    simp only [execOp, e.eval hx]
    refine run_value ?_
    rw [run_convert_bytes_string w s t E _ len cap u.out u2.out v.out]
    have h1 := run_loadCells (P := P) (c.out _ s') hle
    rw [hcs, byv_map] at h1
    rw [run_bytesToString w _ len cap _ h1, foldl_push_byteCells]
    have he0 : ByteArray.empty.data = #[] := rfl
    rw [he0]; simp
theorem J_bytesToStr {s t E b o len cap T lo hi : Nat} {x : Operand} {vs : List Value} {cs : List UInt8} [u : UL P s (.slice E)] [u2 : UL P E (.int .u8)] [v : UL P t .string] (hx : ev l g x = some (.slice (some ⟨b, o, none⟩) len cap))
    [c : CG L b T vs lo hi] (hle : o + len ≤ vs.length) (hcs : (vs.drop o).take len = cs.map byv) (hd : Nat.blt d n.sz = true) (hn : look g d = none)
    (h : J P ops rest n ((d, .string (S cs)) :: l) g L Q) : J P ops (⟨some d, .convert s t x, ty, pos, aft, none⟩ :: rest) n l g L Q :=
  J_pure (Y_bytesToStr hx hle hcs) hd hn h
theorem Y_bytesToStr0 {s t E cap : Nat} {x : Operand} [u : UL P s (.slice E)] [u2 : UL P E (.int .u8)] [v : UL P t .string] (hx : ev l g x = some (.slice none 0 cap)) : Y P n l g L ⟨some d, .convert s t x, ty, pos, aft, none⟩ (.string (S [])) :=
  fun a e w s' => by
    simp only [execOp, e.eval hx]
    refine run_value ?_
    rw [run_convert_bytes_string w s t E _ 0 cap u.out u2.out v.out]; rfl
theorem J_bytesToStr0 {s t E cap : Nat} {x : Operand} [u : UL P s (.slice E)] [u2 : UL P E (.int .u8)] [v : UL P t .string] (hx : ev l g x = some (.slice none 0 cap)) (hd : Nat.blt d n.sz = true) (hn : look g d = none)
    (h : J P ops rest n ((d, .string (S [])) :: l) g L Q) : J P ops (⟨some d, .convert s t x, ty, pos, aft, none⟩ :: rest) n l g L Q :=
  J_pure (Y_bytesToStr0 hx) hd hn h
/-- A text as bytes. -/
theorem bytesRow_S (a : List UInt8) (c : Nat) : bytesRow (S a) c = (a.map byv ++ List.replicate (c - a.length) (Value.int .u8 0)).toArray := by
  unfold bytesRow
  apply Array.ext'
  have : (S a).size = a.length := rfl
  simp only [this, Array.toList_append, Array.toList_map, Array.toList_replicate]; rfl
theorem J_strToBytes {s t E : Nat} {x : Operand} {a : List UInt8} [u : UL P s .string] [v : UL P t (.slice E)] [u2 : UL P E (.int .u8)] (hx : ev l g x = some (.string (S a))) (hd : Nat.blt d n.sz = true) (hn : look g d = none)
    (h : ∀ b cap sp k, J P ops rest n ((d, .slice (some ⟨b, 0, none⟩) a.length cap) :: l) g (clf b E (a.map byv ++ sp) k (k + 1) :: L) Q) : J P ops (⟨some d, .convert s t x, ty, pos, aft, none⟩ :: rest) n l g L Q := by
  intro a' w e sa
  refine wpL_plain rfl fun K hK => ?_
  unfold Oper.wp
  simp only [execOp, e.eval hx]
  rw [run_value (run_bytes_of_string w s t E (S a) u.out v.out u2.out), Oper.upon_value]
  rw [bytesRow_S]
  have h2 : Sat w.drew L := sa.of_heap rfl
  exact hK _ _ (h w.heap.size _ _ _ _ _ (e.putl hd hn _) (h2.alloc _))

/-- Bits, by the model's own word. -/
def bitI (op : BinOp) (k : IntKind) (x y : Int) : Int :=
  match op with
  | .and => k.wrap (BitVec.ofInt k.bits x &&& BitVec.ofInt k.bits y).toNat
  | .or => k.wrap (BitVec.ofInt k.bits x ||| BitVec.ofInt k.bits y).toNat
  | .xor => k.wrap (BitVec.ofInt k.bits x ^^^ BitVec.ofInt k.bits y).toNat
  | .andNot => k.wrap (BitVec.ofInt k.bits x &&& ~~~ BitVec.ofInt k.bits y).toNat
  | _ => 0
def isBit : BinOp → Bool
  | .and | .or | .xor | .andNot => true
  | _ => false
theorem Y_bits {op : BinOp} {T T' : Nat} {x y : Operand} {k : IntKind} {i j : Int} (hx : ev l g x = some (.int k i)) (hy : ev l g y = some (.int k j)) (hb : isBit op = true) : Y P n l g L ⟨some d, .binOp op T x y T', ty, pos, aft, none⟩ (.int k (bitI op k i j)) :=
  Y_bin hx hy (by rintro _ _ ⟨h, _⟩; cases h) (by rintro ⟨h, _⟩; cases h) (fun w _ => by
    cases op <;> first
      | (cases hb; done)
      | (simp only [binOp]; rw [if_neg (by simp)]; simp only [Op.intBits]; rfl))
theorem J_bits {op : BinOp} {T T' : Nat} {x y : Operand} {k : IntKind} {i j : Int} (hx : ev l g x = some (.int k i)) (hy : ev l g y = some (.int k j)) (hb : isBit op = true) (hd : Nat.blt d n.sz = true) (hn : look g d = none)
    (h : J P ops rest n ((d, .int k (bitI op k i j)) :: l) g L Q) : J P ops (⟨some d, .binOp op T x y T', ty, pos, aft, none⟩ :: rest) n l g L Q :=
  J_pure (Y_bits hx hy hb) hd hn h
theorem xor8 (c e : UInt8) : bitI .xor .u8 (c.toNat : Int) (e.toNat : Int) = ((c ^^^ e).toNat : Int) := by
  show IntKind.u8.wrap ((BitVec.ofInt 8 (c.toNat : Int) ^^^ BitVec.ofInt 8 (e.toNat : Int)).toNat : Int) = _
  rw [BitVec.ofInt_natCast, BitVec.ofInt_natCast, BitVec.toNat_xor, BitVec.toNat_ofNat, BitVec.toNat_ofNat, UInt8.toNat_xor]
  have h1 := c.toNat_lt
  have h2 := e.toNat_lt
  rw [Nat.mod_eq_of_lt (by omega), Nat.mod_eq_of_lt (by omega), IntKind.wrap_u8]
  have h3 : c.toNat ^^^ e.toNat < 2 ^ 8 := Nat.xor_lt_two_pow (by omega) (by omega)
  omega
theorem Y_xor8 {T T' : Nat} {x y : Operand} {c e : UInt8} (hx : ev l g x = some (byv c)) (hy : ev l g y = some (byv e)) : Y P n l g L ⟨some d, .binOp .xor T x y T', ty, pos, aft, none⟩ (byv (c ^^^ e)) := by
  have h := Y_bits (P := P) (n := n) (L := L) (op := .xor) (T := T) (T' := T') (d := d) (ty := ty) (pos := pos) (aft := aft) hx hy rfl
  rw [xor8] at h
  exact h
theorem Y_conv8 {s t : Nat} {x : Operand} {i : Int} {ds : TypeDesc} [u : UL P s ds] [v : UL P t (.int .u8)] (hx : ev l g x = some (.int .i64 i)) (h0 : 0 ≤ i) : Y P n l g L ⟨some d, .convert s t x, ty, pos, aft, none⟩ (byv (UInt8.ofNat i.toNat)) := by
  have h := Y_conv (ds := ds) (s := s) (P := P) (n := n) (L := L) (t := t) (k' := .u8) (d := d) (ty := ty) (pos := pos) (aft := aft) hx
  have e : IntKind.u8.wrap i = ((UInt8.ofNat i.toNat).toNat : Int) := by
    rw [IntKind.wrap_u8]
    simp only [UInt8.toNat_ofNat']
    omega
  rw [e] at h
  exact h
/-- Division by a number that is not nought. -/
def divI (op : BinOp) (k : IntKind) (x y : Int) : Option Int :=
  match op with
  | .quo => some (k.wrap (x.tdiv y))
  | .rem => some (x.tmod y)
  | _ => none
theorem Y_div {op : BinOp} {T T' : Nat} {x y : Operand} {k : IntKind} {i j r : Int} (hx : ev l g x = some (.int k i)) (hy : ev l g y = some (.int k j)) (hb : divI op k i j = some r) (hj : ¬ j = 0) : Y P n l g L ⟨some d, .binOp op T x y T', ty, pos, aft, none⟩ (.int k r) :=
  Y_bin hx hy (by rintro _ _ ⟨h, _⟩; cases h) (by rintro ⟨h, _⟩; cases h) (fun w _ => by
    cases op <;> simp only [divI] at hb <;> first
      | (cases hb; done)
      | (cases hb; simp only [binOp]; rw [if_neg (by simp)]; simp only [Op.intDiv]; rw [if_neg hj]; rfl))
theorem J_div {op : BinOp} {T T' : Nat} {x y : Operand} {k : IntKind} {i j r : Int} (hx : ev l g x = some (.int k i)) (hy : ev l g y = some (.int k j)) (hb : divI op k i j = some r) (hj : ¬ j = 0) (hd : Nat.blt d n.sz = true) (hn : look g d = none)
    (h : J P ops rest n ((d, .int k r) :: l) g L Q) : J P ops (⟨some d, .binOp op T x y T', ty, pos, aft, none⟩ :: rest) n l g L Q :=
  J_pure (Y_div hx hy hb hj) hd hn h
/-- Of numbers that are not below nought. -/
theorem Y_quo {T T' : Nat} {x y : Operand} {i j : Int} (hx : ev l g x = some (.int .i64 i)) (hy : ev l g y = some (.int .i64 j)) (h0 : 0 ≤ i ∧ i < 9223372036854775808) (hj : 0 < j) : Y P n l g L ⟨some d, .binOp .quo T x y T', ty, pos, aft, none⟩ (.int .i64 (i / j)) :=
  Y_div (r := i / j) hx hy (by
    have e : i.tdiv j = i / j := Int.tdiv_eq_ediv_of_nonneg h0.1
    have h1 : 0 ≤ i / j := Int.ediv_nonneg h0.1 (by omega)
    have h2 : i / j ≤ i := Int.ediv_le_self j h0.1
    simp only [divI, e]
    rw [wrap64_in (by omega)]) (by omega)
theorem J_quo {T T' : Nat} {x y : Operand} {i j : Int} (hx : ev l g x = some (.int .i64 i)) (hy : ev l g y = some (.int .i64 j)) (h0 : 0 ≤ i ∧ i < 9223372036854775808) (hj : 0 < j) (hd : Nat.blt d n.sz = true) (hn : look g d = none)
    (h : J P ops rest n ((d, .int .i64 (i / j)) :: l) g L Q) : J P ops (⟨some d, .binOp .quo T x y T', ty, pos, aft, none⟩ :: rest) n l g L Q :=
  J_pure (Y_quo hx hy h0 hj) hd hn h
theorem Y_rem {T T' : Nat} {x y : Operand} {k : IntKind} {i j : Int} (hx : ev l g x = some (.int k i)) (hy : ev l g y = some (.int k j)) (h0 : 0 ≤ i) (hj : 0 < j) : Y P n l g L ⟨some d, .binOp .rem T x y T', ty, pos, aft, none⟩ (.int k (i % j)) :=
  Y_div (r := i % j) hx hy (by simp only [divI]; rw [Int.tmod_eq_emod_of_nonneg h0]) (by omega)
theorem J_rem {T T' : Nat} {x y : Operand} {k : IntKind} {i j : Int} (hx : ev l g x = some (.int k i)) (hy : ev l g y = some (.int k j)) (h0 : 0 ≤ i) (hj : 0 < j) (hd : Nat.blt d n.sz = true) (hn : look g d = none)
    (h : J P ops rest n ((d, .int k (i % j)) :: l) g L Q) : J P ops (⟨some d, .binOp .rem T x y T', ty, pos, aft, none⟩ :: rest) n l g L Q :=
  J_pure (Y_rem hx hy h0 hj) hd hn h
/-- Shifts. -/
def shI (op : BinOp) (k : IntKind) (x : Int) (y : Nat) : Option Int :=
  match op with
  | .shl => some (k.wrap (x * 2 ^ (min y k.bits)))
  | .shr => some (x.fdiv (2 ^ (min y k.bits)))
  | _ => none
theorem Y_shift {op : BinOp} {T T' : Nat} {x y : Operand} {k k' : IntKind} {i j r : Int} (hx : ev l g x = some (.int k i)) (hy : ev l g y = some (.int k' j)) (hb : shI op k i j.toNat = some r) (hj : ¬ j < 0) : Y P n l g L ⟨some d, .binOp op T x y T', ty, pos, aft, none⟩ (.int k r) :=
  Y_bin hx hy (by rintro _ _ ⟨h, _⟩; cases h) (by rintro ⟨h, _⟩; cases h) (fun w _ => by
    cases op <;> simp only [shI] at hb <;> first
      | (cases hb; done)
      | (cases hb; simp only [binOp, Op.shift]; rw [if_neg hj]; rfl))
theorem J_shift {op : BinOp} {T T' : Nat} {x y : Operand} {k k' : IntKind} {i j r : Int} (hx : ev l g x = some (.int k i)) (hy : ev l g y = some (.int k' j)) (hb : shI op k i j.toNat = some r) (hj : ¬ j < 0) (hd : Nat.blt d n.sz = true) (hn : look g d = none)
    (h : J P ops rest n ((d, .int k r) :: l) g L Q) : J P ops (⟨some d, .binOp op T x y T', ty, pos, aft, none⟩ :: rest) n l g L Q :=
  J_pure (Y_shift hx hy hb hj) hd hn h
theorem Y_neg {T : Nat} {x : Operand} {k : IntKind} {i : Int} (hx : ev l g x = some (.int k i)) : Y P n l g L ⟨some d, .unOp .neg T x, ty, pos, aft, none⟩ (.int k (k.wrap (0 - i))) :=
  fun a e w _ => by simp only [execOp, e.eval hx, Op.unary]; rfl
theorem J_neg {T : Nat} {x : Operand} {k : IntKind} {i : Int} (hx : ev l g x = some (.int k i)) (hd : Nat.blt d n.sz = true) (hn : look g d = none)
    (h : J P ops rest n ((d, .int k (k.wrap (0 - i))) :: l) g L Q) : J P ops (⟨some d, .unOp .neg T x, ty, pos, aft, none⟩ :: rest) n l g L Q :=
  J_pure (Y_neg hx) hd hn h
end
end Go.Proofs.Sol

/- More rules: append, maps from integers to texts. -/
namespace Go.Proofs.Sol
open Go

/-- A slice that the program made: its elements' cells. -/
def own (v : Value) (E k : Nat) (xs : List Value) : HP := fun h =>
  (v = .slice none 0 0 ∧ xs = []) ∨
  ∃ b len cap sp, v = .slice (some ⟨b, 0, none⟩) len cap ∧ xs.length = len * k ∧ xs.length + sp.length = cap * k ∧ clf b E (xs ++ sp) 0 0 h
instance (v : Value) (E k : Nat) (xs : List Value) : Up (own v E k xs) := ⟨fun h h' f e => by
  rcases e with e | ⟨b, len, cap, sp, h1, h2, h3, h4⟩
  · exact .inl e
  · exact .inr ⟨b, len, cap, sp, h1, h2, h3, f _ _ h4⟩⟩
theorem own_nil (E k : Nat) (h : PH) : own (.slice none 0 0) E k [] h := .inl ⟨rfl, rfl⟩
/-- Open: nil, or a block. -/
theorem Sat.own {w : World} {v : Value} {E k : Nat} {xs : List Value} {L : List HP} (s : Sat w (own v E k xs :: L)) :
    (v = .slice none 0 0 ∧ xs = []) ∨ ∃ b len cap sp, v = .slice (some ⟨b, 0, none⟩) len cap ∧ xs.length = len * k ∧ xs.length + sp.length = cap * k ∧ Sat w (cl b E (xs ++ sp) :: L) := by
  obtain ⟨h1, h2, s1, e, hL⟩ := s
  rcases e with e | ⟨b, len, cap, sp, e1, e2, e3, e4⟩
  · exact .inl e
  · exact .inr ⟨b, len, cap, sp, e1, e2, e3, h1, h2, s1, e4, hL⟩
theorem own_mk {b len cap E k : Nat} {xs sp : List Value} (h1 : xs.length = len * k) (h2 : xs.length + sp.length = cap * k) {h : PH} (e : clf b E (xs ++ sp) 0 0 h) :
    own (.slice (some ⟨b, 0, none⟩) len cap) E k xs h := .inr ⟨b, len, cap, sp, rfl, h1, h2, e⟩
theorem Sat.own_single {w : World} {v : Value} {E k : Nat} {xs : List Value} {L : List HP} (s : Sat w (Sol.own v E k xs :: L)) : single v = true := by
  obtain ⟨h1, h2, s1, e, hL⟩ := s
  rcases e with ⟨rfl, _⟩ | ⟨b, len, cap, sp, rfl, _⟩ <;> rfl
theorem Sat.own_mk {w : World} {b len cap E k : Nat} {xs sp : List Value} {L : List HP} (s : Sat w (cl b E (xs ++ sp) :: L)) (h1 : xs.length = len * k) (h2 : xs.length + sp.length = cap * k) :
    Sat w (Sol.own (.slice (some ⟨b, 0, none⟩) len cap) E k xs :: L) := s.conv fun _ e => Sol.own_mk h1 h2 e
theorem Sat.own_nil {w : World} {E k : Nat} {L : List HP} (s : Sat w L) : Sat w (Sol.own (.slice none 0 0) E k [] :: L) :=
  ⟨fun _ => none, hp w, Split.empty _, .inl ⟨rfl, rfl⟩, s⟩

section
variable {P : Program} {ops : Array Oper} {rest : List Oper} {n : NT} {l g : Env} {L M : List HP} {Q : QT} {d ty : Nat} {pos : String} {aft : Array Edge}
theorem growBy_le (need : Nat) : ∀ r c, c ≤ 2 * need + 256 → (c < need → c + (c + 768) / 4 ≤ 2 * need + 256) → Builtin.growBy need r c ≤ 2 * need + 256
  | 0, _, h, _ => h
  | r + 1, c, h, h2 => by
    unfold Builtin.growBy
    split
    · exact h
    · rename_i hc
      refine growBy_le need r _ (h2 (by omega)) (fun hlt => by omega)
theorem next_le {need cap : Nat} (h : cap < need) : Builtin.nextslicecap need cap ≤ 2 * need + 256 := by
  unfold Builtin.nextslicecap
  split
  · omega
  · split
    · omega
    · exact growBy_le need 4 cap (by omega) (fun _ => by omega)
theorem run_choose_cap {need old E : Nat} {w : World} : ∃ c, (choose (.appendCap need old E)).run P w = .ok c w.drew ∧ need ≤ c := by
  unfold choose
  simp only [Sem.run, Question.forced, Bool.false_eq_true, if_false]
  exact ⟨_, rfl, by simp [Question.cut]⟩
theorem run_askRoom (k : Nat) (w : World) : (askRoom k).run P w = .ok () w := by
  unfold askRoom; split <;> rfl
/-- nil, or a slice of some capacity. -/
def capOk : Value → Bool
  | .slice (some _) _ cap => cap != 0
  | _ => true
/-- The cells of what is appended. -/
structure News (P : Program) (w : World) (x : Value) (k m : Nat) (ys : List Value) : Prop where
  len : ∀ w', (Builtin.lenOf x).run P w' = .ok m w'
  load : ∀ w' : World, w'.heap = w.heap → (Builtin.firstCells k m x).run P w' = .ok ys.toArray w'
  many : ys.length = m * k
theorem News.slice {w : World} {b o m cap T lo hi k : Nat} {zs ys : List Value} (h : w.heap[b]? = some (.cells zs.toArray T (lo, hi))) (hle : o + m * k ≤ zs.length) (hys : (zs.drop o).take (m * k) = ys) : News P w (.slice (some ⟨b, o, none⟩) m cap) k m ys :=
  ⟨fun _ => rfl, fun w' hw => by
    have h' : w'.heap[b]? = _ := hw ▸ h
    unfold Builtin.firstCells
    rw [run_loadCells h' hle, hys], by rw [← hys]; simp; omega⟩
theorem News.none {w : World} {cap k : Nat} : News P w (.slice none 0 cap) k 0 [] := ⟨fun _ => rfl, fun _ _ => rfl, by simp⟩
theorem News.str {w : World} {a : List UInt8} : News P w (.string (S a)) 1 a.length (a.map byv) :=
  ⟨fun _ => rfl, fun w' _ => by
    show Sem.run P (pure _) w' = _
    rw [run_pure]
    have e : (S a).extract 0 a.length = S a := by rw [extract_S, List.take_length]; rfl
    rw [e]
    show Result.ok (Array.map _ a.toArray) w' = _
    rw [List.map_toArray]; rfl, by simp⟩
theorem News.own {w : World} {v : Value} {E k : Nat} {xs : List Value} {L : List HP} (s : Sat w (own v E k xs :: L)) : ∃ m, News P w v k m xs := by
  rcases s.own with ⟨rfl, rfl⟩ | ⟨b, len, cap, sp, rfl, e2, e3, s'⟩
  · exact ⟨0, News.none⟩
  · exact ⟨len, News.slice s'.cell (by rw [List.length_append]; omega) (by rw [List.drop_zero, ← e2, List.take_left']; rfl)⟩
theorem run_append {sT xT E k bs m : Nat} {v x : Value} {xs ys : List Value} {zs : List Value} [u : UL P sT (.slice E)] {X : TypeDesc} [u2 : UL P xT X] (hX : ∀ k, X ≠ .int k) [i : TI P E k bs] [z : TZ P E zs] {w : World} (s : Sat w (own v E k xs :: L))
    (hzk : zs.length = k) (hk : 0 < k) (hbs : 0 < bs) (hx : News P w x k m ys) (hsz : (2 * (xs.length + m) + 256) * bs ≤ 281474976710656) (hsg : ys.all single = true) (tys : TypeId) :
    ∃ v' w', (Builtin.append_ #[sT, xT] tys #[v, x]).run P w = .ok v' w' ∧ Sat w' (own v' E k (xs ++ ys) :: L) ∧ (capOk v = true → capOk v' = true) := by
  have hyl : ys.length = m * k := hx.many
  unfold Builtin.append_
  simp only [List.getElem?_toArray, List.getElem?_cons_zero, List.getElem?_cons_succ]
  rw [run_bind, run_underlying u]
  simp only []
  have hv : ∃ base sLen sCap, v = .slice base sLen sCap := by
    rcases s.own with ⟨e, _⟩ | ⟨b, len, cap, sp, e, _⟩
    · exact ⟨_, _, _, e⟩
    · exact ⟨_, _, _, e⟩
  obtain ⟨base, sLen, sCap, rfl⟩ := hv
  simp only []
  rw [run_bind, run_sizeOf i]
  simp only []
  rw [run_bind, run_underlying u2]
  simp only []
  rw [run_bind]
  simp only [run_pure, Bool.false_eq_true, if_false]
  rw [run_bind]
  rw [hx.len]
  simp only []
  obtain ⟨ti, hti, _, htb, _⟩ := run_info i w
  have hload : (Builtin.firstCells k m x).run P w = .ok ys.toArray w := hx.load w rfl
  by_cases hroom : sLen + m ≤ sCap
  · rw [if_pos hroom]
    simp only [Bool.not_false, if_true]
    rw [run_bind, hload]
    simp only []
    rcases s.own with ⟨e1, e2⟩ | ⟨b, len, cap, sp, e1, e2, e3, s'⟩
    · cases e1
      have hm : m = 0 := by omega
      subst hm
      have hy0 : ys = [] := List.eq_nil_of_length_eq_zero (by omega)
      subst hy0
      refine ⟨_, _, rfl, ?_, fun h => h⟩
      rw [e2] at s ⊢
      exact s
    · cases e1
      simp only []
      rw [run_bind, add_mk]
      have hb := s'.cell
      have hst := run_storeCells (P := P) (us := ys) (k := 0) (o := 0 + sLen * k) hb (by
        rw [hyl, List.length_append, e3, Nat.zero_add, Nat.add_zero, ← Nat.add_mul]
        exact Nat.mul_le_mul_right k hroom) hsg
      rw [hst]
      refine ⟨_, _, rfl, ?_, fun h => h⟩
      have e4 : setAll (xs ++ sp) (0 + sLen * k + 0) ys = (xs ++ ys) ++ sp.drop ys.length := by
        rw [Nat.zero_add, Nat.add_zero, ← e2]
        unfold setAll
        simp [List.drop_append]
      rw [e4]
      refine Sat.own_mk (sp := sp.drop ys.length) (s'.set _ rfl) ?_ ?_
      · rw [List.length_append, e2, hyl, Nat.add_mul]
      · rw [List.length_append, List.length_drop, hyl]
        have : (sLen + m) * k ≤ sCap * k := Nat.mul_le_mul_right k hroom
        rw [Nat.add_mul] at this
        omega
  · rw [if_neg hroom]
    have hlen : sLen ≤ xs.length := by
      rcases s.own with ⟨e1, e2⟩ | ⟨b, len, cap, sp, e1, e2, e3, s'⟩
      · cases e1; omega
      · cases e1; rw [e2]; exact Nat.le_mul_of_pos_right _ hk
    have hnx : Builtin.nextslicecap (sLen + m) sCap * bs ≤ 281474976710656 := by
      have h1 := next_le (need := sLen + m) (cap := sCap) (by omega)
      exact Nat.le_trans (Nat.mul_le_mul_right bs (by omega)) hsz
    rw [run_bind, hti]
    simp only [htb]
    rw [if_neg (by simp; omega), run_bind, hti]
    simp only [htb]
    rw [if_neg (by omega), run_bind]
    obtain ⟨c, hc, hcn⟩ := run_choose_cap (P := P) (need := sLen + m) (old := sCap) (E := E) (w := w)
    rw [hc]
    simp only []
    obtain ⟨ti', hti', _, htb', _⟩ := run_info i w.drew
    rw [run_bind, hti']
    simp only []
    rw [run_bind, run_askRoom]
    simp only []
    have hold : (Builtin.firstCells k sLen (.slice base sLen sCap)).run P w.drew = .ok xs.toArray w.drew ∧ xs.length = sLen * k := by
      rcases s.own with ⟨e1, e2⟩ | ⟨b, len, cap, sp, e1, e2, e3, s'⟩
      · cases e1; subst e2; exact ⟨rfl, by simp⟩
      · cases e1
        refine ⟨?_, e2⟩
        unfold Builtin.firstCells
        have hb : w.drew.heap[b]? = _ := s'.cell
        simp only []
        rw [run_loadCells hb (by rw [List.length_append, e2]; omega)]
        congr 2
        rw [List.drop_zero, ← e2, List.take_left']
        rfl
    rw [run_bind, hold.1]
    simp only [Bool.not_false, if_true]
    have hload' : (Builtin.firstCells k m x).run P w.drew = .ok ys.toArray w.drew := hx.load w.drew rfl
    rw [run_bind, hload']
    simp only []
    obtain ⟨z0, hz, hzc⟩ := run_zero z w.drew
    rw [run_bind, hz]
    simp only []
    rw [run_bind]
    have hrow : xs.toArray ++ ys.toArray ++ Builtin.zeroCells z0.cells (c - (sLen + m)) = ((xs ++ ys) ++ (Builtin.zeroCells z0.cells (c - (sLen + m))).toList).toArray := by
      apply Array.ext'; simp
    rw [hrow, run_newRow]
    simp only [run_pure]
    refine ⟨_, _, rfl, ?_, fun _ => by simp only [capOk]; rw [bne_iff_ne]; omega⟩
    have s2 : Sat w.drew (own (.slice base sLen sCap) E k xs :: L) := s.of_heap rfl
    have s3 := (s2.drop).alloc (.cells ((xs ++ ys) ++ (Builtin.zeroCells z0.cells (c - (sLen + m))).toList).toArray E)
    refine Sat.own_mk (sp := (Builtin.zeroCells z0.cells (c - (sLen + m))).toList) s3 ?_ ?_
    · rw [List.length_append, hold.2, hyl, Nat.add_mul]
    · have hzs : z0.cells.size = k := by
        rw [hzc]; simpa using hzk
      rw [List.length_append, hold.2, hyl]
      unfold Builtin.zeroCells
      simp [hzs]
      rw [← Nat.add_mul, ← Nat.add_mul]; congr 1; omega
/-- Of a block: what is appended. -/
theorem J_append {sT xT E k bs m b o cap T lo hi : Nat} {x y : Operand} {v : Value} {xs ys zs qs : List Value} {R : List HP} [u : UL P sT (.slice E)] {X : TypeDesc} [u2 : UL P xT X] [i : TI P E k bs] [z : TZ P E zs]
    (hx : ev l g x = some v) (hy : ev l g y = some (.slice (some ⟨b, o, none⟩) m cap)) [c : CG L b T qs lo hi] (t : Take L (own v E k xs) R) (hX : ∀ k, X ≠ .int k) (hzk : zs.length = k) (hk : 0 < k) (hbs : 0 < bs)
    (hle : o + m * k ≤ qs.length) (hys : (qs.drop o).take (m * k) = ys) (hsz : (2 * (xs.length + m) + 256) * bs ≤ 281474976710656) (hsg : ys.all single = true)
    (hd : Nat.blt d n.sz = true) (hn : look g d = none)
    (h : ∀ v', single v' = true → J P ops rest n ((d, v') :: l) g (own v' E k (xs ++ ys) :: R) Q) : J P ops (⟨some d, .call ⟨.builtin .append, #[x, y], #[sT, xT]⟩, ty, pos, aft, none⟩ :: rest) n l g L Q := by
  intro a w e s
  refine wpL_plain rfl fun K hK => ?_
  unfold Oper.wp
  rw [run_builtin e (vs := [v, .slice (some ⟨b, o, none⟩) m cap]) (by simp only [evl, hx, hy])]
  unfold builtin
  obtain ⟨v', w', hr, hs, hcap⟩ := run_append (P := P) (sT := sT) (xT := xT) hX (s.take t) hzk hk hbs (ys := ys) (News.slice (c.out _ s) hle hys) hsz hsg ty
  simp only []
  rw [run_value hr, Oper.upon_value]
  exact hK _ _ (h v' hs.own_single _ _ (e.putl hd hn _) hs)

/-- Of a text: bytes. -/
theorem J_appendS {sT xT E : Nat} {x y : Operand} {v : Value} {cs ds : List UInt8} {R : List HP} [u : UL P sT (.slice E)] [u2 : UL P xT .string] [i : TI P E 1 1] [z : TZ P E [.int .u8 0]]
    (hx : ev l g x = some v) (hy : ev l g y = some (.string (S ds))) (t : Take L (own v E 1 (cs.map byv)) R) (hsz : cs.length + ds.length ≤ 100000000000000)
    (hd : Nat.blt d n.sz = true) (hn : look g d = none)
    (h : ∀ v', (capOk v = true → capOk v' = true) → single v' = true → J P ops rest n ((d, v') :: l) g (own v' E 1 ((cs ++ ds).map byv) :: R) Q) : J P ops (⟨some d, .call ⟨.builtin .append, #[x, y], #[sT, xT]⟩, ty, pos, aft, none⟩ :: rest) n l g L Q := by
  intro a w e s
  refine wpL_plain rfl fun K hK => ?_
  unfold Oper.wp
  rw [run_builtin e (vs := [v, .string (S ds)]) (by simp only [evl, hx, hy])]
  unfold builtin
  obtain ⟨v', w', hr, hs, hcap⟩ := run_append (P := P) (sT := sT) (xT := xT) (by rintro k ⟨⟩) (s.take t) rfl (by omega) (by omega) (News.str (a := ds)) (by simp; omega) (by simp [byv, single]) ty
  simp only []
  rw [run_value hr, Oper.upon_value]
  rw [← List.map_append] at hs
  exact hK _ _ (h v' hcap hs.own_single _ _ (e.putl hd hn _) hs)
/-- Of a slice that the program made: what is appended to it is one, too. -/
theorem J_appendO {sT xT E k bs : Nat} {x y : Operand} {v v2 : Value} {xs ys zs : List Value} {R R2 : List HP} [u : UL P sT (.slice E)] {X : TypeDesc} [u2 : UL P xT X] [i : TI P E k bs] [z : TZ P E zs]
    (hx : ev l g x = some v) (hy : ev l g y = some v2) (t : Take L (own v E k xs) R) (t2 : Take R (own v2 E k ys) R2) (hX : ∀ k, X ≠ .int k) (hzk : zs.length = k) (hk : 0 < k) (hbs : 0 < bs)
    (hsz : ∀ m, ys.length = m * k → (2 * (xs.length + m) + 256) * bs ≤ 281474976710656) (hsg : ys.all single = true)
    (hd : Nat.blt d n.sz = true) (hn : look g d = none)
    (h : ∀ v', single v' = true → J P ops rest n ((d, v') :: l) g (own v' E k (xs ++ ys) :: R) Q) : J P ops (⟨some d, .call ⟨.builtin .append, #[x, y], #[sT, xT]⟩, ty, pos, aft, none⟩ :: rest) n l g L Q := by
  intro a w e s
  refine wpL_plain rfl fun K hK => ?_
  unfold Oper.wp
  rw [run_builtin e (vs := [v, v2]) (by simp only [evl, hx, hy])]
  unfold builtin
  obtain ⟨m, hm⟩ := News.own (P := P) ((s.take t).drop.take t2)
  obtain ⟨v', w', hr, hs, hcap⟩ := run_append (P := P) (sT := sT) (xT := xT) hX (s.take t) hzk hk hbs hm (hsz m hm.many) hsg ty
  simp only []
  rw [run_value hr, Oper.upon_value]
  exact hK _ _ (h v' hs.own_single _ _ (e.putl hd hn _) hs)

/-- A map from integers to texts, in the order in which its keys came. -/
abbrev Bytes := List UInt8
def ent (m : List (Int × Bytes)) (es : List MapEntry) : Prop := es.map (fun e => (e.key, e.val)) = m.map fun p => (.int .i64 p.1, .string (S p.2))
/-- Each entry has a stamp of its own, of the past. -/
def brn (es : List MapEntry) (clock : Nat) : Prop := (es.map (·.born)).Nodup ∧ ∀ e ∈ es, e.born < clock
def mpI (b : Nat) (m : List (Int × Bytes)) : HP := fun h => ∃ es clock, ent m es ∧ brn es clock ∧ pt b (.map es.toArray clock) h
instance (b : Nat) (m : List (Int × Bytes)) : Up (mpI b m) := ⟨fun _ _ f ⟨es, c, e, e2, h⟩ => ⟨es, c, e, e2, f _ _ h⟩⟩
theorem brn_nil (c : Nat) : brn [] c := ⟨by simp, by simp⟩
theorem brn_snoc {es : List MapEntry} {c : Nat} (h : brn es c) (k v : Value) : brn (es ++ [{ key := k, val := v, born := c }]) (c + 1) := by
  refine ⟨?_, ?_⟩
  · rw [List.map_append, List.nodup_append]
    refine ⟨h.1, by simp, ?_⟩
    intro x hx y hy
    obtain ⟨e, he, rfl⟩ := List.mem_map.1 hx
    have := h.2 e he
    simp at hy
    omega
  · intro e he
    rcases List.mem_append.1 he with h' | h'
    · have := h.2 e h'; omega
    · simp at h'; subst h'; dsimp only; omega
theorem brn_modify {es : List MapEntry} {c : Nat} (h : brn es c) (i : Nat) (f : MapEntry → MapEntry) (hf : ∀ e, (f e).born = e.born) : brn (es.modify i f) c := by
  have e1 : (es.modify i f).map (·.born) = es.map (·.born) := by
    apply List.ext_getElem?
    intro j
    simp only [List.getElem?_map, List.getElem?_modify]
    cases es[j]? with
    | none => rfl
    | some x => by_cases hij : i = j <;> simp [hij, hf]
  refine ⟨by rw [e1]; exact h.1, fun e he => ?_⟩
  have h1 : e.born ∈ (es.modify i f).map (·.born) := List.mem_map.2 ⟨e, he, rfl⟩
  rw [e1] at h1
  obtain ⟨e', he', h2⟩ := List.mem_map.1 h1
  have := h.2 e' he'
  omega
def mget (m : List (Int × Bytes)) (k : Int) : Option Bytes := (m.find? fun p => p.1 == k).map (·.2)
def mput : List (Int × Bytes) → Int → Bytes → List (Int × Bytes)
  | [], k, v => [(k, v)]
  | (j, u) :: m, k, v => if j == k then (j, v) :: m else (j, u) :: mput m k v
theorem mget_mput (m : List (Int × Bytes)) (k j : Int) (v : Bytes) : mget (mput m k v) j = if k = j then some v else mget m j := by
  induction m with
  | nil => simp [mput, mget, List.find?]
  | cons p m ih =>
    obtain ⟨i, u⟩ := p
    unfold mput
    by_cases hik : i = k
    · subst hik
      simp only [beq_self_eq_true, if_true]
      unfold mget
      simp only [List.find?_cons]
      by_cases h : i = j
      · subst h; simp
      · have : (i == j) = false := by simpa using h
        simp [this, h]
    · have e : (i == k) = false := by simpa using hik
      simp only [e, Bool.false_eq_true, if_false]
      unfold mget at ih ⊢
      simp only [List.find?_cons]
      by_cases h : i = j
      · subst h
        simp [Ne.symm hik]
      · have : (i == j) = false := by simpa using h
        simp only [this]
        exact ih
theorem findNow_ent {m : List (Int × Bytes)} {es : List MapEntry} (h : ent m es) (k : Int) (i : Nat) :
    ∃ r, Instr.findNow (.int .i64) (.int .i64 k) es i = some r ∧ r.map (·.2) = (mget m k).map (fun s => .string (S s)) ∧ (∀ j v, r = some (j, v) → i ≤ j ∧ (es[j - i]?).map (·.key) = some (.int .i64 k) ∧ (∀ s, ent (mput m k s) (es.modify (j - i) fun e => { e with key := .int .i64 k, val := .string (S s) }))) ∧
      (r = none → ∀ s c, ent (mput m k s) (es ++ [{ key := .int .i64 k, val := .string (S s), born := c }])) := by
  induction es generalizing m i with
  | nil =>
    cases m with
    | nil => exact ⟨none, rfl, rfl, by simp, fun _ s c => by simp [ent, mput]⟩
    | cons p m => simp [ent] at h
  | cons e es ih =>
    cases m with
    | nil => simp [ent] at h
    | cons p m =>
      obtain ⟨j, u⟩ := p
      have h' : (e.key = .int .i64 j ∧ e.val = .string (S u)) ∧ ent m es := by
        unfold ent at h ⊢
        simpa using h
      obtain ⟨⟨hk, hv⟩, ht⟩ := h'
      unfold Instr.findNow
      simp only [hk, Instr.sameNow, if_true]
      by_cases hjk : k = j
      · subst hjk
        simp only [beq_self_eq_true]
        refine ⟨some (i, e.val), rfl, by simp [mget, hv], ?_, by simp⟩
        rintro j' v' h2
        cases h2
        refine ⟨Nat.le_refl _, by simp [hk], fun s => ?_⟩
        simp only [Nat.sub_self, mput, beq_self_eq_true, if_true, List.modify_zero_cons]
        unfold ent at ht ⊢
        simp [ht]
      · have e1 : (k == j) = false := by simpa using hjk
        have e2 : (j == k) = false := by simpa using Ne.symm hjk
        simp only [e1]
        obtain ⟨r, h1, h2, h3, h4⟩ := ih ht (i + 1)
        refine ⟨r, h1, ?_, ?_, ?_⟩
        · rw [h2]; unfold mget; simp [e2]
        · intro j' v' hr
          obtain ⟨g1, g2, g3⟩ := h3 j' v' hr
          have e3 : j' - i = (j' - (i + 1)) + 1 := by omega
          rw [e3]
          refine ⟨by omega, by simpa using g2, fun s => ?_⟩
          have g4 := g3 s
          simp only [List.modify_succ_cons, mput, e2, Bool.false_eq_true, if_false]
          unfold ent at g4 ⊢
          simp only [List.map_cons, hk, hv, g4]
        · intro hr s c
          have g4 := h4 hr s c
          simp only [mput, e2, Bool.false_eq_true, if_false, List.cons_append]
          unfold ent at g4 ⊢
          simp only [List.map_cons, hk, hv, g4]
theorem ent_length {m : List (Int × Bytes)} {es : List MapEntry} (h : ent m es) : es.length = m.length := by
  have := congrArg List.length h; simpa using this
theorem ent_key {m : List (Int × Bytes)} {es : List MapEntry} (h : ent m es) {i : Nat} {e : MapEntry} (he : es[i]? = some e) : ∃ k, e.key = .int .i64 k := by
  have h1 : (es.map (fun e => (e.key, e.val)))[i]? = some (e.key, e.val) := by simp [he]
  rw [h] at h1
  simp only [List.getElem?_map, Option.map_eq_some_iff] at h1
  obtain ⟨p, _, h2⟩ := h1
  exact ⟨p.1, by injection h2 with h3 _; exact h3.symm⟩
theorem run_checkKey {T : Nat} (u : UL P T (.int .i64)) (b : Bool) (v : Value) (w : World) : (Instr.checkKey b 10000 T v).run P w = .ok () w := by
  show (Instr.checkKey b (9999 + 1) T v).run P w = _
  unfold Instr.checkKey
  rw [run_bind, run_underlying u]; rfl
theorem run_findKey {T : Nat} (u : UL P T (.int .i64)) {k : Value} {es : List MapEntry} {r : Option (Nat × Value)} (h : Instr.findNow (.int .i64) k es 0 = some r) (w : World) : (Instr.findKey T k es).run P w = .ok r w := by
  unfold Instr.findKey
  rw [run_bind, run_underlying u]
  simp only [h]; rfl
theorem run_getObj {w : World} {b : Nat} {es : Array MapEntry} {c : Nat} (h : w.heap[b]? = some (.map es c)) : (getObj b).run P w = .ok (.map es c) w := by
  unfold getObj; simp only [Sem.run, h]
class MG (L : List HP) (b : Nat) (m : outParam (List (Int × Bytes))) : Prop where
  out : ∀ w, Sat w L → ∃ es clock, ent m es ∧ w.heap[b]? = some (.map es.toArray clock)
instance MG_here (L : List HP) (b : Nat) (m : List (Int × Bytes)) : MG (mpI b m :: L) b m := ⟨fun _ s => by
  obtain ⟨h1, h2, s1, ⟨es, cl, he, hbr, hb⟩, hL⟩ := s
  have s' : Sat _ (pt b (.map es.toArray cl) :: L) := ⟨h1, h2, s1, hb, hL⟩
  exact ⟨es, cl, he, s'.cell⟩⟩
instance (priority := 900) MG_next (L : List HP) (p : HP) (b : Nat) (m : List (Int × Bytes)) [c : MG L b m] : MG (p :: L) b m := ⟨fun _ s => c.out _ s.drop⟩
/-- v, ok := m[k]. -/
def lookR (r : Option Bytes) : Value := .tuple #[.string (S (r.getD [])), .bool r.isSome]
theorem Y_lookup {T K V b : Nat} {x y : Operand} {k : Int} {m : List (Int × Bytes)} [u : UL P T (.map K V)] [uk : UL P K (.int .i64)] [z : ZV P V (.string ⟨⟨[]⟩⟩)] (hx : ev l g x = some (.map (some b))) (hy : ev l g y = some (.int .i64 k)) [c : MG L b m]
    : Y P n l g L ⟨some d, .lookup T x y true, ty, pos, aft, none⟩ (lookR (mget m k)) :=
  fun a e w s => by
    simp only [execOp, e.eval hx, e.eval hy]
    refine run_value ?_
    unfold Instr.lookup
    rw [run_bind, run_underlying u]
    simp only []
    obtain ⟨es, cl, he, hb⟩ := c.out _ s
    rw [run_bind, run_getObj (by exact hb)]
    simp only []
    rw [run_bind]
    simp only [run_pure]
    rw [run_bind, run_checkKey uk]
    simp only []
    obtain ⟨r, h1, h2, _, _⟩ := findNow_ent he k 0
    rw [run_bind, run_findKey uk h1]
    cases r with
    | none =>
      have h3 : mget m k = none := by cases hm : mget m k with | none => rfl | some _ => rw [hm] at h2; cases h2
      simp only [h3]
      rw [run_bind, run_zeroV z]
      simp only []
      rw [run_bind]
      simp only [run_pure, if_true]; rfl
    | some q =>
      obtain ⟨i, v⟩ := q
      cases hm : mget m k with
      | none => rw [hm] at h2; cases h2
      | some s =>
        rw [hm] at h2; simp at h2; subst h2
        simp only []
        rw [run_bind]; simp only [run_pure, if_true]; rfl
theorem Y_lookup1 {T K V b : Nat} {x y : Operand} {k : Int} {m : List (Int × Bytes)} [u : UL P T (.map K V)] [uk : UL P K (.int .i64)] [z : ZV P V (.string ⟨⟨[]⟩⟩)] (hx : ev l g x = some (.map (some b))) (hy : ev l g y = some (.int .i64 k)) [c : MG L b m]
    : Y P n l g L ⟨some d, .lookup T x y false, ty, pos, aft, none⟩ (.string (S ((mget m k).getD []))) :=
  fun a e w s => by
    simp only [execOp, e.eval hx, e.eval hy]
    refine run_value ?_
    unfold Instr.lookup
    rw [run_bind, run_underlying u]
    simp only []
    obtain ⟨es, cl, he, hb⟩ := c.out _ s
    rw [run_bind, run_getObj (by exact hb)]
    simp only []
    rw [run_bind]
    simp only [run_pure]
    rw [run_bind, run_checkKey uk]
    simp only []
    obtain ⟨r, h1, h2, _, _⟩ := findNow_ent he k 0
    rw [run_bind, run_findKey uk h1]
    cases r with
    | none =>
      have h3 : mget m k = none := by cases hm : mget m k with | none => rfl | some _ => rw [hm] at h2; cases h2
      simp only [h3]
      rw [run_bind, run_zeroV z]
      simp only []
      rw [run_bind]
      simp only [run_pure, Bool.false_eq_true, if_false]; rfl
    | some q =>
      obtain ⟨i, v⟩ := q
      cases hm : mget m k with
      | none => rw [hm] at h2; cases h2
      | some s =>
        rw [hm] at h2; simp at h2; subst h2
        simp only []
        rw [run_bind]; simp only [run_pure, Bool.false_eq_true, if_false]; rfl
theorem J_lookup {T K V b : Nat} {x y : Operand} {k : Int} {m : List (Int × Bytes)} [u : UL P T (.map K V)] [uk : UL P K (.int .i64)] [z : ZV P V (.string ⟨⟨[]⟩⟩)] (hx : ev l g x = some (.map (some b))) (hy : ev l g y = some (.int .i64 k)) [c : MG L b m]
    (hd : Nat.blt d n.sz = true) (hn : look g d = none)
    (h : J P ops rest n ((d, lookR (mget m k)) :: l) g L Q) : J P ops (⟨some d, .lookup T x y true, ty, pos, aft, none⟩ :: rest) n l g L Q :=
  J_pure (Y_lookup hx hy) hd hn h
/-- m[k] = v. -/
theorem run_mapUpdate {T K V b : Nat} {k : Int} {v : Bytes} {m : List (Int × Bytes)} (u : UL P T (.map K V)) (uk : UL P K (.int .i64)) {w : World} (s : Sat w (mpI b m :: L)) :
    ∃ w', (Instr.mapUpdate T (.map (some b)) (.int .i64 k) (.string (S v))).run P w = .ok () w' ∧ Sat w' (mpI b (mput m k v) :: L) := by
  obtain ⟨h1, h2, s1, ⟨es, cl, he, hbr, hb⟩, hL⟩ := s
  have s' : Sat w (pt b (.map es.toArray cl) :: L) := ⟨h1, h2, s1, hb, hL⟩
  have hb' := s'.cell
  unfold Instr.mapUpdate
  rw [run_bind, run_underlying u]
  simp only []
  rw [run_bind, run_getObj hb']
  simp only []
  rw [run_bind, run_checkKey uk]
  simp only []
  obtain ⟨r, g1, g2, g3, g4⟩ := findNow_ent he k 0
  rw [run_bind, run_findKey uk g1]
  cases r with
  | none =>
    simp only []
    unfold setObj
    simp only [Sem.run, hb']
    refine ⟨_, rfl, ?_⟩
    refine (s'.set (.map (es.toArray.push { key := .int .i64 k, val := .string (S v), born := cl }) (cl + 1)) rfl).conv fun h e => ?_
    exact ⟨es ++ [{ key := .int .i64 k, val := .string (S v), born := cl }], cl + 1, g4 rfl v cl, brn_snoc hbr _ _, by simpa using e⟩
  | some q =>
    obtain ⟨i, x⟩ := q
    obtain ⟨_, hi, g5⟩ := g3 i x rfl
    simp only [Nat.sub_zero] at hi g5
    simp only []
    have hk : ((es.toArray[i]?).map (·.key)).getD (.int .i64 k) = .int .i64 k := by
      rw [List.getElem?_toArray, hi]; rfl
    rw [hk]
    have hsame : (Instr.keyThatStays (.int .i64 k) (.int .i64 k)).run P w = .ok (.int .i64 k) w := by
      unfold Instr.keyThatStays
      rw [if_pos (by simp [Instr.sameBits])]; rfl
    rw [run_bind, hsame]
    simp only []
    unfold setObj
    simp only [Sem.run, hb']
    refine ⟨_, rfl, ?_⟩
    refine (s'.set (.map (es.toArray.modify i fun e => { e with key := .int .i64 k, val := .string (S v) }) cl) rfl).conv fun h e => ?_
    exact ⟨es.modify i fun e => { e with key := .int .i64 k, val := .string (S v) }, cl, g5 v, brn_modify hbr _ _ (fun _ => rfl), by simpa using e⟩
theorem J_mapUpdate {T K V b : Nat} {x y z : Operand} {k : Int} {v : Bytes} {m : List (Int × Bytes)} {R : List HP} [u : UL P T (.map K V)] [uk : UL P K (.int .i64)] (hx : ev l g x = some (.map (some b))) (hy : ev l g y = some (.int .i64 k)) (hz : ev l g z = some (.string (S v))) (t : Take L (mpI b m) R)
    (h : J P ops rest n l g (mpI b (mput m k v) :: R) Q) : J P ops (⟨none, .mapUpdate T x y z, ty, pos, aft, none⟩ :: rest) n l g L Q := by
  intro a w e s
  refine wpL_plain rfl fun K' hK => ?_
  unfold Oper.wp
  obtain ⟨w', h1, h2⟩ := run_mapUpdate (k := k) (v := v) u uk (s.take t)
  simp only [execOp, e.eval hx, e.eval hy, e.eval hz]
  rw [run_skip h1, Oper.upon_skip]
  exact hK _ _ (h _ _ e h2)
theorem J_makeMap {T : Nat} (hd : Nat.blt d n.sz = true) (hn : look g d = none) (h : ∀ b, J P ops rest n ((d, .map (some b)) :: l) g (mpI b [] :: L) Q) : J P ops (⟨some d, .makeMap T none, ty, pos, aft, none⟩ :: rest) n l g L Q := by
  intro a w e s
  refine wpL_plain rfl fun K hK => ?_
  unfold Oper.wp
  have hr : (execOp a.eval ⟨some d, .makeMap T none, ty, pos, aft, none⟩).run P w = .ok (.value (.map (some w.heap.size))) (w.alloc (.map #[] 0)) := rfl
  rw [hr, Oper.upon_value]
  refine hK _ _ (h w.heap.size _ _ (e.putl hd hn _) ((s.alloc _).conv fun h e => ⟨[], 0, rfl, brn_nil _, e⟩))
theorem Y_len_map {x : Operand} {t K V b : Nat} {m : List (Int × Bytes)} [u : UL P t (.map K V)] (hx : ev l g x = some (.map (some b))) [c : MG L b m] : Y P n l g L ⟨some d, .call ⟨.builtin .len, #[x], #[t]⟩, ty, pos, aft, none⟩ (.int .i64 (m.length : Int)) :=
  fun a' e w s => by
    rw [run_builtin e (vs := [.map (some b)]) (by simp only [evl, hx])]
    unfold builtin
    refine run_value ?_
    unfold Builtin.len_
    simp only [List.getElem?_toArray, List.getElem?_cons_zero]
    rw [run_bind, run_underlying u]
    simp only []
    obtain ⟨es, cl, he, hb⟩ := c.out _ s
    rw [run_bind, run_getObj (by exact hb)]
    simp only [run_pure, goInt, List.size_toArray, ent_length he]
theorem J_len_map {x : Operand} {t K V b : Nat} {m : List (Int × Bytes)} [u : UL P t (.map K V)] (hx : ev l g x = some (.map (some b))) [c : MG L b m] (hd : Nat.blt d n.sz = true) (hn : look g d = none)
    (h : J P ops rest n ((d, .int .i64 (m.length : Int)) :: l) g L Q) : J P ops (⟨some d, .call ⟨.builtin .len, #[x], #[t]⟩, ty, pos, aft, none⟩ :: rest) n l g L Q :=
  J_pure (Y_len_map hx) hd hn h
theorem J_clear {x : Operand} {t K V b : Nat} {m : List (Int × Bytes)} {R : List HP} [u : UL P t (.map K V)] (hx : ev l g x = some (.map (some b))) (tk : Take L (mpI b m) R)
    (h : J P ops rest n l g (mpI b [] :: R) Q) : J P ops (⟨none, .call ⟨.builtin .clear, #[x], #[t]⟩, ty, pos, aft, none⟩ :: rest) n l g L Q := by
  intro a w e s
  refine wpL_plain rfl fun K' hK => ?_
  unfold Oper.wp
  obtain ⟨h1, h2, s1, ⟨es, cl, he, hbr, hb⟩, hL⟩ := s.take tk
  have s' : Sat w (pt b (.map es.toArray cl) :: R) := ⟨h1, h2, s1, hb, hL⟩
  have hb' := s'.cell
  have hr : ∀ cs, (builtin .clear #[t] ty cs [Value.map (some b)].toArray).run P w = .ok (.value (.tuple #[])) { w with heap := w.heap.setIfInBounds b (.map #[] cl) } := by
    intro cs
    unfold builtin
    refine run_value ?_
    unfold Builtin.clear_
    simp only [List.getElem?_toArray, List.getElem?_cons_zero]
    rw [run_bind, run_underlying u]
    simp only []
    rw [run_bind, run_getObj hb']
    simp only []
    rw [run_bind]
    unfold setObj
    simp only [Sem.run, hb']
    rfl
  rw [run_builtin e (vs := [.map (some b)]) (by simp only [evl, hx]), hr, Oper.upon_value]
  exact hK _ _ (h _ _ e ((s'.set _ rfl).conv fun h e => ⟨[], cl, rfl, brn_nil _, e⟩))
def mapN : BinOp → Option Nat → Option Bool
  | .eql, none => some true
  | .eql, some _ => some false
  | .neq, none => some false
  | .neq, some _ => some true
  | _, _ => none
theorem Y_map_nil {op : BinOp} {T T' K V : Nat} {x : Operand} {p : Option Nat} {b : Bool} [u : UL P T (.map K V)] (hx : ev l g x = some (.map p)) (hb : mapN op p = some b) : Y P n l g L ⟨some d, .binOp op T x (.const (.map none)) T', ty, pos, aft, none⟩ (.bool b) :=
  Y_bin hx rfl (by rintro _ _ ⟨h, _⟩; cases h) (by rintro ⟨h, _⟩; cases h) (fun w _ => by
    have key : (Op.equal T (.map p) (.map none)).run P w = .ok p.isNone w := by
      unfold Op.equal Op.maxDepth
      show (Op.equalIn (9999 + 1) T (.map p) (.map none)).run P w = _
      unfold Op.equalIn
      rw [run_bind, run_underlying u]
      cases p <;> rfl
    cases op <;> cases p <;> simp only [mapN] at hb <;> first
      | (cases hb; done)
      | (cases hb; simp only [binOp]; rw [run_bind, key]; rfl))
theorem J_map_nil {op : BinOp} {T T' K V : Nat} {x : Operand} {p : Option Nat} {b : Bool} [u : UL P T (.map K V)] (hx : ev l g x = some (.map p)) (hb : mapN op p = some b) (hd : Nat.blt d n.sz = true) (hn : look g d = none)
    (h : J P ops rest n ((d, .bool b) :: l) g L Q) : J P ops (⟨some d, .binOp op T x (.const (.map none)) T', ty, pos, aft, none⟩ :: rest) n l g L Q :=
  J_pure (Y_map_nil hx hb) hd hn h
/-- Function values. -/
theorem Y_makeFunc {f : Go.Fn} {fs cs : Array Operand} {us vs : List Value} (hf : evl l g fs.toList = some us) (hc : evl l g cs.toList = some vs) : Y P n l g L ⟨some d, .makeFunc f fs cs, ty, pos, aft, none⟩ (.func f us.toArray vs.toArray) :=
  fun a e w _ => by
    have h1 : fs.map a.eval = us.toArray := by apply Array.ext'; rw [Array.toList_map]; exact e.evall hf
    have h2 : cs.map a.eval = vs.toArray := by apply Array.ext'; rw [Array.toList_map]; exact e.evall hc
    simp only [execOp, h1, h2]; rfl
theorem J_makeFunc {f : Go.Fn} {fs cs : Array Operand} {us vs : List Value} (hf : evl l g fs.toList = some us) (hc : evl l g cs.toList = some vs) (hd : Nat.blt d n.sz = true) (hn : look g d = none)
    (h : J P ops rest n ((d, .func f us.toArray vs.toArray) :: l) g L Q) : J P ops (⟨some d, .makeFunc f fs cs, ty, pos, aft, none⟩ :: rest) n l g L Q :=
  J_pure (Y_makeFunc hf hc) hd hn h
theorem run_callv {f : FuncId} {t : Nat} {args : Array Operand} {at_ : Array TypeId} {a : Act} {us vs cs : List Value} [u : IsFn P f] (e : EnvOk n l g a) (hf : ev l g (.tmp t) = some (.func (.func f) us.toArray cs.toArray)) (ha : evl l g args.toList = some vs) (dst : Option Nat) (w : World) :
    (execOp a.eval ⟨dst, .call ⟨.value (.tmp t), args, at_⟩, ty, pos, aft, none⟩).run P w = .ok (.enter f (us ++ vs ++ cs).toArray) w := by
  obtain ⟨fn, h1, h2, h3⟩ := u.out
  have h4 : args.map a.eval = vs.toArray := by
    apply Array.ext'; rw [Array.toList_map]; exact e.evall ha
  simp only [execOp]
  rw [run_bind]
  simp only [resolve, e.eval hf, h4]
  simp only [run_pure, Deferred.ofValue, invoke, callFunc]
  rw [run_bind]
  simp only [program, Sem.run, h1, h2, h3, Bool.false_eq_true, if_false, run_pure]
  simp
theorem J_callv {f : FuncId} {t : Nat} {args : Array Operand} {at_ : Array TypeId} {us vs cs all : List Value} {post : Value → World → Prop} [u : IsFn P f] (hf : ev l g (.tmp t) = some (.func (.func f) us.toArray cs.toArray)) (ha : evl l g args.toList = some vs) (hall : us ++ vs ++ cs = all)
    (c : Fn P f all L post) (hd : Nat.blt d n.sz = true) (hn : look g d = none)
    (h : ∀ v w, post v w → JW P ops rest n ((d, v) :: l) g w Q) : J P ops (⟨some d, .call ⟨.value (.tmp t), args, at_⟩, ty, pos, aft, none⟩ :: rest) n l g L Q := by
  intro a w e s
  refine wpL_plain rfl fun K hK => ?_
  unfold Oper.wp
  rw [run_callv e hf ha, Oper.upon_enter, hall]
  refine (c w s).mono ?_
  rintro _ w' ⟨v, rfl, hp⟩
  exact hK _ _ (h v w' hp _ (e.putl hd hn v))
end
end Go.Proofs.Sol

/- A region that draws its order: what only looks is taken first; of the rest each that may come is tried. -/
namespace Go.Proofs.Sol
open Go

section
variable {P : Program} {ops : Array Oper} {Q : QT} {C : World → Prop} {kp : List Nat}
def wpAnyC (P : Program) (ops : Array Oper) (Q : QT) (C : World → Prop) (kp : List Nat) : Nat → Array Bool → Act → World → Prop
  | 0, listed, a, w => Region.ready .any ops listed = [] ∧ Q .normal a w
  | fuel + 1, listed, a, w =>
    (Region.ready .any ops listed = [] → Q .normal a w) ∧
    ∀ i ∈ Region.ready .any ops listed, wpOp P ops Q i (fun a' w' => (kp.contains i = false → C w → C w') ∧ wpAnyC P ops Q C kp fuel (listed.setIfInBounds i true) a' w') a w
theorem wpAny_of_C : ∀ (fuel : Nat) (listed : Array Bool) (a : Act) (w : World), wpAnyC P ops Q C kp fuel listed a w → wpAny P .any ops Q fuel listed a w
  | 0, _, _, _, h => h
  | fuel + 1, _, _, _, h => ⟨h.1, fun i hi => wpOp_mono (fun a' w' h' => wpAny_of_C fuel _ a' w' h'.2) (h.2 i hi)⟩
/-- No panic leads on. -/
def NP (Q : QT) : Prop := ∀ c a w, ¬ Q (.panic c) a w
theorem NP_body {fn : Func} {post : Value → World → Prop} : NP (bodyPost P fn (Ret post)) := fun c a w h => by
  obtain ⟨_, v, hv, _⟩ := h; cases hv
theorem NP_then {K : Act → World → Prop} (h : NP Q) : NP (Exit.then K Q) := h
theorem NP_block {id : Nat} (h : NP Q) : NP (Exit.inBlock id Q) := h
/-- A way on, and no panic. -/
def noP (Q : QT) : QT := fun e a w => (∀ c, e ≠ .panic c) ∧ Q e a w
theorem NP_noP {Q : QT} : NP (noP Q) := fun c _ _ h => h.1 c rfl
theorem R_np {P : Program} {c : Code} {n : NT} {g : Env} {L : List HP} {Q : QT} (h : R P c n g L (noP Q)) : R P c n g L Q := fun a w e s => wpIn_mono (h a w e s) fun _ _ _ h => h.2
theorem E_noP {n : NT} {g : Env} {L : List HP} {Q : QT} (h : E Q .normal n g L) : E (noP Q) .normal n g L := fun a w e s => ⟨fun _ h => (by cases h), h a w e s⟩
def YC (P : Program) (ops : Array Oper) (C : World → Prop) (o : Oper) (v : Value) (a : Act) : Prop :=
  (Region.wanted o (yielded ops a.tmps) = true ∧ ∀ w, C w → (execOp a.eval o).run P w = .ok (.value v) w) ∨
  (Region.wanted o (yielded ops a.tmps) = false ∧ v = undef)
theorem YC.of_same {o : Oper} {v : Value} {a a' : Act} (hy : YC P ops C o v a) (he : execOp a'.eval o = execOp a.eval o)
    (hw : Region.wanted o (yielded ops a'.tmps) = Region.wanted o (yielded ops a.tmps)) : YC P ops C o v a' := by
  unfold YC at *; rw [he, hw]; exact hy
theorem YC.wpOp {i : Nat} {o : Oper} {v : Value} {a : Act} {w : World} {K : Act → World → Prop} (hi : ops[i]? = some o) (hy : YC P ops C o v a) (hc : C w) (h : K (a.put o.dst v) w) : wpOp P ops Q i K a w := by
  unfold Go.wpOp
  simp only [hi]
  rcases hy with ⟨h1, h2⟩ | ⟨h1, rfl⟩
  · rw [if_pos h1]
    refine .inl ?_
    unfold Oper.wp
    rw [h2 w hc, Oper.upon_value]; exact h
  · rw [h1]; simpa using h
theorem wpOp_put {j : Nat} {oi oj : Oper} {v : Value} (hj : ops[j]? = some oj) (hap : oi.apart ops oj = true) (np : NP Q)
    (hsi : ∀ cs b, oi.op ≠ .select cs b) (hsj : ∀ cs b, oj.op ≠ .select cs b) {K : Act → World → Prop} {a : Act} {w : World}
    (hy : YC P ops C oi v a) (h : wpOp P ops Q j K (a.put oi.dst v) w) :
    wpOp P ops Q j (fun a' w' => YC P ops C oi v a' ∧ K (a'.put oi.dst v) w') a w := by
  obtain ⟨h1, h2, h3⟩ := Oper.apart_spec hap
  have keep : ∀ (a : Act), YC P ops C oi v a → ∀ u, YC P ops C oi v (a.put oj.dst u) := fun a hy u =>
    hy.of_same (execOp_put oi hsi a oj.dst u h3) (wanted_put oi a oj.dst u h3)
  unfold wpOp at *
  simp only [hj] at *
  rw [wanted_put oj a oi.dst v h1] at h
  split
  · rename_i hw
    simp only [hw, if_true] at h
    rcases h with h | ⟨h, h'⟩
    · refine .inl ?_
      unfold Oper.wp at *
      rw [execOp_put oj hsj a oi.dst v h1] at h
      generalize (execOp a.eval oj).run P w = r at *
      cases r with
      | halt x w' =>
        cases x <;> simp only [Oper.upon] at h ⊢
        exact absurd h (np _ _ _)
      | ok nx w' =>
        cases nx <;> simp only [Oper.upon] at h ⊢
        case value u => exact ⟨keep a hy u, by rw [← Act.put_comm a v u h2]; exact h⟩
        case skip => exact ⟨keep a hy _, by rw [← Act.put_comm a v undef h2]; exact h⟩
        case defer df =>
          rw [Act.put_defers, Act.put_comm _ v undef h2] at h
          refine ⟨keep { a with defers := df :: a.defers } (hy.of_same ?_ ?_) undef, h⟩
          · rfl
          · rfl
        case enter f args =>
          refine h.mono fun e w'' he => ?_
          cases e with
          | returned u => exact ⟨keep a hy u, by rw [← Act.put_comm a v u h2]; exact he⟩
          | panicked ch => exact absurd he (np _ _ _)
          | outgrown => exact he
        case row row args => exact h.mono fun u w'' he => ⟨keep a hy u, by rw [← Act.put_comm a v u h2]; exact he⟩
    · refine .inr ⟨?_, h'⟩
      unfold Oper.asks at *
      rw [execOp_put oj hsj a oi.dst v h1] at h; exact h
  · rename_i hw
    simp only [hw] at h
    exact ⟨keep a hy _, by rw [← Act.put_comm a v undef h2]; simpa using h⟩
/-- j waits for i, if only behind others that haven't come up. -/
inductive Wt (ops : Array Oper) (listed : Array Bool) (i : Nat) : Nat → Prop
  | here {j : Nat} {oj : Oper} {e : Edge} (hj : ops[j]? = some oj) (he : e ∈ oj.after) (hb : Region.binds .any e = true) (ho : e.on = i) : Wt ops listed i j
  | step {j : Nat} {oj : Oper} {e : Edge} (hj : ops[j]? = some oj) (he : e ∈ oj.after) (hb : Region.binds .any e = true) (hl : listed.getD e.on false = false) (h : Wt ops listed i e.on) : Wt ops listed i j
theorem Wt.not_ready {listed : Array Bool} {i j : Nat} (hi : listed.getD i false = false) (h : Wt ops listed i j) : j ∉ Region.ready .any ops listed := by
  intro hr
  obtain ⟨_, o, ho, hall⟩ := mem_ready.1 hr
  cases h with
  | here hj he hb hon =>
    rw [hj] at ho; injection ho with ho; subst ho
    have := hall _ he hb
    rw [hon, hi] at this; cases this
  | step hj he hb hl _ =>
    rw [hj] at ho; injection ho with ho; subst ho
    have := hall _ he hb
    rw [hl] at this; cases this
theorem Wt.set {listed : Array Bool} {i j k : Nat} (hi : listed.getD i false = false) (hk : k ∈ Region.ready .any ops listed) (h : Wt ops listed i j) : Wt ops (listed.setIfInBounds k true) i j := by
  induction h with
  | here hj he hb hon => exact .here hj he hb hon
  | @step j oj e hj he hb hl h' ih =>
    refine .step hj he hb ?_ ih
    have hne : k ≠ e.on := fun q => h'.not_ready hi (q ▸ hk)
    rw [Array.getD_eq_getD_getElem?, Array.getElem?_setIfInBounds_ne hne, ← Array.getD_eq_getD_getElem?]
    exact hl
theorem unlisted {listed : Array Bool} {i : Nat} (h : listed.getD i true = false) : listed.getD i false = false := by
  rcases Nat.lt_or_ge i listed.size with h' | h'
  · simp [h'] at h ⊢; exact h
  · simp [h'] at h
theorem wpAnyC_first {i : Nat} {oi : Oper} {v : Value} (hi : ops[i]? = some oi) (np : NP Q) (hsel : ∀ (j : Nat) (o : Oper) cs b, ops[j]? = some o → o.op ≠ .select cs b) :
    ∀ (fuel : Nat) (listed : Array Bool) (a : Act) (w : World),
      (∀ j oj, ops[j]? = some oj → j ≠ i → listed.getD j true = false → ¬ Wt ops listed i j → oi.apart ops oj = true ∧ kp.contains j = false) →
      i ∈ Region.ready .any ops listed → YC P ops C oi v a → C w →
      wpAnyC P ops Q C kp fuel (listed.setIfInBounds i true) (a.put oi.dst v) w → wpAnyC P ops Q C kp (fuel + 1) listed a w := by
  intro fuel
  induction fuel with
  | zero =>
    intro listed a w _ hr hy hc H
    refine ⟨fun h => (by rw [h] at hr; cases hr), fun j hj => ?_⟩
    by_cases hji : j = i
    · subst hji; exact hy.wpOp hi hc ⟨fun _ _ => hc, H⟩
    · have := ready_mono hj hji
      rw [H.1] at this
      cases this
  | succ fuel ih =>
    intro listed a w hfree hr hy hc H
    refine ⟨fun h => (by rw [h] at hr; cases hr), fun j hj => ?_⟩
    by_cases hji : j = i
    · subst hji; exact hy.wpOp hi hc ⟨fun _ _ => hc, H⟩
    · have h1 := H.2 j (ready_mono hj hji)
      obtain ⟨hjun, oj, hoj, hall⟩ := mem_ready.1 hj
      have hi0 := unlisted (mem_ready.1 hr).1
      have hnot : ¬ Wt ops listed i j := fun h => h.not_ready hi0 hj
      have h2 := wpOp_put hoj (hfree j oj hoj hji hjun hnot).1 np (fun cs b => hsel i oi cs b hi) (fun cs b => hsel j oj cs b hoj) hy h1
      have hfree' : ∀ k ok, ops[k]? = some ok → k ≠ i → (listed.setIfInBounds j true).getD k true = false →
          ¬ Wt ops (listed.setIfInBounds j true) i k → oi.apart ops ok = true ∧ kp.contains k = false := fun k ok hk hki hun hno => by
        refine hfree k ok hk hki ?_ fun h => hno (h.set hi0 hj)
        by_cases hjk : j = k
        · subst hjk; exact hjun
        · rw [getD_set_ne true hjk] at hun; exact hun
      refine wpOp_mono (fun a' w' h3 => ?_) h2
      obtain ⟨h3, h4, h5⟩ := h3
      have h4 := h4 (hfree j oj hoj hji hjun hnot).2 hc
      refine ⟨fun _ _ => h4, ih (listed.setIfInBounds j true) a' w' hfree' (ready_mono hr (Ne.symm hji)) h3 h4 ?_⟩
      rw [Array.setIfInBounds_comm _ _ hji]
      exact h5

/-- The same, of one that doesn't look at memory. -/
theorem wpAnyC_firstP {i : Nat} {oi : Oper} {v : Value} (hi : ops[i]? = some oi) (np : NP Q) (hsel : ∀ (j : Nat) (o : Oper) cs b, ops[j]? = some o → o.op ≠ .select cs b) :
    ∀ (fuel : Nat) (listed : Array Bool) (a : Act) (w : World),
      (∀ j oj, ops[j]? = some oj → j ≠ i → listed.getD j true = false → ¬ Wt ops listed i j → oi.apart ops oj = true) →
      i ∈ Region.ready .any ops listed → YC P ops (fun _ => True) oi v a →
      wpAnyC P ops Q C kp fuel (listed.setIfInBounds i true) (a.put oi.dst v) w → wpAnyC P ops Q C kp (fuel + 1) listed a w := by
  intro fuel
  induction fuel with
  | zero =>
    intro listed a w _ hr hy H
    refine ⟨fun h => (by rw [h] at hr; cases hr), fun j hj => ?_⟩
    by_cases hji : j = i
    · subst hji; exact hy.wpOp hi trivial ⟨fun _ h => h, H⟩
    · have := ready_mono hj hji
      rw [H.1] at this
      cases this
  | succ fuel ih =>
    intro listed a w hfree hr hy H
    refine ⟨fun h => (by rw [h] at hr; cases hr), fun j hj => ?_⟩
    by_cases hji : j = i
    · subst hji; exact hy.wpOp hi trivial ⟨fun _ h => h, H⟩
    · have h1 := H.2 j (ready_mono hj hji)
      obtain ⟨hjun, oj, hoj, hall⟩ := mem_ready.1 hj
      have hi0 := unlisted (mem_ready.1 hr).1
      have hnot : ¬ Wt ops listed i j := fun h => h.not_ready hi0 hj
      have h2 := wpOp_put hoj (hfree j oj hoj hji hjun hnot) np (fun cs b => hsel i oi cs b hi) (fun cs b => hsel j oj cs b hoj) hy h1
      have hfree' : ∀ k ok, ops[k]? = some ok → k ≠ i → (listed.setIfInBounds j true).getD k true = false →
          ¬ Wt ops (listed.setIfInBounds j true) i k → oi.apart ops ok = true := fun k ok hk hki hun hno => by
        refine hfree k ok hk hki ?_ fun h => hno (h.set hi0 hj)
        by_cases hjk : j = k
        · subst hjk; exact hjun
        · rw [getD_set_ne true hjk] at hun; exact hun
      refine wpOp_mono (fun a' w' h3 => ?_) h2
      obtain ⟨h3, h4, h5⟩ := h3
      refine ⟨h4, ih (listed.setIfInBounds j true) a' w' hfree' (ready_mono hr (Ne.symm hji)) h3 ?_⟩
      rw [Array.setIfInBounds_comm _ _ hji]
      exact h5

/-- From here on, in whatever order. -/
def D (P : Program) (ops : Array Oper) (S : List HP) (kp : List Nat) (fuel : Nat) (listed : Array Bool) (n : NT) (l g : Env) (L : List HP) (Q : QT) : Prop :=
  ∀ a w, EnvOk n l g a → Sat w L → wpAnyC P ops Q (fun w => Sat w S) kp fuel listed a w
variable {n : NT} {l g : Env} {L S : List HP} {fuel : Nat} {listed : Array Bool}
theorem R_draw {id k : Nat} {ds : List Deferred} {lo : List Oper} (S : List HP) (kp : List Nat) (hm : P.follows .mixedOrders = true) (h : D P lo.toArray S kp lo.length (Array.replicate lo.length false) ⟨k, ds, none⟩ [] g L Q) : R P (.region id lo.toArray true) ⟨k, ds, none⟩ g L Q :=
  fun a w e s => wpIn_wide.2 (wp_region_any hm (wpAny_of_C _ _ _ _ (by
    have := h a { w with drawn := w.drawn + 1 } e (s.of_heap rfl)
    simpa using this)))
def isData (e : Edge) : Bool := match e.ground with
  | .data => true
  | .chain => true
  | _ => false
def blkD (ops : Array Oper) (listed : Array Bool) (i : Nat) : Nat → Nat → Bool
  | 0, _ => false
  | f + 1, j => match ops[j]? with
    | some oj => oj.after.any fun e => Region.binds .any e && (e.on == i || (isData e && !listed.getD e.on false && blkD ops listed i f e.on))
    | none => false
theorem blkD_spec {listed : Array Bool} {i : Nat} : ∀ {f j : Nat}, blkD ops listed i f j = true → Wt ops listed i j
  | 0, _, h => by cases h
  | f + 1, j, h => by
    unfold blkD at h
    cases hj : ops[j]? with
    | none => rw [hj] at h; cases h
    | some oj =>
      rw [hj] at h
      simp only [Array.any_eq_true] at h
      obtain ⟨k, hk, h⟩ := h
      simp only [Bool.and_eq_true, Bool.or_eq_true, beq_iff_eq, Bool.not_eq_true'] at h
      rcases h.2 with h2 | h2
      · exact .here hj (Array.getElem_mem hk) h.1 h2
      · exact .step hj (Array.getElem_mem hk) h.1 h2.1.2 (blkD_spec h2.2)
/-- Whether i may be taken first: nothing that hasn't come up yet, and doesn't wait for it, looks at its temporary, or writes one at which it looks. -/
def freeB (kp : List Nat) (ops : Array Oper) (listed : Array Bool) (i : Nat) : Bool :=
  (List.range ops.size).all fun j => j == i || listed.getD j true ||
    (match ops[i]?, ops[j]? with
     | some oi, some oj => (oi.apart ops oj && !kp.contains j) || blkD ops listed i ops.size j
     | _, _ => true)
theorem freeB_spec {i : Nat} {oi : Oper} (hi : ops[i]? = some oi) (h : freeB kp ops listed i = true) :
    ∀ j oj, ops[j]? = some oj → j ≠ i → listed.getD j true = false → ¬ Wt ops listed i j → oi.apart ops oj = true ∧ kp.contains j = false := by
  intro j oj hj hji hl hno
  unfold freeB at h
  rw [List.all_eq_true] at h
  have hlt : j < ops.size := by
    rcases Nat.lt_or_ge j ops.size with h' | h'
    · exact h'
    · simp [h'] at hj
  have := h j (List.mem_range.2 hlt)
  have h1 : (j == i) = false := by simpa using hji
  rw [h1, hl, hi, hj] at this
  simp only [Bool.false_or, Bool.or_eq_true] at this
  rcases this with h2 | h2
  · simp only [Bool.and_eq_true, Bool.not_eq_true'] at h2; exact h2
  · exact absurd (blkD_spec h2) hno
def okB (kp : List Nat) (ops : Array Oper) (listed : Array Bool) (i : Nat) : Bool := (Region.ready .any ops listed).contains i && freeB kp ops listed i && Region.noSelect ops
theorem D_look {i d : Nat} {op : Op} {ty : Nat} {pos : String} {aft : Array Edge} {v : Value} (hi : ops[i]? = some ⟨some d, op, ty, pos, aft, none⟩) (hok : okB kp ops listed i = true) (np : NP Q) (hS : Gives L S)
    (y : Y P n l g S ⟨some d, op, ty, pos, aft, none⟩ v) (hd : Nat.blt d n.sz = true) (hn : look g d = none)
    (h : D P ops S kp fuel (listed.setIfInBounds i true) n ((d, v) :: l) g L Q) : D P ops S kp (fuel + 1) listed n l g L Q := by
  intro a w e s
  simp only [okB, Bool.and_eq_true] at hok
  exact wpAnyC_first hi np (Region.noSelect_spec hok.2) fuel listed a w (freeB_spec hi hok.1.2) (List.contains_iff_mem.1 hok.1.1) (.inl ⟨rfl, fun w' hc => y a e w' hc⟩) (s.gives hS)
    (h _ _ (e.putl hd hn v) s)
theorem D_lookG {i d j dj : Nat} {op : Op} {ty : Nat} {pos : String} {aft : Array Edge} {v : Value} {want : Bool} (hi : ops[i]? = some ⟨some d, op, ty, pos, aft, some (j, want)⟩) (hok : okB kp ops listed i = true) (np : NP Q) (hS : Gives L S)
    (hj : (ops[j]?).bind (·.dst) = some dj) (hv : ev l g (.tmp dj) = some (.bool want)) (hdj : Nat.blt dj n.sz = true)
    (y : Y P n l g S ⟨some d, op, ty, pos, aft, none⟩ v) (hd : Nat.blt d n.sz = true) (hn : look g d = none)
    (h : D P ops S kp fuel (listed.setIfInBounds i true) n ((d, v) :: l) g L Q) : D P ops S kp (fuel + 1) listed n l g L Q := by
  intro a w e s
  simp only [okB, Bool.and_eq_true] at hok
  have hw := guard_wanted (o := ⟨some d, op, ty, pos, aft, some (j, want)⟩) e rfl hj hv hdj
  exact wpAnyC_first hi np (Region.noSelect_spec hok.2) fuel listed a w (freeB_spec hi hok.1.2) (List.contains_iff_mem.1 hok.1.1) (.inl ⟨by rw [hw]; simp, fun w' hc => y a e w' hc⟩) (s.gives hS)
    (h _ _ (e.putl hd hn v) s)
theorem D_skip {i d j dj : Nat} {op : Op} {ty : Nat} {pos : String} {aft : Array Edge} {want t : Bool} (hi : ops[i]? = some ⟨some d, op, ty, pos, aft, some (j, want)⟩) (hok : okB kp ops listed i = true) (np : NP Q) (hS : Gives L S)
    (hj : (ops[j]?).bind (·.dst) = some dj) (hv : ev l g (.tmp dj) = some (.bool t)) (hdj : Nat.blt dj n.sz = true) (ht : (t == want) = false)
    (hd : Nat.blt d n.sz = true) (hn : look g d = none)
    (h : D P ops S kp fuel (listed.setIfInBounds i true) n ((d, undef) :: l) g L Q) : D P ops S kp (fuel + 1) listed n l g L Q := by
  intro a w e s
  simp only [okB, Bool.and_eq_true] at hok
  have hw := guard_wanted (o := ⟨some d, op, ty, pos, aft, some (j, want)⟩) e rfl hj hv hdj
  exact wpAnyC_first hi np (Region.noSelect_spec hok.2) fuel listed a w (freeB_spec hi hok.1.2) (List.contains_iff_mem.1 hok.1.1) (.inr ⟨by rw [hw, ht], rfl⟩) (s.gives hS)
    (h _ _ (e.putl hd hn undef) s)
theorem D_skipU {i d j dj : Nat} {op : Op} {ty : Nat} {pos : String} {aft : Array Edge} {want : Bool} (hi : ops[i]? = some ⟨some d, op, ty, pos, aft, some (j, want)⟩) (hok : okB kp ops listed i = true) (np : NP Q) (hS : Gives L S)
    (hj : (ops[j]?).bind (·.dst) = some dj) (hv : ev l g (.tmp dj) = some undef) (hdj : Nat.blt dj n.sz = true)
    (hd : Nat.blt d n.sz = true) (hn : look g d = none)
    (h : D P ops S kp fuel (listed.setIfInBounds i true) n ((d, undef) :: l) g L Q) : D P ops S kp (fuel + 1) listed n l g L Q := by
  intro a w e s
  simp only [okB, Bool.and_eq_true] at hok
  have hw := guard_undef (o := ⟨some d, op, ty, pos, aft, some (j, want)⟩) e rfl hj hv hdj
  exact wpAnyC_first hi np (Region.noSelect_spec hok.2) fuel listed a w (freeB_spec hi hok.1.2) (List.contains_iff_mem.1 hok.1.1) (.inr ⟨by rw [hw], rfl⟩) (s.gives hS)
    (h _ _ (e.putl hd hn undef) s)
theorem D_lookP {i d : Nat} {op : Op} {ty : Nat} {pos : String} {aft : Array Edge} {v : Value} (hi : ops[i]? = some ⟨some d, op, ty, pos, aft, none⟩) (hok : okB [] ops listed i = true) (np : NP Q)
    (y : Y P n l g [] ⟨some d, op, ty, pos, aft, none⟩ v) (hd : Nat.blt d n.sz = true) (hn : look g d = none)
    (h : D P ops S kp fuel (listed.setIfInBounds i true) n ((d, v) :: l) g L Q) : D P ops S kp (fuel + 1) listed n l g L Q := by
  intro a w e s
  simp only [okB, Bool.and_eq_true] at hok
  exact wpAnyC_firstP hi np (Region.noSelect_spec hok.2) fuel listed a w (fun j oj a b c d => (freeB_spec hi hok.1.2 j oj a b c d).1) (List.contains_iff_mem.1 hok.1.1) (.inl ⟨rfl, fun w' _ => y a e w' trivial⟩)
    (h _ _ (e.putl hd hn v) s)
theorem D_lookGP {i d j dj : Nat} {op : Op} {ty : Nat} {pos : String} {aft : Array Edge} {v : Value} {want : Bool} (hi : ops[i]? = some ⟨some d, op, ty, pos, aft, some (j, want)⟩) (hok : okB [] ops listed i = true) (np : NP Q)
    (hj : (ops[j]?).bind (·.dst) = some dj) (hv : ev l g (.tmp dj) = some (.bool want)) (hdj : Nat.blt dj n.sz = true)
    (y : Y P n l g [] ⟨some d, op, ty, pos, aft, none⟩ v) (hd : Nat.blt d n.sz = true) (hn : look g d = none)
    (h : D P ops S kp fuel (listed.setIfInBounds i true) n ((d, v) :: l) g L Q) : D P ops S kp (fuel + 1) listed n l g L Q := by
  intro a w e s
  simp only [okB, Bool.and_eq_true] at hok
  have hw := guard_wanted (o := ⟨some d, op, ty, pos, aft, some (j, want)⟩) e rfl hj hv hdj
  exact wpAnyC_firstP hi np (Region.noSelect_spec hok.2) fuel listed a w (fun j oj a b c d => (freeB_spec hi hok.1.2 j oj a b c d).1) (List.contains_iff_mem.1 hok.1.1) (.inl ⟨by rw [hw]; simp, fun w' _ => y a e w' trivial⟩)
    (h _ _ (e.putl hd hn v) s)
theorem D_skipP {i d j dj : Nat} {op : Op} {ty : Nat} {pos : String} {aft : Array Edge} {want t : Bool} (hi : ops[i]? = some ⟨some d, op, ty, pos, aft, some (j, want)⟩) (hok : okB [] ops listed i = true) (np : NP Q)
    (hj : (ops[j]?).bind (·.dst) = some dj) (hv : ev l g (.tmp dj) = some (.bool t)) (hdj : Nat.blt dj n.sz = true) (ht : (t == want) = false)
    (hd : Nat.blt d n.sz = true) (hn : look g d = none)
    (h : D P ops S kp fuel (listed.setIfInBounds i true) n ((d, undef) :: l) g L Q) : D P ops S kp (fuel + 1) listed n l g L Q := by
  intro a w e s
  simp only [okB, Bool.and_eq_true] at hok
  have hw := guard_wanted (o := ⟨some d, op, ty, pos, aft, some (j, want)⟩) e rfl hj hv hdj
  exact wpAnyC_firstP hi np (Region.noSelect_spec hok.2) fuel listed a w (fun j oj a b c d => (freeB_spec hi hok.1.2 j oj a b c d).1) (List.contains_iff_mem.1 hok.1.1) (.inr ⟨by rw [hw, ht], rfl⟩)
    (h _ _ (e.putl hd hn undef) s)
theorem D_skipUP {i d j dj : Nat} {op : Op} {ty : Nat} {pos : String} {aft : Array Edge} {want : Bool} (hi : ops[i]? = some ⟨some d, op, ty, pos, aft, some (j, want)⟩) (hok : okB [] ops listed i = true) (np : NP Q)
    (hj : (ops[j]?).bind (·.dst) = some dj) (hv : ev l g (.tmp dj) = some undef) (hdj : Nat.blt dj n.sz = true)
    (hd : Nat.blt d n.sz = true) (hn : look g d = none)
    (h : D P ops S kp fuel (listed.setIfInBounds i true) n ((d, undef) :: l) g L Q) : D P ops S kp (fuel + 1) listed n l g L Q := by
  intro a w e s
  simp only [okB, Bool.and_eq_true] at hok
  have hw := guard_undef (o := ⟨some d, op, ty, pos, aft, some (j, want)⟩) e rfl hj hv hdj
  exact wpAnyC_firstP hi np (Region.noSelect_spec hok.2) fuel listed a w (fun j oj a b c d => (freeB_spec hi hok.1.2 j oj a b c d).1) (List.contains_iff_mem.1 hok.1.1) (.inr ⟨by rw [hw], rfl⟩)
    (h _ _ (e.putl hd hn undef) s)
/-- A guard that isn't decided. -/
theorem D_split {dj : Nat} {t : Bool} (hv : ev l g (.tmp dj) = some (.bool t))
    (h1 : t = true → D P ops S kp fuel listed n ((dj, .bool true) :: l) g L Q) (h2 : t = false → D P ops S kp fuel listed n ((dj, .bool false) :: l) g L Q) : D P ops S kp fuel listed n l g L Q := by
  intro a w e s
  have key : ∀ u, t = u → EnvOk n ((dj, .bool u) :: l) g a := by
    rintro u rfl
    refine ⟨e.size, e.defers, fun x v hx => ?_, e.g⟩
    simp only [look] at hx
    by_cases hb : Nat.beq dj x = true
    · rw [hb] at hx; simp at hx; subst hx
      have := Nat.eq_of_beq_eq_true hb; subst this
      exact e.eval hv
    · rw [Bool.not_eq_true] at hb; rw [hb] at hx; exact e.l x v hx
  cases ht : t with
  | true => exact h1 ht a w (key _ ht) s
  | false => exact h2 ht a w (key _ ht) s
/-- What is left: each that may come up, tried. -/
def Qd (P : Program) (ops : Array Oper) (S : List HP) (kp : List Nat) (i : Nat) (fuel : Nat) (listed : Array Bool) (Q : QT) : QT := fun e a w => match e with
  | .normal => (kp.contains i = false → Sat w S) ∧ wpAnyC P ops Q (fun w => Sat w S) kp fuel listed a w
  | e => Q e a w
theorem D_try {is : List Nat} (hr : Region.ready .any ops listed = is) (hne : is.isEmpty = false) (h : ∀ i ∈ is, ∃ o, ops[i]? = some o ∧ J P ops [o] n l g L (Qd P ops S kp i fuel (listed.setIfInBounds i true) Q)) : D P ops S kp (fuel + 1) listed n l g L Q := by
  intro a w e s
  refine ⟨fun h0 => ?_, fun i hi => ?_⟩
  · rw [hr] at h0; subst h0; simp at hne
  · rw [hr] at hi
    obtain ⟨o, ho, hj⟩ := h i hi
    have := hj a w e s
    unfold wpL at this
    refine wpOp_mono (K := fun a' w' => (kp.contains i = false → Sat w' S) ∧ wpAnyC P ops Q (fun w => Sat w S) kp fuel (listed.setIfInBounds i true) a' w') (fun a' w' h => ⟨fun hk _ => h.1 hk, h.2⟩) ?_
    unfold wpOp
    simp only [ho]
    split
    · rename_i hw
      rw [if_pos hw] at this
      have h1 := this
      refine .inl ?_
      unfold Oper.wp at *
      generalize (execOp a.eval o).run P w = r at *
      cases r with
      | halt x w' => cases x <;> simp only [Oper.upon] at h1 ⊢ <;> exact h1
      | ok nx w' =>
        cases nx <;> simp only [Oper.upon] at h1 ⊢
        case value u => exact h1
        case skip => exact h1
        case defer df => exact h1
        case enter f args => exact h1.mono fun e w'' he => by cases e <;> exact he
        case row row args => exact h1
    · rename_i hw
      rw [if_neg hw] at this
      exact this
theorem D_try2 {i j : Nat} {o u : Oper} (hr : Region.ready .any ops listed = [i, j]) (ho : ops[i]? = some o) (hu : ops[j]? = some u) (h : J P ops [o] n l g L (Qd P ops S kp i fuel (listed.setIfInBounds i true) Q))
    (h' : J P ops [u] n l g L (Qd P ops S kp j fuel (listed.setIfInBounds j true) Q)) : D P ops S kp (fuel + 1) listed n l g L Q :=
  D_try hr rfl fun k hk => by
    rcases List.mem_cons.1 hk with rfl | hk
    · exact ⟨o, ho, h⟩
    · have : k = j := by simpa using hk
      subst this
      exact ⟨u, hu, h'⟩
theorem D_try1 {i : Nat} {o : Oper} (hr : Region.ready .any ops listed = [i]) (ho : ops[i]? = some o) (h : J P ops [o] n l g L (Qd P ops S kp i fuel (listed.setIfInBounds i true) Q)) : D P ops S kp (fuel + 1) listed n l g L Q :=
  D_try hr rfl (fun j hj => by simp at hj; subst hj; exact ⟨o, ho, h⟩)
theorem D_next {i : Nat} (hS : Gives L S) (h : D P ops S kp fuel listed n l g L Q) : J P ops [] n l g L (Qd P ops S kp i fuel listed Q) :=
  fun a w e s => wpL_nil ⟨fun _ => s.gives hS, h a w e s⟩
theorem D_last {i : Nat} (hi : kp.contains i = true) (h : D P ops S kp fuel listed n l g L Q) : J P ops [] n l g L (Qd P ops S kp i fuel listed Q) :=
  fun a w e s => wpL_nil ⟨fun h0 => (by rw [hi] at h0; cases h0), h a w e s⟩
theorem D_end (hr : Region.ready .any ops listed = []) (h : E Q .normal n g L) : D P ops S kp 0 listed n l g L Q :=
  fun a w e s => ⟨hr, h a w e.end_ s⟩
theorem NP_Qd {i : Nat} (np : NP Q) : NP (Qd P ops S kp i fuel listed Q) := np
theorem EnvOk.end1 {d : Nat} {v : Value} {a : Act} (e : EnvOk n ((d, v) :: l) g a) : EnvOk n [] ((d, v) :: g) a :=
  ⟨e.size, e.defers, fun t v h => by simp [look] at h, fun t u h => by
    simp only [look] at h
    by_cases hb : Nat.beq d t = true
    · rw [hb] at h; exact e.l t u (by simp only [look]; rw [hb]; exact h)
    · rw [Bool.not_eq_true] at hb; rw [hb] at h; exact e.g t u h⟩
theorem J_nil1 {d : Nat} {v : Value} (h : E Q .normal n ((d, v) :: g) L) : J P ops [] n ((d, v) :: l) g L Q := fun a w e s => wpL_nil (h a w e.end1 s)
theorem D_end1 {d : Nat} {v : Value} (hr : Region.ready .any ops listed = []) (h : E Q .normal n ((d, v) :: g) L) : D P ops S kp 0 listed n ((d, v) :: l) g L Q :=
  fun a w e s => ⟨hr, h a w e.end1 s⟩
theorem R_draw0 {id k : Nat} {ds : List Deferred} {lo : List Oper} (kp : List Nat) (hm : P.follows .mixedOrders = true) (h : D P lo.toArray L kp lo.length (Array.replicate lo.length false) ⟨k, ds, none⟩ [] g L Q) : R P (.region id lo.toArray true) ⟨k, ds, none⟩ g L Q := R_draw L kp hm h
/-- 'Returns r, and M is there.' -/
def Pst (r : Value) (M : List HP) : Value → World → Prop := fun v w => v = r ∧ Sat w M
section
variable {rest : List Oper} {M N : List HP} {d ty : Nat} {pos : String} {aft : Array Edge}
theorem J_callm {f : FuncId} {args : Array Operand} {at_ : Array TypeId} {vs : List Value} {post : Value → World → Prop} [u : IsFn P f] (ha : evl l g args.toList = some vs) (c : Fn P f vs M post) (hM : Gives L M) (hd : Nat.blt d n.sz = true) (hn : look g d = none)
    (h : ∀ v w, post v w → JW P ops rest n ((d, v) :: l) g w Q) : J P ops (⟨some d, .call ⟨.value (.func f), args, at_⟩, ty, pos, aft, none⟩ :: rest) n l g L Q :=
  J_call ha (c.mono hM fun _ _ h => h) hd hn h
theorem J_callm0 {f : FuncId} {args : Array Operand} {at_ : Array TypeId} {vs : List Value} {post : Value → World → Prop} [u : IsFn P f] (ha : evl l g args.toList = some vs) (c : Fn P f vs M post) (hM : Gives L M)
    (h : ∀ v w, post v w → JW P ops rest n l g w Q) : J P ops (⟨none, .call ⟨.value (.func f), args, at_⟩, ty, pos, aft, none⟩ :: rest) n l g L Q :=
  J_call0 ha (c.mono hM fun _ _ h => h) h
theorem J_callr {f : FuncId} {args : Array Operand} {at_ : Array TypeId} {vs : List Value} {r : Value} [u : IsFn P f] (ha : evl l g args.toList = some vs) (c : Fn P f vs M (Pst r N)) (hM : Gives L M) (hd : Nat.blt d n.sz = true) (hn : look g d = none)
    (h : J P ops rest n ((d, r) :: l) g N Q) : J P ops (⟨some d, .call ⟨.value (.func f), args, at_⟩, ty, pos, aft, none⟩ :: rest) n l g L Q :=
  J_callm ha c hM hd hn fun _ _ ⟨e, s⟩ => by subst e; exact JW.of s h
theorem J_callr0 {f : FuncId} {args : Array Operand} {at_ : Array TypeId} {vs : List Value} {r : Value} [u : IsFn P f] (ha : evl l g args.toList = some vs) (c : Fn P f vs M (Pst r N)) (hM : Gives L M)
    (h : J P ops rest n l g N Q) : J P ops (⟨none, .call ⟨.value (.func f), args, at_⟩, ty, pos, aft, none⟩ :: rest) n l g L Q :=
  J_callm0 ha c hM fun _ _ ⟨_, s⟩ => JW.of s h
theorem J_callvr {f : FuncId} {t : Nat} {args : Array Operand} {at_ : Array TypeId} {us vs cs all : List Value} {r : Value} [u : IsFn P f] (hf : ev l g (.tmp t) = some (.func (.func f) us.toArray cs.toArray)) (ha : evl l g args.toList = some vs) (hall : us ++ vs ++ cs = all)
    (c : Fn P f all M (Pst r N)) (hM : Gives L M) (hd : Nat.blt d n.sz = true) (hn : look g d = none)
    (h : J P ops rest n ((d, r) :: l) g N Q) : J P ops (⟨some d, .call ⟨.value (.tmp t), args, at_⟩, ty, pos, aft, none⟩ :: rest) n l g L Q :=
  J_callv hf ha hall (c.mono hM fun _ _ h => h) hd hn fun _ _ ⟨e, s⟩ => by subst e; exact JW.of s h
/-- A cut: the ways through a region meet again. -/
theorem R_cutT {P : Program} {k : Nat} {ds : List Deferred} {ro : Option Nat} {x y : Code} {g : Env} {L : List HP} {Q : QT} {X : Type} (G : X → Env) (H : X → List HP) (h : R P x ⟨k, ds, ro⟩ g L (Exit.then (fun a w => ∃ x, EnvOk ⟨k, ds, ro⟩ [] (G x) a ∧ Sat w (H x)) Q))
    (kk : ∀ x, R P y ⟨k, ds, ro⟩ (G x) (H x) Q) : R P x ⟨k, ds, ro⟩ g L (Exit.then (y.wpIn (fen ro) 0 P Q) Q) :=
  fun a w e s => wpIn_mono (h a w e s) fun e' a' w' q => by
    cases e' with
    | normal => obtain ⟨x, he, hs⟩ := q; exact kk x a' w' he hs
    | _ => exact q
theorem E_retP {k : Nat} {ro : Option Nat} {fn : Func} {rs : List ResultVar} {vs : List Value} {r : Value} (hr : fn.results = rs.toArray) (q : Res P L g rs vs) (hM : Gives L M) (h : one vs = r) : E (bodyPost P fn (Ret (Pst r M))) .ret ⟨k, [], ro⟩ g L :=
  E_ret hr q fun _ s => ⟨h, s.gives hM⟩
theorem E_endP {k : Nat} {ro : Option Nat} {fn : Func} {rs : List ResultVar} {vs : List Value} {r : Value} (hr : fn.results = rs.toArray) (q : Res P L g rs vs) (hM : Gives L M) (h : one vs = r) : E (bodyPost P fn (Ret (Pst r M))) .normal ⟨k, [], ro⟩ g L :=
  E_end hr q fun _ s => ⟨h, s.gives hM⟩
end
theorem J_nil3 {a b c : Nat × Value} (h : E Q .normal n (a :: b :: c :: g) L) : J P ops [] n (a :: b :: c :: l) g L Q := by
  obtain ⟨a, u⟩ := a
  obtain ⟨b, v⟩ := b
  obtain ⟨c, x⟩ := c
  intro A w e s
  refine wpL_nil (h A w ⟨e.size, e.defers, fun t v h => by simp [look] at h, fun t y hy => ?_⟩ s)
  have h0 := e.l t
  simp only [look] at hy h0
  cases ha : Nat.beq a t with
  | true => rw [ha] at hy h0; exact h0 y hy
  | false =>
    rw [ha] at hy h0
    cases hb : Nat.beq b t with
    | true => rw [hb] at hy h0; exact h0 y hy
    | false =>
      rw [hb] at hy h0
      cases hc : Nat.beq c t with
      | true => rw [hc] at hy h0; exact h0 y hy
      | false => rw [hc] at hy; exact e.g t y hy
theorem J_nil2 {a b : Nat × Value} (h : E Q .normal n (a :: b :: g) L) : J P ops [] n (a :: b :: l) g L Q := by
  obtain ⟨a, u⟩ := a
  obtain ⟨b, v⟩ := b
  intro A w e s
  refine wpL_nil (h A w ⟨e.size, e.defers, fun t v h => by simp [look] at h, fun t y hy => ?_⟩ s)
  have h0 := e.l t
  simp only [look] at hy h0
  cases ha : Nat.beq a t with
  | true => rw [ha] at hy h0; exact h0 y hy
  | false =>
    rw [ha] at hy h0
    cases hb : Nat.beq b t with
    | true => rw [hb] at hy h0; exact h0 y hy
    | false => rw [hb] at hy; exact e.g t y hy
section
variable {rest : List Oper} {d ty : Nat} {pos : String} {aft : Array Edge}
theorem J_moveg {x : Operand} {v : Value} (hx : ev l g x = some v) (hd : Nat.blt d n.sz = true) (hn : look l d = none)
    (h : J P ops rest n l ((d, v) :: g) L Q) : J P ops (⟨some d, .move x, ty, pos, aft, none⟩ :: rest) n l g L Q := by
  intro a w e s
  refine wpL_plain rfl fun K hK => ?_
  unfold Oper.wp
  simp only [execOp, e.eval hx, run_pure, Oper.upon_value]
  exact hK _ _ (h _ _ (e.putg hd hn v) s)
end
theorem sub_nil : sub g [] := trivial
theorem sub_cons {t : Nat} {v : Value} {g' : Env} (h : look g t = some v) (k : sub g g') : sub g ((t, v) :: g') := ⟨h, k⟩
theorem sub_cons' {t : Nat} {v v' : Value} {g' : Env} (h : look g t = some v') (e : v' = v) (k : sub g g') : sub g ((t, v) :: g') := ⟨e ▸ h, k⟩
theorem E_thenI {K : Act → World → Prop} (h : ∀ a w, EnvOk n [] g a → Sat w L → K a w) : E (Exit.then K Q) .normal n g L := h
end
end Go.Proofs.Sol

/- More rules: parts of arrays and of slices, comparing with nil, comparing structs. -/
namespace Go.Proofs.Sol
open Go
section
variable {P : Program} {ops : Array Oper} {rest : List Oper} {n : NT} {l g : Env} {L M : List HP} {Q : QT} {d ty : Nat} {pos : String} {aft : Array Edge}
/-- All of an array. -/
theorem Y_sliceArr {T E s bs b o len : Nat} {x : Operand} [u : UL P T (.array len E)] [t : TI P E s bs] (hx : ev l g x = some (.pointer (some ⟨b, o, none⟩)))
    : Y P n l g L ⟨some d, .slice T x none none none, ty, pos, aft, none⟩ (.slice (some ⟨b, o, none⟩) len len) :=
  fun a' e w _ => by
    simp only [execOp, Option.map_none, e.eval hx]
    refine run_value ?_
    unfold Instr.sliceAt
    rw [run_bind, run_underlying u]
    simp only [Instr.sureAddr]
    rw [run_bind]; simp only [run_pure]
    rw [run_bind]
    unfold Instr.sliceBounds
    simp only []
    rw [run_bind]; simp only [run_pure]
    rw [run_bind]; simp only [run_pure]
    rw [run_bind]; simp only [run_pure]
    rw [run_bind, run_sizeOf t]
    simp only [run_pure, add_mk, Nat.zero_mul, Nat.add_zero, Nat.sub_zero, ite_self]
theorem J_sliceArr {T E s bs b o len : Nat} {x : Operand} [u : UL P T (.array len E)] [t : TI P E s bs] (hx : ev l g x = some (.pointer (some ⟨b, o, none⟩))) (hd : Nat.blt d n.sz = true) (hn : look g d = none)
    (h : J P ops rest n ((d, .slice (some ⟨b, o, none⟩) len len) :: l) g L Q) : J P ops (⟨some d, .slice T x none none none, ty, pos, aft, none⟩ :: rest) n l g L Q :=
  J_pure (Y_sliceArr hx) hd hn h
/-- The first ones of a slice. -/
theorem Y_sliceTo {T E s bs len cap : Nat} {a : Option Addr} {x y : Operand} {k : IntKind} {i : Int} [u : UL P T (.slice E)] [t : TI P E s bs] (hx : ev l g x = some (.slice a len cap)) (ha : a.map (·.add 0) = a) (hy : ev l g y = some (.int k i)) (h0 : 0 ≤ i) (h1 : i ≤ cap)
    : Y P n l g L ⟨some d, .slice T x none (some y) none, ty, pos, aft, none⟩ (.slice a i.toNat cap) :=
  fun a' e w _ => by
    simp only [execOp, Option.map_none, Option.map_some, e.eval hx, e.eval hy]
    refine run_value ?_
    unfold Instr.sliceAt
    rw [run_bind, run_underlying u]
    simp only []
    unfold Instr.slice
    rw [run_bind, run_underlying u]
    simp only []
    rw [run_bind]
    unfold Instr.sliceBounds
    simp only []
    rw [run_bind]; simp only [run_pure]
    rw [run_bind, run_sliceBound (y := cap) h0 h1]
    simp only []
    rw [run_bind]; simp only [run_pure]
    rw [run_bind, run_sizeOf t]
    simp only [run_pure, Nat.zero_mul, Nat.sub_zero, ha, ite_self]
theorem J_sliceTo {T E s bs len cap : Nat} {a : Option Addr} {x y : Operand} {k : IntKind} {i : Int} [u : UL P T (.slice E)] [t : TI P E s bs] (hx : ev l g x = some (.slice a len cap)) (ha : a.map (·.add 0) = a) (hy : ev l g y = some (.int k i)) (h0 : 0 ≤ i) (h1 : i ≤ cap)
    (hd : Nat.blt d n.sz = true) (hn : look g d = none)
    (h : J P ops rest n ((d, .slice a i.toNat cap) :: l) g L Q) : J P ops (⟨some d, .slice T x none (some y) none, ty, pos, aft, none⟩ :: rest) n l g L Q :=
  J_pure (Y_sliceTo hx ha hy h0 h1) hd hn h
/-- The last ones of a slice. -/
theorem Y_sliceFrom {T E s bs len cap b o : Nat} {x y : Operand} {k : IntKind} {i : Int} [u : UL P T (.slice E)] [t : TI P E s bs] (hx : ev l g x = some (.slice (some ⟨b, o, none⟩) len cap)) (hy : ev l g y = some (.int k i)) (h0 : 0 ≤ i) (h1 : i ≤ len) (hc : i < cap)
    : Y P n l g L ⟨some d, .slice T x (some y) none none, ty, pos, aft, none⟩ (.slice (some ⟨b, o + i.toNat * s, none⟩) (len - i.toNat) (cap - i.toNat)) :=
  fun a' e w _ => by
    simp only [execOp, Option.map_none, Option.map_some, e.eval hx, e.eval hy]
    refine run_value ?_
    unfold Instr.sliceAt
    rw [run_bind, run_underlying u]
    simp only []
    unfold Instr.slice
    rw [run_bind, run_underlying u]
    simp only []
    rw [run_bind]
    unfold Instr.sliceBounds
    simp only []
    rw [run_bind]; simp only [run_pure]
    rw [run_bind]; simp only [run_pure]
    rw [run_bind, run_sliceBound (y := len) h0 h1]
    simp only [run_pure]
    rw [run_bind, run_sizeOf t]
    by_cases hlc : cap = i.toNat
    · exfalso
      omega
    · simp only []
      rw [if_neg hlc]
      simp only [run_pure, Option.map_some, add_mk]
/-- An interface, compared with nil. -/
def ifcN : BinOp → Value → Option Bool
  | .eql, .nilIface => some true
  | .neq, .nilIface => some false
  | .eql, .iface _ _ => some false
  | .neq, .iface _ _ => some true
  | _, _ => none
theorem Y_ifc_nil {op : BinOp} {T T' : Nat} {x : Operand} {v : Value} {b : Bool} {ms : Array (String × TypeId)} [u : UL P T (.interface ms)] (hx : ev l g x = some v) (hb : ifcN op v = some b) : Y P n l g L ⟨some d, .binOp op T x (.const .nilIface) T', ty, pos, aft, none⟩ (.bool b) :=
  fun a e w s => by
    simp only [execOp, e.eval hx]
    have he : a.eval (.const .nilIface) = .nilIface := rfl
    rw [he]
    refine run_value ?_
    have h1 : (eqGuard op T x (.const .nilIface) v .nilIface).run P w = .ok () w := by
      unfold eqGuard
      cases op <;> cases v <;> simp only [ifcN] at hb <;> first
        | (cases hb; done)
        | rfl
        | (cases x <;> rfl)
    have key : ∀ (v : Value), (v = .nilIface ∨ ∃ t y, v = .iface t y) → (Op.equal T v .nilIface).run P w = .ok (match v with | .nilIface => true | _ => false) w := by
      intro v hv
      unfold Op.equal Op.maxDepth
      show (Op.equalIn (9999 + 1) T v .nilIface).run P w = _
      unfold Op.equalIn
      rw [run_bind, run_underlying u]
      rcases hv with rfl | ⟨_, _, rfl⟩ <;> rfl
    rw [run_bind, h1]
    cases op <;> cases v <;> simp only [ifcN] at hb <;> first
      | (cases hb; done)
      | (cases hb; simp only [binOp]; rw [run_bind, key _ (.inl rfl)]; rfl)
      | (cases hb; simp only [binOp]; rw [run_bind, key _ (.inr ⟨_, _, rfl⟩)]; rfl)
theorem J_ifc_nil {op : BinOp} {T T' : Nat} {x : Operand} {v : Value} {b : Bool} {ms : Array (String × TypeId)} [u : UL P T (.interface ms)] (hx : ev l g x = some v) (hb : ifcN op v = some b) (hd : Nat.blt d n.sz = true) (hn : look g d = none)
    (h : J P ops rest n ((d, .bool b) :: l) g L Q) : J P ops (⟨some d, .binOp op T x (.const .nilIface) T', ty, pos, aft, none⟩ :: rest) n l g L Q :=
  J_pure (Y_ifc_nil hx hb) hd hn h
end
/-- Structs whose parts are numbers, texts and truths: they are compared part by part. -/
inductive CK where
  | int
  | str
  | bool
def cellEq : CK → Value → Value → Option Bool
  | .int, .int k a, .int k' b => if k = k' then some (a == b) else none
  | .str, .string a, .string b => some (a == b)
  | .bool, .bool a, .bool b => some (a == b)
  | _, _, _ => none
def cellsEq : List CK → List Value → List Value → Option Bool
  | [], [], [] => some true
  | k :: ks, x :: xs, y :: ys => match cellEq k x y with
    | some a => (match cellsEq ks xs ys with
      | some b => some (a && b)
      | none => none)
    | none => none
  | _, _, _ => none
def val1 : List Value → Value
  | [v] => v
  | vs => .agg vs.toArray
/-- A type whose values are compared cell by cell. -/
structure EC (P : Program) (t n : Nat) (ks : List CK) : Prop where
  out : ∀ d, n ≤ d → ∀ xs ys r o, ∀ us vs : List Value, part' us o ks.length = some xs → part' vs o ks.length = some ys → cellsEq ks xs ys = some r → ∀ w,
    ((do Op.equalIn d t (← part t us.toArray o) (← part t vs.toArray o)) : Sem Bool).run P w = .ok r w
section
variable {P : Program}
theorem part'_one {us : List Value} {o : Nat} {xs : List Value} (h : part' us o 1 = some xs) : ∃ v, xs = [v] ∧ us[o]? = some v := by
  obtain ⟨h1, h2⟩ := part'_eq h
  rcases hd : us.drop o with _ | ⟨v, r⟩
  · have := congrArg List.length hd; simp at this; omega
  · refine ⟨v, ?_, ?_⟩
    · rw [← h2, hd]; rfl
    · have : (us.drop o)[0]? = some v := by rw [hd]; rfl
      simpa using this
theorem EC_int {t : Nat} {k : IntKind} (s : SC P t) (u : UL P t (.int k)) : EC P t 1 [.int] := ⟨fun d hd xs ys r o us vs hx hy hr w => by
  obtain ⟨a, rfl, ha⟩ := part'_one hx
  obtain ⟨b, rfl, hb⟩ := part'_one hy
  obtain ⟨d, rfl⟩ : ∃ e, d = e + 1 := ⟨d - 1, by omega⟩
  rw [run_bind, run_part1 s ha]
  simp only []
  rw [run_bind, run_part1 s hb]
  simp only []
  unfold Op.equalIn
  rw [run_bind, run_underlying u]
  cases a <;> cases b <;> simp only [cellsEq, cellEq] at hr <;> try (cases hr; done)
  split at hr
  · rename_i h1
    split at h1
    · rename_i h2
      simp only [Option.some.injEq, Bool.and_true] at hr h1
      subst h2; subst h1; subst hr
      simp
    · cases h1
  · cases hr⟩
theorem EC_str {t : Nat} (s : SC P t) (u : UL P t .string) : EC P t 1 [.str] := ⟨fun d hd xs ys r o us vs hx hy hr w => by
  obtain ⟨a, rfl, ha⟩ := part'_one hx
  obtain ⟨b, rfl, hb⟩ := part'_one hy
  obtain ⟨d, rfl⟩ : ∃ e, d = e + 1 := ⟨d - 1, by omega⟩
  rw [run_bind, run_part1 s ha]
  simp only []
  rw [run_bind, run_part1 s hb]
  simp only []
  unfold Op.equalIn
  rw [run_bind, run_underlying u]
  cases a <;> cases b <;> simp only [cellsEq, cellEq] at hr <;> try (cases hr; done)
  simp only [Option.some.injEq, Bool.and_true] at hr
  subst hr; rfl⟩
theorem EC_bool {t : Nat} (s : SC P t) (u : UL P t .bool) : EC P t 1 [.bool] := ⟨fun d hd xs ys r o us vs hx hy hr w => by
  obtain ⟨a, rfl, ha⟩ := part'_one hx
  obtain ⟨b, rfl, hb⟩ := part'_one hy
  obtain ⟨d, rfl⟩ : ∃ e, d = e + 1 := ⟨d - 1, by omega⟩
  rw [run_bind, run_part1 s ha]
  simp only []
  rw [run_bind, run_part1 s hb]
  simp only []
  unfold Op.equalIn
  rw [run_bind, run_underlying u]
  cases a <;> cases b <;> simp only [cellsEq, cellEq] at hr <;> try (cases hr; done)
  simp only [Option.some.injEq, Bool.and_true] at hr
  subst hr; rfl⟩
end
/-- A struct's fields: where, of which type. -/
class SE (P : Program) (t : TypeId) (fl : outParam (List (Nat × Nat))) : Prop where
  out : ∃ fs, P.underlying t = some (.struct fs) ∧ fs.toList.map (fun f => (f.name == "_", f.offset, f.type)) = fl.map (fun p => (false, p.1, p.2)) ∧ P.stoodInHeld t = false ∧ P.eqGuardType P.depth t = false
structure ECF (P : Program) (n o : Nat) (fl : List (Nat × Nat)) (ks : List CK) : Prop where
  out : ∀ d, n ≤ d → ∀ xs ys r, ∀ us vs : List Value, part' us o ks.length = some xs → part' vs o ks.length = some ys → cellsEq ks xs ys = some r → ∀ w,
    (fl.foldr (fun p k => (do if !(← Op.equalIn d p.2 (← part p.2 us.toArray p.1) (← part p.2 vs.toArray p.1)) then return false else k : Sem Bool)) (pure true)).run P w = .ok r w
section
variable {P : Program}
theorem cellsEq_append {ks ks' : List CK} {xs xs' ys ys' : List Value} {a b : Bool} (h : cellsEq ks xs ys = some a) (h' : cellsEq ks' xs' ys' = some b) : cellsEq (ks ++ ks') (xs ++ xs') (ys ++ ys') = some (a && b) := by
  induction ks generalizing xs ys a with
  | nil => cases xs <;> cases ys <;> simp only [cellsEq] at h <;> first | (cases h; done) | (cases h; simpa using h')
  | cons k ks ih =>
    cases xs <;> cases ys <;> simp only [cellsEq] at h <;> try (cases h; done)
    rename_i x xs y ys
    cases hc : cellEq k x y with
    | none => rw [hc] at h; cases h
    | some c =>
      rw [hc] at h
      cases hs : cellsEq ks xs ys with
      | none => rw [hs] at h; cases h
      | some e =>
        rw [hs] at h
        simp only [Option.some.injEq] at h
        subst h
        simp only [List.cons_append, cellsEq, hc, ih hs, Bool.and_assoc]
theorem cellsEq_split {ks ks' : List CK} {xs xs' ys ys' : List Value} {r : Bool} (h : cellsEq (ks ++ ks') (xs ++ xs') (ys ++ ys') = some r) (hx : xs.length = ks.length) (hy : ys.length = ks.length) :
    ∃ a b, cellsEq ks xs ys = some a ∧ cellsEq ks' xs' ys' = some b ∧ r = (a && b) := by
  induction ks generalizing xs ys r with
  | nil =>
    have hx' := List.eq_nil_of_length_eq_zero hx
    have hy' := List.eq_nil_of_length_eq_zero hy
    subst hx'; subst hy'
    exact ⟨true, r, rfl, by simpa using h, by simp⟩
  | cons k ks ih =>
    cases xs with
    | nil => cases hx
    | cons x xs =>
      cases ys with
      | nil => cases hy
      | cons y ys =>
        simp only [List.cons_append, cellsEq] at h ⊢
        cases hc : cellEq k x y with
        | none => rw [hc] at h; cases h
        | some c =>
          rw [hc] at h
          simp only [] at h
          cases hs : cellsEq (ks ++ ks') (xs ++ xs') (ys ++ ys') with
          | none => rw [hs] at h; cases h
          | some e =>
            rw [hs] at h
            simp only [Option.some.injEq] at h
            obtain ⟨a, b, h1, h2, h3⟩ := ih hs (by simpa using hx) (by simpa using hy)
            exact ⟨c && a, b, by rw [h1], h2, by rw [← h, h3, Bool.and_assoc]⟩
theorem part'_mk {us : List Value} {o k : Nat} (h : o + k ≤ us.length) : part' us o k = some ((us.drop o).take k) := by
  induction us generalizing o k with
  | nil =>
    have : o = 0 := by simp at h; omega
    have : k = 0 := by simp at h; omega
    subst_vars; rfl
  | cons x xs ih =>
    simp only [List.length_cons] at h
    cases o with
    | zero =>
      cases k with
      | zero => rfl
      | succ k => simp only [part', ih (o := 0) (k := k) (by omega)]; rfl
    | succ o =>
      have : part' (x :: xs) (o + 1) k = part' xs o k := by cases k <;> rfl
      rw [this, ih (by omega)]; rfl
theorem EC.mono {t n m : Nat} {ks : List CK} (e : EC P t n ks) (h : n ≤ m) : EC P t m ks := ⟨fun d hd => e.out d (by omega)⟩
theorem ECF_nil (n o : Nat) : ECF P n o [] [] := ⟨fun d hd xs ys r us vs hx hy hr w => by
  obtain ⟨_, hx2⟩ := part'_eq hx
  obtain ⟨_, hy2⟩ := part'_eq hy
  simp at hx2 hy2
  subst hx2; subst hy2
  cases hr; rfl⟩
theorem ECF_cons {n o o' t : Nat} {fl : List (Nat × Nat)} {ks ks' : List CK} (e : EC P t n ks) (ho : o' = o + ks.length) (f : ECF P n o' fl ks') : ECF P n o ((o, t) :: fl) (ks ++ ks') := ⟨fun d hd xs ys r us vs hx hy hr w => by
  obtain ⟨hx1, hx2⟩ := part'_eq hx
  obtain ⟨hy1, hy2⟩ := part'_eq hy
  rw [List.length_append] at hx1 hy1
  have hxs : xs = (us.drop o).take ks.length ++ (us.drop o').take ks'.length := by
    rw [← hx2, List.length_append, List.take_add, List.drop_drop, ho]
  have hys : ys = (vs.drop o).take ks.length ++ (vs.drop o').take ks'.length := by
    rw [← hy2, List.length_append, List.take_add, List.drop_drop, ho]
  subst hxs; subst hys
  obtain ⟨a, b, h1, h2, rfl⟩ := cellsEq_split hr (by simp; omega) (by simp; omega)
  have k1 := e.out d hd _ _ a o us vs (part'_mk (by omega)) (part'_mk (by omega)) h1 w
  have k2 := f.out d hd _ _ b us vs (part'_mk (by omega)) (part'_mk (by omega)) h2 w
  simp only [List.foldr_cons]
  rw [run_bind] at k1 ⊢
  generalize (part t us.toArray o).run P w = q at k1 ⊢
  cases q with
  | halt => cases k1
  | ok u w1 =>
    simp only [] at k1 ⊢
    rw [run_bind] at k1 ⊢
    generalize (part t vs.toArray o).run P w1 = q at k1 ⊢
    cases q with
    | halt => cases k1
    | ok v w2 =>
      simp only [] at k1 ⊢
      rw [run_bind, k1]
      cases a
      · rfl
      · simpa using k2⟩
theorem run_equal_struct {t n : Nat} {fl : List (Nat × Nat)} {ks : List CK} (s : SE P t fl) (f : ECF P n 0 fl ks) {d : Nat} (hd : n ≤ d) {us vs : List Value} (hu : us.length = ks.length) (hv : vs.length = ks.length) {r : Bool}
    (hr : cellsEq ks us vs = some r) (w : World) : (Op.equalIn (d + 1) t (.agg us.toArray) (.agg vs.toArray)).run P w = .ok r w := by
  obtain ⟨fs, h1, h2, h3, _⟩ := s.out
  have key := f.out d hd us vs r us vs (by rw [part'_mk (by omega)]; simp [← hu]) (by rw [part'_mk (by omega)]; simp [← hv]) hr w
  unfold Op.equalIn
  rw [run_bind]
  have hund : (underlying t).run P w = .ok (.struct fs) w := by
    unfold underlying; rw [run_bind]; simp only [program, Sem.run]; rw [h1]; rfl
  rw [hund]
  simp only []
  rw [run_bind]
  simp only [program, Sem.run, h3, Bool.false_eq_true, if_false]
  rw [← Array.forIn_toList]
  generalize fs.toList = l at h2 ⊢
  clear h1 hund hr hu hv s f
  generalize Result.ok r w = R at key ⊢
  induction l generalizing fl w with
  | nil =>
    cases fl with
    | cons _ _ => cases h2
    | nil => exact key
  | cons x l ih =>
    cases fl with
    | nil => cases h2
    | cons p fl =>
      obtain ⟨o, t⟩ := p
      simp only [List.map_cons, List.cons.injEq, Prod.mk.injEq] at h2
      obtain ⟨⟨e1, e2, e3⟩, h2⟩ := h2
      simp only [List.foldr_cons] at key
      have hn : x.name ≠ "_" := by simpa using e1
      rw [run_bind, List.forIn_cons, run_bind]
      rw [if_pos hn, e2, e3, run_bind]
      rw [run_bind] at key
      generalize (part t us.toArray o).run P w = q at key ⊢
      cases q with
      | halt => exact key
      | ok u w1 =>
        simp only [] at key ⊢
        rw [run_bind] at key ⊢
        generalize (part t vs.toArray o).run P w1 = q at key ⊢
        cases q with
        | halt => exact key
        | ok v w2 =>
          simp only [] at key ⊢
          rw [run_bind] at key ⊢
          generalize (Op.equalIn d t u v).run P w2 = q at key ⊢
          cases q with
          | halt => exact key
          | ok c w3 =>
            cases c
            · simpa using key
            · have := ih h2 (w := w3) (by simpa using key)
              rw [run_bind] at this
              simpa using this
/-- A struct type as a part of another one. -/
theorem EC_struct {t n k bs : Nat} {fl : List (Nat × Nat)} {ks : List CK} (s : SE P t fl) (a : AG P t) (i : TI P t k bs) (f : ECF P n 0 fl ks) (hk : k = ks.length) : EC P t (n + 1) ks := ⟨fun d hd xs ys r o us vs hx hy hr w => by
  obtain ⟨d, rfl⟩ : ∃ e, d = e + 1 := ⟨d - 1, by omega⟩
  obtain ⟨hx1, hx2⟩ := part'_eq hx
  obtain ⟨hy1, hy2⟩ := part'_eq hy
  rw [run_bind, run_partA a i]
  simp only []
  rw [run_bind, run_partA a i]
  simp only []
  rw [hk, hx2, hy2]
  exact run_equal_struct s f (by omega) (by rw [← hx2]; simp; omega) (by rw [← hy2]; simp; omega) hr w⟩
end
/-- A struct type that is compared cell by cell. -/
class EQS (P : Program) (t : TypeId) (ks : outParam (List CK)) : Prop where
  out : P.eqGuardType P.depth t = false ∧ ∀ us vs : List Value, us.length = ks.length → vs.length = ks.length → ∀ r, cellsEq ks us vs = some r → ∀ w, (Op.equal t (.agg us.toArray) (.agg vs.toArray)).run P w = .ok r w
theorem EQS_mk {P : Program} {t n : Nat} {fl : List (Nat × Nat)} {ks : List CK} (s : SE P t fl) (f : ECF P n 0 fl ks) (hn : n ≤ 9999) : EQS P t ks :=
  ⟨s.out.elim fun _ h => h.2.2.2, fun _ _ hu hv _ hr w => run_equal_struct s f (d := 9999) hn hu hv hr w⟩
section
variable {P : Program} {ops : Array Oper} {rest : List Oper} {n : NT} {l g : Env} {L M : List HP} {Q : QT} {d ty : Nat} {pos : String} {aft : Array Edge}
def eqR : BinOp → Bool → Option Bool
  | .eql, b => some b
  | .neq, b => some (!b)
  | _, _ => none
theorem Y_eqA {op : BinOp} {T T' : Nat} {x y : Operand} {us vs : List Value} {r r' : Bool} {ks : List CK} [q : EQS P T ks] (hx : ev l g x = some (.agg us.toArray)) (hy : ev l g y = some (.agg vs.toArray)) (hu : us.length = ks.length) (hv : vs.length = ks.length)
    (hr : cellsEq ks us vs = some r) (ho : eqR op r = some r') : Y P n l g L ⟨some d, .binOp op T x y T', ty, pos, aft, none⟩ (.bool r') :=
  fun a e w s => by
    simp only [execOp, e.eval hx, e.eval hy]
    refine run_value ?_
    have h1 : (eqGuard op T x y (.agg us.toArray) (.agg vs.toArray)).run P w = .ok () w := by
      unfold eqGuard
      cases op <;> simp only [eqR] at ho <;> first
        | (cases ho; done)
        | (rw [if_neg (by simp)]
           simp only [run_bind, program, Sem.run, q.out.1, Bool.not_false, if_true, run_pure])
    have key := q.out.2 us vs hu hv r hr w
    rw [run_bind, h1]
    cases op <;> simp only [eqR] at ho <;> first
      | (cases ho; done)
      | (cases ho; simp only [binOp]; rw [run_bind, key]; rfl)
theorem J_eqA {op : BinOp} {T T' : Nat} {x y : Operand} {us vs : List Value} {r r' : Bool} {ks : List CK} [q : EQS P T ks] (hx : ev l g x = some (.agg us.toArray)) (hy : ev l g y = some (.agg vs.toArray)) (hu : us.length = ks.length) (hv : vs.length = ks.length)
    (hr : cellsEq ks us vs = some r) (ho : eqR op r = some r') (hd : Nat.blt d n.sz = true) (hn : look g d = none)
    (h : J P ops rest n ((d, .bool r') :: l) g L Q) : J P ops (⟨some d, .binOp op T x y T', ty, pos, aft, none⟩ :: rest) n l g L Q :=
  J_pure (Y_eqA hx hy hu hv hr ho) hd hn h
end
end Go.Proofs.Sol

/- More rules: what a strings.Builder does; functions without a body; copy. -/
namespace Go.Proofs.Sol
open Go
theorem Fn_at {P : Program} {f : FuncId} {args : List Value} {L : List HP} {post : Value → World → Prop} (h : ∀ w, Sat w L → ∃ M, Sat w M ∧ Fn P f args M post) : Fn P f args L post :=
  fun w s => let ⟨_, h1, h2⟩ := h w s; h2 w h1
class IsEx (P : Program) (f : FuncId) (e : outParam (Array Value → Sem Value)) : Prop where
  out : ∃ fn, P.funcs[f]? = some fn ∧ (fn.name == "runtime.NumGoroutine") = false ∧ fn.body.isNone = true ∧ Extern.findNext fn = none ∧ Extern.find fn = some e
class LB (P : Program) (T : TypeId) : Prop where
  out : ∃ i, P.info? T = some i ∧ i.size ≠ 0 ∧ liesAt P P.depth T (2 / P.cellsOf T) 0 T 1 = true
class C1 (P : Program) (E : TypeId) : Prop where
  out : P.cellsOf E = 1
section
variable {P : Program} {ops : Array Oper} {rest : List Oper} {n : NT} {l g : Env} {L M : List HP} {Q : QT} {d ty : Nat} {pos : String} {aft : Array Edge}
theorem Y_ext {f : FuncId} {e : Array Value → Sem Value} {args : Array Operand} {at_ : Array TypeId} {vs : List Value} {r : Value} [x : IsEx P f e] (ha : evl l g args.toList = some vs) (hr : ∀ w, (e vs.toArray).run P w = .ok r w) :
    Y P n l g L ⟨some d, .call ⟨.value (.func f), args, at_⟩, ty, pos, aft, none⟩ r :=
  fun a o w _ => by
    obtain ⟨fn, h1, h2, h3, h4, h5⟩ := x.out
    have h6 : args.map a.eval = vs.toArray := by
      apply Array.ext'; rw [Array.toList_map]; exact o.evall ha
    simp only [execOp]
    rw [run_bind]
    simp only [resolve, h6, Act.eval]
    simp only [run_pure, Deferred.ofValue, invoke]
    have e7 : (#[] ++ vs.toArray ++ #[] : Array Value) = vs.toArray := by simp
    rw [e7, run_callFunc_extern h1 h2 h3 h4 h5, hr]; rfl
theorem shape_of {w : World} {b T lo hi : Nat} {vs : List Value} (h : w.heap[b]? = some (.cells vs.toArray T (lo, hi))) : w.shape? b = some (T, vs.length) := by
  simp [World.shape?, h]
/-- A pointer beside itself. -/
theorem Y_neqSelf {T T' E k bs : Nat} {x y : Operand} {a : Addr} [u : UL P T (.pointer E)] [i : TI P E k bs] (hx : ev l g x = some (.pointer (some a))) (hy : ev l g y = some (.pointer (some a))) :
    Y P n l g L ⟨some d, .binOp .neq T x y T', ty, pos, aft, none⟩ (.bool false) :=
  Y_bin hx hy (by rintro _ _ ⟨h, _⟩; cases h) (by rintro ⟨h, _⟩; cases h) (fun w _ => by
    obtain ⟨j, _, _, _, hj⟩ := run_info i w
    exact Lib.run_neq_ptr_same w a u.out hj)
theorem Y_toUnsafe {s t T b lo hi : Nat} {x : Operand} {vs : List Value} [u : UL P s (.pointer T)] [v : UL P t .unsafePointer] [z : LB P T] (hx : ev l g x = some (.pointer (some ⟨b, 0, none⟩))) [c : CG L b T vs lo hi] (hv : 0 < vs.length) :
    Y P n l g L ⟨some d, .convert s t x, ty, pos, aft, none⟩ (.pointer (some ⟨b, 0, none⟩)) :=
  fun a e w sa => by
    obtain ⟨i, h1, h2, _⟩ := z.out
    simp only [execOp, e.eval hx]
    exact run_value (Lib.run_to_unsafe w ⟨b, 0, none⟩ u.out v.out h1 h2 (shape_of (c.out _ sa)) hv)
theorem Y_fromUnsafe {s t T b lo hi : Nat} {x : Operand} {vs : List Value} [u : UL P s .unsafePointer] [v : UL P t (.pointer T)] [z : LB P T] (hx : ev l g x = some (.pointer (some ⟨b, 0, none⟩))) [c : CG L b T vs lo hi] (hv : vs.length = 2) :
    Y P n l g L ⟨some d, .convert s t x, ty, pos, aft, none⟩ (.pointer (some ⟨b, 0, none⟩)) :=
  fun a e w sa => by
    obtain ⟨i, h1, h2, h3⟩ := z.out
    simp only [execOp, e.eval hx]
    exact run_value (Lib.run_from_unsafe w ⟨b, 0, none⟩ u.out v.out h1 (shape_of (c.out _ sa)) (by rw [hv]; exact h3))
/-- unsafe.SliceData. -/
theorem Y_sliceData {t b len cap : Nat} {x : Operand} (hx : ev l g x = some (.slice (some ⟨b, 0, none⟩) len cap)) (hc : cap ≠ 0) : Y P n l g L ⟨some d, .call ⟨.builtin .unsafeSliceData, #[x], #[t]⟩, ty, pos, aft, none⟩ (.pointer (some ⟨b, 0, none⟩)) :=
  fun a' e w s => by
    rw [run_builtin e (vs := [.slice (some ⟨b, 0, none⟩) len cap]) (by simp only [evl, hx])]
    unfold builtin
    exact run_value (Lib.run_unsafeSliceData_row w _ _ _ len cap hc)
theorem Y_sliceData0 {t len cap : Nat} {x : Operand} (hx : ev l g x = some (.slice none len cap)) : Y P n l g L ⟨some d, .call ⟨.builtin .unsafeSliceData, #[x], #[t]⟩, ty, pos, aft, none⟩ (.pointer none) :=
  fun a' e w s => by
    rw [run_builtin e (vs := [.slice none len cap]) (by simp only [evl, hx])]
    unfold builtin
    exact run_value (Lib.run_unsafeSliceData_nil w _ _ len cap)
theorem Y_string0 {t t' : Nat} {x y : Operand} {p : Option Addr} (hx : ev l g x = some (.pointer p)) (hy : ev l g y = some (.int .i64 0)) : Y P n l g L ⟨some d, .call ⟨.builtin .unsafeString, #[x, y], #[t, t']⟩, ty, pos, aft, none⟩ (.string (S [])) :=
  fun a' e w s => by
    rw [run_builtin e (vs := [.pointer p, .int .i64 0]) (by simp only [evl, hx, hy])]
    unfold builtin
    exact run_value (Lib.run_unsafeString_none w _ _ _ p)
theorem Sat.freeze {w : World} {b E : Nat} {vs : List Value} (s : Sat w (cl b E vs :: L)) (k : Nat) (hk : k ≠ 0) : Sat (w.freeze ⟨b, 0, none⟩ k) (clf b E vs 0 k :: L) := by
  have hb := s.cell
  have hlt : b < w.heap.size := by
    rcases Nat.lt_or_ge b w.heap.size with h | h
    · exact h
    · simp [h] at hb
  refine s.set (.cells vs.toArray E (0, k)) ?_
  unfold World.freeze
  rw [if_neg hk]
  congr 1
  apply Array.ext
  · simp
  · intro i h1 h2
    rw [Array.getElem_modify, Array.getElem_setIfInBounds (by simpa using h2)]
    by_cases h : b = i
    · subst h
      have : w.heap[b] = .cells vs.toArray E (0, 0) := by
        rw [Array.getElem?_eq_getElem hlt] at hb; injection hb
      simp [this]
    · simp [h]
theorem Sat.freezeK {w : World} {b E m : Nat} {vs : List Value} (s : Sat w (clf b E vs 0 m :: L)) (k : Nat) (hk : k ≠ 0) (hm : m ≤ k) : Sat (w.freeze ⟨b, 0, none⟩ k) (clf b E vs 0 k :: L) := by
  have hb := s.cell
  have hlt : b < w.heap.size := by
    rcases Nat.lt_or_ge b w.heap.size with h | h
    · exact h
    · simp [h] at hb
  refine s.set (.cells vs.toArray E (0, k)) ?_
  unfold World.freeze
  rw [if_neg hk]
  congr 1
  apply Array.ext
  · simp
  · intro i h1 h2
    rw [Array.getElem_modify, Array.getElem_setIfInBounds (by simpa using h2)]
    by_cases h : b = i
    · subst h
      have : w.heap[b] = .cells vs.toArray E (0, m) := by
        rw [Array.getElem?_eq_getElem hlt] at hb; injection hb
      simp only [if_true, this]
      by_cases h0 : m = 0
      · subst h0; simp
      · have e : (0 == m) = false := by simpa using fun h => h0 h.symm
        simp [e, Nat.max_eq_right hm]
    · simp [h]
/-- unsafe.String of a row of bytes: they may not be turned from then on. -/
theorem J_string {t t' E b : Nat} {x y : Operand} {cs : List UInt8} {sp : List Value} {R : List HP} [u : UL P t (.pointer E)] [c1 : C1 P E] (hx : ev l g x = some (.pointer (some ⟨b, 0, none⟩))) (hy : ev l g y = some (.int .i64 (cs.length : Int))) (h0 : cs ≠ []) (h63 : cs.length < 9223372036854775808)
    (tk : Take L (cl b E (cs.map byv ++ sp)) R) (hd : Nat.blt d n.sz = true) (hn : look g d = none)
    (h : J P ops rest n ((d, .string (S cs)) :: l) g R Q) : J P ops (⟨some d, .call ⟨.builtin .unsafeString, #[x, y], #[t, t']⟩, ty, pos, aft, none⟩ :: rest) n l g L Q := by
  intro a w e s
  refine wpL_plain rfl fun K hK => ?_
  unfold Oper.wp
  rw [run_builtin e (vs := [.pointer (some ⟨b, 0, none⟩), .int .i64 (cs.length : Int)]) (by simp only [evl, hx, hy])]
  unfold builtin
  have s' := s.take tk
  have hb := s'.cell
  have hr := Lib.run_unsafeString_row (P := P) w t t' ty E u.out c1.out b (cs.map byv ++ sp).length (shape_of hb) cs h0 (by simp) (by omega) (by
    intro j c hj
    rw [add_mk]
    have hlt : j < cs.length := by
      rcases Nat.lt_or_ge j cs.length with h | h
      · exact h
      · simp [h] at hj
    rw [List.getElem?_eq_getElem hlt] at hj
    injection hj with hj
    subst hj
    simp only [World.cell?, hb, Nat.zero_add]
    simp only [Option.isSome_none, Bool.false_eq_true, if_false, List.getElem?_toArray]
    rw [List.getElem?_append_left (by simpa using hlt)]
    simp [hlt, byv])
  rw [run_value hr, Oper.upon_value]
  exact hK _ _ (h _ _ (e.putl hd hn _) (s'.freeze _ (by simpa using h0)).drop)
/-- The same; they stay to be read. -/
theorem J_stringK {t t' E b m : Nat} {x y : Operand} {cs : List UInt8} {sp : List Value} {R : List HP} [u : UL P t (.pointer E)] [c1 : C1 P E] (hx : ev l g x = some (.pointer (some ⟨b, 0, none⟩))) (hy : ev l g y = some (.int .i64 (cs.length : Int))) (h0 : cs ≠ []) (h63 : cs.length < 9223372036854775808)
    (tk : Take L (clf b E (cs.map byv ++ sp) 0 m) R) (hm : m ≤ cs.length) (hd : Nat.blt d n.sz = true) (hn : look g d = none)
    (h : J P ops rest n ((d, .string (S cs)) :: l) g (clf b E (cs.map byv ++ sp) 0 cs.length :: R) Q) : J P ops (⟨some d, .call ⟨.builtin .unsafeString, #[x, y], #[t, t']⟩, ty, pos, aft, none⟩ :: rest) n l g L Q := by
  intro a w e s
  refine wpL_plain rfl fun K hK => ?_
  unfold Oper.wp
  rw [run_builtin e (vs := [.pointer (some ⟨b, 0, none⟩), .int .i64 (cs.length : Int)]) (by simp only [evl, hx, hy])]
  unfold builtin
  have s' := s.take tk
  have hb := s'.cell
  have hr := Lib.run_unsafeString_row (P := P) w t t' ty E u.out c1.out b (cs.map byv ++ sp).length (shape_of hb) cs h0 (by simp) (by omega) (by
    intro j c hj
    rw [add_mk]
    have hlt : j < cs.length := by
      rcases Nat.lt_or_ge j cs.length with h | h
      · exact h
      · simp [h] at hj
    rw [List.getElem?_eq_getElem hlt] at hj
    injection hj with hj
    subst hj
    simp only [World.cell?, hb, Nat.zero_add]
    simp only [Option.isSome_none, Bool.false_eq_true, if_false, List.getElem?_toArray]
    rw [List.getElem?_append_left (by simpa using hlt)]
    simp [hlt, byv])
  rw [run_value hr, Oper.upon_value]
  exact hK _ _ (h _ _ (e.putl hd hn _) (s'.freezeK _ (by simpa using h0) hm))
theorem first_of {b o T k c m cap lo hi : Nat} {vs ys : List Value} [g : CG L b T vs lo hi] (hle : o + c * k ≤ vs.length) (hys : (vs.drop o).take (c * k) = ys) : ∀ w, Sat w L → (Builtin.firstCells k c (.slice (some ⟨b, o, none⟩) m cap)).run P w = .ok ys.toArray w := by
  intro w s
  unfold Builtin.firstCells
  rw [run_loadCells (g.out w s) hle, hys]
/-- copy, within what the program knows. -/
theorem J_copy {t t' E k bs b o m cap : Nat} {x y : Operand} {v2 : Value} {vs ys vs' : List Value} {c m2 : Nat} {f : HP → List HP} [u : UL P t (.slice E)] [i : TI P E k bs] (hx : ev l g x = some (.slice (some ⟨b, o, none⟩) m cap)) (hy : ev l g y = some v2)
    [ct : CT L b E vs 0 0 f] (hn2 : ∀ w, Sat w L → (Builtin.lenOf v2).run P w = .ok m2 w) (hc : min m2 m = c) (hl : ∀ w, Sat w L → (Builtin.firstCells k c v2).run P w = .ok ys.toArray w) (hsg : ys.all single = true) (hle : o + ys.length ≤ vs.length) (hvs : setAll vs o ys = vs')
    (hd : Nat.blt d n.sz = true) (hn : look g d = none)
    (h : J P ops rest n ((d, .int .i64 (c : Int)) :: l) g (f (cl b E vs')) Q) : J P ops (⟨some d, .call ⟨.builtin .copy, #[x, y], #[t, t']⟩, ty, pos, aft, none⟩ :: rest) n l g L Q := by
  intro a w e s
  refine wpL_plain rfl fun K hK => ?_
  unfold Oper.wp
  rw [run_builtin e (vs := [.slice (some ⟨b, o, none⟩) m cap, v2]) (by simp only [evl, hx, hy])]
  unfold builtin
  obtain ⟨R, tk, back⟩ := ct.out
  have s' := s.take tk
  have hb := s'.cell
  have hst := run_storeCells (P := P) (us := ys) (k := 0) (o := o) hb (by omega) hsg
  have hr : (Builtin.copy_ #[t, t'] ty #[.slice (some ⟨b, o, none⟩) m cap, v2]).run P w = .ok (.int .i64 (c : Int)) { w with heap := w.heap.setIfInBounds b (.cells (setAll vs (o + 0) ys).toArray E (0, 0)) } := by
    unfold Builtin.copy_
    simp only [List.getElem?_toArray, List.getElem?_cons_zero, List.getElem?_cons_succ]
    rw [run_bind, run_underlying u]
    simp only []
    rw [run_bind, hn2 w s]
    simp only []
    rw [run_bind, run_sizeOf i]
    simp only []
    have hc' : Nat.min m2 m = c := hc
    rw [run_bind, hc', hl w s]
    simp only []
    rw [run_bind, hst]
    rfl
  rw [run_value hr, Oper.upon_value]
  refine hK _ _ (h _ _ (e.putl hd hn _) (back _ _ ?_))
  rw [← hvs]
  exact s'.set _ rfl
end
end Go.Proofs.Sol
