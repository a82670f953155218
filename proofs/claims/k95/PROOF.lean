import PyProof.Rows.All
import Wide.All
import OpenK.AllK
import Wide.FinOn
import HandS.ForMost
import HandS.ForExc
import HandS.TryMany
import HandS.Flow
import HandS.Wide
import KE.DataEq
import HandS.Style
import HandS.Zip
import HandS.IsInst
import HandS.Gcd
import HandS.ExcIs
import HandS.ExcField
import HandS.ExcInit
import HandS.ExcOwn
import HandS.TryOnly
import KE.KExcIs
import PySem.Challenge.RW_sendsure_k95_whole_steps_of_calls
set_option Elab.async false
set_option linter.all false
set_option maxRecDepth 100000
/-! IrA: data as values (D), what stands for them in the heap (Rep), worlds and how they grow. -/
namespace IR
open PySem L2

/-- a value: frozen lists, tuples, dicts by content; a mutable object of its own by its number -/
inductive D where
  | non
  | bl (b : Bool)
  | int (i : Int)
  | str (x : Str)
  | tup (xs : List D)
  | lst (xs : List D)
  | dic (kvs : List (Key × D))
  | ref (c : Nat)
  /-- a list that is only read: the script, a constant of the text -/
  | ro (xs : List D)

/-- what stands in a mutable object -/
inductive Ob where
  | lst (xs : List D)
  | dic (kvs : List (Key × D))
  | ins (cl : Str) (fs : List (Str × D))

inductive Slot where
  | no
  | val (d : D)
  | own (o : Ob)

def Ob.toD : Ob → Option D
  | .lst xs => some (.lst xs)
  | .dic kvs => some (.dic kvs)
  | .ins _ _ => none

section
variable (K : PySem.W.Frag) (ι : List Addr) (F : Hp)
mutual
inductive Rep : V → D → Prop
  | non : Rep .non .non
  | bl (b : Bool) : Rep (.bl b) (.bl b)
  | int (i : Int) : Rep (.int i) (.int i)
  | str (x : Str) : Rep (.str x) (.str x)
  | tup {a : Addr} {vs : List V} {ds : List D} : SqT K F a vs → Reps vs ds → Rep (.ref a) (.tup ds)
  | lst {a : Addr} {vs : List V} {ds : List D} : F a = some (.lst vs) → Reps vs ds → Rep (.ref a) (.lst ds)
  | ro {a : Addr} {vs : List V} {ds : List D} : SqL K F a vs → Reps vs ds → Rep (.ref a) (.ro ds)
  | dic {a : Addr} {kvs : List (Key × V)} {kds : List (Key × D)} : F a = some (.dK kvs) → RepK kvs kds → Rep (.ref a) (.dic kds)
  | ref {a : Addr} {c : Nat} : ι[c]? = some a → Rep (.ref a) (.ref c)
inductive Reps : List V → List D → Prop
  | nil : Reps [] []
  | cons {v : V} {d : D} {vs : List V} {ds : List D} : Rep v d → Reps vs ds → Reps (v :: vs) (d :: ds)
inductive RepK : List (Key × V) → List (Key × D) → Prop
  | nil : RepK [] []
  | cons {k : Key} {v : V} {d : D} {vs : List (Key × V)} {ds : List (Key × D)} : Rep v d → RepK vs ds → RepK ((k, v) :: vs) ((k, d) :: ds)
end
end

theorem same_seq {K : PySem.W.Frag} {H H' : Hp} {a : Addr} {xs : List V} (e : Same H H') (h : SqL K H a xs) : SqL K H' a xs := e.seq h
theorem same_tup {K : PySem.W.Frag} {H H' : Hp} {a : Addr} {xs : List V} (e : Same H H') (h : SqT K H a xs) : SqT K H' a xs := by
  rcases h with (h | ⟨o, h⟩) | h
  · exact .inl (.inl (e _ _ h))
  · exact .inl (.inr ⟨o, e _ _ h⟩)
  · exact .inr h

section
variable {K : PySem.W.Frag} {ι ι' : List Addr} {F F' : Hp}
mutual
theorem Rep.mono (e : Same F F') (hi : ∀ (c : Nat) a, ι[c]? = some a → ι'[c]? = some a) : ∀ {v : V} {d : D}, Rep K ι F v d → Rep K ι' F' v d
  | _, _, .non => .non
  | _, _, .bl b => .bl b
  | _, _, .int i => .int i
  | _, _, .str x => .str x
  | _, _, .tup h r => .tup (same_tup e h) (Reps.mono e hi r)
  | _, _, .lst h r => .lst (e _ _ h) (Reps.mono e hi r)
  | _, _, .ro h r => .ro (same_seq e h) (Reps.mono e hi r)
  | _, _, .dic h r => .dic (e _ _ h) (RepK.mono e hi r)
  | _, _, .ref h => .ref (hi _ _ h)
theorem Reps.mono (e : Same F F') (hi : ∀ (c : Nat) a, ι[c]? = some a → ι'[c]? = some a) : ∀ {v : List V} {d : List D}, Reps K ι F v d → Reps K ι' F' v d
  | _, _, .nil => .nil
  | _, _, .cons r s => .cons (Rep.mono e hi r) (Reps.mono e hi s)
theorem RepK.mono (e : Same F F') (hi : ∀ (c : Nat) a, ι[c]? = some a → ι'[c]? = some a) : ∀ {v : List (Key × V)} {d : List (Key × D)}, RepK K ι F v d → RepK K ι' F' v d
  | _, _, .nil => .nil
  | _, _, .cons r s => .cons (Rep.mono e hi r) (RepK.mono e hi s)
end

theorem Reps.length : ∀ {vs : List V} {ds : List D}, Reps K ι F vs ds → vs.length = ds.length
  | _, _, .nil => rfl
  | _, _, .cons _ s => congrArg (· + 1) s.length
theorem Reps.get : ∀ {vs : List V} {ds : List D} {i : Nat} {d : D}, Reps K ι F vs ds → ds[i]? = some d → ∃ v, vs[i]? = some v ∧ Rep K ι F v d
  | _, _, _, _, .nil, e => by simp at e
  | _, _, 0, _, .cons r _, e => by simp at e; subst e; exact ⟨_, rfl, r⟩
  | _, _, i + 1, d, .cons _ s, e => by
    obtain ⟨v, h1, h2⟩ := Reps.get (i := i) (d := d) s (by simpa using e)
    exact ⟨v, by simpa using h1, h2⟩
theorem Reps.getV : ∀ {vs : List V} {ds : List D} {i : Nat} {v : V}, Reps K ι F vs ds → vs[i]? = some v → ∃ d, ds[i]? = some d ∧ Rep K ι F v d
  | _, _, _, _, .nil, e => by simp at e
  | _, _, 0, _, .cons r _, e => by simp at e; subst e; exact ⟨_, rfl, r⟩
  | _, _, i + 1, d, .cons _ s, e => by
    obtain ⟨v, h1, h2⟩ := Reps.getV (i := i) (v := d) s (by simpa using e)
    exact ⟨v, by simpa using h1, h2⟩
theorem Reps.append : ∀ {vs ws : List V} {ds es : List D}, Reps K ι F vs ds → Reps K ι F ws es → Reps K ι F (vs ++ ws) (ds ++ es)
  | _, _, _, _, .nil, s => s
  | _, _, _, _, .cons r t, s => .cons r (Reps.append t s)
theorem Reps.one {v : V} {d : D} (r : Rep K ι F v d) : Reps K ι F [v] [d] := .cons r .nil
theorem Reps.set {v : V} {d : D} (r : Rep K ι F v d) : ∀ {vs : List V} {ds : List D} (i : Nat), Reps K ι F vs ds → Reps K ι F (vs.set i v) (ds.set i d)
  | _, _, _, .nil => .nil
  | _, _, 0, .cons _ t => .cons r t
  | _, _, i + 1, .cons q t => .cons q (Reps.set r i t)
theorem Reps.take : ∀ {vs : List V} {ds : List D} (n : Nat), Reps K ι F vs ds → Reps K ι F (vs.take n) (ds.take n)
  | _, _, 0, _ => by rw [List.take_zero, List.take_zero]; exact .nil
  | _, _, _ + 1, .nil => .nil
  | _, _, n + 1, .cons q t => .cons q (Reps.take n t)
theorem Reps.drop : ∀ {vs : List V} {ds : List D} (n : Nat), Reps K ι F vs ds → Reps K ι F (vs.drop n) (ds.drop n)
  | _, _, 0, r => r
  | _, _, _ + 1, .nil => .nil
  | _, _, n + 1, .cons _ t => Reps.drop n t
theorem Reps.dropLast : ∀ {vs : List V} {ds : List D}, Reps K ι F vs ds → Reps K ι F vs.dropLast ds.dropLast
  | _, _, .nil => .nil
  | _, _, .cons _ .nil => .nil
  | _, _, .cons r (.cons q t) => .cons r (Reps.dropLast (.cons q t))
theorem Reps.reverse : ∀ {vs : List V} {ds : List D}, Reps K ι F vs ds → Reps K ι F vs.reverse ds.reverse
  | _, _, .nil => .nil
  | _, _, .cons r t => by
    rw [List.reverse_cons, List.reverse_cons]
    exact (Reps.reverse t).append (Reps.one r)
theorem Reps.eraseIdx : ∀ {vs : List V} {ds : List D} (n : Nat), Reps K ι F vs ds → Reps K ι F (vs.eraseIdx n) (ds.eraseIdx n)
  | _, _, _, .nil => .nil
  | _, _, 0, .cons _ t => t
  | _, _, n + 1, .cons q t => .cons q (Reps.eraseIdx n t)
theorem Reps.ints : ∀ {vs : List V} {ns : List Int}, Reps K ι F vs (ns.map D.int) → vs = ns.map V.int
  | _, [], .nil => rfl
  | _, n :: ns, .cons r t => by
    cases r
    rw [Reps.ints t]
    rfl
theorem Reps.bls : ∀ {vs : List V} {ns : List Bool}, Reps K ι F vs (ns.map D.bl) → vs = ns.map V.bl
  | _, [], .nil => rfl
  | _, n :: ns, .cons r t => by
    cases r
    rw [Reps.bls t]
    rfl
theorem Reps.strs : ∀ {vs : List V} {ns : List Str}, Reps K ι F vs (ns.map D.str) → vs = ns.map V.str
  | _, [], .nil => rfl
  | _, n :: ns, .cons r t => by
    cases r
    rw [Reps.strs t]
    rfl
theorem Reps.ofInts : ∀ ns : List Int, Reps K ι F (ns.map V.int) (ns.map D.int)
  | [] => .nil
  | n :: ns => .cons (.int n) (Reps.ofInts ns)
theorem Reps.ofStrs : ∀ ns : List Str, Reps K ι F (ns.map V.str) (ns.map D.str)
  | [] => .nil
  | n :: ns => .cons (.str n) (Reps.ofStrs ns)
end

/-! ### a world: cells' addresses, what is frozen, what is another's -/
structure Wd where
  ι : List Addr
  F : Hp
  B : Hp
  ρ : List Slot
  C : List (Option Ob)

/-- an owned object: of a slot, of a cell -/
inductive Ow where
  | s (i : Nat)
  | c (i : Nat)
  deriving DecidableEq

def Wd.ob (w : Wd) : Ow → Option Ob
  | .s i => match w.ρ[i]? with
    | some (.own o) => some o
    | _ => none
  | .c i => (w.C[i]?).join
def Wd.addr (w : Wd) (σ : St) : Ow → Option Addr
  | .s i => match σ[i]? with
    | some (some (.ref p)) => some p
    | _ => none
  | .c i => w.ι[i]?

inductive RepF (K : PySem.W.Frag) (ι : List Addr) (F : Hp) : List (Str × V) → List (Str × D) → Prop
  | nil : RepF K ι F [] []
  | cons {x : Str} {v : V} {d : D} {vs : List (Str × V)} {ds : List (Str × D)} : Rep K ι F v d → RepF K ι F vs ds → RepF K ι F ((x, v) :: vs) ((x, d) :: ds)
theorem RepF.mono {K : PySem.W.Frag} {ι ι' : List Addr} {F F' : Hp} (e : Same F F') (hi : ∀ (c : Nat) a, ι[c]? = some a → ι'[c]? = some a) : ∀ {v : List (Str × V)} {d : List (Str × D)}, RepF K ι F v d → RepF K ι' F' v d
  | _, _, .nil => .nil
  | _, _, .cons r s => .cons (Rep.mono e hi r) (RepF.mono e hi s)

/-- what the object o is at p -/
def HoAt (K : PySem.W.Frag) (cl : Str → Option Addr) (ι : List Addr) (F : Hp) (o : Ob) (h : HO) : Prop :=
  match o with
  | .lst ds => ∃ vs, h = .lst vs ∧ Reps K ι F vs ds
  | .dic kds => ∃ kvs, h = .dK kvs ∧ RepK K ι F kvs kds
  | .ins c fs => ∃ C dx fvs, cl c = some C ∧ h = .ins C dx fvs ∧ RepF K ι F fvs fs
theorem HoAt.mono {K : PySem.W.Frag} {cl : Str → Option Addr} {ι ι' : List Addr} {F F' : Hp} {o : Ob} {h : HO} (e : Same F F') (hi : ∀ (c : Nat) a, ι[c]? = some a → ι'[c]? = some a) (x : HoAt K cl ι F o h) : HoAt K cl ι' F' o h := by
  cases o with
  | lst ds => obtain ⟨vs, q, r⟩ := x; exact ⟨vs, q, r.mono e hi⟩
  | dic ds => obtain ⟨vs, q, r⟩ := x; exact ⟨vs, q, r.mono e hi⟩
  | ins c fs => obtain ⟨C, dx, vs, q1, q2, r⟩ := x; exact ⟨C, dx, vs, q1, q2, r.mono e hi⟩

structure ObAt (K : PySem.W.Frag) (cl : Str → Option Addr) (ι : List Addr) (F B H : Hp) (p : Addr) (o : Ob) : Prop where
  fr : F p = none
  br : B p = none
  at' : ∃ h, H p = some h ∧ HoAt K cl ι F o h

section
variable (K : PySem.W.Frag) (cl : Str → Option Addr)
structure Rel (w : Wd) (H : Hp) (σ : St) : Prop where
  fH : Same w.F H
  bH : Same w.B H
  dis : ∀ a o, w.B a = some o → w.F a = none
  len : σ.length = w.ρ.length
  lenC : w.ι.length = w.C.length
  val : ∀ (i : Nat) d, w.ρ[i]? = some (.val d) → ∃ v, σ[i]? = some (some v) ∧ Rep K w.ι w.F v d
  own : ∀ j o, w.ob j = some o → ∃ p, w.addr σ j = some p ∧ ObAt K cl w.ι w.F w.B H p o
  inj : ∀ j j' o o' p, w.ob j = some o → w.ob j' = some o' → w.addr σ j = some p → w.addr σ j' = some p → j = j'
end

/-- what grows -/
structure Le (w w' : Wd) : Prop where
  f : Same w.F w'.F
  b : w'.B = w.B
  i : ∀ (c : Nat) a, w.ι[c]? = some a → w'.ι[c]? = some a
theorem Le.refl (w : Wd) : Le w w := ⟨Same.refl _, rfl, fun _ _ h => h⟩
theorem Le.trans {a b c : Wd} (x : Le a b) (y : Le b c) : Le a c := ⟨x.f.trans y.f, y.b.trans x.b, fun n p h => y.i n p (x.i n p h)⟩

/-- a result -/
inductive Rv where
  /-- a value -/
  | v (d : D)
  /-- a new object, nobody's yet -/
  | n (o : Ob)
  /-- what stands in a slot -/
  | s (i : Nat)

section
variable (K : PySem.W.Frag) (cl : Str → Option Addr)
def RRep (w : Wd) (H : Hp) (σ : St) (v : V) : Rv → Prop
  | .v d => Rep K w.ι w.F v d
  | .n o => ∃ p, v = .ref p ∧ ObAt K cl w.ι w.F w.B H p o ∧ ∀ j o', w.ob j = some o' → w.addr σ j ≠ some p
  | .s i => σ[i]? = some (some v)

/-- the top in H, what is within in F -/
def RepT (w : Wd) (H : Hp) (v : V) : D → Prop
  | .lst ds => ∃ p vs, v = .ref p ∧ H p = some (.lst vs) ∧ Reps K w.ι w.F vs ds
  | .ro ds => ∃ p vs, v = .ref p ∧ SqL K H p vs ∧ Reps K w.ι w.F vs ds
  | .tup ds => ∃ p vs, v = .ref p ∧ SqT K H p vs ∧ Reps K w.ι w.F vs ds
  | .dic kds => ∃ p kvs, v = .ref p ∧ H p = some (.dK kvs) ∧ RepK K w.ι w.F kvs kds
  | d => Rep K w.ι w.F v d
end

/-- a value's content: of a cell that is a list or a dict -/
def derefO (c : Nat) : Option (Option Ob) → D
  | some (some (.lst xs)) => .lst xs
  | some (some (.dic kvs)) => .dic kvs
  | _ => .ref c
def deref (C : List (Option Ob)) : D → D
  | .ref c => derefO c C[c]?
  | d => d
def peekS (C : List (Option Ob)) : Option Slot → Option D
  | some (.own o) => o.toD
  | some (.val d) => some (deref C d)
  | _ => none
def peek (ρ : List Slot) (C : List (Option Ob)) : Rv → Option D
  | .v d => some (deref C d)
  | .n o => o.toD
  | .s i => peekS C ρ[i]?

section
variable {K : PySem.W.Frag} {cl : Str → Option Addr} {w : Wd} {H : Hp} {σ : St}
theorem RepT.of (s : Same w.F H) {v : V} {d : D} (r : Rep K w.ι w.F v d) : RepT K w H v d := by
  cases r with
  | tup h r => exact ⟨_, _, rfl, same_tup s h, r⟩
  | lst h r => exact ⟨_, _, rfl, s _ _ h, r⟩
  | ro h r => exact ⟨_, _, rfl, same_seq s h, r⟩
  | dic h r => exact ⟨_, _, rfl, s _ _ h, r⟩
  | non => exact Rep.non
  | bl b => exact Rep.bl b
  | int b => exact Rep.int b
  | str b => exact Rep.str b
  | ref h => exact Rep.ref h
theorem ob_toD {o : Ob} {d : D} {p : Addr} (e : o.toD = some d) (h : ∃ h, H p = some h ∧ HoAt K cl w.ι w.F o h) : RepT K w H (.ref p) d := by
  obtain ⟨h, hp, ha⟩ := h
  cases o with
  | lst ds =>
    cases e
    obtain ⟨vs, rfl, r⟩ := ha
    exact ⟨p, vs, rfl, hp, r⟩
  | dic ds =>
    cases e
    obtain ⟨vs, rfl, r⟩ := ha
    exact ⟨p, vs, rfl, hp, r⟩
  | ins c fs => cases e
theorem ob_c {c : Nat} {o : Ob} (e : w.C[c]? = some (some o)) : w.ob (.c c) = some o := by
  show (w.C[c]?).join = _
  rw [e]
  rfl
theorem ob_s {i : Nat} {o : Ob} (e : w.ρ[i]? = some (.own o)) : w.ob (.s i) = some o := by
  show (match w.ρ[i]? with | some (.own o) => some o | _ => none) = _
  rw [e]
theorem of_ob_s {i : Nat} {o : Ob} (e : w.ob (.s i) = some o) : w.ρ[i]? = some (.own o) := by
  have e : (match w.ρ[i]? with | some (.own o) => some o | _ => none) = some o := e
  split at e
  · rename_i q
    cases e
    exact q
  · cases e
theorem of_ob_c {c : Nat} {o : Ob} (e : w.ob (.c c) = some o) : w.C[c]? = some (some o) := by
  have e : (w.C[c]?).join = some o := e
  cases q : w.C[c]? with
  | none => rw [q] at e; cases e
  | some x => rw [q] at e; exact congrArg some e
theorem of_addr_s {i : Nat} {p : Addr} (e : w.addr σ (.s i) = some p) : σ[i]? = some (some (.ref p)) := by
  have e : (match σ[i]? with | some (some (.ref p)) => some p | _ => none) = some p := e
  split at e
  · rename_i q
    cases e
    exact q
  · cases e
theorem addr_s {i : Nat} {p : Addr} (e : σ[i]? = some (some (.ref p))) : w.addr σ (.s i) = some p := by
  show (match σ[i]? with | some (some (.ref p)) => some p | _ => none) = _
  rw [e]
theorem deref_rep (R : Rel K cl w H σ) {v : V} {d : D} (r : Rep K w.ι w.F v d) : RepT K w H v (deref w.C d) := by
  cases r with
  | ref hc =>
    rename_i a c
    show RepT K w H (.ref a) (derefO c w.C[c]?)
    have go : ∀ o d, w.C[c]? = some (some o) → o.toD = some d → RepT K w H (.ref a) d := fun o d e ed => by
      obtain ⟨p, hp, oa⟩ := R.own _ _ (ob_c e)
      have hp : w.ι[c]? = some p := hp
      rw [hc] at hp
      cases hp
      exact ob_toD ed oa.at'
    cases e : w.C[c]? with
    | none => exact Rep.ref hc
    | some x =>
      cases x with
      | none => exact Rep.ref hc
      | some o =>
        cases o with
        | lst xs => exact go _ _ e rfl
        | dic xs => exact go _ _ e rfl
        | ins c fs => exact Rep.ref hc
  | tup h r => exact RepT.of R.fH (.tup h r)
  | lst h r => exact RepT.of R.fH (.lst h r)
  | ro h r => exact RepT.of R.fH (.ro h r)
  | dic h r => exact RepT.of R.fH (.dic h r)
  | non => exact Rep.non
  | bl b => exact Rep.bl b
  | int b => exact Rep.int b
  | str b => exact Rep.str b
theorem peek_rep (R : Rel K cl w H σ) {v : V} {r : Rv} {d : D} (h : RRep K cl w H σ v r) (e : peek w.ρ w.C r = some d) : RepT K w H v d := by
  cases r with
  | v d' => cases e; exact deref_rep R h
  | n o =>
    obtain ⟨p, rfl, oa, _⟩ := h
    exact ob_toD (show o.toD = some d from e) oa.at'
  | s i =>
    have h : σ[i]? = some (some v) := h
    have e : peekS w.C w.ρ[i]? = some d := e
    cases q : w.ρ[i]? with
    | none => rw [q] at e; cases e
    | some sl =>
      rw [q] at e
      cases sl with
      | no => cases e
      | val d' =>
        cases e
        obtain ⟨v', h1, h2⟩ := R.val i d' q
        rw [h] at h1
        cases h1
        exact deref_rep R h2
      | own o =>
        obtain ⟨p, hp, oa⟩ := R.own _ _ (ob_s q)
        have hp := of_addr_s hp
        rw [h] at hp
        cases hp
        exact ob_toD (show o.toD = some d from e) oa.at'
end
end IR

set_option Elab.async false
set_option linter.all false
set_option maxRecDepth 100000
/-! IrB: a small language and what it does, over data alone. -/
namespace IR
open PySem L2

/-! ### outcomes -/
/-- an exception: its class, its fields -/
structure Exn where
  cl : Str
  fs : List (Str × D)

structure Sm where
  ρ : List Slot
  C : List (Option Ob)

inductive Out (α : Type) where
  | ok (a : α) (s : Sm)
  | exc (x : Exn) (s : Sm)
  | bad

abbrev M (α : Type) := Sm → Out α
def M.pure {α : Type} (a : α) : M α := fun s => .ok a s
def Out.bind {α β : Type} (o : Out α) (f : α → M β) : Out β :=
  match o with
  | .ok a s => f a s
  | .exc x s => .exc x s
  | .bad => .bad
def M.bind {α β : Type} (m : M α) (f : α → M β) : M β := fun s => (m s).bind f
def M.bad {α : Type} : M α := fun _ => .bad
instance : Monad M where
  pure := M.pure
  bind := M.bind
def ofO {α : Type} : Option α → M α
  | some a => M.pure a
  | none => M.bad

/-! ### data -/
mutual
def D.refFree : D → Bool
  | .non => true
  | .bl _ => true
  | .int _ => true
  | .str _ => true
  | .tup xs => D.refFrees xs
  | .lst xs => D.refFrees xs
  | .dic kvs => D.refFreeK kvs
  | .ref _ => false
  | .ro xs => D.refFrees xs
def D.refFrees : List D → Bool
  | [] => true
  | d :: ds => d.refFree && D.refFrees ds
def D.refFreeK : List (Key × D) → Bool
  | [] => true
  | (_, d) :: ds => d.refFree && D.refFreeK ds
end
mutual
/-- no object that may change within -/
def D.flat : D → Bool
  | .non => true
  | .bl _ => true
  | .int _ => true
  | .str _ => true
  | .tup xs => D.flats xs
  | .lst _ => false
  | .dic _ => false
  | .ref _ => false
  | .ro _ => false
def D.flats : List D → Bool
  | [] => true
  | d :: ds => d.flat && D.flats ds
end
def Rv.flat : Rv → Bool
  | .v d => d.flat
  | .n (.lst ds) => D.flats ds
  | _ => false
def Rv.refFree : Rv → Bool
  | .v d => d.refFree
  | .n (.lst ds) => D.refFrees ds
  | .n (.dic ds) => D.refFreeK ds
  | _ => false
def Exn.flat (x : Exn) : Bool := x.fs.all fun p => p.2.flat

mutual
def D.toPy : D → Option PyData
  | .non => some .none
  | .bl b => some (.bool b)
  | .int i => some (.int i)
  | .str x => some (.str x)
  | .tup xs => (D.toPys xs).map .tuple
  | .lst xs => (D.toPys xs).map .list
  | .dic _ => none
  | .ref _ => none
  | .ro _ => none
def D.toPys : List D → Option (List PyData)
  | [] => some []
  | d :: ds => match d.toPy, D.toPys ds with
    | some p, some ps => some (p :: ps)
    | _, _ => none
end

def truth : D → Option Bool
  | .non => some false
  | .bl b => some b
  | .int i => some (i != 0)
  | .str x => if x.length ≤ sizeLine then some ((x.length : Int) != 0) else none
  | .tup xs => some (!xs.isEmpty)
  | .lst xs => some (!xs.isEmpty)
  | .dic kvs => some (!kvs.isEmpty)
  | .ref _ => none
  | .ro xs => some (!xs.isEmpty)

/-! ### operators -/
inductive BOp where
  | add | sub | mul | fdiv | mod | pow | shl | shr | band | bxor
def mulOk (i j : Int) : Bool := decide ((-(2 ^ 64) < i ∧ i < 2 ^ 64) ∨ (-(2 ^ 64) < j ∧ j < 2 ^ 64)) || decide (i.natAbs.log2 + j.natAbs.log2 < 1000000)
def fdivOk (j : Int) : Bool := decide (0 < j) && (decide (j < 1073741824) || decide (j.natAbs.log2 < 9000))
def powOk (i j : Int) : Bool := decide (0 ≤ j ∧ j ≤ 1000000 ∧ i.natAbs < 2 ^ 64)
def opBin : BOp → D → D → Option Rv
  | .add, .int a, .int b => some (.v (.int (a + b)))
  | .add, .str a, .str b => if a.length + b.length ≤ sizeLine then some (.v (.str (a ++ b))) else none
  | .add, .lst a, .lst b => if a.length + b.length ≤ sizeLine then some (.n (.lst (a ++ b))) else none
  | .sub, .int a, .int b => some (.v (.int (a - b)))
  | .mul, .int a, .int b => if mulOk a b then some (.v (.int (a * b))) else none
  | .mul, .lst a, .int b => if decide (-(2 ^ 63) ≤ b ∧ b < 2 ^ 63) && decide (a.length * b.toNat ≤ sizeLine) then some (.n (.lst (List.replicate b.toNat a).flatten)) else none
  | .fdiv, .int a, .int b => if fdivOk b then some (.v (.int (a / b))) else none
  | .mod, .int a, .int b => if decide (0 < b) then some (.v (.int (a % b))) else none
  | .pow, .int a, .int b => if powOk a b then some (.v (.int (a ^ b.toNat))) else none
  | .shl, .int a, .int b => if powOk a b then some (.v (.int (a * 2 ^ b.toNat))) else none
  | .shr, .int a, .int b => if decide (0 ≤ b) then some (.v (.int (a / 2 ^ b.toNat))) else none
  | .band, .int a, .int b => some (.v (.int (Builtin.bitAnd a b)))
  | .bxor, .int a, .int b => some (.v (.int (Builtin.bitXor a b)))
  | _, _, _ => none

inductive COp where
  | eq | ne | lt | le | gt | ge | inn | nin | is | isn
/-- deep == of data at most 60 deep -/
def eqD (a b : D) : Option Bool :=
  match a.toPy, b.toPy with
  | some p, some q => if min p.depth q.depth ≤ 60 then some (PyData.eqv p q) else none
  | _, _ => none
/-- x in a row -/
def inD (x : D) (xs : List D) : Option Bool :=
  match D.toPys xs, x.toPy with
  | some ps, some p => if min (PyData.depthAll ps) p.depth ≤ 60 then some (ps.any fun y => PyData.eqv y p) else none
  | _, _ => none
def isIn (a : D) : D → Option Bool
  | .str z => match a with
    | .str x => some (!(Builtin.Str.occurrences z x 0 z.length 1).isEmpty)
    | _ => none
  | .tup ys => inD a ys
  | .lst ys => inD a ys
  | _ => none
def isNonD : D → Bool
  | .non => true
  | _ => false
def opCmp : COp → D → D → Option Bool
  | .eq, a, b => eqD a b
  | .ne, a, b => (eqD a b).map not
  | .lt, .int a, .int b => some (decide (a < b))
  | .le, .int a, .int b => some (decide (a ≤ b))
  | .gt, .int a, .int b => some (decide (b < a))
  | .ge, .int a, .int b => some (decide (b ≤ a))
  | .inn, a, b => isIn a b
  | .nin, a, b => (isIn a b).map not
  | .is, a, .non => some (isNonD a)
  | .isn, a, .non => some (!isNonD a)
  | .is, .bl a, .bl b => some (decide (a = b))
  | .isn, .bl a, .bl b => some (!decide (a = b))
  | _, _, _ => none

/-- with what stands in cells, so deep -/
def D.res (C : List (Option Ob)) : Nat → D → D
  | 0, d => d
  | n + 1, d => match d with
    | .tup xs => .tup (xs.map (D.res C n))
    | .lst xs => .lst (xs.map (D.res C n))
    | .ref c => match C[c]? with
      | some (some (.lst xs)) => .lst (xs.map (D.res C n))
      | _ => .ref c
    | d => d
def cmpR (C : List (Option Ob)) : COp → D → D → Option Bool
  | .eq, a, b => eqD (D.res C 6 a) (D.res C 6 b)
  | .ne, a, b => (eqD (D.res C 6 a) (D.res C 6 b)).map not
  | _, _, _ => none
/-- compared as they stand, or with what stands in cells -/
def cmpV (o : COp) (a b : D) : Option Bool → M Bool
  | some k => M.pure k
  | none => fun s => match cmpR s.C o a b with
    | some k => .ok k s
    | none => .bad
/-! ### the language -/
inductive Tg1 where
  | nm (i : Nat)
  | tp (ts : List Nat)
deriving DecidableEq
inductive Tg where
  | nm (i : Nat)
  | tp (ts : List Nat)
  /-- a tuple of names and tuples of names -/
  | t2 (ts : List Tg1)
deriving DecidableEq

inductive Blt where
  | len | abs | int | list | tuple | sum | min2 | max2 | min | max | any | all | gcd | isinst (t : String)
inductive Mth where
  | join | index | get | split

mutual
inductive E where
  | loc (i : Nat)
  | k (d : D)
  | glob (x : Str)
  | bin (o : BOp) (a b : E)
  | neg (a : E)
  | cmp (o : COp) (a b : E)
  | chain (o o' : COp) (a b c : E)
  | and (a b : E)
  | or (a b : E)
  | not (a : E)
  | ife (c a b : E)
  | lst (es : Es)
  | tup (es : Es)
  /-- what is new, in a cell -/
  | cell (e : E)
  | idx (a i : E)
  | slc (a : E) (lo hi : Eo)
  | call (f : Str) (es : Es)
  | blt (f : Blt) (es : Es)
  | mth (m : Mth) (a : E) (es : Es)
  | comp (t : Tg) (it : It') (cs : Es) (e : E)
  /-- over the list in a slot, lent meanwhile -/
  | compB (t : Tg) (i : Nat) (cs : Es) (e : E)
inductive Es where
  | nil
  | cons (e : E) (r : Es)
inductive Eo where
  | no
  | some (e : E)
inductive It' where
  | seq (e : E)
  | rng1 (a : E)
  | rng2 (a b : E)
  | enum (e : E)
end

/-! what an except suite asks of its exception and the names -/
mutual
inductive XE where
  | loc (i : Nat)
  | k (d : D)
  | fld (f : Str)
  | isx (c : Str)
  | cmp (o : COp) (a b : XE)
  | and (a b : XE)
  | or (a b : XE)
  | not (a : XE)
  | tup (es : XEs)
inductive XEs where
  | nil
  | cons (e : XE) (r : XEs)
end
/-- an except suite -/
inductive Su where
  | done
  | ret (e : XE)
  | retN
  /-- if c: return e; then r -/
  | ite (c e : XE) (r : Su)

mutual
inductive S where
  | asg (t : Tg) (e : E)
  | cell (i : Nat) (e : E)
  | par (i j : Nat) (es : Es)
  | aug (i : Nat) (o : BOp) (e : E)
  | setI (a i e : E)
  | augI (a i : E) (o : BOp) (e : E)
  | app (a e : E)
  | expr (e : E)
  | ret (e : E)
  | retN
  | ite (c : E) (a b : Ss)
  | while (c : E) (b : Ss)
  | for (t : Tg) (it : It') (b : Ss)
  | pass
  | brk
  | cont
  | raise (cl : Str) (es : Es)
  | try (b : Ss) (c : Str) (as : Option Nat) (u : Su)
  /-- never reached -/
  | nev
inductive Ss where
  | nil
  | cons (s : S) (r : Ss)
end

/-! ### what surrounds -/
inductive Oc where
  | ok (r : Rv) (C : List (Option Ob))
  | exc (x : Exn) (C : List (Option Ob))
  | bad
structure Gam where
  glob : Str → Option D
  isPure : Str → Bool
  call : Str → List D → List (Option Ob) → Oc
  /-- is an exception's class one of these -/
  sub : Str → Str → Option Bool
  /-- an exception's fields -/
  xf : Str → Option (List Str)
  /-- two levels of calls are there -/
  deep : Bool
  fuel : Nat

/-! ### steps -/
def getS : M Sm := fun s => .ok s s
/-- a value of one's own -/
def frz : Rv → M D
  | .v d => M.pure d
  | .n o => ofO o.toD
  | .s i => fun s => match s.ρ[i]? with
    | some (.own o) => match o.toD with
      | some d => .ok d { s with ρ := s.ρ.set i (.val d) }
      | none => .bad
    | some (.val d) => .ok d s
    | _ => .bad
/-- held over what follows -/
def hold : Rv → M Rv
  | .n o => fun s => match o.toD with
    | some d => .ok (.v d) s
    | none => .bad
  | r => M.pure r
def peekM (r : Rv) : M D := fun s => match peek s.ρ s.C r with
  | some d => .ok d s
  | none => .bad
def peeks (ρ : List Slot) (C : List (Option Ob)) : List Rv → Option (List D)
  | [] => some []
  | r :: rs => match peek ρ C r, peeks ρ C rs with
    | some d, some ds => some (d :: ds)
    | _, _ => none
def frzs : List Rv → M (List D)
  | [] => M.pure []
  | r :: rs => M.bind (frz r) fun d => M.bind (frzs rs) fun ds => M.pure (d :: ds)
def slots : List Rv → List Nat
  | [] => []
  | .s i :: rs => i :: slots rs
  | _ :: rs => slots rs
def freezeAll : List Nat → List Slot → Option (List Slot)
  | [], ρ => some ρ
  | i :: is, ρ => match ρ[i]? with
    | some (.own o) => match o.toD with
      | some d => freezeAll is (ρ.set i (.val d))
      | none => none
    | _ => freezeAll is ρ
def mask (C : List (Option Ob)) : List (Option Ob) := C.map fun _ => none

def setSlot (i : Nat) (x : Slot) : M Unit := fun s => if i < s.ρ.length then .ok () { s with ρ := s.ρ.set i x } else .bad
/-- name := result -/
def asgN (i : Nat) : Rv → M Unit
  | .v d => setSlot i (.val d)
  | .n o => setSlot i (.own o)
  | .s j => M.bind (frz (.s j)) fun d => setSlot i (.val d)
def asgV (i : Nat) (d : D) : M Unit := setSlot i (.val d)
def asgVs : List Nat → List D → M Unit
  | [], [] => M.pure ()
  | i :: is, d :: ds => M.bind (asgV i d) fun _ => asgVs is ds
  | _, _ => M.bad
def asgD1 : Tg1 → D → M Unit
  | .nm i, d => asgV i d
  | .tp is, .tup ds => asgVs is ds
  | _, _ => M.bad
def asgD1s : List Tg1 → List D → M Unit
  | [], [] => M.pure ()
  | t :: ts, d :: ds => M.bind (asgD1 t d) fun _ => asgD1s ts ds
  | _, _ => M.bad
def asgD : Tg → D → M Unit
  | .nm i, d => asgV i d
  | .tp is, .tup ds => asgVs is ds
  | .t2 ts, .tup ds => asgD1s ts ds
  | _, _ => M.bad
def asg : Tg → Rv → M Unit
  | .nm i, r => asgN i r
  | .tp is, r => M.bind (frz r) fun d => asgD (.tp is) d
  | .t2 ts, r => M.bind (frz r) fun d => asgD (.t2 ts) d

def ixN' (n : Nat) (i : Int) : Option Nat := ixN n i
def opIdx : D → D → Option D
  | .lst xs, .int i => atI xs i
  | .ro xs, .int i => atI xs i
  | .tup xs, .int i => atI xs i
  | .str x, .int i => if x.length ≤ sizeLine then (atI x.cps.toList i).map fun c => .str ⟨#[c]⟩ else none
  | _, _ => none
def cutD (xs : List D) (lo hi : Option Int) : List D := (xs.drop (HT.sIx xs.length 0 lo)).take (HT.sIx xs.length xs.length hi - HT.sIx xs.length 0 lo)
def opSlc : D → Option Int → Option Int → Option Rv
  | .lst xs, lo, hi => some (.n (.lst (cutD xs lo hi)))
  | .tup xs, lo, hi => if HT.sIx xs.length 0 lo = 0 ∧ HT.sIx xs.length xs.length hi = xs.length then none else some (.v (.tup (cutD xs lo hi)))
  | .str x, lo, hi => if x.length ≤ sizeLine then some (.v (.str (cutS x lo hi))) else none
  | _, _, _ => none

def toInts : List D → Option (List Int)
  | [] => some []
  | .int i :: ds => (toInts ds).map (i :: ·)
  | _ :: _ => none
def toBls : List D → Option (List Bool)
  | [] => some []
  | .bl i :: ds => (toBls ds).map (i :: ·)
  | _ :: _ => none
def toStrs : List D → Option (List Str)
  | [] => some []
  | .str i :: ds => (toStrs ds).map (i :: ·)
  | _ :: _ => none
def tyName : D → Option String
  | .non => some "NoneType"
  | .bl _ => some "bool"
  | .int _ => some "int"
  | .str _ => some "str"
  | .tup _ => some "tuple"
  | .lst _ => some "list"
  | .ro _ => some "list"
  | _ => none
def isTyS (a b : String) : Option Bool :=
  if b = "list" then some (decide (a = "list")) else if b = "tuple" then some (decide (a = "tuple")) else if b = "str" then some (decide (a = "str")) else
  if b = "bool" then some (decide (a = "bool")) else if b = "int" then some (decide (a = "int") || decide (a = "bool")) else none
def maxL : List Int → Int
  | [] => 0
  | [x] => x
  | x :: y :: r => max x (maxL (y :: r))
def minL : List Int → Int
  | [] => 0
  | [x] => x
  | x :: y :: r => min x (minL (y :: r))
def opBlt : Blt → List D → Option Rv
  | .len, [.str x] => if x.length ≤ sizeLine then some (.v (.int x.length)) else none
  | .len, [.lst xs] => some (.v (.int xs.length))
  | .len, [.ro xs] => some (.v (.int xs.length))
  | .len, [.tup xs] => some (.v (.int xs.length))
  | .abs, [.int i] => some (.v (.int (if i < 0 then -i else i)))
  | .int, [.int i] => some (.v (.int i))
  | .int, [.bl k] => some (.v (.int (if k then 1 else 0)))
  | .list, [.lst xs] => some (.n (.lst xs))
  | .list, [.ro xs] => some (.n (.lst xs))
  | .list, [.tup xs] => some (.n (.lst xs))
  | .sum, [.lst xs] => (toInts xs).map fun ns => .v (.int ns.sum)
  | .min2, [.int i, .int j] => some (.v (.int (if j < i then j else i)))
  | .max2, [.int i, .int j] => some (.v (.int (if j > i then j else i)))
  | .min, [.lst xs] => match toInts xs with
    | some (n :: ns) => some (.v (.int (minL (n :: ns))))
    | _ => none
  | .max, [.lst xs] => match toInts xs with
    | some (n :: ns) => some (.v (.int (maxL (n :: ns))))
    | _ => none
  | .any, [.lst xs] => (toBls xs).map fun bs => .v (.bl (bs.any id))
  | .all, [.lst xs] => (toBls xs).map fun bs => .v (.bl (bs.all id))
  | .gcd, [.int a, .int b] => some (.v (.int (Nat.gcd a.natAbs b.natAbs : Nat)))
  | .isinst t, [d] => ((tyName d).bind fun a => isTyS a t).map fun k => .v (.bl k)
  | _, _ => none
def opMth : Mth → D → List D → Option Rv
  | _, _, _ => none

/-- what a loop walks -/
def items : D → Option (List D)
  | .lst xs => some xs
  | .ro xs => some xs
  | .tup xs => some xs
  | .str x => some (x.cps.toList.map fun c => .str ⟨#[c]⟩)
  | _ => none
def enumD : Nat → List D → List D
  | _, [] => []
  | i, d :: ds => .tup [.int i, d] :: enumD (i + 1) ds
def small62 (i : Int) : Bool := decide (-(2 ^ 62) ≤ i ∧ i < 2 ^ 62)
def rangeL (lo : Int) (n : Nat) : List D := (List.range n).map fun (i : Nat) => .int (lo + i)
def test : D → M Bool := fun d => ofO (truth d)
/-- all its slots forgotten -/
def wipeS (ρ : List Slot) : List Nat → List Slot
  | [] => ρ
  | v :: vs => (wipeS ρ vs).set v .no
def notOwn : Option Slot → Bool
  | some (.own _) => false
  | _ => true
/-- back as they were -/
def restore (ρ0 : List Slot) : List Nat → List Slot → List Slot
  | [], ρ => ρ
  | v :: vs, ρ => match ρ0[v]? with
    | some x => (restore ρ0 vs ρ).set v x
    | none => restore ρ0 vs ρ
def Tg1.names : Tg1 → List Nat
  | .nm i => [i]
  | .tp is => is
def names1 : List Tg1 → List Nat
  | [] => []
  | t :: ts => t.names ++ names1 ts
def Tg.names : Tg → List Nat
  | .nm i => [i]
  | .tp is => is
  | .t2 ts => names1 ts

/-- each item in turn -/
def compL (turn : D → M (Option D)) : List D → M (List D)
  | [] => M.pure []
  | d :: ds => M.bind (turn d) fun r => M.bind (compL turn ds) fun rs => M.pure (match r with
    | some x => x :: rs
    | none => rs)
inductive Fl where
  | nx
  | ret (r : Rv)
  | brk
  | ct
def forL (turn : D → M Fl) : List D → M Fl
  | [] => M.pure .nx
  | d :: ds => M.bind (turn d) fun f => match f with
    | .nx => forL turn ds
    | .ct => forL turn ds
    | .brk => M.pure .nx
    | .ret r => M.pure (.ret r)
/-- the row in slot i, as it stands at each turn -/
def nowAt (i k : Nat) : M (Option D) := fun s => match s.ρ[i]? with
  | some (.own (.lst ds)) => .ok ds[k]? s
  | _ => .bad
def forS (turn : D → M Fl) (i : Nat) : List D → Nat → M Fl
  | [], k => M.bind (nowAt i k) fun x => match x with
    | none => M.pure .nx
    | some _ => M.bad
  | _ :: r, k => M.bind (nowAt i k) fun x => match x with
    | none => M.pure .nx
    | some d => M.bind (turn d) fun f => match f with
      | .nx => forS turn i r (k + 1)
      | .ct => forS turn i r (k + 1)
      | .brk => M.pure .nx
      | .ret r => M.pure (.ret r)
def whileL (c : M Bool) (b : M Fl) : Nat → M Fl
  | 0 => M.bad
  | n + 1 => M.bind c fun t => if t then M.bind b fun f => match f with
      | .nx => whileL c b n
      | .ct => whileL c b n
      | .brk => M.pure .nx
      | .ret r => M.pure (.ret r)
    else M.pure .nx

/-- the arguments of a pure def, as they stand -/
def argD (ρ : List Slot) : Rv → Option D
  | .v d => some d
  | .n _ => none
  | .s i => match ρ[i]? with
    | some (.own o) => o.toD
    | some (.val d) => some d
    | _ => none
def argDs (ρ : List Slot) : List Rv → Option (List D)
  | [] => some []
  | r :: rs => match argD ρ r, argDs ρ rs with
    | some d, some ds => some (d :: ds)
    | _, _ => none
def callM (Γ : Gam) (f : Str) (rs : List Rv) : M Rv :=
  if Γ.isPure f then fun s => match argDs s.ρ rs with
    | none => .bad
    | some ds => match Γ.call f ds (mask s.C) with
      | .bad => .bad
      | .exc x _ => if x.flat then .exc x s else .bad
      | .ok r _ => if r.flat then .ok r s else if r.refFree then match freezeAll (slots rs) s.ρ with
          | some ρ' => .ok r { s with ρ := ρ' }
          | none => .bad
        else .bad
  else M.bind (frzs rs) fun ds => fun s => match Γ.call f ds s.C with
    | .bad => .bad
    | .exc x C => .exc x { s with C := C }
    | .ok r C => .ok r { s with C := C }

/-- a new object into a cell -/
def cellV : Rv → M Rv
  | .n o => fun s => .ok (.v (.ref s.C.length)) ⟨s.ρ, s.C ++ [some o]⟩
  | .s i => fun s => match s.ρ[i]? with
    | some (.own o) => .ok (.v (.ref s.C.length)) ⟨s.ρ.set i (.val (.ref s.C.length)), s.C ++ [some o]⟩
    | some (.val d) => .ok (.v d) s
    | _ => .bad
  | r => M.pure r
/-- a name's result -/
def locM (i : Nat) : M Rv := fun s => match s.ρ[i]? with
    | some (.own _) => .ok (.s i) s
    | some (.val d) => .ok (.v d) s
    | _ => .bad
section
variable (Γ : Gam)
mutual
def ev : E → M Rv
  | .loc i => fun s => match s.ρ[i]? with
    | some (.own _) => .ok (.s i) s
    | some (.val d) => .ok (.v d) s
    | _ => .bad
  | .k d => M.pure (.v d)
  | .glob x => fun s => match Γ.glob x with
    | some d => .ok (.v d) s
    | none => .bad
  | .bin o a b => M.bind (ev a) fun ra => M.bind (hold ra) fun ra => M.bind (ev b) fun rb => M.bind (peekM ra) fun x => M.bind (peekM rb) fun y => ofO (opBin o x y)
  | .neg a => M.bind (ev a) fun r => M.bind (peekM r) fun x => match x with
    | .int i => M.pure (.v (.int (-i)))
    | _ => M.bad
  | .cmp o a b => M.bind (ev a) fun ra => M.bind (hold ra) fun ra => M.bind (ev b) fun rb => M.bind (peekM ra) fun x => M.bind (peekM rb) fun y => M.bind (cmpV o x y (opCmp o x y)) fun k => M.pure (.v (.bl k))
  | .chain o o' a b c => M.bind (ev a) fun ra => M.bind (hold ra) fun ra => M.bind (ev b) fun rb => M.bind (hold rb) fun rb => M.bind (peekM ra) fun x => M.bind (peekM rb) fun y => M.bind (cmpV o x y (opCmp o x y)) fun k =>
      if k then M.bind (ev c) fun rc => M.bind (peekM rb) fun y => M.bind (peekM rc) fun z => M.bind (cmpV o' y z (opCmp o' y z)) fun k => M.pure (.v (.bl k)) else M.pure (.v (.bl false))
  | .and a b => M.bind (ev a) fun r => M.bind (peekM r) fun x => M.bind (test x) fun k => if k then ev b else M.pure r
  | .or a b => M.bind (ev a) fun r => M.bind (peekM r) fun x => M.bind (test x) fun k => if k then M.pure r else ev b
  | .not a => M.bind (ev a) fun r => M.bind (peekM r) fun x => M.bind (test x) fun k => M.pure (.v (.bl (!k)))
  | .ife c a b => M.bind (ev c) fun r => M.bind (peekM r) fun x => M.bind (test x) fun k => if k then ev a else ev b
  | .lst es => M.bind (evs es) fun ds => if decide (ds.length ≤ sizeLine) then M.pure (.n (.lst ds)) else M.bad
  | .tup es => M.bind (evs es) fun ds => if decide (ds.length ≤ sizeLine) then M.pure (.v (.tup ds)) else M.bad
  | .cell e => M.bind (ev e) fun r => cellV r
  | .idx a i => M.bind (ev a) fun ra => M.bind (hold ra) fun ra => M.bind (ev i) fun ri => M.bind (peekM ra) fun x => M.bind (peekM ri) fun y => M.bind (ofO (opIdx x y)) fun d => M.pure (.v d)
  | .slc a lo hi => M.bind (ev a) fun ra => M.bind (hold ra) fun ra => M.bind (evO lo) fun l => M.bind (evO hi) fun h => M.bind (peekM ra) fun x => ofO (opSlc x l h)
  | .call f es => M.bind (evH es) fun rs => callM Γ f rs
  | .blt f es => M.bind (evH es) fun rs => fun s => match peeks s.ρ s.C rs with
    | some ds => match opBlt f ds with
      | some r => .ok r s
      | none => .bad
    | none => .bad
  | .mth m a es => M.bad
  | .comp t it cs e => M.bind (evI it) fun ds => fun s =>
      if t.names.all fun i => notOwn s.ρ[i]? then
        match compL (fun d => fun s => (M.bind (asgD t d) fun _ => M.bind (tvs cs) fun k => if k then M.bind (ev e) fun r => M.bind (frz r) fun x => M.pure (some x) else M.pure none) { s with ρ := wipeS s.ρ t.names }) ds s with
        | .ok xs s' => if decide (xs.length ≤ sizeLine) then .ok (.n (.lst xs)) { s' with ρ := restore s.ρ t.names s'.ρ } else .bad
        | _ => .bad
      else .bad
  | .compB t i cs e => fun s => match s.ρ[i]? with
    | some (.own (.lst ds)) => if t.names.all fun j => notOwn (s.ρ.set i .no)[j]? then
        match compL (fun d => fun s => (M.bind (asgD t d) fun _ => M.bind (tvs cs) fun k => if k then M.bind (ev e) fun r => M.bind (frz r) fun x => M.pure (some x) else M.pure none) { s with ρ := wipeS s.ρ t.names }) ds { s with ρ := s.ρ.set i .no } with
        | .ok xs s' => if decide (xs.length ≤ sizeLine) then .ok (.n (.lst xs)) { s' with ρ := (restore (s.ρ.set i .no) t.names s'.ρ).set i (.own (.lst ds)) } else .bad
        | _ => .bad
      else .bad
    | _ => (M.bind (M.bind (locM i) fun r => M.bind (frz r) fun d => ofO (items d)) fun ds => fun s =>
      if t.names.all fun i => notOwn s.ρ[i]? then
        match compL (fun d => fun s => (M.bind (asgD t d) fun _ => M.bind (tvs cs) fun k => if k then M.bind (ev e) fun r => M.bind (frz r) fun x => M.pure (some x) else M.pure none) { s with ρ := wipeS s.ρ t.names }) ds s with
        | .ok xs s' => if decide (xs.length ≤ sizeLine) then .ok (.n (.lst xs)) { s' with ρ := restore s.ρ t.names s'.ρ } else .bad
        | _ => .bad
      else .bad) s
/-- the tests of a clause -/
def tvs : Es → M Bool
  | .nil => M.pure true
  | .cons e r => M.bind (ev e) fun v => M.bind (peekM v) fun x => M.bind (test x) fun k => if k then tvs r else M.pure false
/-- values of one's own -/
def evs : Es → M (List D)
  | .nil => M.pure []
  | .cons e r => M.bind (ev e) fun x => M.bind (frz x) fun d => M.bind (evs r) fun ds => M.pure (d :: ds)
/-- held -/
def evH : Es → M (List Rv)
  | .nil => M.pure []
  | .cons e r => M.bind (ev e) fun x => M.bind (hold x) fun x => M.bind (evH r) fun xs => M.pure (x :: xs)
def evO : Eo → M (Option Int)
  | .no => M.pure none
  | .some e => M.bind (ev e) fun r => M.bind (peekM r) fun d => match d with
    | .int i => M.pure (some i)
    | _ => M.bad
/-- what is walked, frozen -/
def evI : It' → M (List D)
  | .seq e => M.bind (ev e) fun r => M.bind (frz r) fun d => ofO (items d)
  | .rng1 a => M.bind (ev a) fun r => M.bind (peekM r) fun d => match d with
    | .int n => if small62 n then M.pure (rangeL 0 n.toNat) else M.bad
    | _ => M.bad
  | .rng2 a b => M.bind (ev a) fun r => M.bind (hold r) fun r => M.bind (ev b) fun r2 => M.bind (peekM r) fun d => M.bind (peekM r2) fun d2 => match d, d2 with
    | .int lo, .int hi => if small62 lo && small62 hi then M.pure (rangeL lo (hi - lo).toNat) else M.bad
    | _, _ => M.bad
  | .enum e => M.bind (ev e) fun r => M.bind (frz r) fun d => match d with
    | .lst xs => M.pure (enumD 0 xs)
    | _ => M.bad
end
/-- the truth of an expression -/
def tv (e : E) : M Bool := M.bind (ev Γ e) fun r => M.bind (peekM r) test

/-! ### statements -/
/-- an object of one's own, changed -/
def putO (r : Rv) (g : Ob → Option Ob) : M Unit := fun s => match r with
  | .s i => match s.ρ[i]? with
    | some (.own o) => match g o with
      | some o' => .ok () { s with ρ := s.ρ.set i (.own o') }
      | none => .bad
    | some (.val (.ref c)) => match s.C[c]? with
      | some (some o) => match g o with
        | some o' => .ok () { s with C := s.C.set c (some o') }
        | none => .bad
      | _ => .bad
    | _ => .bad
  | .v (.ref c) => match s.C[c]? with
    | some (some o) => match g o with
      | some o' => .ok () { s with C := s.C.set c (some o') }
      | none => .bad
    | _ => .bad
  | _ => .bad
def setL (k : Int) (d : D) : Ob → Option Ob
  | .lst ds => (ixN ds.length k).map fun j => .lst (ds.set j d)
  | _ => none
def appL (d : D) : Ob → Option Ob
  | .lst ds => if ds.length < sizeLine then some (.lst (ds ++ [d])) else none
  | _ => none
/-- op= of plain values -/
def opAug : BOp → D → D → Option D
  | .add, .int a, .int b => some (.int (a + b))
  | .add, .str a, .str b => if a.length + b.length ≤ sizeLine then some (.str (a ++ b)) else none
  | .sub, .int a, .int b => some (.int (a - b))
  | .mul, .int a, .int b => if decide ((-(2 ^ 64) < a ∧ a < 2 ^ 64) ∨ (-(2 ^ 64) < b ∧ b < 2 ^ 64)) then some (.int (a * b)) else none
  | .fdiv, .int a, .int b => if decide (0 < b ∧ b < 1073741824) then some (.int (a / b)) else none
  | .mod, .int a, .int b => if decide (0 < b) then some (.int (a % b)) else none
  | _, _, _ => none
def opIdxL : D → D → Option D
  | .lst xs, .int i => atI xs i
  | _, _ => none
def noN : Rv → M Unit
  | .n _ => M.bad
  | _ => M.pure ()
def retR : Rv → M Rv
  | .s i => fun s => match s.ρ[i]? with
    | some (.own o) => .ok (.n o) { s with ρ := s.ρ.set i .no }
    | some (.val d) => .ok (.v d) s
    | _ => .bad
  | r => M.pure r
def cellN (i : Nat) : Rv → M Unit
  | .n o => fun s => if i < s.ρ.length then .ok () ⟨s.ρ.set i (.val (.ref s.C.length)), s.C ++ [some o]⟩ else .bad
  | _ => M.bad
/-- fields, the last first -/
def zipR : List Str → List D → List (Str × D) → Option (List (Str × D))
  | [], [], acc => some acc
  | f :: fs, d :: ds, acc => zipR fs ds ((f, d) :: acc)
  | _, _, _ => none
def fldOk (Γ : Gam) (c f : Str) : Bool := match Γ.xf c with
  | some fs => decide (f ∈ fs)
  | none => false
/-! ### except suites -/
section
variable (x : Exn)
mutual
def evX : XE → M Rv
  | .loc i => locM i
  | .k d => M.pure (.v d)
  | .fld f => if fldOk Γ x.cl f then ofO ((x.fs.lookup f).map .v) else M.bad
  | .isx c => ofO ((Γ.sub x.cl c).map fun k => .v (.bl k))
  | .cmp o a b => M.bind (evX a) fun ra => M.bind (hold ra) fun ra => M.bind (evX b) fun rb => M.bind (peekM ra) fun x => M.bind (peekM rb) fun y => M.bind (cmpV o x y (opCmp o x y)) fun k => M.pure (.v (.bl k))
  | .and a b => M.bind (evX a) fun r => M.bind (peekM r) fun x => M.bind (test x) fun k => if k then evX b else M.pure r
  | .or a b => M.bind (evX a) fun r => M.bind (peekM r) fun x => M.bind (test x) fun k => if k then M.pure r else evX b
  | .not a => M.bind (evX a) fun r => M.bind (peekM r) fun x => M.bind (test x) fun k => M.pure (.v (.bl (!k)))
  | .tup es => M.bind (evXs es) fun ds => if decide (ds.length ≤ sizeLine) then M.pure (.v (.tup ds)) else M.bad
def evXs : XEs → M (List D)
  | .nil => M.pure []
  | .cons e r => M.bind (evX e) fun x => M.bind (frz x) fun d => M.bind (evXs r) fun ds => M.pure (d :: ds)
end
def exU : Su → M Fl
  | .done => M.pure .nx
  | .ret e => M.bind (evX Γ x e) fun r => M.bind (retR r) fun r => M.pure (.ret r)
  | .retN => M.pure (.ret (.v .non))
  | .ite c e r => M.bind (M.bind (evX Γ x c) fun r => M.bind (peekM r) test) fun k => if k then M.bind (evX Γ x e) fun r => M.bind (retR r) fun r => M.pure (.ret r) else exU r
end
def forget (i : Option Nat) (ρ : List Slot) : List Slot := match i with
  | some i => ρ.set i .no
  | none => ρ
def okAs (i : Option Nat) (ρ : List Slot) : Bool := match i with
  | some i => decide (i < ρ.length)
  | none => true
/-- a body's exception taken, or not -/
def tryM (m : M Fl) (c : Str) (as : Option Nat) (u : Su) : M Fl := fun s => match m s with
  | .exc x s' => match Γ.sub x.cl c with
    | some true => if okAs as s'.ρ then (M.bind (exU Γ x u) fun f => fun s => .ok f { s with ρ := forget as s.ρ }) { s' with ρ := forget as s'.ρ } else .bad
    | some false => .exc x s'
    | none => .bad
  | o => o
def raiseM (cl : Str) (ds : List D) : M Fl := fun s => match Γ.xf cl with
    | some fs => match zipR fs ds [] with
      | some l => if Γ.deep || ds.isEmpty then .exc ⟨cl, l⟩ s else .bad
      | none => .bad
    | none => .bad
mutual
def ex : S → M Fl
  | .asg t e => M.bind (ev Γ e) fun r => M.bind (asg t r) fun _ => M.pure .nx
  | .cell i e => M.bind (ev Γ e) fun r => M.bind (cellN i r) fun _ => M.pure .nx
  | .par i j es => M.bind (evs Γ es) fun ds => match ds with
    | [x, y] => M.bind (setSlot i (.val x)) fun _ => M.bind (setSlot j (.val y)) fun _ => M.pure .nx
    | _ => M.bad
  | .aug i o e => fun s0 => match s0.ρ[i]? with
    | some (.val _) => (M.bind (ev Γ e) fun r => M.bind (peekM r) fun y => fun s => match s.ρ[i]? with
      | some (.val x) => (M.bind (ofO (opAug o x y)) fun z => M.bind (setSlot i (.val z)) (fun _ => M.pure .nx)) s
      | _ => .bad) s0
    | _ => .bad
  | .setI a i e => M.bind (ev Γ e) fun r => M.bind (frz r) fun d => M.bind (ev Γ a) fun ra => M.bind (ev Γ i) fun ri => M.bind (peekM ri) fun k => match k with
    | .int k => M.bind (putO ra (setL k d)) fun _ => M.pure .nx
    | _ => M.bad
  | .augI a i o e => M.bind (ev Γ a) fun ra => M.bind (noN ra) fun _ => M.bind (ev Γ i) fun ri => M.bind (peekM ri) fun k => M.bind (peekM ra) fun x => M.bind (ofO (opIdxL x k)) fun old => M.bind (ev Γ e) fun r => M.bind (peekM r) fun y => M.bind (ofO (opAug o old y)) fun z => match k with
    | .int k => M.bind (putO ra (setL k z)) fun _ => M.pure .nx
    | _ => M.bad
  | .app a e => M.bind (ev Γ a) fun ra => M.bind (peekM ra) fun x => match x with
    | .lst _ => M.bind (ev Γ e) fun r => M.bind (frz r) fun d => M.bind (putO ra (appL d)) fun _ => M.pure .nx
    | _ => M.bad
  | .expr e => M.bind (ev Γ e) fun _ => M.pure .nx
  | .ret e => M.bind (ev Γ e) fun r => M.bind (retR r) fun r => M.pure (.ret r)
  | .retN => M.pure (.ret (.v .non))
  | .ite c a b => M.bind (tv Γ c) fun k => if k then exs a else exs b
  | .while c b => whileL (tv Γ c) (exs b) Γ.fuel
  | .for t it b => M.bind (evI Γ it) fun ds => forL (fun d => M.bind (asgD t d) fun _ => exs b) ds
  | .pass => M.pure .nx
  | .brk => M.pure .brk
  | .cont => M.pure .ct
  | .raise cl es => M.bind (evs Γ es) fun ds => raiseM Γ cl ds
  | .try b c as u => tryM Γ (exs b) c as u
  | .nev => M.bad
def exs : Ss → M Fl
  | .nil => M.pure .nx
  | .cons s r => M.bind (ex s) fun f => match f with
    | .nx => exs r
    | f => M.pure f
end
end
/-- a def: the number of its slots, of its parameters, its body -/
structure Def where
  n : Nat
  ps : Nat
  body : Ss
def runD (Γ : Gam) (d : Def) (ds : List D) (C : List (Option Ob)) : Oc :=
  if ds.length = d.ps ∧ d.ps ≤ d.n then
    match exs Γ d.body ⟨ds.map .val ++ List.replicate (d.n - d.ps) .no, C⟩ with
    | .ok .nx s => .ok (.v .non) s.C
    | .ok (.ret r) s => .ok r s.C
    | .exc x s => .exc x s.C
    | _ => .bad
  else .bad
end IR

set_option Elab.async false
set_option linter.all false
set_option maxRecDepth 100000
/-! IrC: how a step of data follows a step of the heap. -/
namespace IR
open PySem L2

def Wd.sm (w : Wd) : Sm := ⟨w.ρ, w.C⟩
def Wd.put (w : Wd) (s : Sm) : Wd := { w with ρ := s.ρ, C := s.C }
/-- with o frozen at p -/
def Wd.frz (w : Wd) (p : Addr) (o : HO) : Wd := { w with F := upd w.F p o }

theorem same_upd {H : Hp} {p : Addr} {o : HO} (h : H p = none) : Same H (upd H p o) := fun b x e => by
  rw [upd_ne (ne_of_none e h)]
  exact e
theorem same_upd_of {F H : Hp} {p : Addr} {o : HO} (s : Same F H) (h : H p = some o) : Same (upd F p o) H := fun b x e => by
  unfold upd at e
  split at e
  · rename_i q
    cases e
    rw [q]
    exact h
  · exact s b x e

section
variable {K : PySem.W.Frag} {cl : Str → Option Addr} {w : Wd} {H H' : Hp} {σ : St}

theorem Rel.ext (R : Rel K cl w H σ) (s : Same H H') : Rel K cl w H' σ where
  fH := R.fH.trans s
  bH := R.bH.trans s
  dis := R.dis
  len := R.len
  lenC := R.lenC
  val := R.val
  own := fun j o e => by
    obtain ⟨p, h1, ⟨h2, h3, h, h4, h5⟩⟩ := R.own j o e
    exact ⟨p, h1, h2, h3, h, s _ _ h4, h5⟩
  inj := R.inj

theorem le_frz {p : Addr} {o : HO} (h : w.F p = none) : Le w (w.frz p o) := ⟨same_upd h, rfl, fun _ _ h => h⟩

/-- an object that nobody owns is frozen -/
theorem Rel.frzN (R : Rel K cl w H σ) {p : Addr} {o : HO} (h : H p = some o) (hF : w.F p = none) (hB : w.B p = none) (hn : ∀ j o', w.ob j = some o' → w.addr σ j ≠ some p) : Rel K cl (w.frz p o) H σ where
  fH := same_upd_of R.fH h
  bH := R.bH
  dis := fun a x e => by
    have n : a ≠ p := fun z => by
      have e : w.B a = some x := e
      rw [z, hB] at e
      cases e
    show upd w.F p o a = none
    rw [upd_ne n]
    exact R.dis a x e
  len := R.len
  lenC := R.lenC
  val := fun i d e => by
    obtain ⟨v, h1, h2⟩ := R.val i d e
    exact ⟨v, h1, h2.mono (same_upd hF) fun _ _ h => h⟩
  own := fun j o' e => by
    obtain ⟨q, h1, ⟨h2, h3, h, h4, h5⟩⟩ := R.own j o' e
    have n : q ≠ p := fun z => by
      subst z
      exact hn j o' e h1
    refine ⟨q, h1, ?_, h3, h, h4, h5.mono (same_upd hF) fun _ _ h => h⟩
    show upd w.F p o q = none
    rw [upd_ne n]
    exact h2
  inj := R.inj
/-- a new object, frozen -/
theorem Rel.newF (R : Rel K cl w H σ) {p : Addr} {o : HO} (h : H p = none) : Rel K cl (w.frz p o) (upd H p o) σ := by
  have hF : w.F p = none := R.fH.free h
  have hB : w.B p = none := R.bH.free h
  refine (R.ext (same_upd h)).frzN upd_same hF hB fun j o' e z => ?_
  obtain ⟨q, h1, ⟨_, _, hh, h4, _⟩⟩ := R.own j o' e
  rw [z] at h1
  cases h1
  rw [h] at h4
  cases h4
theorem Rel.free (R : Rel K cl w H σ) {p : Addr} (h : H p = none) : w.F p = none ∧ w.B p = none ∧ ∀ j o', w.ob j = some o' → w.addr σ j ≠ some p :=
  ⟨R.fH.free h, R.bH.free h, fun j o' e z => by
    obtain ⟨q, h1, ⟨_, _, hh, h4, _⟩⟩ := R.own j o' e
    rw [z] at h1
    cases h1
    rw [h] at h4
    cases h4⟩
/-- a new object, nobody's -/
theorem Rel.newN (R : Rel K cl w H σ) {p : Addr} {ho : HO} {o : Ob} (h : H p = none) (a : HoAt K cl w.ι w.F o ho) : Rel K cl w (upd H p ho) σ ∧ RRep K cl w (upd H p ho) σ (.ref p) (.n o) := by
  obtain ⟨hF, hB, hn⟩ := R.free h
  exact ⟨R.ext (same_upd h), p, rfl, ⟨hF, hB, _, upd_same, a⟩, hn⟩

theorem Ob.toD_ho {o : Ob} {d : D} {ho : HO} {p : Addr} {F : Hp} {ι : List Addr} (e : o.toD = some d) (a : HoAt K cl ι F o ho) (hp : F p = some ho) : Rep K ι F (.ref p) d := by
  cases o with
  | lst ds =>
    cases e
    obtain ⟨vs, rfl, r⟩ := a
    exact .lst hp r
  | dic ds =>
    cases e
    obtain ⟨vs, rfl, r⟩ := a
    exact .dic hp r
  | ins c fs => cases e

/-- the object at slot i is frozen -/
theorem Rel.frzS (R : Rel K cl w H σ) {i : Nat} {o : Ob} {d : D} (e : w.ρ[i]? = some (.own o)) (ed : o.toD = some d) :
    ∃ p ho, σ[i]? = some (some (.ref p)) ∧ H p = some ho ∧ w.F p = none ∧ Rel K cl ⟨w.ι, upd w.F p ho, w.B, w.ρ.set i (.val d), w.C⟩ H σ ∧ Rep K w.ι (upd w.F p ho) (.ref p) d := by
  obtain ⟨p, hp, ⟨hF, hB, ho, hH, ha⟩⟩ := R.own _ _ (ob_s e)
  have hp' := of_addr_s hp
  have hi : i < w.ρ.length := (List.getElem?_eq_some_iff.mp e).1
  have rp : Rep K w.ι (upd w.F p ho) (.ref p) d := Ob.toD_ho ed (ha.mono (same_upd hF) fun _ _ h => h) upd_same
  refine ⟨p, ho, hp', hH, hF, ?_, rp⟩
  -- slots of the new world
  have obS : ∀ k o', (Wd.mk w.ι (upd w.F p ho) w.B (w.ρ.set i (.val d)) w.C).ob k = some o' → k ≠ .s i ∧ w.ob k = some o' := fun k o' z => by
    cases k with
    | s k =>
      have z' := of_ob_s z
      have z' : (w.ρ.set i (.val d))[k]? = some (.own o') := z'
      by_cases q : i = k
      · subst q
        rw [List.getElem?_set_self hi] at z'
        cases z'
      · rw [List.getElem?_set_ne q] at z'
        exact ⟨fun y => q (by cases y; rfl), ob_s z'⟩
    | c k => exact ⟨(fun y => by cases y), z⟩
  have ad : ∀ k, (Wd.mk w.ι (upd w.F p ho) w.B (w.ρ.set i (.val d)) w.C).addr σ k = w.addr σ k := fun k => by cases k <;> rfl
  refine ⟨same_upd_of R.fH hH, R.bH, fun a x q => ?_, by rw [R.len]; exact (List.length_set ..).symm, R.lenC, fun k d' q => ?_, fun k o' q => ?_, fun k k' o1 o2 q h1 h2 h3 h4 => ?_⟩
  · have q : w.B a = some x := q
    have n : a ≠ p := fun z => by
      rw [z, hB] at q
      cases q
    show upd w.F p ho a = none
    rw [upd_ne n]
    exact R.dis a x q
  · have q : (w.ρ.set i (.val d))[k]? = some (.val d') := q
    by_cases z : i = k
    · subst z
      rw [List.getElem?_set_self hi] at q
      cases q
      exact ⟨_, hp', rp⟩
    · rw [List.getElem?_set_ne z] at q
      obtain ⟨v, h1, h2⟩ := R.val k d' q
      exact ⟨v, h1, h2.mono (same_upd hF) fun _ _ h => h⟩
  · obtain ⟨nk, q⟩ := obS k o' q
    obtain ⟨a, h1, ⟨h2, h3, h, h4, h5⟩⟩ := R.own k o' q
    have n : a ≠ p := fun z => by
      rw [z] at h1
      exact nk (R.inj k (.s i) o' o p q (ob_s e) h1 hp)
    refine ⟨a, by rw [ad]; exact h1, ?_, h3, h, h4, h5.mono (same_upd hF) fun _ _ h => h⟩
    show upd w.F p ho a = none
    rw [upd_ne n]
    exact h2
  · rw [ad] at h3 h4
    exact R.inj k k' o1 o2 q (obS k o1 h1).2 (obS k' o2 h2).2 h3 h4

theorem RRep.keep {w' : Wd} {v : V} {r : Rv} (le : Le w w') (h : RRep K cl w H σ v r) (hr : ∀ o, r ≠ .n o) : RRep K cl w' H' σ v r := by
  cases r with
  | v d => exact Rep.mono le.f le.i h
  | n o => exact absurd rfl (hr o)
  | s i => exact h
end

/-! ### runs -/
def wpO {α : Type} (o : Out α) (Q : α → Sm → Prop) (X : Exn → Sm → Prop) : Prop :=
  match o with
  | .ok a s => Q a s
  | .exc x s => X x s
  | .bad => False
theorem wpO.imp {α : Type} {o : Out α} {Q Q' : α → Sm → Prop} {X X' : Exn → Sm → Prop} (h : wpO o Q X) (hq : ∀ a s, Q a s → Q' a s) (hx : ∀ a s, X a s → X' a s) : wpO o Q' X' := by
  cases o with
  | ok a s => exact hq _ _ h
  | exc x s => exact hx _ _ h
  | bad => exact h
theorem wpO_bind {α β : Type} {m : M α} {f : α → M β} {s : Sm} {Q : β → Sm → Prop} {X : Exn → Sm → Prop} : wpO (M.bind m f s) Q X = wpO (m s) (fun a s => wpO (f a s) Q X) X := by
  unfold M.bind Out.bind
  cases m s <;> rfl
theorem wpO_pure {α : Type} {a : α} {s : Sm} {Q : α → Sm → Prop} {X : Exn → Sm → Prop} : wpO (M.pure a s) Q X = Q a s := rfl

/-- how an exception lies -/
def XR (K : PySem.W.Frag) (cl : Str → Option Addr) (w : Wd) (H : Hp) (x : Exn) (c : Value) (d : Option Addr) : Prop :=
  ∃ C, cl x.cl = some C ∧ c = .ref C ∧ ((x.fs = [] ∧ d = none) ∨ ∃ dd fvs, d = some dd ∧ H dd = some (.xd fvs) ∧ RepF K w.ι w.F fvs x.fs)

section
variable (K : PySem.W.Frag) (cl : Str → Option Addr) (W : WX)
/-- an exception's way -/
def XC (w : Wd) (σ : St) (x : Exn) (s : Sm) : Prop := ∀ w' H' c d, Le w w' → w'.sm = s → Rel K cl w' H' σ → XR K cl w' H' x c d → W c d σ H'
/-- from w, H on m goes to what is wanted -/
structure Cont {α β : Type} (RR : Wd → Hp → St → β → α → Prop) (w : Wd) (H : Hp) (σ : St) (m : M α) (Q : β → Hp → Prop) : Prop where
  rel : Rel K cl w H σ
  wp : wpO (m w.sm) (fun a s => ∀ w' H' b, Le w w' → w'.sm = s → Rel K cl w' H' σ → RR w' H' σ b a → Q b H') (XC K cl W w σ)
def Run {α β : Type} (RR : Wd → Hp → St → β → α → Prop) (m : M α) : St → Hp → (β → Hp → Prop) → Prop := fun σ H Q => ∃ w, Cont K cl W RR w H σ m Q
end

section
variable {K : PySem.W.Frag} {cl : Str → Option Addr} {W : WX} {α β γ δ : Type} {RR : Wd → Hp → St → β → α → Prop} {RS : Wd → Hp → St → δ → γ → Prop} {w w' : Wd} {H H' : Hp} {σ : St} {m : M γ} {f : γ → M α} {Q : β → Hp → Prop}
theorem Cont.bind (c : Cont K cl W RR w H σ (M.bind m f) Q) : Cont K cl W RS w H σ m (fun b H1 => ∃ w1 a, Le w w1 ∧ RS w1 H1 σ b a ∧ Cont K cl W RR w1 H1 σ (f a) Q) := by
  refine ⟨c.rel, ?_⟩
  have h := c.wp
  rw [wpO_bind] at h
  refine h.imp (fun a s h w1 H1 b le es R1 rr => ?_) (fun _ _ h => h)
  subst es
  exact ⟨w1, a, le, rr, R1, h.imp (fun a2 s2 h2 w2 H2 b2 le2 e2 R2 r2 => h2 w2 H2 b2 (le.trans le2) e2 R2 r2) fun x s2 h2 w2 H2 c d le2 e2 R2 x2 => h2 w2 H2 c d (le.trans le2) e2 R2 x2⟩
theorem Cont.imp {m' : M α} {Q' : β → Hp → Prop} (c : Cont K cl W RR w H σ m' Q) (h : ∀ b H, Q b H → Q' b H) : Cont K cl W RR w H σ m' Q' :=
  ⟨c.rel, c.wp.imp (fun a s h1 w1 H1 b le e R1 r => h _ _ (h1 w1 H1 b le e R1 r)) fun _ _ h => h⟩
end
/-! ### a new cell -/
section
variable {K : PySem.W.Frag} {cl : Str → Option Addr} {w : Wd} {H : Hp} {σ : St}
/-- a slot forgotten, the name still set -/
theorem Rel.forget (R : Rel K cl w H σ) {i : Nat} : Rel K cl { w with ρ := w.ρ.set i .no } H σ := by
  have obS : ∀ j o1, ({ w with ρ := w.ρ.set i .no } : Wd).ob j = some o1 → j ≠ .s i ∧ w.ob j = some o1 := fun j o1 h => by
    cases j with
    | s k =>
      have h := of_ob_s h
      have h : (w.ρ.set i .no)[k]? = some (.own o1) := h
      by_cases q : i = k
      · subst q
        by_cases hi : i < w.ρ.length
        · rw [List.getElem?_set_self hi] at h
          cases h
        · rw [List.getElem?_eq_none (by rw [List.length_set]; omega)] at h
          cases h
      · rw [List.getElem?_set_ne q] at h
        exact ⟨fun z => q (by cases z; rfl), ob_s h⟩
    | c k => exact ⟨(fun z => by cases z), h⟩
  have ad : ∀ j, ({ w with ρ := w.ρ.set i .no } : Wd).addr σ j = w.addr σ j := fun j => by cases j <;> rfl
  refine ⟨R.fH, R.bH, R.dis, by rw [R.len]; exact (List.length_set ..).symm, R.lenC, fun k d h => ?_, fun j o1 h => ?_, fun j1 j2 o1 o2 a h1 h2 h3 h4 => ?_⟩
  · have h : (w.ρ.set i .no)[k]? = some (.val d) := h
    by_cases q : i = k
    · subst q
      by_cases hi : i < w.ρ.length
      · rw [List.getElem?_set_self hi] at h
        cases h
      · rw [List.getElem?_eq_none (by rw [List.length_set]; omega)] at h
        cases h
    · rw [List.getElem?_set_ne q] at h
      exact R.val k d h
  · rw [ad]
    exact R.own j o1 (obS j o1 h).2
  · rw [ad] at h3 h4
    exact R.inj j1 j2 o1 o2 a (obS j1 o1 h1).2 (obS j2 o2 h2).2 h3 h4
theorem Rel.newC0 (R : Rel K cl w H σ) {p : Addr} {o : Ob} (oa : ObAt K cl w.ι w.F w.B H p o) (hn : ∀ j o', w.ob j = some o' → w.addr σ j ≠ some p) :
    Rel K cl ⟨w.ι ++ [p], w.F, w.B, w.ρ, w.C ++ [some o]⟩ H σ ∧ Le w ⟨w.ι ++ [p], w.F, w.B, w.ρ, w.C ++ [some o]⟩ ∧ (w.ι ++ [p])[w.C.length]? = some p := by
  have ex : ∀ (c : Nat) a, w.ι[c]? = some a → (w.ι ++ [p])[c]? = some a := fun c a h => by
    rw [List.getElem?_append_left (List.getElem?_eq_some_iff.mp h).1]
    exact h
  have top : (w.ι ++ [p])[w.C.length]? = some p := by
    rw [← R.lenC, List.getElem?_append_right (Nat.le_refl _), Nat.sub_self]
    rfl
  have obS : ∀ j o1, (⟨w.ι ++ [p], w.F, w.B, w.ρ, w.C ++ [some o]⟩ : Wd).ob j = some o1 → (j = .c w.C.length ∧ o1 = o) ∨ (j ≠ .c w.C.length ∧ w.ob j = some o1) := fun j o1 h => by
    cases j with
    | s k => exact .inr ⟨(fun z => by cases z), h⟩
    | c k =>
      have h := of_ob_c h
      have h : (w.C ++ [some o])[k]? = some (some o1) := h
      by_cases q : k < w.C.length
      · rw [List.getElem?_append_left q] at h
        exact .inr ⟨(fun z => by cases z; omega), ob_c h⟩
      · rw [List.getElem?_append_right (by omega)] at h
        have e : k - w.C.length = 0 := by
          have := (List.getElem?_eq_some_iff.mp h).1
          rw [List.length_singleton] at this
          omega
        rw [e] at h
        cases h
        have e2 : k = w.C.length := by omega
        exact .inl ⟨by rw [e2], rfl⟩
  have ad : ∀ j o1, w.ob j = some o1 → (⟨w.ι ++ [p], w.F, w.B, w.ρ, w.C ++ [some o]⟩ : Wd).addr σ j = w.addr σ j := fun j o1 h => by
    cases j with
    | s k => rfl
    | c k =>
      have h := of_ob_c h
      have hk : k < w.ι.length := by
        rw [R.lenC]
        exact (List.getElem?_eq_some_iff.mp h).1
      show (w.ι ++ [p])[k]? = w.ι[k]?
      rw [List.getElem?_append_left hk]
  refine ⟨⟨R.fH, R.bH, R.dis, R.len, by rw [List.length_append, List.length_append, R.lenC]; rfl, fun k d h => ?_, fun j o1 h => ?_, fun j1 j2 o1 o2 a h1 h2 h3 h4 => ?_⟩, ⟨Same.refl _, rfl, ex⟩, top⟩
  · obtain ⟨v, h1, h2⟩ := R.val k d h
    exact ⟨v, h1, h2.mono (Same.refl _) ex⟩
  · rcases obS j o1 h with ⟨rfl, rfl⟩ | ⟨n2, h⟩
    · obtain ⟨h2, h3, hh, h4, h5⟩ := oa
      exact ⟨p, top, h2, h3, hh, h4, h5.mono (Same.refl _) ex⟩
    · rw [ad j o1 h]
      obtain ⟨q, hq, ⟨h2, h3, hh, h4, h5⟩⟩ := R.own j o1 h
      exact ⟨q, hq, h2, h3, hh, h4, h5.mono (Same.refl _) ex⟩
  · rcases obS j1 o1 h1 with ⟨e1, q1⟩ | ⟨n1', g1⟩
    · subst e1
      have h3 : (w.ι ++ [p])[w.C.length]? = some a := h3
      rw [top] at h3
      cases h3
      rcases obS j2 o2 h2 with ⟨e2, q2⟩ | ⟨n2', g2⟩
      · exact e2.symm
      · rw [ad j2 o2 g2] at h4
        exact absurd h4 (hn j2 o2 g2)
    · rw [ad j1 o1 g1] at h3
      rcases obS j2 o2 h2 with ⟨e2, q2⟩ | ⟨n2', g2⟩
      · subst e2
        have h4 : (w.ι ++ [p])[w.C.length]? = some a := h4
        rw [top] at h4
        cases h4
        exact absurd h3 (hn j1 o1 g1)
      · rw [ad j2 o2 g2] at h4
        exact R.inj j1 j2 o1 o2 a g1 g2 h3 h4
end
end IR

set_option Elab.async false
set_option linter.all false
set_option maxRecDepth 100000
/-! IrO: each operation of data is that of the heap. -/
namespace IR
open PySem L2

section
variable {K : PySem.W.Frag} {cl : Str → Option Addr} {w : Wd} {H : Hp} {σ : St}

/-- what an operation's result is to bring -/
def Fin (K : PySem.W.Frag) (cl : Str → Option Addr) (w : Wd) (H : Hp) (σ : St) (r : Rv) (Q : VK) : Prop := ∀ w' H' v, Le w w' → w'.sm = w.sm → Rel K cl w' H' σ → RRep K cl w' H' σ v r → Q v H'
theorem Fin.val {Q : VK} {d : D} {v : V} (f : Fin K cl w H σ (.v d) Q) (R : Rel K cl w H σ) (r : Rep K w.ι w.F v d) : Q v H := f w H v (Le.refl w) rfl R r
theorem Fin.newL {Q : VK} {o : Ob} {ho : HO} (f : Fin K cl w H σ (.n o) Q) (R : Rel K cl w H σ) (a : HoAt K cl w.ι w.F o ho) (p : Addr) (hp : H p = none) : Q (.ref p) (upd H p ho) := by
  obtain ⟨R1, r1⟩ := R.newN hp a
  exact f w _ _ (Le.refl w) rfl R1 r1
theorem Fin.newT {Q : VK} {ds : List D} {vs : List V} (f : Fin K cl w H σ (.v (.tup ds)) Q) (R : Rel K cl w H σ) (a : Reps K w.ι w.F vs ds) (p : Addr) (hp : H p = none) : Q (.ref p) (upd H p (.tup vs)) := by
  have hF := (R.free hp).1
  exact f (w.frz p (.tup vs)) _ _ (le_frz hF) rfl (R.newF hp) (.tup (.inl (.inl upd_same)) (a.mono (same_upd hF) fun _ _ h => h))

/-! ### data as Python's own -/
mutual
theorem Rep.dp {ι : List Addr} {F : Hp} (s : Same F H) : ∀ {v : V} {d : D} {p : PyData}, Rep K ι F v d → d.toPy = some p → Dp K H v p
  | _, _, _, .non, e => by cases e; exact .non
  | _, _, _, .bl b, e => by cases e; exact .bl b
  | _, _, _, .int b, e => by cases e; exact .int b
  | _, _, _, .str b, e => by cases e; exact .str b
  | _, .tup ds, p, .tup h r, e => by
    unfold D.toPy at e
    cases q : D.toPys ds with
    | none => rw [q] at e; cases e
    | some ps =>
      rw [q] at e
      cases e
      exact .tup (same_tup s h) (Reps.dp s r q)
  | _, .lst ds, p, .lst h r, e => by
    unfold D.toPy at e
    cases q : D.toPys ds with
    | none => rw [q] at e; cases e
    | some ps =>
      rw [q] at e
      cases e
      exact .lst (.inl (.inl (s _ _ h))) (Reps.dp s r q)
  | _, _, _, .ro h r, e => by cases e
  | _, _, _, .dic h r, e => by cases e
  | _, _, _, .ref h, e => by cases e
theorem Reps.dp {ι : List Addr} {F : Hp} (s : Same F H) : ∀ {v : List V} {d : List D} {p : List PyData}, Reps K ι F v d → D.toPys d = some p → DpAll K H v p
  | _, _, _, .nil, e => by cases e; exact .nil
  | _, d :: ds, _, .cons r rs, e => by
    unfold D.toPys at e
    cases q : d.toPy with
    | none => rw [q] at e; cases e
    | some p =>
      cases qs : D.toPys ds with
      | none => rw [q, qs] at e; cases e
      | some ps =>
        rw [q, qs] at e
        cases e
        exact .cons (Rep.dp s r q) (Reps.dp s rs qs)
end
theorem RepT.dp (R : Rel K cl w H σ) {v : V} {d : D} {p : PyData} (r : RepT K w H v d) (e : d.toPy = some p) : Dp K H v p := by
  cases d with
  | tup ds =>
    obtain ⟨a, vs, rfl, h, r⟩ := r
    unfold D.toPy at e
    cases q : D.toPys ds with
    | none => rw [q] at e; cases e
    | some ps =>
      rw [q] at e
      cases e
      exact .tup h (r.dp R.fH q)
  | lst ds =>
    obtain ⟨a, vs, rfl, h, r⟩ := r
    unfold D.toPy at e
    cases q : D.toPys ds with
    | none => rw [q] at e; cases e
    | some ps =>
      rw [q] at e
      cases e
      exact .lst (.inl (.inl h)) (r.dp R.fH q)
  | dic ds => cases e
  | ro ds => cases e
  | ref c => cases e
  | non => exact Rep.dp R.fH r e
  | bl b => exact Rep.dp R.fH r e
  | int b => exact Rep.dp R.fH r e
  | str b => exact Rep.dp R.fH r e
/-- data with what stands in cells -/
theorem dpR (R : Rel K cl w H σ) : ∀ (n : Nat) {v : V} {d : D} {p : PyData}, Rep K w.ι w.F v d → (D.res w.C n d).toPy = some p → Dp K H v p
  | 0, _, _, _, r, e => Rep.dp R.fH r e
  | n + 1, v, d, p, r, e => by
    have all : ∀ {vs : List V} {ds : List D} {ps : List PyData}, Reps K w.ι w.F vs ds → D.toPys (ds.map (D.res w.C n)) = some ps → DpAll K H vs ps := fun {vs ds} => by
      induction ds generalizing vs with
      | nil =>
        intro ps rs q
        cases rs
        cases q
        exact .nil
      | cons d ds ih =>
        intro ps rs q
        cases rs with
        | cons r1 r2 =>
          unfold D.toPys at q
          rw [List.map_cons] at q
          dsimp only at q
          cases q1 : (D.res w.C n d).toPy with
          | none => rw [q1] at q; cases q
          | some p1 =>
            cases q2 : D.toPys (ds.map (D.res w.C n)) with
            | none => rw [q1, q2] at q; cases q
            | some p2 =>
              rw [q1, q2] at q
              cases q
              exact .cons (dpR R n r1 q1) (ih r2 q2)
    cases r with
    | tup h r =>
      have e : (D.toPys (_ : List D)).map PyData.tuple = some p := e
      obtain ⟨ps, e1, rfl⟩ := Option.map_eq_some_iff.mp e
      exact .tup (same_tup R.fH h) (all r e1)
    | lst h r =>
      have e : (D.toPys (_ : List D)).map PyData.list = some p := e
      obtain ⟨ps, e1, rfl⟩ := Option.map_eq_some_iff.mp e
      exact .lst (.inl (.inl (R.fH _ _ h))) (all r e1)
    | ref h =>
      rename_i a c
      have e : (match w.C[c]? with | some (some (.lst xs)) => D.lst (xs.map (D.res w.C n)) | _ => .ref c).toPy = some p := e
      split at e
      · rename_i xs q
        have e : (D.toPys (_ : List D)).map PyData.list = some p := e
        obtain ⟨ps, e1, rfl⟩ := Option.map_eq_some_iff.mp e
        obtain ⟨a', h1, ⟨_, _, ho, h2, vs, rfl, h3⟩⟩ := R.own (.c c) _ (ob_c q)
        have h1 : w.ι[c]? = some a' := h1
        rw [h] at h1
        cases h1
        exact .lst (.inl (.inl h2)) (all h3 e1)
      · cases e
    | non => exact Rep.dp (ι := w.ι) R.fH .non e
    | bl b => exact Rep.dp (ι := w.ι) R.fH (.bl b) e
    | int b => exact Rep.dp (ι := w.ι) R.fH (.int b) e
    | str b => exact Rep.dp (ι := w.ι) R.fH (.str b) e
    | ro h r => exact Rep.dp R.fH (.ro h r) e
    | dic h r => exact Rep.dp R.fH (.dic h r) e
theorem dpRs (R : Rel K cl w H σ) (n : Nat) : ∀ {vs : List V} {ds : List D} {ps : List PyData}, Reps K w.ι w.F vs ds → D.toPys (ds.map (D.res w.C n)) = some ps → DpAll K H vs ps
  | _, [], _, .nil, q => by cases q; exact .nil
  | _, d :: ds, _, .cons r1 r2, q => by
    unfold D.toPys at q
    rw [List.map_cons] at q
    dsimp only at q
    cases q1 : (D.res w.C n d).toPy with
    | none => rw [q1] at q; cases q
    | some p1 =>
      cases q2 : D.toPys (ds.map (D.res w.C n)) with
      | none => rw [q1, q2] at q; cases q
      | some p2 =>
        rw [q1, q2] at q
        cases q
        exact .cons (dpR R n r1 q1) (dpRs R n r2 q2)
theorem RepT.dpR (R : Rel K cl w H σ) {n : Nat} {v : V} {d : D} {p : PyData} (r : RepT K w H v d) (e : (D.res w.C (n + 1) d).toPy = some p) : Dp K H v p := by
  cases d with
  | tup ds =>
    obtain ⟨q, vs, rfl, h, r⟩ := r
    have e : (D.toPys (_ : List D)).map PyData.tuple = some p := e
    obtain ⟨ps, e1, rfl⟩ := Option.map_eq_some_iff.mp e
    exact .tup h (dpRs R n r e1)
  | lst ds =>
    obtain ⟨q, vs, rfl, h, r⟩ := r
    have e : (D.toPys (_ : List D)).map PyData.list = some p := e
    obtain ⟨ps, e1, rfl⟩ := Option.map_eq_some_iff.mp e
    exact .lst (.inl (.inl h)) (dpRs R n r e1)
  | ref c => exact IR.dpR R (n + 1) r e
  | non => exact RepT.dp R r e
  | bl b => exact RepT.dp R r e
  | int b => exact RepT.dp R r e
  | str b => exact RepT.dp R r e
  | ro ds => cases e
  | dic ds => cases e
mutual
theorem toPy_plain : ∀ {d : D} {p : PyData}, d.toPy = some p → p.plain = true
  | .non, _, e => by cases e; rfl
  | .bl _, _, e => by cases e; rfl
  | .int _, _, e => by cases e; rfl
  | .str _, _, e => by cases e; rfl
  | .tup ds, _, e => by
    unfold D.toPy at e
    cases q : D.toPys ds with
    | none => rw [q] at e; cases e
    | some ps =>
      rw [q] at e
      cases e
      unfold PyData.plain
      exact toPys_plain q
  | .lst ds, _, e => by
    unfold D.toPy at e
    cases q : D.toPys ds with
    | none => rw [q] at e; cases e
    | some ps =>
      rw [q] at e
      cases e
      unfold PyData.plain
      exact toPys_plain q
  | .dic _, _, e => by cases e
  | .ref _, _, e => by cases e
  | .ro _, _, e => by cases e
theorem toPys_plain : ∀ {d : List D} {p : List PyData}, D.toPys d = some p → PyData.plainAll p = true
  | [], _, e => by cases e; rfl
  | d :: ds, _, e => by
    unfold D.toPys at e
    cases q : d.toPy with
    | none => rw [q] at e; cases e
    | some p =>
      cases qs : D.toPys ds with
      | none => rw [q, qs] at e; cases e
      | some ps =>
        rw [q, qs] at e
        cases e
        unfold PyData.plainAll
        rw [toPy_plain q, toPys_plain qs]
        rfl
end

/-! ### == and in of data -/
section
variable {X : Cx}
def rEqP (K : PySem.W.Frag) (neg : Bool) : R2 := fun x y H Q => ∃ d e, Dp K H x d ∧ Dp K H y e ∧ d.plain = true ∧ e.plain = true ∧ min d.depth e.depth ≤ 60 ∧ Q (.bl (if neg then !PyData.eqv d e else PyData.eqv d e)) H
theorem op_eqP (hu : X.A.units + 64 < cLine) : OpR X (compareOp .Eq) (rEqP X.K false) := by
  intro pins s σ H x y v u Q I rx ry h
  obtain ⟨d, e, hd, he, pd, pe, hm, q⟩ := h
  obtain ⟨as, r1⟩ := Dp.reads I d x v hd rx
  obtain ⟨bs, r2⟩ := Dp.reads I e y u he ry
  exact SeqAt.eq_plain r1 r2 pd pe (by omega) ⟨.bl _, H, I, rfl, q⟩
theorem op_neP (hu : X.A.units + 64 < cLine) : OpR X (compareOp .NotEq) (rEqP X.K true) := by
  intro pins s σ H x y v u Q I rx ry h
  obtain ⟨d, e, hd, he, pd, pe, hm, q⟩ := h
  obtain ⟨as, r1⟩ := Dp.reads I d x v hd rx
  obtain ⟨bs, r2⟩ := Dp.reads I e y u he ry
  exact SeqAt.ne_plain r1 r2 pd pe (by omega) ⟨.bl _, H, I, rfl, q⟩
def rInP (K : PySem.W.Frag) (neg : Bool) : R2 := fun x y H Q => ∃ d es, Dp K H x d ∧ (Dp K H y (.list es) ∨ Dp K H y (.tuple es)) ∧ d.plain = true ∧ PyData.plainAll es = true ∧ min (PyData.depthAll es) d.depth ≤ 60 ∧
  Q (.bl (if neg then !es.any fun z => PyData.eqv z d else es.any fun z => PyData.eqv z d)) H
theorem op_inP (hu : X.A.units + 64 < cLine) : OpR X (compareOp .In) (rInP X.K false) := by
  intro pins s σ H x y v u Q I rx ry h
  obtain ⟨d, e, hd, he, pd, pe, hm, q⟩ := h
  obtain ⟨as, r1⟩ := Dp.reads I d x v hd rx
  rcases he with he | he
  · obtain ⟨bs, r2⟩ := Dp.reads I _ y u he ry
    exact SeqAt.in_list_data r2 r1 pe pd (by omega) ⟨.bl _, H, I, rfl, q⟩
  · obtain ⟨bs, r2⟩ := Dp.reads I _ y u he ry
    exact SeqAt.in_tuple_data r2 r1 pe pd (by omega) ⟨.bl _, H, I, rfl, q⟩
theorem op_ninP (hu : X.A.units + 64 < cLine) : OpR X (compareOp .NotIn) (rInP X.K true) := by
  intro pins s σ H x y v u Q I rx ry h
  obtain ⟨d, e, hd, he, pd, pe, hm, q⟩ := h
  obtain ⟨as, r1⟩ := Dp.reads I d x v hd rx
  rcases he with he | he
  · obtain ⟨bs, r2⟩ := Dp.reads I _ y u he ry
    exact SeqAt.notIn_list_data r2 r1 pe pd (by omega) ⟨.bl _, H, I, rfl, q⟩
  · obtain ⟨bs, r2⟩ := Dp.reads I _ y u he ry
    exact SeqAt.notIn_tuple_data r2 r1 pe pd (by omega) ⟨.bl _, H, I, rfl, q⟩
end

/-! ### the operators -/
def bopS : BOp → Operator
  | .add => .Add | .sub => .Sub | .mul => .Mult | .fdiv => .FloorDiv | .mod => .Mod | .pow => .Pow | .shl => .LShift | .shr => .RShift | .band => .BitAnd | .bxor => .BitXor
def copS : COp → CmpOp
  | .eq => .Eq | .ne => .NotEq | .lt => .Lt | .le => .LtE | .gt => .Gt | .ge => .GtE | .inn => .In | .nin => .NotIn | .is => .Is | .isn => .IsNot

/-- that the rule r of values follows the operation g of data -/
def Sim2 (K : PySem.W.Frag) (cl : Str → Option Addr) (r : R2) (g : D → D → Option Rv) : Prop :=
  ∀ (w : Wd) (H : Hp) (σ : St) (x y : V) (a b : D) (res : Rv) (Q : VK), Rel K cl w H σ → RepT K w H x a → RepT K w H y b → g a b = some res → Fin K cl w H σ res Q → r x y H Q

theorem rep_int {v : V} {i : Int} {ι : List Addr} {F : Hp} (h : Rep K ι F v (.int i)) : v = .int i := by cases h; rfl
theorem rep_str {v : V} {i : Str} {ι : List Addr} {F : Hp} (h : Rep K ι F v (.str i)) : v = .str i := by cases h; rfl
theorem rep_bl {v : V} {i : Bool} {ι : List Addr} {F : Hp} (h : Rep K ι F v (.bl i)) : v = .bl i := by cases h; rfl
theorem rep_non {v : V} {ι : List Addr} {F : Hp} (h : Rep K ι F v .non) : v = .non := by cases h; rfl
theorem reps_rep (k : Nat) {vs : List V} {ds : List D} {ι : List Addr} {F : Hp} (r : Reps K ι F vs ds) : Reps K ι F (List.replicate k vs).flatten (List.replicate k ds).flatten := by
  induction k with
  | zero => exact .nil
  | succ k ih =>
    rw [List.replicate_succ, List.replicate_succ, List.flatten_cons, List.flatten_cons]
    exact r.append ih

theorem sim_bin (X : Cx) (o : BOp) : ∃ r, OpR X (binaryOp (bopS o)) r ∧ Sim2 X.K cl r (opBin o) := by
  cases o with
  | add =>
    refine ⟨_, op_add.or (op_add_str.or op_cat), ?_⟩
    intro w H σ x y a b res Q R ra rb e f
    unfold opBin at e
    split at e <;> first | cases e; done | skip
    · cases e
      exact .inl ⟨_, _, rep_int ra, rep_int rb, f.val R (.int _)⟩
    · split at e
      · cases e
        exact .inr (.inl ⟨_, _, rep_str ra, rep_str rb, by assumption, f.val R (.str _)⟩)
      · cases e
    · split at e
      · cases e
        obtain ⟨p, vs, rfl, hp, r1⟩ := ra
        obtain ⟨p2, vs2, rfl, hp2, r2⟩ := rb
        refine .inr (.inr ⟨_, _, _, _, rfl, rfl, hp, hp2, ?_, fun q hq => f.newL R ⟨_, rfl, r1.append r2⟩ q hq⟩)
        rw [r1.length, r2.length]
        assumption
      · cases e
    all_goals (exfalso; simp_all)
  | sub =>
    refine ⟨_, op_sub, ?_⟩
    intro w H σ x y a b res Q R ra rb e f
    cases a <;> cases b <;> first | cases e; done | skip
    cases e
    exact ⟨_, _, rep_int ra, rep_int rb, f.val R (.int _)⟩
  | mul =>
    refine ⟨_, op_mul.or (op_mulW.or op_rep), ?_⟩
    intro w H σ x y a b res Q R ra rb e f
    cases a <;> cases b <;> first | cases e; done | skip
    · rename_i i j
      have e : (if mulOk i j then some (Rv.v (.int (i * j))) else none) = some res := e
      split at e
      · rename_i hm
        cases e
        unfold mulOk at hm
        rw [Bool.or_eq_true, decide_eq_true_eq, decide_eq_true_eq] at hm
        rcases hm with hm | hm
        · exact .inl ⟨_, _, rep_int ra, rep_int rb, hm, f.val R (.int _)⟩
        · exact .inr (.inl ⟨_, _, rep_int ra, rep_int rb, hm, f.val R (.int _)⟩)
      · cases e
    · rename_i xs j
      have e : (if decide (-(2 ^ 63) ≤ j ∧ j < 2 ^ 63) && decide (xs.length * j.toNat ≤ sizeLine) then some (Rv.n (.lst (List.replicate j.toNat xs).flatten)) else none) = some res := e
      split at e
      · rename_i hm
        cases e
        rw [Bool.and_eq_true, decide_eq_true_eq, decide_eq_true_eq] at hm
        obtain ⟨p, vs, rfl, hp, r1⟩ := ra
        refine .inr (.inr ⟨p, j, vs, rfl, rep_int rb, hp, hm.1.1, hm.1.2, ?_, fun q hq => f.newL R ⟨_, rfl, reps_rep _ r1⟩ q hq⟩)
        rw [r1.length]
        exact hm.2
      · cases e
  | fdiv =>
    refine ⟨_, op_fdiv.or op_fdivW, ?_⟩
    intro w H σ x y a b res Q R ra rb e f
    cases a <;> cases b <;> first | cases e; done | skip
    rename_i i j
    have e : (if fdivOk j then some (Rv.v (.int (i / j))) else none) = some res := e
    split at e
    · rename_i hm
      cases e
      unfold fdivOk at hm
      rw [Bool.and_eq_true, Bool.or_eq_true, decide_eq_true_eq, decide_eq_true_eq, decide_eq_true_eq] at hm
      rcases hm with ⟨h0, hm | hm⟩
      · exact .inl ⟨_, _, rep_int ra, rep_int rb, ⟨h0, hm⟩, f.val R (.int _)⟩
      · exact .inr ⟨_, _, rep_int ra, rep_int rb, ⟨h0, hm⟩, f.val R (.int _)⟩
    · cases e
  | mod =>
    refine ⟨_, op_mod, ?_⟩
    intro w H σ x y a b res Q R ra rb e f
    cases a <;> cases b <;> first | cases e; done | skip
    rename_i i j
    have e : (if decide (0 < j) then some (Rv.v (.int (i % j))) else none) = some res := e
    split at e
    · rename_i hm
      cases e
      exact ⟨_, _, rep_int ra, rep_int rb, of_decide_eq_true hm, f.val R (.int _)⟩
    · cases e
  | pow =>
    refine ⟨_, op_pow, ?_⟩
    intro w H σ x y a b res Q R ra rb e f
    cases a <;> cases b <;> first | cases e; done | skip
    rename_i i j
    have e : (if powOk i j then some (Rv.v (.int (i ^ j.toNat))) else none) = some res := e
    split at e
    · rename_i hm
      cases e
      have hm : CPow i j := of_decide_eq_true (p := 0 ≤ j ∧ j ≤ 1000000 ∧ i.natAbs < 2 ^ 64) hm
      exact ⟨_, _, rep_int ra, rep_int rb, hm, f.val R (.int _)⟩
    · cases e
  | shl =>
    refine ⟨_, op_shl, ?_⟩
    intro w H σ x y a b res Q R ra rb e f
    cases a <;> cases b <;> first | cases e; done | skip
    rename_i i j
    have e : (if powOk i j then some (Rv.v (.int (i * 2 ^ j.toNat))) else none) = some res := e
    split at e
    · rename_i hm
      cases e
      have hm : CPow i j := of_decide_eq_true (p := 0 ≤ j ∧ j ≤ 1000000 ∧ i.natAbs < 2 ^ 64) hm
      exact ⟨_, _, rep_int ra, rep_int rb, hm, f.val R (.int _)⟩
    · cases e
  | shr =>
    refine ⟨_, op_shr, ?_⟩
    intro w H σ x y a b res Q R ra rb e f
    cases a <;> cases b <;> first | cases e; done | skip
    rename_i i j
    have e : (if decide (0 ≤ j) then some (Rv.v (.int (i / 2 ^ j.toNat))) else none) = some res := e
    split at e
    · rename_i hm
      cases e
      exact ⟨_, _, rep_int ra, rep_int rb, of_decide_eq_true hm, f.val R (.int _)⟩
    · cases e
  | band =>
    refine ⟨_, op_and, ?_⟩
    intro w H σ x y a b res Q R ra rb e f
    cases a <;> cases b <;> first | cases e; done | skip
    cases e
    exact ⟨_, _, rep_int ra, rep_int rb, f.val R (.int _)⟩
  | bxor =>
    refine ⟨_, op_xor, ?_⟩
    intro w H σ x y a b res Q R ra rb e f
    cases a <;> cases b <;> first | cases e; done | skip
    cases e
    exact ⟨_, _, rep_int ra, rep_int rb, f.val R (.int _)⟩
end
end IR

set_option Elab.async false
set_option linter.all false
set_option maxRecDepth 100000
/-! IrP: comparisons, truth, places, slices, built-ins. -/
namespace IR
open PySem L2
section
variable {K : PySem.W.Frag} {cl : Str → Option Addr} {w : Wd} {H : Hp} {σ : St}

theorem repT_shape {x : V} {a : D} (r : RepT K w H x a) : decide (x = V.non) = isNonD a := by
  cases a with
  | non => rw [rep_non r]; rfl
  | bl b => rw [rep_bl r]; rfl
  | int b => rw [rep_int r]; rfl
  | str b => rw [rep_str r]; rfl
  | lst ds => obtain ⟨_, _, rfl, _⟩ := r; rfl
  | ro ds => obtain ⟨_, _, rfl, _⟩ := r; rfl
  | tup ds => obtain ⟨_, _, rfl, _⟩ := r; rfl
  | dic ds => obtain ⟨_, _, rfl, _⟩ := r; rfl
  | ref c =>
    have r : Rep K w.ι w.F x (.ref c) := r
    cases r
    rfl
def cmpG (o : COp) : D → D → Option Rv := fun a b => (opCmp o a b).map fun k => .v (.bl k)
theorem eqD_some {a b : D} {k : Bool} (e : eqD a b = some k) : ∃ p q, a.toPy = some p ∧ b.toPy = some q ∧ min p.depth q.depth ≤ 60 ∧ k = PyData.eqv p q := by
  unfold eqD at e
  cases ha : a.toPy with
  | none => rw [ha] at e; cases e
  | some p =>
    cases hb : b.toPy with
    | none => rw [ha, hb] at e; cases e
    | some q =>
      rw [ha, hb] at e
      have e : (if min p.depth q.depth ≤ 60 then some (PyData.eqv p q) else none) = some k := e
      by_cases h : min p.depth q.depth ≤ 60
      · rw [if_pos h] at e
        cases e
        exact ⟨p, q, rfl, rfl, h, rfl⟩
      · rw [if_neg h] at e
        cases e
theorem inD_some {a : D} {bs : List D} {k : Bool} (e : inD a bs = some k) : ∃ p qs, a.toPy = some p ∧ D.toPys bs = some qs ∧ min (PyData.depthAll qs) p.depth ≤ 60 ∧ k = qs.any fun y => PyData.eqv y p := by
  unfold inD at e
  cases ha : D.toPys bs with
  | none => rw [ha] at e; cases e
  | some q =>
    cases hb : a.toPy with
    | none => rw [ha, hb] at e; cases e
    | some p =>
      rw [ha, hb] at e
      have e : (if min (PyData.depthAll q) p.depth ≤ 60 then some (q.any fun y => PyData.eqv y p) else none) = some k := e
      by_cases h : min (PyData.depthAll q) p.depth ≤ 60
      · rw [if_pos h] at e
        cases e
        exact ⟨p, q, rfl, rfl, h, rfl⟩
      · rw [if_neg h] at e
        cases e
theorem map_some {α β : Type} {o : Option α} {f : α → β} {b : β} (e : o.map f = some b) : ∃ a, o = some a ∧ f a = b := by
  cases o with
  | none => cases e
  | some a => exact ⟨a, rfl, Option.some.inj e⟩
theorem dpL {x : V} {ds : List D} {ps : List PyData} (R : Rel K cl w H σ) (r : RepT K w H x (.lst ds)) (e : D.toPys ds = some ps) : Dp K H x (.list ps) := r.dp R (by unfold D.toPy; rw [e]; rfl)
theorem dpT {x : V} {ds : List D} {ps : List PyData} (R : Rel K cl w H σ) (r : RepT K w H x (.tup ds)) (e : D.toPys ds = some ps) : Dp K H x (.tuple ps) := r.dp R (by unfold D.toPy; rw [e]; rfl)

/-- with what stands in cells -/
def SimR (K : PySem.W.Frag) (cl : Str → Option Addr) (r : R2) (o : COp) : Prop :=
  ∀ (w : Wd) (H : Hp) (σ : St) (x y : V) (a b : D) (k : Bool) (Q : VK), Rel K cl w H σ → RepT K w H x a → RepT K w H y b → cmpR w.C o a b = some k → Fin K cl w H σ (.v (.bl k)) Q → r x y H Q
theorem simR_no {K : PySem.W.Frag} {cl : Str → Option Addr} {r : R2} {o : COp} (h : ∀ C a b, cmpR C o a b = none) : SimR K cl r o := fun w H σ x y a b k Q R ra rb e f => by rw [h] at e; cases e
theorem sim_cmp (X : Cx) (hu : X.A.units + 64 < cLine) (o : COp) : ∃ r, OpR X (compareOp (copS o)) r ∧ Sim2 X.K cl r (cmpG o) ∧ SimR X.K cl r o := by
  cases o with
  | eq =>
    refine ⟨_, op_eqP hu, ?_, ?_⟩
    rotate_left
    · intro w H σ x y a b k Q R ra rb e f
      obtain ⟨p, q, ha, hb, hm, rfl⟩ := eqD_some (show eqD (D.res w.C 6 a) (D.res w.C 6 b) = some k from e)
      exact ⟨p, q, ra.dpR R ha, rb.dpR R hb, toPy_plain ha, toPy_plain hb, hm, f.val R (.bl _)⟩
    intro w H σ x y a b res Q R ra rb e f
    obtain ⟨k, e1, rfl⟩ := map_some e
    clear e
    have e := e1
    clear e1
    obtain ⟨p, q, ha, hb, hm, rfl⟩ := eqD_some e
    exact ⟨p, q, ra.dp R ha, rb.dp R hb, toPy_plain ha, toPy_plain hb, hm, f.val R (.bl _)⟩
  | ne =>
    refine ⟨_, op_neP hu, ?_, ?_⟩
    rotate_left
    · intro w H σ x y a b k Q R ra rb e f
      obtain ⟨k2, e2, rfl⟩ := map_some (show (eqD (D.res w.C 6 a) (D.res w.C 6 b)).map not = some k from e)
      obtain ⟨p, q, ha, hb, hm, rfl⟩ := eqD_some e2
      exact ⟨p, q, ra.dpR R ha, rb.dpR R hb, toPy_plain ha, toPy_plain hb, hm, f.val R (.bl _)⟩
    intro w H σ x y a b res Q R ra rb e f
    obtain ⟨k1, e1, rfl⟩ := map_some e
    obtain ⟨k, e2, e3⟩ := map_some e1
    cases e3
    clear e e1
    have e := e2
    obtain ⟨p, q, ha, hb, hm, rfl⟩ := eqD_some e
    exact ⟨p, q, ra.dp R ha, rb.dp R hb, toPy_plain ha, toPy_plain hb, hm, f.val R (.bl _)⟩
  | lt =>
    refine ⟨_, op_lt, ?_, ?_⟩
    rotate_left
    · exact simR_no fun _ _ _ => rfl
    intro w H σ x y a b res Q R ra rb e f
    obtain ⟨k, e1, rfl⟩ := map_some e
    clear e
    have e := e1
    clear e1
    cases a <;> cases b <;> first | cases e; done | skip
    cases e
    exact ⟨_, _, rep_int ra, rep_int rb, f.val R (.bl _)⟩
  | le =>
    refine ⟨_, op_le, ?_, ?_⟩
    rotate_left
    · exact simR_no fun _ _ _ => rfl
    intro w H σ x y a b res Q R ra rb e f
    obtain ⟨k, e1, rfl⟩ := map_some e
    clear e
    have e := e1
    clear e1
    cases a <;> cases b <;> first | cases e; done | skip
    cases e
    exact ⟨_, _, rep_int ra, rep_int rb, f.val R (.bl _)⟩
  | gt =>
    refine ⟨_, op_gt, ?_, ?_⟩
    rotate_left
    · exact simR_no fun _ _ _ => rfl
    intro w H σ x y a b res Q R ra rb e f
    obtain ⟨k, e1, rfl⟩ := map_some e
    clear e
    have e := e1
    clear e1
    cases a <;> cases b <;> first | cases e; done | skip
    cases e
    exact ⟨_, _, rep_int ra, rep_int rb, f.val R (.bl _)⟩
  | ge =>
    refine ⟨_, op_ge, ?_, ?_⟩
    rotate_left
    · exact simR_no fun _ _ _ => rfl
    intro w H σ x y a b res Q R ra rb e f
    obtain ⟨k, e1, rfl⟩ := map_some e
    clear e
    have e := e1
    clear e1
    cases a <;> cases b <;> first | cases e; done | skip
    cases e
    exact ⟨_, _, rep_int ra, rep_int rb, f.val R (.bl _)⟩
  | inn =>
    refine ⟨_, (op_inP hu).or op_in_str, ?_, ?_⟩
    rotate_left
    · exact simR_no fun _ _ _ => rfl
    intro w H σ x y a b res Q R ra rb e f
    obtain ⟨k, e1, rfl⟩ := map_some e
    clear e
    have e := e1
    clear e1
    have e : isIn a b = some k := e
    cases b with
    | str z =>
      cases a <;> first | cases e; done | skip
      cases e
      exact .inr ⟨_, _, rep_str ra, rep_str rb, f.val R (.bl _)⟩
    | tup ys =>
      obtain ⟨p, q, ha, hb, hm, rfl⟩ := inD_some (show inD a ys = some k from e)
      exact .inl ⟨p, q, ra.dp R ha, .inr (dpT R rb hb), toPy_plain ha, toPys_plain hb, hm, f.val R (.bl _)⟩
    | lst ys =>
      obtain ⟨p, q, ha, hb, hm, rfl⟩ := inD_some (show inD a ys = some k from e)
      exact .inl ⟨p, q, ra.dp R ha, .inl (dpL R rb hb), toPy_plain ha, toPys_plain hb, hm, f.val R (.bl _)⟩
    | _ => cases e
  | nin =>
    refine ⟨_, (op_ninP hu).or op_notin_str, ?_, ?_⟩
    rotate_left
    · exact simR_no fun _ _ _ => rfl
    intro w H σ x y a b res Q R ra rb e f
    obtain ⟨k1, e1, rfl⟩ := map_some e
    obtain ⟨k, e2, e3⟩ := map_some e1
    cases e3
    clear e e1
    have e := e2
    have e : isIn a b = some k := e
    cases b with
    | str z =>
      cases a <;> first | cases e; done | skip
      cases e
      exact .inr ⟨_, _, rep_str ra, rep_str rb, f.val R (.bl _)⟩
    | tup ys =>
      obtain ⟨p, q, ha, hb, hm, rfl⟩ := inD_some (show inD a ys = some k from e)
      exact .inl ⟨p, q, ra.dp R ha, .inr (dpT R rb hb), toPy_plain ha, toPys_plain hb, hm, f.val R (.bl _)⟩
    | lst ys =>
      obtain ⟨p, q, ha, hb, hm, rfl⟩ := inD_some (show inD a ys = some k from e)
      exact .inl ⟨p, q, ra.dp R ha, .inl (dpL R rb hb), toPy_plain ha, toPys_plain hb, hm, f.val R (.bl _)⟩
    | _ => cases e
  | is =>
    refine ⟨_, op_isN.or op_isBl, ?_, ?_⟩
    rotate_left
    · exact simR_no fun _ _ _ => rfl
    intro w H σ x y a b res Q R ra rb e f
    obtain ⟨k, e1, rfl⟩ := map_some e
    clear e
    have e := e1
    clear e1
    cases b with
    | non =>
      have e : some (isNonD a) = some k := by cases a <;> exact e
      cases e
      refine .inl ⟨rep_non rb, ?_⟩
      rw [repT_shape ra]
      exact f.val R (.bl _)
    | bl b =>
      cases a <;> first | cases e; done | skip
      cases e
      exact .inr ⟨_, _, rep_bl ra, rep_bl rb, f.val R (.bl _)⟩
    | _ => cases a <;> cases e
  | isn =>
    refine ⟨_, op_notN.or op_notBl, ?_, ?_⟩
    rotate_left
    · exact simR_no fun _ _ _ => rfl
    intro w H σ x y a b res Q R ra rb e f
    obtain ⟨k, e1, rfl⟩ := map_some e
    clear e
    have e := e1
    clear e1
    cases b with
    | non =>
      have e : some (!isNonD a) = some k := by cases a <;> exact e
      cases e
      refine .inl ⟨rep_non rb, ?_⟩
      rw [repT_shape ra]
      exact f.val R (.bl _)
    | bl b =>
      cases a <;> first | cases e; done | skip
      cases e
      exact .inr ⟨_, _, rep_bl ra, rep_bl rb, f.val R (.bl _)⟩
    | _ => cases a <;> cases e

/-! ### truth -/
theorem reps_empty {ι : List Addr} {F : Hp} {vs : List V} {ds : List D} (r : Reps K ι F vs ds) : vs.isEmpty = ds.isEmpty := by cases r <;> rfl
theorem repk_empty {ι : List Addr} {F : Hp} {vs : List (Key × V)} {ds : List (Key × D)} (r : RepK K ι F vs ds) : vs.isEmpty = ds.isEmpty := by cases r <;> rfl
theorem truth_ok {x : V} {d : D} {k : Bool} (r : RepT K w H x d) (e : truth d = some k) : TruV K x H k := by
  cases d with
  | non => cases e; rw [rep_non r]; exact rfl
  | bl b => cases e; rw [rep_bl r]; exact rfl
  | int i => cases e; rw [rep_int r]; exact rfl
  | str z =>
    have e : (if z.length ≤ sizeLine then some ((z.length : Int) != 0) else none) = some k := e
    split at e
    · cases e
      rw [rep_str r]
      exact ⟨by assumption, rfl⟩
    · cases e
  | tup ds =>
    cases e
    obtain ⟨p, vs, rfl, h, r⟩ := r
    exact .inr (.inl ⟨vs, h, by rw [reps_empty r]⟩)
  | lst ds =>
    cases e
    obtain ⟨p, vs, rfl, h, r⟩ := r
    exact .inl ⟨vs, .inl (.inl h), by rw [reps_empty r]⟩
  | ro ds =>
    cases e
    obtain ⟨p, vs, rfl, h, r⟩ := r
    exact .inl ⟨vs, h, by rw [reps_empty r]⟩
  | dic ds =>
    cases e
    obtain ⟨p, vs, rfl, h, r⟩ := r
    exact .inr (.inr ⟨vs, h, by rw [repk_empty r]⟩)
  | ref c => cases e

/-! ### places -/
theorem atI_rep {ι : List Addr} {F : Hp} {vs : List V} {ds : List D} {i : Int} {d : D} (r : Reps K ι F vs ds) (e : atI ds i = some d) : ∃ v, atI vs i = some v ∧ Rep K ι F v d := by
  unfold atI at e ⊢
  rw [r.length]
  cases q : ixN ds.length i with
  | none => rw [q] at e; cases e
  | some j =>
    rw [q] at e
    exact r.get (show ds[j]? = some d from e)
theorem sim_idx (X : Cx) : ∃ r, IxR X r ∧ Sim2 X.K cl r (fun a i => (opIdx a i).map .v) := by
  refine ⟨_, ix_seq, ?_⟩
  intro w H σ x y a b res Q R ra rb e f
  obtain ⟨d, e1, rfl⟩ := map_some e
  clear e
  have e := e1
  clear e1
  cases b <;> first | (cases a <;> cases e; done) | skip
  rename_i i
  have hy := rep_int rb
  cases a with
  | lst xs =>
    obtain ⟨p, vs, rfl, h, r⟩ := ra
    obtain ⟨v, h1, h2⟩ := atI_rep r (show atI xs i = some d from e)
    exact .inl ⟨p, vs, i, v, rfl, hy, .inl (.inl h), h1, f.val R h2⟩
  | ro xs =>
    obtain ⟨p, vs, rfl, h, r⟩ := ra
    obtain ⟨v, h1, h2⟩ := atI_rep r (show atI xs i = some d from e)
    exact .inl ⟨p, vs, i, v, rfl, hy, h, h1, f.val R h2⟩
  | tup xs =>
    obtain ⟨p, vs, rfl, h, r⟩ := ra
    obtain ⟨v, h1, h2⟩ := atI_rep r (show atI xs i = some d from e)
    exact .inr (.inl ⟨p, vs, i, v, rfl, hy, h, h1, f.val R h2⟩)
  | str z =>
    have e : (if z.length ≤ sizeLine then (atI z.cps.toList i).map fun c => D.str ⟨#[c]⟩ else none) = some d := e
    split at e
    · obtain ⟨c, e1, rfl⟩ := map_some e
      exact .inr (.inr ⟨z, i, c, rep_str ra, hy, by assumption, e1, f.val R (.str _)⟩)
    · cases e
  | _ => cases e

/-! ### slices -/
def SimS (K : PySem.W.Frag) (cl : Str → Option Addr) (r : V → Option Int → Option Int → Hp → VK → Prop) (g : D → Option Int → Option Int → Option Rv) : Prop :=
  ∀ (w : Wd) (H : Hp) (σ : St) (x : V) (a : D) (lo hi : Option Int) (res : Rv) (Q : VK), Rel K cl w H σ → RepT K w H x a → g a lo hi = some res → Fin K cl w H σ res Q → r x lo hi H Q
theorem cut_rep {ι : List Addr} {F : Hp} {vs : List V} {ds : List D} (lo hi : Option Int) (r : Reps K ι F vs ds) : Reps K ι F (cutV vs lo hi) (cutD ds lo hi) := by
  unfold cutV cutD
  rw [r.length]
  exact (r.drop _).take _
theorem sim_slc (X : Cx) : ∃ r, SlR X r ∧ SimS X.K cl r opSlc := by
  refine ⟨_, (sl_list.or sl_str).or sl_tup, ?_⟩
  intro w H σ x a lo hi res Q R ra e f
  cases a with
  | lst xs =>
    cases e
    obtain ⟨p, vs, rfl, h, r⟩ := ra
    exact .inl (.inl ⟨p, vs, rfl, .inl (.inl h), fun q hq => f.newL R ⟨_, rfl, cut_rep lo hi r⟩ q hq⟩)
  | tup xs =>
    have e : (if HT.sIx xs.length 0 lo = 0 ∧ HT.sIx xs.length xs.length hi = xs.length then none else some (Rv.v (.tup (cutD xs lo hi)))) = some res := e
    obtain ⟨p, vs, rfl, h, r⟩ := ra
    split at e
    · cases e
    · rename_i hq
      cases e
      exact .inr ⟨p, vs, rfl, h, by rw [r.length]; exact hq, fun q hq => f.newT R (cut_rep lo hi r) q hq⟩
  | str z =>
    have e : (if z.length ≤ sizeLine then some (Rv.v (.str (cutS z lo hi))) else none) = some res := e
    split at e
    · cases e
      exact .inl (.inr ⟨z, rep_str ra, by assumption, f.val R (.str _)⟩)
    · cases e
  | _ => cases e

/-! ### built-ins -/
inductive RepTs (K : PySem.W.Frag) (w : Wd) (H : Hp) : List V → List D → Prop
  | nil : RepTs K w H [] []
  | cons {v : V} {d : D} {vs : List V} {ds : List D} : RepT K w H v d → RepTs K w H vs ds → RepTs K w H (v :: vs) (d :: ds)
def SimN (K : PySem.W.Frag) (cl : Str → Option Addr) (r : List V → Hp → VK → Prop) (g : List D → Option Rv) : Prop :=
  ∀ (w : Wd) (H : Hp) (σ : St) (xs : List V) (ds : List D) (res : Rv) (Q : VK), Rel K cl w H σ → RepTs K w H xs ds → g ds = some res → Fin K cl w H σ res Q → r xs H Q
theorem repTs1 {xs : List V} {d : D} (r : RepTs K w H xs [d]) : ∃ x, xs = [x] ∧ RepT K w H x d := by
  cases r with
  | cons r rs => cases rs; exact ⟨_, rfl, r⟩
theorem repTs2 {xs : List V} {d e : D} (r : RepTs K w H xs [d, e]) : ∃ x y, xs = [x, y] ∧ RepT K w H x d ∧ RepT K w H y e := by
  cases r with
  | cons r rs =>
    obtain ⟨y, rfl, r2⟩ := repTs1 rs
    exact ⟨_, _, rfl, r, r2⟩

theorem toInts_some : ∀ {ds : List D} {ns : List Int}, toInts ds = some ns → ds = ns.map D.int
  | [], _, e => by cases e; rfl
  | .int i :: ds, _, e => by
    obtain ⟨ns, e1, rfl⟩ := map_some (show (toInts ds).map (i :: ·) = some _ from e)
    rw [toInts_some e1]
    rfl
  | .non :: _, _, e => by cases e
  | .bl _ :: _, _, e => by cases e
  | .str _ :: _, _, e => by cases e
  | .tup _ :: _, _, e => by cases e
  | .lst _ :: _, _, e => by cases e
  | .dic _ :: _, _, e => by cases e
  | .ref _ :: _, _, e => by cases e
  | .ro _ :: _, _, e => by cases e
theorem toBls_some : ∀ {ds : List D} {ns : List Bool}, toBls ds = some ns → ds = ns.map D.bl
  | [], _, e => by cases e; rfl
  | .bl i :: ds, _, e => by
    obtain ⟨ns, e1, rfl⟩ := map_some (show (toBls ds).map (i :: ·) = some _ from e)
    rw [toBls_some e1]
    rfl
  | .non :: _, _, e => by cases e
  | .int _ :: _, _, e => by cases e
  | .str _ :: _, _, e => by cases e
  | .tup _ :: _, _, e => by cases e
  | .lst _ :: _, _, e => by cases e
  | .dic _ :: _, _, e => by cases e
  | .ref _ :: _, _, e => by cases e
  | .ro _ :: _, _, e => by cases e
theorem toStrs_some : ∀ {ds : List D} {ns : List Str}, toStrs ds = some ns → ds = ns.map D.str
  | [], _, e => by cases e; rfl
  | .str i :: ds, _, e => by
    obtain ⟨ns, e1, rfl⟩ := map_some (show (toStrs ds).map (i :: ·) = some _ from e)
    rw [toStrs_some e1]
    rfl
  | .non :: _, _, e => by cases e
  | .int _ :: _, _, e => by cases e
  | .bl _ :: _, _, e => by cases e
  | .tup _ :: _, _, e => by cases e
  | .lst _ :: _, _, e => by cases e
  | .dic _ :: _, _, e => by cases e
  | .ref _ :: _, _, e => by cases e
  | .ro _ :: _, _, e => by cases e
theorem intsT {x : V} {ds : List D} {ns : List Int} (r : RepT K w H x (.lst ds)) (e : toInts ds = some ns) : ∃ p, x = .ref p ∧ H p = some (.lst (ns.map V.int)) := by
  obtain ⟨p, vs, rfl, h, r⟩ := r
  have e := toInts_some e
  subst e
  rw [r.ints] at h
  exact ⟨p, rfl, h⟩
theorem blsT {x : V} {ds : List D} {ns : List Bool} (r : RepT K w H x (.lst ds)) (e : toBls ds = some ns) : ∃ p, x = .ref p ∧ H p = some (.lst (ns.map V.bl)) := by
  obtain ⟨p, vs, rfl, h, r⟩ := r
  have e := toBls_some e
  subst e
  rw [r.bls] at h
  exact ⟨p, rfl, h⟩
theorem strsT {x : V} {ds : List D} {ns : List Str} (r : RepT K w H x (.lst ds)) (e : toStrs ds = some ns) : ∃ p, x = .ref p ∧ H p = some (.lst (ns.map V.str)) := by
  obtain ⟨p, vs, rfl, h, r⟩ := r
  have e := toStrs_some e
  subst e
  rw [r.strs] at h
  exact ⟨p, rfl, h⟩
theorem maxL_mem : ∀ (x : Int) (r : List Int), maxL (x :: r) ∈ x :: r ∧ ∀ y ∈ x :: r, y ≤ maxL (x :: r)
  | x, [] => ⟨List.mem_singleton.mpr rfl, fun y hy => by rw [List.mem_singleton.mp hy]; exact Int.le_refl _⟩
  | x, z :: r => by
    obtain ⟨h1, h2⟩ := maxL_mem z r
    show max x (maxL (z :: r)) ∈ _ ∧ ∀ y ∈ x :: z :: r, y ≤ max x (maxL (z :: r))
    constructor
    · by_cases h : x ≤ maxL (z :: r)
      · rw [Int.max_eq_right h]; exact List.mem_cons_of_mem _ h1
      · rw [Int.max_eq_left (by omega)]; exact List.mem_cons_self
    · intro y hy
      rcases List.mem_cons.mp hy with rfl | hy
      · exact Int.le_max_left _ _
      · exact Int.le_trans (h2 y hy) (Int.le_max_right _ _)
theorem minL_mem : ∀ (x : Int) (r : List Int), minL (x :: r) ∈ x :: r ∧ ∀ y ∈ x :: r, minL (x :: r) ≤ y
  | x, [] => ⟨List.mem_singleton.mpr rfl, fun y hy => by rw [List.mem_singleton.mp hy]; exact Int.le_refl _⟩
  | x, z :: r => by
    obtain ⟨h1, h2⟩ := minL_mem z r
    show min x (minL (z :: r)) ∈ _ ∧ ∀ y ∈ x :: z :: r, min x (minL (z :: r)) ≤ y
    constructor
    · by_cases h : x ≤ minL (z :: r)
      · rw [Int.min_eq_left h]; exact List.mem_cons_self
      · rw [Int.min_eq_right (by omega)]; exact List.mem_cons_of_mem _ h1
    · intro y hy
      rcases List.mem_cons.mp hy with rfl | hy
      · exact Int.min_le_left _ _
      · exact Int.le_trans (Int.min_le_right _ _) (h2 y hy)
theorem sqT_ty {p : Addr} {vs : List V} (h : SqT K H p vs) : TyX K H (.ref p) (.type "tuple") := by
  rcases h with (h | ⟨o, h⟩) | ⟨o, its, n, h1, h2, _⟩
  · exact .base (.tup h)
  · exact .fTuple h
  · exact .kTuple h1 h2
theorem sqL_ty {p : Addr} {vs : List V} (h : SqL K H p vs) : TyX K H (.ref p) (.type "list") := by
  rcases h with (h | ⟨o, h⟩) | ⟨o, its, n, h1, h2, _⟩
  · exact .base (.lst h)
  · exact .base (.frz h)
  · exact .kList h1 h2
theorem tyName_ok {x : V} {d : D} {n : String} (r : RepT K w H x d) (e : tyName d = some n) : TyX K H x (.type n) := by
  cases d with
  | non => cases e; rw [rep_non r]; exact .base .non
  | bl b => cases e; rw [rep_bl r]; exact .base (.bl _)
  | int i => cases e; rw [rep_int r]; exact .base (.int _)
  | str z => cases e; rw [rep_str r]; exact .base (.str _)
  | tup ds => cases e; obtain ⟨p, vs, rfl, h, r⟩ := r; exact sqT_ty h
  | lst ds => cases e; obtain ⟨p, vs, rfl, h, r⟩ := r; exact .base (.lst h)
  | ro ds => cases e; obtain ⟨p, vs, rfl, h, r⟩ := r; exact sqL_ty h
  | dic ds => cases e
  | ref c => cases e
theorem kit_all : ∀ a ∈ ["NoneType", "bool", "int", "str", "tuple", "list"], ∀ b ∈ ["list", "tuple", "str", "bool", "int"], kitB a b = isTyS a b := by decide +kernel
theorem isTyS_kit {a b : String} {k : Bool} (ha : a ∈ ["NoneType", "bool", "int", "str", "tuple", "list"]) (e : isTyS a b = some k) : kitB a b = some k := by
  have hb : b ∈ ["list", "tuple", "str", "bool", "int"] := by
    unfold isTyS at e
    by_cases h1 : b = "list"; · simp [h1]
    by_cases h2 : b = "tuple"; · simp [h2]
    by_cases h3 : b = "str"; · simp [h3]
    by_cases h4 : b = "bool"; · simp [h4]
    by_cases h5 : b = "int"; · simp [h5]
    rw [if_neg h1, if_neg h2, if_neg h3, if_neg h4, if_neg h5] at e
    cases e
  rw [kit_all a ha b hb]
  exact e
theorem tyName_mem {d : D} {n : String} (e : tyName d = some n) : n ∈ ["NoneType", "bool", "int", "str", "tuple", "list"] := by
  cases d <;> cases e <;> decide

/-- the called thing: a built-in's value -/
def bltV : Blt → Value
  | .len => .builtin "len" | .abs => .builtin "abs" | .int => .type "int" | .list => .type "list" | .tuple => .type "tuple" | .sum => .builtin "sum"
  | .min2 => .builtin "min" | .max2 => .builtin "max" | .min => .builtin "min" | .max => .builtin "max" | .any => .builtin "any" | .all => .builtin "all"
  | .gcd => .builtin "math.gcd" | .isinst _ => .builtin "isinstance"
/-- isinstance(x, T) has one argument of data -/
def bltArgs : Blt → List V → List V
  | .isinst t, xs => xs ++ [.ty t]
  | _, xs => xs
theorem sim_blt (X : Cx) (hc : X.calm = true) (b : Blt) : ∃ r, CallR X (bltV b) r ∧ SimN X.K cl (fun xs H Q => r (bltArgs b xs) H Q) (opBlt b) := by
  cases b with
  | len =>
    refine ⟨_, call_len, ?_⟩
    intro w H σ xs ds res Q R rr e f
    match ds, e with
    | [.str x], e =>
      have e : (if x.length ≤ sizeLine then some (Rv.v (.int x.length)) else none) = some res := e
      split at e
      · cases e
        obtain ⟨y, rfl, r⟩ := repTs1 rr
        rw [rep_str r]
        exact ⟨_, x.length, rfl, ⟨by assumption, rfl⟩, f.val R (.int _)⟩
      · cases e
    | [.lst xs], e =>
      cases e
      obtain ⟨y, rfl, p, vs, rfl, h, r⟩ := repTs1 rr
      exact ⟨_, vs.length, rfl, .inl ⟨vs, .inl (.inl h), rfl⟩, by rw [r.length]; exact f.val R (.int _)⟩
    | [.ro xs], e =>
      cases e
      obtain ⟨y, rfl, p, vs, rfl, h, r⟩ := repTs1 rr
      exact ⟨_, vs.length, rfl, .inl ⟨vs, h, rfl⟩, by rw [r.length]; exact f.val R (.int _)⟩
    | [.tup xs], e =>
      cases e
      obtain ⟨y, rfl, p, vs, rfl, h, r⟩ := repTs1 rr
      exact ⟨_, vs.length, rfl, .inr ⟨vs, h, rfl⟩, by rw [r.length]; exact f.val R (.int _)⟩
  | abs =>
    refine ⟨_, call_abs, ?_⟩
    intro w H σ xs ds res Q R rr e f
    match ds, e with
    | [.int i], e =>
      cases e
      obtain ⟨y, rfl, r⟩ := repTs1 rr
      rw [rep_int r]
      exact ⟨i, rfl, f.val R (.int _)⟩
  | int =>
    refine ⟨_, call_int1, ?_⟩
    intro w H σ xs ds res Q R rr e f
    match ds, e with
    | [.int i], e =>
      cases e
      obtain ⟨y, rfl, r⟩ := repTs1 rr
      rw [rep_int r]
      exact .inl ⟨i, rfl, f.val R (.int _)⟩
    | [.bl i], e =>
      cases e
      obtain ⟨y, rfl, r⟩ := repTs1 rr
      rw [rep_bl r]
      exact .inr ⟨i, rfl, f.val R (.int _)⟩
  | list =>
    refine ⟨_, call_list_of, ?_⟩
    intro w H σ xs ds res Q R rr e f
    match ds, e with
    | [.lst xs], e =>
      cases e
      obtain ⟨y, rfl, p, vs, rfl, h, r⟩ := repTs1 rr
      exact ⟨p, vs, rfl, .inl (.inl (.inl h)), fun l hl => f.newL R ⟨_, rfl, r⟩ l hl⟩
    | [.ro xs], e =>
      cases e
      obtain ⟨y, rfl, p, vs, rfl, h, r⟩ := repTs1 rr
      exact ⟨p, vs, rfl, .inl h, fun l hl => f.newL R ⟨_, rfl, r⟩ l hl⟩
    | [.tup xs], e =>
      cases e
      obtain ⟨y, rfl, p, vs, rfl, h, r⟩ := repTs1 rr
      exact ⟨p, vs, rfl, .inr h, fun l hl => f.newL R ⟨_, rfl, r⟩ l hl⟩
  | tuple =>
    refine ⟨_, call_tuple_of, ?_⟩
    intro w H σ xs ds res Q R rr e f
    cases ds <;> cases e
  | sum =>
    refine ⟨_, cr_sum hc, ?_⟩
    intro w H σ xs ds res Q R rr e f
    match ds, e with
    | [.lst xs], e =>
      obtain ⟨ns, e1, rfl⟩ := map_some (show (toInts xs).map _ = some res from e)
      obtain ⟨y, rfl, r⟩ := repTs1 rr
      obtain ⟨p, rfl, h⟩ := intsT r e1
      exact ⟨p, ns, rfl, .inl (.inl h), f.val R (.int _)⟩
  | min2 =>
    refine ⟨_, call_min2 hc, ?_⟩
    intro w H σ xs ds res Q R rr e f
    match ds, e with
    | [.int i, .int j], e =>
      cases e
      obtain ⟨y, z, rfl, r1, r2⟩ := repTs2 rr
      rw [rep_int r1, rep_int r2]
      exact ⟨i, j, rfl, f.val R (.int _)⟩
  | max2 =>
    refine ⟨_, call_max2 hc, ?_⟩
    intro w H σ xs ds res Q R rr e f
    match ds, e with
    | [.int i, .int j], e =>
      cases e
      obtain ⟨y, z, rfl, r1, r2⟩ := repTs2 rr
      rw [rep_int r1, rep_int r2]
      exact ⟨i, j, rfl, f.val R (.int _)⟩
  | min =>
    refine ⟨_, cr_min hc, ?_⟩
    intro w H σ xs ds res Q R rr e f
    match ds, e with
    | [.lst xs], e =>
      have e : (match toInts xs with | some (n :: ns) => some (Rv.v (.int (minL (n :: ns)))) | _ => none) = some res := e
      split at e
      · rename_i n ns q
        cases e
        obtain ⟨y, rfl, r⟩ := repTs1 rr
        obtain ⟨p, rfl, h⟩ := intsT r q
        refine ⟨p, n :: ns, rfl, .inl (.inl h), Nat.zero_lt_succ _, fun m hm hle => ?_⟩
        obtain ⟨h1, h2⟩ := minL_mem n ns
        have e : m = minL (n :: ns) := Int.le_antisymm (hle _ h1) (h2 _ hm)
        rw [e]
        exact f.val R (.int _)
      · cases e
  | max =>
    refine ⟨_, cr_max hc, ?_⟩
    intro w H σ xs ds res Q R rr e f
    match ds, e with
    | [.lst xs], e =>
      have e : (match toInts xs with | some (n :: ns) => some (Rv.v (.int (maxL (n :: ns)))) | _ => none) = some res := e
      split at e
      · rename_i n ns q
        cases e
        obtain ⟨y, rfl, r⟩ := repTs1 rr
        obtain ⟨p, rfl, h⟩ := intsT r q
        refine ⟨p, n :: ns, rfl, .inl (.inl h), Nat.zero_lt_succ _, fun m hm hle => ?_⟩
        obtain ⟨h1, h2⟩ := maxL_mem n ns
        have e : m = maxL (n :: ns) := Int.le_antisymm (h2 _ hm) (hle _ h1)
        rw [e]
        exact f.val R (.int _)
      · cases e
  | any =>
    refine ⟨_, cr_any hc, ?_⟩
    intro w H σ xs ds res Q R rr e f
    match ds, e with
    | [.lst xs], e =>
      obtain ⟨ns, e1, rfl⟩ := map_some (show (toBls xs).map _ = some res from e)
      obtain ⟨y, rfl, r⟩ := repTs1 rr
      obtain ⟨p, rfl, h⟩ := blsT r e1
      exact ⟨p, ns, rfl, .inl (.inl h), f.val R (.bl _)⟩
  | all =>
    refine ⟨_, cr_all hc, ?_⟩
    intro w H σ xs ds res Q R rr e f
    match ds, e with
    | [.lst xs], e =>
      obtain ⟨ns, e1, rfl⟩ := map_some (show (toBls xs).map _ = some res from e)
      obtain ⟨y, rfl, r⟩ := repTs1 rr
      obtain ⟨p, rfl, h⟩ := blsT r e1
      exact ⟨p, ns, rfl, .inl (.inl h), f.val R (.bl _)⟩
  | gcd =>
    refine ⟨_, cr_gcd, ?_⟩
    intro w H σ xs ds res Q R rr e f
    match ds, e with
    | [.int i, .int j], e =>
      cases e
      obtain ⟨y, z, rfl, r1, r2⟩ := repTs2 rr
      rw [rep_int r1, rep_int r2]
      exact ⟨i, j, rfl, f.val R (.int _)⟩
  | isinst t =>
    refine ⟨_, call_isi, ?_⟩
    intro w H σ xs ds res Q R rr e f
    match ds, e with
    | [d], e =>
      obtain ⟨k, e1, rfl⟩ := map_some (show ((tyName d).bind fun a => isTyS a t).map _ = some res from e)
      cases q : tyName d with
      | none => rw [q] at e1; cases e1
      | some a =>
        rw [q] at e1
        obtain ⟨y, rfl, r⟩ := repTs1 rr
        exact ⟨y, .ty t, .type a, .type t, k, rfl, .ty t, tyName_ok r q, kit_ty (isTyS_kit (tyName_mem q) e1), f.val R (.bl _)⟩
end
end IR

set_option Elab.async false
set_option linter.all false
set_option maxRecDepth 100000
/-! IrQ: from the text to the language; expressions. -/
namespace IR
open PySem L2

/-! ### steps that do not touch the heap -/
section
variable {K : PySem.W.Frag} {cl : Str → Option Addr} {W : WX} {α β γ : Type} {RR : Wd → Hp → St → β → α → Prop} {w : Wd} {H : Hp} {σ : St} {Q : β → Hp → Prop}
theorem Cont.at (c : Cont K cl W RR w H σ m Q) {m' : M α} (e : m w.sm = m' w.sm) : Cont K cl W RR w H σ m' Q := ⟨c.rel, by rw [← e]; exact c.wp⟩
theorem Cont.up {m : M α} {w' : Wd} {H' : Hp} (c : Cont K cl W RR w H σ m Q) (le : Le w w') (es : w'.sm = w.sm) (R : Rel K cl w' H' σ) : Cont K cl W RR w' H' σ m Q :=
  ⟨R, by
    rw [es]
    exact c.wp.imp (fun a s h w1 H1 b le' => h w1 H1 b (le.trans le')) fun x s h w1 H1 cc d le' => h w1 H1 cc d (le.trans le')⟩
theorem Cont.ofO {o : Option γ} {f : γ → M α} (c : Cont K cl W RR w H σ (M.bind (ofO o) f) Q) : ∃ a, o = some a ∧ Cont K cl W RR w H σ (f a) Q := by
  cases o with
  | none => exact c.wp.elim
  | some a => exact ⟨a, rfl, c.at rfl⟩
theorem Cont.ofO1 {o : Option α} (c : Cont K cl W RR w H σ (IR.ofO o) Q) : ∃ a, o = some a ∧ Cont K cl W RR w H σ (M.pure a) Q := by
  cases o with
  | none => exact c.wp.elim
  | some a => exact ⟨a, rfl, c.at rfl⟩
theorem Cont.fin {a : α} (c : Cont K cl W RR w H σ (M.pure a) Q) : ∀ w' H' b, Le w w' → w'.sm = w.sm → Rel K cl w' H' σ → RR w' H' σ b a → Q b H' := c.wp
theorem Cont.end {a : α} (c : Cont K cl W RR w H σ (M.pure a) Q) {b : β} (r : RR w H σ b a) : Q b H := c.wp w H b (Le.refl w) rfl c.rel r
theorem Cont.pure {a : γ} {f : γ → M α} (c : Cont K cl W RR w H σ (M.bind (M.pure a) f) Q) : Cont K cl W RR w H σ (f a) Q := c.at rfl
theorem Cont.peek {v : V} {r : Rv} {f : D → M α} (c : Cont K cl W RR w H σ (M.bind (peekM r) f) Q) (h : RRep K cl w H σ v r) : ∃ d, RepT K w H v d ∧ peek w.ρ w.C r = some d ∧ Cont K cl W RR w H σ (f d) Q := by
  have hp := c.wp
  rw [wpO_bind] at hp
  unfold peekM at hp
  have hp : wpO (match IR.peek w.ρ w.C r with | some d => Out.ok d w.sm | none => .bad) (fun a s => wpO (f a s) (fun a s => ∀ w' H' b, Le w w' → w'.sm = s → Rel K cl w' H' σ → RR w' H' σ b a → Q b H') (XC K cl W w σ)) (XC K cl W w σ) := hp
  cases e : IR.peek w.ρ w.C r with
  | none => rw [e] at hp; exact hp.elim
  | some d =>
    rw [e] at hp
    exact ⟨d, peek_rep c.rel h e, rfl, c.rel, hp⟩
theorem Cont.frz' {v : V} {r : Rv} {f : D → M α} (c : Cont K cl W RR w H σ (M.bind (IR.frz r) f) Q) (h : RRep K cl w H σ v r) : ∃ w1 d, Le w w1 ∧ Rep K w1.ι w1.F v d ∧ Cont K cl W RR w1 H σ (f d) Q ∧ IR.frz r w.sm = .ok d w1.sm := by
  have up : ∀ {w1 : Wd} {d : D}, Le w w1 → Rel K cl w1 H σ → wpO (f d w1.sm) (fun a s => ∀ w' H' b, Le w w' → w'.sm = s → Rel K cl w' H' σ → RR w' H' σ b a → Q b H') (XC K cl W w σ) → Cont K cl W RR w1 H σ (f d) Q := fun {w1 d} le R1 hp =>
    ⟨R1, hp.imp (fun a s h w' H' b le' => h w' H' b (le.trans le')) fun x s h w' H' cc d le' => h w' H' cc d (le.trans le')⟩
  have hp := c.wp
  rw [wpO_bind] at hp
  cases r with
  | v d => exact ⟨w, d, Le.refl w, h, ⟨c.rel, hp⟩, rfl⟩
  | n o =>
    have hp : wpO (IR.ofO o.toD w.sm) (fun a s => wpO (f a s) (fun a s => ∀ w' H' b, Le w w' → w'.sm = s → Rel K cl w' H' σ → RR w' H' σ b a → Q b H') (XC K cl W w σ)) (XC K cl W w σ) := hp
    obtain ⟨p, rfl, ⟨hF, hB, ho, hH, ha⟩, hn⟩ := h
    cases e : o.toD with
    | none => rw [e] at hp; exact hp.elim
    | some d =>
      rw [e] at hp
      exact ⟨w.frz p ho, d, le_frz hF, Ob.toD_ho e (ha.mono (same_upd hF) fun _ _ h => h) upd_same, up (le_frz hF) (c.rel.frzN hH hF hB hn) hp, by show IR.ofO o.toD w.sm = _; rw [e]; rfl⟩
  | s i =>
    have h : σ[i]? = some (some v) := h
    unfold IR.frz at hp
    dsimp only at hp
    cases e : w.ρ[i]? with
    | none =>
      have e' : w.sm.ρ[i]? = none := e
      rw [e'] at hp
      exact hp.elim
    | some sl =>
      have e' : w.sm.ρ[i]? = some sl := e
      rw [e'] at hp
      cases sl with
      | no => exact hp.elim
      | val d =>
        obtain ⟨v', h1, h2⟩ := c.rel.val i d e
        rw [h] at h1
        cases h1
        exact ⟨w, d, Le.refl w, h2, ⟨c.rel, hp⟩, by unfold IR.frz; dsimp only; rw [e']⟩
      | own o =>
        dsimp only at hp
        cases ed : o.toD with
        | none => rw [ed] at hp; exact hp.elim
        | some d =>
          rw [ed] at hp
          obtain ⟨p, ho, h1, h2, hF, R1, r1⟩ := c.rel.frzS e ed
          rw [h] at h1
          cases h1
          have le : Le w ⟨w.ι, upd w.F p ho, w.B, w.ρ.set i (.val d), w.C⟩ := ⟨same_upd hF, rfl, fun _ _ h => h⟩
          exact ⟨_, d, le, r1, up le R1 hp, by unfold IR.frz; dsimp only; rw [e']; dsimp only; rw [ed]; rfl⟩
theorem Cont.frz {v : V} {r : Rv} {f : D → M α} (c : Cont K cl W RR w H σ (M.bind (IR.frz r) f) Q) (h : RRep K cl w H σ v r) : ∃ w1 d, Le w w1 ∧ Rep K w1.ι w1.F v d ∧ Cont K cl W RR w1 H σ (f d) Q := by
  obtain ⟨w1, d, h1, h2, h3, _⟩ := c.frz' h
  exact ⟨w1, d, h1, h2, h3⟩
theorem Cont.hold {v : V} {r : Rv} {f : Rv → M α} (c : Cont K cl W RR w H σ (M.bind (IR.hold r) f) Q) (h : RRep K cl w H σ v r) : ∃ w1 r', Le w w1 ∧ RRep K cl w1 H σ v r' ∧ (∀ o, r' ≠ .n o) ∧ Cont K cl W RR w1 H σ (f r') Q := by
  cases r with
  | v d => exact ⟨w, .v d, Le.refl w, h, (fun _ z => by cases z), c.at rfl⟩
  | s i => exact ⟨w, .s i, Le.refl w, h, (fun _ z => by cases z), c.at rfl⟩
  | n o =>
    have c' : Cont K cl W RR w H σ (M.bind (IR.frz (.n o)) fun d => f (.v d)) Q := by
      refine c.at ?_
      unfold M.bind IR.hold IR.frz Out.bind IR.ofO
      cases o <;> rfl
    obtain ⟨w1, d, le, r1, c1⟩ := c'.frz h
    exact ⟨w1, .v d, le, r1, (fun _ z => by cases z), c1⟩
end

theorem _root_.L2.PE.imp {X : Cx} {e : Expr} {t t' : TE} (h : PE X e t) (i : ∀ σ H Q, t' σ H Q → t σ H Q) : PE X e t' := ⟨fun pins s σ H Q I q => h.run pins s σ H Q I (i _ _ _ q)⟩
theorem _root_.L2.PT.imp {X : Cx} {e : Expr} {t t' : TT} (h : PT X e t) (i : ∀ σ H Q, t' σ H Q → t σ H Q) : PT X e t' := ⟨fun pins s σ H Q I q => h.run pins s σ H Q I (i _ _ _ q)⟩
theorem _root_.L2.PW.imp {X : Cx} {e : Expr} {t t' : TT} (h : PW X e t) (i : ∀ σ H Q, t' σ H Q → t σ H Q) : PW X e t' := ⟨fun wh pins s σ H Q I q => h.run wh pins s σ H Q I (i _ _ _ q)⟩
theorem _root_.L2.PA.imp {X : Cx} {e : List Expr} {t t' : TA} (h : PA X e t) (i : ∀ σ H Q, t' σ H Q → t σ H Q) : PA X e t' := ⟨fun pos pins s σ H Q I q => h.run pos pins s σ H Q I (i _ _ _ q)⟩

/-! ### the names of a block -/
structure Nm where
  N : List Str
  sc : Scope
  fns : List Str
  consts : List Str
  blts : List Str
  cells : List Str
  /-- the new parts of tuples stand in cells -/
  tc : Bool
  excs : List Str

def Nm.slot (nm : Nm) (x : Str) : Option Nat :=
  match nm.sc.names.lookup x with
  | some .local => if nm.N[nm.N.idxOf x]? = some x then some (nm.N.idxOf x) else none
  | some .cell => if nm.N[nm.N.idxOf x]? = some x then some (nm.N.idxOf x) else none
  | some .free => if nm.N[nm.N.idxOf x]? = some x then some (nm.N.idxOf x) else none
  | _ => none
def Nm.isGl (nm : Nm) (x : Str) : Bool :=
  match nm.sc.names.lookup x with
  | some .globalImplicit => true
  | _ => false
def plainE : Expr → Bool
  | .Starred _ _ => false
  | .Set _ _ _ => false
  | .Slice _ _ _ _ => false
  | _ => true
def okName (x : Str) : Bool := decide ((x == ("__debug__" : Str)) = false) && decide ((x == ("__classdict__" : Str)) = false) && decide (x ≠ "__name__")

def cList (f : Expr → Option E) : List Expr → Option Es
  | [] => some .nil
  | e :: es => if plainE e then match f e, cList f es with
      | some a, some as => some (.cons a as)
      | _, _ => none
    else none
def cBool (and : Bool) (f : Expr → Option E) : List Expr → Option E
  | [] => none
  | [a] => f a
  | a :: b :: r => match f a, cBool and f (b :: r) with
    | some x, some y => some (if and then .and x y else .or x y)
    | _, _ => none
def cOpt (f : Expr → Option E) : Option Expr → Option Eo
  | none => some .no
  | some e => (f e).map .some
def cBop : Operator → Option BOp
  | .Add => some .add | .Sub => some .sub | .Mult => some .mul | .FloorDiv => some .fdiv | .Mod => some .mod | .Pow => some .pow | .LShift => some .shl | .RShift => some .shr | .BitAnd => some .band | .BitXor => some .bxor
  | _ => none
def cCop : CmpOp → COp
  | .Eq => .eq | .NotEq => .ne | .Lt => .lt | .LtE => .le | .Gt => .gt | .GtE => .ge | .In => .inn | .NotIn => .nin | .Is => .is | .IsNot => .isn
/-- a built-in by its name and the number of its arguments -/
def cBlt (x : Str) (n : Nat) : Option Blt :=
  if x = "len" then (if n = 1 then some .len else none) else if x = "abs" then (if n = 1 then some .abs else none) else if x = "int" then (if n = 1 then some .int else none)
  else if x = "list" then (if n = 1 then some .list else none) else if x = "sum" then (if n = 1 then some .sum else none) else if x = "any" then (if n = 1 then some .any else none)
  else if x = "all" then (if n = 1 then some .all else none) else if x = "min" then (if n = 2 then some .min2 else if n = 1 then some .min else none)
  else if x = "max" then (if n = 2 then some .max2 else if n = 1 then some .max else none) else none

end IR

set_option Elab.async false
set_option linter.all false
set_option maxRecDepth 100000
/-! IrR: expressions of the text do what the language says. -/
namespace IR
open PySem L2

def resAt (r : Rv) (C : List (Option Ob)) (σ : St) : Prop := True

section
variable (K : PySem.W.Frag) (cl : Str → Option Addr)
/-- what is wanted behind a call, by its outcome -/
def OcOk (w : Wd) (H : Hp) (Q : VK) (E : XK) : Oc → Prop
  | .ok r C' => ∀ w' H' v, Le w w' → w'.sm = ⟨[], C'⟩ → Rel K cl w' H' [] → RRep K cl w' H' [] v r → Q v H'
  | .exc x C' => ∀ w' H' c d, Le w w' → w'.sm = ⟨[], C'⟩ → Rel K cl w' H' [] → XR K cl w' H' x c d → E c d H'
  | .bad => False
/-- the promise of a def -/
def spD (call : List D → List (Option Ob) → Oc) : Sp := fun vs H Q E => ∃ (w : Wd) (ds : List D), w.ρ = [] ∧ Rel K cl w H [] ∧ Reps K w.ι w.F vs ds ∧ OcOk K cl w H Q E (call ds w.C)
end

/-- an exception's class -/
structure ExcAt (K : PySem.W.Frag) (mg : Str → Option Value) (x : Str) (C : Addr) : Prop where
  gl : mg x = some (.ref C)
  kp : PySem.W.keepIn K (.ref C) = true
  ty : PySem.W.typeIn K (.ref C) = some (.type "type")
  ex : ExcC K C
/-- what is known of the text's globals -/
structure GEnv (P : Program) (w : World) (K : PySem.W.Frag) (mg : Str → Option Value) (base : Heap) (cl : Str → Option Addr) (Γ : Gam) (k : Nat) (fns consts blts excs : List Str) : Prop where
  exm : ∀ x y b, Γ.sub x y = some b → ∃ C D, cl x = some C ∧ cl y = some D ∧ ExcAt K mg x C ∧ ExcAt K mg y D ∧ PySem.W.exmOne K (.ref C) (.ref D) = some b ∧ PySem.W.kitOne K (.ref C) (.ref D) = some b
  exc : ∀ x, x ∈ excs → ∃ C, cl x = some C ∧ ExcAt K mg x C
  xfn : ∀ x fs f C, Γ.xf x = some fs → f ∈ fs → cl x = some C → PySem.W.findIn K (.ref C) f = some none
  xf0 : ∀ x, Γ.xf x = some [] → ∃ C bm, cl x = some C ∧ ExcAt K mg x C ∧ PySem.W.excIn K C bm "ValueError.__new__" = true ∧ bm = [.type "ValueError", .type "Exception", .type "BaseException", .type "object"]
  glob : ∀ x, x ∈ consts → x ≠ "gcd" → ∃ u v d, Γ.glob x = some d ∧ mg x = some u ∧ RelV v u ∧ ∀ ι F, Rep K ι F v d
  blt : ∀ x, x ∈ blts → mg x = none
  gcd : ("gcd" : Str) ∈ consts → mg "gcd" = some (.builtin "math.gcd")
  call : ∀ f, f ∈ fns → ∃ a fd ps, mg f = some (.ref a) ∧ PySem.W.keepIn K (.ref a) = true ∧ Binds K fd ps [] ∧ FnOk P w K mg base (L2.CX P w) k a fd ps (spD K cl (Γ.call f))

structure Hyp (X : Cx) (nm : Nm) (W : WX) (cl : Str → Option Addr) (Γ : Gam) (k : Nat) : Prop where
  hN : X.N = nm.N
  hsc : X.env.scope = nm.sc
  nd : X.N.Nodup
  calm : X.calm = true
  room : Room k X.A
  env : GEnv X.prog X.w X.K X.mg X.base cl Γ k nm.fns nm.consts nm.blts nm.excs
  tk : Takes X W
  fn : ∀ x, x ∈ nm.cells → X.fn x = true

section
variable {X : Cx} {nm : Nm} {W : WX} {cl : Str → Option Addr} {Γ : Gam} {k : Nat}
theorem Hyp.hu (h : Hyp X nm W cl Γ k) : X.A.units + 64 < cLine := h.room.units

abbrev tE (K : PySem.W.Frag) (cl : Str → Option Addr) (W : WX) (Γ : Gam) (e : E) : TE := Run K cl W (RRep K cl) (ev Γ e)
abbrev tT (K : PySem.W.Frag) (cl : Str → Option Addr) (W : WX) (Γ : Gam) (e : E) : TT := Run K cl W (fun _ _ _ (b : Bool) a => b = a) (tv Γ e)

theorem okName_of {x : Str} (h : okName x = true) : (x == ("__debug__" : Str)) = false ∧ (x == ("__classdict__" : Str)) = false ∧ x ≠ "__name__" := by
  unfold okName at h
  rw [Bool.and_eq_true, Bool.and_eq_true, decide_eq_true_eq, decide_eq_true_eq, decide_eq_true_eq] at h
  exact ⟨h.1.1, h.1.2, h.2⟩
theorem slot_of {x : Str} {i : Nat} (h : nm.slot x = some i) : nm.N[i]? = some x ∧ Vis nm.sc x := by
  unfold Nm.slot at h
  split at h
  · rename_i q
    split at h
    · cases h; exact ⟨by assumption, .inl q⟩
    · cases h
  · rename_i q
    split at h
    · cases h; exact ⟨by assumption, .inr (.inl q)⟩
    · cases h
  · rename_i q
    split at h
    · cases h; exact ⟨by assumption, .inr (.inr q)⟩
    · cases h
  · cases h
theorem isGl_of (h : Hyp X nm W cl Γ k) {x : Str} (g : nm.isGl x = true) : Gl X x := by
  unfold Nm.isGl at g
  split at g
  · rename_i q
    show X.env.scope.names.lookup x = _
    rw [h.hsc]
    exact q
  · cases g

/-! ### lists of expressions -/
theorem star_of {e : Expr} {es : List Expr} {env : Env} (h : plainE e = true) : starEach (e :: es) env = (false, eval e env) :: starEach es env := by
  cases e <;> first | rfl | cases h
theorem sl_of {e : Expr} (h : plainE e = true) : PlainIx e := by
  intro o i
  cases e <;> first | rfl | cases h
theorem mark_of {e : Expr} {op : CmpOp} (h : plainE e = true) : behindInMarks op e = false := by
  cases e <;> first | rfl | cases h
abbrev RRs (K : PySem.W.Frag) (cl : Str → Option Addr) (w : Wd) (H : Hp) (σ : St) (vs : List V) (ds : List D) : Prop := Reps K w.ι w.F vs ds
inductive RHs (K : PySem.W.Frag) (cl : Str → Option Addr) (w : Wd) (H : Hp) (σ : St) : List V → List Rv → Prop
  | nil : RHs K cl w H σ [] []
  | cons {v : V} {r : Rv} {vs : List V} {rs : List Rv} : RRep K cl w H σ v r → (∀ o, r ≠ .n o) → RHs K cl w H σ vs rs → RHs K cl w H σ (v :: vs) (r :: rs)

theorem pa_evs {f : Expr → Option E} (hf : ∀ e ir, f e = some ir → PE X e (tE X.K cl W Γ ir)) : ∀ (es : List Expr) (irs : Es), cList f es = some irs → PA X es (Run X.K cl W (RRs X.K cl) (evs Γ irs))
  | [], irs, e => by
    cases e
    exact pa_nil.imp fun σ H Q ⟨w, c⟩ => Cont.end (a := ([] : List D)) (RR := RRs X.K cl) c Reps.nil
  | e :: es, irs, h => by
    unfold cList at h
    split at h
    · rename_i hp
      split at h
      · rename_i a as h1 h2
        cases h
        refine (pa_cons (hf e a h1) (pa_evs hf es as h2) (star_of hp)).imp fun σ H Q ⟨w, c⟩ => ?_
        have c1 : Cont X.K cl W (RRs X.K cl) w H σ (M.bind (ev Γ a) fun x => M.bind (frz x) fun d => M.bind (evs Γ as) fun ds => M.pure (d :: ds)) Q := c
        refine ⟨w, (c1.bind (RS := RRep X.K cl)).imp fun x H1 ⟨w1, r, le1, rr, c2⟩ => ?_⟩
        obtain ⟨w2, d, le2, rd, c3⟩ := c2.frz rr
        refine ⟨w2, (c3.bind (RS := RRs X.K cl)).imp fun xs H2 ⟨w3, ds, le3, rs, c4⟩ => ?_⟩
        exact Cont.end (a := (d :: ds : List D)) (RR := RRs X.K cl) c4 (Reps.cons (rd.mono le3.f le3.i) rs)
      · cases h
    · cases h
theorem pa_evH {f : Expr → Option E} (hf : ∀ e ir, f e = some ir → PE X e (tE X.K cl W Γ ir)) : ∀ (es : List Expr) (irs : Es), cList f es = some irs → PA X es (Run X.K cl W (RHs X.K cl) (evH Γ irs))
  | [], irs, e => by
    cases e
    exact pa_nil.imp fun σ H Q ⟨w, c⟩ => Cont.end (a := ([] : List Rv)) (RR := RHs X.K cl) c RHs.nil
  | e :: es, irs, h => by
    unfold cList at h
    split at h
    · rename_i hp
      split at h
      · rename_i a as h1 h2
        cases h
        refine (pa_cons (hf e a h1) (pa_evH hf es as h2) (star_of hp)).imp fun σ H Q ⟨w, c⟩ => ?_
        have c1 : Cont X.K cl W (RHs X.K cl) w H σ (M.bind (ev Γ a) fun x => M.bind (hold x) fun d => M.bind (evH Γ as) fun ds => M.pure (d :: ds)) Q := c
        refine ⟨w, (c1.bind (RS := RRep X.K cl)).imp fun x H1 ⟨w1, r, le1, rr, c2⟩ => ?_⟩
        obtain ⟨w2, d, le2, rd, hd, c3⟩ := c2.hold rr
        refine ⟨w2, (c3.bind (RS := RHs X.K cl)).imp fun xs H2 ⟨w3, ds, le3, rs, c4⟩ => ?_⟩
        exact Cont.end (a := (d :: ds : List Rv)) (RR := RHs X.K cl) c4 (RHs.cons (rd.keep le3 hd) hd rs)
      · cases h
    · cases h
theorem RHs.peeks {w : Wd} {H : Hp} {σ : St} (R : Rel X.K cl w H σ) : ∀ {vs : List V} {rs : List Rv} {ds : List D}, RHs X.K cl w H σ vs rs → IR.peeks w.ρ w.C rs = some ds → RepTs X.K w H vs ds
  | _, _, _, .nil, e => by cases e; exact .nil
  | _, r :: rs, _, .cons h1 _ h2, e => by
    unfold IR.peeks at e
    cases q : peek w.ρ w.C r with
    | none => rw [q] at e; cases e
    | some d =>
      cases qs : IR.peeks w.ρ w.C rs with
      | none => rw [q, qs] at e; cases e
      | some ds =>
        rw [q, qs] at e
        cases e
        exact .cons (peek_rep R h1 q) (h2.peeks R qs)

/-! ### each form -/
theorem s_var (h : Hyp X nm W cl Γ k) {x : Str} {i : Nat} {pos : Pos} (hx : okName x = true) (hs : nm.slot x = some i) : PE X (.Name x pos) (tE X.K cl W Γ (.loc i)) := by
  obtain ⟨h1, h2, _⟩ := okName_of hx
  obtain ⟨hN, hv⟩ := slot_of hs
  refine (pe_var (i := i) (by rw [h.hN]; exact hN) (by rw [h.hsc]; exact hv) h1 h2).imp fun σ H Q ⟨w, c⟩ => ?_
  have hp := c.wp
  have hp : wpO ((fun s : Sm => match s.ρ[i]? with | some (.own _) => Out.ok (.s i) s | some (.val d) => .ok (.v d) s | _ => .bad) w.sm) (fun a s => ∀ w' H' b, Le w w' → w'.sm = s → Rel X.K cl w' H' σ → RRep X.K cl w' H' σ b a → Q b H') (XC X.K cl W w σ) := hp
  cases e : w.ρ[i]? with
  | none =>
    have e' : w.sm.ρ[i]? = none := e
    dsimp only at hp
    rw [e'] at hp
    exact hp.elim
  | some sl =>
    have e' : w.sm.ρ[i]? = some sl := e
    dsimp only at hp
    rw [e'] at hp
    cases sl with
    | no => exact hp.elim
    | val d =>
      obtain ⟨v, h1, h2⟩ := c.rel.val i d e
      exact ⟨v, h1, hp w H v (Le.refl w) rfl c.rel h2⟩
    | own o =>
      obtain ⟨p, h1, h2⟩ := c.rel.own _ _ (ob_s e)
      have h1 := of_addr_s h1
      exact ⟨.ref p, h1, hp w H _ (Le.refl w) rfl c.rel h1⟩
theorem s_glob (h : Hyp X nm W cl Γ k) {x : Str} {pos : Pos} (hx : okName x = true) (hg : nm.isGl x = true) (hc : x ∈ nm.consts) (hn : x ≠ "gcd") : PE X (.Name x pos) (tE X.K cl W Γ (.glob x)) := by
  obtain ⟨h1, h2, _⟩ := okName_of hx
  obtain ⟨u, v, d, e, em, r, rp⟩ := h.env.glob x hc hn
  refine (pe_glob (isGl_of h hg) em r h1).imp fun σ H Q ⟨w, c⟩ => ?_
  have hp := c.wp
  have hp : wpO ((match Γ.glob x with | some d => Out.ok (.v d) w.sm | none => .bad) : Out Rv) (fun a s => ∀ w' H' b, Le w w' → w'.sm = s → Rel X.K cl w' H' σ → RRep X.K cl w' H' σ b a → Q b H') (XC X.K cl W w σ) := hp
  rw [e] at hp
  exact hp w H v (Le.refl w) rfl c.rel (rp _ _)
theorem s_k {e : Expr} {v : V} {d : D} (he : PE X e (tC v)) (r : ∀ ι F, Rep X.K ι F v d) : PE X e (tE X.K cl W Γ (.k d)) :=
  he.imp fun σ H Q ⟨w, c⟩ => Cont.end (a := Rv.v d) (RR := RRep X.K cl) c (r _ _)

theorem peekM_held {w : Wd} {H : Hp} {σ : St} {v : V} {r : Rv} {β : Type} {α : Type} {RR : Wd → Hp → St → β → α → Prop} {Q : β → Hp → Prop} {f : D → M α} (c : Cont X.K cl W RR w H σ (M.bind (peekM r) f) Q) (h : RRep X.K cl w H σ v r) :
    ∃ d, RepT X.K w H v d ∧ Cont X.K cl W RR w H σ (f d) Q := by
  obtain ⟨d, h1, _, h2⟩ := c.peek h
  exact ⟨d, h1, h2⟩

theorem s_bin {a b : Expr} {x y : E} {o : BOp} {pos : Pos} (ha : PE X a (tE X.K cl W Γ x)) (hb : PE X b (tE X.K cl W Γ y)) : PE X (.BinOp a (bopS o) b pos) (tE X.K cl W Γ (.bin o x y)) := by
  obtain ⟨r, hr, hs⟩ := sim_bin (cl := cl) X o
  refine (pe_op hr ha hb).imp fun σ H Q ⟨w, c⟩ => ?_
  have c1 : Cont X.K cl W (RRep X.K cl) w H σ (M.bind (ev Γ x) fun ra => M.bind (hold ra) fun ra => M.bind (ev Γ y) fun rb => M.bind (peekM ra) fun x => M.bind (peekM rb) fun y => ofO (opBin o x y)) Q := c
  refine ⟨w, (c1.bind (RS := RRep X.K cl)).imp fun v1 H1 ⟨w1, r1, le1, rr1, c2⟩ => ?_⟩
  obtain ⟨w2, r2, le2, rr2, hd, c3⟩ := c2.hold rr1
  refine ⟨w2, (c3.bind (RS := RRep X.K cl)).imp fun v2 H2 ⟨w3, r3, le3, rr3, c4⟩ => ?_⟩
  obtain ⟨d1, t1, c5⟩ := peekM_held c4 (rr2.keep le3 hd)
  obtain ⟨d2, t2, c6⟩ := peekM_held c5 rr3
  obtain ⟨res, e, c7⟩ := c6.ofO1
  exact hs w3 H2 σ v1 v2 d1 d2 res Q c7.rel t1 t2 e c7.fin
theorem s_neg {a : Expr} {x : E} {pos : Pos} (ha : PE X a (tE X.K cl W Γ x)) : PE X (.UnaryOp .USub a pos) (tE X.K cl W Γ (.neg x)) := by
  refine (pe_un un_neg ha).imp fun σ H Q ⟨w, c⟩ => ?_
  have c1 : Cont X.K cl W (RRep X.K cl) w H σ (M.bind (ev Γ x) fun r => M.bind (peekM r) fun x => match x with | .int i => M.pure (.v (.int (-i))) | _ => M.bad) Q := c
  refine ⟨w, (c1.bind (RS := RRep X.K cl)).imp fun v1 H1 ⟨w1, r1, le1, rr1, c2⟩ => ?_⟩
  obtain ⟨d, t, c3⟩ := peekM_held c2 rr1
  cases d with
  | int i =>
    rw [rep_int t]
    exact ⟨i, rfl, Cont.end (a := Rv.v (.int (-i))) (RR := RRep X.K cl) c3 (Rep.int _)⟩
  | _ => exact c3.wp.elim
theorem cmpS_C (o : CmpOp) : copS (cCop o) = o := by cases o <;> rfl
/-! ### the truth of each form -/
theorem bind_assoc {α β γ : Type} {m : M α} {f : α → M β} {g : β → M γ} : M.bind (M.bind m f) g = M.bind m fun a => M.bind (f a) g := by
  funext s
  unfold M.bind Out.bind
  cases m s <;> rfl
theorem bind_congr {α β : Type} {m : M α} {f g : α → M β} (h : ∀ a, f a = g a) : M.bind m f = M.bind m g := by rw [funext h]
theorem bind_pure {α β : Type} {a : α} {f : α → M β} : M.bind (M.pure a) f = f a := rfl
theorem bl_endM {m : M Bool} : (M.bind (M.bind m fun k => M.pure (Rv.v (.bl k))) fun r => M.bind (peekM r) test) = m := by
  funext s
  unfold M.bind Out.bind
  cases m s <;> rfl
theorem bl_end {o : COp} {a b : D} {x : Option Bool} : (M.bind (M.bind (cmpV o a b x) fun k => M.pure (Rv.v (.bl k))) fun r => M.bind (peekM r) test) = cmpV o a b x := bl_endM
theorem _root_.IR.Cont.cmpV {K : PySem.W.Frag} {cl : Str → Option Addr} {W : WX} {α β : Type} {RR : Wd → Hp → St → β → α → Prop} {w : Wd} {H : Hp} {σ : St} {Q : β → Hp → Prop} {o : COp} {a b : D} {f : Bool → M α} (c : Cont K cl W RR w H σ (M.bind (IR.cmpV o a b (opCmp o a b)) f) Q) :
    ∃ k, (opCmp o a b = some k ∨ cmpR w.C o a b = some k) ∧ Cont K cl W RR w H σ (f k) Q := by
  cases q : opCmp o a b with
  | some k => rw [q] at c; exact ⟨k, .inl rfl, c.at rfl⟩
  | none =>
    rw [q] at c
    cases q2 : cmpR w.C o a b with
    | some k =>
      refine ⟨k, .inr rfl, c.at ?_⟩
      show (match cmpR w.C o a b with | some k => Out.ok k w.sm | none => .bad).bind f = _
      rw [q2]
      rfl
    | none =>
      have hw := c.wp
      rw [wpO_bind] at hw
      have hw : wpO (match cmpR w.C o a b with | some k => Out.ok k w.sm | none => .bad) _ _ := hw
      rw [q2] at hw
      exact hw.elim
theorem _root_.IR.Cont.cmpV1 {K : PySem.W.Frag} {cl : Str → Option Addr} {W : WX} {β : Type} {RR : Wd → Hp → St → β → Bool → Prop} {w : Wd} {H : Hp} {σ : St} {Q : β → Hp → Prop} {o : COp} {a b : D} (c : Cont K cl W RR w H σ (IR.cmpV o a b (opCmp o a b)) Q) :
    ∃ k, (opCmp o a b = some k ∨ cmpR w.C o a b = some k) ∧ Cont K cl W RR w H σ (M.pure k) Q := by
  have c' : Cont K cl W RR w H σ (M.bind (IR.cmpV o a b (opCmp o a b)) M.pure) Q := c.at (by unfold M.bind Out.bind; cases IR.cmpV o a b (opCmp o a b) w.sm <;> rfl)
  exact c'.cmpV
theorem sim_both {K : PySem.W.Frag} {cl : Str → Option Addr} {r : R2} {o : COp} (hs : Sim2 K cl r (cmpG o)) (hsR : SimR K cl r o) {w : Wd} {H : Hp} {σ : St} {x y : V} {a b : D} {k : Bool} {Q : VK} (R : Rel K cl w H σ) (ra : RepT K w H x a) (rb : RepT K w H y b) (e : opCmp o a b = some k ∨ cmpR w.C o a b = some k) (f : Fin K cl w H σ (.v (.bl k)) Q) : r x y H Q := by
  rcases e with e | e
  · exact hs w H σ x y a b _ Q R ra rb (by show (opCmp o a b).map _ = _; rw [e]; rfl) f
  · exact hsR w H σ x y a b k Q R ra rb e f
theorem tv_cmp {o : COp} {a b : E} : tv Γ (.cmp o a b) = M.bind (ev Γ a) fun ra => M.bind (hold ra) fun ra => M.bind (ev Γ b) fun rb => M.bind (peekM ra) fun x => M.bind (peekM rb) fun y => cmpV o x y (opCmp o x y) := by
  show M.bind (M.bind (ev Γ a) _) _ = _
  simp only [bind_assoc]
  refine bind_congr fun ra => bind_congr fun ra => bind_congr fun rb => bind_congr fun x => bind_congr fun y => ?_
  rw [← bind_assoc]
  exact bl_end
theorem tv_chain {o o' : COp} {a b c : E} : tv Γ (.chain o o' a b c) = M.bind (ev Γ a) fun ra => M.bind (hold ra) fun ra => M.bind (ev Γ b) fun rb => M.bind (hold rb) fun rb => M.bind (peekM ra) fun x => M.bind (peekM rb) fun y => M.bind (cmpV o x y (opCmp o x y)) fun k =>
      if k then M.bind (ev Γ c) fun rc => M.bind (peekM rb) fun y => M.bind (peekM rc) fun z => cmpV o' y z (opCmp o' y z) else M.pure false := by
  show M.bind (M.bind (ev Γ a) _) _ = _
  simp only [bind_assoc]
  refine bind_congr fun ra => bind_congr fun ra => bind_congr fun rb => bind_congr fun rb => bind_congr fun x => bind_congr fun y => bind_congr fun k => ?_
  cases k with
  | false => rfl
  | true =>
    show M.bind (M.bind (ev Γ c) _) _ = M.bind (ev Γ c) _
    simp only [bind_assoc]
    refine bind_congr fun ra => bind_congr fun x => bind_congr fun y => ?_
    rw [← bind_assoc]
    exact bl_end
theorem tv_not {a : E} : tv Γ (.not a) = M.bind (tv Γ a) fun k => M.pure (!k) := by
  show M.bind (M.bind (ev Γ a) _) _ = M.bind (M.bind (ev Γ a) _) _
  simp only [bind_assoc]
  rfl
theorem test_again {r : Rv} {x : D} {s : Sm} (h : peek s.ρ s.C r = some x) : M.bind (peekM r) test s = test x s := by
  unfold M.bind peekM
  rw [h]
  rfl
theorem tv_and {a b : E} : tv Γ (.and a b) = M.bind (tv Γ a) fun k => if k then tv Γ b else M.pure false := by
  show M.bind (M.bind (ev Γ a) _) _ = M.bind (M.bind (ev Γ a) _) _
  simp only [bind_assoc]
  refine bind_congr fun r => ?_
  funext s
  unfold M.bind peekM
  cases e : peek s.ρ s.C r with
  | none => rfl
  | some x =>
    show ((test x s).bind fun k => M.bind (if k then ev Γ b else M.pure r) fun r => M.bind (peekM r) test) = (test x s).bind _
    unfold test ofO
    cases t : truth x with
    | none => rfl
    | some k =>
      cases k with
      | true => rfl
      | false =>
        show M.bind (peekM r) test s = Out.ok false s
        rw [test_again e]
        unfold test
        rw [t]
        rfl
theorem tv_or {a b : E} : tv Γ (.or a b) = M.bind (tv Γ a) fun k => if k then M.pure true else tv Γ b := by
  show M.bind (M.bind (ev Γ a) _) _ = M.bind (M.bind (ev Γ a) _) _
  simp only [bind_assoc]
  refine bind_congr fun r => ?_
  funext s
  unfold M.bind peekM
  cases e : peek s.ρ s.C r with
  | none => rfl
  | some x =>
    show ((test x s).bind fun k => M.bind (if k then M.pure r else ev Γ b) fun r => M.bind (peekM r) test) = (test x s).bind _
    unfold test ofO
    cases t : truth x with
    | none => rfl
    | some k =>
      cases k with
      | false => rfl
      | true =>
        show M.bind (peekM r) test s = Out.ok true s
        rw [test_again e]
        unfold test
        rw [t]
        rfl

/-- the answer of a comparison, as wanted -/
theorem Fin.bl {w : Wd} {H : Hp} {σ : St} {k : Bool} {Q : VK} (f : ∀ w' H', Le w w' → w'.sm = w.sm → Rel X.K cl w' H' σ → Q (.bl k) H') : Fin X.K cl w H σ (.v (.bl k)) Q := fun w' H' v le e R r => by
  have r : Rep X.K w'.ι w'.F v (.bl k) := r
  rw [rep_bl r]
  exact f w' H' le e R
theorem map_of {α β : Type} {o : Option α} {f : α → β} {a : α} (e : o = some a) : o.map f = some (f a) := by rw [e]; rfl
theorem s_cmp (h : Hyp X nm W cl Γ k) {a b : Expr} {x y : E} {o : CmpOp} {pos : Pos} (hp : plainE b = true) (ha : PE X a (tE X.K cl W Γ x)) (hb : PE X b (tE X.K cl W Γ y)) :
    PE X (.Compare a [o] [b] pos) (tE X.K cl W Γ (.cmp (cCop o) x y)) ∧ PT X (.Compare a [o] [b] pos) (tT X.K cl W Γ (.cmp (cCop o) x y)) := by
  obtain ⟨r, hr, hs, hsR⟩ := sim_cmp (cl := cl) X h.hu (cCop o)
  rw [cmpS_C] at hr
  refine ⟨(pe_cmpR hr ha hb (mark_of hp)).imp fun σ H Q ⟨w, c⟩ => ?_, (pt_cmpR hr ha hb (mark_of hp)).imp fun σ H Q ⟨w, c⟩ => ?_⟩
  · have c1 : Cont X.K cl W (RRep X.K cl) w H σ (M.bind (ev Γ x) fun ra => M.bind (hold ra) fun ra => M.bind (ev Γ y) fun rb => M.bind (peekM ra) fun x => M.bind (peekM rb) fun y => M.bind (cmpV (cCop o) x y (opCmp (cCop o) x y)) fun k => M.pure (.v (.bl k))) Q := c
    refine ⟨w, (c1.bind (RS := RRep X.K cl)).imp fun v1 H1 ⟨w1, r1, le1, rr1, c2⟩ => ?_⟩
    obtain ⟨w2, r2, le2, rr2, hd, c3⟩ := c2.hold rr1
    refine ⟨w2, (c3.bind (RS := RRep X.K cl)).imp fun v2 H2 ⟨w3, r3, le3, rr3, c4⟩ => ?_⟩
    obtain ⟨d1, t1, c5⟩ := peekM_held c4 (rr2.keep le3 hd)
    obtain ⟨d2, t2, c6⟩ := peekM_held c5 rr3
    obtain ⟨k, e, c7⟩ := c6.cmpV
    exact sim_both hs hsR c7.rel t1 t2 e c7.fin
  · have c1 : Cont X.K cl W (fun _ _ _ (b : Bool) a => b = a) w H σ (M.bind (ev Γ x) fun ra => M.bind (hold ra) fun ra => M.bind (ev Γ y) fun rb => M.bind (peekM ra) fun x => M.bind (peekM rb) fun y => cmpV (cCop o) x y (opCmp (cCop o) x y)) Q := by
      rw [← tv_cmp]
      exact c
    refine ⟨w, (c1.bind (RS := RRep X.K cl)).imp fun v1 H1 ⟨w1, r1, le1, rr1, c2⟩ => ?_⟩
    obtain ⟨w2, r2, le2, rr2, hd, c3⟩ := c2.hold rr1
    refine ⟨w2, (c3.bind (RS := RRep X.K cl)).imp fun v2 H2 ⟨w3, r3, le3, rr3, c4⟩ => ?_⟩
    obtain ⟨d1, t1, c5⟩ := peekM_held c4 (rr2.keep le3 hd)
    obtain ⟨d2, t2, c6⟩ := peekM_held c5 rr3
    obtain ⟨k, e, c7⟩ := c6.cmpV1
    exact sim_both hs hsR c7.rel t1 t2 e (Fin.bl fun w' H' le es R => ⟨k, rfl, c7.fin w' H' k le es R rfl⟩)
theorem s_chain (h : Hyp X nm W cl Γ k) {a b b2 : Expr} {x y z : E} {o o' : CmpOp} {pos : Pos} (hp : plainE b2 = true) (ha : PE X a (tE X.K cl W Γ x)) (hb : PE X b (tE X.K cl W Γ y)) (hb2 : PE X b2 (tE X.K cl W Γ z)) :
    PE X (.Compare a [o, o'] [b, b2] pos) (tE X.K cl W Γ (.chain (cCop o) (cCop o') x y z)) ∧ PT X (.Compare a [o, o'] [b, b2] pos) (tT X.K cl W Γ (.chain (cCop o) (cCop o') x y z)) := by
  obtain ⟨r, hr, hs, hsR⟩ := sim_cmp (cl := cl) X h.hu (cCop o)
  obtain ⟨r', hr', hs', hsR'⟩ := sim_cmp (cl := cl) X h.hu (cCop o')
  rw [cmpS_C] at hr hr'
  have hm : lastMarks [o, o'] [b, b2] = false := mark_of (op := o') hp
  refine ⟨(pe_chain hr hr' ha hb hb2 hm).imp fun σ H Q ⟨w, c⟩ => ?_, (pt_chain hr hr' ha hb hb2 hm).imp fun σ H Q ⟨w, c⟩ => ?_⟩
  · have c1 : Cont X.K cl W (RRep X.K cl) w H σ (M.bind (ev Γ x) fun ra => M.bind (hold ra) fun ra => M.bind (ev Γ y) fun rb => M.bind (hold rb) fun rb => M.bind (peekM ra) fun x => M.bind (peekM rb) fun y => M.bind (cmpV (cCop o) x y (opCmp (cCop o) x y)) fun k =>
      if k then M.bind (ev Γ z) fun rc => M.bind (peekM rb) fun y => M.bind (peekM rc) fun z => M.bind (cmpV (cCop o') y z (opCmp (cCop o') y z)) fun k => M.pure (.v (.bl k)) else M.pure (.v (.bl false))) Q := c
    refine ⟨w, (c1.bind (RS := RRep X.K cl)).imp fun v1 H1 ⟨w1, r1, le1, rr1, c2⟩ => ?_⟩
    obtain ⟨w2, r2, le2, rr2, hd, c3⟩ := c2.hold rr1
    refine ⟨w2, (c3.bind (RS := RRep X.K cl)).imp fun v2 H2 ⟨w3, r3, le3, rr3, c4⟩ => ?_⟩
    obtain ⟨w4, r4, le4, rr4, hd4, c5⟩ := c4.hold rr3
    obtain ⟨d1, t1, c6⟩ := peekM_held c5 (rr2.keep (le3.trans le4) hd)
    obtain ⟨d2, t2, c7⟩ := peekM_held c6 rr4
    obtain ⟨k, e, c8⟩ := c7.cmpV
    refine sim_both hs hsR c8.rel t1 t2 e (Fin.bl fun w' H' le es R => ⟨k, rfl, ?_⟩)
    have c9 : Cont X.K cl W (RRep X.K cl) w' H' σ _ Q := c8.up le es R
    cases k with
    | false => exact Cont.end (a := Rv.v (.bl false)) (RR := RRep X.K cl) c9 (Rep.bl _)
    | true =>
      refine ⟨w', (c9.bind (RS := RRep X.K cl)).imp fun v5 H5 ⟨w5, r5, le5, rr5, c10⟩ => ?_⟩
      obtain ⟨d5, t5, c11⟩ := peekM_held c10 (rr4.keep (le.trans le5) hd4)
      obtain ⟨d6, t6, c12⟩ := peekM_held c11 rr5
      obtain ⟨k, e, c13⟩ := c12.cmpV
      exact sim_both hs' hsR' c13.rel t5 t6 e c13.fin
  · have c1 : Cont X.K cl W (fun _ _ _ (b : Bool) a => b = a) w H σ (M.bind (ev Γ x) fun ra => M.bind (hold ra) fun ra => M.bind (ev Γ y) fun rb => M.bind (hold rb) fun rb => M.bind (peekM ra) fun x => M.bind (peekM rb) fun y => M.bind (cmpV (cCop o) x y (opCmp (cCop o) x y)) fun k =>
      if k then M.bind (ev Γ z) fun rc => M.bind (peekM rb) fun y => M.bind (peekM rc) fun z => cmpV (cCop o') y z (opCmp (cCop o') y z) else M.pure false) Q := by
      rw [← tv_chain]
      exact c
    refine ⟨w, (c1.bind (RS := RRep X.K cl)).imp fun v1 H1 ⟨w1, r1, le1, rr1, c2⟩ => ?_⟩
    obtain ⟨w2, r2, le2, rr2, hd, c3⟩ := c2.hold rr1
    refine ⟨w2, (c3.bind (RS := RRep X.K cl)).imp fun v2 H2 ⟨w3, r3, le3, rr3, c4⟩ => ?_⟩
    obtain ⟨w4, r4, le4, rr4, hd4, c5⟩ := c4.hold rr3
    obtain ⟨d1, t1, c6⟩ := peekM_held c5 (rr2.keep (le3.trans le4) hd)
    obtain ⟨d2, t2, c7⟩ := peekM_held c6 rr4
    obtain ⟨k, e, c8⟩ := c7.cmpV
    refine sim_both hs hsR c8.rel t1 t2 e (Fin.bl fun w' H' le es R => ⟨k, rfl, ?_⟩)
    have c9 : Cont X.K cl W (fun _ _ _ (b : Bool) a => b = a) w' H' σ _ Q := c8.up le es R
    cases k with
    | false => exact ⟨false, rfl, Cont.end (a := false) c9 rfl⟩
    | true =>
      refine ⟨w', (c9.bind (RS := RRep X.K cl)).imp fun v5 H5 ⟨w5, r5, le5, rr5, c10⟩ => ?_⟩
      obtain ⟨d5, t5, c11⟩ := peekM_held c10 (rr4.keep (le.trans le5) hd4)
      obtain ⟨d6, t6, c12⟩ := peekM_held c11 rr5
      obtain ⟨k, e, c13⟩ := c12.cmpV1
      exact sim_both hs' hsR' c13.rel t5 t6 e (Fin.bl fun w' H' le es R => ⟨k, rfl, c13.fin w' H' k le es R rfl⟩)

/-! ### and, or, not, if .. else -/
def plainT : Expr → Bool
  | .UnaryOp .Not _ _ => false
  | .BoolOp _ _ _ => false
  | .IfExp _ _ _ _ => false
  | .Compare _ _ _ _ => false
  | _ => true
theorem plain_true (e : Expr) (h : plainT e = true) {env : Env} (whole : Sem Value) : isTrue e env whole = (do let v ← whole; standAt e.pos; holding [v] (truthy v)) := by
  cases e <;> first | rfl | cases h | skip
  rename_i op x p
  cases op <;> first | rfl | cases h
/-- the truth of a value -/
theorem pt_val' {e : Expr} {x : E} (he : PE X e (tE X.K cl W Γ x)) (h : ∀ whole, isTrue e X.env whole = (do let v ← whole; standAt e.pos; holding [v] (truthy v))) : PT X e (tT X.K cl W Γ x) := by
  refine (pt_truth he h).imp fun σ H Q ⟨w, c⟩ => ?_
  have c1 : Cont X.K cl W (fun _ _ _ (b : Bool) a => b = a) w H σ (M.bind (ev Γ x) fun r => M.bind (peekM r) test) Q := c
  refine ⟨w, (c1.bind (RS := RRep X.K cl)).imp fun v1 H1 ⟨w1, r1, le1, rr1, c2⟩ => ?_⟩
  obtain ⟨d, t, c3⟩ := peekM_held c2 rr1
  obtain ⟨k, e, c4⟩ := c3.ofO1
  exact ⟨k, truth_ok t e, Cont.end (a := k) c4 rfl⟩
theorem s_not {a : Expr} {x : E} {pos : Pos} (ha : PE X a (tE X.K cl W Γ x)) (ta : PT X a (tT X.K cl W Γ x)) : PE X (.UnaryOp .Not a pos) (tE X.K cl W Γ (.not x)) ∧ PT X (.UnaryOp .Not a pos) (tT X.K cl W Γ (.not x)) := by
  constructor
  · refine (pe_notT ha).imp fun σ H Q ⟨w, c⟩ => ?_
    have c1 : Cont X.K cl W (RRep X.K cl) w H σ (M.bind (ev Γ x) fun r => M.bind (peekM r) fun x => M.bind (test x) fun k => M.pure (.v (.bl (!k)))) Q := c
    refine ⟨w, (c1.bind (RS := RRep X.K cl)).imp fun v1 H1 ⟨w1, r1, le1, rr1, c2⟩ => ?_⟩
    obtain ⟨d, t, c3⟩ := peekM_held c2 rr1
    obtain ⟨k, e, c4⟩ := c3.ofO
    exact ⟨k, truth_ok t e, Cont.end (a := Rv.v (.bl (!k))) (RR := RRep X.K cl) c4 (Rep.bl _)⟩
  · refine (pt_not ta).imp fun σ H Q ⟨w, c⟩ => ?_
    have c1 : Cont X.K cl W (fun _ _ _ (b : Bool) a => b = a) w H σ (M.bind (tv Γ x) fun k => M.pure (!k)) Q := by
      rw [← tv_not]
      exact c
    refine ⟨w, (c1.bind (RS := fun _ _ _ (b : Bool) a => b = a)).imp fun k H1 ⟨w1, k', le1, e, c2⟩ => ?_⟩
    subst e
    exact Cont.end (a := !k) c2 rfl
theorem s_and {a b : Expr} {r : List Expr} {x y : E} {pos : Pos} (ha : PE X a (tE X.K cl W Γ x)) (hb : PE X (.BoolOp .And (b :: r) pos) (tE X.K cl W Γ y)) : PE X (.BoolOp .And (a :: b :: r) pos) (tE X.K cl W Γ (.and x y)) := by
  refine (pe_andT ha hb).imp fun σ H Q ⟨w, c⟩ => ?_
  have c1 : Cont X.K cl W (RRep X.K cl) w H σ (M.bind (ev Γ x) fun r => M.bind (peekM r) fun x => M.bind (test x) fun k => if k then ev Γ y else M.pure r) Q := c
  refine ⟨w, (c1.bind (RS := RRep X.K cl)).imp fun v1 H1 ⟨w1, r1, le1, rr1, c2⟩ => ?_⟩
  obtain ⟨d, t, c3⟩ := peekM_held c2 rr1
  obtain ⟨k, e, c4⟩ := c3.ofO
  refine ⟨k, truth_ok t e, ?_⟩
  cases k with
  | true => exact ⟨w1, c4⟩
  | false => exact Cont.end (RR := RRep X.K cl) (a := r1) c4 rr1
theorem s_or {a b : Expr} {r : List Expr} {x y : E} {pos : Pos} (ha : PE X a (tE X.K cl W Γ x)) (hb : PE X (.BoolOp .Or (b :: r) pos) (tE X.K cl W Γ y)) : PE X (.BoolOp .Or (a :: b :: r) pos) (tE X.K cl W Γ (.or x y)) := by
  refine (pe_orT ha hb).imp fun σ H Q ⟨w, c⟩ => ?_
  have c1 : Cont X.K cl W (RRep X.K cl) w H σ (M.bind (ev Γ x) fun r => M.bind (peekM r) fun x => M.bind (test x) fun k => if k then M.pure r else ev Γ y) Q := c
  refine ⟨w, (c1.bind (RS := RRep X.K cl)).imp fun v1 H1 ⟨w1, r1, le1, rr1, c2⟩ => ?_⟩
  obtain ⟨d, t, c3⟩ := peekM_held c2 rr1
  obtain ⟨k, e, c4⟩ := c3.ofO
  refine ⟨k, truth_ok t e, ?_⟩
  cases k with
  | false => exact ⟨w1, c4⟩
  | true => exact Cont.end (RR := RRep X.K cl) (a := r1) c4 rr1
theorem t_and {a b : Expr} {r : List Expr} {x y : E} {pos : Pos} (ha : PT X a (tT X.K cl W Γ x)) (hb : PW X (.BoolOp .And (b :: r) pos) (tT X.K cl W Γ y)) : PW X (.BoolOp .And (a :: b :: r) pos) (tT X.K cl W Γ (.and x y)) := by
  refine (pw_and ha hb).imp fun σ H Q ⟨w, c⟩ => ?_
  have c1 : Cont X.K cl W (fun _ _ _ (b : Bool) a => b = a) w H σ (M.bind (tv Γ x) fun k => if k then tv Γ y else M.pure false) Q := by
    rw [← tv_and]
    exact c
  refine ⟨w, (c1.bind (RS := fun _ _ _ (b : Bool) a => b = a)).imp fun k H1 ⟨w1, k', le1, e, c2⟩ => ?_⟩
  subst e
  cases k with
  | true => exact ⟨w1, c2⟩
  | false => exact Cont.end (a := false) c2 rfl
theorem t_or {a b : Expr} {r : List Expr} {x y : E} {pos : Pos} (ha : PT X a (tT X.K cl W Γ x)) (hb : PW X (.BoolOp .Or (b :: r) pos) (tT X.K cl W Γ y)) : PW X (.BoolOp .Or (a :: b :: r) pos) (tT X.K cl W Γ (.or x y)) := by
  refine (pw_or ha hb).imp fun σ H Q ⟨w, c⟩ => ?_
  have c1 : Cont X.K cl W (fun _ _ _ (b : Bool) a => b = a) w H σ (M.bind (tv Γ x) fun k => if k then M.pure true else tv Γ y) Q := by
    rw [← tv_or]
    exact c
  refine ⟨w, (c1.bind (RS := fun _ _ _ (b : Bool) a => b = a)).imp fun k H1 ⟨w1, k', le1, e, c2⟩ => ?_⟩
  subst e
  cases k with
  | false => exact ⟨w1, c2⟩
  | true => exact Cont.end (a := true) c2 rfl
abbrev PB (X : Cx) (W : WX) (cl : Str → Option Addr) (Γ : Gam) (e : Expr) (x : E) : Prop := PE X e (tE X.K cl W Γ x) ∧ PT X e (tT X.K cl W Γ x)
theorem s_bool {f : Expr → Option E} (hf : ∀ e ir, f e = some ir → PB X W cl Γ e ir) {pos : Pos} : ∀ (vs : List Expr) (ir : E), cBool true f vs = some ir → PE X (.BoolOp .And vs pos) (tE X.K cl W Γ ir) ∧ PW X (.BoolOp .And vs pos) (tT X.K cl W Γ ir)
  | [], ir, h => by cases h
  | [a], ir, h => ⟨pe_one (hf a ir h).1, pw_and1 (hf a ir h).2⟩
  | a :: b :: r, ir, h => by
    unfold cBool at h
    split at h
    · rename_i x y h1 h2
      cases h
      obtain ⟨p, t⟩ := s_bool hf (b :: r) y h2
      exact ⟨s_and (hf a x h1).1 p, t_and (hf a x h1).2 t⟩
    · cases h
theorem s_boolO {f : Expr → Option E} (hf : ∀ e ir, f e = some ir → PB X W cl Γ e ir) {pos : Pos} : ∀ (vs : List Expr) (ir : E), cBool false f vs = some ir → PE X (.BoolOp .Or vs pos) (tE X.K cl W Γ ir) ∧ PW X (.BoolOp .Or vs pos) (tT X.K cl W Γ ir)
  | [], ir, h => by cases h
  | [a], ir, h => ⟨pe_one (hf a ir h).1, pw_or1 (hf a ir h).2⟩
  | a :: b :: r, ir, h => by
    unfold cBool at h
    split at h
    · rename_i x y h1 h2
      cases h
      obtain ⟨p, t⟩ := s_boolO hf (b :: r) y h2
      exact ⟨s_or (hf a x h1).1 p, t_or (hf a x h1).2 t⟩
    · cases h
theorem tv_ife {c a b : E} : tv Γ (.ife c a b) = M.bind (tv Γ c) fun k => if k then tv Γ a else tv Γ b := by
  show M.bind (M.bind (ev Γ c) _) _ = M.bind (M.bind (ev Γ c) _) _
  simp only [bind_assoc]
  refine bind_congr fun r => bind_congr fun x => bind_congr fun k => ?_
  cases k <;> rfl
theorem isTrue_ife {c a b : Expr} {pos : Pos} {env : Env} {whole : Sem Value} : isTrue (.IfExp c a b pos) env whole = (isTrue c env (eval c env) >>= fun k => if k then isTrue a env (eval a env) else isTrue b env (eval b env)) := by rfl
theorem s_ife {c a b : Expr} {x y z : E} {pos : Pos} (hc : PT X c (tT X.K cl W Γ x)) (ha : PB X W cl Γ a y) (hb : PB X W cl Γ b z) : PB X W cl Γ (.IfExp c a b pos) (.ife x y z) := by
  constructor
  · refine (pe_ifExp hc ha.1 hb.1).imp fun σ H Q ⟨w, c⟩ => ?_
    have c1 : Cont X.K cl W (RRep X.K cl) w H σ (M.bind (tv Γ x) fun k => if k then ev Γ y else ev Γ z) Q := by
      refine c.at ?_
      show M.bind (ev Γ x) _ w.sm = M.bind (M.bind (ev Γ x) _) _ w.sm
      simp only [bind_assoc]
    refine ⟨w, (c1.bind (RS := fun _ _ _ (b : Bool) a => b = a)).imp fun k H1 ⟨w1, k', le1, e, c2⟩ => ?_⟩
    subst e
    cases k with
    | true => exact ⟨w1, c2⟩
    | false => exact ⟨w1, c2⟩
  · refine ⟨fun pins s σ H Q I ⟨w, c⟩ => ?_⟩
    have c1 : Cont X.K cl W (fun _ _ _ (b : Bool) a => b = a) w H σ (M.bind (tv Γ x) fun k => if k then tv Γ y else tv Γ z) Q := by
      rw [← tv_ife]
      exact c
    rw [isTrue_ife]
    refine wpAny_bind (thn (hc.run pins s σ H _ I ⟨w, c1.bind (RS := fun _ _ _ (b : Bool) a => b = a)⟩) fun k s1 ⟨H1, I1, w1, k', le1, e, c2⟩ => ?_)
    subst e
    cases k with
    | true => exact ha.2.run pins s1 σ H1 Q I1 ⟨w1, c2⟩
    | false => exact hb.2.run pins s1 σ H1 Q I1 ⟨w1, c2⟩

/-! ### displays, subscripts, slices -/
theorem s_lst {es : List Expr} {irs : Es} {pos : Pos} (h : PA X es (Run X.K cl W (RRs X.K cl) (evs Γ irs))) : PE X (.List es pos) (tE X.K cl W Γ (.lst irs)) := by
  refine (pe_lst h).imp fun σ H Q ⟨w, c⟩ => ?_
  have c1 : Cont X.K cl W (RRep X.K cl) w H σ (M.bind (evs Γ irs) fun ds => if decide (ds.length ≤ sizeLine) then M.pure (.n (.lst ds)) else M.bad) Q := c
  refine ⟨w, (c1.bind (RS := RRs X.K cl)).imp fun vs H1 ⟨w1, ds, le1, rs, c2⟩ => ?_⟩
  by_cases hl : ds.length ≤ sizeLine
  · have c3 : Cont X.K cl W (RRep X.K cl) w1 H1 σ (M.pure (.n (.lst ds))) Q := c2.at (by rw [if_pos (decide_eq_true hl)])
    refine ⟨by rw [rs.length]; exact hl, fun p hp => ?_⟩
    obtain ⟨R, r⟩ := c3.rel.newN (ho := .lst vs) (o := .lst ds) hp ⟨vs, rfl, rs⟩
    exact c3.fin w1 _ _ (Le.refl _) rfl R r
  · have c3 : Cont X.K cl W (RRep X.K cl) w1 H1 σ M.bad Q := c2.at (by rw [if_neg (by simpa using hl)])
    exact c3.wp.elim
theorem s_tup {es : List Expr} {irs : Es} {pos : Pos} {n : Nat} (h : PA X es (Run X.K cl W (RRs X.K cl) (evs Γ irs))) : PE X (.Tuple es n pos) (tE X.K cl W Γ (.tup irs)) := by
  refine (pe_tup h).imp fun σ H Q ⟨w, c⟩ => ?_
  have c1 : Cont X.K cl W (RRep X.K cl) w H σ (M.bind (evs Γ irs) fun ds => if decide (ds.length ≤ sizeLine) then M.pure (.v (.tup ds)) else M.bad) Q := c
  refine ⟨w, (c1.bind (RS := RRs X.K cl)).imp fun vs H1 ⟨w1, ds, le1, rs, c2⟩ => ?_⟩
  by_cases hl : ds.length ≤ sizeLine
  · have c3 : Cont X.K cl W (RRep X.K cl) w1 H1 σ (M.pure (.v (.tup ds))) Q := c2.at (by rw [if_pos (decide_eq_true hl)])
    exact ⟨by rw [rs.length]; exact hl, fun p hp => Fin.newT c3.fin c3.rel rs p hp⟩
  · have c3 : Cont X.K cl W (RRep X.K cl) w1 H1 σ M.bad Q := c2.at (by rw [if_neg (by simpa using hl)])
    exact c3.wp.elim
theorem s_idx {a b : Expr} {x y : E} {pos : Pos} (hp : plainE b = true) (ha : PE X a (tE X.K cl W Γ x)) (hb : PE X b (tE X.K cl W Γ y)) : PE X (.Subscript a b pos) (tE X.K cl W Γ (.idx x y)) := by
  obtain ⟨r, hr, hs⟩ := sim_idx (cl := cl) X
  refine (pe_ix hr ha hb (sl_of hp)).imp fun σ H Q ⟨w, c⟩ => ?_
  have c1 : Cont X.K cl W (RRep X.K cl) w H σ (M.bind (ev Γ x) fun ra => M.bind (hold ra) fun ra => M.bind (ev Γ y) fun rb => M.bind (peekM ra) fun x => M.bind (peekM rb) fun y => M.bind (ofO (opIdx x y)) fun d => M.pure (.v d)) Q := c
  refine ⟨w, (c1.bind (RS := RRep X.K cl)).imp fun v1 H1 ⟨w1, r1, le1, rr1, c2⟩ => ?_⟩
  obtain ⟨w2, r2, le2, rr2, hd, c3⟩ := c2.hold rr1
  refine ⟨w2, (c3.bind (RS := RRep X.K cl)).imp fun v2 H2 ⟨w3, r3, le3, rr3, c4⟩ => ?_⟩
  obtain ⟨d1, t1, c5⟩ := peekM_held c4 (rr2.keep le3 hd)
  obtain ⟨d2, t2, c6⟩ := peekM_held c5 rr3
  obtain ⟨res, e, c7⟩ := c6.ofO
  exact hs w3 H2 σ v1 v2 d1 d2 _ Q c7.rel t1 t2 (map_of e) c7.fin
theorem s_opt {f : Expr → Option E} (hf : ∀ e ir, f e = some ir → PE X e (tE X.K cl W Γ ir)) {o : Option Expr} {ir : Eo} (h : cOpt f o = some ir) : PO X o (Run X.K cl W (fun _ _ _ (b : Option Int) a => b = a) (evO Γ ir)) := by
  cases o with
  | none =>
    cases h
    refine ⟨fun pins s σ H Q I ⟨w, c⟩ => po_none.run pins s σ H Q I ?_⟩
    exact Cont.end (a := (none : Option Int)) c rfl
  | some e =>
    obtain ⟨x, h1, rfl⟩ := map_some (show (f e).map Eo.some = some ir from h)
    refine ⟨fun pins s σ H Q I ⟨w, c⟩ => (po_some (hf e x h1)).run pins s σ H Q I ?_⟩
    have c1 : Cont X.K cl W (fun _ _ _ (b : Option Int) a => b = a) w H σ (M.bind (ev Γ x) fun r => M.bind (peekM r) fun d => match d with | .int i => M.pure (some i) | _ => M.bad) Q := c
    refine ⟨w, (c1.bind (RS := RRep X.K cl)).imp fun v1 H1 ⟨w1, r1, le1, rr1, c2⟩ => ?_⟩
    obtain ⟨d, t, c3⟩ := peekM_held c2 rr1
    cases d with
    | int i =>
      rw [rep_int t]
      exact ⟨i, rfl, Cont.end (a := some i) c3 rfl⟩
    | _ => exact c3.wp.elim
theorem s_slc {a : Expr} {lo hi : Option Expr} {x : E} {y z : Eo} {pos p2 : Pos} (ha : PE X a (tE X.K cl W Γ x)) (hl : PO X lo (Run X.K cl W (fun _ _ _ (b : Option Int) a => b = a) (evO Γ y))) (hh : PO X hi (Run X.K cl W (fun _ _ _ (b : Option Int) a => b = a) (evO Γ z))) :
    PE X (.Subscript a (.Slice lo hi none p2) pos) (tE X.K cl W Γ (.slc x y z)) := by
  obtain ⟨r, hr, hs⟩ := sim_slc (cl := cl) X
  refine (pe_slice hr ha hl hh).imp fun σ H Q ⟨w, c⟩ => ?_
  have c1 : Cont X.K cl W (RRep X.K cl) w H σ (M.bind (ev Γ x) fun ra => M.bind (hold ra) fun ra => M.bind (evO Γ y) fun l => M.bind (evO Γ z) fun h => M.bind (peekM ra) fun x => ofO (opSlc x l h)) Q := c
  refine ⟨w, (c1.bind (RS := RRep X.K cl)).imp fun v1 H1 ⟨w1, r1, le1, rr1, c2⟩ => ?_⟩
  obtain ⟨w2, r2, le2, rr2, hd, c3⟩ := c2.hold rr1
  refine ⟨w2, (c3.bind (RS := fun _ _ _ (b : Option Int) a => b = a)).imp fun l H2 ⟨w3, l', le3, el, c4⟩ => ?_⟩
  subst el
  refine ⟨w3, (c4.bind (RS := fun _ _ _ (b : Option Int) a => b = a)).imp fun u H3 ⟨w4, u', le4, eu, c5⟩ => ?_⟩
  subst eu
  obtain ⟨d1, t1, c6⟩ := peekM_held c5 (rr2.keep (le3.trans le4) hd)
  obtain ⟨res, e, c7⟩ := c6.ofO1
  exact hs w4 H3 σ v1 d1 l u res Q c7.rel t1 e c7.fin
end
end IR

set_option Elab.async false
set_option linter.all false
set_option maxRecDepth 100000
/-! IrS: calls of the text's own defs. -/
namespace IR
open PySem L2

/-! ### results without what may change -/
section
variable {K : PySem.W.Frag} {ι ι' : List Addr} {F F' : Hp}
theorem sqT_tup (h : ∀ a xs, Rd F a (.tup xs) → Rd F' a (.tup xs)) {a : Addr} {vs : List V} (q : SqT K F a vs) : SqT K F' a vs := by
  rcases q with q | q
  · exact .inl (h _ _ q)
  · exact .inr q
mutual
theorem flat_rep (h : ∀ a xs, Rd F a (.tup xs) → Rd F' a (.tup xs)) : ∀ {v : V} {d : D}, d.flat = true → Rep K ι F v d → Rep K ι' F' v d
  | _, _, _, .non => .non
  | _, _, _, .bl b => .bl b
  | _, _, _, .int i => .int i
  | _, _, _, .str x => .str x
  | _, .tup ds, f, .tup q r => .tup (sqT_tup h q) (flat_reps h (by unfold D.flat at f; exact f) r)
  | _, .lst ds, f, .lst q r => by unfold D.flat at f; cases f
  | _, .ro ds, f, .ro q r => by unfold D.flat at f; cases f
  | _, .dic ds, f, .dic q r => by unfold D.flat at f; cases f
  | _, .ref c, f, .ref q => by unfold D.flat at f; cases f
theorem flat_reps (h : ∀ a xs, Rd F a (.tup xs) → Rd F' a (.tup xs)) : ∀ {v : List V} {d : List D}, D.flats d = true → Reps K ι F v d → Reps K ι' F' v d
  | _, _, _, .nil => .nil
  | _, d :: ds, f, .cons r s => by
    unfold D.flats at f
    rw [Bool.and_eq_true] at f
    exact .cons (flat_rep h f.1 r) (flat_reps h f.2 s)
end
mutual
theorem free_rep : ∀ {v : V} {d : D}, d.refFree = true → Rep K ι F v d → Rep K ι' F v d
  | _, _, _, .non => .non
  | _, _, _, .bl b => .bl b
  | _, _, _, .int i => .int i
  | _, _, _, .str x => .str x
  | _, .tup ds, f, .tup q r => .tup q (free_reps (by unfold D.refFree at f; exact f) r)
  | _, .lst ds, f, .lst q r => .lst q (free_reps (by unfold D.refFree at f; exact f) r)
  | _, .ro ds, f, .ro q r => .ro q (free_reps (by unfold D.refFree at f; exact f) r)
  | _, .dic ds, f, .dic q r => .dic q (free_repk (by unfold D.refFree at f; exact f) r)
  | _, .ref c, f, .ref q => by unfold D.refFree at f; cases f
theorem free_reps : ∀ {v : List V} {d : List D}, D.refFrees d = true → Reps K ι F v d → Reps K ι' F v d
  | _, _, _, .nil => .nil
  | _, d :: ds, f, .cons r s => by
    unfold D.refFrees at f
    rw [Bool.and_eq_true] at f
    exact .cons (free_rep f.1 r) (free_reps f.2 s)
theorem free_repk : ∀ {v : List (Key × V)} {d : List (Key × D)}, D.refFreeK d = true → RepK K ι F v d → RepK K ι' F v d
  | _, _, _, .nil => .nil
  | _, (k, d) :: ds, f, .cons r s => by
    unfold D.refFreeK at f
    rw [Bool.and_eq_true] at f
    exact .cons (free_rep f.1 r) (free_repk f.2 s)
end
end

section
variable {K : PySem.W.Frag} {cl : Str → Option Addr} {W : WX} {w : Wd} {H : Hp} {σ : St}

theorem sub_of {F G H : Hp} (c : Addr → Prop) (hG : ∀ a, (c a ∧ G a = H a) ∨ (¬ c a ∧ G a = F a)) (s : Same F H) : Same G H := fun a o e => by
  rcases hG a with ⟨_, q⟩ | ⟨_, q⟩
  · rw [← q]; exact e
  · rw [q] at e; exact s a o e
open Classical in
/-- F with what stands in H where c holds -/
noncomputable def mixH (c : Addr → Prop) (F H : Hp) : Hp := fun a => if c a then H a else F a
theorem mix_yes {c : Addr → Prop} {F H : Hp} {a : Addr} (h : c a) : mixH c F H a = H a := if_pos h
theorem mix_no {c : Addr → Prop} {F H : Hp} {a : Addr} (h : ¬ c a) : mixH c F H a = F a := if_neg h
theorem mix_same {c : Addr → Prop} {F H : Hp} (s : Same F H) : Same (mixH c F H) H := fun a o e => by
  by_cases h : c a
  · rw [mix_yes h] at e; exact e
  · rw [mix_no h] at e; exact s a o e

/-- owned by one of these -/
def OwnBy (w : Wd) (σ : St) (P : Ow → Prop) (a : Addr) : Prop := ∃ j o, P j ∧ w.ob j = some o ∧ w.addr σ j = some a
def isS : Ow → Prop
  | .s _ => True
  | .c _ => False

theorem frzs_cont {β α : Type} {RR : Wd → Hp → St → β → α → Prop} {Q : β → Hp → Prop} : ∀ {rs : List Rv} {vs : List V} {f : List D → M α} {w : Wd}, Cont K cl W RR w H σ (M.bind (frzs rs) f) Q → RHs K cl w H σ vs rs →
    ∃ w1 ds, Le w w1 ∧ Reps K w1.ι w1.F vs ds ∧ Cont K cl W RR w1 H σ (f ds) Q
  | [], _, f, w, c, .nil => ⟨w, [], Le.refl w, .nil, c.at rfl⟩
  | r :: rs, v :: vs, f, w, c, .cons h1 hn h2 => by
    have c1 : Cont K cl W RR w H σ (M.bind (frz r) fun d => M.bind (frzs rs) fun ds => f (d :: ds)) Q := by
      refine c.at ?_
      show M.bind (M.bind (frz r) _) f w.sm = _
      rw [bind_assoc]
      refine congrFun (bind_congr fun d => ?_) _
      rw [bind_assoc]
      rfl
    obtain ⟨w1, d, le1, rd, c2⟩ := c1.frz h1
    have up : ∀ {vs : List V} {rs : List Rv}, RHs K cl w H σ vs rs → RHs K cl w1 H σ vs rs := fun {vs rs} h => by
      induction h with
      | nil => exact .nil
      | cons a b _ ih => exact .cons (a.keep le1 b) b ih
    obtain ⟨w2, ds, le2, rs2, c3⟩ := frzs_cont c2 (up h2)
    exact ⟨w2, d :: ds, le1.trans le2, .cons (rd.mono le2.f le2.i) rs2, c3⟩

/-- the callee's world -/
noncomputable def inW (w : Wd) (H : Hp) (σ : St) : Wd := ⟨w.ι, w.F, mixH (OwnBy w σ isS) w.B H, [], w.C⟩
theorem rel_in (R : Rel K cl w H σ) : Rel K cl (inW w H σ) H [] where
  fH := R.fH
  bH := mix_same R.bH
  dis := fun a o e => by
    have e : mixH (OwnBy w σ isS) w.B H a = some o := e
    by_cases h : OwnBy w σ isS a
    · obtain ⟨j, ob, _, h1, h2⟩ := h
      obtain ⟨p, h3, h4⟩ := R.own j ob h1
      rw [h2] at h3
      cases h3
      exact h4.fr
    · rw [mix_no h] at e
      exact R.dis a o e
  len := rfl
  lenC := R.lenC
  val := fun i d e => by
    have e : ([] : List Slot)[i]? = some (.val d) := e
    simp at e
  own := fun j o e => by
    cases j with
    | s i =>
      have e := of_ob_s e
      have e : ([] : List Slot)[i]? = some (.own o) := e
      simp at e
    | c i =>
      obtain ⟨p, h1, h2⟩ := R.own (.c i) o e
      refine ⟨p, h1, h2.fr, ?_, h2.at'⟩
      show mixH (OwnBy w σ isS) w.B H p = none
      rw [mix_no]
      · exact h2.br
      · rintro ⟨j, ob, hj, h3, h4⟩
        have z := R.inj j (.c i) ob o p h3 e h4 h1
        subst z
        exact hj
  inj := fun j j' o o' p h1 h2 h3 h4 => by
    cases j with
    | s i =>
      have e := of_ob_s h1
      have e : ([] : List Slot)[i]? = some (.own o) := e
      simp at e
    | c i =>
      cases j' with
      | s i' =>
        have e := of_ob_s h2
        have e : ([] : List Slot)[i']? = some (.own o') := e
        simp at e
      | c i' => exact R.inj (.c i) (.c i') o o' p h1 h2 h3 h4

theorem rel_out (R : Rel K cl w H σ) {w' : Wd} {H' : Hp} {C' : List (Option Ob)} (le : Le (inW w H σ) w') (es : w'.sm = ⟨[], C'⟩) (R' : Rel K cl w' H' []) :
    Le w ⟨w'.ι, w'.F, w.B, w.ρ, C'⟩ ∧ Rel K cl ⟨w'.ι, w'.F, w.B, w.ρ, C'⟩ H' σ ∧ ∀ v r, RRep K cl w' H' [] v r → RRep K cl ⟨w'.ι, w'.F, w.B, w.ρ, C'⟩ H' σ v r := by
  have hB : w'.B = mixH (OwnBy w σ isS) w.B H := le.b
  have hρ : w'.ρ = [] := congrArg Sm.ρ es
  have hC : w'.C = C' := congrArg Sm.C es
  have fF : Same w.F w'.F := le.f
  have iI : ∀ (c : Nat) a, w.ι[c]? = some a → w'.ι[c]? = some a := le.i
  have bw : ∀ a o, w.B a = some o → w'.B a = some o := fun a o e => by
    rw [hB]
    by_cases h : OwnBy w σ isS a
    · obtain ⟨j, ob, _, h1, h2⟩ := h
      obtain ⟨p, h3, h4⟩ := R.own j ob h1
      rw [h2] at h3
      cases h3
      rw [h4.br] at e
      cases e
    · rw [mix_no h]
      exact e
  have sl : ∀ {i : Nat} {o : Ob} {p : Addr}, w.ob (.s i) = some o → w.addr σ (.s i) = some p → w'.B p = H p := fun {i o p} h1 h2 => by
    rw [hB, mix_yes ⟨.s i, o, True.intro, h1, h2⟩]
  refine ⟨⟨fF, rfl, iI⟩, ⟨R'.fH, fun a o e => R'.bH a o (bw a o e), fun a o e => R'.dis a o (bw a o e), R.len, by rw [← hC]; exact R'.lenC, fun i d e => ?_, fun j o e => ?_, fun j j' o o' p h1 h2 h3 h4 => ?_⟩, fun v r h => ?_⟩
  · obtain ⟨v, h1, h2⟩ := R.val i d e
    exact ⟨v, h1, h2.mono fF iI⟩
  · cases j with
    | s i =>
      obtain ⟨p, h1, ⟨h2, h3, ho, h4, h5⟩⟩ := R.own (.s i) o e
      have q := (sl e h1).trans h4
      exact ⟨p, h1, R'.dis p _ q, h3, ho, R'.bH p _ q, h5.mono fF iI⟩
    | c i =>
      have e' : w'.ob (.c i) = some o := by
        show (w'.C[i]?).join = some o
        rw [hC]
        exact e
      obtain ⟨p, h1, ⟨h2, h3, h4⟩⟩ := R'.own (.c i) o e'
      refine ⟨p, h1, h2, ?_, h4⟩
      cases q : w.B p with
      | none => rfl
      | some x =>
        rw [bw p x q] at h3
        cases h3
  · have toC : ∀ {i : Nat} {o : Ob}, (⟨w'.ι, w'.F, w.B, w.ρ, C'⟩ : Wd).ob (.c i) = some o → w'.ob (.c i) = some o := fun {i o} e => by
      show (w'.C[i]?).join = some o
      rw [hC]
      exact e
    have apart : ∀ {i c : Nat} {o o' : Ob}, w.ob (.s i) = some o → w.addr σ (.s i) = some p → w'.ob (.c c) = some o' → w'.addr ([] : St) (.c c) = some p → False := fun {i c o o'} a1 a2 a3 a4 => by
      obtain ⟨q, b1, ⟨b2, b3, _⟩⟩ := R'.own (.c c) o' a3
      rw [a4] at b1
      cases b1
      obtain ⟨q, b4, ⟨b5, b6, ho, b7, _⟩⟩ := R.own (.s i) o a1
      rw [a2] at b4
      cases b4
      rw [sl a1 a2, b7] at b3
      cases b3
    cases j with
    | s i =>
      cases j' with
      | s i' => exact R.inj (.s i) (.s i') o o' p h1 h2 h3 h4
      | c i' => exact (apart h1 h3 (toC h2) h4).elim
    | c i =>
      cases j' with
      | s i' => exact (apart h2 h4 (toC h1) h3).elim
      | c i' => exact R'.inj (.c i) (.c i') o o' p (toC h1) (toC h2) h3 h4
  · cases r with
    | v d => exact h
    | n o =>
      obtain ⟨p, rfl, ⟨h2, h3, h4⟩, hn⟩ := h
      refine ⟨p, rfl, ⟨h2, ?_, h4⟩, fun j o' e z => ?_⟩
      · show w.B p = none
        cases q : w.B p with
        | none => rfl
        | some x =>
          rw [bw p x q] at h3
          cases h3
      · cases j with
        | s i =>
          obtain ⟨q, b4, ⟨b5, b6, ho, b7, _⟩⟩ := R.own (.s i) o' e
          have z : w.addr σ (.s i) = some p := z
          rw [z] at b4
          cases b4
          rw [sl e z, b7] at h3
          cases h3
        | c i =>
          refine hn (.c i) o' ?_ z
          show (w'.C[i]?).join = some o'
          rw [hC]
          exact e
    | s i =>
      have h : ([] : St)[i]? = some (some v) := h
      simp at h

theorem call_impure {Γ : Gam} {f : Str} {rs : List Rv} {vs : List V} {Q : VK} (hp : Γ.isPure f = false) (c : Cont K cl W (RRep K cl) w H σ (callM Γ f rs) Q) (h : RHs K cl w H σ vs rs) : spD K cl (Γ.call f) vs H Q (WE W σ) := by
  have c1 : Cont K cl W (RRep K cl) w H σ (M.bind (frzs rs) fun ds => fun s => match Γ.call f ds s.C with
    | .bad => .bad
    | .exc x C => .exc x { s with C := C }
    | .ok r C => .ok r { s with C := C }) Q := c.at (by unfold callM; rw [hp]; rfl)
  obtain ⟨w1, ds, le1, rd, c2⟩ := frzs_cont c1 h
  refine ⟨inW w1 H σ, ds, rfl, rel_in c2.rel, rd, ?_⟩
  have hw := c2.wp
  show OcOk K cl (inW w1 H σ) H Q (WE W σ) (Γ.call f ds w1.C)
  have e0 : w1.sm.C = w1.C := rfl
  rw [e0] at hw
  cases e : Γ.call f ds w1.C with
  | bad => rw [e] at hw; exact hw.elim
  | exc x C' =>
    rw [e] at hw
    intro w' H' cc d le es R' xr
    obtain ⟨l, R2, _⟩ := rel_out c2.rel le es R'
    exact hw _ H' cc d l rfl R2 xr
  | ok r C' =>
    rw [e] at hw
    intro w' H' v le es R' rr
    obtain ⟨l, R2, hr⟩ := rel_out c2.rel le es R'
    exact hw _ H' v l rfl R2 (hr v r rr)

/-! ### a pure def: what is its caller's own stands still -/
def lent (is : List Nat) : Ow → Prop
  | .s i => i ∈ is
  | .c _ => False
noncomputable def pureW (w : Wd) (H : Hp) (σ : St) (is : List Nat) : Wd := ⟨w.ι, mixH (OwnBy w σ (lent is)) w.F H, mixH (OwnBy w σ fun j => ¬ lent is j) w.B H, [], mask w.C⟩
theorem own_at (R : Rel K cl w H σ) {P : Ow → Prop} {a : Addr} (h : OwnBy w σ P a) : w.F a = none ∧ w.B a = none := by
  obtain ⟨j, ob, _, h1, h2⟩ := h
  obtain ⟨p, h3, h4⟩ := R.own j ob h1
  rw [h2] at h3
  cases h3
  exact ⟨h4.fr, h4.br⟩
theorem own_only (R : Rel K cl w H σ) {P : Ow → Prop} {a : Addr} (h : OwnBy w σ P a) (h' : OwnBy w σ (fun j => ¬ P j) a) : False := by
  obtain ⟨j, ob, q, h1, h2⟩ := h
  obtain ⟨j', ob', q', h1', h2'⟩ := h'
  have e := R.inj j j' ob ob' a h1 h1' h2 h2'
  subst e
  exact q' q
theorem mask_ob {C : List (Option Ob)} {i : Nat} : ((mask C)[i]?).join = none := by
  unfold mask
  rw [List.getElem?_map]
  cases C[i]? <;> rfl
theorem pure_f (R : Rel K cl w H σ) (is : List Nat) : Same w.F (pureW w H σ is).F := fun a o e => by
  show mixH _ _ _ a = some o
  rw [mix_no]
  · exact e
  · intro h
    rw [(own_at R h).1] at e
    cases e
theorem pure_b (R : Rel K cl w H σ) (is : List Nat) : Same w.B (pureW w H σ is).B := fun a o e => by
  show mixH _ _ _ a = some o
  rw [mix_no]
  · exact e
  · intro h
    rw [(own_at R h).2] at e
    cases e
theorem rel_pure (R : Rel K cl w H σ) (is : List Nat) : Rel K cl (pureW w H σ is) H [] where
  fH := mix_same R.fH
  bH := mix_same R.bH
  dis := fun a o e => by
    have e : mixH (OwnBy w σ fun j => ¬ lent is j) w.B H a = some o := e
    show mixH (OwnBy w σ (lent is)) w.F H a = none
    by_cases h : OwnBy w σ (fun j => ¬ lent is j) a
    · rw [mix_no fun z => own_only R z h]
      exact (own_at R h).1
    · rw [mix_no h] at e
      rw [mix_no]
      · exact R.dis a o e
      · intro z
        rw [(own_at R z).2] at e
        cases e
  len := rfl
  lenC := by
    show w.ι.length = (mask w.C).length
    unfold mask
    rw [List.length_map]
    exact R.lenC
  val := fun i d e => by
    have e : ([] : List Slot)[i]? = some (.val d) := e
    simp at e
  own := fun j o e => by
    cases j with
    | s i =>
      have e := of_ob_s e
      have e : ([] : List Slot)[i]? = some (.own o) := e
      simp at e
    | c i =>
      have e : ((mask w.C)[i]?).join = some o := e
      rw [mask_ob] at e
      cases e
  inj := fun j j' o o' p h1 h2 h3 h4 => by
    cases j with
    | s i =>
      have e := of_ob_s h1
      have e : ([] : List Slot)[i]? = some (.own o) := e
      simp at e
    | c i =>
      have e : ((mask w.C)[i]?).join = some o := h1
      rw [mask_ob] at e
      cases e

theorem argDs_rep (R : Rel K cl w H σ) (is : List Nat) : ∀ {rs : List Rv} {vs : List V} {ds : List D}, (∀ i ∈ slots rs, i ∈ is) → RHs K cl w H σ vs rs → argDs w.ρ rs = some ds → Reps K (pureW w H σ is).ι (pureW w H σ is).F vs ds
  | [], _, _, _, .nil, e => by cases e; exact .nil
  | r :: rs, v :: vs, ds, hs, .cons h1 hn h2, e => by
    unfold argDs at e
    cases q : argD w.ρ r with
    | none => rw [q] at e; cases e
    | some d =>
      cases qs : argDs w.ρ rs with
      | none => rw [q, qs] at e; cases e
      | some ds =>
        rw [q, qs] at e
        cases e
        have hs2 : ∀ i ∈ slots rs, i ∈ is := fun i hi => hs i (by cases r <;> first | exact hi | exact List.mem_cons_of_mem _ hi)
        refine .cons ?_ (argDs_rep R is hs2 h2 qs)
        cases r with
        | v d' =>
          cases q
          exact Rep.mono (pure_f R is) (fun _ _ h => h) h1
        | n o => cases q
        | s i =>
          have h1 : σ[i]? = some (some v) := h1
          unfold argD at q
          dsimp only at q
          cases e : w.ρ[i]? with
          | none => rw [e] at q; cases q
          | some sl =>
            rw [e] at q
            cases sl with
            | no => cases q
            | val d' =>
              cases q
              obtain ⟨v', h3, h4⟩ := R.val i d e
              rw [h1] at h3
              cases h3
              exact h4.mono (pure_f R is) fun _ _ h => h
            | own o =>
              obtain ⟨p, h3, ⟨h4, h5, ho, h6, h7⟩⟩ := R.own _ _ (ob_s e)
              have h3' := of_addr_s h3
              rw [h1] at h3'
              cases h3'
              refine Ob.toD_ho q (h7.mono (pure_f R is) fun _ _ h => h) ?_
              show mixH _ _ _ p = some ho
              rw [mix_yes ⟨.s i, o, hs i List.mem_cons_self, ob_s e, h3⟩]
              exact h6

/-- the frozen part without what is the caller's -/
noncomputable def mineF (w : Wd) (σ : St) (F : Hp) : Hp := mixH (OwnBy w σ fun _ => True) F fun _ => none
theorem mine_same {F H' : Hp} (s : Same F H') : Same (mineF w σ F) H' := fun a o e => by
  by_cases h : OwnBy w σ (fun _ => True) a
  · have e : mixH (OwnBy w σ fun _ => True) F (fun _ => none) a = some o := e
    rw [mix_yes h] at e
    cases e
  · have e : mixH (OwnBy w σ fun _ => True) F (fun _ => none) a = some o := e
    rw [mix_no h] at e
    exact s a o e
theorem after_h (R : Rel K cl w H σ) {is : List Nat} {w' : Wd} {H' : Hp} (le : Le (pureW w H σ is) w') (R' : Rel K cl w' H' []) {j : Ow} {o : Ob} {p : Addr} {ho : HO} (e : w.ob j = some o) (ea : w.addr σ j = some p) (eh : H p = some ho) : H' p = some ho := by
  by_cases l : lent is j
  · refine R'.fH p ho (le.f p ho ?_)
    show mixH _ _ _ p = some ho
    rw [mix_yes ⟨j, o, l, e, ea⟩]
    exact eh
  · refine R'.bH p ho ?_
    rw [le.b]
    show mixH _ _ _ p = some ho
    rw [mix_yes ⟨j, o, l, e, ea⟩]
    exact eh
/-- behind a pure call, its result not kept with what was lent -/
theorem rel_mine (R : Rel K cl w H σ) {is : List Nat} {w' : Wd} {H' : Hp} (le : Le (pureW w H σ is) w') (R' : Rel K cl w' H' []) :
    Le w ⟨w.ι, mineF w σ w'.F, w.B, w.ρ, w.C⟩ ∧ Rel K cl ⟨w.ι, mineF w σ w'.F, w.B, w.ρ, w.C⟩ H' σ := by
  have fF : Same w.F (mineF w σ w'.F) := fun a o e => by
    show mixH _ _ _ a = some o
    rw [mix_no]
    · exact le.f a o (pure_f R is a o e)
    · intro h
      rw [(own_at R h).1] at e
      cases e
  have hB : ∀ a o, w.B a = some o → w'.B a = some o := fun a o e => by
    rw [le.b]
    exact pure_b R is a o e
  refine ⟨⟨fF, rfl, fun _ _ h => h⟩, ⟨mine_same R'.fH, fun a o e => R'.bH a o (hB a o e), fun a o e => ?_, R.len, R.lenC, fun i d e => ?_, fun j o e => ?_, R.inj⟩⟩
  · show mixH (OwnBy w σ fun _ => True) w'.F (fun _ => none) a = none
    by_cases h : OwnBy w σ (fun _ => True) a
    · rw [mix_yes h]
    · rw [mix_no h]
      exact R'.dis a o (hB a o e)
  · obtain ⟨v, h1, h2⟩ := R.val i d e
    exact ⟨v, h1, h2.mono fF fun _ _ h => h⟩
  · obtain ⟨p, h1, ⟨h2, h3, ho, h4, h5⟩⟩ := R.own j o e
    refine ⟨p, h1, ?_, h3, ho, after_h R le R' e h1 h4, h5.mono fF fun _ _ h => h⟩
    show mixH (OwnBy w σ fun _ => True) w'.F (fun _ => none) p = none
    rw [mix_yes ⟨j, o, True.intro, e, h1⟩]
theorem mine_tup (R : Rel K cl w H σ) {is : List Nat} {w' : Wd} {H' : Hp} (le : Le (pureW w H σ is) w') (R' : Rel K cl w' H' []) : ∀ a xs, Rd w'.F a (.tup xs) → Rd (mineF w σ w'.F) a (.tup xs) := fun a xs h => by
  have no : ∀ u, w'.F a = some u → (∀ l, u ≠ .lst l) → (∀ l, u ≠ .dK l) → (∀ C d f, u ≠ .ins C d f) → mineF w σ w'.F a = some u := fun u e n1 n2 n3 => by
    show mixH _ _ _ a = some u
    rw [mix_no]
    · exact e
    · rintro ⟨j, o, _, h1, h2⟩
      obtain ⟨p, h3, ⟨_, _, ho, h4, h5⟩⟩ := R.own j o h1
      rw [h2] at h3
      cases h3
      have q := after_h R le R' h1 h2 h4
      have q2 := R'.fH a u e
      rw [q] at q2
      cases q2
      cases o with
      | lst ds => obtain ⟨vs, rfl, _⟩ := h5; exact n1 _ rfl
      | dic ds => obtain ⟨vs, rfl, _⟩ := h5; exact n2 _ rfl
      | ins c fs => obtain ⟨C, dx, vs, _, rfl, _⟩ := h5; exact n3 _ _ _ rfl
  rcases h with h | ⟨o, h⟩
  · exact .inl (no _ h (fun _ z => by cases z) (fun _ z => by cases z) fun _ _ _ z => by cases z)
  · exact .inr ⟨o, no _ h (fun _ z => by cases z) (fun _ z => by cases z) fun _ _ _ z => by cases z⟩
theorem new_apart (R : Rel K cl w H σ) {is : List Nat} {w' : Wd} {H' : Hp} {p : Addr} (le : Le (pureW w H σ is) w') (hF : w'.F p = none) (hB : w'.B p = none) : ∀ j o, w.ob j = some o → w.addr σ j ≠ some p := fun j o e z => by
  obtain ⟨q, h3, ⟨_, _, ho, h4, h5⟩⟩ := R.own j o e
  rw [z] at h3
  cases h3
  by_cases l : lent is j
  · have : w'.F p = some ho := le.f p ho (by
      show mixH _ _ _ p = some ho
      rw [mix_yes ⟨j, o, l, e, z⟩]
      exact h4)
    rw [this] at hF
    cases hF
  · have : w'.B p = some ho := by
      rw [le.b]
      show mixH _ _ _ p = some ho
      rw [mix_yes ⟨j, o, l, e, z⟩]
      exact h4
    rw [this] at hB
    cases hB
theorem not_b (R : Rel K cl w H σ) {is : List Nat} {w' : Wd} {p : Addr} (le : Le (pureW w H σ is) w') (hB : w'.B p = none) : w.B p = none := by
  cases q : w.B p with
  | none => rfl
  | some x =>
    have := pure_b R is p x q
    rw [← le.b, hB] at this
    cases this

theorem freeze_get : ∀ {is : List Nat} {ρ ρ' : List Slot}, freezeAll is ρ = some ρ' → ρ'.length = ρ.length ∧ ∀ (i : Nat) x, ρ'[i]? = some x → (ρ[i]? = some x ∧ (∀ o, x = .own o → i ∉ is)) ∨ (i ∈ is ∧ ∃ o d, ρ[i]? = some (.own o) ∧ o.toD = some d ∧ x = .val d)
  | [], ρ, ρ', e => by
    cases e
    exact ⟨rfl, fun i x h => .inl ⟨h, fun _ _ => by simp⟩⟩
  | k :: is, ρ, ρ', e => by
    unfold freezeAll at e
    have skip : ∀ (_ : freezeAll is ρ = some ρ') (_ : ∀ o, ρ[k]? ≠ some (.own o)), ρ'.length = ρ.length ∧ ∀ (i : Nat) x, ρ'[i]? = some x → (ρ[i]? = some x ∧ (∀ o, x = .own o → i ∉ k :: is)) ∨ (i ∈ k :: is ∧ ∃ o d, ρ[i]? = some (.own o) ∧ o.toD = some d ∧ x = .val d) := fun e hk => by
      obtain ⟨l, h⟩ := freeze_get e
      refine ⟨l, fun i x hx => ?_⟩
      rcases h i x hx with ⟨h1, h2⟩ | ⟨h1, h2⟩
      · refine .inl ⟨h1, fun o eo hm => ?_⟩
        rcases List.mem_cons.mp hm with rfl | hm
        · rw [eo] at h1
          exact hk o h1
        · exact h2 o eo hm
      · exact .inr ⟨List.mem_cons_of_mem _ h1, h2⟩
    cases q : ρ[k]? with
    | none => rw [q] at e; exact skip e fun o z => by rw [q] at z; cases z
    | some sl =>
      rw [q] at e
      cases sl with
      | no => exact skip e fun o z => by rw [q] at z; cases z
      | val d => exact skip e fun o z => by rw [q] at z; cases z
      | own o =>
        dsimp only at e
        cases ed : o.toD with
        | none => rw [ed] at e; cases e
        | some d =>
          rw [ed] at e
          obtain ⟨l, h⟩ := freeze_get e
          have hk : k < ρ.length := (List.getElem?_eq_some_iff.mp q).1
          refine ⟨by rw [l, List.length_set], fun i x hx => ?_⟩
          rcases h i x hx with ⟨h1, h2⟩ | ⟨h1, o', d', h2, h3, h4⟩
          · by_cases ik : k = i
            · subst ik
              rw [List.getElem?_set_self hk] at h1
              cases h1
              exact .inr ⟨List.mem_cons_self, o, d, q, ed, rfl⟩
            · rw [List.getElem?_set_ne ik] at h1
              exact .inl ⟨h1, fun o' eo hm => by
                rcases List.mem_cons.mp hm with rfl | hm
                · exact ik rfl
                · exact h2 o' eo hm⟩
          · by_cases ik : k = i
            · subst ik
              rw [List.getElem?_set_self hk] at h2
              cases h2
            · rw [List.getElem?_set_ne ik] at h2
              exact .inr ⟨List.mem_cons_of_mem _ h1, o', d', h2, h3, h4⟩

theorem rel_frozen (R : Rel K cl w H σ) {is : List Nat} {w' : Wd} {H' : Hp} {ρ' : List Slot} (le : Le (pureW w H σ is) w') (R' : Rel K cl w' H' []) (hf : freezeAll is w.ρ = some ρ') :
    Le w ⟨w.ι, w'.F, w.B, ρ', w.C⟩ ∧ Rel K cl ⟨w.ι, w'.F, w.B, ρ', w.C⟩ H' σ := by
  obtain ⟨hl, hg⟩ := freeze_get hf
  have fF : Same w.F w'.F := (pure_f R is).trans le.f
  have hB : ∀ a o, w.B a = some o → w'.B a = some o := fun a o e => by
    rw [le.b]
    exact pure_b R is a o e
  have obS : ∀ j o, (⟨w.ι, w'.F, w.B, ρ', w.C⟩ : Wd).ob j = some o → w.ob j = some o ∧ ¬ lent is j := fun j o e => by
    cases j with
    | s i =>
      have e := of_ob_s e
      have e : ρ'[i]? = some (.own o) := e
      rcases hg i _ e with ⟨h1, h2⟩ | ⟨_, _, _, _, _, h⟩
      · exact ⟨ob_s h1, h2 o rfl⟩
      · cases h
    | c i => exact ⟨e, fun z => z⟩
  refine ⟨⟨fF, rfl, fun _ _ h => h⟩, ⟨R'.fH, fun a o e => R'.bH a o (hB a o e), fun a o e => R'.dis a o (hB a o e), by rw [R.len]; exact hl.symm, R.lenC, fun i d e => ?_, fun j o e => ?_, fun j j' o o' p h1 h2 h3 h4 => R.inj j j' o o' p (obS j o h1).1 (obS j' o' h2).1 h3 h4⟩⟩
  · have e : ρ'[i]? = some (.val d) := e
    rcases hg i _ e with ⟨h1, _⟩ | ⟨h1, o, d', h2, h3, h4⟩
    · obtain ⟨v, h1, h2⟩ := R.val i d h1
      exact ⟨v, h1, h2.mono fF fun _ _ h => h⟩
    · cases h4
      obtain ⟨p, h5, ⟨h6, h7, ho, h8, h9⟩⟩ := R.own _ _ (ob_s h2)
      refine ⟨_, of_addr_s h5, Ob.toD_ho h3 (h9.mono fF fun _ _ h => h) (le.f p ho ?_)⟩
      show mixH _ _ _ p = some ho
      rw [mix_yes ⟨.s i, o, h1, ob_s h2, h5⟩]
      exact h8
  · obtain ⟨e, nl⟩ := obS j o e
    obtain ⟨p, h1, ⟨h2, h3, ho, h4, h5⟩⟩ := R.own j o e
    have hb : w'.B p = some ho := by
      rw [le.b]
      show mixH _ _ _ p = some ho
      rw [mix_yes ⟨j, o, nl, e, h1⟩]
      exact h4
    exact ⟨p, h1, R'.dis p ho hb, h3, ho, R'.bH p ho hb, h5.mono fF fun _ _ h => h⟩

theorem call_pure {Γ : Gam} {f : Str} {rs : List Rv} {vs : List V} {Q : VK} (hp : Γ.isPure f = true) (c : Cont K cl W (RRep K cl) w H σ (callM Γ f rs) Q) (h : RHs K cl w H σ vs rs) : spD K cl (Γ.call f) vs H Q (WE W σ) := by
  have hw := c.wp
  unfold callM at hw
  rw [if_pos hp] at hw
  cases ea : argDs w.ρ rs with
  | none =>
    have ea' : argDs w.sm.ρ rs = none := ea
    rw [ea'] at hw
    exact hw.elim
  | some ds =>
    have ea' : argDs w.sm.ρ rs = some ds := ea
    rw [ea'] at hw
    dsimp only at hw
    have R := c.rel
    refine ⟨pureW w H σ (slots rs), ds, rfl, rel_pure R _, argDs_rep R (slots rs) (fun _ h => h) h ea, ?_⟩
    show OcOk K cl (pureW w H σ (slots rs)) H Q (WE W σ) (Γ.call f ds (mask w.C))
    have e0 : w.sm.C = w.C := rfl
    rw [e0] at hw
    cases e : Γ.call f ds (mask w.C) with
    | bad => rw [e] at hw; exact hw.elim
    | exc x C' =>
      rw [e] at hw
      dsimp only at hw
      by_cases hx : x.flat = true
      · rw [if_pos hx] at hw
        intro w' H' cc d le es R' xr
        obtain ⟨l, R2⟩ := rel_mine R le R'
        refine hw _ H' cc d l rfl R2 ?_
        obtain ⟨CC, h1, h2, h3⟩ := xr
        refine ⟨CC, h1, h2, ?_⟩
        rcases h3 with h3 | ⟨dd, fvs, h3, h4, h5⟩
        · exact .inl h3
        · refine .inr ⟨dd, fvs, h3, h4, ?_⟩
          unfold Exn.flat at hx
          have hx : ∀ p ∈ x.fs, p.2.flat = true := by simpa using hx
          have go : ∀ {fvs : List (Str × V)} {fs : List (Str × D)}, RepF K w'.ι w'.F fvs fs → (∀ p ∈ fs, p.2.flat = true) → RepF K w.ι (mineF w σ w'.F) fvs fs := fun {fvs fs} r => by
            induction r with
            | nil => intro _; exact .nil
            | cons r1 _ ih => intro hh; exact .cons (flat_rep (mine_tup R le R') (hh _ List.mem_cons_self) r1) (ih fun p hp => hh p (List.mem_cons_of_mem _ hp))
          exact go h5 hx
      · rw [if_neg hx] at hw
        exact hw.elim
    | ok r C' =>
      rw [e] at hw
      dsimp only at hw
      by_cases hr : r.flat = true
      · rw [if_pos hr] at hw
        intro w' H' v le es R' rr
        obtain ⟨l, R2⟩ := rel_mine R le R'
        refine hw _ H' v l rfl R2 ?_
        cases r with
        | v d => exact flat_rep (mine_tup R le R') hr rr
        | n o =>
          obtain ⟨p, rfl, ⟨h2, h3, ho, h4, h5⟩, hn⟩ := rr
          refine ⟨p, rfl, ⟨?_, not_b R le h3, ho, h4, ?_⟩, new_apart R (H' := H') le h2 h3⟩
          · show mixH (OwnBy w σ fun _ => True) w'.F (fun _ => none) p = none
            by_cases hh : OwnBy w σ (fun _ => True) p
            · rw [mix_yes hh]
            · rw [mix_no hh]; exact h2
          · cases o with
            | lst ds =>
              obtain ⟨vs, rfl, h5⟩ := h5
              exact ⟨vs, rfl, flat_reps (mine_tup R le R') hr h5⟩
            | dic ds => cases hr
            | ins c fs => cases hr
        | s i => cases hr
      · rw [if_neg hr] at hw
        by_cases hr2 : r.refFree = true
        · rw [if_pos hr2] at hw
          cases ef : freezeAll (slots rs) w.ρ with
          | none =>
            have ef' : freezeAll (slots rs) w.sm.ρ = none := ef
            rw [ef'] at hw
            exact hw.elim
          | some ρ' =>
            have ef' : freezeAll (slots rs) w.sm.ρ = some ρ' := ef
            rw [ef'] at hw
            intro w' H' v le es R' rr
            obtain ⟨l, R2⟩ := rel_frozen R le R' ef
            refine hw _ H' v l rfl R2 ?_
            cases r with
            | v d => exact free_rep hr2 rr
            | n o =>
              obtain ⟨p, rfl, ⟨h2, h3, ho, h4, h5⟩, hn⟩ := rr
              have ap := new_apart R (H' := H') le h2 h3
              refine ⟨p, rfl, ⟨h2, not_b R le h3, ho, h4, ?_⟩, fun j o' e => ?_⟩
              · cases o with
                | lst ds =>
                  obtain ⟨vs, rfl, h5⟩ := h5
                  exact ⟨vs, rfl, free_reps hr2 h5⟩
                | dic ds =>
                  obtain ⟨vs, rfl, h5⟩ := h5
                  exact ⟨vs, rfl, free_repk hr2 h5⟩
                | ins c fs => cases hr2
              · refine ap j o' ?_
                cases j with
                | s i =>
                  have e := of_ob_s e
                  have e : ρ'[i]? = some (.own o') := e
                  rcases (freeze_get ef).2 i _ e with ⟨h1, _⟩ | ⟨_, _, _, _, _, h⟩
                  · exact ob_s h1
                  · cases h
                | c i => exact e
            | s i => cases hr2
        · rw [if_neg hr2] at hw
          exact hw.elim
end
end IR

set_option Elab.async false
set_option linter.all false
set_option maxRecDepth 100000
/-! IrT: what is walked; targets; comprehensions. -/
namespace IR
open PySem L2

theorem PI_or {X : Cx} {tg it : Expr} {w1 w2 : TI} (h1 : PI X tg it w1) (h2 : PI X tg it w2) : PI X tg it (fun σ H R => w1 σ H R ∨ w2 σ H R) :=
  ⟨fun pins s σ H R I h => h.elim (h1.run pins s σ H R I) (h2.run pins s σ H R I)⟩
theorem _root_.L2.PI.imp {X : Cx} {tg it : Expr} {t t' : TI} (h : PI X tg it t) (i : ∀ σ H Q, t' σ H Q → t σ H Q) : PI X tg it t' := ⟨fun pins s σ H Q I q => h.run pins s σ H Q I (i _ _ _ q)⟩
theorem _root_.L2.PG.imp {X : Cx} {tg : Expr} {t t' : TG} (h : PG X tg t) (i : ∀ v σ H Q, t' v σ H Q → t v σ H Q) : PG X tg t' := ⟨fun pins s σ H v u Q I r q => h.run pins s σ H v u Q I r (i _ _ _ _ q)⟩
theorem _root_.L2.PGs.imp {X : Cx} {tg : List Expr} {t t' : TGs} (h : PGs X tg t) (i : ∀ v σ H Q, t' v σ H Q → t v σ H Q) : PGs X tg t' := ⟨fun pins s σ H v u Q I r q => h.run pins s σ H v u Q I r (i _ _ _ _ q)⟩
theorem _root_.L2.PTs.imp {X : Cx} {tg : List Expr} {t t' : TT} (h : PTs X tg t) (i : ∀ σ H Q, t' σ H Q → t σ H Q) : PTs X tg t' := ⟨fun pins s σ H Q I q => h.run pins s σ H Q I (i _ _ _ q)⟩

/-- the iterator J yields the items ds -/
structure Walks (K : PySem.W.Frag) (cl : Str → Option Addr) (J : It) (w : Wd) (ds : List D) : Prop where
  go : ∀ (i : Nat) H2, i < ds.length → Same w.F H2 → Same w.B H2 → J.go i H2
  yld : ∀ (i : Nat) d w2 H2 σ2 x H', ds[i]? = some d → Same w.F w2.F → Same w.B H2 → (∀ (c : Nat) a, w.ι[c]? = some a → w2.ι[c]? = some a) → Rel K cl w2 H2 σ2 → J.yld i H2 x H' → ∃ w3, Le w2 w3 ∧ w3.sm = w2.sm ∧ Rel K cl w3 H' σ2 ∧ Rep K w3.ι w3.F x d
  stop : ∀ H2, Same w.F H2 → Same w.B H2 → J.stop ds.length H2

section
variable {X : Cx} {nm : Nm} {W : WX} {cl : Str → Option Addr} {Γ : Gam} {k : Nat} {w : Wd}
theorem walks_list {a : Addr} {vs : List V} {ds : List D} (h : SqL X.K w.F a vs) (r : Reps X.K w.ι w.F vs ds) : Walks X.K cl (Itl X.K a) w ds where
  go := fun i H2 hi s _ => ⟨vs, vs[i]'(by rw [r.length]; exact hi), same_seq s h, by rw [List.getElem?_eq_getElem]⟩
  yld := fun i d w2 H2 σ2 x H' hd lf _ li R y => by
    obtain ⟨rfl, y⟩ := y
    obtain ⟨v, h1, h2⟩ := r.get hd
    have e := y vs (same_seq (lf.trans R.fH) h)
    rw [h1] at e
    cases e
    exact ⟨w2, Le.refl _, rfl, R, h2.mono lf li⟩
  stop := fun H2 s _ => ⟨vs, same_seq s h, by rw [r.length]; exact Nat.le_refl _⟩
/-- over a list that is guarded -/
theorem walks_kept {a : Addr} {vs : List V} {ds : List D} (h : w.B a = some (.lst vs)) (r : Reps X.K w.ι w.F vs ds) : Walks X.K cl (Itl X.K a) w ds where
  go := fun i H2 hi _ s => ⟨vs, vs[i]'(by rw [r.length]; exact hi), .inl (.inl (s _ _ h)), by rw [List.getElem?_eq_getElem]⟩
  yld := fun i d w2 H2 σ2 x H' hd lf sb li R y => by
    obtain ⟨rfl, y⟩ := y
    obtain ⟨v, h1, h2⟩ := r.get hd
    have e := y vs (.inl (.inl (sb _ _ h)))
    rw [h1] at e
    cases e
    exact ⟨w2, Le.refl _, rfl, R, h2.mono lf li⟩
  stop := fun H2 _ s => ⟨vs, .inl (.inl (s _ _ h)), by rw [r.length]; exact Nat.le_refl _⟩
theorem walks_tup {a : Addr} {vs : List V} {ds : List D} (h : SqT X.K w.F a vs) (r : Reps X.K w.ι w.F vs ds) : Walks X.K cl (Itt X.K a) w ds where
  go := fun i H2 hi s _ => ⟨vs, vs[i]'(by rw [r.length]; exact hi), same_tup s h, by rw [List.getElem?_eq_getElem]⟩
  yld := fun i d w2 H2 σ2 x H' hd lf _ li R y => by
    obtain ⟨rfl, y⟩ := y
    obtain ⟨v, h1, h2⟩ := r.get hd
    have e := y vs (same_tup (lf.trans R.fH) h)
    rw [h1] at e
    cases e
    exact ⟨w2, Le.refl _, rfl, R, h2.mono lf li⟩
  stop := fun H2 s _ => ⟨vs, same_tup s h, by rw [r.length]; exact Nat.le_refl _⟩
theorem walks_str {z : Str} : Walks X.K cl (Its z) w (z.cps.toList.map fun c => .str ⟨#[c]⟩) where
  go := fun i H2 hi s _ => by
    rw [List.length_map, Array.length_toList] at hi
    exact hi
  yld := fun i d w2 H2 σ2 x H' hd lf _ li R y => by
    obtain ⟨rfl, c, hc, rfl⟩ := y
    rw [List.getElem?_map, Array.getElem?_toList, hc] at hd
    cases hd
    exact ⟨w2, Le.refl _, rfl, R, .str _⟩
  stop := fun H2 s _ => by
    show z.cps.size ≤ _
    rw [List.length_map, Array.length_toList]
    exact Nat.le_refl _
theorem walks_range {lo : Int} {n : Nat} : Walks X.K cl (Itr lo n) w (rangeL lo n) where
  go := fun i H2 hi s _ => by
    unfold rangeL at hi
    rw [List.length_map, List.length_range] at hi
    exact hi
  yld := fun i d w2 H2 σ2 x H' hd lf _ li R y => by
    obtain ⟨rfl, rfl⟩ := y
    unfold rangeL at hd
    rw [List.getElem?_map] at hd
    cases q : (List.range n)[i]? with
    | none => rw [q] at hd; cases hd
    | some j =>
      rw [q] at hd
      have e : j = i := by
        obtain ⟨h1, h2⟩ := List.getElem?_eq_some_iff.mp q
        rw [List.getElem_range] at h2
        exact h2.symm
      subst e
      cases hd
      exact ⟨w2, Le.refl _, rfl, R, .int _⟩
  stop := fun H2 s _ => by
    show n ≤ _
    unfold rangeL
    rw [List.length_map, List.length_range]
    exact Nat.le_refl _
theorem enumD_get : ∀ (ds : List D) (i0 i : Nat), (enumD i0 ds)[i]? = (ds[i]?).map fun d => .tup [.int (i0 + i : Nat), d]
  | [], i0, i => by simp [enumD]
  | d :: ds, i0, 0 => by simp [enumD]
  | d :: ds, i0, i + 1 => by
    have h := enumD_get ds (i0 + 1) i
    unfold enumD
    rw [List.getElem?_cons_succ, List.getElem?_cons_succ, h, show i0 + 1 + i = i0 + (i + 1) by omega]
theorem enumD_len : ∀ (ds : List D) (i0 : Nat), (enumD i0 ds).length = ds.length
  | [], i0 => rfl
  | d :: ds, i0 => by
    unfold enumD
    rw [List.length_cons, List.length_cons, enumD_len ds]
theorem walks_enum {a : Addr} {vs : List V} {ds : List D} (h : SqL X.K w.F a vs) (r : Reps X.K w.ι w.F vs ds) : Walks X.K cl (Ite X.K a) w (enumD 0 ds) where
  go := fun i H2 hi s _ => by
    rw [enumD_len] at hi
    exact ⟨vs, vs[i]'(by rw [r.length]; exact hi), same_seq s h, by rw [List.getElem?_eq_getElem]⟩
  yld := fun i d w2 H2 σ2 x H' hd lf _ li R y => by
    obtain ⟨T, y1, rfl, hT, rfl, y⟩ := y
    rw [enumD_get] at hd
    cases q : ds[i]? with
    | none => rw [q] at hd; cases hd
    | some e =>
      rw [q] at hd
      cases hd
      obtain ⟨v, h1, h2⟩ := r.get q
      have e := y vs (same_seq (lf.trans R.fH) h)
      rw [h1] at e
      cases e
      have hF := (R.free hT).1
      refine ⟨w2.frz T _, le_frz hF, rfl, R.newF hT, .tup (.inl (.inl upd_same)) ?_⟩
      rw [Nat.zero_add]
      exact .cons (.int _) (.cons (h2.mono (lf.trans (same_upd hF)) li) .nil)
  stop := fun H2 s _ => by
    rw [enumD_len]
    exact ⟨vs, same_seq s h, by rw [r.length]; exact Nat.le_refl _⟩

/-- the reading of what is walked -/
def tI (K : PySem.W.Frag) (cl : Str → Option Addr) (W : WX) (Γ : Gam) (it : It') : TI := Run K cl W (fun w _ _ (J : It) ds => Walks K cl J w ds) (evI Γ it)

theorem s_seq {e : Expr} {tg : Expr} {x : E} (he : PE X e (tE X.K cl W Γ x)) : PI X tg e (tI X.K cl W Γ (.seq x)) := by
  refine (PI_or (pi_list he) (PI_or (pi_tup he) (pi_str he))).imp fun σ H R ⟨w, c⟩ => ?_
  have c1 : Cont X.K cl W (fun w _ _ (J : It) ds => Walks X.K cl J w ds) w H σ (M.bind (ev Γ x) fun r => M.bind (frz r) fun d => ofO (items d)) R := c
  -- which it is
  have hw := c1.wp
  rw [wpO_bind] at hw
  cases e1 : ev Γ x w.sm with
  | bad => rw [e1] at hw; exact hw.elim
  | exc ex s =>
    rw [e1] at hw
    refine .inl ⟨w, c1.rel, ?_⟩
    rw [e1]
    exact hw
  | ok r s =>
    rw [e1] at hw
    have hw : wpO (M.bind (frz r) (fun d => ofO (items d)) s) _ _ := hw
    rw [wpO_bind] at hw
    cases e2 : frz r s with
    | bad => rw [e2] at hw; exact hw.elim
    | exc ex s' => exfalso; cases r with
      | v d => cases e2
      | n o => unfold frz ofO at e2; cases o <;> cases e2
      | s i =>
        unfold frz at e2
        dsimp only at e2
        split at e2
        · split at e2 <;> cases e2
        · cases e2
        · cases e2
    | ok d s' =>
      rw [e2] at hw
      have hw : wpO (ofO (items d) s') _ _ := hw
      have go : ∀ {wi : V → Hp → Prop}, (∀ v w1 H1, Le w w1 → w1.sm = s' → Rel X.K cl w1 H1 σ → Rep X.K w1.ι w1.F v d → wi v H1) → tE X.K cl W Γ x σ H wi := fun {wi} hi => by
        refine ⟨w, c1.rel, ?_⟩
        rw [e1]
        intro w1 H1 v le es R1 rr
        have c2 : Cont X.K cl W (fun _ _ _ (_ : Unit) (_ : D) => True) w1 H1 σ (M.bind (frz r) fun d => M.pure d) (fun _ _ => True) := by
          refine ⟨R1, ?_⟩
          rw [wpO_bind, es, e2]
          exact fun _ _ _ _ _ _ _ => True.intro
        obtain ⟨w2, d2, le2, rd, c3, e3⟩ := c2.frz' rr
        rw [es, e2] at e3
        cases e3
        exact hi v w2 H1 (le.trans le2) rfl c3.rel rd
      have fin : ∀ {ds : List D} {J : It} {w1 : Wd} {H1 : Hp}, items d = some ds → Le w w1 → w1.sm = s' → Rel X.K cl w1 H1 σ → Walks X.K cl J w1 ds → R J H1 := fun {ds J w1 H1} ei le es R1 wk => by
        rw [ei] at hw
        exact hw w1 H1 J le es R1 wk
      cases d with
      | lst xs =>
        refine .inl (go fun v w1 H1 le es R1 rd => ?_)
        cases rd with
        | lst h r =>
          rename_i a vs
          exact ⟨a, rfl, ⟨vs, same_seq R1.fH (.inl (.inl h))⟩, fin rfl le es R1 (walks_list (.inl (.inl h)) r)⟩
      | ro xs =>
        refine .inl (go fun v w1 H1 le es R1 rd => ?_)
        cases rd with
        | ro h r =>
          rename_i a vs
          exact ⟨a, rfl, ⟨vs, same_seq R1.fH h⟩, fin rfl le es R1 (walks_list h r)⟩
      | tup xs =>
        refine .inr (.inl (go fun v w1 H1 le es R1 rd => ?_))
        cases rd with
        | tup h r =>
          rename_i a vs
          exact ⟨a, rfl, ⟨vs, same_tup R1.fH h⟩, fin rfl le es R1 (walks_tup h r)⟩
      | str z =>
        refine .inr (.inr (go fun v w1 H1 le es R1 rd => ?_))
        exact ⟨z, rep_str rd, fin rfl le es R1 walks_str⟩
      | _ => exact hw.elim
theorem pi_rng1 {e : Expr} {tg : Expr} {x : E} {p pos : Pos} (h : Hyp X nm W cl Γ k) (hg : nm.isGl "range" = true) (hb : ("range" : Str) ∈ nm.blts) (hp : plainE e = true) (he : PE X e (tE X.K cl W Γ x)) :
    PI X tg (.Call (.Name "range" p) [e] [] pos) (tI X.K cl W Γ (.rng1 x)) := by
  refine (pi_range1 (isGl_of h hg) (h.env.blt _ hb) (pa_cons he pa_nil (star_of hp)) (star_of hp)).imp fun σ H R ⟨w, c⟩ => ?_
  have c1 : Cont X.K cl W (fun w _ _ (J : It) ds => Walks X.K cl J w ds) w H σ (M.bind (ev Γ x) fun r => M.bind (peekM r) fun d => match d with | .int n => if small62 n then M.pure (rangeL 0 n.toNat) else M.bad | _ => M.bad) R := c
  refine ⟨w, (c1.bind (RS := RRep X.K cl)).imp fun v1 H1 ⟨w1, r1, le1, rr1, c2⟩ => ?_⟩
  obtain ⟨d, t, c3⟩ := peekM_held c2 rr1
  cases d with
  | int n =>
    by_cases hs : small62 n = true
    · have c4 : Cont X.K cl W (fun w _ _ (J : It) ds => Walks X.K cl J w ds) w1 H1 σ (M.pure (rangeL 0 n.toNat)) R := c3.at (by dsimp only; rw [if_pos hs])
      rw [rep_int t]
      have hs := of_decide_eq_true hs
      exact ⟨n, rfl, hs.1, hs.2, Cont.end (RR := fun w _ _ (J : It) ds => Walks X.K cl J w ds) c4 walks_range⟩
    · have c4 : Cont X.K cl W (fun w _ _ (J : It) ds => Walks X.K cl J w ds) w1 H1 σ M.bad R := c3.at (by dsimp only; rw [if_neg hs])
      exact c4.wp.elim
  | _ => exact c3.wp.elim
theorem pi_rng2 {e e2 : Expr} {tg : Expr} {x y : E} {p pos : Pos} (h : Hyp X nm W cl Γ k) (hg : nm.isGl "range" = true) (hb : ("range" : Str) ∈ nm.blts) (hp : plainE e = true) (hp2 : plainE e2 = true) (he : PE X e (tE X.K cl W Γ x)) (he2 : PE X e2 (tE X.K cl W Γ y)) :
    PI X tg (.Call (.Name "range" p) [e, e2] [] pos) (tI X.K cl W Γ (.rng2 x y)) := by
  refine (pi_range2 (isGl_of h hg) (h.env.blt _ hb) (pa_cons he (pa_cons he2 pa_nil (star_of hp2)) (star_of hp)) (by rw [star_of hp, star_of hp2]; rfl) (star_of hp2)).imp fun σ H R ⟨w, c⟩ => ?_
  have c1 : Cont X.K cl W (fun w _ _ (J : It) ds => Walks X.K cl J w ds) w H σ (M.bind (ev Γ x) fun r => M.bind (hold r) fun r => M.bind (ev Γ y) fun r2 => M.bind (peekM r) fun d => M.bind (peekM r2) fun d2 => match d, d2 with
    | .int lo, .int hi => if small62 lo && small62 hi then M.pure (rangeL lo (hi - lo).toNat) else M.bad
    | _, _ => M.bad) R := c
  refine ⟨w, (c1.bind (RS := RRep X.K cl)).imp fun v1 H1 ⟨w1, r1, le1, rr1, c2⟩ => ?_⟩
  obtain ⟨w2, r2, le2, rr2, hd, c3⟩ := c2.hold rr1
  refine ⟨w2, (c3.bind (RS := RRep X.K cl)).imp fun v2 H2 ⟨w3, r3, le3, rr3, c4⟩ => ?_⟩
  obtain ⟨d1, t1, c5⟩ := peekM_held c4 (rr2.keep le3 hd)
  obtain ⟨d2, t2, c6⟩ := peekM_held c5 rr3
  cases d1 <;> first | (cases d2 <;> exact c6.wp.elim) | skip
  cases d2 <;> first | exact c6.wp.elim | skip
  rename_i lo hi
  by_cases hs : (small62 lo && small62 hi) = true
  · have c7 : Cont X.K cl W (fun w _ _ (J : It) ds => Walks X.K cl J w ds) w3 H2 σ (M.pure (rangeL lo (hi - lo).toNat)) R := c6.at (by dsimp only; rw [if_pos hs])
    rw [rep_int t1, rep_int t2]
    rw [Bool.and_eq_true] at hs
    have h1 := of_decide_eq_true hs.1
    have h2 := of_decide_eq_true hs.2
    exact ⟨lo, hi, rfl, ⟨h1.1, h1.2, h2.1, h2.2⟩, Cont.end (RR := fun w _ _ (J : It) ds => Walks X.K cl J w ds) c7 walks_range⟩
  · have c7 : Cont X.K cl W (fun w _ _ (J : It) ds => Walks X.K cl J w ds) w3 H2 σ M.bad R := c6.at (by dsimp only; rw [if_neg hs])
    exact c7.wp.elim
theorem s_enum {e : Expr} {x : E} {p pos tpos : Pos} {elts : List Expr} {kk : Nat} (h : Hyp X nm W cl Γ k) (hg : nm.isGl "enumerate" = true) (hb : ("enumerate" : Str) ∈ nm.blts) (hp : plainE e = true) (he : PE X e (tE X.K cl W Γ x)) :
    PI X (.Tuple elts kk tpos) (.Call (.Name "enumerate" p) [e] [] pos) (tI X.K cl W Γ (.enum x)) := by
  refine (pi_enum (isGl_of h hg) (h.env.blt _ hb) (pa_cons he pa_nil (star_of hp)) (star_of hp)).imp fun σ H R ⟨w, c⟩ => ?_
  have c1 : Cont X.K cl W (fun w _ _ (J : It) ds => Walks X.K cl J w ds) w H σ (M.bind (ev Γ x) fun r => M.bind (frz r) fun d => match d with | .lst xs => M.pure (enumD 0 xs) | _ => M.bad) R := c
  refine ⟨w, (c1.bind (RS := RRep X.K cl)).imp fun v1 H1 ⟨w1, r1, le1, rr1, c2⟩ => ?_⟩
  obtain ⟨w2, d, le2, rd, c3⟩ := c2.frz rr1
  cases d with
  | lst xs =>
    cases rd with
    | lst hF r =>
      exact ⟨_, _, rfl, .inl (.inl (c3.rel.fH _ _ hF)), Cont.end (RR := fun w _ _ (J : It) ds => Walks X.K cl J w ds) (a := enumD 0 xs) c3 (walks_enum (.inl (.inl hF)) r)⟩
  | _ => exact c3.wp.elim

/-! ### targets -/
theorem Rel.set {K : PySem.W.Frag} {H : Hp} {σ : St} (R : Rel K cl w H σ) {i : Nat} {v : V} {d : D} (hi : i < w.ρ.length) (r : Rep K w.ι w.F v d) : Rel K cl ⟨w.ι, w.F, w.B, w.ρ.set i (.val d), w.C⟩ H (σ.set i (some v)) := by
  have hi' : i < σ.length := by rw [R.len]; exact hi
  have obS : ∀ j o, (⟨w.ι, w.F, w.B, w.ρ.set i (.val d), w.C⟩ : Wd).ob j = some o → w.ob j = some o ∧ j ≠ .s i := fun j o e => by
    cases j with
    | s k =>
      have e := of_ob_s e
      have e : (w.ρ.set i (.val d))[k]? = some (.own o) := e
      by_cases q : i = k
      · subst q
        rw [List.getElem?_set_self hi] at e
        cases e
      · rw [List.getElem?_set_ne q] at e
        exact ⟨ob_s e, fun z => q (by cases z; rfl)⟩
    | c k => exact ⟨e, fun z => by cases z⟩
  have ad : ∀ j, j ≠ .s i → (⟨w.ι, w.F, w.B, w.ρ.set i (.val d), w.C⟩ : Wd).addr (σ.set i (some v)) j = w.addr σ j := fun j hj => by
    cases j with
    | s k =>
      have q : i ≠ k := fun z => hj (by rw [z])
      show (match (σ.set i (some v))[k]? with | some (some (.ref p)) => some p | _ => none) = (match σ[k]? with | some (some (.ref p)) => some p | _ => none)
      rw [List.getElem?_set_ne q]
    | c k => rfl
  refine ⟨R.fH, R.bH, R.dis, by rw [List.length_set, R.len]; exact (List.length_set ..).symm, R.lenC, fun k d' e => ?_, fun j o e => ?_, fun j j' o o' p h1 h2 h3 h4 => ?_⟩
  · have e : (w.ρ.set i (.val d))[k]? = some (.val d') := e
    by_cases q : i = k
    · subst q
      rw [List.getElem?_set_self hi] at e
      cases e
      exact ⟨v, List.getElem?_set_self hi', r⟩
    · rw [List.getElem?_set_ne q] at e
      rw [List.getElem?_set_ne q]
      exact R.val k d' e
  · obtain ⟨e, nj⟩ := obS j o e
    rw [ad j nj]
    exact R.own j o e
  · obtain ⟨e1, n1⟩ := obS j o h1
    obtain ⟨e2, n2⟩ := obS j' o' h2
    rw [ad j n1] at h3
    rw [ad j' n2] at h4
    exact R.inj j j' o o' p e1 e2 h3 h4
theorem wipe_set {σ : St} {i : Nat} {x : Option V} : ∀ {vs : List Nat}, i ∈ vs → wipe (σ.set i x) vs = wipe σ vs
  | v :: vs, h => by
    unfold wipe
    by_cases q : i ∈ vs
    · rw [wipe_set q]
    · have e : i = v := by
        rcases List.mem_cons.mp h with e | e
        · exact e
        · exact absurd e q
      subst e
      have go : ∀ (l : List Nat), i ∉ l → wipe (σ.set i x) l = (wipe σ l).set i x := fun l => by
        induction l with
        | nil => intro _; rfl
        | cons u l ih =>
          intro hl
          unfold wipe
          rw [ih (fun z => hl (List.mem_cons_of_mem _ z))]
          rw [List.set_comm _ _ (fun z => hl (by rw [z]; exact List.mem_cons_self))]
      rw [go vs q, List.set_set]
/-- a target's reading -/
def gD (K : PySem.W.Frag) (cl : Str → Option Addr) (t : Tg) : TG := fun v σ H Q => ∃ w d, Rel K cl w H σ ∧ Rep K w.ι w.F v d ∧
  wpO (asgD t d w.sm) (fun _ s => ∀ w' σ', Le w w' → w'.sm = s → Rel K cl w' H σ' → (∀ vs, (∀ i ∈ t.names, i ∈ vs) → wipe σ' vs = wipe σ vs) → Q σ' H) (fun _ _ => False)
/-- the same of any taking -/
def gDm (K : PySem.W.Frag) (cl : Str → Option Addr) (m : D → M Unit) (ns : List Nat) : TG := fun v σ H Q => ∃ w d, Rel K cl w H σ ∧ Rep K w.ι w.F v d ∧
  wpO (m d w.sm) (fun _ s => ∀ w' σ', Le w w' → w'.sm = s → Rel K cl w' H σ' → (∀ vs, (∀ i ∈ ns, i ∈ vs) → wipe σ' vs = wipe σ vs) → Q σ' H) (fun _ _ => False)
def Nm.loc (nm : Nm) (x : Str) : Option Nat :=
  if okName x then match nm.sc.names.lookup x with
    | some .local => if nm.N[nm.N.idxOf x]? = some x then some (nm.N.idxOf x) else none
    | some .cell => if nm.N[nm.N.idxOf x]? = some x ∧ x ∈ nm.cells then some (nm.N.idxOf x) else none
    | _ => none
  else none
theorem loc_of {nm : Nm} {x : Str} {i : Nat} (h : nm.loc x = some i) : nm.N[i]? = some x ∧ Loc nm.sc x ∧ (nm.sc.names.lookup x = some .local ∨ x ∈ nm.cells) := by
  unfold Nm.loc at h
  split at h
  · split at h
    · rename_i q
      split at h
      · cases h; exact ⟨by assumption, .inl q, .inl q⟩
      · cases h
    · rename_i q
      split at h
      · rename_i z
        cases h
        exact ⟨z.1, .inr q, .inr z.2⟩
      · cases h
    · cases h
  · cases h
def cTgN (nm : Nm) : Expr → Option Nat
  | .Name x _ => nm.loc x
  | _ => none
def cTgs (nm : Nm) : List Expr → Option (List Nat)
  | [] => some []
  | e :: es => match cTgN nm e, cTgs nm es with
    | some i, some is => some (i :: is)
    | _, _ => none
def cTg1 (nm : Nm) : Expr → Option Tg1
  | .Tuple es _ _ => (cTgs nm es).map .tp
  | e => (cTgN nm e).map .nm
def cTg1s (nm : Nm) : List Expr → Option (List Tg1)
  | [] => some []
  | e :: es => match cTg1 nm e, cTg1s nm es with
    | some t, some ts => some (t :: ts)
    | _, _ => none
def cTgT (nm : Nm) (es : List Expr) : Option Tg := match cTgs nm es with
  | some is => some (.tp is)
  | none => (cTg1s nm es).map .t2
def cTg (nm : Nm) : Expr → Option Tg
  | .Tuple es _ _ => cTgT nm es
  | e => (cTgN nm e).map .nm
theorem tgN_of {e : Expr} {i : Nat} (h : cTgN nm e = some i) : ∃ x pos, e = .Name x pos ∧ nm.N[i]? = some x ∧ Loc nm.sc x ∧ (nm.sc.names.lookup x = some .local ∨ x ∈ nm.cells) := by
  cases e with
  | Name x pos => exact ⟨x, pos, rfl, loc_of h⟩
  | _ => cases h
theorem pg_tgN (h : Hyp X nm W cl Γ k) {e : Expr} {i : Nat} (he : cTgN nm e = some i) : PG X e (gName i) := by
  obtain ⟨x, pos, rfl, hN, hl, hc⟩ := tgN_of he
  have hl' : Loc X.env.scope x := by rw [h.hsc]; exact hl
  refine pg_name h.nd (by rw [h.hN]; exact hN) hl' ?_
  rcases hc with q | q
  · exact .inr (by rw [h.hsc]; exact q)
  · exact .inl (h.fn x q)
theorem set_ok {i : Nat} {sl : Slot} {s : Sm} {Q : Unit → Sm → Prop} {X' : Exn → Sm → Prop} (h : wpO (setSlot i sl s) Q X') : i < s.ρ.length ∧ Q () ⟨s.ρ.set i sl, s.C⟩ := by
  unfold setSlot at h
  by_cases hi : i < s.ρ.length
  · rw [if_pos hi] at h
    exact ⟨hi, h⟩
  · rw [if_neg hi] at h
    exact h.elim
theorem pgs_tgs (h : Hyp X nm W cl Γ k) : ∀ {es : List Expr} {is : List Nat}, cTgs nm es = some is → PGs X es (fun vs σ H Q => ∃ w ds, Rel X.K cl w H σ ∧ Reps X.K w.ι w.F vs ds ∧
    wpO (asgVs is ds w.sm) (fun _ s => ∀ w' σ', Le w w' → w'.sm = s → Rel X.K cl w' H σ' → (∀ vs, (∀ i ∈ is, i ∈ vs) → wipe σ' vs = wipe σ vs) → Q σ' H) (fun _ _ => False))
  | [], is, e => by
    cases e
    refine pgs_nil.imp fun vs σ H Q ⟨w, ds, R, rs, hw⟩ => ?_
    cases ds with
    | cons d ds => exact hw.elim
    | nil =>
      cases rs
      exact ⟨rfl, hw w σ (Le.refl w) rfl R fun _ _ => rfl⟩
  | e :: es, is, he => by
    unfold cTgs at he
    split at he
    · rename_i i is' h1 h2
      cases he
      have hst : (assignEach (e :: es) X.env).map (·.2) = assign e X.env :: (assignEach es X.env).map (·.2) := by
        obtain ⟨x, pos, rfl, _⟩ := tgN_of h1
        rfl
      refine (pgs_cons (pg_tgN h h1) (pgs_tgs h h2) hst).imp fun vs σ H Q ⟨w, ds, R, rs, hw⟩ => ?_
      cases ds with
      | nil => exact hw.elim
      | cons d ds =>
        cases rs with
        | cons r1 r2 =>
          rename_i v vs
          refine ⟨_, _, rfl, ?_⟩
          have hw : wpO (M.bind (asgV i d) (fun _ => asgVs is' ds) w.sm) _ _ := hw
          rw [wpO_bind] at hw
          obtain ⟨hi, hw⟩ := set_ok hw
          have R2 := R.set hi r1
          refine ⟨_, ds, R2, r2, hw.imp (fun _ s hq w' σ' le es R' hwp => ?_) fun _ _ z => z⟩
          refine hq w' σ' ⟨le.f, le.b, le.i⟩ es R' fun vs' hv => ?_
          rw [hwp vs' (fun j hj => hv j (List.mem_cons_of_mem _ hj))]
          exact wipe_set (hv i List.mem_cons_self)
    · cases he
theorem pg_tg1 (h : Hyp X nm W cl Γ k) {e : Expr} {t : Tg1} (he : cTg1 nm e = some t) : PG X e (gDm X.K cl (asgD1 t) t.names) := by
  have one : ∀ {e : Expr} {i : Nat}, cTgN nm e = some i → PG X e (gDm X.K cl (asgD1 (.nm i)) [i]) := fun {e i} hi => by
    refine (pg_tgN h hi).imp fun v σ H Q ⟨w, d, R, r, hw⟩ => ?_
    obtain ⟨hl, hw⟩ := set_ok hw
    have R2 := R.set hl r
    exact hw ⟨w.ι, w.F, w.B, w.ρ.set i (.val d), w.C⟩ _ ⟨Same.refl _, rfl, fun _ _ h => h⟩ rfl R2 fun vs hv => wipe_set (hv i (List.mem_singleton.mpr rfl))
  cases e with
  | Tuple es n pos =>
    obtain ⟨is, e1, rfl⟩ := map_some (show (cTgs nm es).map Tg1.tp = some t from he)
    have al : ∀ {es : List Expr} {is : List Nat}, cTgs nm es = some is → (assignEach es X.env).length = is.length ∧ (assignEach es X.env).findIdx? (·.1) = none := fun {es} => by
      induction es with
      | nil => intro is e; cases e; exact ⟨rfl, rfl⟩
      | cons e es ih =>
        intro is he
        unfold cTgs at he
        split at he
        · rename_i i is' h1 h2
          cases he
          obtain ⟨x, pos, rfl, _⟩ := tgN_of h1
          obtain ⟨g1, g2⟩ := ih h2
          have ea : assignEach (.Name x pos :: es) X.env = (false, assign (.Name x pos) X.env) :: assignEach es X.env := rfl
          rw [ea]
          refine ⟨by rw [List.length_cons, List.length_cons, g1], ?_⟩
          rw [List.findIdx?_cons, g2]
          rfl
        · cases he
    obtain ⟨l1, l2⟩ := al e1
    refine (pg_tup h.calm (pgs_tgs h e1) l1 l2).imp fun v σ H Q ⟨w, d, R, r, hw⟩ => ?_
    cases d with
    | tup ds =>
      cases r with
      | tup q rs =>
        have hlen : ds.length = is.length := by
          have go : ∀ {is : List Nat} {ds : List D} {s : Sm} {Q : Unit → Sm → Prop}, wpO (asgVs is ds s) Q (fun _ _ => False) → ds.length = is.length := fun {is} => by
            induction is with
            | nil => intro ds s Q hq; cases ds with
              | nil => rfl
              | cons _ _ => exact hq.elim
            | cons i is ih => intro ds s Q hq; cases ds with
              | nil => exact hq.elim
              | cons d ds =>
                have hq : wpO (M.bind (asgV i d) (fun _ => asgVs is ds) s) Q _ := hq
                rw [wpO_bind] at hq
                obtain ⟨_, hq⟩ := set_ok hq
                rw [List.length_cons, List.length_cons, ih hq]
          exact go hw
        exact ⟨_, _, rfl, same_tup R.fH q, by rw [rs.length]; exact hlen, w, ds, R, rs, hw⟩
    | _ => exact hw.elim
  | Name x pos =>
    obtain ⟨i, e1, rfl⟩ := map_some (show (cTgN nm (.Name x pos)).map Tg1.nm = some t from he)
    exact one e1
  | _ => cases he

theorem pgs_t2 (h : Hyp X nm W cl Γ k) : ∀ {es : List Expr} {ts : List Tg1}, cTg1s nm es = some ts → PGs X es (fun vs σ H Q => ∃ w ds, Rel X.K cl w H σ ∧ Reps X.K w.ι w.F vs ds ∧
    wpO (asgD1s ts ds w.sm) (fun _ s => ∀ w' σ', Le w w' → w'.sm = s → Rel X.K cl w' H σ' → (∀ vs, (∀ i ∈ names1 ts, i ∈ vs) → wipe σ' vs = wipe σ vs) → Q σ' H) (fun _ _ => False))
  | [], ts, e => by
    cases e
    refine pgs_nil.imp fun vs σ H Q ⟨w, ds, R, rs, hw⟩ => ?_
    cases ds with
    | cons d ds => exact hw.elim
    | nil =>
      cases rs
      exact ⟨rfl, hw w σ (Le.refl w) rfl R fun _ _ => rfl⟩
  | e :: es, ts, he => by
    unfold cTg1s at he
    split at he
    · rename_i t ts' h1 h2
      cases he
      have hst : (assignEach (e :: es) X.env).map (·.2) = assign e X.env :: (assignEach es X.env).map (·.2) := by
        cases e with
        | Tuple es n pos => rfl
        | Name x pos => rfl
        | _ => cases h1
      refine (pgs_cons (pg_tg1 h h1) (pgs_t2 h h2) hst).imp fun vs σ H Q ⟨w, ds, R, rs, hw⟩ => ?_
      cases ds with
      | nil => exact hw.elim
      | cons d ds =>
        cases rs with
        | cons r1 r2 =>
          rename_i v vs
          refine ⟨_, _, rfl, w, d, R, r1, ?_⟩
          have hw : wpO (M.bind (asgD1 t d) (fun _ => asgD1s ts' ds) w.sm) _ _ := hw
          rw [wpO_bind] at hw
          refine hw.imp (fun _ s hq w' σ' le es R' hwp => ?_) fun _ _ z => z
          refine ⟨w', ds, R', r2.mono le.f le.i, ?_⟩
          rw [es]
          refine hq.imp (fun _ s2 hq2 w2 σ2 le2 es2 R2 hwp2 => hq2 w2 σ2 (le.trans le2) es2 R2 fun vs' hv => ?_) fun _ _ z => z
          rw [hwp2 vs' fun j hj => hv j (List.mem_append_right _ hj)]
          exact hwp vs' fun j hj => hv j (List.mem_append_left _ hj)
    · cases he
theorem asg1_len : ∀ {ts : List Tg1} {ds : List D} {s : Sm} {Q : Unit → Sm → Prop}, wpO (asgD1s ts ds s) Q (fun _ _ => False) → ds.length = ts.length
  | [], [], _, _, _ => rfl
  | [], _ :: _, _, _, h => h.elim
  | _ :: _, [], _, _, h => h.elim
  | t :: ts, d :: ds, s, Q, h => by
    have h : wpO (M.bind (asgD1 t d) (fun _ => asgD1s ts ds) s) Q _ := h
    rw [wpO_bind] at h
    cases e : asgD1 t d s with
    | ok a s' =>
      rw [e] at h
      rw [List.length_cons, List.length_cons, asg1_len (show wpO (asgD1s ts ds s') _ _ from h)]
    | exc x s' => rw [e] at h; exact h.elim
    | bad => rw [e] at h; exact h.elim
theorem pg_tg (h : Hyp X nm W cl Γ k) {e : Expr} {t : Tg} (he : cTg nm e = some t) : PG X e (gD X.K cl t) := by
  cases e with
  | Name x pos =>
    obtain ⟨i, e1, rfl⟩ := map_some (show (cTgN nm (.Name x pos)).map Tg.nm = some t from he)
    exact pg_tg1 h (e := .Name x pos) (t := .nm i) (by show (cTgN nm (.Name x pos)).map Tg1.nm = _; rw [e1]; rfl)
  | Tuple es n pos =>
    have he : cTgT nm es = some t := he
    unfold cTgT at he
    split at he
    · rename_i is e1
      cases he
      refine (pg_tg1 h (e := .Tuple es n pos) (t := .tp is) (by show (cTgs nm es).map Tg1.tp = _; rw [e1]; rfl)).imp fun v σ H Q ⟨w, d, R, r, hw⟩ => ⟨w, d, R, r, ?_⟩
      cases d <;> exact hw
    · obtain ⟨ts, e1, rfl⟩ := map_some he
      have al : ∀ {es : List Expr} {ts : List Tg1}, cTg1s nm es = some ts → (assignEach es X.env).length = ts.length ∧ (assignEach es X.env).findIdx? (·.1) = none := fun {es} => by
        induction es with
        | nil => intro ts e; cases e; exact ⟨rfl, rfl⟩
        | cons e es ih =>
          intro ts he
          unfold cTg1s at he
          split at he
          · rename_i t ts' h1 h2
            cases he
            obtain ⟨g1, g2⟩ := ih h2
            have ea : assignEach (e :: es) X.env = (false, assign e X.env) :: assignEach es X.env := by
              cases e with
              | Tuple es n pos => rfl
              | Name x pos => rfl
              | _ => cases h1
            rw [ea]
            refine ⟨by rw [List.length_cons, List.length_cons, g1], ?_⟩
            rw [List.findIdx?_cons, g2]
            rfl
          · cases he
      obtain ⟨l1, l2⟩ := al e1
      refine (pg_tup h.calm (pgs_t2 h e1) l1 l2).imp fun v σ H Q ⟨w, d, R, r, hw⟩ => ?_
      cases d with
      | tup ds =>
        cases r with
        | tup q rs =>
          have hw : wpO (asgD1s ts ds w.sm) _ _ := hw
          exact ⟨_, _, rfl, same_tup R.fH q, by rw [rs.length]; exact asg1_len hw, w, ds, R, rs, hw⟩
      | _ => exact hw.elim
  | _ => cases he
end
end IR

set_option Elab.async false
set_option linter.all false
set_option maxRecDepth 100000
/-! IrU: comprehensions; the compiler of expressions and its proof. -/
namespace IR
open PySem L2

section
variable {K : PySem.W.Frag} {cl : Str → Option Addr} {H : Hp} {σ : St}
/-! ### a protected object -/
theorem rel_guard {ι : List Addr} {F B : Hp} {ρ : List Slot} {C : List (Option Ob)} {p : Addr} {o : HO} (R : Rel K cl ⟨ι, F, B, ρ, C⟩ H σ) (hp : H p = none) : Rel K cl ⟨ι, F, upd B p o, ρ, C⟩ (upd H p o) σ where
  fH := R.fH.trans (same_upd hp)
  bH := fun a x e => by
    by_cases q : a = p
    · subst q
      have e : upd B a o a = some x := e
      rw [upd_same] at e
      rw [upd_same]
      exact e
    · have e : upd B p o a = some x := e
      rw [upd_ne q] at e
      rw [upd_ne q]
      exact R.bH a x e
  dis := fun a x e => by
    by_cases q : a = p
    · subst q
      exact R.fH.free hp
    · have e : upd B p o a = some x := e
      rw [upd_ne q] at e
      exact R.dis a x e
  len := R.len
  lenC := R.lenC
  val := R.val
  own := fun j ob e => by
    obtain ⟨a, h1, ⟨h2, h3, ho, h4, h5⟩⟩ := R.own j ob e
    have q : a ≠ p := ne_of_none h4 hp
    refine ⟨a, h1, h2, ?_, ho, ?_, h5⟩
    · show upd B p o a = none
      rw [upd_ne q]
      exact h3
    · rw [upd_ne q]
      exact h4
  inj := R.inj
theorem rel_guarded {ι : List Addr} {F B : Hp} {ρ : List Slot} {C : List (Option Ob)} {p : Addr} {o o' : HO} (R : Rel K cl ⟨ι, F, upd B p o, ρ, C⟩ H σ) : Rel K cl ⟨ι, F, upd B p o', ρ, C⟩ (upd H p o') σ where
  fH := fun a x e => by
    have q : a ≠ p := fun z => by
      have h : F a = none := R.dis a o (by rw [z]; exact upd_same)
      have e : F a = some x := e
      rw [h] at e
      cases e
    rw [upd_ne q]
    exact R.fH a x e
  bH := fun a x e => by
    by_cases q : a = p
    · subst q
      have e : upd B a o' a = some x := e
      rw [upd_same] at e
      rw [upd_same]
      exact e
    · have e : upd B p o' a = some x := e
      rw [upd_ne q] at e
      rw [upd_ne q]
      exact R.bH a x (by show upd B p o a = _; rw [upd_ne q]; exact e)
  dis := fun a x e => by
    by_cases q : a = p
    · exact R.dis a o (by rw [q]; exact upd_same)
    · have e : upd B p o' a = some x := e
      rw [upd_ne q] at e
      exact R.dis a x (by show upd B p o a = _; rw [upd_ne q]; exact e)
  len := R.len
  lenC := R.lenC
  val := R.val
  own := fun j ob e => by
    obtain ⟨a, h1, ⟨h2, h3, ho, h4, h5⟩⟩ := R.own j ob e
    have q : a ≠ p := fun z => by
      have h3 : upd B p o a = none := h3
      rw [z, upd_same] at h3
      cases h3
    have h3 : upd B p o a = none := h3
    rw [upd_ne q] at h3
    refine ⟨a, h1, h2, ?_, ho, ?_, h5⟩
    · show upd B p o' a = none
      rw [upd_ne q]
      exact h3
    · rw [upd_ne q]
      exact h4
  inj := R.inj
theorem rel_unguard {ι : List Addr} {F B : Hp} {ρ : List Slot} {C : List (Option Ob)} {p : Addr} {o : HO} (R : Rel K cl ⟨ι, F, upd B p o, ρ, C⟩ H σ) (hp : B p = none) : Rel K cl ⟨ι, F, B, ρ, C⟩ H σ where
  fH := R.fH
  bH := fun a x e => R.bH a x (by show upd B p o a = _; rw [upd_ne (ne_of_none e hp)]; exact e)
  dis := fun a x e => R.dis a x (by show upd B p o a = _; rw [upd_ne (ne_of_none e hp)]; exact e)
  len := R.len
  lenC := R.lenC
  val := R.val
  own := fun j ob e => by
    obtain ⟨a, h1, ⟨h2, h3, ho, h4, h5⟩⟩ := R.own j ob e
    have q : a ≠ p := fun z => by
      have h3 : upd B p o a = none := h3
      rw [z, upd_same] at h3
      cases h3
    have h3 : upd B p o a = none := h3
    rw [upd_ne q] at h3
    exact ⟨a, h1, h2, h3, ho, h4, h5⟩
  inj := R.inj

/-! ### slots forgotten and remembered -/
theorem wipeS_len (ρ : List Slot) : ∀ vs, (wipeS ρ vs).length = ρ.length
  | [] => rfl
  | v :: vs => by unfold wipeS; rw [List.length_set, wipeS_len ρ vs]
theorem wipeS_in {ρ : List Slot} {i : Nat} : ∀ {vs : List Nat} {x : Slot}, i ∈ vs → (wipeS ρ vs)[i]? = some x → x = .no
  | v :: vs, x, h, e => by
    unfold wipeS at e
    by_cases q : v = i
    · subst q
      by_cases hl : v < (wipeS ρ vs).length
      · rw [List.getElem?_set_self hl] at e
        cases e
        rfl
      · rw [List.getElem?_eq_none (by rw [List.length_set]; omega)] at e
        cases e
    · rw [List.getElem?_set_ne q] at e
      rcases List.mem_cons.mp h with z | z
      · exact absurd z.symm q
      · exact wipeS_in z e
theorem wipeS_out {ρ : List Slot} {i : Nat} : ∀ {vs : List Nat}, i ∉ vs → (wipeS ρ vs)[i]? = ρ[i]?
  | [], _ => rfl
  | v :: vs, h => by
    unfold wipeS
    rw [List.getElem?_set_ne (fun z => h (by rw [z]; exact List.mem_cons_self))]
    exact wipeS_out fun z => h (List.mem_cons_of_mem _ z)
theorem restore_len {ρ0 : List Slot} : ∀ (vs : List Nat) (ρ : List Slot), (restore ρ0 vs ρ).length = ρ.length
  | [], ρ => rfl
  | v :: vs, ρ => by
    unfold restore
    split
    · rw [List.length_set, restore_len vs ρ]
    · exact restore_len vs ρ
theorem restore_out {ρ0 ρ : List Slot} {i : Nat} : ∀ {vs : List Nat}, i ∉ vs → (restore ρ0 vs ρ)[i]? = ρ[i]?
  | [], _ => rfl
  | v :: vs, h => by
    have h2 : i ∉ vs := fun z => h (List.mem_cons_of_mem _ z)
    unfold restore
    split
    · rw [List.getElem?_set_ne (fun z => h (by rw [z]; exact List.mem_cons_self))]
      exact restore_out h2
    · exact restore_out h2
theorem restore_in {ρ0 ρ : List Slot} {i : Nat} (hl : ρ.length = ρ0.length) : ∀ {vs : List Nat}, i ∈ vs → (restore ρ0 vs ρ)[i]? = ρ0[i]?
  | v :: vs, h => by
    unfold restore
    by_cases q : v = i
    · subst q
      cases e : ρ0[v]? with
      | none =>
        have h1 : ρ0.length ≤ v := List.getElem?_eq_none_iff.mp e
        show (restore ρ0 vs ρ)[v]? = none
        rw [List.getElem?_eq_none (by rw [restore_len]; omega)]
      | some x =>
        have h1 : v < ρ0.length := (List.getElem?_eq_some_iff.mp e).1
        show ((restore ρ0 vs ρ).set v x)[v]? = some x
        rw [List.getElem?_set_self (by rw [restore_len]; omega)]
    · have h2 : i ∈ vs := by
        rcases List.mem_cons.mp h with z | z
        · exact absurd z.symm q
        · exact z
      split
      · rw [List.getElem?_set_ne q]
        exact restore_in hl h2
      · exact restore_in hl h2
theorem wipe_out' {σ : St} {i : Nat} : ∀ {vs : List Nat}, i ∉ vs → (wipe σ vs)[i]? = σ[i]?
  | [], _ => rfl
  | v :: vs, h => by
    unfold wipe
    rw [List.getElem?_set_ne (fun z => h (by rw [z]; exact List.mem_cons_self))]
    exact wipe_out' fun z => h (List.mem_cons_of_mem _ z)
theorem wipe_in {σ : St} {i : Nat} : ∀ {vs : List Nat}, i ∈ vs → (wipe σ vs)[i]? = if i < σ.length then some none else none
  | v :: vs, h => by
    show ((wipe σ vs).set v none)[i]? = _
    by_cases q : v = i
    · subst q
      by_cases hl : v < σ.length
      · rw [if_pos hl, List.getElem?_set_self (by rw [wipe_length]; exact hl)]
      · rw [if_neg hl, List.getElem?_eq_none (by rw [List.length_set, wipe_length]; omega)]
    · rw [List.getElem?_set_ne q]
      rcases List.mem_cons.mp h with z | z
      · exact absurd z.symm q
      · exact wipe_in z
theorem wipe_wipe (σ : St) (vs : List Nat) : wipe (wipe σ vs) vs = wipe σ vs := by
  apply List.ext_getElem?
  intro j
  by_cases h : j ∈ vs
  · rw [wipe_in h, wipe_in h, wipe_length]
  · rw [wipe_out' h]
theorem rel_wipe {ι : List Addr} {F B : Hp} {ρ : List Slot} {C : List (Option Ob)} (R : Rel K cl ⟨ι, F, B, ρ, C⟩ H σ) (vs : List Nat) : Rel K cl ⟨ι, F, B, wipeS ρ vs, C⟩ H (wipe σ vs) := by
  have obS : ∀ j o, (⟨ι, F, B, wipeS ρ vs, C⟩ : Wd).ob j = some o → (⟨ι, F, B, ρ, C⟩ : Wd).ob j = some o ∧ ∀ i, j = .s i → i ∉ vs := fun j o e => by
    cases j with
    | s i =>
      have e := of_ob_s e
      have e : (wipeS ρ vs)[i]? = some (.own o) := e
      have h : i ∉ vs := fun z => by cases wipeS_in z e
      rw [wipeS_out h] at e
      exact ⟨ob_s e, fun k q => by cases q; exact h⟩
    | c i => exact ⟨e, fun k q => by cases q⟩
  have ad : ∀ j, (∀ i, j = Ow.s i → i ∉ vs) → (⟨ι, F, B, wipeS ρ vs, C⟩ : Wd).addr (wipe σ vs) j = (⟨ι, F, B, ρ, C⟩ : Wd).addr σ j := fun j h => by
    cases j with
    | s i =>
      show (match (wipe σ vs)[i]? with | some (some (.ref p)) => some p | _ => none) = (match σ[i]? with | some (some (.ref p)) => some p | _ => none)
      rw [wipe_out' (h i rfl)]
    | c i => rfl
  refine ⟨R.fH, R.bH, R.dis, by rw [wipe_length, R.len]; exact (wipeS_len ρ vs).symm, R.lenC, fun i d e => ?_, fun j o e => ?_, fun j j' o o' p h1 h2 h3 h4 => ?_⟩
  · have e : (wipeS ρ vs)[i]? = some (.val d) := e
    have h : i ∉ vs := fun z => by cases wipeS_in z e
    rw [wipeS_out h] at e
    rw [wipe_out' h]
    exact R.val i d e
  · obtain ⟨e, h⟩ := obS j o e
    rw [ad j h]
    exact R.own j o e
  · obtain ⟨e1, g1⟩ := obS j o h1
    obtain ⟨e2, g2⟩ := obS j' o' h2
    rw [ad j g1] at h3
    rw [ad j' g2] at h4
    exact R.inj j j' o o' p e1 e2 h3 h4
theorem rel_restore {w0 : Wd} {H0 : Hp} {ι : List Addr} {F B : Hp} {ρ : List Slot} {C : List (Option Ob)} {vs : List Nat} (R0 : Rel K cl w0 H0 σ) (R : Rel K cl ⟨ι, F, B, wipeS ρ vs, C⟩ H (wipe σ vs)) (hf : Same w0.F F) (hi : ∀ (c : Nat) a, w0.ι[c]? = some a → ι[c]? = some a)
    (hn : (vs.all fun i => notOwn w0.ρ[i]?) = true) : Rel K cl ⟨ι, F, B, restore w0.ρ vs ρ, C⟩ H σ := by
  have hl : ρ.length = w0.ρ.length := by
    have h1 := R.len
    rw [wipe_length, R0.len] at h1
    have h1 : w0.ρ.length = (wipeS ρ vs).length := h1
    rw [wipeS_len] at h1
    exact h1.symm
  have no : ∀ i ∈ vs, ∀ o, w0.ρ[i]? ≠ some (.own o) := fun i h o z => by
    have q := List.all_eq_true.mp hn i h
    rw [z] at q
    cases q
  have obS : ∀ j o, (⟨ι, F, B, restore w0.ρ vs ρ, C⟩ : Wd).ob j = some o → (⟨ι, F, B, wipeS ρ vs, C⟩ : Wd).ob j = some o ∧ ∀ i, j = .s i → i ∉ vs := fun j o e => by
    cases j with
    | s i =>
      have e := of_ob_s e
      have e : (restore w0.ρ vs ρ)[i]? = some (.own o) := e
      by_cases h : i ∈ vs
      · rw [restore_in hl h] at e
        exact absurd e (no i h o)
      · rw [restore_out h] at e
        refine ⟨ob_s ?_, fun k q => by cases q; exact h⟩
        show (wipeS ρ vs)[i]? = _
        rw [wipeS_out h]
        exact e
    | c i => exact ⟨e, fun k q => by cases q⟩
  have ad : ∀ j, (∀ i, j = Ow.s i → i ∉ vs) → (⟨ι, F, B, restore w0.ρ vs ρ, C⟩ : Wd).addr σ j = (⟨ι, F, B, wipeS ρ vs, C⟩ : Wd).addr (wipe σ vs) j := fun j h => by
    cases j with
    | s i =>
      show (match σ[i]? with | some (some (.ref p)) => some p | _ => none) = (match (wipe σ vs)[i]? with | some (some (.ref p)) => some p | _ => none)
      rw [wipe_out' (h i rfl)]
    | c i => rfl
  refine ⟨R.fH, R.bH, R.dis, by rw [R0.len, ← hl]; exact (restore_len vs ρ).symm, R.lenC, fun i d e => ?_, fun j o e => ?_, fun j j' o o' p h1 h2 h3 h4 => ?_⟩
  · have e : (restore w0.ρ vs ρ)[i]? = some (.val d) := e
    by_cases h : i ∈ vs
    · rw [restore_in hl h] at e
      obtain ⟨v, h1, h2⟩ := R0.val i d e
      exact ⟨v, h1, h2.mono hf hi⟩
    · rw [restore_out h] at e
      obtain ⟨v, h1, h2⟩ := R.val i d (by show (wipeS ρ vs)[i]? = _; rw [wipeS_out h]; exact e)
      rw [wipe_out' h] at h1
      exact ⟨v, h1, h2⟩
  · obtain ⟨e, h⟩ := obS j o e
    rw [ad j h]
    exact R.own j o e
  · obtain ⟨e1, g1⟩ := obS j o h1
    obtain ⟨e2, g2⟩ := obS j' o' h2
    rw [ad j g1] at h3
    rw [ad j' g2] at h4
    exact R.inj j j' o o' p e1 e2 h3 h4
end

/-- one turn of a comprehension -/
def compT (Γ : Gam) (t : Tg) (cs : Es) (e : E) (d : D) : M (Option D) := fun s =>
  (M.bind (asgD t d) fun _ => M.bind (tvs Γ cs) fun k => if k then M.bind (ev Γ e) fun r => M.bind (frz r) fun x => M.pure (some x) else M.pure none) { s with ρ := wipeS s.ρ t.names }
theorem compL_cons {turn : D → M (Option D)} {d : D} {ds : List D} {s s' : Sm} {rs : List D} (h : compL turn (d :: ds) s = .ok rs s') :
    ∃ r s1 rs', turn d s = .ok r s1 ∧ compL turn ds s1 = .ok rs' s' ∧ rs = (match r with | some x => x :: rs' | none => rs') := by
  have h : M.bind (turn d) (fun r => M.bind (compL turn ds) fun rs => M.pure (match r with | some x => x :: rs | none => rs)) s = .ok rs s' := h
  unfold M.bind Out.bind at h
  cases e1 : turn d s with
  | bad => rw [e1] at h; cases h
  | exc x s1 => rw [e1] at h; cases h
  | ok r s1 =>
    rw [e1] at h
    dsimp only at h
    cases e2 : compL turn ds s1 with
    | bad => rw [e2] at h; cases h
    | exc x s2 => rw [e2] at h; cases h
    | ok rs' s2 =>
      rw [e2] at h
      cases h
      exact ⟨r, s1, rs', rfl, e2, rfl⟩

section
variable {K : PySem.W.Frag} {cl : Str → Option Addr} {H : Hp} {σ : St}
/-! ### a list of one's own that is walked -/
/-- slot i lent: its object is guarded meanwhile -/
theorem rel_lend {w : Wd} {H : Hp} {i : Nat} {ds : List D} (R : Rel K cl w H σ) (e : w.ρ[i]? = some (.own (.lst ds))) :
    ∃ p vs, σ[i]? = some (some (.ref p)) ∧ H p = some (.lst vs) ∧ w.F p = none ∧ w.B p = none ∧ Reps K w.ι w.F vs ds ∧ Rel K cl ⟨w.ι, w.F, upd w.B p (.lst vs), w.ρ.set i .no, w.C⟩ H σ := by
  obtain ⟨p, hp, ⟨hF, hB, ho, hH, vs, rfl, ra⟩⟩ := R.own _ _ (ob_s e)
  have hp' := of_addr_s hp
  have hi : i < w.ρ.length := (List.getElem?_eq_some_iff.mp e).1
  refine ⟨p, vs, hp', hH, hF, hB, ra, ?_⟩
  have obS : ∀ k o', (Wd.mk w.ι w.F (upd w.B p (.lst vs)) (w.ρ.set i .no) w.C).ob k = some o' → k ≠ .s i ∧ w.ob k = some o' := fun k o' z => by
    cases k with
    | s k =>
      have z' := of_ob_s z
      have z' : (w.ρ.set i .no)[k]? = some (.own o') := z'
      by_cases q : i = k
      · subst q
        rw [List.getElem?_set_self hi] at z'
        cases z'
      · rw [List.getElem?_set_ne q] at z'
        exact ⟨fun y => q (by cases y; rfl), ob_s z'⟩
    | c k => exact ⟨(fun y => by cases y), z⟩
  have ad : ∀ k, (Wd.mk w.ι w.F (upd w.B p (.lst vs)) (w.ρ.set i .no) w.C).addr σ k = w.addr σ k := fun k => by cases k <;> rfl
  refine ⟨R.fH, fun a o q => ?_, fun a x q => ?_, by rw [R.len]; exact (List.length_set ..).symm, R.lenC, fun k d' q => ?_, fun k o' q => ?_, fun k k' o1 o2 q h1 h2 h3 h4 => ?_⟩
  · have q : upd w.B p (.lst vs) a = some o := q
    by_cases z : a = p
    · subst z
      rw [upd_same] at q
      cases q
      exact hH
    · rw [upd_ne z] at q
      exact R.bH a o q
  · have q : upd w.B p (.lst vs) a = some x := q
    by_cases z : a = p
    · subst z
      exact hF
    · rw [upd_ne z] at q
      exact R.dis a x q
  · have q : (w.ρ.set i .no)[k]? = some (.val d') := q
    by_cases z : i = k
    · subst z
      rw [List.getElem?_set_self hi] at q
      cases q
    · rw [List.getElem?_set_ne z] at q
      exact R.val k d' q
  · obtain ⟨nk, q⟩ := obS k o' q
    obtain ⟨a, h1, ⟨h2, h3, h, h4, h5⟩⟩ := R.own k o' q
    have n : a ≠ p := fun z => by
      rw [z] at h1
      exact nk (R.inj k (.s i) o' _ p q (ob_s e) h1 hp)
    refine ⟨a, by rw [ad]; exact h1, h2, ?_, h, h4, h5⟩
    show upd w.B p (.lst vs) a = none
    rw [upd_ne n]
    exact h3
  · rw [ad] at h3 h4
    exact R.inj k k' o1 o2 q (obS k o1 h1).2 (obS k' o2 h2).2 h3 h4
/-- and given back -/
theorem rel_back {ι : List Addr} {F B : Hp} {ρ : List Slot} {C : List (Option Ob)} {i : Nat} {p : Addr} {vs : List V} {ds : List D} (R : Rel K cl ⟨ι, F, upd B p (.lst vs), ρ, C⟩ H σ) (hi : i < ρ.length) (hp : σ[i]? = some (some (.ref p))) (hB : B p = none) (ra : Reps K ι F vs ds) :
    Rel K cl ⟨ι, F, B, ρ.set i (.own (.lst ds)), C⟩ H σ := by
  have R1 := rel_unguard R hB
  have hH : H p = some (.lst vs) := R.bH _ _ upd_same
  have hF : F p = none := R.dis p _ upd_same
  have ap : ∀ j o, (⟨ι, F, B, ρ, C⟩ : Wd).ob j = some o → (⟨ι, F, B, ρ, C⟩ : Wd).addr σ j ≠ some p := fun j o e z => by
    obtain ⟨q, h1, ⟨h2, h3, _⟩⟩ := R.own j o (by cases j <;> exact e)
    have z : (⟨ι, F, upd B p (.lst vs), ρ, C⟩ : Wd).addr σ j = some p := by
      cases j <;> exact z
    rw [z] at h1
    cases h1
    have h3 : upd B p (.lst vs) p = none := h3
    rw [upd_same] at h3
    cases h3
  have obS : ∀ k o', (Wd.mk ι F B (ρ.set i (.own (.lst ds))) C).ob k = some o' → (k = .s i ∧ o' = .lst ds) ∨ (k ≠ .s i ∧ (Wd.mk ι F B ρ C).ob k = some o') := fun k o' z => by
    cases k with
    | s k =>
      have z' := of_ob_s z
      have z' : (ρ.set i (.own (.lst ds)))[k]? = some (.own o') := z'
      by_cases q : i = k
      · subst q
        rw [List.getElem?_set_self hi] at z'
        cases z'
        exact .inl ⟨rfl, rfl⟩
      · rw [List.getElem?_set_ne q] at z'
        exact .inr ⟨fun y => q (by cases y; rfl), ob_s z'⟩
    | c k => exact .inr ⟨(fun y => by cases y), z⟩
  have ad : ∀ k, (Wd.mk ι F B (ρ.set i (.own (.lst ds))) C).addr σ k = (Wd.mk ι F B ρ C).addr σ k := fun k => by cases k <;> rfl
  refine ⟨R1.fH, R1.bH, R1.dis, by rw [R1.len]; exact (List.length_set ..).symm, R1.lenC, fun k d' q => ?_, fun k o' q => ?_, fun k k' o1 o2 q h1 h2 h3 h4 => ?_⟩
  · have q : (ρ.set i (.own (.lst ds)))[k]? = some (.val d') := q
    by_cases z : i = k
    · subst z
      rw [List.getElem?_set_self hi] at q
      cases q
    · rw [List.getElem?_set_ne z] at q
      exact R1.val k d' q
  · rcases obS k o' q with ⟨rfl, rfl⟩ | ⟨_, q⟩
    · exact ⟨p, by rw [ad]; exact addr_s hp, hF, hB, _, hH, vs, rfl, ra⟩
    · obtain ⟨a, h1, h2⟩ := R1.own k o' q
      exact ⟨a, by rw [ad]; exact h1, h2⟩
  · rw [ad] at h3 h4
    rcases obS k o1 h1 with ⟨rfl, rfl⟩ | ⟨_, e1⟩
    · rcases obS k' o2 h2 with ⟨rfl, rfl⟩ | ⟨_, e2⟩
      · rfl
      · rw [addr_s hp] at h3
        cases h3
        exact absurd h4 (ap k' o2 e2)
    · rcases obS k' o2 h2 with ⟨rfl, rfl⟩ | ⟨_, e2⟩
      · rw [addr_s hp] at h4
        cases h4
        exact absurd h3 (ap k o1 e1)
      · exact R1.inj k k' o1 o2 q e1 e2 h3 h4
end

section
variable {X : Cx} {nm : Nm} {W : WX} {cl : Str → Option Addr} {Γ : Gam} {k : Nat}
abbrev W0 : WX := fun _ _ _ _ => False
theorem comp_core {t : Tg} {cs : Es} {x : E} {w1 : Wd} {H1 : Hp} {J : It} {ds zs : List D} {s' : Sm} {Q : VK} {σ : St} (R1 : Rel X.K cl w1 H1 σ) (wk : Walks X.K cl J w1 ds) (hall : (t.names.all fun i => notOwn w1.ρ[i]?) = true)
    (ec : compL (compT Γ t cs x) ds w1.sm = .ok zs s') (hlen : zs.length ≤ sizeLine)
    (fin : ∀ (ι : List Addr) (F H' : Hp) (L : Addr) (acc : List V), Same w1.F F → (∀ (c : Nat) a, w1.ι[c]? = some a → ι[c]? = some a) → Rel X.K cl ⟨ι, F, w1.B, restore w1.ρ t.names s'.ρ, s'.C⟩ H' σ → F L = none → w1.B L = none → H' L = some (.lst acc) → Reps X.K ι F acc zs →
      (∀ j o, (⟨ι, F, w1.B, restore w1.ρ t.names s'.ρ, s'.C⟩ : Wd).ob j = some o → (⟨ι, F, w1.B, restore w1.ρ t.names s'.ρ, s'.C⟩ : Wd).addr σ j ≠ some L) → Q (.ref L) H') :
    tLc (fun _ _ R => R J H1) (gD X.K cl t) (Run X.K cl W0 (fun _ _ _ (b : Bool) a => b = a) (tvs Γ cs)) (tE X.K cl W0 Γ x) t.names σ H1 Q := by
  intro L hL
  have hB0 : w1.B L = none := R1.bH.free hL
  have sB : ∀ {ι F ρ C H2 σ2 acc}, Rel X.K cl ⟨ι, F, upd w1.B L (.lst acc), ρ, C⟩ H2 σ2 → Same w1.B H2 := fun {ι F ρ C H2 σ2 acc} R a o e => R.bH a o (by
    show upd w1.B L (.lst acc) a = some o
    rw [upd_ne (ne_of_none e hB0)]
    exact e)
  -- the invariant
  let In : Nat → Hp → Prop := fun i H2 => ∃ (ι : List Addr) (F : Hp) (ρ : List Slot) (C : List (Option Ob)) (acc : List V) (xs rs : List D), Same w1.F F ∧ (∀ (c : Nat) a, w1.ι[c]? = some a → ι[c]? = some a) ∧
    Rel X.K cl ⟨ι, F, upd w1.B L (.lst acc), wipeS ρ t.names, C⟩ H2 (wipe σ t.names) ∧ Reps X.K ι F acc xs ∧ compL (compT Γ t cs x) (ds.drop i) ⟨ρ, C⟩ = .ok rs s' ∧ zs = xs ++ rs
  refine ⟨fun i m H2 => m = ds.length - i ∧ i ≤ ds.length ∧ In i H2, ⟨ds.length, by omega, Nat.zero_le _, w1.ι, w1.F, w1.ρ, w1.C, [], [], zs, Same.refl _, fun _ _ h => h, rel_guard (rel_wipe R1 _) hL, .nil, ec, rfl⟩, ?_⟩
  rintro i m H2 ⟨rfl, hil, ι, F, ρ, C, acc, xs, rs, hF, hι, R2, ra, e2, ez⟩
  by_cases hlt : i < ds.length
  · -- a turn
    refine .inr ⟨wk.go i H2 hlt (hF.trans R2.fH) (sB R2), In (i + 1), fun H' h' => ⟨ds.length - (i + 1), by omega, rfl, hlt, h'⟩, fun y H3 hy => ?_⟩
    have hd : ds[i]? = some ds[i] := List.getElem?_eq_getElem hlt
    rw [List.drop_eq_getElem_cons hlt] at e2
    obtain ⟨r, s1, rs', et, e3, er⟩ := compL_cons e2
    obtain ⟨w3, le3, es3, R3, rd⟩ := wk.yld i _ _ H2 _ y H3 hd hF (sB R2) hι R2 hy
    -- the turn's own steps
    have hb : wpO ((M.bind (asgD t ds[i]) fun _ => M.bind (tvs Γ cs) fun k => if k then M.bind (ev Γ x) fun r => M.bind (frz r) fun x => M.pure (some x) else M.pure none) w3.sm) (fun a s => a = r ∧ s = s1) (fun _ _ => False) := by
      rw [es3]
      have et : (M.bind (asgD t ds[i]) fun _ => M.bind (tvs Γ cs) fun k => if k then M.bind (ev Γ x) fun r => M.bind (frz r) fun x => M.pure (some x) else M.pure none) ⟨wipeS ρ t.names, C⟩ = .ok r s1 := et
      show wpO ((M.bind (asgD t ds[i]) fun _ => M.bind (tvs Γ cs) fun k => if k then M.bind (ev Γ x) fun r => M.bind (frz r) fun x => M.pure (some x) else M.pure none) ⟨wipeS ρ t.names, C⟩) _ _
      rw [et]
      exact ⟨rfl, rfl⟩
    rw [wpO_bind] at hb
    refine ⟨w3, ds[i], R3, rd, hb.imp (fun _ s4 hb4 w4 σ4 le4 es4 R4 hwp => ⟨(hwp _ fun _ h => h).trans (wipe_wipe _ _), ?_⟩) fun _ _ z => z⟩
    -- the end of a turn, at a world behind
    have close : ∀ {w5 : Wd} {H5 : Hp} {acc' : List V} {xs' : List D}, Le w4 w5 → w5.sm = s1 → Rel X.K cl w5 H5 σ4 → Reps X.K w5.ι w5.F acc' xs' → zs = xs' ++ rs' → In (i + 1) (upd H5 L (.lst acc')) := fun {w5 H5 acc' xs'} le5 es5 R5 ra' ez' => by
      have hB5 : w5.B = upd w1.B L (.lst acc) := by rw [le5.b, le4.b, le3.b]
      have es : w5.ρ = s1.ρ ∧ w5.C = s1.C := ⟨congrArg Sm.ρ es5, congrArg Sm.C es5⟩
      have R6 : Rel X.K cl ⟨w5.ι, w5.F, upd w1.B L (.lst acc), wipeS w5.ρ t.names, w5.C⟩ H5 (wipe σ t.names) := by
        rw [← hB5]
        have q := rel_wipe (ι := w5.ι) (F := w5.F) (B := w5.B) (ρ := w5.ρ) (C := w5.C) R5 t.names
        rw [hwp _ fun _ h => h] at q
        have ew : wipe (wipe σ t.names) t.names = wipe σ t.names := wipe_wipe _ _
        rw [ew] at q
        exact q
      refine ⟨w5.ι, w5.F, w5.ρ, w5.C, acc', xs', rs', ((hF.trans le3.f).trans le4.f).trans le5.f, fun c a h => le5.i c a (le4.i c a (le3.i c a (hι c a h))), rel_guarded R6, ra', ?_, ez'⟩
      rw [es.1, es.2]
      exact e3
    have hb4 : wpO (M.bind (tvs Γ cs) (fun k => if k then M.bind (ev Γ x) fun r => M.bind (frz r) fun x => M.pure (some x) else M.pure none) s4) (fun a s => a = r ∧ s = s1) (fun _ _ => False) := hb4
    rw [wpO_bind] at hb4
    refine ⟨w4, R4, ?_⟩
    rw [es4]
    refine hb4.imp (fun b s5 hb5 w5 H5 b' le5 es5 R5 eb => ?_) fun _ _ z => z.elim
    subst eb
    cases b' with
    | false =>
      have hb5 : (none : Option D) = r ∧ s5 = s1 := hb5
      show In (i + 1) H5
      have hH : H5 L = some (.lst acc) := R5.bH _ _ (by rw [le5.b, le4.b, le3.b]; exact upd_same)
      have q := close le5 (es5.trans hb5.2) R5 (acc' := acc) (xs' := xs) (ra.mono ((le3.f.trans le4.f).trans le5.f) fun c a h => le5.i c a (le4.i c a (le3.i c a h))) (by rw [ez, er, ← hb5.1])
      have eu : upd H5 L (.lst acc) = H5 := by
        funext a
        by_cases q : a = L
        · rw [q, upd_same, hH]
        · rw [upd_ne q]
      rw [eu] at q
      exact q
    | true =>
      have hb5 : wpO (M.bind (ev Γ x) (fun r => M.bind (frz r) fun x => M.pure (some x)) s5) (fun a s => a = r ∧ s = s1) (fun _ _ => False) := hb5
      rw [wpO_bind] at hb5
      show tE X.K cl W0 Γ x σ4 H5 _
      refine ⟨w5, R5, ?_⟩
      rw [es5]
      refine hb5.imp (fun rv s6 hb6 w6 H6 y6 le6 es6 R6 rr => ?_) fun _ _ z => z.elim
      -- frozen
      have c7 : Cont X.K cl W0 (fun _ _ _ (_ : Unit) (_ : Option D) => True) w6 H6 σ4 (M.bind (frz rv) fun x => M.pure (some x)) (fun _ _ => True) := by
        refine ⟨R6, ?_⟩
        rw [es6]
        exact hb6.imp (fun _ _ _ _ _ _ _ _ _ _ => True.intro) fun _ _ z => z.elim
      obtain ⟨w7, d7, le7, rd7, c8, e7⟩ := c7.frz' rr
      have hb7 : some d7 = r ∧ w7.sm = s1 := by
        have hb6 : wpO (M.bind (frz rv) (fun x => M.pure (some x)) s6) (fun a s => a = r ∧ s = s1) (fun _ _ => False) := hb6
        rw [wpO_bind, ← es6, e7] at hb6
        exact hb6
      have hH : H6 L = some (.lst acc) := R6.bH _ _ (by rw [le6.b, le5.b, le4.b, le3.b]; exact upd_same)
      refine ⟨acc, hH, ?_, ?_⟩
      · rw [ra.length]
        have hl2 := congrArg List.length ez
        rw [er, ← hb7.1, List.length_append, List.length_cons] at hl2
        omega
      · refine close ((le5.trans le6).trans le7) hb7.2 c8.rel (xs' := xs ++ [d7]) ((ra.mono ((((le3.f.trans le4.f).trans le5.f).trans le6.f).trans le7.f) fun c a h => le7.i c a (le6.i c a (le5.i c a (le4.i c a (le3.i c a h))))).append (.one rd7)) ?_
        rw [ez, er, ← hb7.1, List.append_assoc]
        rfl
  · -- the end
    have ei : i = ds.length := by omega
    subst ei
    rw [List.drop_length] at e2
    have e2 : Out.ok ([] : List D) ⟨ρ, C⟩ = .ok rs s' := e2
    cases e2
    refine .inl ⟨wk.stop H2 (hF.trans R2.fH) (sB R2), ?_⟩
    have R4 := rel_restore R1 R2 hF hι hall
    have R5 := rel_unguard R4 hB0
    have hH : H2 L = some (.lst acc) := R2.bH _ _ upd_same
    refine fin ι F H2 L acc hF hι R5 (R2.dis L _ upd_same) hB0 hH ?_ fun j o e z => ?_
    · rw [ez, List.append_nil]
      exact ra
    · obtain ⟨q, h1, ⟨h2, h3, _⟩⟩ := R4.own j o e
      have z : (⟨ι, F, upd w1.B L (.lst acc), restore w1.ρ t.names ρ, C⟩ : Wd).addr σ j = some L := by
        cases j <;> exact z
      rw [z] at h1
      cases h1
      have h3 : upd w1.B L (.lst acc) L = none := h3
      rw [upd_same] at h3
      cases h3
theorem s_comp (hc : X.calm = true) (hN : X.N.Nodup) {elt tg iter : Expr} {ifs : List Expr} {scope : Scope} {own : List (Str × Nat)} {pos : Pos} {t : Tg} {it : It'} {cs : Es} {x : E} (hi : PI X tg iter (tI X.K cl W Γ it)) (ok : BlkOk X.N X.env.scope scope own) (ho : own.map (·.2) = t.names)
    (hg : ∀ (s : Shared) (H : Hp) (C : Addr) (cl' : List (Str × Addr)) (fp : List Addr), PG (X.blk s H scope (compEnvC scope cl' C X.env) fp) tg (gD X.K cl t))
    (ht : ∀ (s : Shared) (H : Hp) (C : Addr) (cl' : List (Str × Addr)) (fp : List Addr), PTs (X.blk s H scope (compEnvC scope cl' C X.env) fp) ifs (Run X.K cl W0 (fun _ _ _ (b : Bool) a => b = a) (tvs Γ cs)))
    (he : ∀ (s : Shared) (H : Hp) (C : Addr) (cl' : List (Str × Addr)) (fp : List Addr), PE (X.blk s H scope (compEnvC scope cl' C X.env) fp) elt (tE X.K cl W0 Γ x)) (hs : ∀ x, foldedSetIterable iter X.env x = pure x) :
    (∃ te, PE X (.ListComp elt [⟨tg, iter, ifs, 0⟩] scope pos) te ∧ ∀ σ H Q, tE X.K cl W Γ (.comp t it cs x) σ H Q → te σ H Q) ∧
    ∀ σ H Q, tE X.K cl W Γ (.comp t it cs x) σ H Q → tLc (tI X.K cl W Γ it) (gD X.K cl t) (Run X.K cl W0 (fun _ _ _ (b : Bool) a => b = a) (tvs Γ cs)) (tE X.K cl W0 Γ x) (own.map (·.2)) σ H Q := by
  have main : ∀ σ H Q, tE X.K cl W Γ (.comp t it cs x) σ H Q → tLc (tI X.K cl W Γ it) (gD X.K cl t) (Run X.K cl W0 (fun _ _ _ (b : Bool) a => b = a) (tvs Γ cs)) (tE X.K cl W0 Γ x) (own.map (·.2)) σ H Q := by
    rw [ho]
    intro σ H Q ⟨w, c⟩
    have c1 : Cont X.K cl W (RRep X.K cl) w H σ (M.bind (evI Γ it) fun ds => fun s =>
      if t.names.all fun i => notOwn s.ρ[i]? then
        match compL (compT Γ t cs x) ds s with
        | .ok xs s' => if decide (xs.length ≤ sizeLine) then .ok (.n (.lst xs)) { s' with ρ := restore s.ρ t.names s'.ρ } else .bad
        | _ => .bad
      else .bad) Q := c
    refine ⟨w, (c1.bind (RS := fun w _ _ (J : It) ds => Walks X.K cl J w ds)).imp fun J H1 ⟨w1, ds, le1, wk, c2⟩ => ?_⟩
    have R1 := c2.rel
    -- what came of it
    have hw := c2.wp
    by_cases hall : (t.names.all fun i => notOwn w1.ρ[i]?) = true
    · rw [if_pos (show (t.names.all fun i => notOwn w1.sm.ρ[i]?) = true from hall)] at hw
      cases ec : compL (compT Γ t cs x) ds w1.sm with
      | bad => rw [ec] at hw; exact hw.elim
      | exc y s' => rw [ec] at hw; exact hw.elim
      | ok zs s' =>
        rw [ec] at hw
        dsimp only at hw
        by_cases hlen : zs.length ≤ sizeLine
        · rw [if_pos (decide_eq_true hlen)] at hw
          have hfin : ∀ w' H' b, Le w1 w' → w'.sm = ⟨restore w1.ρ t.names s'.ρ, s'.C⟩ → Rel X.K cl w' H' σ → RRep X.K cl w' H' σ b (.n (.lst zs)) → Q b H' := hw
          exact comp_core R1 wk hall ec hlen fun ι F H' L acc hF hι R5 h1 h2 h3 h4 h5 => hfin ⟨ι, F, w1.B, restore w1.ρ t.names s'.ρ, s'.C⟩ H' _ ⟨hF, rfl, hι⟩ rfl R5 ⟨L, rfl, ⟨h1, h2, _, h3, acc, rfl, h4⟩, h5⟩
        · rw [if_neg (by simpa using hlen)] at hw
          exact hw.elim
    · rw [if_neg (show ¬ (t.names.all fun i => notOwn w1.sm.ρ[i]?) = true from hall)] at hw
      exact hw.elim
  exact ⟨⟨_, pe_lc hc hN hi ok hg ht he hs, main⟩, main⟩
/-- the reading of a list of one's own that is walked -/
def tIB (K : PySem.W.Frag) (cl : Str → Option Addr) (W : WX) (Γ : Gam) (i : Nat) : TI := fun σ H R => tI K cl W Γ (.seq (.loc i)) σ H R ∨ iList K (tE K cl W Γ (.loc i)) σ H R
theorem s_compB (hc : X.calm = true) (hN : X.N.Nodup) {elt tg iter : Expr} {ifs : List Expr} {scope : Scope} {own : List (Str × Nat)} {pos : Pos} {t : Tg} {i : Nat} {cs : Es} {x : E} (hi : PE X iter (tE X.K cl W Γ (.loc i))) (ok : BlkOk X.N X.env.scope scope own) (ho : own.map (·.2) = t.names)
    (hg : ∀ (s : Shared) (H : Hp) (C : Addr) (cl' : List (Str × Addr)) (fp : List Addr), PG (X.blk s H scope (compEnvC scope cl' C X.env) fp) tg (gD X.K cl t))
    (ht : ∀ (s : Shared) (H : Hp) (C : Addr) (cl' : List (Str × Addr)) (fp : List Addr), PTs (X.blk s H scope (compEnvC scope cl' C X.env) fp) ifs (Run X.K cl W0 (fun _ _ _ (b : Bool) a => b = a) (tvs Γ cs)))
    (he : ∀ (s : Shared) (H : Hp) (C : Addr) (cl' : List (Str × Addr)) (fp : List Addr), PE (X.blk s H scope (compEnvC scope cl' C X.env) fp) elt (tE X.K cl W0 Γ x)) (hs : ∀ x, foldedSetIterable iter X.env x = pure x) :
    PI X tg iter (tIB X.K cl W Γ i) ∧ ∀ σ H Q, tE X.K cl W Γ (.compB t i cs x) σ H Q → tLc (tIB X.K cl W Γ i) (gD X.K cl t) (Run X.K cl W0 (fun _ _ _ (b : Bool) a => b = a) (tvs Γ cs)) (tE X.K cl W0 Γ x) (own.map (·.2)) σ H Q := by
  refine ⟨PI_or (s_seq hi) (pi_list hi), fun σ H Q ⟨w, c⟩ => ?_⟩
  have old : ev Γ (.compB t i cs x) w.sm = ev Γ (.comp t (.seq (.loc i)) cs x) w.sm → tLc (tIB X.K cl W Γ i) (gD X.K cl t) (Run X.K cl W0 (fun _ _ _ (b : Bool) a => b = a) (tvs Γ cs)) (tE X.K cl W0 Γ x) (own.map (·.2)) σ H Q := fun e =>
    .inl ((s_comp (pos := pos) hc hN (s_seq hi) ok ho hg ht he hs).2 σ H Q ⟨w, c.at e⟩)
  cases e : w.ρ[i]? with
  | none => exact old (by show (match w.sm.ρ[i]? with | some (.own (.lst ds)) => _ | _ => _) = _; rw [show w.sm.ρ[i]? = none from e]; rfl)
  | some sl =>
    cases sl with
    | no => exact old (by show (match w.sm.ρ[i]? with | some (.own (.lst ds)) => _ | _ => _) = _; rw [show w.sm.ρ[i]? = some .no from e]; rfl)
    | val d => exact old (by show (match w.sm.ρ[i]? with | some (.own (.lst ds)) => _ | _ => _) = _; rw [show w.sm.ρ[i]? = some (.val d) from e]; rfl)
    | own o =>
      cases o with
      | dic kvs => exact old (by show (match w.sm.ρ[i]? with | some (.own (.lst ds)) => _ | _ => _) = _; rw [show w.sm.ρ[i]? = some (.own (.dic kvs)) from e]; rfl)
      | ins cc fs => exact old (by show (match w.sm.ρ[i]? with | some (.own (.lst ds)) => _ | _ => _) = _; rw [show w.sm.ρ[i]? = some (.own (.ins cc fs)) from e]; rfl)
      | lst ds =>
        rw [ho]
        have hw : wpO (ev Γ (.compB t i cs x) w.sm) _ _ := c.wp
        have e0 : ev Γ (.compB t i cs x) w.sm = if t.names.all fun j => notOwn (w.ρ.set i .no)[j]? then
            match compL (compT Γ t cs x) ds ⟨w.ρ.set i .no, w.C⟩ with
            | .ok xs s' => if decide (xs.length ≤ sizeLine) then .ok (.n (.lst xs)) { s' with ρ := (restore (w.ρ.set i .no) t.names s'.ρ).set i (.own (.lst ds)) } else .bad
            | _ => .bad
          else .bad := by
          show (match w.sm.ρ[i]? with | some (.own (.lst ds)) => _ | _ => _) = _
          rw [show w.sm.ρ[i]? = some (.own (.lst ds)) from e]
          rfl
        rw [e0] at hw
        by_cases hall : (t.names.all fun j => notOwn (w.ρ.set i .no)[j]?) = true
        · rw [if_pos hall] at hw
          cases ec : compL (compT Γ t cs x) ds ⟨w.ρ.set i .no, w.C⟩ with
          | bad => rw [ec] at hw; exact hw.elim
          | exc y s' => rw [ec] at hw; exact hw.elim
          | ok zs s' =>
            rw [ec] at hw
            dsimp only at hw
            by_cases hlen : zs.length ≤ sizeLine
            · rw [if_pos (decide_eq_true hlen)] at hw
              have hfin : ∀ w' H' b, Le w w' → w'.sm = ⟨(restore (w.ρ.set i .no) t.names s'.ρ).set i (.own (.lst ds)), s'.C⟩ → Rel X.K cl w' H' σ → RRep X.K cl w' H' σ b (.n (.lst zs)) → Q b H' := hw
              refine .inr ⟨w, c.rel, ?_⟩
              have el : ev Γ (.loc i) w.sm = .ok (.s i) w.sm := by
                show (match w.sm.ρ[i]? with | some (.own _) => _ | some (.val d) => _ | _ => _) = _
                rw [show w.sm.ρ[i]? = some (.own (.lst ds)) from e]
              rw [el]
              intro w' H' b le es R' rr
              have er : w'.ρ = w.ρ := congrArg Sm.ρ es
              have eC : w'.C = w.C := congrArg Sm.C es
              have rr : σ[i]? = some (some b) := rr
              obtain ⟨p, vs, hp, hH, hF, hB, ra, R1⟩ := rel_lend R' (by rw [er]; exact e)
              rw [rr] at hp
              cases hp
              refine ⟨p, rfl, ⟨vs, .inl (.inl hH)⟩, ?_⟩
              refine comp_core (s' := s') (zs := zs) (ds := ds) R1 (walks_kept upd_same ra) (by rw [er]; exact hall) (by show compL _ ds ⟨w'.ρ.set i .no, w'.C⟩ = _; rw [er, eC]; exact ec) hlen fun ι F H2 L acc gF gι R5 h1 h2 h3 h4 h5 => ?_
              have hl : i < (restore (w'.ρ.set i .no) t.names s'.ρ).length := by
                have := R5.len
                have this : σ.length = (restore (w'.ρ.set i .no) t.names s'.ρ).length := this
                rw [← this]
                exact (List.getElem?_eq_some_iff.mp rr).1
              have R6 := rel_back R5 hl rr hB (ra.mono gF gι)
              have hLp : L ≠ p := fun z => by
                have h2 : upd w'.B p (.lst vs) L = none := h2
                rw [z, upd_same] at h2
                cases h2
              have hBL : w'.B L = none := by
                have h2 : upd w'.B p (.lst vs) L = none := h2
                rw [upd_ne hLp] at h2
                exact h2
              refine hfin ⟨ι, F, w'.B, (restore (w'.ρ.set i .no) t.names s'.ρ).set i (.own (.lst ds)), s'.C⟩ H2 _ ⟨le.f.trans gF, le.b, fun c a q => gι c a (le.i c a q)⟩ (by rw [er]; rfl) R6 ⟨L, rfl, ⟨h1, hBL, _, h3, acc, rfl, h4⟩, fun j o ej z => ?_⟩
              cases j with
              | c j => exact h5 (.c j) o ej z
              | s j =>
                have ej := of_ob_s ej
                have ej : ((restore (w'.ρ.set i .no) t.names s'.ρ).set i (.own (.lst ds)))[j]? = some (.own o) := ej
                by_cases q : i = j
                · subst q
                  have z := of_addr_s z
                  rw [rr] at z
                  cases z
                  exact hLp rfl
                · rw [List.getElem?_set_ne q] at ej
                  exact h5 (.s j) o (ob_s ej) z
            · rw [if_neg (by simpa using hlen)] at hw
              exact hw.elim
        · rw [if_neg hall] at hw
          exact hw.elim
end
end IR

set_option Elab.async false
set_option linter.all false
set_option maxRecDepth 100000
/-! IrV: the compiler of expressions, and that it is right. -/
namespace IR
open PySem L2

def cTy (x : Str) : Option String :=
  if x = "list" then some "list" else if x = "tuple" then some "tuple" else if x = "str" then some "str" else if x = "bool" then some "bool" else if x = "int" then some "int" else none
/-- the names of a comprehension's block -/
def Nm.blk (nm : Nm) (scope : Scope) : Nm := { nm with sc := relS scope nm.sc, cells := (scope.names.filter fun y => match y.2 with | .cell => true | _ => false).map (·.1) }
def ownOf (nm : Nm) (t : Tg) : List (Str × Nat) := t.names.map fun i => (nm.N.getD i Str.empty, i)
def isTuple : Expr → Bool
  | .Tuple _ _ _ => true
  | _ => false

def freshE : Expr → Bool
  | .List _ _ => true
  | .Call _ _ _ _ => true
  | .ListComp _ _ _ _ => true
  | .Name _ _ => true
  | _ => false
def wrapT (nm : Nm) (f : Expr → Option E) (e : Expr) : Option E := if nm.tc && freshE e then (f e).map .cell else f e
section
variable (f : Expr → Option E) (fb : Nm → Expr → Option E) (fi : Bool → Expr → Option It')
def cName (nm : Nm) (x : Str) : Option E :=
  if okName x then match nm.slot x with
    | some i => some (.loc i)
    | none => if nm.isGl x && decide (x ∈ nm.consts) && decide (x ≠ "gcd") then some (.glob x) else none
  else none
def cConst : Const → Option E
  | .int i => some (.k (.int i))
  | .bool i => some (.k (.bl i))
  | .none => some (.k .non)
  | .str i => some (.k (.str i))
  | _ => none
def cBin (a : Expr) (op : Operator) (b : Expr) : Option E :=
  match cBop op, f a, f b with
  | some o, some x, some y => some (.bin o x y)
  | _, _, _ => none
def cUn (op : UnaryOp) (a : Expr) : Option E :=
  match op with
  | .USub => (f a).map .neg
  | .Not => (f a).map .not
  | _ => none
def cBoolE (op : BoolOp) (vs : List Expr) : Option E :=
  match op with
  | .And => cBool true f vs
  | .Or => cBool false f vs
def cIf (c a b : Expr) : Option E :=
  match f c, f a, f b with
  | some x, some y, some z => some (.ife x y z)
  | _, _, _ => none
def cCmp1 (a : Expr) (op : CmpOp) (b : Expr) : Option E :=
  if plainE b then match f a, f b with
    | some x, some y => some (.cmp (cCop op) x y)
    | _, _ => none
  else none
def cCmp2 (a : Expr) (op op' : CmpOp) (b c : Expr) : Option E :=
  if plainE c then match f a, f b, f c with
    | some x, some y, some z => some (.chain (cCop op) (cCop op') x y z)
    | _, _, _ => none
  else none
def cCompare (a : Expr) (ops : List CmpOp) (bs : List Expr) : Option E :=
  match ops, bs with
  | [op], [b] => cCmp1 f a op b
  | [op, op'], [b, c] => cCmp2 f a op op' b c
  | _, _ => none
def cSlc (a : Expr) (lo hi : Option Expr) : Option E :=
  match f a, cOpt f lo, cOpt f hi with
  | some x, some y, some z => some (.slc x y z)
  | _, _, _ => none
def cIdx (a b : Expr) : Option E :=
  if plainE b then match f a, f b with
    | some x, some y => some (.idx x y)
    | _, _ => none
  else none
def cSub (a : Expr) : Expr → Option E
  | .Slice lo hi st _ => match st with
    | none => cSlc f a lo hi
    | some _ => none
  | b => cIdx f a b
def cIsi (nm : Nm) (args : List Expr) : Option E :=
  match args with
  | [a, .Name t _] => match cTy t, f a with
    | some ty, some x => if plainE a && okName t && nm.isGl t && decide (t ∈ nm.blts) then some (.blt (.isinst ty) (.cons x .nil)) else none
    | _, _ => none
  | _ => none
def cCallN (nm : Nm) (g : Str) (args : List Expr) : Option E :=
  if okName g && nm.isGl g then
    if g ∈ nm.fns then (cList f args).map (.call g)
    else if g = "isinstance" ∧ g ∈ nm.blts then cIsi f nm args
    else if g = "gcd" ∧ g ∈ nm.consts then if args.length = 2 then (cList f args).map (.blt .gcd) else none
    else if g ∈ nm.blts then match cBlt g args.length with
      | some b => (cList f args).map (.blt b)
      | none => none
    else none
  else none
def cCall (nm : Nm) (fn : Expr) (args : List Expr) (kws : List Keyword) : Option E :=
  match fn with
  | .Name g _ => match kws with
    | [] => cCallN f nm g args
    | _ => none
  | _ => none
def cIfs (nm : Nm) (ifs : List Expr) : Option Es :=
  match ifs with
  | [] => some .nil
  | [c] => (fb nm c).map fun y => .cons y .nil
  | _ => none
def isLoc : Option E → Option Nat
  | some (.loc i) => some i
  | _ => none
theorem isLoc_of {o : Option E} {i : Nat} (h : isLoc o = some i) : o = some (.loc i) := by
  unfold isLoc at h
  split at h
  · cases h; rfl
  · cases h
def cLC1 (nm : Nm) (elt tg iter : Expr) (ifs : List Expr) (scope : Scope) : Option E :=
  match fi (isTuple tg) iter, cTg (nm.blk scope) tg, fb (nm.blk scope) elt, cIfs fb (nm.blk scope) ifs with
  | some it, some t, some x, some cs => if blkC nm.N nm.sc scope (ownOf nm t) then some (match isLoc (fb nm iter) with | some i => .compB t i cs x | none => .comp t it cs x) else none
  | _, _, _, _ => none
def cLC (nm : Nm) (elt : Expr) (gens : List Comprehension) (scope : Scope) : Option E :=
  match gens with
  | [g] => if g.is_async = 0 then cLC1 fb fi nm elt g.target g.iter g.ifs scope else none
  | _ => none
def cRng (nm : Nm) (g : Str) (x : Str) : Bool := nm.isGl g && decide (g = x) && decide (g ∈ nm.blts)
def cICall (nm : Nm) (tup : Bool) (e : Expr) (g : Str) (args : List Expr) : Option It' :=
  match args with
  | [a] => if cRng nm g "range" && plainE a then (f a).map .rng1 else if cRng nm g "enumerate" && plainE a && tup then (f a).map .enum else (f e).map .seq
  | [a, b] => if cRng nm g "range" && plainE a && plainE b then match f a, f b with
      | some x, some y => some (.rng2 x y)
      | _, _ => none
    else (f e).map .seq
  | _ => (f e).map .seq
end
mutual
def cE : Nat → Nm → Expr → Option E
  | 0, _, _ => none
  | n + 1, nm, e => match e with
    | .Name x _ => cName nm x
    | .Constant c _ _ => cConst c
    | .BinOp a op b _ => cBin (cE n nm) a op b
    | .UnaryOp op a _ => cUn (cE n nm) op a
    | .BoolOp op vs _ => cBoolE (cE n nm) op vs
    | .IfExp c a b _ => cIf (cE n nm) c a b
    | .Compare a ops bs _ => cCompare (cE n nm) a ops bs
    | .List es _ => (cList (cE n nm) es).map .lst
    | .Tuple es _ _ => (cList (wrapT nm (cE n nm)) es).map .tup
    | .Subscript a b _ => cSub (cE n nm) a b
    | .Call fn args kws _ => cCall (cE n nm) nm fn args kws
    | .ListComp elt gens scope _ => cLC (cE n) (cI n nm) nm elt gens scope
    | _ => none
def cI : Nat → Nm → Bool → Expr → Option It'
  | 0, _, _, _ => none
  | n + 1, nm, tup, e => match e with
    | .Call fn args kws _ => match fn with
      | .Name g _ => match kws with
        | [] => cICall (cE n nm) nm tup e g args
        | _ => none
      | _ => (cE n nm e).map .seq
    | e => (cE n nm e).map .seq
end
end IR

set_option Elab.async false
set_option linter.all false
set_option maxRecDepth 100000
/-! IrV2: the compiler of expressions is right. -/
namespace IR
open PySem L2

section
variable {cl : Str → Option Addr} {Γ : Gam} {k : Nat}
theorem cTy_of {t : Str} {ty : String} (h : cTy t = some ty) : bootBuiltins t = some (.type ty) := by
  unfold cTy at h
  split at h
  · rename_i e; cases h; subst e; decide +kernel
  split at h
  · rename_i e; cases h; subst e; decide +kernel
  split at h
  · rename_i e; cases h; subst e; decide +kernel
  split at h
  · rename_i e; cases h; subst e; decide +kernel
  split at h
  · rename_i e; cases h; subst e; decide +kernel
  cases h
def isTyB : Blt → Bool
  | .int => true
  | .list => true
  | .tuple => true
  | _ => false
def plainB : Blt → Bool
  | .gcd => false
  | .isinst _ => false
  | _ => true
theorem cBlt_of {f : Str} {n : Nat} {b : Blt} (h : cBlt f n = some b) : bootBuiltins f = some (bltV b) ∧ plainB b = true ∧ n ≠ 0 := by
  unfold cBlt at h
  repeat' (split at h)
  all_goals first
    | (cases h; done)
    | (rename_i e1 e2
       cases h
       subst e1
       refine ⟨by decide +kernel, rfl, by omega⟩)
    | (rename_i e1 e2 e3
       cases h
       subst e1
       refine ⟨by decide +kernel, rfl, by omega⟩)

theorem hyp_blk {X : Cx} {nm : Nm} {W : WX} (h : Hyp X nm W cl Γ k) {scope : Scope} {own : List (Str × Nat)} (ok : BlkOk X.N X.env.scope scope own) (s : Shared) (H : Hp) (C : Addr) (cl' : List (Str × Addr)) (fp : List Addr) :
    Hyp (X.blk s H scope (compEnvC scope cl' C X.env) fp) (nm.blk scope) W0 cl Γ k where
  hN := h.hN
  hsc := by
    show relS scope X.env.scope = relS scope nm.sc
    rw [h.hsc]
  nd := h.nd
  calm := h.calm
  room := h.room
  env := h.env
  tk := takes0
  fn := fun x hx => by
    obtain ⟨y, hy, rfl⟩ := List.mem_map.mp hx
    obtain ⟨hy1, hy2⟩ := List.mem_filter.mp hy
    have e := ok.uniq y hy1
    show (scope.names.lookup y.1 == some .cell) = true
    rw [e]
    cases q : y.2 <;> rw [q] at hy2 <;> first | rfl | cases hy2

theorem fold_of {e : Expr} {env : Env} (h : plainE e = true) : ∀ x, foldedSetIterable e env x = pure x := by
  intro x
  cases e <;> first | rfl | cases h

/-- what a comprehension's parts are -/
structure CompOk (cl : Str → Option Addr) (Γ : Gam) (X : Cx) (W : WX) (elt tg iter : Expr) (ifs : List Expr) (scope : Scope) (own : List (Str × Nat)) (t : Tg) (it : It') (cs : Es) (x : E) : Prop where
  hi : PI X tg iter (tI X.K cl W Γ it)
  ok : BlkOk X.N X.env.scope scope own
  ho : own.map (·.2) = t.names
  hg : ∀ (s : Shared) (H : Hp) (C : Addr) (cl' : List (Str × Addr)) (fp : List Addr), PG (X.blk s H scope (compEnvC scope cl' C X.env) fp) tg (gD X.K cl t)
  ht : ∀ (s : Shared) (H : Hp) (C : Addr) (cl' : List (Str × Addr)) (fp : List Addr), PTs (X.blk s H scope (compEnvC scope cl' C X.env) fp) ifs (Run X.K cl W0 (fun _ _ _ (b : Bool) a => b = a) (tvs Γ cs))
  he : ∀ (s : Shared) (H : Hp) (C : Addr) (cl' : List (Str × Addr)) (fp : List Addr), PE (X.blk s H scope (compEnvC scope cl' C X.env) fp) elt (tE X.K cl W0 Γ x)
  hs : ∀ x, foldedSetIterable iter X.env x = pure x

def SoundE (cl : Str → Option Addr) (Γ : Gam) (k n : Nat) : Prop := ∀ (nm : Nm) (e : Expr) (ir : E), cE n nm e = some ir → ∀ (X : Cx) (W : WX), Hyp X nm W cl Γ k → PB X W cl Γ e ir
def SoundI (cl : Str → Option Addr) (Γ : Gam) (k n : Nat) : Prop := ∀ (nm : Nm) (tup : Bool) (e : Expr) (it : It'), cI n nm tup e = some it → ∀ (X : Cx) (W : WX) (tg : Expr), Hyp X nm W cl Γ k → (tup = true → isTuple tg = true) → PI X tg e (tI X.K cl W Γ it) ∧ plainE e = true

theorem s_cellE {X : Cx} {W : WX} {e : Expr} {x : E} (h : PE X e (tE X.K cl W Γ x)) : PE X e (tE X.K cl W Γ (.cell x)) := by
  refine h.imp fun σ H Q ⟨w, c⟩ => ?_
  have c1 : Cont X.K cl W (RRep X.K cl) w H σ (M.bind (ev Γ x) cellV) Q := c
  refine ⟨w, (c1.bind (RS := RRep X.K cl)).imp fun v H1 ⟨w1, r, le1, rr, c2⟩ => ?_⟩
  cases r with
  | v d => exact Cont.end (a := Rv.v d) (RR := RRep X.K cl) c2 rr
  | s i =>
    have rr : σ[i]? = some (some v) := rr
    have hw := c2.wp
    have hw : wpO ((match w1.ρ[i]? with | some (.own o) => Out.ok (Rv.v (.ref w1.C.length)) ⟨w1.ρ.set i (.val (.ref w1.C.length)), w1.C ++ [some o]⟩ | some (.val d) => .ok (.v d) w1.sm | _ => .bad) : Out Rv) (fun a s => ∀ w' H' b, Le w1 w' → w'.sm = s → Rel X.K cl w' H' σ → RRep X.K cl w' H' σ b a → Q b H') (XC X.K cl W w1 σ) := hw
    cases e : w1.ρ[i]? with
    | none => rw [e] at hw; exact hw.elim
    | some sl =>
      rw [e] at hw
      cases sl with
      | no => exact hw.elim
      | val d =>
        obtain ⟨v', h1, h2⟩ := c2.rel.val i d e
        rw [rr] at h1
        cases h1
        exact hw w1 H1 v (Le.refl _) rfl c2.rel h2
      | own o =>
        obtain ⟨p, h1, oa⟩ := c2.rel.own _ _ (ob_s e)
        have h1' := of_addr_s h1
        rw [rr] at h1'
        cases h1'
        have hi : i < w1.ρ.length := (List.getElem?_eq_some_iff.mp e).1
        have R2 := c2.rel.forget (i := i)
        obtain ⟨R3, le3, top⟩ := R2.newC0 (p := p) (o := o) ⟨oa.fr, oa.br, oa.at'⟩ fun j o' ej z => by
          cases j with
          | c j => exact nomatch c2.rel.inj (.s i) (.c j) o o' p (ob_s e) ej h1 z
          | s j =>
            have ej := of_ob_s ej
            have ej : (w1.ρ.set i .no)[j]? = some (.own o') := ej
            by_cases q : i = j
            · subst q
              rw [List.getElem?_set_self hi] at ej
              cases ej
            · rw [List.getElem?_set_ne q] at ej
              exact q (by
                have := c2.rel.inj (.s i) (.s j) o o' p (ob_s e) (ob_s ej) h1 z
                cases this
                rfl)
        have R4 := R3.set (i := i) (v := .ref p) (d := .ref w1.C.length) (by show i < (w1.ρ.set i .no).length; rw [List.length_set]; exact hi) (.ref top)
        have eσ : σ.set i (some (.ref p)) = σ := by
          apply List.ext_getElem?
          intro j
          by_cases q : i = j
          · subst q
            rw [List.getElem?_set_self (List.getElem?_eq_some_iff.mp rr).1, rr]
          · rw [List.getElem?_set_ne q]
        rw [eσ] at R4
        refine hw ⟨w1.ι ++ [p], w1.F, w1.B, (w1.ρ.set i .no).set i (.val (.ref w1.C.length)), w1.C ++ [some o]⟩ H1 (.ref p) ⟨le3.f, le3.b, le3.i⟩ ?_ R4 (.ref top)
        show (⟨(w1.ρ.set i .no).set i (.val (.ref w1.C.length)), w1.C ++ [some o]⟩ : Sm) = _
        rw [List.set_set]
  | n o =>
    obtain ⟨p, rfl, oa, hn⟩ := rr
    obtain ⟨R2, le2, top⟩ := c2.rel.newC0 oa hn
    exact c2.wp _ H1 (.ref p) le2 rfl R2 (.ref top)
theorem s_tests {X : Cx} {W : WX} {c : Expr} {y : E} (h : PT X c (tT X.K cl W Γ y)) : PTs X [c] (Run X.K cl W (fun _ _ _ (b : Bool) a => b = a) (tvs Γ (.cons y .nil))) := by
  refine (pts_one h).imp fun σ H Q ⟨w, c⟩ => ⟨w, c.at ?_⟩
  show (M.bind (ev Γ y) fun v => M.bind (peekM v) fun x => M.bind (test x) fun k => if k then M.pure true else M.pure false) w.sm = (M.bind (ev Γ y) fun r => M.bind (peekM r) test) w.sm
  refine congrFun (bind_congr fun v => bind_congr fun x => ?_) _
  funext s
  unfold M.bind Out.bind
  cases test x s with
  | ok b s => cases b <;> rfl
  | exc x s => rfl
  | bad => rfl

theorem comp_parts {n : Nat} (hE : SoundE cl Γ k n) (hI : SoundI cl Γ k n) {nm : Nm} {elt tg iter : Expr} {ifs : List Expr} {scope : Scope} {ir : E} (h : cLC1 (cE n) (cI n nm) nm elt tg iter ifs scope = some ir) :
    ∃ own t it cs x, (ir = .comp t it cs x ∨ ∃ i, cE n nm iter = some (.loc i) ∧ ir = .compB t i cs x) ∧ ∀ (X : Cx) (W : WX), Hyp X nm W cl Γ k → CompOk cl Γ X W elt tg iter ifs scope own t it cs x := by
  unfold cLC1 at h
  split at h
  · rename_i it t x cs h1 h2 h3 h4
    split at h
    · rename_i hb
      have hor : ir = .comp t it cs x ∨ ∃ i, cE n nm iter = some (.loc i) ∧ ir = .compB t i cs x := by
        cases q : isLoc (cE n nm iter) with
        | none => rw [q] at h; cases h; exact .inl rfl
        | some i => rw [q] at h; cases h; exact .inr ⟨i, isLoc_of q, rfl⟩
      refine ⟨ownOf nm t, t, it, cs, x, hor, fun X W hX => ?_⟩
      have ok : BlkOk X.N X.env.scope scope (ownOf nm t) := by
        rw [hX.hN, hX.hsc]
        exact blkOk_by hb
      obtain ⟨p1, p2⟩ := hI nm (isTuple tg) iter it h1 X W tg hX fun z => z
      refine ⟨p1, ok, ?_, fun s H C cl' fp => pg_tg (hyp_blk hX ok s H C cl' fp) h2, fun s H C cl' fp => ?_, fun s H C cl' fp => (hE _ _ _ h3 _ _ (hyp_blk hX ok s H C cl' fp)).1, fold_of p2⟩
      · unfold ownOf
        rw [List.map_map]
        exact (List.map_congr_left fun _ _ => rfl).trans (List.map_id _)
      · unfold cIfs at h4
        split at h4
        · cases h4
          exact pts_nil.imp fun σ H Q ⟨w, c⟩ => Cont.end (a := true) c rfl
        · obtain ⟨y, h5, rfl⟩ := map_some h4
          exact s_tests (hE _ _ _ h5 _ _ (hyp_blk hX ok s H C cl' fp)).2
        · cases h4
    · cases h
  · cases h
theorem notCmp (e : Expr) (X : Cx) (W : WX) (x : E) (he : PE X e (tE X.K cl W Γ x)) (h : plainT e = true) : PB X W cl Γ e x :=
  ⟨he, pt_val' he fun whole => plain_true e h whole⟩

theorem s_blt {X : Cx} {nm : Nm} {W : WX} (h : Hyp X nm W cl Γ k) {f : Str} {p pos : Pos} {e : Expr} {es : List Expr} {irs : Es} {b : Blt} (hp : plainE e = true) (hps : es.all plainE = true) (hg : nm.isGl f = true) (hn : okName f = true) (hm : X.mg f = none) (hv : bootBuiltins f = some (bltV b)) (hb : plainB b = true)
    (ha : PA X (e :: es) (Run X.K cl W (RHs X.K cl) (evH Γ irs))) : PE X (.Call (.Name f p) (e :: es) [] pos) (tE X.K cl W Γ (.blt b irs)) := by
  obtain ⟨r, hr, hs⟩ := sim_blt (cl := cl) X h.calm b
  obtain ⟨n1, _, n2⟩ := okName_of hn
  have hpl : ∀ {es : List Expr}, es.all plainE = true → (backTo pos (starEach es X.env)).any (·.1) = false := fun {es} => by
    induction es with
    | nil => intro _; rfl
    | cons e es ih =>
      intro q
      rw [List.all_cons, Bool.and_eq_true] at q
      rw [star_of q.1]
      show (false || (backTo pos (starEach es X.env)).any (·.1)) = false
      rw [ih q.2]
      rfl
  have go : ∀ σ H Q, tE X.K cl W Γ (.blt b irs) σ H Q → tCB r (Run X.K cl W (RHs X.K cl) (evH Γ irs)) σ H Q := fun σ H Q ⟨w, c⟩ => by
    have c1 : Cont X.K cl W (RRep X.K cl) w H σ (M.bind (evH Γ irs) fun rs => fun s => match peeks s.ρ s.C rs with
      | some ds => match opBlt b ds with
        | some r => .ok r s
        | none => .bad
      | none => .bad) Q := c
    refine ⟨w, (c1.bind (RS := RHs X.K cl)).imp fun vs H1 ⟨w1, rs, le1, rh, c2⟩ => ?_⟩
    have hw := c2.wp
    cases e1 : peeks w1.ρ w1.C rs with
    | none =>
      have e1' : peeks w1.sm.ρ w1.sm.C rs = none := e1
      rw [e1'] at hw
      exact hw.elim
    | some ds =>
      have e1' : peeks w1.sm.ρ w1.sm.C rs = some ds := e1
      rw [e1'] at hw
      dsimp only at hw
      cases e2 : opBlt b ds with
      | none => rw [e2] at hw; exact hw.elim
      | some res =>
        rw [e2] at hw
        have q : r (bltArgs b vs) H1 Q := hs w1 H1 σ vs ds res Q c2.rel (rh.peeks c2.rel e1) e2 hw
        have ea : bltArgs b vs = vs := by cases b <;> first | rfl | cases hb
        rw [ea] at q
        exact q
  have he := star_of (es := es) (env := X.env) hp
  cases b with
  | int => exact (pe_callTy hr (isGl_of h hg) hm hv ha n2 n1 he (hpl hps)).imp go
  | list => exact (pe_callTy hr (isGl_of h hg) hm hv ha n2 n1 he (hpl hps)).imp go
  | tuple => exact (pe_callTy hr (isGl_of h hg) hm hv ha n2 n1 he (hpl hps)).imp go
  | gcd => cases hb
  | isinst t => cases hb
  | _ => exact (pe_callB hr (isGl_of h hg) hm hv ha n2 n1 he (hpl hps)).imp go
theorem cList_plain {f : Expr → Option E} : ∀ {es : List Expr} {irs : Es}, cList f es = some irs → es.all plainE = true
  | [], _, _ => rfl
  | e :: es, irs, h => by
    unfold cList at h
    split at h
    · rename_i hp
      split at h
      · rename_i a as h1 h2
        rw [List.all_cons, hp, cList_plain h2]
        rfl
      · cases h
    · cases h
theorem any_star {es : List Expr} {env : Env} {pos : Pos} : es.all plainE = true → (backTo pos (starEach es env)).any (·.1) = false := by
  induction es with
  | nil => intro _; rfl
  | cons e es ih =>
    intro q
    rw [List.all_cons, Bool.and_eq_true] at q
    rw [star_of q.1]
    show (false || (backTo pos (starEach es env)).any (·.1)) = false
    rw [ih q.2]
    rfl
theorem s_call {X : Cx} {nm : Nm} {W : WX} (h : Hyp X nm W cl Γ k) {f : Str} {p pos : Pos} {es : List Expr} {irs : Es} (hps : es.all plainE = true) (hg : nm.isGl f = true) (hn : okName f = true) (hf : f ∈ nm.fns) (h0 : es = [] → irs = .nil)
    (ha : PA X es (Run X.K cl W (RHs X.K cl) (evH Γ irs))) : PE X (.Call (.Name f p) es [] pos) (tE X.K cl W Γ (.call f irs)) := by
  obtain ⟨a, fd, ps, hm, hk, hb, F⟩ := h.env.call f hf
  obtain ⟨n1, _, n2⟩ := okName_of hn
  have fin : ∀ {σ H Q w}, Cont X.K cl W (RRep X.K cl) w H σ (M.bind (evH Γ irs) fun rs => callM Γ f rs) Q → Run X.K cl W (RHs X.K cl) (evH Γ irs) σ H fun vs H1 => spD X.K cl (Γ.call f) vs H1 Q (WE W σ) := fun {σ H Q w} c => by
    refine ⟨w, (c.bind (RS := RHs X.K cl)).imp fun vs H1 ⟨w1, rs, le1, rh, c2⟩ => ?_⟩
    cases q : Γ.isPure f with
    | true => exact call_pure q c2 rh
    | false => exact call_impure q c2 rh
  cases es with
  | nil =>
    refine ⟨fun pins s σ H Q I ⟨w, c⟩ => ?_⟩
    have e0 := h0 rfl
    subst e0
    have c2 : Cont X.K cl W (RRep X.K cl) w H σ (callM Γ f []) Q := c.at rfl
    have q : spD X.K cl (Γ.call f) [] H Q (WE W σ) := by
      cases q : Γ.isPure f with
      | true => exact call_pure q c2 .nil
      | false => exact call_impure q c2 .nil
    refine wpAny_Call_Name_kw (ld_glob I (isGl_of h hg) hm ?_ n1)
    exact PySem.W.callWith_K0 I.kIn hk (run_fnS (us := []) F h.room hb (passAt h.tk σ) I .nil q)
  | cons e es =>
    rw [List.all_cons, Bool.and_eq_true] at hps
    exact (pe_callS F h.room (isGl_of h hg) hm hk hb (fun σ => passAt h.tk σ) ha n1 (star_of hps.1) (any_star hps.2)).imp fun σ H Q ⟨w, c⟩ => fin c

theorem cE_plain {n : Nat} {nm : Nm} {e : Expr} {ir : E} (h : cE n nm e = some ir) : plainE e = true := by
  cases n with
  | zero => cases h
  | succ n => cases e <;> first | rfl | cases h

theorem s_isi {X : Cx} {nm : Nm} {W : WX} (h : Hyp X nm W cl Γ k) {a : Expr} {t : Str} {ty : String} {x : E} {p p2 pos : Pos} (hg : nm.isGl "isinstance" = true) (hb : ("isinstance" : Str) ∈ nm.blts) (ht : cTy t = some ty) (hpa : plainE a = true) (htn : okName t = true) (htg : nm.isGl t = true) (htb : t ∈ nm.blts)
    (ha : PE X a (tE X.K cl W Γ x)) : PE X (.Call (.Name "isinstance" p) [a, .Name t p2] [] pos) (tE X.K cl W Γ (.blt (.isinst ty) (.cons x .nil))) := by
  obtain ⟨r, hr, hs⟩ := sim_blt (cl := cl) X h.calm (.isinst ty)
  obtain ⟨n1, _, n2⟩ := okName_of htn
  have ht2 : PE X (.Name t p2) (tC (.ty ty)) := pe_bltn (isGl_of h htg) (h.env.blt _ htb) (cTy_of ht) rfl n2 n1
  refine (pe_callB hr (isGl_of h hg) (h.env.blt _ hb) (by decide +kernel) (pa_cons ha (pa_cons ht2 pa_nil (star_of rfl)) (star_of hpa)) (by decide) (by decide) (star_of hpa) (any_star rfl)).imp fun σ H Q ⟨w, c⟩ => ?_
  have c1 : Cont X.K cl W (RRep X.K cl) w H σ (M.bind (ev Γ x) fun v => M.bind (hold v) fun v => fun s => match peeks s.ρ s.C [v] with
      | some ds => match opBlt (.isinst ty) ds with
        | some r => .ok r s
        | none => .bad
      | none => .bad) Q := by
    refine c.at ?_
    show M.bind (M.bind (ev Γ x) _) _ w.sm = _
    rw [bind_assoc]
    refine congrFun (bind_congr fun v => ?_) _
    rw [bind_assoc]
    rfl
  refine ⟨w, (c1.bind (RS := RRep X.K cl)).imp fun v H1 ⟨w1, r1, le1, rr1, c2⟩ => ?_⟩
  obtain ⟨w2, r2, le2, rr2, hd, c3⟩ := c2.hold rr1
  have hw := c3.wp
  have rh : RHs X.K cl w2 H1 σ [v] [r2] := .cons rr2 hd .nil
  cases e1 : peeks w2.ρ w2.C [r2] with
  | none =>
    have e1' : peeks w2.sm.ρ w2.sm.C [r2] = none := e1
    rw [e1'] at hw
    exact hw.elim
  | some ds =>
    have e1' : peeks w2.sm.ρ w2.sm.C [r2] = some ds := e1
    rw [e1'] at hw
    dsimp only at hw
    cases e2 : opBlt (.isinst ty) ds with
    | none => rw [e2] at hw; exact hw.elim
    | some res =>
      rw [e2] at hw
      exact hs w2 H1 σ [v] ds res Q c3.rel (rh.peeks c3.rel e1) e2 hw
theorem s_gcd {X : Cx} {nm : Nm} {W : WX} (h : Hyp X nm W cl Γ k) {p pos : Pos} {e : Expr} {es : List Expr} {irs : Es} (hps : (e :: es).all plainE = true) (hg : nm.isGl "gcd" = true) (hc : ("gcd" : Str) ∈ nm.consts)
    (ha : PA X (e :: es) (Run X.K cl W (RHs X.K cl) (evH Γ irs))) : PE X (.Call (.Name "gcd" p) (e :: es) [] pos) (tE X.K cl W Γ (.blt .gcd irs)) := by
  obtain ⟨r, hr, hs⟩ := sim_blt (cl := cl) X h.calm .gcd
  rw [List.all_cons, Bool.and_eq_true] at hps
  refine (pe_callBfun hr (isGl_of h hg) (h.env.gcd hc) ha (by decide) (star_of hps.1) (any_star hps.2)).imp fun σ H Q ⟨w, c⟩ => ?_
  have c1 : Cont X.K cl W (RRep X.K cl) w H σ (M.bind (evH Γ irs) fun rs => fun s => match peeks s.ρ s.C rs with
      | some ds => match opBlt .gcd ds with
        | some r => .ok r s
        | none => .bad
      | none => .bad) Q := c
  refine ⟨w, (c1.bind (RS := RHs X.K cl)).imp fun vs H1 ⟨w1, rs, le1, rh, c2⟩ => ?_⟩
  have hw := c2.wp
  cases e1 : peeks w1.ρ w1.C rs with
  | none =>
    have e1' : peeks w1.sm.ρ w1.sm.C rs = none := e1
    rw [e1'] at hw
    exact hw.elim
  | some ds =>
    have e1' : peeks w1.sm.ρ w1.sm.C rs = some ds := e1
    rw [e1'] at hw
    dsimp only at hw
    cases e2 : opBlt .gcd ds with
    | none => rw [e2] at hw; exact hw.elim
    | some res =>
      rw [e2] at hw
      exact hs w1 H1 σ vs ds res Q c2.rel (rh.peeks c2.rel e1) e2 hw

theorem s_callN {n : Nat} (hE : SoundE cl Γ k n) {nm : Nm} {g : Str} {args : List Expr} {ir : E} {p pos : Pos} (h : cCallN (cE n nm) nm g args = some ir) {X : Cx} {W : WX} (hX : Hyp X nm W cl Γ k) : PE X (.Call (.Name g p) args [] pos) (tE X.K cl W Γ ir) := by
  have hf : ∀ e ir, cE n nm e = some ir → PE X e (tE X.K cl W Γ ir) := fun e ir q => (hE nm e ir q X W hX).1
  unfold cCallN at h
  split at h
  · rename_i hq
    rw [Bool.and_eq_true] at hq
    obtain ⟨hn, hg⟩ := hq
    split at h
    · rename_i hfn
      obtain ⟨irs, h1, rfl⟩ := map_some h
      exact s_call hX (cList_plain h1) hg hn hfn (fun z => by rw [z] at h1; cases h1; rfl) (pa_evH hf args irs h1)
    · split at h
      · rename_i hz
        obtain ⟨rfl, hz⟩ := hz
        unfold cIsi at h
        split at h
        · rename_i a t p2
          split at h
          · rename_i ty x h1 h2
            split at h
            · rename_i hq
              cases h
              rw [Bool.and_eq_true, Bool.and_eq_true, Bool.and_eq_true, decide_eq_true_eq] at hq
              exact s_isi hX hg hz h1 hq.1.1.1 hq.1.1.2 hq.1.2 hq.2 (hf _ _ h2)
            · cases h
          · cases h
        · cases h
      · split at h
        · rename_i hz
          obtain ⟨rfl, hz⟩ := hz
          split at h
          · rename_i hl
            obtain ⟨irs, h1, rfl⟩ := map_some h
            cases args with
            | nil => cases hl
            | cons e es => exact s_gcd hX (cList_plain h1) hg hz (pa_evH hf _ irs h1)
          · cases h
        · split at h
          · rename_i hz
            split at h
            · rename_i b hb
              obtain ⟨irs, h1, rfl⟩ := map_some h
              obtain ⟨b1, b2, b3⟩ := cBlt_of hb
              cases args with
              | nil => exact absurd rfl b3
              | cons e es =>
                have hp := cList_plain h1
                rw [List.all_cons, Bool.and_eq_true] at hp
                exact s_blt hX hp.1 hp.2 hg hn (hX.env.blt _ hz) b1 b2 (pa_evH hf _ irs h1)
            · cases h
          · cases h
  · cases h
theorem s_sub {n : Nat} (hE : SoundE cl Γ k n) {nm : Nm} {a b : Expr} {ir : E} {pos : Pos} (h : cSub (cE n nm) a b = some ir) {X : Cx} {W : WX} (hX : Hyp X nm W cl Γ k) : PE X (.Subscript a b pos) (tE X.K cl W Γ ir) := by
  have hf : ∀ e ir, cE n nm e = some ir → PE X e (tE X.K cl W Γ ir) := fun e ir q => (hE nm e ir q X W hX).1
  have idx : cIdx (cE n nm) a b = some ir → PE X (.Subscript a b pos) (tE X.K cl W Γ ir) := fun h => by
    unfold cIdx at h
    split at h
    · rename_i hp
      split at h
      · rename_i x y h1 h2
        cases h
        exact s_idx hp (hf _ _ h1) (hf _ _ h2)
      · cases h
    · cases h
  cases b with
  | Slice lo hi st p2 =>
    cases st with
    | some _ => cases h
    | none =>
      have h : cSlc (cE n nm) a lo hi = some ir := h
      unfold cSlc at h
      split at h
      · rename_i x y z h1 h2 h3
        cases h
        exact s_slc (hf _ _ h1) (s_opt hf h2) (s_opt hf h3)
      · cases h
  | _ => exact idx h
theorem s_compare {n : Nat} (hE : SoundE cl Γ k n) {nm : Nm} {a : Expr} {ops : List CmpOp} {bs : List Expr} {ir : E} {pos : Pos} (h : cCompare (cE n nm) a ops bs = some ir) {X : Cx} {W : WX} (hX : Hyp X nm W cl Γ k) : PB X W cl Γ (.Compare a ops bs pos) ir := by
  have hf : ∀ e ir, cE n nm e = some ir → PE X e (tE X.K cl W Γ ir) := fun e ir q => (hE nm e ir q X W hX).1
  unfold cCompare at h
  split at h
  · unfold cCmp1 at h
    split at h
    · rename_i hp
      split at h
      · rename_i x y h1 h2
        cases h
        exact s_cmp hX hp (hf _ _ h1) (hf _ _ h2)
      · cases h
    · cases h
  · unfold cCmp2 at h
    split at h
    · rename_i hp
      split at h
      · rename_i x y z h1 h2 h3
        cases h
        exact s_chain hX hp (hf _ _ h1) (hf _ _ h2) (hf _ _ h3)
      · cases h
    · cases h
  · cases h
theorem cRng_of {nm : Nm} {g x : Str} (h : cRng nm g x = true) : nm.isGl x = true ∧ x ∈ nm.blts ∧ g = x := by
  unfold cRng at h
  rw [Bool.and_eq_true, Bool.and_eq_true, decide_eq_true_eq, decide_eq_true_eq] at h
  obtain ⟨⟨h1, rfl⟩, h2⟩ := h
  exact ⟨h1, h2, rfl⟩
theorem sound : ∀ n, SoundE cl Γ k n ∧ SoundI cl Γ k n
  | 0 => ⟨fun nm e ir h => (by cases h), fun nm tup e it h => (by cases h)⟩
  | n + 1 => by
    obtain ⟨hE, hI⟩ := sound n
    constructor
    · intro nm e ir h X W hX
      have hf : ∀ e ir, cE n nm e = some ir → PE X e (tE X.K cl W Γ ir) := fun e ir q => (hE nm e ir q X W hX).1
      have hb : ∀ e ir, cE n nm e = some ir → PB X W cl Γ e ir := fun e ir q => hE nm e ir q X W hX
      cases e with
      | Name x pos =>
        have h : cName nm x = some ir := h
        unfold cName at h
        split at h
        · rename_i hx
          split at h
          · rename_i i hs
            cases h
            exact notCmp _ X W _ (s_var hX hx hs) rfl
          · split at h
            · rename_i hq
              cases h
              rw [Bool.and_eq_true, Bool.and_eq_true, decide_eq_true_eq, decide_eq_true_eq] at hq
              exact notCmp _ X W _ (s_glob hX hx hq.1.1 hq.1.2 hq.2) rfl
            · cases h
        · cases h
      | Constant c j pos =>
        have h : cConst c = some ir := h
        cases c <;> first | (cases h; done) | skip
        all_goals cases h
        all_goals first
          | exact notCmp _ X W _ (s_k pe_non fun _ _ => .non) rfl
          | exact notCmp _ X W _ (s_k pe_bl fun _ _ => .bl _) rfl
          | exact notCmp _ X W _ (s_k pe_int fun _ _ => .int _) rfl
          | exact notCmp _ X W _ (s_k pe_str fun _ _ => .str _) rfl
      | BinOp a op b pos =>
        have h : cBin (cE n nm) a op b = some ir := h
        unfold cBin at h
        split at h
        · rename_i o x y h1 h2 h3
          cases h
          have eo : op = bopS o := by cases op <;> cases h1 <;> rfl
          subst eo
          exact notCmp _ X W _ (s_bin (hf _ _ h2) (hf _ _ h3)) rfl
        · cases h
      | UnaryOp op a pos =>
        have h : cUn (cE n nm) op a = some ir := h
        cases op with
        | USub =>
          obtain ⟨x, h1, rfl⟩ := map_some (show (cE n nm a).map E.neg = some ir from h)
          exact notCmp _ X W _ (s_neg (hf _ _ h1)) rfl
        | Not =>
          obtain ⟨x, h1, rfl⟩ := map_some (show (cE n nm a).map E.not = some ir from h)
          exact s_not (hb _ _ h1).1 (hb _ _ h1).2
        | _ => cases h
      | BoolOp op vs pos =>
        have h : cBoolE (cE n nm) op vs = some ir := h
        cases op with
        | And =>
          obtain ⟨p, t⟩ := s_bool hb (pos := pos) vs ir h
          exact ⟨p, t.pt⟩
        | Or =>
          obtain ⟨p, t⟩ := s_boolO hb (pos := pos) vs ir h
          exact ⟨p, t.pt⟩
      | IfExp c a b pos =>
        have h : cIf (cE n nm) c a b = some ir := h
        unfold cIf at h
        split at h
        · rename_i x y z h1 h2 h3
          cases h
          exact s_ife (hb _ _ h1).2 (hb _ _ h2) (hb _ _ h3)
        · cases h
      | Compare a ops bs pos => exact s_compare hE h hX
      | List es pos =>
        obtain ⟨irs, h1, rfl⟩ := map_some (show (cList (cE n nm) es).map E.lst = some ir from h)
        exact notCmp _ X W _ (s_lst (pa_evs hf es irs h1)) rfl
      | Tuple es j pos =>
        obtain ⟨irs, h1, rfl⟩ := map_some (show (cList (wrapT nm (cE n nm)) es).map E.tup = some ir from h)
        refine notCmp _ X W _ (s_tup (pa_evs (fun e ir q => ?_) es irs h1)) rfl
        unfold wrapT at q
        split at q
        · obtain ⟨ir', q1, rfl⟩ := map_some q
          exact s_cellE (hf e ir' q1)
        · exact hf e ir q
      | Subscript a b pos => exact notCmp _ X W _ (s_sub hE h hX) rfl
      | Call fn args kws pos =>
        have h : cCall (cE n nm) nm fn args kws = some ir := h
        unfold cCall at h
        split at h
        · split at h
          · exact notCmp _ X W _ (s_callN hE h hX) rfl
          · cases h
        · cases h
      | ListComp elt gens scope pos =>
        have h : cLC (cE n) (cI n nm) nm elt gens scope = some ir := h
        match gens, h with
        | [⟨tg, iter, ifs, as⟩], h =>
          have h : (if as = 0 then cLC1 (cE n) (cI n nm) nm elt tg iter ifs scope else none) = some ir := h
          by_cases ha : as = 0
          · rw [if_pos ha] at h
            subst ha
            obtain ⟨own, t, it, cs, x, hor, hc⟩ := comp_parts hE hI h
            obtain ⟨hi, ok, ho, hg, ht, he, hs⟩ := hc X W hX
            rcases hor with rfl | ⟨i, e1, rfl⟩
            · obtain ⟨te, p1, p2⟩ := (s_comp hX.calm hX.nd (pos := pos) hi ok ho hg ht he hs).1
              exact notCmp _ X W _ (p1.imp p2) rfl
            · obtain ⟨p1, p2⟩ := s_compB hX.calm hX.nd (pos := pos) (hf _ _ e1) ok ho hg ht he hs
              exact notCmp _ X W _ ((pe_lc hX.calm hX.nd p1 ok hg ht he hs).imp p2) rfl
          · rw [if_neg ha] at h
            cases h
        | [], h => cases h
        | _ :: _ :: _, h => cases h
      | _ => cases h
    · intro nm tup e it h X W tg hX htg
      have hf : ∀ e ir, cE n nm e = some ir → PE X e (tE X.K cl W Γ ir) := fun e ir q => (hE nm e ir q X W hX).1
      have seq : (cE n nm e).map It'.seq = some it → PI X tg e (tI X.K cl W Γ it) ∧ plainE e = true := fun h => by
        obtain ⟨x, h1, rfl⟩ := map_some h
        exact ⟨s_seq (hf _ _ h1), cE_plain h1⟩
      cases e with
      | Call fn args kws pos =>
        cases fn with
        | Name g p =>
          cases kws with
          | cons _ _ => cases h
          | nil =>
            have h : cICall (cE n nm) nm tup (.Call (.Name g p) args [] pos) g args = some it := h
            unfold cICall at h
            split at h
            · rename_i a
              split at h
              · rename_i hq
                rw [Bool.and_eq_true] at hq
                obtain ⟨q1, q2, rfl⟩ := cRng_of hq.1
                obtain ⟨x, h1, rfl⟩ := map_some h
                exact ⟨pi_rng1 hX q1 q2 hq.2 (hf _ _ h1), rfl⟩
              · split at h
                · rename_i hq
                  rw [Bool.and_eq_true, Bool.and_eq_true] at hq
                  obtain ⟨q1, q2, rfl⟩ := cRng_of hq.1.1
                  obtain ⟨x, h1, rfl⟩ := map_some h
                  have ht := htg hq.2
                  cases tg with
                  | Tuple elts kk tpos => exact ⟨s_enum hX q1 q2 hq.1.2 (hf _ _ h1), rfl⟩
                  | _ => cases ht
                · exact seq h
            · rename_i a b
              split at h
              · rename_i hq
                rw [Bool.and_eq_true, Bool.and_eq_true] at hq
                obtain ⟨q1, q2, rfl⟩ := cRng_of hq.1.1
                split at h
                · rename_i x y h1 h2
                  cases h
                  exact ⟨pi_rng2 hX q1 q2 hq.1.2 hq.2 (hf _ _ h1) (hf _ _ h2), rfl⟩
                · cases h
              · exact seq h
            · exact seq h
        | _ => exact seq h
      | _ => exact seq h
end
end IR

set_option Elab.async false
set_option linter.all false
set_option maxRecDepth 100000
/-! IrW: statements: how a run of one goes on; objects changed; new owners. -/
namespace IR
open PySem L2

/-- where a statement ends -/
def FlOk (K : PySem.W.Frag) (cl : Str → Option Addr) (D : Ends) (w : Wd) (H : Hp) (σ : St) : Fl → Prop
  | .nx => D.nx σ H
  | .brk => D.bk σ H
  | .ct => D.ct σ H
  | .ret r => (∀ i, r ≠ .s i) → ∀ v, RRep K cl w H σ v r → D.rt v H
def XS (K : PySem.W.Frag) (cl : Str → Option Addr) (W : WX) (w : Wd) (x : Exn) (s : Sm) : Prop := ∀ w' H' σ' c d, Le w w' → w'.sm = s → Rel K cl w' H' σ' → XR K cl w' H' x c d → W c d σ' H'
structure ContS (K : PySem.W.Frag) (cl : Str → Option Addr) (W : WX) (w : Wd) (H : Hp) (σ : St) (m : M Fl) (D : Ends) : Prop where
  rel : Rel K cl w H σ
  wp : wpO (m w.sm) (fun f s => ∀ w' H' σ', Le w w' → w'.sm = s → Rel K cl w' H' σ' → FlOk K cl D w' H' σ' f) (XS K cl W w)
def RunS (K : PySem.W.Frag) (cl : Str → Option Addr) (W : WX) (m : M Fl) : TS := fun D σ H => ∃ w, ContS K cl W w H σ m D

section
variable {K : PySem.W.Frag} {cl : Str → Option Addr} {W : WX} {α β γ δ : Type} {RS : Wd → Hp → St → δ → γ → Prop} {w w' : Wd} {H H' : Hp} {σ : St} {D : Ends}
theorem ContS.bind {m : M γ} {f : γ → M Fl} (c : ContS K cl W w H σ (M.bind m f) D) : Cont K cl W RS w H σ m (fun b H1 => ∃ w1 a, Le w w1 ∧ RS w1 H1 σ b a ∧ ContS K cl W w1 H1 σ (f a) D) := by
  refine ⟨c.rel, ?_⟩
  have h := c.wp
  rw [wpO_bind] at h
  refine h.imp (fun a s h w1 H1 b le es R1 rr => ?_) (fun x s h w1 H1 c d le es R1 xr => h w1 H1 σ c d le es R1 xr)
  subst es
  exact ⟨w1, a, le, rr, R1, h.imp (fun a2 s2 h2 w2 H2 σ2 le2 e2 R2 => h2 w2 H2 σ2 (le.trans le2) e2 R2) fun x s2 h2 w2 H2 σ2 c d le2 e2 R2 x2 => h2 w2 H2 σ2 c d (le.trans le2) e2 R2 x2⟩
theorem ContS.at {m m' : M Fl} (c : ContS K cl W w H σ m D) (e : m w.sm = m' w.sm) : ContS K cl W w H σ m' D := ⟨c.rel, by rw [← e]; exact c.wp⟩
/-- from another state on -/
theorem ContS.go {m m' : M Fl} (c : ContS K cl W w H σ m D) {w2 : Wd} {H2 : Hp} {σ2 : St} (le : Le w w2) (e : m w.sm = m' w2.sm) (R : Rel K cl w2 H2 σ2) : ContS K cl W w2 H2 σ2 m' D :=
  ⟨R, by
    rw [← e]
    exact c.wp.imp (fun a s h w1 H1 σ1 le' => h w1 H1 σ1 (le.trans le')) fun x s h w1 H1 σ1 cc d le' => h w1 H1 σ1 cc d (le.trans le')⟩
theorem ContS.ofO {o : Option γ} {f : γ → M Fl} (c : ContS K cl W w H σ (M.bind (ofO o) f) D) : ∃ a, o = some a ∧ ContS K cl W w H σ (f a) D := by
  cases o with
  | none => exact c.wp.elim
  | some a => exact ⟨a, rfl, c.at rfl⟩
theorem bind_ret {m : M γ} : M.bind m M.pure = m := by
  funext s
  unfold M.bind Out.bind
  cases m s <;> rfl
theorem ContS.frz {v : V} {r : Rv} {f : IR.D → M Fl} (c : ContS K cl W w H σ (M.bind (frz r) f) D) (h : RRep K cl w H σ v r) : ∃ w1 d, Le w w1 ∧ Rep K w1.ι w1.F v d ∧ ContS K cl W w1 H σ (f d) D := by
  have c1 := c.bind (RS := fun w _ _ (v : V) d => Rep K w.ι w.F v d)
  have c2 : Cont K cl W (fun w _ _ (v : V) d => Rep K w.ι w.F v d) w H σ (M.bind (IR.frz r) M.pure) _ := c1.at (by rw [bind_ret])
  obtain ⟨w1, d, le, rd, c3⟩ := c2.frz h
  obtain ⟨w2, d2, le2, rd2, c4⟩ := c3.end (b := v) rd
  exact ⟨w2, d2, le2, rd2, c4⟩
theorem ContS.peek {v : V} {r : Rv} {f : IR.D → M Fl} (c : ContS K cl W w H σ (M.bind (peekM r) f) D) (h : RRep K cl w H σ v r) : ∃ d, RepT K w H v d ∧ IR.peek w.ρ w.C r = some d ∧ ContS K cl W w H σ (f d) D := by
  have e1 : peekM r w.sm = match IR.peek w.ρ w.C r with | some d => Out.ok d w.sm | none => .bad := rfl
  cases e : IR.peek w.ρ w.C r with
  | none =>
    have hw := c.wp
    rw [wpO_bind, e1, e] at hw
    exact hw.elim
  | some d =>
    refine ⟨d, peek_rep c.rel h e, rfl, c.at ?_⟩
    show (peekM r w.sm).bind f = _
    rw [e1, e]
    rfl
theorem ContS.fin {f : Fl} (c : ContS K cl W w H σ (M.pure f) D) : FlOk K cl D w H σ f := c.wp w H σ (Le.refl w) rfl c.rel

/-! ### owners -/
theorem of_ob {j : Ow} {o : Ob} (e : w.ob j = some o) : (∃ i, j = .s i ∧ w.ρ[i]? = some (.own o)) ∨ ∃ c, j = .c c ∧ w.C[c]? = some (some o) := by
  cases j with
  | s i => exact .inl ⟨i, rfl, of_ob_s e⟩
  | c i => exact .inr ⟨i, rfl, of_ob_c e⟩
def Wd.setO (w : Wd) : Ow → Ob → Wd
  | .s i, o => { w with ρ := w.ρ.set i (.own o) }
  | .c i, o => { w with C := w.C.set i (some o) }
theorem setO_ob {j j' : Ow} {o o' o1 : Ob} (e : w.ob j = some o) (h : (w.setO j o').ob j' = some o1) : (j' = j ∧ o1 = o') ∨ (j' ≠ j ∧ w.ob j' = some o1) := by
  cases j with
  | s i =>
    have hi := of_ob_s e
    have hl : i < w.ρ.length := (List.getElem?_eq_some_iff.mp hi).1
    cases j' with
    | s k =>
      have h := of_ob_s h
      have h : (w.ρ.set i (.own o'))[k]? = some (.own o1) := h
      by_cases q : i = k
      · subst q
        rw [List.getElem?_set_self hl] at h
        cases h
        exact .inl ⟨rfl, rfl⟩
      · rw [List.getElem?_set_ne q] at h
        exact .inr ⟨fun z => q (by cases z; rfl), ob_s h⟩
    | c k => exact .inr ⟨(fun z => by cases z), h⟩
  | c i =>
    have hi := of_ob_c e
    have hl : i < w.C.length := (List.getElem?_eq_some_iff.mp hi).1
    cases j' with
    | s k => exact .inr ⟨(fun z => by cases z), h⟩
    | c k =>
      have h := of_ob_c h
      have h : (w.C.set i (some o'))[k]? = some (some o1) := h
      by_cases q : i = k
      · subst q
        rw [List.getElem?_set_self hl] at h
        cases h
        exact .inl ⟨rfl, rfl⟩
      · rw [List.getElem?_set_ne q] at h
        exact .inr ⟨fun z => q (by cases z; rfl), ob_c h⟩
theorem setO_addr {j j' : Ow} {o' : Ob} : (w.setO j o').addr σ j' = w.addr σ j' := by cases j <;> cases j' <;> rfl
theorem setO_le {j : Ow} {o' : Ob} : Le w (w.setO j o') := by cases j <;> exact ⟨Same.refl _, rfl, fun _ _ h => h⟩
theorem setO_F {j : Ow} {o' : Ob} : (w.setO j o').F = w.F ∧ (w.setO j o').B = w.B ∧ (w.setO j o').ι = w.ι := by cases j <;> exact ⟨rfl, rfl, rfl⟩
theorem Rel.mut (R : Rel K cl w H σ) {j : Ow} {o o' : Ob} {p : Addr} {ho : HO} (e : w.ob j = some o) (hp : w.addr σ j = some p) (ha : HoAt K cl w.ι w.F o' ho) : Rel K cl (w.setO j o') (upd H p ho) σ := by
  obtain ⟨q, hq, ⟨hF, hB, ho0, hH, _⟩⟩ := R.own j o e
  rw [hp] at hq
  cases hq
  obtain ⟨eF, eB, eι⟩ := setO_F (w := w) (j := j) (o' := o')
  have sm : ∀ {G : Hp}, Same G H → G p = none → Same G (upd H p ho) := fun s n a x h => by
    rw [upd_ne (ne_of_none h n)]
    exact s a x h
  refine ⟨by rw [eF]; exact sm R.fH hF, by rw [eB]; exact sm R.bH hB, by rw [eF, eB]; exact R.dis, ?_, ?_, fun i d h => ?_, fun j' o1 h => ?_, fun j1 j2 o1 o2 a h1 h2 h3 h4 => ?_⟩
  · rw [R.len]
    cases j with
    | s i => exact (List.length_set ..).symm
    | c i => rfl
  · rw [eι, R.lenC]
    cases j with
    | s i => rfl
    | c i => exact (List.length_set ..).symm
  · have h' : w.ρ[i]? = some (.val d) := by
      cases j with
      | s k =>
        have hi := of_ob_s e
        have hl : k < w.ρ.length := (List.getElem?_eq_some_iff.mp hi).1
        have h : (w.ρ.set k (.own o'))[i]? = some (.val d) := h
        by_cases q : k = i
        · subst q
          rw [List.getElem?_set_self hl] at h
          cases h
        · rw [List.getElem?_set_ne q] at h
          exact h
      | c k => exact h
    obtain ⟨v, h1, h2⟩ := R.val i d h'
    rw [eF, eι]
    exact ⟨v, h1, h2⟩
  · rw [setO_addr, eF, eB, eι]
    rcases setO_ob e h with ⟨rfl, rfl⟩ | ⟨n, h⟩
    · exact ⟨p, hp, hF, hB, ho, upd_same, ha⟩
    · obtain ⟨q, hq, ⟨h2, h3, hh, h4, h5⟩⟩ := R.own j' o1 h
      have np : q ≠ p := fun z => n (R.inj j' j o1 o p h e (by rw [hq, z]) hp)
      exact ⟨q, hq, h2, h3, hh, by rw [upd_ne np]; exact h4, h5⟩
  · rw [setO_addr] at h3 h4
    have g : ∀ {j' o1}, (w.setO j o').ob j' = some o1 → ∃ o2, w.ob j' = some o2 := fun {j' o1} h => by
      rcases setO_ob e h with ⟨rfl, rfl⟩ | ⟨_, h⟩
      · exact ⟨o, e⟩
      · exact ⟨_, h⟩
    obtain ⟨_, g1⟩ := g h1
    obtain ⟨_, g2⟩ := g h2
    exact R.inj j1 j2 _ _ a g1 g2 h3 h4
/-- a slot taken: the new owner's object is nobody's -/
theorem Rel.setOwn (R : Rel K cl w H σ) {i : Nat} {p : Addr} {o : Ob} (hi : i < w.ρ.length) (oa : ObAt K cl w.ι w.F w.B H p o) (hn : ∀ j o', w.ob j = some o' → w.addr σ j ≠ some p) : Rel K cl { w with ρ := w.ρ.set i (.own o) } H (σ.set i (some (.ref p))) := by
  have hi' : i < σ.length := by rw [R.len]; exact hi
  have obS : ∀ j o1, ({ w with ρ := w.ρ.set i (.own o) } : Wd).ob j = some o1 → (j = .s i ∧ o1 = o) ∨ (j ≠ .s i ∧ w.ob j = some o1) := fun j o1 h => by
    cases j with
    | s k =>
      have h := of_ob_s h
      have h : (w.ρ.set i (.own o))[k]? = some (.own o1) := h
      by_cases q : i = k
      · subst q
        rw [List.getElem?_set_self hi] at h
        cases h
        exact .inl ⟨rfl, rfl⟩
      · rw [List.getElem?_set_ne q] at h
        exact .inr ⟨fun z => q (by cases z; rfl), ob_s h⟩
    | c k => exact .inr ⟨(fun z => by cases z), h⟩
  have ad : ∀ j, j ≠ .s i → ({ w with ρ := w.ρ.set i (.own o) } : Wd).addr (σ.set i (some (.ref p))) j = w.addr σ j := fun j hj => by
    cases j with
    | s k =>
      have q : i ≠ k := fun z => hj (by rw [z])
      show (match (σ.set i (some (.ref p)))[k]? with | some (some (.ref p)) => some p | _ => none) = (match σ[k]? with | some (some (.ref p)) => some p | _ => none)
      rw [List.getElem?_set_ne q]
    | c k => rfl
  have adi : ({ w with ρ := w.ρ.set i (.own o) } : Wd).addr (σ.set i (some (.ref p))) (.s i) = some p := addr_s (List.getElem?_set_self hi')
  refine ⟨R.fH, R.bH, R.dis, by rw [List.length_set, R.len]; exact (List.length_set ..).symm, R.lenC, fun k d h => ?_, fun j o1 h => ?_, fun j1 j2 o1 o2 a h1 h2 h3 h4 => ?_⟩
  · have h : (w.ρ.set i (.own o))[k]? = some (.val d) := h
    by_cases q : i = k
    · subst q
      rw [List.getElem?_set_self hi] at h
      cases h
    · rw [List.getElem?_set_ne q] at h
      rw [List.getElem?_set_ne q]
      exact R.val k d h
  · rcases obS j o1 h with ⟨rfl, rfl⟩ | ⟨n, h⟩
    · exact ⟨p, adi, oa⟩
    · rw [ad j n]
      exact R.own j o1 h
  · rcases obS j1 o1 h1 with ⟨e1, q1⟩ | ⟨n1, g1⟩
    · rcases obS j2 o2 h2 with ⟨e2, q2⟩ | ⟨n2, g2⟩
      · rw [e1, e2]
      · rw [e1, adi] at h3
        cases h3
        rw [ad j2 n2] at h4
        exact absurd h4 (hn j2 o2 g2)
    · rw [ad j1 n1] at h3
      rcases obS j2 o2 h2 with ⟨e2, q2⟩ | ⟨n2, g2⟩
      · rw [e2, adi] at h4
        cases h4
        exact absurd h3 (hn j1 o1 g1)
      · rw [ad j2 n2] at h4
        exact R.inj j1 j2 o1 o2 a g1 g2 h3 h4
/-- a new cell, its name in a slot -/
theorem Rel.newC (R : Rel K cl w H σ) {i : Nat} {p : Addr} {o : Ob} (hi : i < w.ρ.length) (oa : ObAt K cl w.ι w.F w.B H p o) (hn : ∀ j o', w.ob j = some o' → w.addr σ j ≠ some p) :
    Rel K cl ⟨w.ι ++ [p], w.F, w.B, w.ρ.set i (.val (.ref w.C.length)), w.C ++ [some o]⟩ H (σ.set i (some (.ref p))) ∧ Le w ⟨w.ι ++ [p], w.F, w.B, w.ρ.set i (.val (.ref w.C.length)), w.C ++ [some o]⟩ := by
  have hi' : i < σ.length := by rw [R.len]; exact hi
  have ex : ∀ (c : Nat) a, w.ι[c]? = some a → (w.ι ++ [p])[c]? = some a := fun c a h => by
    rw [List.getElem?_append_left (List.getElem?_eq_some_iff.mp h).1]
    exact h
  have top : (w.ι ++ [p])[w.C.length]? = some p := by
    rw [← R.lenC, List.getElem?_append_right (Nat.le_refl _), Nat.sub_self]
    rfl
  have obS : ∀ j o1, (⟨w.ι ++ [p], w.F, w.B, w.ρ.set i (.val (.ref w.C.length)), w.C ++ [some o]⟩ : Wd).ob j = some o1 → (j = .c w.C.length ∧ o1 = o) ∨ (j ≠ .s i ∧ j ≠ .c w.C.length ∧ w.ob j = some o1) := fun j o1 h => by
    cases j with
    | s k =>
      have h := of_ob_s h
      have h : (w.ρ.set i (.val (.ref w.C.length)))[k]? = some (.own o1) := h
      by_cases q : i = k
      · subst q
        rw [List.getElem?_set_self hi] at h
        cases h
      · rw [List.getElem?_set_ne q] at h
        exact .inr ⟨fun z => q (by cases z; rfl), (fun z => by cases z), ob_s h⟩
    | c k =>
      have h := of_ob_c h
      have h : (w.C ++ [some o])[k]? = some (some o1) := h
      by_cases q : k < w.C.length
      · rw [List.getElem?_append_left q] at h
        exact .inr ⟨(fun z => by cases z), (fun z => by cases z; omega), ob_c h⟩
      · rw [List.getElem?_append_right (by omega)] at h
        have e : k - w.C.length = 0 := by
          have := (List.getElem?_eq_some_iff.mp h).1
          rw [List.length_singleton] at this
          omega
        rw [e] at h
        cases h
        have e2 : k = w.C.length := by omega
        exact .inl ⟨by rw [e2], rfl⟩
  have ad : ∀ j o1, w.ob j = some o1 → j ≠ .s i → (⟨w.ι ++ [p], w.F, w.B, w.ρ.set i (.val (.ref w.C.length)), w.C ++ [some o]⟩ : Wd).addr (σ.set i (some (.ref p))) j = w.addr σ j := fun j o1 h hj => by
    cases j with
    | s k =>
      have q : i ≠ k := fun z => hj (by rw [z])
      show (match (σ.set i (some (.ref p)))[k]? with | some (some (.ref p)) => some p | _ => none) = (match σ[k]? with | some (some (.ref p)) => some p | _ => none)
      rw [List.getElem?_set_ne q]
    | c k =>
      have h := of_ob_c h
      have hk : k < w.ι.length := by
        rw [R.lenC]
        exact (List.getElem?_eq_some_iff.mp h).1
      show (w.ι ++ [p])[k]? = w.ι[k]?
      rw [List.getElem?_append_left hk]
  refine ⟨⟨R.fH, R.bH, R.dis, by rw [List.length_set, R.len]; exact (List.length_set ..).symm, by rw [List.length_append, List.length_append, R.lenC]; rfl, fun k d h => ?_, fun j o1 h => ?_, fun j1 j2 o1 o2 a h1 h2 h3 h4 => ?_⟩, Same.refl _, rfl, ex⟩
  · have h : (w.ρ.set i (.val (.ref w.C.length)))[k]? = some (.val d) := h
    by_cases q : i = k
    · subst q
      rw [List.getElem?_set_self hi] at h
      cases h
      exact ⟨_, List.getElem?_set_self hi', .ref top⟩
    · rw [List.getElem?_set_ne q] at h
      rw [List.getElem?_set_ne q]
      obtain ⟨v, h1, h2⟩ := R.val k d h
      exact ⟨v, h1, h2.mono (Same.refl _) ex⟩
  · rcases obS j o1 h with ⟨rfl, rfl⟩ | ⟨n1, n2, h⟩
    · obtain ⟨h2, h3, hh, h4, h5⟩ := oa
      exact ⟨p, top, h2, h3, hh, h4, h5.mono (Same.refl _) ex⟩
    · rw [ad j o1 h n1]
      obtain ⟨q, hq, ⟨h2, h3, hh, h4, h5⟩⟩ := R.own j o1 h
      exact ⟨q, hq, h2, h3, hh, h4, h5.mono (Same.refl _) ex⟩
  · rcases obS j1 o1 h1 with ⟨e1, q1⟩ | ⟨n1, n1', g1⟩
    · subst e1
      have h3 : (w.ι ++ [p])[w.C.length]? = some a := h3
      rw [top] at h3
      cases h3
      rcases obS j2 o2 h2 with ⟨e2, q2⟩ | ⟨n2, n2', g2⟩
      · exact e2.symm
      · rw [ad j2 o2 g2 n2] at h4
        exact absurd h4 (hn j2 o2 g2)
    · rw [ad j1 o1 g1 n1] at h3
      rcases obS j2 o2 h2 with ⟨e2, q2⟩ | ⟨n2, n2', g2⟩
      · subst e2
        have h4 : (w.ι ++ [p])[w.C.length]? = some a := h4
        rw [top] at h4
        cases h4
        exact absurd h3 (hn j1 o1 g1)
      · rw [ad j2 o2 g2 n2] at h4
        exact R.inj j1 j2 o1 o2 a g1 g2 h3 h4

/-! ### the steps of statements -/
theorem setSlot_ok {i : Nat} {sl : Slot} {f : Unit → M Fl} (c : ContS K cl W w H σ (M.bind (setSlot i sl) f) D) : i < w.ρ.length ∧ (M.bind (setSlot i sl) f) w.sm = f () ⟨w.ρ.set i sl, w.C⟩ := by
  by_cases hi : i < w.ρ.length
  · refine ⟨hi, ?_⟩
    show (setSlot i sl w.sm).bind f = _
    unfold setSlot
    rw [if_pos (show i < w.sm.ρ.length from hi)]
    rfl
  · have hw := c.wp
    rw [wpO_bind] at hw
    unfold setSlot at hw
    rw [if_neg (show ¬ i < w.sm.ρ.length from hi)] at hw
    exact hw.elim
theorem ContS.setV {i : Nat} {d : IR.D} {v : V} {f : Unit → M Fl} (c : ContS K cl W w H σ (M.bind (setSlot i (.val d)) f) D) (r : Rep K w.ι w.F v d) : ∃ w1, Le w w1 ∧ w1.F = w.F ∧ w1.ι = w.ι ∧ ContS K cl W w1 H (σ.set i (some v)) (f ()) D := by
  obtain ⟨hi, e⟩ := setSlot_ok c
  exact ⟨⟨w.ι, w.F, w.B, w.ρ.set i (.val d), w.C⟩, ⟨Same.refl _, rfl, fun _ _ h => h⟩, rfl, rfl, c.go ⟨Same.refl _, rfl, fun _ _ h => h⟩ e (c.rel.set hi r)⟩
theorem ContS.asgN {i : Nat} {r : Rv} {v : V} {f : Unit → M Fl} (c : ContS K cl W w H σ (M.bind (asgN i r) f) D) (h : RRep K cl w H σ v r) : ∃ w1, ContS K cl W w1 H (σ.set i (some v)) (f ()) D := by
  cases r with
  | v d =>
    obtain ⟨w1, _, _, _, c1⟩ := ContS.setV (c.at rfl) h
    exact ⟨w1, c1⟩
  | n o =>
    obtain ⟨p, rfl, oa, hn⟩ := h
    have c : ContS K cl W w H σ (M.bind (setSlot i (.own o)) f) D := c.at rfl
    obtain ⟨hi, e⟩ := setSlot_ok c
    exact ⟨_, c.go (w2 := { w with ρ := w.ρ.set i (.own o) }) ⟨Same.refl _, rfl, fun _ _ h => h⟩ e (c.rel.setOwn hi oa hn)⟩
  | s j =>
    have c : ContS K cl W w H σ (M.bind (IR.frz (.s j)) fun d => M.bind (setSlot i (.val d)) f) D := c.at (by
      show (M.bind (M.bind (IR.frz (.s j)) fun d => setSlot i (.val d)) f) w.sm = _
      rw [bind_assoc])
    obtain ⟨w1, d, le1, rd, c1⟩ := c.frz h
    obtain ⟨w2, _, _, _, c2⟩ := c1.setV rd
    exact ⟨w2, c2⟩
theorem ContS.cellN {i : Nat} {r : Rv} {v : V} {f : Unit → M Fl} (c : ContS K cl W w H σ (M.bind (cellN i r) f) D) (h : RRep K cl w H σ v r) : ∃ w1, ContS K cl W w1 H (σ.set i (some v)) (f ()) D := by
  cases r with
  | n o =>
    obtain ⟨p, rfl, oa, hn⟩ := h
    by_cases hi : i < w.ρ.length
    · obtain ⟨R1, le⟩ := c.rel.newC hi oa hn
      refine ⟨_, c.go le ?_ R1⟩
      show (IR.cellN i (.n o) w.sm).bind f = _
      unfold IR.cellN
      dsimp only
      rw [if_pos (show i < w.sm.ρ.length from hi)]
      rfl
    · have hw := c.wp
      rw [wpO_bind] at hw
      unfold IR.cellN at hw
      dsimp only at hw
      rw [if_neg (show ¬ i < w.sm.ρ.length from hi)] at hw
      exact hw.elim
  | _ => exact c.wp.elim
/-- what putO works on -/
theorem put_at {r : Rv} {g : Ob → Option Ob} {f : Unit → M Fl} (c : ContS K cl W w H σ (M.bind (putO r g) f) D) {v : V} (h : RRep K cl w H σ v r) :
    ∃ (j : Ow) (o o' : Ob) (p : Addr), v = .ref p ∧ w.ob j = some o ∧ w.addr σ j = some p ∧ g o = some o' ∧ (M.bind (putO r g) f) w.sm = f () (w.setO j o').sm := by
  have hw := c.wp
  rw [wpO_bind] at hw
  have cell : ∀ {cc : Nat} {a : Addr}, w.ι[cc]? = some a → v = .ref a → (putO r g w.sm = match w.C[cc]? with | some (some o) => (match g o with | some o' => Out.ok () ⟨w.ρ, w.C.set cc (some o')⟩ | none => .bad) | _ => .bad) →
      ∃ (j : Ow) (o o' : Ob) (p : Addr), v = .ref p ∧ w.ob j = some o ∧ w.addr σ j = some p ∧ g o = some o' ∧ (M.bind (putO r g) f) w.sm = f () (w.setO j o').sm := fun {cc a} hc hv e => by
    rw [e] at hw
    cases q : w.C[cc]? with
    | none => rw [q] at hw; exact hw.elim
    | some x =>
      cases x with
      | none => rw [q] at hw; exact hw.elim
      | some o =>
        rw [q] at hw e
        dsimp only at hw e
        cases qg : g o with
        | none => rw [qg] at hw; exact hw.elim
        | some o' =>
          rw [qg] at e
          refine ⟨.c cc, o, o', a, hv, ob_c q, hc, qg, ?_⟩
          show (putO r g w.sm).bind f = _
          rw [e]
          rfl
  cases r with
  | n o => exact hw.elim
  | v d =>
    cases d with
    | ref cc =>
      cases h with
      | ref hc => exact cell hc rfl rfl
    | _ => exact hw.elim
  | s i =>
    have h : σ[i]? = some (some v) := h
    cases q : w.ρ[i]? with
    | none =>
      have e : putO (.s i) g w.sm = .bad := by
        unfold putO
        dsimp only
        rw [show w.sm.ρ[i]? = none from q]
      rw [e] at hw
      exact hw.elim
    | some sl =>
      have qs : w.sm.ρ[i]? = some sl := q
      cases sl with
      | no =>
        have e : putO (.s i) g w.sm = .bad := by
          unfold putO
          dsimp only
          rw [qs]
        rw [e] at hw
        exact hw.elim
      | own o =>
        cases qg : g o with
        | none =>
          have e : putO (.s i) g w.sm = .bad := by
            unfold putO
            dsimp only
            rw [qs]
            dsimp only
            rw [qg]
          rw [e] at hw
          exact hw.elim
        | some o' =>
          have e : putO (.s i) g w.sm = .ok () { w.sm with ρ := w.sm.ρ.set i (.own o') } := by
            unfold putO
            dsimp only
            rw [qs]
            dsimp only
            rw [qg]
          obtain ⟨p, hp, oa⟩ := c.rel.own _ _ (ob_s q)
          have hp' := of_addr_s hp
          rw [h] at hp'
          cases hp'
          refine ⟨.s i, o, o', p, rfl, ob_s q, hp, qg, ?_⟩
          show (putO (.s i) g w.sm).bind f = _
          rw [e]
          rfl
      | val d =>
        obtain ⟨v', h1, h2⟩ := c.rel.val i d q
        rw [h] at h1
        cases h1
        cases d with
        | ref cc =>
          cases h2 with
          | ref hc =>
            refine cell hc rfl ?_
            unfold putO
            dsimp only
            rw [qs]
            rfl
        | _ =>
          have e : putO (.s i) g w.sm = .bad := by
            unfold putO
            dsimp only
            rw [qs]
          rw [e] at hw
          exact hw.elim
theorem ContS.put {r : Rv} {g : Ob → Option Ob} {f : Unit → M Fl} (c : ContS K cl W w H σ (M.bind (putO r g) f) D) {v : V} (h : RRep K cl w H σ v r) :
    ∃ (p : Addr) (o o' : Ob) (ho : HO), v = .ref p ∧ H p = some ho ∧ HoAt K cl w.ι w.F o ho ∧ g o = some o' ∧ ∀ ho', HoAt K cl w.ι w.F o' ho' → ∃ w1, ContS K cl W w1 (upd H p ho') σ (f ()) D := by
  obtain ⟨j, o, o', p, hv, hj, hp, hg, e⟩ := put_at c h
  obtain ⟨q, hq, ⟨_, _, ho, hH, ha⟩⟩ := c.rel.own j o hj
  rw [hp] at hq
  cases hq
  exact ⟨p, o, o', ho, hv, hH, ha, hg, fun ho' ha' => ⟨_, c.go setO_le e (c.rel.mut hj hp ha')⟩⟩
/-- what a return hands on -/
theorem ContS.retR {r : Rv} {v : V} (c : ContS K cl W w H σ (M.bind (retR r) fun r => M.pure (.ret r)) D) (h : RRep K cl w H σ v r) : D.rt v H := by
  cases r with
  | v d => exact ContS.fin (c.at rfl) (fun i z => by cases z) v h
  | n o => exact ContS.fin (c.at rfl) (fun i z => by cases z) v h
  | s i =>
    have h : σ[i]? = some (some v) := h
    have hw := c.wp
    rw [wpO_bind] at hw
    cases q : w.ρ[i]? with
    | none =>
      have e : IR.retR (.s i) w.sm = .bad := by
        unfold IR.retR
        dsimp only
        rw [show w.sm.ρ[i]? = none from q]
      rw [e] at hw
      exact hw.elim
    | some sl =>
      have qs : w.sm.ρ[i]? = some sl := q
      cases sl with
      | no =>
        have e : IR.retR (.s i) w.sm = .bad := by
          unfold IR.retR
          dsimp only
          rw [qs]
        rw [e] at hw
        exact hw.elim
      | val d =>
        have e : IR.retR (.s i) w.sm = .ok (.v d) w.sm := by
          unfold IR.retR
          dsimp only
          rw [qs]
        obtain ⟨v', h1, h2⟩ := c.rel.val i d q
        rw [h] at h1
        cases h1
        have c2 : ContS K cl W w H σ (M.pure (.ret (.v d))) D := c.at (by
          show (IR.retR (.s i) w.sm).bind _ = _
          rw [e]
          rfl)
        exact c2.fin (fun i z => by cases z) v h2
      | own o =>
        have e : IR.retR (.s i) w.sm = .ok (.n o) { w.sm with ρ := w.sm.ρ.set i .no } := by
          unfold IR.retR
          dsimp only
          rw [qs]
        obtain ⟨p, hp, oa⟩ := c.rel.own _ _ (ob_s q)
        have hp' := of_addr_s hp
        rw [h] at hp'
        cases hp'
        have c2 : ContS K cl W { w with ρ := w.ρ.set i .no } H σ (M.pure (.ret (.n o))) D := c.go ⟨Same.refl _, rfl, fun _ _ h => h⟩ (by
          show (IR.retR (.s i) w.sm).bind _ = _
          rw [e]
          rfl) c.rel.forget
        refine c2.fin (fun i z => by cases z) _ ⟨p, rfl, oa, fun j o' hj z => ?_⟩
        have hj' : j ≠ .s i ∧ w.ob j = some o' := by
          cases j with
          | s k =>
            have hk := of_ob_s hj
            have hk : (w.ρ.set i .no)[k]? = some (.own o') := hk
            by_cases n : i = k
            · subst n
              rw [List.getElem?_set_self (List.getElem?_eq_some_iff.mp q).1] at hk
              cases hk
            · rw [List.getElem?_set_ne n] at hk
              exact ⟨fun z => n (by cases z; rfl), ob_s hk⟩
          | c k => exact ⟨(fun z => by cases z), hj⟩
        have z : w.addr σ j = some p := by cases j <;> exact z
        exact hj'.1 (c.rel.inj j (.s i) o' o p hj'.2 (ob_s q) z hp)
end
end IR

set_option Elab.async false
set_option linter.all false
set_option maxRecDepth 100000
/-! IrW2: what an except suite asks, and that it is right. -/
namespace IR
open PySem L2

theorem _root_.L2.PS.imp {X : Cx} {st : Stmt} {t t' : TS} (h : PS X st t) (i : ∀ D σ H, t' D σ H → t D σ H) : PS X st t' := ⟨fun pins s σ H D I q => h.run pins s σ H D I (i _ _ _ q)⟩
theorem _root_.L2.PSs.imp {X : Cx} {st : List Stmt} {t t' : TS} (h : PSs X st t) (i : ∀ D σ H, t' D σ H → t D σ H) : PSs X st t' := ⟨fun pins s σ H D I q => h.run pins s σ H D I (i _ _ _ q)⟩
/-- a run from a world of a kind -/
def RunP {α β : Type} (P : Wd → L2.St → Prop) (K : PySem.W.Frag) (cl : Str → Option Addr) (W : WX) (RR : Wd → Hp → L2.St → β → α → Prop) (m : M α) : L2.St → Hp → (β → Hp → Prop) → Prop := fun σ H Q => ∃ w, P w σ ∧ Cont K cl W RR w H σ m Q
def Stay (P : Wd → L2.St → Prop) : Prop := ∀ w w' σ, Le w w' → P w σ → P w' σ
abbrev RB : Wd → Hp → L2.St → Bool → Bool → Prop := fun _ _ _ b a => b = a
/-- the truth of a result -/
def tm (m : M Rv) : M Bool := M.bind m fun r => M.bind (peekM r) test

section
variable {X : Cx} {W : WX} {cl : Str → Option Addr} {P : Wd → L2.St → Prop} {pos : Pos} {ma mb : M Rv}
theorem gp_val (hP : Stay P) {e : Expr} (he : PE X e (RunP P X.K cl W (RRep X.K cl) ma)) (h : ∀ whole, isTrue e X.env whole = (do let v ← whole; standAt e.pos; holding [v] (truthy v))) : PT X e (RunP P X.K cl W RB (tm ma)) := by
  refine (pt_truth he h).imp fun σ H Q ⟨w, p, c⟩ => ?_
  have c1 : Cont X.K cl W RB w H σ (M.bind ma fun r => M.bind (peekM r) test) Q := c
  refine ⟨w, p, (c1.bind (RS := RRep X.K cl)).imp fun v1 H1 ⟨w1, r1, le1, rr1, c2⟩ => ?_⟩
  obtain ⟨d, t, c3⟩ := peekM_held c2 rr1
  obtain ⟨k, e, c4⟩ := c3.ofO1
  exact ⟨k, truth_ok t e, Cont.end (a := k) c4 rfl⟩
theorem gp_cmp (hP : Stay P) (hu : X.A.units + 64 < cLine) {a b : Expr} {o : CmpOp} (hp : plainE b = true) (ha : PE X a (RunP P X.K cl W (RRep X.K cl) ma)) (hb : PE X b (RunP P X.K cl W (RRep X.K cl) mb)) :
    PE X (.Compare a [o] [b] pos) (RunP P X.K cl W (RRep X.K cl) (M.bind ma fun ra => M.bind (hold ra) fun ra => M.bind mb fun rb => M.bind (peekM ra) fun x => M.bind (peekM rb) fun y => M.bind (cmpV (cCop o) x y (opCmp (cCop o) x y)) fun k => M.pure (.v (.bl k)))) ∧
    PT X (.Compare a [o] [b] pos) (RunP P X.K cl W RB (tm (M.bind ma fun ra => M.bind (hold ra) fun ra => M.bind mb fun rb => M.bind (peekM ra) fun x => M.bind (peekM rb) fun y => M.bind (cmpV (cCop o) x y (opCmp (cCop o) x y)) fun k => M.pure (.v (.bl k))))) := by
  obtain ⟨r, hr, hs, hsR⟩ := sim_cmp (cl := cl) X hu (cCop o)
  rw [cmpS_C] at hr
  refine ⟨(pe_cmpR hr ha hb (mark_of hp)).imp fun σ H Q ⟨w, p, c⟩ => ?_, (pt_cmpR hr ha hb (mark_of hp)).imp fun σ H Q ⟨w, p, c⟩ => ?_⟩
  · refine ⟨w, p, (c.bind (RS := RRep X.K cl)).imp fun v1 H1 ⟨w1, r1, le1, rr1, c2⟩ => ?_⟩
    obtain ⟨w2, r2, le2, rr2, hd, c3⟩ := c2.hold rr1
    refine ⟨w2, hP _ _ _ (le1.trans le2) p, (c3.bind (RS := RRep X.K cl)).imp fun v2 H2 ⟨w3, r3, le3, rr3, c4⟩ => ?_⟩
    obtain ⟨d1, t1, c5⟩ := peekM_held c4 (rr2.keep le3 hd)
    obtain ⟨d2, t2, c6⟩ := peekM_held c5 rr3
    obtain ⟨k, e, c7⟩ := c6.cmpV
    exact sim_both hs hsR c7.rel t1 t2 e c7.fin
  · have c1 : Cont X.K cl W RB w H σ (M.bind ma fun ra => M.bind (hold ra) fun ra => M.bind mb fun rb => M.bind (peekM ra) fun x => M.bind (peekM rb) fun y => cmpV (cCop o) x y (opCmp (cCop o) x y)) Q := by
      have e : (tm (M.bind ma fun ra => M.bind (hold ra) fun ra => M.bind mb fun rb => M.bind (peekM ra) fun x => M.bind (peekM rb) fun y => M.bind (cmpV (cCop o) x y (opCmp (cCop o) x y)) fun k => M.pure (.v (.bl k)))) = (M.bind ma fun ra => M.bind (hold ra) fun ra => M.bind mb fun rb => M.bind (peekM ra) fun x => M.bind (peekM rb) fun y => cmpV (cCop o) x y (opCmp (cCop o) x y)) := by
        unfold tm
        rw [bind_assoc]
        refine bind_congr fun ra => ?_
        rw [bind_assoc]
        refine bind_congr fun ra => ?_
        rw [bind_assoc]
        refine bind_congr fun rb => ?_
        rw [bind_assoc]
        refine bind_congr fun x => ?_
        rw [bind_assoc]
        exact bind_congr fun y => bl_end
      rw [← e]
      exact c
    refine ⟨w, p, (c1.bind (RS := RRep X.K cl)).imp fun v1 H1 ⟨w1, r1, le1, rr1, c2⟩ => ?_⟩
    obtain ⟨w2, r2, le2, rr2, hd, c3⟩ := c2.hold rr1
    refine ⟨w2, hP _ _ _ (le1.trans le2) p, (c3.bind (RS := RRep X.K cl)).imp fun v2 H2 ⟨w3, r3, le3, rr3, c4⟩ => ?_⟩
    obtain ⟨d1, t1, c5⟩ := peekM_held c4 (rr2.keep le3 hd)
    obtain ⟨d2, t2, c6⟩ := peekM_held c5 rr3
    obtain ⟨k, e, c7⟩ := c6.cmpV1
    exact sim_both hs hsR c7.rel t1 t2 e (Fin.bl fun w' H' le es R => ⟨k, rfl, c7.fin w' H' k le es R rfl⟩)
theorem tm_not {m : M Rv} : tm (M.bind m fun r => M.bind (peekM r) fun x => M.bind (test x) fun k => M.pure (.v (.bl (!k)))) = M.bind (tm m) fun k => M.pure (!k) := by
  unfold tm
  rw [bind_assoc, bind_assoc]
  refine bind_congr fun r => ?_
  rw [bind_assoc, bind_assoc]
  refine bind_congr fun x => ?_
  funext s
  unfold M.bind Out.bind
  cases test x s <;> rfl
theorem gp_not (hP : Stay P) {a : Expr} (ha : PE X a (RunP P X.K cl W (RRep X.K cl) ma)) (ta : PT X a (RunP P X.K cl W RB (tm ma))) :
    PE X (.UnaryOp .Not a pos) (RunP P X.K cl W (RRep X.K cl) (M.bind ma fun r => M.bind (peekM r) fun x => M.bind (test x) fun k => M.pure (.v (.bl (!k))))) ∧ PT X (.UnaryOp .Not a pos) (RunP P X.K cl W RB (tm (M.bind ma fun r => M.bind (peekM r) fun x => M.bind (test x) fun k => M.pure (.v (.bl (!k)))))) := by
  constructor
  · refine (pe_notT ha).imp fun σ H Q ⟨w, p, c⟩ => ?_
    refine ⟨w, p, (c.bind (RS := RRep X.K cl)).imp fun v1 H1 ⟨w1, r1, le1, rr1, c2⟩ => ?_⟩
    obtain ⟨d, t, c3⟩ := peekM_held c2 rr1
    obtain ⟨k, e, c4⟩ := c3.ofO
    exact ⟨k, truth_ok t e, Cont.end (a := Rv.v (.bl (!k))) (RR := RRep X.K cl) c4 (Rep.bl _)⟩
  · refine (pt_not ta).imp fun σ H Q ⟨w, p, c⟩ => ?_
    rw [tm_not] at c
    refine ⟨w, p, (c.bind (RS := RB)).imp fun k H1 ⟨w1, k', le1, e, c2⟩ => ?_⟩
    subst e
    exact Cont.end (a := !k) c2 rfl
theorem tm_again {r : Rv} {x : D} {s : Sm} (h : peek s.ρ s.C r = some x) {k : Bool} (hk : truth x = some k) : tm (M.pure r) s = .ok k s := by
  show (peekM r s).bind test = _
  unfold peekM
  rw [h]
  show (ofO (truth x)) s = _
  rw [hk]
  rfl
theorem tm_and {m m' : M Rv} : tm (M.bind m fun r => M.bind (peekM r) fun x => M.bind (test x) fun k => if k then m' else M.pure r) = M.bind (tm m) fun k => if k then tm m' else M.pure false := by
  unfold tm
  rw [bind_assoc, bind_assoc]
  refine bind_congr fun r => ?_
  funext s
  unfold M.bind Out.bind peekM
  cases e : peek s.ρ s.C r with
  | none => rfl
  | some x =>
    dsimp only
    have hts : test x s = ofO (truth x) s := rfl
    rw [hts]
    cases q : truth x with
    | none => rfl
    | some k =>
      cases k with
      | true => rfl
      | false =>
        have := tm_again e q
        exact this
theorem tm_or {m m' : M Rv} : tm (M.bind m fun r => M.bind (peekM r) fun x => M.bind (test x) fun k => if k then M.pure r else m') = M.bind (tm m) fun k => if k then M.pure true else tm m' := by
  unfold tm
  rw [bind_assoc, bind_assoc]
  refine bind_congr fun r => ?_
  funext s
  unfold M.bind Out.bind peekM
  cases e : peek s.ρ s.C r with
  | none => rfl
  | some x =>
    dsimp only
    have hts : test x s = ofO (truth x) s := rfl
    rw [hts]
    cases q : truth x with
    | none => rfl
    | some k =>
      cases k with
      | false => rfl
      | true =>
        have := tm_again e q
        exact this
theorem gp_and (hP : Stay P) {a b : Expr} {r : List Expr} (ha : PE X a (RunP P X.K cl W (RRep X.K cl) ma)) (hb : PE X (.BoolOp .And (b :: r) pos) (RunP P X.K cl W (RRep X.K cl) mb)) (ta : PT X a (RunP P X.K cl W RB (tm ma))) (tb : PW X (.BoolOp .And (b :: r) pos) (RunP P X.K cl W RB (tm mb))) :
    PE X (.BoolOp .And (a :: b :: r) pos) (RunP P X.K cl W (RRep X.K cl) (M.bind ma fun r => M.bind (peekM r) fun x => M.bind (test x) fun k => if k then mb else M.pure r)) ∧
    PW X (.BoolOp .And (a :: b :: r) pos) (RunP P X.K cl W RB (tm (M.bind ma fun r => M.bind (peekM r) fun x => M.bind (test x) fun k => if k then mb else M.pure r))) := by
  constructor
  · refine (pe_andT ha hb).imp fun σ H Q ⟨w, p, c⟩ => ?_
    refine ⟨w, p, (c.bind (RS := RRep X.K cl)).imp fun v1 H1 ⟨w1, r1, le1, rr1, c2⟩ => ?_⟩
    obtain ⟨d, t, c3⟩ := peekM_held c2 rr1
    obtain ⟨k, e, c4⟩ := c3.ofO
    refine ⟨k, truth_ok t e, ?_⟩
    cases k with
    | true => exact ⟨w1, hP _ _ _ le1 p, c4⟩
    | false => exact Cont.end (RR := RRep X.K cl) (a := r1) c4 rr1
  · refine (pw_and ta tb).imp fun σ H Q ⟨w, p, c⟩ => ?_
    rw [tm_and] at c
    refine ⟨w, p, (c.bind (RS := RB)).imp fun k H1 ⟨w1, k', le1, e, c2⟩ => ?_⟩
    subst e
    cases k with
    | true => exact ⟨w1, hP _ _ _ le1 p, c2⟩
    | false => exact Cont.end (a := false) c2 rfl
theorem gp_or (hP : Stay P) {a b : Expr} {r : List Expr} (ha : PE X a (RunP P X.K cl W (RRep X.K cl) ma)) (hb : PE X (.BoolOp .Or (b :: r) pos) (RunP P X.K cl W (RRep X.K cl) mb)) (ta : PT X a (RunP P X.K cl W RB (tm ma))) (tb : PW X (.BoolOp .Or (b :: r) pos) (RunP P X.K cl W RB (tm mb))) :
    PE X (.BoolOp .Or (a :: b :: r) pos) (RunP P X.K cl W (RRep X.K cl) (M.bind ma fun r => M.bind (peekM r) fun x => M.bind (test x) fun k => if k then M.pure r else mb)) ∧
    PW X (.BoolOp .Or (a :: b :: r) pos) (RunP P X.K cl W RB (tm (M.bind ma fun r => M.bind (peekM r) fun x => M.bind (test x) fun k => if k then M.pure r else mb))) := by
  constructor
  · refine (pe_orT ha hb).imp fun σ H Q ⟨w, p, c⟩ => ?_
    refine ⟨w, p, (c.bind (RS := RRep X.K cl)).imp fun v1 H1 ⟨w1, r1, le1, rr1, c2⟩ => ?_⟩
    obtain ⟨d, t, c3⟩ := peekM_held c2 rr1
    obtain ⟨k, e, c4⟩ := c3.ofO
    refine ⟨k, truth_ok t e, ?_⟩
    cases k with
    | false => exact ⟨w1, hP _ _ _ le1 p, c4⟩
    | true => exact Cont.end (RR := RRep X.K cl) (a := r1) c4 rr1
  · refine (pw_or ta tb).imp fun σ H Q ⟨w, p, c⟩ => ?_
    rw [tm_or] at c
    refine ⟨w, p, (c.bind (RS := RB)).imp fun k H1 ⟨w1, k', le1, e, c2⟩ => ?_⟩
    subst e
    cases k with
    | false => exact ⟨w1, hP _ _ _ le1 p, c2⟩
    | true => exact Cont.end (a := true) c2 rfl
theorem gp_tup (hP : Stay P) {es : List Expr} {n : Nat} {m : M (List D)} (h : PA X es (RunP P X.K cl W (RRs X.K cl) m)) : PE X (.Tuple es n pos) (RunP P X.K cl W (RRep X.K cl) (M.bind m fun ds => if decide (ds.length ≤ sizeLine) then M.pure (.v (.tup ds)) else M.bad)) := by
  refine (pe_tup h).imp fun σ H Q ⟨w, p, c⟩ => ?_
  refine ⟨w, p, (c.bind (RS := RRs X.K cl)).imp fun vs H1 ⟨w1, ds, le1, rs, c2⟩ => ?_⟩
  by_cases hl : ds.length ≤ sizeLine
  · have c3 : Cont X.K cl W (RRep X.K cl) w1 H1 σ (M.pure (.v (.tup ds))) Q := c2.at (by rw [if_pos (decide_eq_true hl)])
    exact ⟨by rw [rs.length]; exact hl, fun p hp => Fin.newT c3.fin c3.rel rs p hp⟩
  · have c3 : Cont X.K cl W (RRep X.K cl) w1 H1 σ M.bad Q := c2.at (by rw [if_neg (by simpa using hl)])
    exact c3.wp.elim
theorem gp_nil : PA X [] (RunP P X.K cl W (RRs X.K cl) (M.pure [])) := pa_nil.imp fun σ H Q ⟨w, _, c⟩ => Cont.end (a := ([] : List D)) (RR := RRs X.K cl) c Reps.nil
theorem gp_cons (hP : Stay P) {e : Expr} {es : List Expr} {m : M (List D)} (hp : plainE e = true) (he : PE X e (RunP P X.K cl W (RRep X.K cl) ma)) (h : PA X es (RunP P X.K cl W (RRs X.K cl) m)) :
    PA X (e :: es) (RunP P X.K cl W (RRs X.K cl) (M.bind ma fun x => M.bind (frz x) fun d => M.bind m fun ds => M.pure (d :: ds))) := by
  refine (pa_cons he h (star_of hp)).imp fun σ H Q ⟨w, p, c⟩ => ?_
  refine ⟨w, p, (c.bind (RS := RRep X.K cl)).imp fun x H1 ⟨w1, r, le1, rr, c2⟩ => ?_⟩
  obtain ⟨w2, d, le2, rd, c3⟩ := c2.frz rr
  refine ⟨w2, hP _ _ _ (le1.trans le2) p, (c3.bind (RS := RRs X.K cl)).imp fun xs H2 ⟨w3, ds, le3, rs, c4⟩ => ?_⟩
  exact Cont.end (a := (d :: ds : List D)) (RR := RRs X.K cl) c4 (Reps.cons (rd.mono le3.f le3.i) rs)
theorem gp_var {x : Str} {i : Nat} (hN : X.N[i]? = some x) (hv : Vis X.env.scope x) (hx : okName x = true) : PE X (.Name x pos) (RunP P X.K cl W (RRep X.K cl) (locM i)) := by
  obtain ⟨h1, h2, _⟩ := okName_of hx
  refine (pe_var (i := i) hN hv h1 h2).imp fun σ H Q ⟨w, _, c⟩ => ?_
  have hp := c.wp
  have hp : wpO ((fun s : Sm => match s.ρ[i]? with | some (.own _) => Out.ok (.s i) s | some (.val d) => .ok (.v d) s | _ => .bad) w.sm) (fun a s => ∀ w' H' b, Le w w' → w'.sm = s → Rel X.K cl w' H' σ → RRep X.K cl w' H' σ b a → Q b H') (XC X.K cl W w σ) := hp
  cases e : w.ρ[i]? with
  | none =>
    have e' : w.sm.ρ[i]? = none := e
    dsimp only at hp
    rw [e'] at hp
    exact hp.elim
  | some sl =>
    have e' : w.sm.ρ[i]? = some sl := e
    dsimp only at hp
    rw [e'] at hp
    cases sl with
    | no => exact hp.elim
    | val d =>
      obtain ⟨v, h1, h2⟩ := c.rel.val i d e
      exact ⟨v, h1, hp w H v (Le.refl w) rfl c.rel h2⟩
    | own o =>
      obtain ⟨p, h1, h2⟩ := c.rel.own _ _ (ob_s e)
      have h1 := of_addr_s h1
      exact ⟨.ref p, h1, hp w H _ (Le.refl w) rfl c.rel h1⟩
theorem gp_k {e : Expr} {v : V} {d : D} (he : PE X e (tC v)) (r : ∀ ι F, Rep X.K ι F v d) : PE X e (RunP P X.K cl W (RRep X.K cl) (M.pure (.v d))) :=
  he.imp fun σ H Q ⟨w, _, c⟩ => Cont.end (a := Rv.v d) (RR := RRep X.K cl) c (r _ _)
end
end IR

set_option Elab.async false
set_option linter.all false
set_option maxRecDepth 100000
/-! IrW3: except suites: their compiler, and that it is right; try. -/
namespace IR
open PySem L2

/-! ### no exception leaves a suite -/
def NoExc {α : Type} (m : M α) : Prop := ∀ s y s', m s ≠ .exc y s'
theorem NoExc.bind {α β : Type} {m : M α} {f : α → M β} (h : NoExc m) (h2 : ∀ a, NoExc (f a)) : NoExc (M.bind m f) := fun s y s' e => by
  unfold M.bind Out.bind at e
  cases q : m s with
  | ok a s1 => rw [q] at e; exact h2 a s1 y s' e
  | exc y s1 => exact h s y s1 q
  | bad => rw [q] at e; cases e
theorem noPure {α : Type} {a : α} : NoExc (M.pure a) := fun s y s' e => by cases e
theorem noBad {α : Type} : NoExc (M.bad : M α) := fun s y s' e => by cases e
theorem noOfO {α : Type} {o : Option α} : NoExc (ofO o) := by cases o <;> first | exact noBad | exact noPure
theorem noPeek {r : Rv} : NoExc (peekM r) := fun s y s' e => by
  unfold peekM at e
  split at e <;> cases e
theorem noTest {d : D} : NoExc (test d) := noOfO
theorem noHold {r : Rv} : NoExc (hold r) := fun s y s' e => by
  cases r with
  | n o =>
    unfold hold at e
    dsimp only at e
    split at e <;> cases e
  | _ => cases e
theorem noFrz {r : Rv} : NoExc (frz r) := fun s y s' e => by
  cases r with
  | v d => cases e
  | n o => exact noOfO s y s' e
  | s i =>
    unfold frz at e
    dsimp only at e
    split at e
    · split at e <;> cases e
    · cases e
    · cases e
theorem noCmp {o : COp} {a b : D} {x : Option Bool} : NoExc (cmpV o a b x) := fun s y s' e => by
  cases x with
  | some k => cases e
  | none =>
    unfold cmpV at e
    dsimp only at e
    split at e <;> cases e
theorem noLoc {i : Nat} : NoExc (locM i) := fun s y s' e => by
  unfold locM at e
  split at e <;> cases e
theorem noRet {r : Rv} : NoExc (retR r) := fun s y s' e => by
  cases r with
  | s i =>
    unfold retR at e
    dsimp only at e
    split at e <;> cases e
  | _ => cases e
theorem noIf {α : Type} {k : Bool} {a b : M α} (h : NoExc a) (h2 : NoExc b) : NoExc (if k = true then a else b) := by cases k <;> assumption
section
variable {Γ : Gam} {x : Exn}
mutual
theorem noX : ∀ e : XE, NoExc (evX Γ x e)
  | .loc i => noLoc
  | .k d => noPure
  | .fld f => by
    show NoExc (if fldOk Γ x.cl f then _ else _)
    exact noIf noOfO noBad
  | .isx c => noOfO
  | .cmp o a b => (noX a).bind fun _ => noHold.bind fun _ => (noX b).bind fun _ => noPeek.bind fun _ => noPeek.bind fun _ => noCmp.bind fun _ => noPure
  | .and a b => (noX a).bind fun _ => noPeek.bind fun _ => noTest.bind fun k => noIf (noX b) noPure
  | .or a b => (noX a).bind fun _ => noPeek.bind fun _ => noTest.bind fun k => noIf noPure (noX b)
  | .not a => (noX a).bind fun _ => noPeek.bind fun _ => noTest.bind fun _ => noPure
  | .tup es => (noXs es).bind fun ds => noIf noPure noBad
theorem noXs : ∀ e : XEs, NoExc (evXs Γ x e)
  | .nil => noPure
  | .cons e r => (noX e).bind fun _ => noFrz.bind fun _ => (noXs r).bind fun _ => noPure
end
theorem noU : ∀ u : Su, NoExc (exU Γ x u)
  | .done => noPure
  | .ret e => (noX e).bind fun _ => noRet.bind fun _ => noPure
  | .retN => noPure
  | .ite c e r => ((noX c).bind fun _ => noPeek.bind fun _ => noTest).bind fun k => noIf ((noX e).bind fun _ => noRet.bind fun _ => noPure) (noU r)
end

/-! ### the compiler -/
def isN (en : Option Str) (x : Str) : Bool := decide (en = some x)
def cXN (nm : Nm) (en : Option Str) (x : Str) : Option XE := if okName x && !isN en x then (nm.slot x).map .loc else none
def cXK : Const → Option XE
  | .int i => some (.k (.int i))
  | .bool i => some (.k (.bl i))
  | .none => some (.k .non)
  | .str i => some (.k (.str i))
  | _ => none
def cXI (nm : Nm) (en : Option Str) (x c : Str) : Option XE :=
  if isN en x && okName x && nm.isGl "isinstance" && decide (("isinstance" : Str) ∈ nm.blts) && nm.isGl c && okName c && (nm.slot x).isSome then some (.isx c) else none
def cXCall (nm : Nm) (en : Option Str) : Expr → List Expr → Option XE
  | .Name g _, [.Name x _, .Name c _] => if g = "isinstance" then cXI nm en x c else none
  | _, _ => none
def cXF (nm : Nm) (en : Option Str) (f : Str) : Expr → Option XE
  | .Name x _ => if isN en x && okName x && (nm.slot x).isSome then some (.fld f) else none
  | _ => none
def cXs (f : Expr → Option XE) : List Expr → Option XEs
  | [] => some .nil
  | e :: es => if plainE e then match f e, cXs f es with
      | some a, some as => some (.cons a as)
      | _, _ => none
    else none
def cXB (and : Bool) (f : Expr → Option XE) : List Expr → Option XE
  | [] => none
  | [a] => f a
  | a :: b :: r => match f a, cXB and f (b :: r) with
    | some x, some y => some (if and then .and x y else .or x y)
    | _, _ => none
def cXC (f : Expr → Option XE) (a : Expr) : List CmpOp → List Expr → Option XE
  | [op], [b] => if plainE b then match f a, f b with
      | some x, some y => some (.cmp (cCop op) x y)
      | _, _ => none
    else none
  | _, _ => none
def cX (nm : Nm) (en : Option Str) : Nat → Expr → Option XE
  | 0, _ => none
  | n + 1, e => match e with
    | .Name x _ => cXN nm en x
    | .Constant c _ _ => cXK c
    | .Attribute o f _ => cXF nm en f o
    | .Call g args [] _ => cXCall nm en g args
    | .Compare a ops bs _ => cXC (cX nm en n) a ops bs
    | .BoolOp .And vs _ => cXB true (cX nm en n) vs
    | .BoolOp .Or vs _ => cXB false (cX nm en n) vs
    | .UnaryOp .Not a _ => (cX nm en n a).map .not
    | .Tuple es _ _ => (cXs (cX nm en n) es).map .tup
    | _ => none
def cU (f : Expr → Option XE) : List Stmt → Option Su
  | [] => some .done
  | [.Return none _] => some .retN
  | [.Return (some e) _] => (f e).map .ret
  | .If c [.Return (some e) _] [] _ :: r => match f c, f e, cU f r with
    | some x, some y, some u => some (.ite x y u)
    | _, _, _ => none
  | _ => none

/-! ### what is known within -/
/-- the exception's class and fields, as long as the suite runs -/
def XP (cl : Str → Option Addr) (K : PySem.W.Frag) (x : Exn) (cls : Value) (d : Option Addr) (w : Wd) : Prop :=
  ∃ C, cl x.cl = some C ∧ cls = .ref C ∧ ((x.fs = [] ∧ d = none) ∨ ∃ dd fvs, d = some dd ∧ (w.F dd = some (.xd fvs) ∨ w.B dd = some (.xd fvs)) ∧ RepF K w.ι w.F fvs x.fs)
def XQ (cl : Str → Option Addr) (K : PySem.W.Frag) (x : Exn) (a : Addr) (cls : Value) (d : Option Addr) (as : Option Nat) (w : Wd) (σ : L2.St) : Prop := XP cl K x cls d w ∧ ∀ i, as = some i → σ[i]? = some (some (.ref a))
theorem xq_stay {cl : Str → Option Addr} {K : PySem.W.Frag} {x : Exn} {a : Addr} {cls : Value} {d : Option Addr} {as : Option Nat} : Stay (XQ cl K x a cls d as) := by
  rintro w w' σ le ⟨⟨C, h1, h2, h3⟩, h4⟩
  refine ⟨⟨C, h1, h2, ?_⟩, h4⟩
  rcases h3 with h3 | ⟨dd, fvs, h3, h5, h6⟩
  · exact .inl h3
  · refine .inr ⟨dd, fvs, h3, ?_, h6.mono le.f le.i⟩
    rcases h5 with h5 | h5
    · exact .inl (le.f _ _ h5)
    · exact .inr (by rw [le.b]; exact h5)

section
variable {X : Cx} {nm : Nm} {cl : Str → Option Addr} {Γ : Gam} {k : Nat} {x : Exn} {a : Addr} {oe : Obj} {cls : Value} {d : Option Addr} {pn : List (Addr × Obj)} {as : Option Nat} {en : Option Str}
/-- what the names are within a suite -/
structure SuH (X : Cx) (nm : Nm) (cl : Str → Option Addr) (Γ : Gam) (k : Nat) (as : Option Nat) (en : Option Str) : Prop where
  hN : X.N = nm.N
  hsc : X.env.scope = nm.sc
  hu : X.A.units + 64 < cLine
  env : GEnv X.prog X.w X.K X.mg X.base cl Γ k nm.fns nm.consts nm.blts nm.excs
  en : ∀ x, en = some x → ∃ i, as = some i ∧ X.N[i]? = some x
theorem cU_plain {n : Nat} {e : Expr} {y : XE} (h : cX nm en n e = some y) : plainE e = true := by
  cases n with
  | zero => cases h
  | succ n => cases e <;> first | rfl | cases h
theorem call_isE2 {D : Addr} (C : ExcC X.K D) (hz : Zc (.ref D) d oe) (hf : ∃ vs, oe.data = .fields vs) : CallR (X.suite a ((a, oe) :: pn)) (.builtin "isinstance") (fun xs H Q => (d = none ∨ ∃ dd fvs, d = some dd ∧ H dd = some (.xd fvs)) ∧ rIsE X.K D a xs H Q) := by
  intro pins s σ H xs us Q I r ⟨hd, h⟩
  obtain ⟨c, cv, b, rfl, hcv, e, q⟩ := h
  cases r with
  | cons rx rr =>
    cases rr with
    | cons rt rr =>
      cases rr
      cases rx
      have ec := hcv _ rt
      subst ec
      obtain ⟨hget, _⟩ := I.pin (a, oe) (List.mem_append.mpr (.inl List.mem_cons_self))
      obtain ⟨vs, hv⟩ := hf
      have hcl : (PySem.W.clsIn X.K D).isSome = true := by
        obtain ⟨cd, hc, _⟩ := PySem.W.any_some C.hd
        rw [hc]
        rfl
      rcases hd with hd | ⟨dd, fvs, hd, hH⟩
      · have J : PySem.W.InstAt s.heap a oe D none := by
          obtain ⟨oc, od, oda, osl⟩ := oe
          obtain ⟨h1, h2⟩ := hz
          dsimp only at h1 h2 hv
          subst h1 h2 hv
          subst hd
          exact ⟨hget, rfl, rfl, trivial⟩
        exact PySem.W.kia_one (PySem.W.kitx_exc hcl C.hg C.hk C.hs C.ha C.hn C.ht C.hm) I.kIn J e (fun z => nomatch z) fun tk => ⟨.bl b, H, I.kept (t' := tk) fun _ _ z => z, rfl, q⟩
      · have hx : ObjOk X.prog X.w H s.heap dd (.xd fvs) := I.hok dd _ hH
        obtain ⟨mA, hns, hr⟩ := hx
        obtain ⟨od, ho, hl⟩ := lookIn_ns hns
        have J : PySem.W.InstAt s.heap a oe D (some od) := ⟨hget, hz.1, by unfold PySem.W.notCls; rw [hv] <;> rfl, by rw [hz.2, hd]; exact ho⟩
        exact PySem.W.kia_one (PySem.W.kitx_exc hcl C.hg C.hk C.hs C.ha C.hn C.ht C.hm) I.kIn J e (fun z => nomatch z) fun tk => ⟨.bl b, H, I.kept (t' := tk) fun _ _ z => z, rfl, q⟩
theorem s_isx (h : SuH X nm cl Γ k as en) (hz : Zc cls d oe) (hf : ∃ vs, oe.data = .fields vs) {y c : Str} {p1 p2 p3 pos : Pos} {xe : XE} (hc : cXI nm en y c = some xe) :
    PE (X.suite a ((a, oe) :: pn)) (.Call (.Name "isinstance" p1) [.Name y p2, .Name c p3] [] pos) (RunP (XQ cl X.K x a cls d as) X.K cl W0 (RRep X.K cl) (evX Γ x xe)) := by
  unfold cXI at hc
  split at hc
  · rename_i hq
    cases hc
    simp only [Bool.and_eq_true, decide_eq_true_eq] at hq
    obtain ⟨⟨⟨⟨⟨⟨q1, q2⟩, q3⟩, q4⟩, q5⟩, q6⟩, q7⟩ := hq
    refine ⟨fun pins s σ H Q I ⟨w, ⟨⟨C, e1, e2, e3⟩, hσ⟩, ct⟩ => ?_⟩
    have hy : en = some y := of_decide_eq_true q1
    obtain ⟨i, ei, hN⟩ := h.en y hy
    obtain ⟨i', hs⟩ := Option.isSome_iff_exists.mp q7
    obtain ⟨_, hv⟩ := slot_of hs
    have hw : wpO (ofO ((Γ.sub x.cl c).map fun k => Rv.v (.bl k)) w.sm) _ _ := ct.wp
    cases hsub : Γ.sub x.cl c with
    | none => rw [hsub] at hw; exact hw.elim
    | some b =>
      rw [hsub] at hw
      have hw : ∀ w' H' v, Le w w' → w'.sm = w.sm → Rel X.K cl w' H' σ → RRep X.K cl w' H' σ v (.v (.bl b)) → Q v H' := hw
      obtain ⟨C', D, g1, g2, E1, E2, g3, g4⟩ := h.env.exm _ _ _ hsub
      rw [e1] at g1
      cases g1
      subst e2
      obtain ⟨n1, n2, n3⟩ := okName_of q2
      obtain ⟨m1, m2, m3⟩ := okName_of q6
      have gl : ∀ {z}, nm.isGl z = true → Gl X z := fun {z} hg => by
        unfold Nm.isGl at hg
        split at hg
        · rename_i q
          show X.env.scope.names.lookup z = _
          rw [h.hsc]
          exact q
        · cases hg
      have hg2 : PE (X.suite a ((a, oe) :: pn)) (.Name c p3) (tC (.ref D)) := pe_glob (gl q5) E2.gl (v := .ref D) (show RelV (.ref D) (.ref D) from rfl) m1
      have hv2 : PE (X.suite a ((a, oe) :: pn)) (.Name y p2) _ := pe_var (i := i) hN (by rw [show (X.suite a ((a, oe) :: pn)).env.scope = nm.sc from h.hsc]; exact hv) n1 n2
      refine (pe_callB (call_isE2 E1.ex hz hf) (gl q3) (h.env.blt _ q4) (by decide +kernel) (pa_cons hv2 (pa_cons hg2 pa_nil (star_of rfl)) (star_of rfl)) (by decide) (by decide) (star_of rfl) rfl).run pins s σ H Q I ?_
      refine ⟨.ref a, hσ i ei, ?_⟩
      refine ⟨?_, .ref D, .ref D, b, rfl, fun u z => z, g4, hw w H _ (Le.refl w) rfl ct.rel (.bl b)⟩
      rcases e3 with e3 | ⟨dd, fvs, e3, e4, _⟩
      · exact .inl e3.2
      · refine .inr ⟨dd, fvs, e3, ?_⟩
        rcases e4 with e4 | e4
        · exact ct.rel.fH _ _ e4
        · exact ct.rel.bH _ _ e4
  · cases hc
theorem s_xfld (h : SuH X nm cl Γ k as en) (hE : ∀ C, cl x.cl = some C → ExcC X.K C) (hz : Zc cls d oe) (hf : ∃ vs, oe.data = .fields vs) {o : Expr} {f : Str} {pos : Pos} {xe : XE} (hc : cXF nm en f o = some xe) :
    PE (X.suite a ((a, oe) :: pn)) (.Attribute o f pos) (RunP (XQ cl X.K x a cls d as) X.K cl W0 (RRep X.K cl) (evX Γ x xe)) := by
  unfold cXF at hc
  split at hc
  · rename_i y p
    split at hc
    · rename_i hq
      cases hc
      simp only [Bool.and_eq_true] at hq
      obtain ⟨⟨q1, q2⟩, q3⟩ := hq
      refine ⟨fun pins s σ H Q I ⟨w, ⟨⟨C, e1, e2, e3⟩, hσ⟩, ct⟩ => ?_⟩
      have hy : en = some y := of_decide_eq_true q1
      obtain ⟨i, ei, hN⟩ := h.en y hy
      obtain ⟨i', hs⟩ := Option.isSome_iff_exists.mp q3
      obtain ⟨_, hv⟩ := slot_of hs
      obtain ⟨n1, n2, n3⟩ := okName_of q2
      have hw : wpO ((if fldOk Γ x.cl f then ofO ((x.fs.lookup f).map Rv.v) else M.bad) w.sm) _ _ := ct.wp
      by_cases hfo : fldOk Γ x.cl f = true
      · rw [if_pos hfo] at hw
        cases hl : x.fs.lookup f with
        | none => rw [hl] at hw; exact hw.elim
        | some dv =>
          rw [hl] at hw
          have hw : ∀ w' H' v, Le w w' → w'.sm = w.sm → Rel X.K cl w' H' σ → RRep X.K cl w' H' σ v (.v dv) → Q v H' := hw
          have hno : PySem.W.findIn X.K (.ref C) f = some none := by
            unfold fldOk at hfo
            split at hfo
            · rename_i fs q
              exact h.env.xfn _ _ _ _ q (of_decide_eq_true hfo) e1
            · cases hfo
          have E := hE C e1
          have hv2 : PE (X.suite a ((a, oe) :: pn)) (.Name y p) _ := pe_var (i := i) hN (by rw [show (X.suite a ((a, oe) :: pn)).env.scope = nm.sc from h.hsc]; exact hv) n1 n2
          refine (pe_xf (C := C) ⟨E.hg, E.hk, E.hs, E.hd⟩ hno hz hf hv2).run pins s σ H Q I ?_
          refine ⟨.ref a, hσ i ei, rfl, e2, ?_⟩
          rcases e3 with e3 | ⟨dd, fvs, e3, e4, e5⟩
          · exfalso
            rw [e3.1] at hl
            cases hl
          · have look : ∀ {fvs : List (Str × V)} {fs : List (Str × D)}, RepF X.K w.ι w.F fvs fs → fs.lookup f = some dv → ∃ v, fvs.lookup f = some v ∧ Rep X.K w.ι w.F v dv := fun {fvs fs} r => by
              induction r with
              | nil => intro z; cases z
              | @cons x v d vs ds r1 r2 ih =>
                intro z
                rw [List.lookup_cons] at z ⊢
                split at z
                · cases z
                  exact ⟨v, rfl, r1⟩
                · exact ih z
            obtain ⟨v, l1, l2⟩ := look e5 hl
            refine ⟨dd, fvs, v, e3, ?_, l1, hw w H v (Le.refl w) rfl ct.rel l2⟩
            rcases e4 with e4 | e4
            · exact ct.rel.fH _ _ e4
            · exact ct.rel.bH _ _ e4
      · rw [if_neg hfo] at hw
        exact hw.elim
    · cases hc
  · cases hc
abbrev PX (X : Cx) (nm : Nm) (cl : Str → Option Addr) (Γ : Gam) (x : Exn) (a : Addr) (oe : Obj) (cls : Value) (d : Option Addr) (pn : List (Addr × Obj)) (as : Option Nat) (e : Expr) (xe : XE) : Prop :=
  PE (X.suite a ((a, oe) :: pn)) e (RunP (XQ cl X.K x a cls d as) X.K cl W0 (RRep X.K cl) (evX Γ x xe)) ∧ PT (X.suite a ((a, oe) :: pn)) e (RunP (XQ cl X.K x a cls d as) X.K cl W0 RB (tm (evX Γ x xe)))
theorem px_val {e : Expr} {xe : XE} (h : PE (X.suite a ((a, oe) :: pn)) e (RunP (XQ cl X.K x a cls d as) X.K cl W0 (RRep X.K cl) (evX Γ x xe))) (hp : plainT e = true) : PX X nm cl Γ x a oe cls d pn as e xe :=
  ⟨h, gp_val (X := X.suite a ((a, oe) :: pn)) xq_stay h fun whole => plain_true e hp whole⟩
theorem soundX (h : SuH X nm cl Γ k as en) (hE : ∀ C, cl x.cl = some C → ExcC X.K C) (hz : Zc cls d oe) (hf : ∃ vs, oe.data = .fields vs) : ∀ (n : Nat) (e : Expr) (xe : XE), cX nm en n e = some xe → PX X nm cl Γ x a oe cls d pn as e xe
  | 0, e, xe, q => by cases q
  | n + 1, e, xe, q => by
    have ih := soundX h hE hz hf n
    cases e with
    | Name y p =>
      have q : cXN nm en y = some xe := q
      unfold cXN at q
      split at q
      · rename_i hq
        rw [Bool.and_eq_true] at hq
        obtain ⟨i, hs, rfl⟩ := map_some q
        obtain ⟨hN, hv⟩ := slot_of hs
        exact px_val (gp_var (X := X.suite a ((a, oe) :: pn)) (by rw [show (X.suite a ((a, oe) :: pn)).N = nm.N from h.hN]; exact hN) (by rw [show (X.suite a ((a, oe) :: pn)).env.scope = nm.sc from h.hsc]; exact hv) hq.1) rfl
      · cases q
    | Constant c j p =>
      have q : cXK c = some xe := q
      cases c <;> first | (cases q; done) | skip
      all_goals cases q
      all_goals first
        | exact px_val (gp_k (X := X.suite a ((a, oe) :: pn)) pe_non fun _ _ => .non) rfl
        | exact px_val (gp_k (X := X.suite a ((a, oe) :: pn)) pe_bl fun _ _ => .bl _) rfl
        | exact px_val (gp_k (X := X.suite a ((a, oe) :: pn)) pe_int fun _ _ => .int _) rfl
        | exact px_val (gp_k (X := X.suite a ((a, oe) :: pn)) pe_str fun _ _ => .str _) rfl
    | Attribute o f p =>
      have q : cXF nm en f o = some xe := q
      exact px_val (s_xfld h hE hz hf q) rfl
    | Call g args kws p =>
      cases kws with
      | cons _ _ => cases q
      | nil =>
        have q : cXCall nm en g args = some xe := q
        unfold cXCall at q
        split at q
        · rename_i g' p1 y p2 c p3
          split at q
          · rename_i hg
            subst hg
            exact px_val (s_isx h hz hf q) rfl
          · cases q
        · cases q
    | Compare b ops bs p =>
      have q : cXC (cX nm en n) b ops bs = some xe := q
      unfold cXC at q
      split at q
      · rename_i op b2
        split at q
        · rename_i hp
          split at q
          · rename_i y z h1 h2
            cases q
            exact gp_cmp (X := X.suite a ((a, oe) :: pn)) xq_stay h.hu hp (ih _ _ h1).1 (ih _ _ h2).1
          · cases q
        · cases q
      · cases q
    | BoolOp op vs p =>
      have both : ∀ (and : Bool) (vs : List Expr) (xe : XE), cXB and (cX nm en n) vs = some xe → PE (X.suite a ((a, oe) :: pn)) (.BoolOp (if and then .And else .Or) vs p) (RunP (XQ cl X.K x a cls d as) X.K cl W0 (RRep X.K cl) (evX Γ x xe)) ∧ PW (X.suite a ((a, oe) :: pn)) (.BoolOp (if and then .And else .Or) vs p) (RunP (XQ cl X.K x a cls d as) X.K cl W0 RB (tm (evX Γ x xe))) := fun and vs => by
        induction vs with
        | nil => intro xe q; cases q
        | cons e es ih2 =>
          intro xe q
          cases es with
          | nil =>
            have q : cX nm en n e = some xe := q
            cases and with
            | true => exact ⟨pe_one (ih _ _ q).1, pw_and1 (ih _ _ q).2⟩
            | false => exact ⟨pe_one (ih _ _ q).1, pw_or1 (ih _ _ q).2⟩
          | cons e2 es =>
            unfold cXB at q
            split at q
            · rename_i y z h1 h2
              cases q
              obtain ⟨p1, p2⟩ := ih2 z h2
              cases and with
              | true => exact gp_and (X := X.suite a ((a, oe) :: pn)) xq_stay (ih _ _ h1).1 p1 (ih _ _ h1).2 p2
              | false => exact gp_or (X := X.suite a ((a, oe) :: pn)) xq_stay (ih _ _ h1).1 p1 (ih _ _ h1).2 p2
            · cases q
      cases op with
      | And =>
        obtain ⟨p1, p2⟩ := both true vs xe q
        exact ⟨p1, p2.pt⟩
      | Or =>
        obtain ⟨p1, p2⟩ := both false vs xe q
        exact ⟨p1, p2.pt⟩
    | UnaryOp op b p =>
      cases op with
      | Not =>
        obtain ⟨y, h1, rfl⟩ := map_some (show (cX nm en n b).map XE.not = some xe from q)
        exact gp_not (X := X.suite a ((a, oe) :: pn)) xq_stay (ih _ _ h1).1 (ih _ _ h1).2
      | _ => cases q
    | Tuple es j p =>
      obtain ⟨ys, h1, rfl⟩ := map_some (show (cXs (cX nm en n) es).map XE.tup = some xe from q)
      have all : ∀ (es : List Expr) (ys : XEs), cXs (cX nm en n) es = some ys → PA (X.suite a ((a, oe) :: pn)) es (RunP (XQ cl X.K x a cls d as) X.K cl W0 (RRs X.K cl) (evXs Γ x ys)) := fun es => by
        induction es with
        | nil => intro ys q; cases q; exact gp_nil (X := X.suite a ((a, oe) :: pn))
        | cons e es ih2 =>
          intro ys q
          unfold cXs at q
          split at q
          · rename_i hp
            split at q
            · rename_i y z h1 h2
              cases q
              exact gp_cons (X := X.suite a ((a, oe) :: pn)) xq_stay hp (ih _ _ h1).1 (ih2 z h2)
            · cases q
          · cases q
      exact px_val (gp_tup (X := X.suite a ((a, oe) :: pn)) xq_stay (all es ys h1)) rfl
    | _ => cases q

/-! ### suites -/
def RunU (P : Wd → L2.St → Prop) (K : PySem.W.Frag) (cl : Str → Option Addr) (m : M Fl) : TS := fun D σ H => ∃ w, P w σ ∧ ContS K cl W0 w H σ m D
theorem soundU (h : SuH X nm cl Γ k as en) (hE : ∀ C, cl x.cl = some C → ExcC X.K C) (hz : Zc cls d oe) (hf : ∃ vs, oe.data = .fields vs) {n : Nat} : ∀ (ss : List Stmt) (u : Su), cU (cX nm en n) ss = some u → PSs (X.suite a ((a, oe) :: pn)) ss (RunU (XQ cl X.K x a cls d as) X.K cl (exU Γ x u))
  | [], u, q => by
    cases q
    exact pss_nil.imp fun D σ H ⟨w, _, c⟩ => ContS.fin (f := .nx) c
  | st :: r, u, q => by
    have ret : ∀ {e : Expr} {y : XE} {pos : Pos}, cX nm en n e = some y → PS (X.suite a ((a, oe) :: pn)) (.Return (some e) pos) (RunU (XQ cl X.K x a cls d as) X.K cl (M.bind (evX Γ x y) fun r => M.bind (retR r) fun r => M.pure (.ret r))) := fun {e y pos} q =>
      (ps_ret (soundX h hE hz hf n _ _ q).1).imp fun D σ H ⟨w, p, c⟩ => ⟨w, p, (c.bind (RS := RRep X.K cl)).imp fun v H1 ⟨w1, r, le1, rr, c1⟩ => c1.retR rr⟩
    unfold cU at q
    split at q
    · rename_i e0
      cases e0
    · rename_i pos e
      cases q
      cases e
      exact (pss_one (ps_retN (X := X.suite a ((a, oe) :: pn)))).imp fun D σ H ⟨w, _, c⟩ => by
        have := ContS.fin (f := .ret (.v .non)) c
        exact this (fun _ z => by cases z) .non .non
    · rename_i e pos e0
      cases e0
      obtain ⟨y, h1, rfl⟩ := map_some q
      exact pss_one (ret h1)
    · rename_i c e p1 p2 r' e0
      cases e0
      split at q
      · rename_i y z u' h1 h2 h3
        cases q
        have hr := soundU h hE hz hf r u' h3
        refine (pss_cons (ps_if (soundX h hE hz hf n _ _ h1).2 (pss_one (ps_ret (soundX h hE hz hf n _ _ h2).1)) pss_nil) hr).imp fun D σ H ⟨w, p, c⟩ => ?_
        have c1 : ContS X.K cl W0 w H σ (M.bind (tm (evX Γ x y)) fun k => if k then M.bind (evX Γ x z) fun r => M.bind (retR r) fun r => M.pure (.ret r) else exU Γ x u') D := c
        refine ⟨w, p, (c1.bind (RS := RB)).imp fun v H1 ⟨w1, r1, le1, rr, c2⟩ => ?_⟩
        have rr : v = r1 := rr
        subst rr
        cases v with
        | true =>
          exact ⟨w1, xq_stay _ _ _ le1 p, (c2.bind (RS := RRep X.K cl)).imp fun v H1 ⟨w1, r, le1, rr, c1⟩ => c1.retR rr⟩
        | false => exact ⟨w1, xq_stay _ _ _ le1 p, c2⟩
      · cases q
    · cases q
end

/-! ### try: what stands around -/
section
variable {K : PySem.W.Frag} {cl : Str → Option Addr} {w : Wd} {H : Hp} {σ : L2.St}
/-- a slot forgotten, its name anything -/
theorem Rel.setNo (R : Rel K cl w H σ) (i : Nat) (x : Option V) : Rel K cl { w with ρ := w.ρ.set i .no } H (σ.set i x) := by
  have obS : ∀ j o1, ({ w with ρ := w.ρ.set i .no } : Wd).ob j = some o1 → j ≠ .s i ∧ w.ob j = some o1 := fun j o1 h => by
    cases j with
    | s k =>
      have h := of_ob_s h
      have h : (w.ρ.set i .no)[k]? = some (.own o1) := h
      by_cases q : i = k
      · subst q
        by_cases hi : i < w.ρ.length
        · rw [List.getElem?_set_self hi] at h
          cases h
        · rw [List.getElem?_eq_none (by rw [List.length_set]; omega)] at h
          cases h
      · rw [List.getElem?_set_ne q] at h
        exact ⟨fun y => q (by cases y; rfl), ob_s h⟩
    | c k => exact ⟨(fun z => by cases z), h⟩
  have ad : ∀ j, j ≠ .s i → ({ w with ρ := w.ρ.set i .no } : Wd).addr (σ.set i x) j = w.addr σ j := fun j hj => by
    cases j with
    | s k =>
      have q : i ≠ k := fun z => hj (by rw [z])
      show (match (σ.set i x)[k]? with | some (some (.ref p)) => some p | _ => none) = (match σ[k]? with | some (some (.ref p)) => some p | _ => none)
      rw [List.getElem?_set_ne q]
    | c k => rfl
  refine ⟨R.fH, R.bH, R.dis, by rw [List.length_set, R.len]; exact (List.length_set ..).symm, R.lenC, fun k d h => ?_, fun j o1 h => ?_, fun j1 j2 o1 o2 a h1 h2 h3 h4 => ?_⟩
  · have h : (w.ρ.set i .no)[k]? = some (.val d) := h
    by_cases q : i = k
    · subst q
      by_cases hi : i < w.ρ.length
      · rw [List.getElem?_set_self hi] at h
        cases h
      · rw [List.getElem?_eq_none (by rw [List.length_set]; omega)] at h
        cases h
    · rw [List.getElem?_set_ne q] at h
      rw [List.getElem?_set_ne q]
      exact R.val k d h
  · obtain ⟨nj, h⟩ := obS j o1 h
    rw [ad j nj]
    exact R.own j o1 h
  · obtain ⟨n1, h1⟩ := obS j1 o1 h1
    obtain ⟨n2, h2⟩ := obS j2 o2 h2
    rw [ad j1 n1] at h3
    rw [ad j2 n2] at h4
    exact R.inj j1 j2 o1 o2 a h1 h2 h3 h4
/-- an object of another kind, guarded -/
theorem Rel.guardX (R : Rel K cl w H σ) {p : Addr} {o : HO} (hH : H p = some o) (hF : w.F p = none) (hk : ∀ ob h, HoAt K cl w.ι w.F ob h → h ≠ o) : Rel K cl { w with B := upd w.B p o } H σ where
  fH := R.fH
  bH := fun a x e => by
    have e : upd w.B p o a = some x := e
    by_cases q : a = p
    · subst q
      rw [upd_same] at e
      cases e
      exact hH
    · rw [upd_ne q] at e
      exact R.bH a x e
  dis := fun a x e => by
    have e : upd w.B p o a = some x := e
    by_cases q : a = p
    · subst q
      exact hF
    · rw [upd_ne q] at e
      exact R.dis a x e
  len := R.len
  lenC := R.lenC
  val := R.val
  own := fun j ob e => by
    obtain ⟨a, h1, ⟨h2, h3, ho, h4, h5⟩⟩ := R.own j ob e
    refine ⟨a, h1, h2, ?_, ho, h4, h5⟩
    show upd w.B p o a = none
    rw [upd_ne fun z => ?_]
    · exact h3
    · rw [z, hH] at h4
      cases h4
      exact hk ob _ h5 rfl
  inj := R.inj
/-- back to an earlier guard -/
theorem Rel.unguardX {B : Hp} {w' : Wd} (R : Rel K cl w' H σ) (hB : Same B w'.B) : Rel K cl { w' with B := B } H σ where
  fH := R.fH
  bH := fun a o e => R.bH a o (hB a o e)
  dis := fun a o e => R.dis a o (hB a o e)
  len := R.len
  lenC := R.lenC
  val := R.val
  own := fun j ob e => by
    obtain ⟨a, h1, ⟨h2, h3, ho, h4, h5⟩⟩ := R.own j ob e
    refine ⟨a, h1, h2, ?_, ho, h4, h5⟩
    cases q : B a with
    | none => exact q
    | some x =>
      rw [hB a x q] at h3
      cases h3
  inj := R.inj
end
def setAs (as : Option Nat) (σ : L2.St) (x : Option V) : L2.St := match as with
  | some i => σ.set i x
  | none => σ
theorem rel_as {K : PySem.W.Frag} {cl : Str → Option Addr} {w : Wd} {H : Hp} {σ : L2.St} (R : Rel K cl w H σ) (as : Option Nat) (x : Option V) : Rel K cl { w with ρ := forget as w.ρ } H (setAs as σ x) := by
  cases as with
  | none => exact R
  | some i => exact R.setNo i x
/-- the suite's reading -/
def tsU (K : PySem.W.Frag) (cl : Str → Option Addr) (Γ : Gam) (as : Option Nat) (u : Su) (a : Addr) (cls : Value) (d : Option Addr) : TS := fun D σ H => ∃ x b, (∃ c, Γ.sub x.cl c = some b) ∧ RunU (XQ cl K x a cls d as) K cl (exU Γ x u) D σ H
section
variable {X : Cx} {nm : Nm} {cl : Str → Option Addr} {Γ : Gam} {k : Nat} {W : WX} {as : Option Nat} {u : Su} {c : Str} {m : M Fl} {D : Ends} {w : Wd} {H : Hp} {σ : L2.St}
/-- an exception of the body that is taken -/
theorem tried (c0 : ContS X.K cl W w H σ (tryM Γ m c as u) D) {x : Exn} {s' : Sm} (em : m w.sm = .exc x s') (hb : Γ.sub x.cl c = some true) {w' : Wd} {H' : Hp} {σ' : L2.St} {cc : Value} {d : Option Addr} (le : Le w w') (es : w'.sm = s') (R' : Rel X.K cl w' H' σ') (xr : XR X.K cl w' H' x cc d) (a : Addr) :
    tsU X.K cl Γ as u a cc d { nx := fun σ3 H3 => D.nx (setAs as σ3 none) H3, rt := D.rt, bk := fun σ3 H3 => D.bk (setAs as σ3 none) H3, ct := fun σ3 H3 => D.ct (setAs as σ3 none) H3 } (setAs as σ' (some (.ref a))) H' := by
  have hw := c0.wp
  have e0 : tryM Γ m c as u w.sm = if okAs as s'.ρ then (M.bind (exU Γ x u) fun f => fun s => .ok f { s with ρ := forget as s.ρ }) { s' with ρ := forget as s'.ρ } else .bad := by
    unfold tryM
    rw [em]
    dsimp only
    rw [hb]
  rw [e0] at hw
  by_cases hok : okAs as s'.ρ = true
  · rw [if_pos hok, wpO_bind] at hw
    obtain ⟨C, q1, q2, q3⟩ := xr
    have Rn := rel_as R' as (some (.ref a))
    have hσ : ∀ i, as = some i → (setAs as σ' (some (V.ref a)))[i]? = some (some (.ref a)) := fun i hi => by
      subst hi
      show (σ'.set i (some (.ref a)))[i]? = _
      rw [List.getElem?_set_self]
      rw [R'.len]
      have : decide (i < s'.ρ.length) = true := hok
      have hl := of_decide_eq_true this
      rw [← es] at hl
      exact hl
    -- the world within
    obtain ⟨B', hB, P⟩ : ∃ B' : Hp, (Same w'.B B' ∧ Rel X.K cl { w' with ρ := forget as w'.ρ, B := B' } H' (setAs as σ' (some (.ref a)))) ∧ XP cl X.K x cc d { w' with ρ := forget as w'.ρ, B := B' } := by
      rcases q3 with q3 | ⟨dd, fvs, g1, g2, g3⟩
      · exact ⟨w'.B, ⟨Same.refl _, Rn⟩, C, q1, q2, .inl q3⟩
      · cases hF : w'.F dd with
        | some o =>
          have := R'.fH dd o hF
          rw [g2] at this
          cases this
          exact ⟨w'.B, ⟨Same.refl _, Rn⟩, C, q1, q2, .inr ⟨dd, fvs, g1, .inl hF, g3⟩⟩
        | none =>
          refine ⟨upd w'.B dd (.xd fvs), ⟨fun b o e => ?_, Rn.guardX g2 hF ?_⟩, C, q1, q2, .inr ⟨dd, fvs, g1, .inr upd_same, g3⟩⟩
          · by_cases q : b = dd
            · subst q
              have := R'.bH b o e
              rw [g2] at this
              cases this
              exact upd_same
            · rw [upd_ne q]
              exact e
          · intro ob h ha z
            subst z
            cases ob with
            | lst ds => obtain ⟨vs, z, _⟩ := ha; cases z
            | dic ds => obtain ⟨vs, z, _⟩ := ha; cases z
            | ins c fs => obtain ⟨C, dx, vs, _, z, _⟩ := ha; cases z
    refine ⟨x, true, ⟨c, hb⟩, _, ⟨P, hσ⟩, hB.2, ?_⟩
    have e1 : (⟨forget as w'.ρ, w'.C⟩ : Sm) = { s' with ρ := forget as s'.ρ } := by rw [← es]; rfl
    show wpO (exU Γ x u ⟨forget as w'.ρ, w'.C⟩) _ _
    rw [e1]
    cases eu : exU Γ x u { s' with ρ := forget as s'.ρ } with
    | bad => rw [eu] at hw; exact hw.elim
    | exc y s2 => exact absurd eu (noU u _ _ _)
    | ok f s2 =>
      rw [eu] at hw
      have hw : ∀ w3 H3 σ3, Le w w3 → w3.sm = { s2 with ρ := forget as s2.ρ } → Rel X.K cl w3 H3 σ3 → FlOk X.K cl D w3 H3 σ3 f := hw
      intro w3 H3 σ3 le3 es3 R3
      have hB3 : Same w'.B w3.B := by
        rw [le3.b]
        exact hB.1
      have R4 := (rel_as R3 as none).unguardX (B := w'.B) hB3
      have q := hw { w3 with ρ := forget as w3.ρ, B := w'.B } H3 (setAs as σ3 none) ⟨le.f.trans le3.f, le.b, fun c a h => le3.i c a (le.i c a h)⟩ (by rw [← es3]; rfl) R4
      cases f with
      | nx => exact q
      | brk => exact q
      | ct => exact q
      | ret r =>
        intro hr v rv
        refine q hr v ?_
        cases r with
        | v d => exact rv
        | s i => exact absurd rfl (hr i)
        | n o =>
          obtain ⟨p, rfl, ⟨h1, h2, h3⟩, h4⟩ := rv
          refine ⟨p, rfl, ⟨h1, ?_, h3⟩, fun j o' e z => ?_⟩
          · show w'.B p = none
            cases qb : w'.B p with
            | none => rfl
            | some x =>
              rw [hB3 p x qb] at h2
              cases h2
          · have : w3.ob j = some o' ∧ w3.addr σ3 j = some p := by
              cases as with
              | none => exact ⟨by cases j <;> exact e, by cases j <;> exact z⟩
              | some i =>
                cases j with
                | c j => exact ⟨e, z⟩
                | s j =>
                  have e := of_ob_s e
                  have e : (w3.ρ.set i .no)[j]? = some (.own o') := e
                  by_cases qi : i = j
                  · subst qi
                    by_cases hi : i < w3.ρ.length
                    · rw [List.getElem?_set_self hi] at e
                      cases e
                    · rw [List.getElem?_eq_none (by rw [List.length_set]; omega)] at e
                      cases e
                  · rw [List.getElem?_set_ne qi] at e
                    refine ⟨ob_s e, ?_⟩
                    have z := of_addr_s z
                    have z : (σ3.set i none)[j]? = some (some (.ref p)) := z
                    rw [List.getElem?_set_ne qi] at z
                    exact addr_s z
            exact h4 j o' this.1 this.2
  · rw [if_neg hok] at hw
    exact hw.elim
end
end IR

set_option Elab.async false
set_option linter.all false
set_option maxRecDepth 100000
/-! IrX: the statements' compiler, and that it is right. -/
namespace IR
open PySem L2


/-! ### the compiler -/
def notComp : Expr → Bool
  | .ListComp _ _ _ _ => false
  | .SetComp _ _ _ _ => false
  | .DictComp _ _ _ _ _ => false
  | _ => true
def isNm : Expr → Option (Str × Pos)
  | .Name x p => some (x, p)
  | _ => none
def swT (nm : Nm) (x : Str) (py p2 : Pos) (scope : Scope) : Bool :=
  (match nm.sc.names.lookup x with | some .local => true | _ => false) && py.line == p2.line && !(scope.names.any fun (n, k) => n == x && (k == .local || k == .cell))
def swF (nm : Nm) (x : Str) : Bool := match nm.sc.names.lookup x with | some .cell => true | _ => false
def cAsgC (nm : Nm) (i : Nat) (x : Str) (py : Pos) (ir : E) : Expr → Option S
  | .ListComp _ _ scope p2 => if swT nm x py p2 scope || swF nm x then some (.asg (.nm i) ir) else none
  | _ => none
def cAsgN (mu : List Str) (nm : Nm) (f : Expr → Option E) (x : Str) (py : Pos) (e : Expr) : Option S :=
  match nm.loc x, f e with
  | some i, some ir => if x ∈ mu then (if notComp e then some (.cell i ir) else none) else if notComp e then some (.asg (.nm i) ir) else cAsgC nm i x py ir e
  | _, _ => none
def isLocal (nm : Nm) (x : Str) : Bool := match nm.sc.names.lookup x with | some .local => true | _ => false
def cPar (nm : Nm) (f : Expr → Option E) (x y : Str) (px py : Pos) (a b : Expr) : Option S :=
  if isLocal nm x && isLocal nm y && decide (x ≠ y) && px.line == py.line && plainE a && plainE b && !([a, b].all (foldedForSure 8)) && !([a, b].all (constantsAlone 8)) then
    match nm.loc x, nm.loc y, cList f [a, b] with
    | some i, some j, some es => if i = j then none else some (.par i j es)
    | _, _, _ => none
  else none
def cAsgT (nm : Nm) (f : Expr → Option E) (ts : List Expr) (tg e : Expr) : Option S :=
  match e with
  | .Tuple vs _ _ => match ts, vs with
    | [.Name x px, .Name y py], [a, b] => cPar nm f x y px py a b
    | _, _ => none
  | e => if notComp e then match cTg nm tg, f e with
      | some t, some ir => some (.asg t ir)
      | _, _ => none
    else none
def cAsgS (f : Expr → Option E) (o i e : Expr) : Option S :=
  if plainE i && notComp e then match f o, f i, f e with
    | some a, some b, some c => some (.setI a b c)
    | _, _, _ => none
  else none
def cAsg (mu : List Str) (nm : Nm) (f : Expr → Option E) (ts : List Expr) (e : Expr) : Option S :=
  match ts with
  | [.Name x py] => cAsgN mu nm f x py e
  | [.Tuple es k p] => cAsgT nm f es (.Tuple es k p) e
  | [.Subscript o i _] => cAsgS f o i e
  | _ => none
def cAugOp : Operator → Option BOp
  | .Add => some .add | .Sub => some .sub | .Mult => some .mul | .FloorDiv => some .fdiv | .Mod => some .mod
  | _ => none
def cAug (nm : Nm) (f : Expr → Option E) (tg : Expr) (op : Operator) (e : Expr) : Option S :=
  match tg with
  | .Name x _ => match nm.loc x, cAugOp op, f e with
    | some i, some o, some ir => some (.aug i o ir)
    | _, _, _ => none
  | .Subscript a b _ => if plainE b then match f a, f b, cAugOp op, f e with
      | some x, some y, some o, some ir => some (.augI x y o ir)
      | _, _, _, _ => none
    else none
  | _ => none
def isSuper (nm : Nm) (e : Expr) : Bool := match e with
  | .Call (.Name _ _) [] [] _ => true
  | _ => false
def cExpr (nm : Nm) (f : Expr → Option E) (e : Expr) : Option S :=
  match e with
  | .Constant (.str _) _ _ => some .pass
  | .Call (.Attribute o m apos) [a] [] cpos => if m = "append" ∧ (apos.endLine == cpos.line) = true ∧ plainE a = true ∧ isSuper nm o = false then match f o, f a with
      | some x, some y => some (.app x y)
      | _, _ => none
    else none
  | e => if notComp e then (f e).map .expr else none
def cSs (f : Stmt → Option S) : List Stmt → Option Ss
  | [] => some .nil
  | s :: r => match f s, cSs f r with
    | some x, some y => some (.cons x y)
    | _, _ => none
def cFor (nm : Nm) (n : Nat) (g : Stmt → Option S) (tg it : Expr) (b : List Stmt) : Option S :=
  match cI n nm (isTuple tg) it, cTg nm tg, cSs g b with
  | some i, some t, some x => some (.for t i x)
  | _, _, _ => none
def cIte (f : Expr → Option E) (g : Stmt → Option S) (c : Expr) (a b : List Stmt) : Option S :=
  match f c, cSs g a, cSs g b with
  | some x, some y, some z => some (.ite x y z)
  | _, _, _ => none
def cWhile (f : Expr → Option E) (g : Stmt → Option S) (c : Expr) (b : List Stmt) : Option S :=
  match f c, cSs g b with
  | some x, some y => some (.while x y)
  | _, _ => none
def cTryU (nm : Nm) (n : Nat) (as : Option Str) (suite : List Stmt) : Option Su := cU (cX nm as n) suite
def isCons : List Stmt → Bool
  | _ :: _ => true
  | [] => false
def cTry (nm : Nm) (n : Nat) (g : Stmt → Option S) (b : List Stmt) (c : Str) (as : Option Str) (suite : List Stmt) : Option S :=
  if okName c && nm.isGl c && decide (c ∈ nm.excs) && isCons suite then match as with
    | none => match cSs g b, cTryU nm n none suite with
      | some x, some u => some (.try x c none u)
      | _, _ => none
    | some y => if isLocal nm y then match cSs g b, nm.loc y, cTryU nm n (some y) suite with
        | some x, some i, some u => some (.try x c (some i) u)
        | _, _, _ => none
      else none
  else none
def cRaise (nm : Nm) : Option Expr → Option Expr → Option S
  | some (.Call (.Name x _) [] [] _), none => if okName x && nm.isGl x && decide (x ∈ nm.excs) then some (.raise x .nil) else some .nev
  | _, _ => some .nev
def cS (mu : List Str) (nm : Nm) : Nat → Stmt → Option S
  | 0, _ => none
  | n + 1, st => match st with
    | .Assign ts e _ => cAsg mu nm (cE n nm) ts e
    | .AugAssign tg op e _ => cAug nm (cE n nm) tg op e
    | .Expr e _ => cExpr nm (cE n nm) e
    | .Return none _ => some .retN
    | .Return (some e) _ => (cE n nm e).map .ret
    | .If c a b _ => cIte (cE n nm) (cS mu nm n) c a b
    | .While c b [] _ => cWhile (cE n nm) (cS mu nm n) c b
    | .For tg it b [] _ => cFor nm n (cS mu nm n) tg it b
    | .Pass _ => some .pass
    | .Break _ => some .brk
    | .Continue _ => some .cont
    | .Raise e f _ => cRaise nm e f
    | .Try b [.ExceptHandler (some (.Name c _)) as suite _] [] [] _ => cTry nm n (cS mu nm n) b c as suite
    | _ => none

/-! ### each form -/
structure HypS (X : Cx) (nm : Nm) (W : WX) (cl : Str → Option Addr) (Γ : Gam) (k : Nat) : Prop where
  hyp : Hyp X nm W cl Γ k
  pas : PassesOwn (model X.prog X.w) X.A X.env X.xe
  kind : X.env.scope.kind = .function
  stk : X.stack = X.env :: X.outer
  frm : X.env.frame = some X.env.locals
abbrev tS (K : PySem.W.Frag) (cl : Str → Option Addr) (W : WX) (Γ : Gam) (s : S) : TS := RunS K cl W (ex Γ s)
abbrev tSs (K : PySem.W.Frag) (cl : Str → Option Addr) (W : WX) (Γ : Gam) (s : Ss) : TS := RunS K cl W (exs Γ s)

section
variable {X : Cx} {nm : Nm} {W : WX} {cl : Str → Option Addr} {Γ : Gam} {k : Nat} {pos : Pos}
theorem sw_not {e : Expr} {t : Option Expr} {l : Nat} {env : Env} (h : notComp e = true) : swapsWith e t l env = pure false := by
  cases e <;> first | rfl | cases h
theorem asg_name {e : Expr} {i : Nat} {x : E} (y : Str) (py : Pos) (D : Ends) (σ : L2.St) (H : Hp) (t : TE) (ht : ∀ Q, tE X.K cl W Γ x σ H Q → t σ H Q) (h : tS X.K cl W Γ (.asg (.nm i) x) D σ H) : tAsg t (gName i) D σ H := by
  obtain ⟨w, c⟩ := h
  have c : ContS X.K cl W w H σ (M.bind (ev Γ x) fun r => M.bind (asgN i r) fun _ => M.pure .nx) D := c
  refine ht _ ⟨w, (c.bind (RS := RRep X.K cl)).imp fun v H1 ⟨w1, r, le1, rr, c1⟩ => ?_⟩
  obtain ⟨w2, c2⟩ := c1.asgN rr
  exact c2.fin
theorem ss_asgN (h : HypS X nm W cl Γ k) {y : Str} {py : Pos} {e : Expr} {i : Nat} {x : E} (hy : nm.loc y = some i) (he : PE X e (tE X.K cl W Γ x)) (hs : swapsWith e (some (.Name y py)) pos.line X.env = pure false) : PS X (.Assign [.Name y py] e pos) (tS X.K cl W Γ (.asg (.nm i) x)) := by
  obtain ⟨h1, h2, h3⟩ := loc_of hy
  have hf : X.fn y = true ∨ X.env.scope.names.lookup y = some .local := by
    rcases h3 with q | q
    · exact .inr (by rw [h.hyp.hsc]; exact q)
    · exact .inl (h.hyp.fn y q)
  exact (ps_set h.hyp.nd (by rw [h.hyp.hN]; exact h1) (by rw [h.hyp.hsc]; exact h2) he hs hf).imp fun D σ H q => asg_name (e := e) y py D σ H _ (fun _ z => z) q
theorem ss_cell (h : HypS X nm W cl Γ k) {y : Str} {py : Pos} {e : Expr} {i : Nat} {x : E} (hy : nm.loc y = some i) (he : PE X e (tE X.K cl W Γ x)) (hs : swapsWith e (some (.Name y py)) pos.line X.env = pure false) : PS X (.Assign [.Name y py] e pos) (tS X.K cl W Γ (.cell i x)) := by
  obtain ⟨h1, h2, h3⟩ := loc_of hy
  have hf : X.fn y = true ∨ X.env.scope.names.lookup y = some .local := by
    rcases h3 with q | q
    · exact .inr (by rw [h.hyp.hsc]; exact q)
    · exact .inl (h.hyp.fn y q)
  refine (ps_set h.hyp.nd (by rw [h.hyp.hN]; exact h1) (by rw [h.hyp.hsc]; exact h2) he hs hf).imp fun D σ H ⟨w, c⟩ => ?_
  have c : ContS X.K cl W w H σ (M.bind (ev Γ x) fun r => M.bind (cellN i r) fun _ => M.pure .nx) D := c
  refine ⟨w, (c.bind (RS := RRep X.K cl)).imp fun v H1 ⟨w1, r, le1, rr, c1⟩ => ?_⟩
  obtain ⟨w2, c2⟩ := c1.cellN rr
  exact c2.fin
theorem sw_cell {elt : Expr} {gs : List Comprehension} {scope : Scope} {p2 py : Pos} {y : Str} {l : Nat} {env : Env} (hy : env.scope.names.lookup y = some .cell) : swapsWith (.ListComp elt gs scope p2) (some (.Name y py)) l env = pure false := by
  have ky : env.kindOf y = some .cell := hy
  unfold swapsWith
  simp only [ky]
  have e : (some NameKind.cell == some NameKind.local) = false := by rfl
  simp [e]
theorem ss_asgC (h : HypS X nm W cl Γ k) {n : Nat} {y : Str} {py : Pos} {e : Expr} {i : Nat} {x : E} {s : S} (hy : nm.loc y = some i) (he : cE n nm e = some x) (hc : cAsgC nm i y py x e = some s) : PS X (.Assign [.Name y py] e pos) (tS X.K cl W Γ s) := by
  cases e with
  | ListComp elt gens scope p2 =>
    have hc : (if swT nm y py p2 scope || swF nm y then some (S.asg (.nm i) x) else none) = some s := hc
    split at hc
    · rename_i hq
      cases hc
      by_cases hF : swF nm y = true
      · have hl : X.env.scope.names.lookup y = some .cell := by
          rw [h.hyp.hsc]
          unfold swF at hF
          split at hF
          · assumption
          · cases hF
        exact ss_asgN h hy (((sound (cl := cl) (Γ := Γ) (k := k) n).1 nm _ x he X W h.hyp).1) (sw_cell hl)
      · have hT : swT nm y py p2 scope = true := by
          rw [Bool.or_eq_true] at hq
          exact hq.resolve_right hF
        unfold swT at hT
        rw [Bool.and_eq_true, Bool.and_eq_true] at hT
        have hl : X.env.scope.names.lookup y = some .local := by
          rw [h.hyp.hsc]
          have q := hT.1.1
          split at q
          · assumption
          · cases q
        cases n with
        | zero => cases he
        | succ n =>
          have he : cLC (cE n) (cI n nm) nm elt gens scope = some x := he
          match gens, he with
          | [⟨tg, iter, ifs, as⟩], he =>
            have he : (if as = 0 then cLC1 (cE n) (cI n nm) nm elt tg iter ifs scope else none) = some x := he
            by_cases ha : as = 0
            · rw [if_pos ha] at he
              subst ha
              obtain ⟨own, t, it, cs, x', hor, hcc⟩ := comp_parts (cl := cl) (Γ := Γ) (k := k) (sound n).1 (sound n).2 he
              obtain ⟨hi, ok, ho, hg, ht, hel, hs⟩ := hcc X W h.hyp
              obtain ⟨h1, h2, h3⟩ := loc_of hy
              rcases hor with rfl | ⟨j, e1, rfl⟩
              rotate_left
              · obtain ⟨hiB, main⟩ := s_compB h.hyp.calm h.hyp.nd (pos := p2) (((sound (cl := cl) (Γ := Γ) (k := k) n).1 nm _ _ e1 X W h.hyp).1) ok ho hg ht hel hs
                refine (ps_setLc h.hyp.calm h.hyp.nd (by rw [h.hyp.hN]; exact h1) hl (sw_true h.kind hl hT.1.2 (by simpa using hT.2)) hiB ok hg ht hel hs).imp fun D σ H q => ?_
                exact asg_name (e := elt) y py D σ H _ (fun Q z => main σ H Q z) q
              have main := (s_comp h.hyp.calm h.hyp.nd (pos := p2) hi ok ho hg ht hel hs).2
              refine (ps_setLc h.hyp.calm h.hyp.nd (by rw [h.hyp.hN]; exact h1) hl (sw_true h.kind hl hT.1.2 (by simpa using hT.2)) hi ok hg ht hel hs).imp fun D σ H q => ?_
              exact asg_name (e := elt) y py D σ H _ (fun Q z => main σ H Q z) q
            · rw [if_neg ha] at he
              cases he
          | [], he => cases he
          | _ :: _ :: _, he => cases he
    · cases hc
  | _ => cases hc

theorem ss_par (h : HypS X nm W cl Γ k) {f : Expr → Option E} (hf : ∀ e ir, f e = some ir → PE X e (tE X.K cl W Γ ir)) {x y : Str} {px py pt : Pos} {a b : Expr} {kt k2 : Nat} {pt2 : Pos} {s : S} (hc : cPar nm f x y px py a b = some s) :
    PS X (.Assign [.Tuple [.Name x px, .Name y py] kt pt] (.Tuple [a, b] k2 pt2) pos) (tS X.K cl W Γ s) := by
  unfold cPar at hc
  split at hc
  · rename_i hq
    simp only [Bool.and_eq_true, decide_eq_true_eq, Bool.not_eq_true'] at hq
    obtain ⟨⟨⟨⟨⟨⟨⟨lx, ly⟩, nxy⟩, ln⟩, pa⟩, pb⟩, q1⟩, q2⟩ := hq
    split at hc
    · rename_i i j es h1 h2 h3
      split at hc
      · cases hc
      · rename_i hij
        cases hc
        obtain ⟨g1, _, _⟩ := loc_of h1
        obtain ⟨g2, _, _⟩ := loc_of h2
        have loc : ∀ {z : Str}, isLocal nm z = true → X.env.scope.names.lookup z = some .local := fun {z} hz => by
          rw [h.hyp.hsc]
          unfold isLocal at hz
          split at hz
          · assumption
          · cases hz
        have kx : X.env.kindOf x = some .local := loc lx
        have ky : X.env.kindOf y = some .local := loc ly
        have hb : X.env.blockKind = .function := by unfold Env.blockKind; rw [h.kind]; rfl
        have hw : swappedStores [.Tuple [.Name x px, .Name y py] kt pt] (.Tuple [a, b] k2 pt2) X.env = pure (some [x, y]) := by
          have e2 : (some NameKind.local == some NameKind.local) = true := by rfl
          have e3 : (px.line == px.line) = true := beq_self_eq_true _
          have e4 : (py.line == px.line) = true := by
            rw [beq_iff_eq] at ln ⊢
            exact ln.symm
          have e5 : ([x, y].eraseDups.length != 2) = false := by
            have n2 : (y == x) = false := by
              rw [beq_eq_false_iff_ne]
              exact fun z => nxy z.symm
            simp [List.eraseDups_cons, n2]
          unfold swappedStores
          simp only [hb, kx, ky, e2, e3, e4, List.filterMap_cons, List.filterMap_nil, List.head?_cons, Option.map_some, Option.getD_some, Expr.pos, Bool.and_self, if_true, q1, q2]
          refine (if_neg (show ¬ false = true from Bool.false_ne_true)).trans ((if_neg ?_).trans ((if_neg ?_).trans rfl))
          rotate_left
          · rw [Bool.or_eq_true]
            rintro (z | z)
            · cases z
            · have e5' : ([x, y].eraseDups.length != [x, y].length) = false := e5
              rw [e5'] at z
              cases z
          · intro hany
            rw [List.any_eq_true] at hany
            obtain ⟨z, hz, hm⟩ := hany
            have hp : plainE z = true := by
              rcases List.mem_cons.mp hz with e | e
              · rw [e]; exact pa
              · rw [List.mem_singleton.mp e]; exact pb
            cases z <;> first | (cases hm; done) | (cases hp; done)
        refine (ps_par h.hyp.calm h.hyp.nd (by rw [h.hyp.hN]; exact g1) (by rw [h.hyp.hN]; exact g2) hij (loc lx) (loc ly) (pa_evs (W := W) hf [a, b] es h3) hw rfl).imp fun D σ H ⟨w, c⟩ => ?_
        have c : ContS X.K cl W w H σ (M.bind (evs Γ es) fun ds => match ds with
          | [x, y] => M.bind (setSlot i (.val x)) fun _ => M.bind (setSlot j (.val y)) fun _ => M.pure .nx
          | _ => M.bad) D := c
        refine ⟨w, (c.bind (RS := RRs X.K cl)).imp fun vs H1 ⟨w1, ds, le1, rs, c1⟩ => ?_⟩
        match ds, rs, c1 with
        | [], _, c1 => exact c1.wp.elim
        | [_], _, c1 => exact c1.wp.elim
        | _ :: _ :: _ :: _, _, c1 => exact c1.wp.elim
        | [d1, d2], rs, c1 =>
          cases rs with
          | cons r1 rs =>
            cases rs with
            | cons r2 rs =>
              cases rs
              obtain ⟨w2, le2, eF, eι, c2⟩ := ContS.setV (K := X.K) (c1.at rfl) r1
              obtain ⟨w3, _, _, _, c3⟩ := c2.setV (r2.mono le2.f le2.i)
              exact ⟨_, _, rfl, c3.fin⟩
    · cases hc
  · cases hc

theorem ps_asg_of {tg e : Expr} {te : TE} {g : TG} (he : PE X e te) (hg : PG X tg g) (hn : notComp e = true) (ht : isTuple e = false ∨ ∃ o i p, tg = .Subscript o i p) (hpt : plainE tg = true) : PS X (.Assign [tg] e pos) (tAsg te g) := by
  refine ps_asg he hg (sw_not hn) ?_ ?_
  · unfold swappedStores
    rcases ht with ht | ⟨o, i, p, rfl⟩
    · cases e <;> first | (cases ht; done) | (cases tg <;> rfl)
    · cases e <;> rfl
  · cases tg <;> first | (cases hpt; done) | rfl
theorem asgD_noexc {t : Tg} {d : D} {s : Sm} {Q : Unit → Sm → Prop} {X' X2 : Exn → Sm → Prop} (h : wpO (asgD t d s) Q X') : wpO (asgD t d s) Q X2 := by
  have one : ∀ {i : Nat} {d : D} {s : Sm} {Q : Unit → Sm → Prop}, wpO (asgV i d s) Q X' → wpO (asgV i d s) Q X2 := fun {i d s Q} h => by
    unfold asgV setSlot at h ⊢
    split at h
    · rename_i q
      rw [if_pos q]
      exact h
    · exact h.elim
  have many : ∀ {is : List Nat} {ds : List D} {s : Sm} {Q : Unit → Sm → Prop}, wpO (asgVs is ds s) Q X' → wpO (asgVs is ds s) Q X2 := fun {is} => by
    induction is with
    | nil => intro ds s Q hq; cases ds with
      | nil => exact hq
      | cons _ _ => exact hq.elim
    | cons i is ih => intro ds s Q hq; cases ds with
      | nil => exact hq.elim
      | cons d ds =>
        have hq : wpO (M.bind (asgV i d) (fun _ => asgVs is ds) s) Q X' := hq
        show wpO (M.bind (asgV i d) (fun _ => asgVs is ds) s) Q X2
        rw [wpO_bind] at hq ⊢
        unfold asgV setSlot at hq ⊢
        split at hq
        · rename_i q
          rw [if_pos q]
          exact ih hq
        · exact hq.elim
  cases t with
  | nm i => exact one h
  | tp is =>
    cases d with
    | tup ds => exact many h
    | _ => exact h.elim
  | t2 ts =>
    have one1 : ∀ {t : Tg1} {d : D} {s : Sm} {Q : Unit → Sm → Prop}, wpO (asgD1 t d s) Q X' → wpO (asgD1 t d s) Q X2 := fun {t d s Q} hq => by
      cases t with
      | nm i =>
        have hq : wpO (setSlot i (.val d) s) Q X' := hq
        show wpO (setSlot i (.val d) s) Q X2
        unfold setSlot at hq ⊢
        split at hq
        · rename_i q
          rw [if_pos q]
          exact hq
        · exact hq.elim
      | tp is =>
        cases d with
        | tup ds => exact many hq
        | _ => exact hq.elim
    have many1 : ∀ {ts : List Tg1} {ds : List D} {s : Sm} {Q : Unit → Sm → Prop}, wpO (asgD1s ts ds s) Q X' → wpO (asgD1s ts ds s) Q X2 := fun {ts} => by
      induction ts with
      | nil => intro ds s Q hq; cases ds with
        | nil => exact hq
        | cons _ _ => exact hq.elim
      | cons t ts ih => intro ds s Q hq; cases ds with
        | nil => exact hq.elim
        | cons d ds =>
          have hq : wpO (M.bind (asgD1 t d) (fun _ => asgD1s ts ds) s) Q X' := hq
          show wpO (M.bind (asgD1 t d) (fun _ => asgD1s ts ds) s) Q X2
          rw [wpO_bind] at hq ⊢
          have hq2 : wpO (asgD1 t d s) (fun a s => wpO (asgD1s ts ds s) Q X2) X' := by
            cases e : asgD1 t d s with
            | bad => rw [e] at hq; exact hq.elim
            | exc x s' => rw [e] at hq; exact hq
            | ok a s' => rw [e] at hq; exact ih hq
          exact one1 hq2
    cases d with
    | tup ds => exact many1 h
    | _ => exact h.elim
/-- a target takes what is there -/
theorem ContS.tgt {t : Tg} {d : D} {v : V} {w : Wd} {H : Hp} {σ : L2.St} {D' : Ends} {f : Unit → M Fl} (c : ContS X.K cl W w H σ (M.bind (asgD t d) f) D') (r : Rep X.K w.ι w.F v d) {Q : L2.St → Hp → Prop}
    (q : ∀ w' σ', Le w w' → ContS X.K cl W w' H σ' (f ()) D' → Q σ' H) : gD X.K cl t v σ H Q := by
  have hw := c.wp
  rw [wpO_bind] at hw
  refine ⟨w, d, c.rel, r, (asgD_noexc hw).imp (fun _ s h w' σ' le es R' _ => ?_) fun _ _ z => z⟩
  refine q w' σ' le ⟨R', ?_⟩
  rw [es]
  exact h.imp (fun f s2 h2 w2 H2 σ2 le2 => h2 w2 H2 σ2 (le.trans le2)) fun x s2 h2 w2 H2 σ2 cc d le2 => h2 w2 H2 σ2 cc d (le.trans le2)
def Tg.many : Tg → Bool
  | .nm _ => false
  | _ => true
theorem asg_many {t : Tg} (h : t.many = true) (r : Rv) : asg t r = M.bind (frz r) fun d => asgD t d := by
  cases t with
  | nm i => cases h
  | tp is => rfl
  | t2 ts => rfl
theorem ss_asgT (h : HypS X nm W cl Γ k) {tg e : Expr} {t : Tg} {x : E} (hm : t.many = true) (ht : cTg nm tg = some t) (he : PE X e (tE X.K cl W Γ x)) (hn : notComp e = true) (hu : isTuple e = false) : PS X (.Assign [tg] e pos) (tS X.K cl W Γ (.asg t x)) := by
  refine (ps_asg_of he (pg_tg h.hyp ht) hn (.inl hu) (by cases tg <;> first | rfl | cases ht)).imp fun D σ H ⟨w, c⟩ => ?_
  have c : ContS X.K cl W w H σ (M.bind (ev Γ x) fun r => M.bind (asg t r) fun _ => M.pure .nx) D := c
  refine ⟨w, (c.bind (RS := RRep X.K cl)).imp fun v H1 ⟨w1, r, le1, rr, c1⟩ => ?_⟩
  have c2 : ContS X.K cl W w1 H1 σ (M.bind (frz r) fun d => M.bind (asgD t d) fun _ => M.pure .nx) D := c1.at (by
    rw [asg_many hm]
    show (M.bind (M.bind (frz r) fun d => asgD t d) fun _ => M.pure Fl.nx) w1.sm = _
    rw [bind_assoc])
  obtain ⟨w2, d, le2, rd, c3⟩ := c2.frz rr
  exact c3.tgt rd fun w' σ' le c4 => c4.fin
theorem ss_setI (h : HypS X nm W cl Γ k) {o i e : Expr} {a b x : E} {tp : Pos} (hi : plainE i = true) (hn : notComp e = true) (ho : PE X o (tE X.K cl W Γ a)) (hx : PE X i (tE X.K cl W Γ b)) (he : PE X e (tE X.K cl W Γ x)) :
    PS X (.Assign [.Subscript o i tp] e pos) (tS X.K cl W Γ (.setI a b x)) := by
  refine (ps_asg_of he (pg_sub ho hx set_list (fun v => by cases i <;> first | rfl | cases hi)) hn (.inr ⟨_, _, _, rfl⟩) rfl).imp fun D σ H ⟨w, c⟩ => ?_
  have c : ContS X.K cl W w H σ (M.bind (ev Γ x) fun r => M.bind (frz r) fun d => M.bind (ev Γ a) fun ra => M.bind (ev Γ b) fun ri => M.bind (peekM ri) fun k => match k with
    | .int k => M.bind (putO ra (setL k d)) fun _ => M.pure .nx
    | _ => M.bad) D := c
  refine ⟨w, (c.bind (RS := RRep X.K cl)).imp fun v H1 ⟨w1, r, le1, rr, c1⟩ => ?_⟩
  obtain ⟨w2, d, le2, rd, c2⟩ := c1.frz rr
  refine ⟨w2, (c2.bind (RS := RRep X.K cl)).imp fun va H2 ⟨w3, ra, le3, rra, c3⟩ => ?_⟩
  by_cases hno : ∃ oo, ra = .n oo
  · obtain ⟨oo, rfl⟩ := hno
    refine ⟨w3, (c3.bind (RS := RRep X.K cl)).imp fun vi H3 ⟨w4, ri, le4, rri, c4⟩ => ?_⟩
    obtain ⟨kd, t, _, c5⟩ := c4.peek rri
    cases kd <;> exact c5.wp.elim
  · refine ⟨w3, (c3.bind (RS := RRep X.K cl)).imp fun vi H3 ⟨w4, ri, le4, rri, c4⟩ => ?_⟩
    obtain ⟨kd, t, ep, c5⟩ := c4.peek rri
    cases kd <;> first | exact c5.wp.elim | skip
    clear ep
    rename_i kk
    obtain ⟨p, ob, ob', ho', rfl, hH, ha, hg, put⟩ := c5.put (rra.keep le4 fun oo z => hno ⟨oo, z⟩)
    cases ob with
    | lst ds =>
      obtain ⟨vs, rfl, rs⟩ := ha
      obtain ⟨j, hj, rfl⟩ := map_some (show (ixN ds.length kk).map (fun j => Ob.lst (ds.set j d)) = some ob' from hg)
      have rd4 := rd.mono (le3.trans le4).f (le3.trans le4).i
      obtain ⟨w5, c6⟩ := put (.lst (vs.set j v)) ⟨_, rfl, rs.set rd4 j⟩
      exact ⟨p, vs, kk, j, rfl, rep_int t, hH, by rw [rs.length]; exact hj, c6.fin⟩
    | _ => cases hg
theorem ss_expr {e : Expr} {x : E} (hn : notComp e = true) (he : PE X e (tE X.K cl W Γ x)) : PS X (.Expr e pos) (tS X.K cl W Γ (.expr x)) := by
  refine (ps_expr he (sw_not hn)).imp fun D σ H ⟨w, c⟩ => ?_
  have c : ContS X.K cl W w H σ (M.bind (ev Γ x) fun _ => M.pure .nx) D := c
  exact ⟨w, (c.bind (RS := RRep X.K cl)).imp fun v H1 ⟨w1, r, le1, rr, c1⟩ => c1.fin⟩
theorem ss_ret {e : Expr} {x : E} (he : PE X e (tE X.K cl W Γ x)) : PS X (.Return (some e) pos) (tS X.K cl W Γ (.ret x)) := by
  refine (ps_ret he).imp fun D σ H ⟨w, c⟩ => ?_
  have c : ContS X.K cl W w H σ (M.bind (ev Γ x) fun r => M.bind (retR r) fun r => M.pure (.ret r)) D := c
  exact ⟨w, (c.bind (RS := RRep X.K cl)).imp fun v H1 ⟨w1, r, le1, rr, c1⟩ => c1.retR rr⟩
theorem ss_ite {c : Expr} {a b : List Stmt} {x : E} {y z : Ss} (hc : PT X c (tT X.K cl W Γ x)) (ha : PSs X a (tSs X.K cl W Γ y)) (hb : PSs X b (tSs X.K cl W Γ z)) : PS X (.If c a b pos) (tS X.K cl W Γ (.ite x y z)) := by
  refine (ps_if hc ha hb).imp fun D σ H ⟨w, c⟩ => ?_
  have c : ContS X.K cl W w H σ (M.bind (tv Γ x) fun k => if k then exs Γ y else exs Γ z) D := c
  refine ⟨w, (c.bind (RS := fun _ _ _ (b : Bool) a => b = a)).imp fun v H1 ⟨w1, r, le1, rr, c1⟩ => ?_⟩
  subst rr
  cases v with
  | true => exact ⟨w1, c1⟩
  | false => exact ⟨w1, c1⟩
theorem ss_while (h : HypS X nm W cl Γ k) {c : Expr} {b : List Stmt} {x : E} {y : Ss} (hc : PT X c (tT X.K cl W Γ x)) (hb : PSs X b (tSs X.K cl W Γ y)) : PS X (.While c b [] pos) (tS X.K cl W Γ (.while x y)) := by
  refine (ps_while h.pas hc hb).imp fun D σ H ⟨w, c⟩ => ?_
  refine ⟨fun m σ H => ∃ w, ContS X.K cl W w H σ (whileL (tv Γ x) (exs Γ y) m) D, ⟨Γ.fuel, w, c⟩, fun m σ H ⟨w, c⟩ => ?_⟩
  cases m with
  | zero => exact c.wp.elim
  | succ m =>
    have c : ContS X.K cl W w H σ (M.bind (tv Γ x) fun t => if t then M.bind (exs Γ y) fun f => match f with
      | .nx => whileL (tv Γ x) (exs Γ y) m
      | .ct => whileL (tv Γ x) (exs Γ y) m
      | .brk => M.pure .nx
      | .ret r => M.pure (.ret r)
      else M.pure .nx) D := c
    refine ⟨w, (c.bind (RS := fun _ _ _ (b : Bool) a => b = a)).imp fun v H1 ⟨w1, r, le1, rr, c1⟩ => ?_⟩
    subst rr
    cases v with
    | false => exact c1.fin
    | true =>
      rw [if_pos rfl]
      rw [if_pos rfl] at c1
      refine ⟨fun σ' H' => ∃ w, ContS X.K cl W w H' σ' (whileL (tv Γ x) (exs Γ y) m) D, fun σ' H' hN => ⟨m, Nat.lt_succ_self m, hN⟩, w1, c1.rel, ?_⟩
      have hw := c1.wp
      rw [wpO_bind] at hw
      refine hw.imp (fun f s hf w' H' σ' le es R' => ?_) fun _ _ z => z
      have go : ∀ {g : M Fl}, wpO (g s) (fun f s => ∀ w' H' σ', Le w1 w' → w'.sm = s → Rel X.K cl w' H' σ' → FlOk X.K cl D w' H' σ' f) (XS X.K cl W w1) → ContS X.K cl W w' H' σ' g D := fun {g} hg => ⟨R', by
        rw [es]
        exact hg.imp (fun f s2 h2 w2 H2 σ2 le2 => h2 w2 H2 σ2 (le.trans le2)) fun x s2 h2 w2 H2 σ2 cc d le2 => h2 w2 H2 σ2 cc d (le.trans le2)⟩
      cases f with
      | nx => exact ⟨w', go hf⟩
      | ct => exact ⟨w', go hf⟩
      | brk => exact (go hf).fin
      | ret r => exact (go hf).fin
theorem ss_for (h : HypS X nm W cl Γ k) {tg it : Expr} {b : List Stmt} {t : Tg} {i : It'} {y : Ss} (hi : PI X tg it (tI X.K cl W Γ i)) (hp : plainE it = true) (ht : cTg nm tg = some t) (hb : PSs X b (tSs X.K cl W Γ y)) : PS X (.For tg it b [] pos) (tS X.K cl W Γ (.for t i y)) := by
  refine (ps_for h.pas h.hyp.calm hi (pg_tg h.hyp ht) hb (fold_of hp)).imp fun D σ H ⟨w, c⟩ => ?_
  have c : ContS X.K cl W w H σ (M.bind (evI Γ i) fun ds => forL (fun d => M.bind (asgD t d) fun _ => exs Γ y) ds) D := c
  refine ⟨w, (c.bind (RS := fun w _ _ (J : It) ds => Walks X.K cl J w ds)).imp fun J H1 ⟨w1, ds, le1, wk, c1⟩ => ?_⟩
  let In : Nat → L2.St → Hp → Prop := fun i σ2 H2 => ∃ w2, Same w1.F w2.F ∧ w2.B = w1.B ∧ (∀ (c : Nat) a, w1.ι[c]? = some a → w2.ι[c]? = some a) ∧ ContS X.K cl W w2 H2 σ2 (forL (fun d => M.bind (asgD t d) fun _ => exs Γ y) (ds.drop i)) D
  refine ⟨fun i m σ2 H2 => m = ds.length - i ∧ i ≤ ds.length ∧ In i σ2 H2, ⟨ds.length, by omega, Nat.zero_le _, w1, Same.refl _, rfl, fun _ _ h => h, c1⟩, ?_⟩
  rintro i m σ2 H2 ⟨rfl, hil, w2, hF, hB, hι, c2⟩
  have sB : Same w1.B H2 := hB ▸ c2.rel.bH
  by_cases hlt : i < ds.length
  · refine .inr ⟨wk.go i H2 hlt (hF.trans c2.rel.fH) sB, In (i + 1), fun σ' H' h' => ⟨ds.length - (i + 1), by omega, rfl, hlt, h'⟩, fun x H3 hy => ?_⟩
    have hd : ds[i]? = some ds[i] := List.getElem?_eq_getElem hlt
    rw [List.drop_eq_getElem_cons hlt] at c2
    obtain ⟨w3, le3, es3, R3, rd⟩ := wk.yld i _ _ H2 _ x H3 hd hF sB hι c2.rel hy
    have c3 : ContS X.K cl W w3 H3 σ2 (M.bind (asgD t ds[i]) fun _ => M.bind (exs Γ y) fun f => match f with
      | .nx => forL (fun d => M.bind (asgD t d) fun _ => exs Γ y) (ds.drop (i + 1))
      | .ct => forL (fun d => M.bind (asgD t d) fun _ => exs Γ y) (ds.drop (i + 1))
      | .brk => M.pure .nx
      | .ret r => M.pure (.ret r)) D := c2.go le3 (by
        rw [es3]
        show (M.bind (M.bind (asgD t ds[i]) fun _ => exs Γ y) _) w2.sm = _
        rw [bind_assoc] <;> rfl) R3
    refine c3.tgt rd fun w4 σ4 le4 c4 => ⟨w4, c4.rel, ?_⟩
    have hw := c4.wp
    rw [wpO_bind] at hw
    refine hw.imp (fun f s hf w' H' σ' le es R' => ?_) fun _ _ z => z
    have go : ∀ {g : M Fl}, wpO (g s) (fun f s => ∀ w' H' σ', Le w4 w' → w'.sm = s → Rel X.K cl w' H' σ' → FlOk X.K cl D w' H' σ' f) (XS X.K cl W w4) → ContS X.K cl W w' H' σ' g D := fun {g} hg => ⟨R', by
      rw [es]
      exact hg.imp (fun f s2 h2 w2 H2 σ2 le2 => h2 w2 H2 σ2 (le.trans le2)) fun x s2 h2 w2 H2 σ2 cc d le2 => h2 w2 H2 σ2 cc d (le.trans le2)⟩
    have lf := (le3.trans le4).trans le
    cases f with
    | nx => exact ⟨w', hF.trans lf.f, lf.b.trans hB, fun c a q => lf.i c a (hι c a q), go hf⟩
    | ct => exact ⟨w', hF.trans lf.f, lf.b.trans hB, fun c a q => lf.i c a (hι c a q), go hf⟩
    | brk => exact (go hf).fin
    | ret r => exact (go hf).fin
  · have ei : i = ds.length := by omega
    subst ei
    rw [List.drop_length] at c2
    exact .inl ⟨wk.stop H2 (hF.trans c2.rel.fH) sB, ContS.fin (f := .nx) c2⟩
theorem ss_seq {st : Stmt} {r : List Stmt} {x : S} {y : Ss} (h1 : PS X st (tS X.K cl W Γ x)) (h2 : PSs X r (tSs X.K cl W Γ y)) : PSs X (st :: r) (tSs X.K cl W Γ (.cons x y)) := by
  refine (pss_cons h1 h2).imp fun D σ H ⟨w, c⟩ => ⟨w, c.rel, ?_⟩
  have hw := c.wp
  have hw : wpO (M.bind (ex Γ x) (fun f => match f with | .nx => exs Γ y | f => M.pure f) w.sm) _ _ := hw
  rw [wpO_bind] at hw
  refine hw.imp (fun f s hf w' H' σ' le es R' => ?_) fun _ _ z => z
  have go : ∀ {g : M Fl}, wpO (g s) (fun f s => ∀ w' H' σ', Le w w' → w'.sm = s → Rel X.K cl w' H' σ' → FlOk X.K cl D w' H' σ' f) (XS X.K cl W w) → ContS X.K cl W w' H' σ' g D := fun {g} hg => ⟨R', by
    rw [es]
    exact hg.imp (fun f s2 h2 w2 H2 σ2 le2 => h2 w2 H2 σ2 (le.trans le2)) fun x s2 h2 w2 H2 σ2 cc d le2 => h2 w2 H2 σ2 cc d (le.trans le2)⟩
  cases f with
  | nx => exact ⟨w', go hf⟩
  | brk => exact (go hf).fin
  | ct => exact (go hf).fin
  | ret r => exact (go hf).fin
theorem ss_nil : PSs X [] (tSs X.K cl W Γ .nil) := pss_nil.imp fun D σ H ⟨w, c⟩ => ContS.fin (f := .nx) c
theorem pure_s {st : Stmt} {x : S} {t : TS} {f : Fl} (h : PS X st t) (e : ex Γ x = M.pure f) (i : ∀ D w σ H, FlOk X.K cl D w H σ f → t D σ H) : PS X st (tS X.K cl W Γ x) :=
  h.imp fun D σ H ⟨w, c⟩ => i D w σ H (ContS.fin (by rw [← e]; exact c))

/-! ### op= -/
theorem sim_aug (X : Cx) (o : BOp) : ∃ t : TIp, PIp X (bopS o) t ∧ ∀ {w : Wd} {H : Hp} {v u : V} {a b z : D} {Q : VK}, RepT X.K w H v a → RepT X.K w H u b → opAug o a b = some z → (∀ zv, (∀ ι F, Rep X.K ι F zv z) → Q zv H) → t v u H Q := by
  have none_ : (∀ a b, opAug o a b = none) → ∃ t : TIp, PIp X (bopS o) t ∧ ∀ {w : Wd} {H : Hp} {v u : V} {a b z : D} {Q : VK}, RepT X.K w H v a → RepT X.K w H u b → opAug o a b = some z → (∀ zv, (∀ ι F, Rep X.K ι F zv z) → Q zv H) → t v u H Q := fun h =>
    ⟨fun _ _ _ _ => False, fun _ _ _ _ _ _ _ _ _ _ _ _ z => z.elim, fun {w H v u a b z Q} _ _ e _ => by rw [h] at e; cases e⟩
  cases o with
  | add =>
    refine ⟨_, (iop_add (X := X)).or iop_add_str, fun {w H v u a b z Q} ra rb e f => ?_⟩
    cases a <;> cases b <;> first | (cases e; done) | skip
    · cases e
      exact .inl ⟨_, _, rep_int ra, rep_int rb, f _ fun _ _ => .int _⟩
    · rename_i x y
      have e : (if x.length + y.length ≤ sizeLine then some (D.str (x ++ y)) else none) = some z := e
      split at e
      · cases e
        exact .inr ⟨_, _, rep_str ra, rep_str rb, by assumption, f _ fun _ _ => .str _⟩
      · cases e
  | sub =>
    refine ⟨_, iop_sub (X := X), fun {w H v u a b z Q} ra rb e f => ?_⟩
    cases a <;> cases b <;> first | (cases e; done) | skip
    cases e
    exact ⟨_, _, rep_int ra, rep_int rb, f _ fun _ _ => .int _⟩
  | mul =>
    refine ⟨_, iop_mul (X := X), fun {w H v u a b z Q} ra rb e f => ?_⟩
    cases a <;> cases b <;> first | (cases e; done) | skip
    rename_i x y
    have e : (if decide ((-(2 ^ 64) < x ∧ x < 2 ^ 64) ∨ (-(2 ^ 64) < y ∧ y < 2 ^ 64)) then some (D.int (x * y)) else none) = some z := e
    split at e
    · rename_i q
      cases e
      exact ⟨_, _, rep_int ra, rep_int rb, (by unfold CMul; exact of_decide_eq_true q), f _ fun _ _ => .int _⟩
    · cases e
  | fdiv =>
    refine ⟨_, iop_fdiv (X := X), fun {w H v u a b z Q} ra rb e f => ?_⟩
    cases a <;> cases b <;> first | (cases e; done) | skip
    rename_i x y
    have e : (if decide (0 < y ∧ y < 1073741824) then some (D.int (x / y)) else none) = some z := e
    split at e
    · rename_i q
      cases e
      exact ⟨_, _, rep_int ra, rep_int rb, (by unfold CDiv; exact of_decide_eq_true q), f _ fun _ _ => .int _⟩
    · cases e
  | mod =>
    refine ⟨_, iop_mod (X := X), fun {w H v u a b z Q} ra rb e f => ?_⟩
    cases a <;> cases b <;> first | (cases e; done) | skip
    rename_i x y
    have e : (if decide (0 < y) then some (D.int (x % y)) else none) = some z := e
    split at e
    · rename_i q
      cases e
      exact ⟨_, _, rep_int ra, rep_int rb, of_decide_eq_true q, f _ fun _ _ => .int _⟩
    · cases e
  | _ => exact none_ fun a b => rfl
theorem get_listP : PGet X (rIxL X.K) := by
  intro pins s σ H x y v u Q I rx ry h
  obtain ⟨p, xs, i, z, rfl, rfl, hq, he, q⟩ := h
  cases rx
  obtain ⟨t, rfl⟩ := ry
  obtain ⟨its, r, pl, hz⟩ := I.list hq
  obtain ⟨j, h1, h2, h3, h4, h5⟩ := atI_get he
  obtain ⟨w, ew, rw'⟩ := r.get h2
  have hl := r.length
  have hn := line63
  have fin : EP X pins σ Q w s := ⟨z, H, I, rw', q⟩
  by_cases h0 : 0 ≤ i
  · have hj : i.toNat = j := by
      rw [seqIndex_of h0 h5] at h1
      exact Option.some.inj h1
    exact PySem.wpAny_getItem_list pl.isList h0 (by omega) (by rw [hj]; simpa using ew) fin
  · have hj : (i + (its.toArray.size : Int)).toNat = j := by
      rw [seqIndex_neg (by omega) h4] at h1
      rw [List.size_toArray, ← hl]
      exact Option.some.inj h1
    exact PySem.wpAny_getItem_list_neg pl.isList (by omega) (by rw [List.size_toArray] <;> omega) (by omega) (by rw [hj]; simpa using ew) fin

/-! ### raise, try -/
theorem pmk_own0 {C : Addr} {bmB : List Value} {B newId initId : String} {x : Str} {p : Pos} (F : ExcBaseFacts B newId initId bmB) (q : PySem.W.excIn X.K C bmB newId = true) (gC : X.mg x = some (.ref C)) (kC : PySem.W.keepIn X.K (.ref C) = true) (r : Raises X (.ref C)) (hg : Gl X x)
    (hdb : (x == ("__debug__" : Str)) = false) : PMk X (.Call (.Name x p) [] [] pos) (fun _ H Q => Q (.ref C) none H) := by
  intro pins s σ H Q I h
  refine wpAny_Call_Name_kw (ld_glob I hg gC ?_ hdb)
  refine PySem.W.callWith_K0 I.kIn kC ?_
  show wpAny _ _ (call (.ref C) []) _ _ _
  obtain ⟨bm, N, nm, qn, bs, hdct, sn, sub, ab, col, dd, k0, k1, k2, k3, k5, mN, hC, hN, hni, T⟩ := exc_obj I.kIn q
  refine wpAny_call_exc_subT F T hC hN hni (fun h' e hm => ?_) (by show 0 ≤ sizeLine; exact Nat.zero_le _)
  exact mk_of I hm r h (I.hok.gone hm.new)
theorem ss_raise0 (h : HypS X nm W cl Γ k) {x : Str} {p p2 : Pos} (hn : okName x = true) (hg : nm.isGl x = true) : PS X (.Raise (some (.Call (.Name x p) [] [] p2)) none pos) (tS X.K cl W Γ (.raise x .nil)) := by
  refine ⟨fun pins s σ H D I ⟨w, c⟩ => ?_⟩
  have hw := c.wp
  have hw : wpO ((match Γ.xf x with | some fs => (match zipR fs [] [] with | some l => if Γ.deep || ([] : List IR.D).isEmpty then Out.exc ⟨x, l⟩ w.sm else .bad | none => .bad) | none => .bad) : Out Fl) (fun f s => ∀ w' H' σ', Le w w' → w'.sm = s → Rel X.K cl w' H' σ' → FlOk X.K cl D w' H' σ' f) (XS X.K cl W w) := hw
  cases e : Γ.xf x with
  | none => rw [e] at hw; exact hw.elim
  | some fs =>
    rw [e] at hw
    cases fs with
    | cons f r => exact hw.elim
    | nil =>
      have hw : wpO ((if Γ.deep || ([] : List IR.D).isEmpty then Out.exc ⟨x, []⟩ w.sm else .bad) : Out Fl) (fun f s => ∀ w' H' σ', Le w w' → w'.sm = s → Rel X.K cl w' H' σ' → FlOk X.K cl D w' H' σ' f) (XS X.K cl W w) := hw
      rw [if_pos (by show (Γ.deep || true) = true; rw [Bool.or_true])] at hw
      obtain ⟨C, bm, h1, h2, h3, h4⟩ := h.hyp.env.xf0 x e
      subst h4
      obtain ⟨n1, _, _⟩ := okName_of hn
      refine (ps_raise h.hyp.calm h.hyp.tk (pmk_own0 PySem.F.excBase_ValueError h3 h2.gl h2.kp (raises_own h2.ex.hs h2.ty) (isGl_of h.hyp hg) n1)).run pins s σ H D I ?_
      exact hw w H σ (.ref C) none (Le.refl w) rfl c.rel ⟨C, h1, rfl, .inl ⟨rfl, rfl⟩⟩
theorem hyp_tr (h : HypS X nm W cl Γ k) {W' : WX} {pn : List (Addr × Obj)} {xe : Value → Shared → Prop} (tk : Takes (X.tr pn xe) W') (pas : PassesOwn (model X.prog X.w) X.A X.env xe) : HypS (X.tr pn xe) nm W' cl Γ k :=
  ⟨⟨h.hyp.hN, h.hyp.hsc, h.hyp.nd, h.hyp.calm, h.hyp.room, h.hyp.env, tk, h.hyp.fn⟩, pas, h.kind, h.stk, h.frm⟩
theorem psS_ex {α : Type} {X : Cx} {ss : List Stmt} {t : α → TS} (h : ∀ a D σ H, t a D σ H → ∃ u : TS, PSs X ss u ∧ u D σ H) : PSs X ss (fun D σ H => ∃ a, t a D σ H) :=
  ⟨fun pins s σ H D I ⟨a, q⟩ => let ⟨_, p, q⟩ := h a D σ H q; p.run pins s σ H D I q⟩
theorem ss_try (h : HypS X nm W cl Γ k) {b : List Stmt} {y : Ss} {n : Nat} {c : Str} {as : Option Str} {b0 : Stmt} {suite : List Stmt} {u : Su} {np p1 : Pos} {i : Option Nat} (hb : ∀ {X' : Cx} {W' : WX}, HypS X' nm W' cl Γ k → PSs X' b (tSs X'.K cl W' Γ y))
    (hc : okName c = true) (hg : nm.isGl c = true) (hx : c ∈ nm.excs) (hu : cTryU nm n as (b0 :: suite) = some u)
    (ha : (as = none ∧ i = none) ∨ ∃ z j, as = some z ∧ i = some j ∧ nm.loc z = some j ∧ isLocal nm z = true) :
    PS X (.Try b [.ExceptHandler (some (.Name c np)) as (b0 :: suite) p1] [] [] pos) (tS X.K cl W Γ (.try y c i u)) := by
  obtain ⟨C, hC, E⟩ := h.hyp.env.exc c hx
  obtain ⟨n1, _, _⟩ := okName_of hc
  have hnames : Names X c (.ref C) := ⟨isGl_of h.hyp hg, n1, .inl E.gl⟩
  have suH : SuH X nm cl Γ k i as := ⟨h.hyp.hN, h.hyp.hsc, h.hyp.hu, h.hyp.env, fun z hz => by
    rcases ha with ⟨a1, _⟩ | ⟨z', j, a1, a2, a3, _⟩
    · rw [a1] at hz; cases hz
    · rw [a1] at hz
      cases hz
      exact ⟨j, a2, by rw [h.hyp.hN]; exact (loc_of a3).1⟩⟩
  have hsu : ∀ (a : Addr) (oe : Obj) (cls : Value) (d : Option Addr) (pn : List (Addr × Obj)), Zc cls d oe → (∃ vs, oe.data = .fields vs) → PSs (X.suite a ((a, oe) :: pn)) (b0 :: suite) (tsU X.K cl Γ i u a cls d) := fun a oe cls d pn hz hf =>
    ⟨fun pins s σ H D I ⟨x, b, ⟨c', hs⟩, r⟩ => (soundU suH (x := x) (fun C' hC' => by
      obtain ⟨C1, _, g1, _, g2, _⟩ := h.hyp.env.exm _ _ _ hs
      rw [hC'] at g1
      cases g1
      exact g2.ex) hz hf _ _ hu).run pins s σ H D I r⟩
  -- what the body wishes
  have main : ∀ {Wb : WX} {D : Ends} {w : Wd} {σ : L2.St} {H : Hp}, ContS X.K cl W w H σ (tryM Γ (exs Γ y) c i u) D →
      (∀ σ' H' cls d b, PySem.W.exmOne X.K cls (.ref C) = some b → (b = true → ∀ a, tsU X.K cl Γ i u a cls d { nx := fun σ3 H3 => D.nx (setAs i σ3 none) H3, rt := D.rt, bk := fun σ3 H3 => D.bk (setAs i σ3 none) H3, ct := fun σ3 H3 => D.ct (setAs i σ3 none) H3 } (setAs i σ' (some (.ref a))) H') → (b = false → W cls d σ' H') → Wb cls d σ' H') →
      ContS X.K cl Wb w H σ (exs Γ y) D := fun {Wb D w σ H} c0 hW => by
    refine ⟨c0.rel, ?_⟩
    have hw := c0.wp
    cases e : exs Γ y w.sm with
    | bad =>
      have e0 : tryM Γ (exs Γ y) c i u w.sm = .bad := by unfold tryM; rw [e]
      rw [e0] at hw
      exact hw.elim
    | ok f s =>
      have e0 : tryM Γ (exs Γ y) c i u w.sm = .ok f s := by unfold tryM; rw [e]
      rw [e0] at hw
      exact hw
    | exc x s' =>
      intro w' H' σ' cc d le es R' xr
      cases hs : Γ.sub x.cl c with
      | none =>
        have e0 : tryM Γ (exs Γ y) c i u w.sm = .bad := by unfold tryM; rw [e]; dsimp only; rw [hs]
        rw [e0] at hw
        exact hw.elim
      | some b =>
        obtain ⟨C1, C2, g1, g2, _, _, g3, _⟩ := h.hyp.env.exm _ _ _ hs
        rw [hC] at g2
        cases g2
        obtain ⟨C3, q1, q2, q3⟩ := id xr
        rw [g1] at q1
        cases q1
        subst q2
        refine hW σ' H' _ d b g3 (fun hb a => ?_) fun hb => ?_
        · subst hb
          exact tried c0 e hs le es R' xr a
        · subst hb
          have e0 : tryM Γ (exs Γ y) c i u w.sm = .exc x s' := by unfold tryM; rw [e]; dsimp only; rw [hs]
          rw [e0] at hw
          exact hw w' H' σ' _ d le es R' xr
  rcases ha with ⟨rfl, rfl⟩ | ⟨z, j, rfl, rfl, hz, hl⟩
  · refine (ps_try_only (tb := fun W' => tSs X.K cl W' Γ y) h.stk h.frm hnames h.hyp.tk (fun W' pn xe tk pas => hb (hyp_tr h tk pas)) hsu).imp fun D σ H ⟨w, c⟩ => ⟨w, main c fun σ' H' cls d b g1 g2 g3 => ⟨b, g1, fun hb a _ => g2 hb a, g3⟩⟩
  · refine (ps_try_as (tb := fun W' => tSs X.K cl W' Γ y) (i := j) h.stk h.frm h.hyp.nd (by rw [h.hyp.hN]; exact (loc_of hz).1) ?_ hnames h.hyp.tk (fun W' pn xe tk pas => hb (hyp_tr h tk pas)) hsu).imp fun D σ H ⟨w, c⟩ => ⟨w, main c fun σ' H' cls d b g1 g2 g3 => ⟨b, g1, fun hb a _ => g2 hb a, g3⟩⟩
    show X.env.scope.names.lookup z = _
    rw [h.hyp.hsc]
    unfold isLocal at hl
    split at hl
    · assumption
    · cases hl
end
end IR

set_option Elab.async false
set_option linter.all false
set_option maxRecDepth 100000
/-! IrX2: op= and append; the compiler of statements is right. -/
namespace IR
open PySem L2
section
variable {X : Cx} {nm : Nm} {W : WX} {cl : Str → Option Addr} {Γ : Gam} {k : Nat} {pos : Pos}
theorem ss_aug (h : HypS X nm W cl Γ k) {y : Str} {py : Pos} {e : Expr} {i : Nat} {x : E} {o : BOp} (hy : nm.loc y = some i) (he : PE X e (tE X.K cl W Γ x)) : PS X (.AugAssign (.Name y py) (bopS o) e pos) (tS X.K cl W Γ (.aug i o x)) := by
  obtain ⟨h1, h2, h3⟩ := loc_of hy
  have hf : X.fn y = true ∨ X.env.scope.names.lookup y = some .local := by
    rcases h3 with q | q
    · exact .inr (by rw [h.hyp.hsc]; exact q)
    · exact .inl (h.hyp.fn y q)
  obtain ⟨t, ht, sim⟩ := sim_aug X o
  refine (ps_aug h.hyp.nd (by rw [h.hyp.hN]; exact h1) (by rw [h.hyp.hsc]; exact h2) he ht hf).imp fun D σ H ⟨w, c⟩ => ?_
  have c : ContS X.K cl W w H σ (fun s0 => match s0.ρ[i]? with
    | some (.val _) => (M.bind (ev Γ x) fun r => M.bind (peekM r) fun y => fun s => match s.ρ[i]? with
      | some (.val x) => (M.bind (ofO (opAug o x y)) fun z => M.bind (setSlot i (.val z)) (fun _ => M.pure Fl.nx)) s
      | _ => .bad) s0
    | _ => .bad) D := c
  cases q : w.ρ[i]? with
  | none =>
    have hw := c.wp
    rw [show w.sm.ρ[i]? = none from q] at hw
    exact hw.elim
  | some sl =>
    have qs : w.sm.ρ[i]? = some sl := q
    cases sl with
    | no =>
      have hw := c.wp
      rw [qs] at hw
      exact hw.elim
    | own oo =>
      have hw := c.wp
      rw [qs] at hw
      exact hw.elim
    | val d =>
      obtain ⟨v, hv, rv⟩ := c.rel.val i d q
      have c1 : ContS X.K cl W w H σ (M.bind (ev Γ x) fun r => M.bind (peekM r) fun y => fun s => match s.ρ[i]? with
        | some (.val x) => (M.bind (ofO (opAug o x y)) fun z => M.bind (setSlot i (.val z)) (fun _ => M.pure Fl.nx)) s
        | _ => .bad) D := c.at (by rw [qs])
      refine ⟨v, hv, w, (c1.bind (RS := RRep X.K cl)).imp fun u H1 ⟨w1, r, le1, rr, c2⟩ => ?_⟩
      obtain ⟨y, ty, _, c3⟩ := c2.peek rr
      cases q1 : w1.ρ[i]? with
      | none =>
        have hw := c3.wp
        rw [show w1.sm.ρ[i]? = none from q1] at hw
        exact hw.elim
      | some sl1 =>
        have qs1 : w1.sm.ρ[i]? = some sl1 := q1
        cases sl1 with
        | no =>
          have hw := c3.wp
          rw [qs1] at hw
          exact hw.elim
        | own oo =>
          have hw := c3.wp
          rw [qs1] at hw
          exact hw.elim
        | val d1 =>
          obtain ⟨v1, hv1, rv1⟩ := c3.rel.val i d1 q1
          rw [hv] at hv1
          cases hv1
          have c4 : ContS X.K cl W w1 H1 σ (M.bind (ofO (opAug o d1 y)) fun z => M.bind (setSlot i (.val z)) (fun _ => M.pure Fl.nx)) D := c3.at (by rw [qs1])
          obtain ⟨z, ez, c5⟩ := c4.ofO
          refine sim (RepT.of c3.rel.fH rv1) ty ez fun zv rz => ?_
          obtain ⟨w2, _, _, _, c6⟩ := c5.setV (rz _ _)
          exact c6.fin
theorem noN_ok {w : Wd} {H : Hp} {σ : L2.St} {D' : Ends} {r : Rv} {f : Unit → M Fl} (c : ContS X.K cl W w H σ (M.bind (noN r) f) D') : (∀ o, r ≠ .n o) ∧ ContS X.K cl W w H σ (f ()) D' := by
  cases r with
  | n o => exact c.wp.elim
  | v d => exact ⟨(fun _ z => by cases z), c.at rfl⟩
  | s i => exact ⟨(fun _ z => by cases z), c.at rfl⟩
theorem ss_augI (h : HypS X nm W cl Γ k) {a i e : Expr} {xa xi xe : E} {o : BOp} {tp : Pos} (hpi : plainE i = true) (ha : PE X a (tE X.K cl W Γ xa)) (hi : PE X i (tE X.K cl W Γ xi)) (he : PE X e (tE X.K cl W Γ xe)) : PS X (.AugAssign (.Subscript a i tp) (bopS o) e pos) (tS X.K cl W Γ (.augI xa xi o xe)) := by
  obtain ⟨t, ht, sim⟩ := sim_aug X o
  refine (ps_augS ha hi get_listP he ht set_list (fun ov iv new => by cases i <;> first | (cases hpi; done) | rfl)).imp fun D σ H ⟨w, c⟩ => ?_
  have c : ContS X.K cl W w H σ (M.bind (ev Γ xa) fun ra => M.bind (noN ra) fun _ => M.bind (ev Γ xi) fun ri => M.bind (peekM ri) fun k => M.bind (peekM ra) fun x => M.bind (ofO (opIdxL x k)) fun old => M.bind (ev Γ xe) fun r => M.bind (peekM r) fun y => M.bind (ofO (opAug o old y)) fun z => match k with
    | .int k => M.bind (putO ra (setL k z)) fun _ => M.pure .nx
    | _ => M.bad) D := c
  refine ⟨w, (c.bind (RS := RRep X.K cl)).imp fun va H1 ⟨w1, ra, le1, rra, c1⟩ => ?_⟩
  obtain ⟨na, c2⟩ := noN_ok c1
  refine ⟨w1, (c2.bind (RS := RRep X.K cl)).imp fun vi H2 ⟨w2, ri, le2, rri, c3⟩ => ?_⟩
  obtain ⟨kd, tk, ek, c4⟩ := c3.peek rri
  clear ek
  have rra2 := rra.keep (H' := H2) le2 na
  obtain ⟨xd, tx, ex, c5⟩ := c4.peek rra2
  clear ex
  obtain ⟨old, eo, c6⟩ := c5.ofO
  cases xd <;> first | (cases eo; done) | skip
  cases kd <;> first | (cases eo; done) | skip
  rename_i xs kk
  obtain ⟨p, vs, rfl, hH, rs⟩ := tx
  obtain ⟨vo, g1, g2⟩ := atI_rep rs (show atI xs kk = some old from eo)
  refine ⟨p, vs, kk, vo, rfl, rep_int tk, .inl (.inl hH), g1, w2, (c6.bind (RS := RRep X.K cl)).imp fun ve H3 ⟨w3, r, le3, rr, c7⟩ => ?_⟩
  obtain ⟨y, ty, _, c8⟩ := c7.peek rr
  obtain ⟨z, ez, c9⟩ := c8.ofO
  refine sim (RepT.of c9.rel.fH (g2.mono le3.f le3.i)) ty ez fun zv rz => ?_
  obtain ⟨p', ob, ob', ho', ep, hH', hoa, hg, put⟩ := ContS.put (f := fun _ => M.pure .nx) c9 (rra2.keep (H' := H3) le3 na)
  cases ep
  cases ob with
  | lst ds =>
    obtain ⟨vs', rfl, rs'⟩ := hoa
    obtain ⟨j, hj, rfl⟩ := map_some (show (ixN ds.length kk).map (fun j => Ob.lst (ds.set j z)) = some ob' from hg)
    obtain ⟨w5, c10⟩ := put (.lst (vs'.set j zv)) ⟨_, rfl, rs'.set (rz _ _) j⟩
    exact ⟨p, vs', kk, j, rfl, rep_int tk, hH', by rw [rs'.length]; exact hj, c10.fin⟩
  | _ => cases hg
theorem attr_base {o : Expr} {m : Str} {env : Env} (h : isSuper nm o = false) : attributeBase o m env (eval o env) = eval o env := by
  unfold attributeBase
  cases o with
  | Call fn args kws p =>
    cases fn with
    | Name x q =>
      cases args with
      | nil => cases kws with
        | nil => cases h
        | cons _ _ => rfl
      | cons _ _ => rfl
    | _ => rfl
  | _ => rfl
theorem ss_app {o e : Expr} {xo xe : E} {apos cpos : Pos} (hs : isSuper nm o = false) (hl : (apos.endLine == cpos.line) = true) (hp : plainE e = true) (ho : PE X o (tE X.K cl W Γ xo)) (he : PE X e (tE X.K cl W Γ xe)) :
    PS X (.Expr (.Call (.Attribute o "append" apos) [e] [] cpos) pos) (tS X.K cl W Γ (.app xo xe)) := by
  refine (ps_expr (pe_bm PySem.F.plainAttrs_list PySem.F.slot_list_append PySem.F.type_list_append mt_append ho (pa_cons he pa_nil (star_of hp)) (attr_base (nm := nm) hs) (by rw [star_of hp]; rfl) hl (star_of hp) rfl)).imp fun D σ H ⟨w, c⟩ => ?_
  have c : ContS X.K cl W w H σ (M.bind (ev Γ xo) fun ra => M.bind (peekM ra) fun x => match x with
    | .lst _ => M.bind (ev Γ xe) fun r => M.bind (frz r) fun d => M.bind (putO ra (appL d)) fun _ => M.pure .nx
    | _ => M.bad) D := c
  refine ⟨w, (c.bind (RS := RRep X.K cl)).imp fun va H1 ⟨w1, ra, le1, rra, c1⟩ => ?_⟩
  obtain ⟨xd, tx, _, c2⟩ := c1.peek rra
  cases xd <;> first | exact c2.wp.elim | skip
  obtain ⟨p, vs, rfl, hH, rs⟩ := tx
  by_cases hno : ∃ oo, ra = .n oo
  · obtain ⟨oo, rfl⟩ := hno
    refine ⟨.inl ⟨rfl, vs, .inl (.inl hH)⟩, w1, (c2.bind (RS := RRep X.K cl)).imp fun ve H2 ⟨w2, r, le2, rr, c3⟩ => ?_⟩
    obtain ⟨w3, d, le3, rd, c4⟩ := c3.frz rr
    have hw := c4.wp
    rw [wpO_bind] at hw
    exact hw.elim
  · refine ⟨.inl ⟨rfl, vs, .inl (.inl hH)⟩, w1, (c2.bind (RS := RRep X.K cl)).imp fun ve H2 ⟨w2, r, le2, rr, c3⟩ => ?_⟩
    obtain ⟨w3, d, le3, rd, c4⟩ := c3.frz rr
    obtain ⟨p', ob, ob', ho', ep, hH', hoa, hg, put⟩ := ContS.put (f := fun _ => M.pure .nx) c4 (rra.keep (H' := H2) (le2.trans le3) fun oo z => hno ⟨oo, z⟩)
    cases ep
    cases ob with
    | lst ds =>
      obtain ⟨vs', rfl, rs'⟩ := hoa
      have hg : (if ds.length < sizeLine then some (Ob.lst (ds ++ [d])) else none) = some ob' := hg
      split at hg
      · cases hg
        obtain ⟨w5, c10⟩ := put (.lst (vs' ++ [ve])) ⟨_, rfl, rs'.append (.one rd)⟩
        exact ⟨p, vs', ve, rfl, rfl, hH', by rw [rs'.length]; assumption, c10.fin⟩
      · cases hg
    | _ => cases hg

/-! ### the compiler is right -/
theorem sound_ss {g : Stmt → Option S} (hg : ∀ st s, g st = some s → PS X st (tS X.K cl W Γ s)) : ∀ {l : List Stmt} {ss : Ss}, cSs g l = some ss → PSs X l (tSs X.K cl W Γ ss)
  | [], ss, e => by
    cases e
    exact ss_nil
  | st :: r, ss, e => by
    unfold cSs at e
    split at e
    · rename_i x y h1 h2
      cases e
      exact ss_seq (hg _ _ h1) (sound_ss hg h2)
    · cases e
theorem augOp_of {op : Operator} {o : BOp} (h : cAugOp op = some o) : op = bopS o := by cases op <;> cases h <;> rfl
theorem soundS (mu : List Str) : ∀ (n : Nat) (X : Cx) (W : WX) (st : Stmt) (s : S), cS mu nm n st = some s → HypS X nm W cl Γ k → PS X st (tS X.K cl W Γ s)
  | 0, X, W, st, s, e, h => by cases e
  | n + 1, X, W, st, s, e, h => by
    have hb : ∀ e ir, cE n nm e = some ir → PB X W cl Γ e ir := fun e ir q => (sound n).1 nm e ir q X W h.hyp
    have hf : ∀ e ir, cE n nm e = some ir → PE X e (tE X.K cl W Γ ir) := fun e ir q => (hb e ir q).1
    have hg : ∀ st s, cS mu nm n st = some s → PS X st (tS X.K cl W Γ s) := fun st s q => soundS mu n X W st s q h
    cases st with
    | Assign ts e' p =>
      have e : cAsg mu nm (cE n nm) ts e' = some s := e
      unfold cAsg at e
      split at e
      · rename_i y py
        unfold cAsgN at e
        split at e
        · rename_i i ir h1 h2
          split at e
          · split at e
            · rename_i hn
              cases e
              exact ss_cell h h1 (hf _ _ h2) (sw_not hn)
            · cases e
          · split at e
            · rename_i hn
              cases e
              exact ss_asgN h h1 (hf _ _ h2) (sw_not hn)
            · exact ss_asgC h h1 h2 e
        · cases e
      · rename_i tes kk pp
        unfold cAsgT at e
        split at e
        · split at e
          · exact ss_par h hf e
          · cases e
        · rename_i hnt
          split at e
          · rename_i hn
            split at e
            · rename_i t ir h1 h2
              cases e
              have hm : t.many = true := by
                have h1' : cTgT nm _ = some t := h1
                unfold cTgT at h1'
                split at h1'
                · cases h1'; rfl
                · obtain ⟨is, _, rfl⟩ := map_some h1'
                  rfl
              refine ss_asgT h hm h1 (hf _ _ h2) hn ?_
              cases e' <;> first | rfl | exact absurd rfl (hnt _ _ _)
            · cases e
          · cases e
      · rename_i o i tp
        unfold cAsgS at e
        split at e
        · rename_i hq
          rw [Bool.and_eq_true] at hq
          split at e
          · rename_i a b c h1 h2 h3
            cases e
            exact ss_setI h hq.1 hq.2 (hf _ _ h1) (hf _ _ h2) (hf _ _ h3)
          · cases e
        · cases e
      · cases e
    | AugAssign tg op e' p =>
      have e : cAug nm (cE n nm) tg op e' = some s := e
      unfold cAug at e
      split at e
      · split at e
        · rename_i i o ir h1 h2 h3
          cases e
          rw [augOp_of h2]
          exact ss_aug h h1 (hf _ _ h3)
        · cases e
      · split at e
        · rename_i hpi
          split at e
          · rename_i x y o ir h1 h2 h3 h4
            cases e
            rw [augOp_of h3]
            exact ss_augI h hpi (hf _ _ h1) (hf _ _ h2) (hf _ _ h4)
          · cases e
        · cases e
      · cases e
    | Expr e' p =>
      have e : cExpr nm (cE n nm) e' = some s := e
      unfold cExpr at e
      split at e
      · cases e
        exact pure_s ps_doc rfl fun D w σ H q => q
      · split at e
        · rename_i hq
          obtain ⟨em, h1, h2, h3⟩ := hq
          split at e
          · rename_i x y g1 g2
            cases e
            rw [em]
            exact ss_app h3 h1 h2 (hf _ _ g1) (hf _ _ g2)
          · cases e
        · cases e
      · split at e
        · rename_i hn
          obtain ⟨x, h1, rfl⟩ := map_some e
          exact ss_expr hn (hf _ _ h1)
        · cases e
    | Return v p =>
      cases v with
      | none =>
        cases e
        exact pure_s ps_retN rfl fun D w σ H q => q (fun i z => by cases z) .non .non
      | some e' =>
        obtain ⟨x, h1, rfl⟩ := map_some (show (cE n nm e').map S.ret = some s from e)
        exact ss_ret (hf _ _ h1)
    | If c a b p =>
      have e : cIte (cE n nm) (cS mu nm n) c a b = some s := e
      unfold cIte at e
      split at e
      · rename_i x y z h1 h2 h3
        cases e
        exact ss_ite (hb _ _ h1).2 (sound_ss hg h2) (sound_ss hg h3)
      · cases e
    | While c b o p =>
      cases o with
      | cons _ _ => cases e
      | nil =>
        have e : cWhile (cE n nm) (cS mu nm n) c b = some s := e
        unfold cWhile at e
        split at e
        · rename_i x y h1 h2
          cases e
          exact ss_while h (hb _ _ h1).2 (sound_ss hg h2)
        · cases e
    | For tg it b o p =>
      cases o with
      | cons _ _ => cases e
      | nil =>
        have e : cFor nm n (cS mu nm n) tg it b = some s := e
        unfold cFor at e
        split at e
        · rename_i x y z h1 h2 h3
          cases e
          obtain ⟨hi, hp⟩ := (sound n).2 nm (isTuple tg) it x h1 X W tg h.hyp fun z => z
          exact ss_for h hi hp h2 (sound_ss hg h3)
        · cases e
    | Pass p =>
      cases e
      exact pure_s ps_pass rfl fun D w σ H q => q
    | Break p =>
      cases e
      exact pure_s ps_break rfl fun D w σ H q => q
    | Continue p =>
      cases e
      exact pure_s ps_continue rfl fun D w σ H q => q
    | Raise e1 e2 p =>
      have e : cRaise nm e1 e2 = some s := e
      have nev : PS X (.Raise e1 e2 p) (tS X.K cl W Γ .nev) := ps_never.imp fun D σ H ⟨w, c⟩ => c.wp.elim
      unfold cRaise at e
      split at e
      · split at e
        · rename_i hq
          cases e
          rw [Bool.and_eq_true, Bool.and_eq_true] at hq
          exact ss_raise0 h hq.1.1 hq.1.2
        · cases e
          exact nev
      · cases e
        exact nev
    | Try b hs o f p =>
      match hs, o, f, e with
      | [.ExceptHandler (some (.Name c np)) as suite p1], [], [], e =>
        have e : cTry nm n (cS mu nm n) b c as suite = some s := e
        unfold cTry at e
        split at e
        · rename_i hq
          simp only [Bool.and_eq_true, decide_eq_true_eq] at hq
          obtain ⟨⟨⟨q1, q2⟩, q3⟩, q4⟩ := hq
          cases suite with
          | nil => cases q4
          | cons b0 suite =>
            have hb2 : ∀ {x : Ss}, cSs (cS mu nm n) b = some x → ∀ {X' : Cx} {W' : WX}, HypS X' nm W' cl Γ k → PSs X' b (tSs X'.K cl W' Γ x) := fun {x} hx {X' W'} h' => sound_ss (fun st s q => soundS mu n X' W' st s q h') hx
            cases as with
            | none =>
              dsimp only at e
              split at e
              · rename_i x u h1 h2
                cases e
                exact ss_try h (hb2 h1) q1 q2 q3 h2 (.inl ⟨rfl, rfl⟩)
              · cases e
            | some y =>
              dsimp only at e
              split at e
              · rename_i hl
                split at e
                · rename_i x i u h1 h2 h3
                  cases e
                  exact ss_try h (hb2 h1) q1 q2 q3 h3 (.inr ⟨y, i, rfl, rfl, h2, hl⟩)
                · cases e
              · cases e
        · cases e
    | _ => cases e
end
end IR

set_option Elab.async false
set_option linter.all false
set_option maxRecDepth 100000
/-! IrY: a def keeps its promise; a text's defs do. -/
namespace IR
open PySem L2

section
variable {K : PySem.W.Frag} {cl : Str → Option Addr} {w : Wd} {H : Hp} {σ : L2.St}
/-- the slots forgotten -/
theorem rel_end (R : Rel K cl w H σ) : Rel K cl { w with ρ := [] } H [] := by
  have obS : ∀ j o, ({ w with ρ := [] } : Wd).ob j = some o → (∃ c, j = .c c) ∧ w.ob j = some o := fun j o h => by
    cases j with
    | s i =>
      have h := of_ob_s h
      cases h
    | c i => exact ⟨⟨i, rfl⟩, h⟩
  refine ⟨R.fH, R.bH, R.dis, rfl, R.lenC, fun i d h => (by cases h), fun j o h => ?_, fun j1 j2 o1 o2 a h1 h2 h3 h4 => ?_⟩
  · obtain ⟨⟨c, rfl⟩, h⟩ := obS j o h
    exact R.own (.c c) o h
  · obtain ⟨⟨c, rfl⟩, h1⟩ := obS j1 o1 h1
    obtain ⟨⟨c', rfl⟩, h2⟩ := obS j2 o2 h2
    exact R.inj (.c c) (.c c') o1 o2 a h1 h2 h3 h4
theorem rrep_end {v : V} {r : Rv} (hr : ∀ i, r ≠ .s i) (h : RRep K cl w H σ v r) : RRep K cl { w with ρ := [] } H [] v r := by
  cases r with
  | v d => exact h
  | s i => exact absurd rfl (hr i)
  | n o =>
    obtain ⟨p, e, oa, hn⟩ := h
    refine ⟨p, e, oa, fun j o' h z => ?_⟩
    cases j with
    | s i =>
      have h := of_ob_s h
      cases h
    | c i => exact hn (.c i) o' h z
/-- the slots at a def's entry -/
theorem rel_start {N : List Str} {vs : List V} {ds : List D} {n : Nat} (hρ : w.ρ = []) (R : Rel K cl w H []) (rs : Reps K w.ι w.F vs ds) (hn : n = N.length) (hl : ds.length ≤ n) :
    Rel K cl { w with ρ := ds.map .val ++ List.replicate (n - ds.length) .no } H (L2.start N vs) := by
  have get : ∀ {i : Nat} {x : Slot}, (ds.map Slot.val ++ List.replicate (n - ds.length) Slot.no)[i]? = some x → (x = .no) ∨ ∃ d, ds[i]? = some d ∧ x = .val d := fun {i x} h => by
    by_cases q : i < ds.length
    · rw [List.getElem?_append_left (by rw [List.length_map]; exact q), List.getElem?_map] at h
      cases e : ds[i]? with
      | none => rw [e] at h; cases h
      | some d =>
        rw [e] at h
        cases h
        exact .inr ⟨d, rfl, rfl⟩
    · rw [List.getElem?_append_right (by rw [List.length_map]; omega)] at h
      exact .inl (List.eq_of_mem_replicate (List.mem_of_getElem? h))
  have obS : ∀ j o, ({ w with ρ := ds.map .val ++ List.replicate (n - ds.length) .no } : Wd).ob j = some o → (∃ c, j = .c c) ∧ w.ob j = some o := fun j o h => by
    cases j with
    | s i =>
      have h := of_ob_s h
      rcases get h with e | ⟨d, _, e⟩ <;> cases e
    | c i => exact ⟨⟨i, rfl⟩, h⟩
  refine ⟨R.fH, R.bH, R.dis, ?_, R.lenC, fun i d h => ?_, fun j o h => ?_, fun j1 j2 o1 o2 a h1 h2 h3 h4 => ?_⟩
  · unfold L2.start
    show _ = (ds.map Slot.val ++ List.replicate (n - ds.length) Slot.no).length
    rw [List.length_append, List.length_append, List.length_map, List.length_map, List.length_replicate, List.length_replicate, rs.length, hn]
  · have h : (ds.map Slot.val ++ List.replicate (n - ds.length) Slot.no)[i]? = some (.val d) := h
    rcases get h with e | ⟨d', hd, e⟩
    · cases e
    · cases e
      obtain ⟨v, hv, r⟩ := rs.get hd
      refine ⟨v, ?_, r⟩
      unfold L2.start
      rw [List.getElem?_append_left (by rw [List.length_map]; exact (List.getElem?_eq_some_iff.mp hv).1), List.getElem?_map, hv]
      rfl
  · obtain ⟨⟨c, rfl⟩, h⟩ := obS j o h
    exact R.own (.c c) o h
  · obtain ⟨⟨c, rfl⟩, h1⟩ := obS j1 o1 h1
    obtain ⟨⟨c', rfl⟩, h2⟩ := obS j2 o2 h2
    exact R.inj (.c c) (.c c') o1 o2 a h1 h2 h3 h4
end

section
variable {P : Program} {w : World} {K : PySem.W.Frag} {mg : Str → Option Value} {base : Heap} {cl : Str → Option Addr} {Γ : Gam}
theorem runD_len {d : Def} {ds : List D} {C : List (Option Ob)} {u : Wd} {H : Hp} {Q : VK} {E : XK} (h : OcOk K cl u H Q E (runD Γ d ds C)) : ds.length = d.ps ∧ d.ps ≤ d.n := by
  by_cases q : ds.length = d.ps ∧ d.ps ≤ d.n
  · exact q
  · unfold runD at h
    rw [if_neg q] at h
    exact h.elim
theorem def_ok {x qual : Str} {st : Stmt} {f : Addr} {fd : FuncData} {N ps : List Str} {k : Nat} (F : Fun K x qual st f fd) (S : FnScope N ps (defScope st)) {nm : Nm} (hN : nm.N = N) (hsc : nm.sc = defScope st) {d : Def} (hn : d.n = N.length) (hp : d.ps = ps.length) {mu : List Str} {n : Nat}
    (hc : cSs (cS mu nm n) (defBody st) = some d.body) (env : GEnv P w K mg base cl Γ k nm.fns nm.consts nm.blts nm.excs) : FnOk P w K mg base (L2.CX P w) (k + 1) f fd ps (spD K cl (runD Γ d)) := by
  refine F.okX S (fun vs H Q E ⟨u, ds, _, _, rs, h⟩ => ?_) fun cdv A outer s H vs Q E hr ⟨u, ds, hρ, R, rs, h⟩ => ?_
  · rw [rs.length, (runD_len h).1, hp]
  · have hyp : HypS (cxOf (L2.CX P w) P w K mg base N qual (defScope st) f cdv A outer s H E) nm (fun cls dd _ H' => E cls dd H') cl Γ k :=
      ⟨⟨hN.symm, hsc.symm, S.nd, rfl, hr, env, takes_of rfl rfl rfl rfl, fun _ _ => rfl⟩, passes_of (E₁ := fun e' s'' => L2.CX P w outer H s E e' s'') rfl, S.kind, rfl, rfl⟩
    refine ⟨_, sound_ss (fun st s q => soundS mu n _ _ st s q hyp) hc, ?_⟩
    obtain ⟨l1, l2⟩ := runD_len h
    unfold runD at h
    rw [if_pos ⟨l1, l2⟩] at h
    have R1 := rel_start (N := N) (n := d.n) hρ R rs hn (by rw [l1]; exact l2)
    rw [l1] at R1
    refine ⟨_, R1, ?_⟩
    show wpO (exs Γ d.body ⟨ds.map .val ++ List.replicate (d.n - d.ps) .no, u.C⟩) _ _
    have le0 : ∀ {w' : Wd} {u1 : Wd}, u1 = { u with ρ := ds.map .val ++ List.replicate (d.n - d.ps) .no } → Le u1 w' → Le u { w' with ρ := [] } := fun {w' u1} e le => by
      subst e
      exact ⟨le.f, le.b, le.i⟩
    cases e : exs Γ d.body ⟨ds.map .val ++ List.replicate (d.n - d.ps) .no, u.C⟩ with
    | bad => rw [e] at h; exact h.elim
    | exc y s' =>
      rw [e] at h
      intro w' H' σ' c dd le es R' xr
      have h : ∀ w' H' c d, Le u w' → w'.sm = ⟨[], s'.C⟩ → Rel K cl w' H' [] → XR K cl w' H' y c d → E c d H' := h
      refine h { w' with ρ := [] } H' c dd (le0 rfl le) ?_ (rel_end R') xr
      show (⟨[], w'.C⟩ : Sm) = _
      rw [← es]
      rfl
    | ok fl s' =>
      rw [e] at h
      intro w' H' σ' le es R'
      have e2 : ({ w' with ρ := [] } : Wd).sm = ⟨[], s'.C⟩ := by
        show (⟨[], w'.C⟩ : Sm) = _
        rw [← es]
        rfl
      cases fl with
      | nx =>
        have h : ∀ w' H' v, Le u w' → w'.sm = ⟨[], s'.C⟩ → Rel K cl w' H' [] → RRep K cl w' H' [] v (.v .non) → Q v H' := h
        exact h { w' with ρ := [] } H' .non (le0 rfl le) e2 (rel_end R') .non
      | ret r =>
        have h : ∀ w' H' v, Le u w' → w'.sm = ⟨[], s'.C⟩ → Rel K cl w' H' [] → RRep K cl w' H' [] v r → Q v H' := h
        exact fun hr v rr => h { w' with ρ := [] } H' v (le0 rfl le) e2 (rel_end R') (rrep_end hr rr)
      | brk => exact h.elim
      | ct => exact h.elim
end

/-! ### a text's defs -/
structure Ent where
  name : Str
  st : Stmt
  N : List Str
  ps : List Str
  mu : List Str
  d : Def
  /-- the new parts of its tuples stand in cells -/
  tc : Bool := false
structure Txt where
  ents : List Ent
  glob : List (Str × D)
  blts : List Str
  pure : List Str
  fuel : Nat
  /-- exception classes and their fields -/
  exs : List (Str × List Str) := []
  /-- which is one of which -/
  subs : List ((Str × Str) × Bool) := []
def Txt.fns (T : Txt) : List Str := T.ents.map (·.name)
def Txt.consts (T : Txt) : List Str := T.glob.map (·.1)
def Txt.excs (T : Txt) : List Str := T.exs.map (·.1)
def Txt.sub (T : Txt) (x y : Str) : Option Bool := T.subs.lookup (x, y)
def Txt.xf (T : Txt) (x : Str) : Option (List Str) := T.exs.lookup x
/-- what the top has made of the exception classes -/
structure ExsOk (K : PySem.W.Frag) (mg : Str → Option Value) (cl : Str → Option Addr) (T : Txt) : Prop where
  exm : ∀ x y b, T.sub x y = some b → ∃ C D, cl x = some C ∧ cl y = some D ∧ ExcAt K mg x C ∧ ExcAt K mg y D ∧ PySem.W.exmOne K (.ref C) (.ref D) = some b ∧ PySem.W.kitOne K (.ref C) (.ref D) = some b
  exc : ∀ x, x ∈ T.excs → ∃ C, cl x = some C ∧ ExcAt K mg x C
  xfn : ∀ x fs f C, T.xf x = some fs → f ∈ fs → cl x = some C → PySem.W.findIn K (.ref C) f = some none
  xf0 : ∀ x, T.xf x = some [] → ∃ C bm, cl x = some C ∧ ExcAt K mg x C ∧ PySem.W.excIn K C bm "ValueError.__new__" = true ∧ bm = [.type "ValueError", .type "Exception", .type "BaseException", .type "object"]
theorem ExsOk.none {K : PySem.W.Frag} {mg : Str → Option Value} {cl : Str → Option Addr} {T : Txt} (h : T.exs = []) (h2 : T.subs = []) : ExsOk K mg cl T where
  exm := fun x y b e => by unfold Txt.sub at e; rw [h2] at e; cases e
  exc := fun x e => by unfold Txt.excs at e; rw [h] at e; cases e
  xfn := fun x fs f C e => by unfold Txt.xf at e; rw [h] at e; cases e
  xf0 := fun x e => by unfold Txt.xf at e; rw [h] at e; cases e
def cellsOf (sc : Scope) : List Str := (sc.names.filter fun y => match y.2 with | .cell => true | _ => false).map (·.1)
def Txt.nm (T : Txt) (e : Ent) : Nm := ⟨e.N, defScope e.st, T.fns, T.consts, T.blts, cellsOf (defScope e.st), e.tc, T.excs⟩
def findE (f : Str) : List Ent → Option Ent
  | [] => none
  | e :: r => if e.name = f then some e else findE f r
/-- calls nested no deeper than so -/
def Txt.gam (T : Txt) : Nat → Gam
  | 0 => ⟨fun x => T.glob.lookup x, fun f => decide (f ∈ T.pure), fun _ _ _ => .bad, T.sub, T.xf, false, T.fuel⟩
  | k + 1 => ⟨fun x => T.glob.lookup x, fun f => decide (f ∈ T.pure), fun f ds C => match findE f T.ents with | some e => runD (T.gam k) e.d ds C | none => .bad, T.sub, T.xf, decide (2 ≤ k), T.fuel⟩
def scOk (N ps : List Str) (sc : Scope) : Bool :=
  (match sc.kind with | .function => true | _ => false) && !sc.isCoroutine && !sc.isGenerator && decide N.Nodup && decide (N.take ps.length = ps) &&
  (ps.all fun x => match sc.names.lookup x with | some .local => true | some .cell => true | _ => false) && (sc.names.all fun y => match y.2 with | .free => false | _ => true)
theorem scOk_of {N ps : List Str} {sc : Scope} (h : scOk N ps sc = true) : FnScope N ps sc := by
  unfold scOk at h
  simp only [Bool.and_eq_true, decide_eq_true_eq, Bool.not_eq_true'] at h
  obtain ⟨⟨⟨⟨⟨⟨h1, h2⟩, h3⟩, h4⟩, h5⟩, h6⟩, h7⟩ := h
  refine ⟨?_, h2, h3, h4, h5, fun x hx => ?_, fun y hy z => ?_⟩
  · split at h1
    · assumption
    · cases h1
  · have q := List.all_eq_true.mp h6 x hx
    split at q
    · exact .inl (by assumption)
    · exact .inr (by assumption)
    · cases q
  · have q := List.all_eq_true.mp h7 y hy
    rw [z] at q
    cases q
structure Ent.Good (T : Txt) (e : Ent) : Prop where
  sc : scOk e.N e.ps (defScope e.st) = true
  n : e.d.n = e.N.length
  ps : e.d.ps = e.ps.length
  body : ∃ n, cSs (cS e.mu (T.nm e) n) (defBody e.st) = some e.d.body
structure Ent.At (K : PySem.W.Frag) (mg : Str → Option Value) (e : Ent) : Prop where
  at' : ∃ f fd, mg e.name = some (.ref f) ∧ Fun K e.name e.name e.st f fd ∧ Binds K fd e.ps []
theorem findE_of {T : List Ent} {f : Str} (h : f ∈ T.map (·.name)) : ∃ e, findE f T = some e ∧ e ∈ T ∧ e.name = f := by
  induction T with
  | nil => cases h
  | cons e r ih =>
    unfold findE
    by_cases q : e.name = f
    · rw [if_pos q]
      exact ⟨e, rfl, List.mem_cons_self, q⟩
    · rw [if_neg q]
      rcases List.mem_cons.mp h with z | z
      · exact absurd z.symm q
      · obtain ⟨e', h1, h2, h3⟩ := ih z
        exact ⟨e', h1, List.mem_cons_of_mem _ h2, h3⟩
theorem lookup_mem {l : List (Str × D)} {y : Str × D} (hy : y ∈ l) : ∃ d, l.lookup y.1 = some d := by
  induction l with
  | nil => cases hy
  | cons z r ih =>
    rw [List.lookup_cons]
    split
    · exact ⟨_, rfl⟩
    · rename_i q
      rcases List.mem_cons.mp hy with e | e
      · subst e
        rw [beq_self_eq_true] at q
        cases q
      · exact ih e
/-- what the constants are -/
def GlobAt (K : PySem.W.Frag) (mg : Str → Option Value) (x : Str) (d : D) : Prop := x ≠ "gcd" → ∃ u v, mg x = some u ∧ RelV v u ∧ ∀ ι F, Rep K ι F v d
theorem text_ok {P : Program} {w : World} {K : PySem.W.Frag} {mg : Str → Option Value} {base : Heap} {T : Txt} (good : ∀ e ∈ T.ents, e.Good T) (hat : ∀ e ∈ T.ents, e.At K mg) (hg : ∀ x d, T.glob.lookup x = some d → GlobAt K mg x d)
    (hb : ∀ x ∈ T.blts, mg x = none) (hgcd : ("gcd" : Str) ∈ T.consts → mg "gcd" = some (.builtin "math.gcd")) (cl : Str → Option Addr) (hx : ExsOk K mg cl T) : ∀ k, GEnv P w K mg base cl (T.gam k) k T.fns T.consts T.blts T.excs := by
  have glob : ∀ {Γ : Gam}, (Γ.glob = fun x => T.glob.lookup x) → ∀ x, x ∈ T.consts → x ≠ "gcd" → ∃ u v d, Γ.glob x = some d ∧ mg x = some u ∧ RelV v u ∧ ∀ ι F, Rep K ι F v d := fun {Γ} e x hx hn => by
    have : ∃ d, T.glob.lookup x = some d := by
      unfold Txt.consts at hx
      obtain ⟨y, hy, rfl⟩ := List.mem_map.mp hx
      exact lookup_mem hy
    obtain ⟨d, hd⟩ := this
    obtain ⟨u, v, h1, h2, h3⟩ := hg x d hd hn
    exact ⟨u, v, d, by rw [e]; exact hd, h1, h2, h3⟩
  intro k
  induction k with
  | zero =>
    refine ⟨hx.exm, hx.exc, hx.xfn, hx.xf0, glob rfl, hb, hgcd, fun f hf => ?_⟩
    obtain ⟨e, _, h2, rfl⟩ := findE_of hf
    obtain ⟨a, fd, h3, F, b⟩ := (hat e h2).at'
    exact ⟨a, fd, e.ps, h3, F.kp, b, fun vs H Q E ⟨u, ds, _, _, _, h⟩ => h.elim, fun A outer s H args us vs Q E _ _ _ _ ⟨u, ds, _, _, _, h⟩ => h.elim⟩
  | succ k ih =>
    refine ⟨hx.exm, hx.exc, hx.xfn, hx.xf0, glob rfl, hb, hgcd, fun f hf => ?_⟩
    obtain ⟨e, h1, h2, rfl⟩ := findE_of hf
    obtain ⟨a, fd, h3, F, b⟩ := (hat e h2).at'
    obtain ⟨g1, g2, g3, n, g4⟩ := good e h2
    refine ⟨a, fd, e.ps, h3, F.kp, b, ?_⟩
    have q := def_ok (P := P) (w := w) (mg := mg) (base := base) (cl := cl) (Γ := T.gam k) (k := k) F (scOk_of g1) (nm := T.nm e) rfl rfl g2 g3 g4 ih
    have ec : (T.gam (k + 1)).call e.name = runD (T.gam k) e.d := by
      funext ds C
      show (match findE e.name T.ents with | some e => runD (T.gam k) e.d ds C | none => .bad) = _
      rw [h1]
    rw [ec]
    exact q

theorem kit_of {K : PySem.W.Frag} {C D : Addr} {b : Bool} (hd : PySem.W.hasDictIn K D = true) (ht : PySem.W.typeIn K (.ref D) = some (.type "type")) (h : PySem.W.subIn K (.ref C) (.ref D) = some b) (self : PySem.W.subIn K (.ref C) (.ref C) = some true) : PySem.W.kitOne K (.ref C) (.ref D) = some b := by
  obtain ⟨cd, hc, _⟩ := PySem.W.any_some hd
  unfold PySem.W.kitOne
  by_cases q : ((Value.ref C == Value.ref D) = true)
  · rw [if_pos q]
    have e := beq_iff_eq.mp q
    cases e
    rw [self] at h
    exact h
  · rw [if_neg q]
    show (if ((PySem.W.clsIn K D).isSome && PySem.W.typeIn K (.ref D) == some (.type "type")) = true then PySem.W.subIn K (.ref C) (.ref D) else none) = some b
    rw [if_pos (by rw [hc, ht]; rfl)]
    exact h
/-- whatever the classes -/
def spA (K : PySem.W.Frag) (call : List D → List (Option Ob) → Oc) : Sp := fun vs H Q E => ∀ cl, spD K cl call vs H Q E
theorem fn_imp {P : Program} {w : World} {K : PySem.W.Frag} {mg : Str → Option Value} {base : Heap} {CX : CXT} {k : Nat} {f : Addr} {fd : FuncData} {ps : List Str} {sp sp' : Sp} (h : FnOk P w K mg base CX k f fd ps sp) (i : ∀ vs H Q E, sp' vs H Q E → sp vs H Q E) : FnOk P w K mg base CX k f fd ps sp' where
  len := fun vs H Q E q => h.len vs H Q E (i _ _ _ _ q)
  run := fun A outer s H args us vs Q E a b c d q => h.run A outer s H args us vs Q E a b c d (i _ _ _ _ q)
/-- the law -/
theorem law_sp {K : PySem.W.Frag} {cl : Str → Option Addr} {call : List D → List (Option Ob) → Oc} {H : Hp} {a : Addr} {ns : List Int} (hS : SqL K H a (ns.map V.int)) {C : List (Option Ob)} (h : call [.ro (ns.map .int)] [] = .ok (.v (.bl true)) C) :
    spD K cl call [.ref a] H (fun v _ => v = .bl true) fun _ _ _ => False := by
  refine ⟨⟨[], H, fun _ => none, [], []⟩, [.ro (ns.map .int)], rfl, ⟨Same.refl _, (fun _ _ e => by cases e), (fun _ _ e => by cases e), rfl, rfl, (fun _ _ e => by cases e), fun j o e => ?_, fun j _ o _ _ e => ?_⟩, .cons (.ro hS (.ofInts ns)) .nil, ?_⟩
  · cases j <;> cases e
  · cases j <;> cases e
  · show OcOk _ _ _ _ _ _ (call [.ro (ns.map .int)] [])
    rw [h]
    intro w' H' v _ _ _ r
    cases r
    rfl
end IR

set_option Elab.async false
set_option linter.all false
set_option maxRecDepth 100000
/-! IrZ: the language's terms compared, for the kernel. -/
namespace IR
open PySem L2
def BOp.ix : BOp → Nat
  | .add => 0 | .sub => 1 | .mul => 2 | .fdiv => 3 | .mod => 4 | .pow => 5 | .shl => 6 | .shr => 7 | .band => 8 | .bxor => 9
def COp.ix : COp → Nat
  | .eq => 0 | .ne => 1 | .lt => 2 | .le => 3 | .gt => 4 | .ge => 5 | .inn => 6 | .nin => 7 | .is => 8 | .isn => 9
def Blt.ix : Blt → Nat × String
  | .len => (0, "") | .abs => (1, "") | .int => (2, "") | .list => (3, "") | .tuple => (4, "") | .sum => (5, "") | .min2 => (6, "") | .max2 => (7, "") | .min => (8, "") | .max => (9, "") | .any => (10, "") | .all => (11, "") | .gcd => (12, "") | .isinst t => (13, t)
def Mth.ix : Mth → Nat
  | .join => 0 | .index => 1 | .get => 2 | .split => 3
def Tg.ix (t : Tg) : Tg := t
theorem BOp.ix_ok {a b : BOp} (h : a.ix = b.ix) : a = b := by cases a <;> cases b <;> first | rfl | cases h
theorem COp.ix_ok {a b : COp} (h : a.ix = b.ix) : a = b := by cases a <;> cases b <;> first | rfl | cases h
theorem Mth.ix_ok {a b : Mth} (h : a.ix = b.ix) : a = b := by cases a <;> cases b <;> first | rfl | cases h
theorem Blt.ix_ok {a b : Blt} (h : a.ix = b.ix) : a = b := by cases a <;> cases b <;> first | rfl | (cases h; rfl) | cases h
theorem Tg.ix_ok {a b : Tg} (h : a.ix = b.ix) : a = b := h
def D.eqb : D → D → Bool
  | .non, .non => true
  | .bl a, .bl b => decide (a = b)
  | .int a, .int b => decide (a = b)
  | .str a, .str b => decide (a = b)
  | _, _ => false
theorem D.eqb_ok {a b : D} (h : D.eqb a b = true) : a = b := by
  cases a <;> cases b <;> first | rfl | (cases h; done) | (exact congrArg _ (of_decide_eq_true h))
mutual
def E.eqb : E → E → Bool
  | .loc a, .loc b => decide (a = b)
  | .k a, .k b => D.eqb a b
  | .glob a, .glob b => decide (a = b)
  | .bin o a b, .bin o' a' b' => decide (o.ix = o'.ix) && E.eqb a a' && E.eqb b b'
  | .neg a, .neg a' => E.eqb a a'
  | .cmp o a b, .cmp o' a' b' => decide (o.ix = o'.ix) && E.eqb a a' && E.eqb b b'
  | .chain o p a b c, .chain o' p' a' b' c' => decide (o.ix = o'.ix) && decide (p.ix = p'.ix) && E.eqb a a' && E.eqb b b' && E.eqb c c'
  | .and a b, .and a' b' => E.eqb a a' && E.eqb b b'
  | .or a b, .or a' b' => E.eqb a a' && E.eqb b b'
  | .not a, .not a' => E.eqb a a'
  | .ife a b c, .ife a' b' c' => E.eqb a a' && E.eqb b b' && E.eqb c c'
  | .lst a, .lst a' => Es.eqb a a'
  | .tup a, .tup a' => Es.eqb a a'
  | .cell a, .cell a' => E.eqb a a'
  | .idx a b, .idx a' b' => E.eqb a a' && E.eqb b b'
  | .slc a b c, .slc a' b' c' => E.eqb a a' && Eo.eqb b b' && Eo.eqb c c'
  | .call f a, .call f' a' => decide (f = f') && Es.eqb a a'
  | .blt f a, .blt f' a' => decide (f.ix = f'.ix) && Es.eqb a a'
  | .mth m a b, .mth m' a' b' => decide (m.ix = m'.ix) && E.eqb a a' && Es.eqb b b'
  | .compB t a b c, .compB t' a' b' c' => decide (t.ix = t'.ix) && decide (a = a') && Es.eqb b b' && E.eqb c c'
  | .comp t a b c, .comp t' a' b' c' => decide (t.ix = t'.ix) && It'.eqb a a' && Es.eqb b b' && E.eqb c c'
  | _, _ => false
termination_by structural x _ => x
def Es.eqb : Es → Es → Bool
  | .nil, .nil => true
  | .cons a b, .cons a' b' => E.eqb a a' && Es.eqb b b'
  | _, _ => false
termination_by structural x _ => x
def Eo.eqb : Eo → Eo → Bool
  | .no, .no => true
  | .some a, .some a' => E.eqb a a'
  | _, _ => false
termination_by structural x _ => x
def It'.eqb : It' → It' → Bool
  | .seq a, .seq a' => E.eqb a a'
  | .rng1 a, .rng1 a' => E.eqb a a'
  | .rng2 a b, .rng2 a' b' => E.eqb a a' && E.eqb b b'
  | .enum a, .enum a' => E.eqb a a'
  | _, _ => false
termination_by structural x _ => x
end
mutual
theorem E.eqb_ok : ∀ {a b : E}, E.eqb a b = true → a = b := fun {a b} h => by
  cases a <;> cases b <;> first
    | (exact absurd h Bool.false_ne_true)
    | (simp only [E.eqb, Bool.and_eq_true, decide_eq_true_eq] at h; simp only [E.loc.injEq, E.k.injEq, E.glob.injEq, E.bin.injEq, E.neg.injEq, E.cmp.injEq, E.chain.injEq, E.and.injEq, E.or.injEq, E.not.injEq, E.ife.injEq, E.lst.injEq, E.tup.injEq, E.cell.injEq, E.idx.injEq, E.slc.injEq, E.call.injEq, E.blt.injEq, E.mth.injEq, E.comp.injEq, E.compB.injEq]
       first
         | exact h
         | exact D.eqb_ok h
         | exact E.eqb_ok h
         | exact Es.eqb_ok h
         | exact ⟨BOp.ix_ok h.1.1, E.eqb_ok h.1.2, E.eqb_ok h.2⟩
         | exact ⟨COp.ix_ok h.1.1, E.eqb_ok h.1.2, E.eqb_ok h.2⟩
         | exact ⟨COp.ix_ok h.1.1.1.1, COp.ix_ok h.1.1.1.2, E.eqb_ok h.1.1.2, E.eqb_ok h.1.2, E.eqb_ok h.2⟩
         | exact ⟨E.eqb_ok h.1, E.eqb_ok h.2⟩
         | exact ⟨E.eqb_ok h.1.1, E.eqb_ok h.1.2, E.eqb_ok h.2⟩
         | exact ⟨E.eqb_ok h.1.1, Eo.eqb_ok h.1.2, Eo.eqb_ok h.2⟩
         | exact ⟨h.1, Es.eqb_ok h.2⟩
         | exact ⟨Blt.ix_ok h.1, Es.eqb_ok h.2⟩
         | exact ⟨Mth.ix_ok h.1.1, E.eqb_ok h.1.2, Es.eqb_ok h.2⟩
         | exact ⟨Tg.ix_ok h.1.1.1, It'.eqb_ok h.1.1.2, Es.eqb_ok h.1.2, E.eqb_ok h.2⟩
         | exact ⟨Tg.ix_ok h.1.1.1, h.1.1.2, Es.eqb_ok h.1.2, E.eqb_ok h.2⟩)
theorem Es.eqb_ok : ∀ {a b : Es}, Es.eqb a b = true → a = b := fun {a b} h => by
  cases a <;> cases b <;> first
    | rfl
    | (exact absurd h Bool.false_ne_true)
    | (simp only [Es.eqb, Bool.and_eq_true] at h; rw [E.eqb_ok h.1, Es.eqb_ok h.2])
theorem Eo.eqb_ok : ∀ {a b : Eo}, Eo.eqb a b = true → a = b := fun {a b} h => by
  cases a <;> cases b <;> first
    | rfl
    | (exact absurd h Bool.false_ne_true)
    | (simp only [Eo.eqb] at h; rw [E.eqb_ok h])
theorem It'.eqb_ok : ∀ {a b : It'}, It'.eqb a b = true → a = b := fun {a b} h => by
  cases a <;> cases b <;> first
    | (exact absurd h Bool.false_ne_true)
    | (simp only [It'.eqb] at h; rw [E.eqb_ok h])
    | (simp only [It'.eqb, Bool.and_eq_true] at h; rw [E.eqb_ok h.1, E.eqb_ok h.2])
end
mutual
def XE.eqb : XE → XE → Bool
  | .loc a, .loc b => decide (a = b)
  | .k a, .k b => D.eqb a b
  | .fld a, .fld b => decide (a = b)
  | .isx a, .isx b => decide (a = b)
  | .cmp o a b, .cmp o' a' b' => decide (o.ix = o'.ix) && XE.eqb a a' && XE.eqb b b'
  | .and a b, .and a' b' => XE.eqb a a' && XE.eqb b b'
  | .or a b, .or a' b' => XE.eqb a a' && XE.eqb b b'
  | .not a, .not a' => XE.eqb a a'
  | .tup a, .tup a' => XEs.eqb a a'
  | _, _ => false
termination_by structural x _ => x
def XEs.eqb : XEs → XEs → Bool
  | .nil, .nil => true
  | .cons a b, .cons a' b' => XE.eqb a a' && XEs.eqb b b'
  | _, _ => false
termination_by structural x _ => x
end
mutual
theorem XE.eqb_ok : ∀ {a b : XE}, XE.eqb a b = true → a = b := fun {a b} h => by
  cases a <;> cases b <;> first
    | (exact absurd h Bool.false_ne_true)
    | (simp only [XE.eqb, Bool.and_eq_true, decide_eq_true_eq] at h; simp only [XE.loc.injEq, XE.k.injEq, XE.fld.injEq, XE.isx.injEq, XE.cmp.injEq, XE.and.injEq, XE.or.injEq, XE.not.injEq, XE.tup.injEq]
       first
         | exact h
         | exact D.eqb_ok h
         | exact XE.eqb_ok h
         | exact XEs.eqb_ok h
         | exact ⟨COp.ix_ok h.1.1, XE.eqb_ok h.1.2, XE.eqb_ok h.2⟩
         | exact ⟨XE.eqb_ok h.1, XE.eqb_ok h.2⟩)
theorem XEs.eqb_ok : ∀ {a b : XEs}, XEs.eqb a b = true → a = b := fun {a b} h => by
  cases a <;> cases b <;> first
    | rfl
    | (exact absurd h Bool.false_ne_true)
    | (simp only [XEs.eqb, Bool.and_eq_true] at h; rw [XE.eqb_ok h.1, XEs.eqb_ok h.2])
end
def Su.eqb : Su → Su → Bool
  | .done, .done => true
  | .retN, .retN => true
  | .ret a, .ret b => XE.eqb a b
  | .ite a b c, .ite a' b' c' => XE.eqb a a' && XE.eqb b b' && Su.eqb c c'
  | _, _ => false
theorem Su.eqb_ok : ∀ {a b : Su}, Su.eqb a b = true → a = b
  | .done, .done, _ => rfl
  | .retN, .retN, _ => rfl
  | .ret a, .ret b, h => congrArg _ (XE.eqb_ok h)
  | .ite a b c, .ite a' b' c', h => by
    simp only [Su.eqb, Bool.and_eq_true] at h
    rw [XE.eqb_ok h.1.1, XE.eqb_ok h.1.2, Su.eqb_ok h.2]
  | .done, .retN, h => by cases h
  | .done, .ret _, h => by cases h
  | .done, .ite _ _ _, h => by cases h
  | .retN, .done, h => by cases h
  | .retN, .ret _, h => by cases h
  | .retN, .ite _ _ _, h => by cases h
  | .ret _, .done, h => by cases h
  | .ret _, .retN, h => by cases h
  | .ret _, .ite _ _ _, h => by cases h
  | .ite _ _ _, .done, h => by cases h
  | .ite _ _ _, .retN, h => by cases h
  | .ite _ _ _, .ret _, h => by cases h
mutual
def S.eqb : S → S → Bool
  | .asg t e, .asg t' e' => decide (t.ix = t'.ix) && E.eqb e e'
  | .cell t e, .cell t' e' => decide (t = t') && E.eqb e e'
  | .par i j e, .par i' j' e' => decide (i = i') && decide (j = j') && Es.eqb e e'
  | .aug i o e, .aug i' o' e' => decide (i = i') && decide (o.ix = o'.ix) && E.eqb e e'
  | .setI a b c, .setI a' b' c' => E.eqb a a' && E.eqb b b' && E.eqb c c'
  | .augI a b o c, .augI a' b' o' c' => decide (o.ix = o'.ix) && E.eqb a a' && E.eqb b b' && E.eqb c c'
  | .app a b, .app a' b' => E.eqb a a' && E.eqb b b'
  | .expr a, .expr a' => E.eqb a a'
  | .ret a, .ret a' => E.eqb a a'
  | .retN, .retN => true
  | .ite c a b, .ite c' a' b' => E.eqb c c' && Ss.eqb a a' && Ss.eqb b b'
  | .while c a, .while c' a' => E.eqb c c' && Ss.eqb a a'
  | .for t i a, .for t' i' a' => decide (t.ix = t'.ix) && It'.eqb i i' && Ss.eqb a a'
  | .pass, .pass => true
  | .brk, .brk => true
  | .cont, .cont => true
  | .nev, .nev => true
  | .raise c a, .raise c' a' => decide (c = c') && Es.eqb a a'
  | .try b c i u, .try b' c' i' u' => decide (c = c') && decide (i = i') && Su.eqb u u' && Ss.eqb b b'
  | _, _ => false
termination_by structural x _ => x
def Ss.eqb : Ss → Ss → Bool
  | .nil, .nil => true
  | .cons a b, .cons a' b' => S.eqb a a' && Ss.eqb b b'
  | _, _ => false
termination_by structural x _ => x
end
mutual
theorem S.eqb_ok : ∀ {a b : S}, S.eqb a b = true → a = b := fun {a b} h => by
  cases a <;> cases b <;> first
    | rfl
    | (exact absurd h Bool.false_ne_true)
    | (simp only [S.eqb, Bool.and_eq_true, decide_eq_true_eq] at h; simp only [S.asg.injEq, S.cell.injEq, S.par.injEq, S.aug.injEq, S.setI.injEq, S.augI.injEq, S.app.injEq, S.expr.injEq, S.ret.injEq, S.ite.injEq, S.while.injEq, S.for.injEq, S.raise.injEq, S.try.injEq]
       first
         | exact E.eqb_ok h
         | exact ⟨h.1, E.eqb_ok h.2⟩
         | exact ⟨Tg.ix_ok h.1, E.eqb_ok h.2⟩
         | exact ⟨h.1.1, h.1.2, Es.eqb_ok h.2⟩
         | exact ⟨h.1.1, BOp.ix_ok h.1.2, E.eqb_ok h.2⟩
         | exact ⟨E.eqb_ok h.1.1, E.eqb_ok h.1.2, E.eqb_ok h.2⟩
         | exact ⟨E.eqb_ok h.1.1.2, E.eqb_ok h.1.2, BOp.ix_ok h.1.1.1, E.eqb_ok h.2⟩
         | exact ⟨E.eqb_ok h.1, E.eqb_ok h.2⟩
         | exact ⟨E.eqb_ok h.1.1, Ss.eqb_ok h.1.2, Ss.eqb_ok h.2⟩
         | exact ⟨E.eqb_ok h.1, Ss.eqb_ok h.2⟩
         | exact ⟨Tg.ix_ok h.1.1, It'.eqb_ok h.1.2, Ss.eqb_ok h.2⟩
         | exact ⟨h.1, Es.eqb_ok h.2⟩
         | exact ⟨Ss.eqb_ok h.2, h.1.1.1, h.1.1.2, Su.eqb_ok h.1.2⟩)
theorem Ss.eqb_ok : ∀ {a b : Ss}, Ss.eqb a b = true → a = b := fun {a b} h => by
  cases a <;> cases b <;> first
    | rfl
    | (exact absurd h Bool.false_ne_true)
    | (simp only [Ss.eqb, Bool.and_eq_true] at h; rw [S.eqb_ok h.1, Ss.eqb_ok h.2])
end
def eqbO : Option Ss → Ss → Bool
  | some a, b => Ss.eqb a b
  | none, _ => false
/-- all that is asked of a def's text -/
def Ent.chk (T : Txt) (e : Ent) : Bool := scOk e.N e.ps (defScope e.st) && decide (e.d.n = e.N.length) && decide (e.d.ps = e.ps.length) && eqbO (cSs (cS e.mu (T.nm e) 60) (defBody e.st)) e.d.body
theorem Ent.good_of {T : Txt} {e : Ent} (h : e.chk T = true) : e.Good T := by
  unfold Ent.chk at h
  simp only [Bool.and_eq_true, decide_eq_true_eq] at h
  obtain ⟨⟨⟨h1, h2⟩, h3⟩, h4⟩ := h
  refine ⟨h1, h2, h3, 60, ?_⟩
  generalize cSs (cS e.mu (T.nm e) 60) (defBody e.st) = o at h4
  cases o with
  | none => cases h4
  | some a => rw [Ss.eqb_ok (show Ss.eqb a e.d.body = true from h4)]
end IR

set_option Elab.async false
set_option linter.all false
set_option maxRecDepth 100000
/-! IrM: how a run of the language is shown: steps, loops, calls. -/
namespace IR
open PySem L2

/-- the same, told as a step (not by unfolding) -/
theorem same_of {α : Sort _} {a b : α} (h : a = b) : a = b := h
theorem gam_call {T : Txt} {e : Ent} {f : Str} {k : Nat} (h : findE f T.ents = some e) : (T.gam (k + 1)).call f = runD (T.gam k) e.d := by
  funext ds C
  show (match findE f T.ents with | some e => runD (T.gam k) e.d ds C | none => .bad) = _
  rw [h]
theorem bind_at {α β : Type} {m : M α} {f : α → M β} {s : Sm} : M.bind m f s = (m s).bind f := same_of rfl
theorem out_ok {α β : Type} {a : α} {s : Sm} {f : α → M β} : (Out.ok a s).bind f = f a s := same_of rfl
theorem pure_at {α : Type} {a : α} {s : Sm} : M.pure a s = .ok a s := same_of rfl

/-- a call that is pure answers so -/
def Pu (Γ : Gam) (f : Str) (ds : List D) (r : Rv) : Prop := ∀ C, ∃ C', Γ.call f ds C = .ok r C'
theorem callM_pu {Γ : Gam} {f : Str} {rs : List Rv} {ds : List D} {r : Rv} {s : Sm} (hp : Γ.isPure f = true) (ha : argDs s.ρ rs = some ds) (h : Pu Γ f ds r) (hf : r.flat = true) : callM Γ f rs s = .ok r s := by
  obtain ⟨C', h⟩ := h (mask s.C)
  unfold callM
  rw [if_pos hp]
  simp only [ha, h, hf, if_true]

/-! ### loops -/
theorem forL_inv {turn : D → M Fl} {ds : List D} (I : Nat → Sm → Prop) {s : Sm} (h0 : I 0 s) (step : ∀ (i : Nat) d s, ds[i]? = some d → I i s → ∃ f s', turn d s = .ok f s' ∧ (f = .nx ∨ f = .ct) ∧ I (i + 1) s') :
    ∃ s', forL turn ds s = .ok .nx s' ∧ I ds.length s' := by
  induction ds generalizing I s with
  | nil => exact ⟨s, rfl, h0⟩
  | cons d ds ih =>
    obtain ⟨f, s1, e1, hf, h1⟩ := step 0 d s rfl h0
    obtain ⟨s2, e2, h2⟩ := ih (fun i => I (i + 1)) (s := s1) h1 fun i d s hd hi => step (i + 1) d s (by simpa using hd) hi
    refine ⟨s2, ?_, h2⟩
    show (turn d s).bind _ = _
    rw [e1]
    rcases hf with rfl | rfl
    · exact e2
    · exact e2
/-- it ends, or it hands back -/
theorem forL_ret {turn : D → M Fl} {ds : List D} (I : Nat → Sm → Prop) (R : Rv → Sm → Prop) {s : Sm} (h0 : I 0 s) (step : ∀ (i : Nat) d s, ds[i]? = some d → I i s → ∃ f s', turn d s = .ok f s' ∧ ((f = .nx ∧ I (i + 1) s') ∨ ∃ r, f = .ret r ∧ R r s')) :
    ∃ f s', forL turn ds s = .ok f s' ∧ ((f = .nx ∧ I ds.length s') ∨ ∃ r, f = .ret r ∧ R r s') := by
  induction ds generalizing I s with
  | nil => exact ⟨.nx, s, rfl, .inl ⟨rfl, h0⟩⟩
  | cons d ds ih =>
    obtain ⟨f, s1, e1, h1⟩ := step 0 d s rfl h0
    rcases h1 with ⟨rfl, h1⟩ | ⟨r, rfl, h1⟩
    · obtain ⟨f, s2, e2, h2⟩ := ih (fun i => I (i + 1)) (s := s1) h1 fun i d s hd hi => step (i + 1) d s (by simpa using hd) hi
      refine ⟨f, s2, ?_, h2⟩
      show (turn d s).bind _ = _
      rw [e1]
      exact e2
    · refine ⟨.ret r, s1, ?_, .inr ⟨r, rfl, h1⟩⟩
      show (turn d s).bind _ = _
      rw [e1]
      rfl
theorem rangeL_get {lo : Int} {n i : Nat} {d : D} (h : (rangeL lo n)[i]? = some d) : i < n ∧ d = .int (lo + i) := by
  unfold rangeL at h
  rw [List.getElem?_map] at h
  cases q : (List.range n)[i]? with
  | none => rw [q] at h; cases h
  | some j =>
    rw [q] at h
    obtain ⟨h1, h2⟩ := List.getElem?_eq_some_iff.mp q
    rw [List.length_range] at h1
    rw [List.getElem_range] at h2
    subst h2
    cases h
    exact ⟨h1, rfl⟩
theorem rangeL_len {lo : Int} {n : Nat} : (rangeL lo n).length = n := by
  unfold rangeL
  rw [List.length_map, List.length_range]
theorem compL_map {turn : D → M (Option D)} {s : Sm} {g : D → Option D} : ∀ {ds : List D}, (∀ d ∈ ds, turn d s = .ok (g d) s) → compL turn ds s = .ok (ds.filterMap g) s
  | [], _ => rfl
  | d :: ds, h => by
    show (turn d s).bind _ = _
    rw [h d List.mem_cons_self]
    show (compL turn ds s).bind _ = _
    rw [compL_map fun d hd => h d (List.mem_cons_of_mem _ hd)]
    show Out.ok _ s = _
    rw [List.filterMap_cons]
    cases g d <;> rfl

/-! ### steps at a state -/
section
variable {Γ : Gam} {s : Sm} {ρ : List Slot} {C : List (Option Ob)}
def locV (i : Nat) (s : Sm) : Option Slot → Out Rv
  | some (.own _) => .ok (.s i) s
  | some (.val d) => .ok (.v d) s
  | _ => .bad
theorem locV_val {i : Nat} {d : D} : locV i s (some (.val d)) = .ok (.v d) s := same_of rfl
theorem locV_own {i : Nat} {o : Ob} : locV i s (some (.own o)) = .ok (.s i) s := same_of rfl
theorem a_loc {i : Nat} : ev Γ (.loc i) ⟨ρ, C⟩ = locV i ⟨ρ, C⟩ ρ[i]? := by
  simp only [ev]
  unfold locV
  rfl
theorem a_k {d : D} : ev Γ (.k d) s = .ok (.v d) s := same_of rfl
def globV (s : Sm) : Option D → Out Rv
  | some d => .ok (.v d) s
  | none => .bad
theorem globV_some {d : D} : globV s (some d) = .ok (.v d) s := same_of rfl
theorem a_glob {x : Str} : ev Γ (.glob x) s = globV s (Γ.glob x) := same_of rfl
theorem a_bin {o : BOp} {a b : E} : ev Γ (.bin o a b) s = (ev Γ a s).bind fun ra => M.bind (hold ra) fun ra => M.bind (ev Γ b) fun rb => M.bind (peekM ra) fun x => M.bind (peekM rb) fun y => ofO (opBin o x y) := same_of rfl
def negV : D → M Rv
  | .int i => M.pure (.v (.int (-i)))
  | _ => M.bad
theorem negV_int {i : Int} : negV (.int i) s = .ok (.v (.int (-i))) s := same_of rfl
theorem a_neg {a : E} : ev Γ (.neg a) s = (ev Γ a s).bind fun r => M.bind (peekM r) negV := by
  simp only [ev]
  unfold negV
  rfl
theorem a_cmp {o : COp} {a b : E} : ev Γ (.cmp o a b) s = (ev Γ a s).bind fun ra => M.bind (hold ra) fun ra => M.bind (ev Γ b) fun rb => M.bind (peekM ra) fun x => M.bind (peekM rb) fun y => M.bind (cmpV o x y (opCmp o x y)) fun k => M.pure (.v (.bl k)) := same_of rfl
def iteM {α : Type} (k : Bool) (a b : M α) : M α := if k then a else b
theorem iteM_t {α : Type} {a b : M α} : iteM true a b = a := same_of rfl
theorem iteM_f {α : Type} {a b : M α} : iteM false a b = b := same_of rfl
theorem iteM_at {α : Type} {k : Bool} {a b : M α} {s : Sm} : iteM k a b s = if k = true then a s else b s := by cases k <;> rfl
theorem a_chain {o o' : COp} {a b c : E} : ev Γ (.chain o o' a b c) s = (ev Γ a s).bind fun ra => M.bind (hold ra) fun ra => M.bind (ev Γ b) fun rb => M.bind (hold rb) fun rb => M.bind (peekM ra) fun x => M.bind (peekM rb) fun y => M.bind (cmpV o x y (opCmp o x y)) fun k =>
  iteM k (M.bind (ev Γ c) fun rc => M.bind (peekM rb) fun y => M.bind (peekM rc) fun z => M.bind (cmpV o' y z (opCmp o' y z)) fun k => M.pure (.v (.bl k))) (M.pure (.v (.bl false))) := same_of rfl
theorem a_and {a b : E} : ev Γ (.and a b) s = (ev Γ a s).bind fun r => M.bind (peekM r) fun x => M.bind (test x) fun k => iteM k (ev Γ b) (M.pure r) := same_of rfl
theorem a_or {a b : E} : ev Γ (.or a b) s = (ev Γ a s).bind fun r => M.bind (peekM r) fun x => M.bind (test x) fun k => iteM k (M.pure r) (ev Γ b) := same_of rfl
theorem a_not {a : E} : ev Γ (.not a) s = (ev Γ a s).bind fun r => M.bind (peekM r) fun x => M.bind (test x) fun k => M.pure (.v (.bl (!k))) := same_of rfl
theorem a_ife {c a b : E} : ev Γ (.ife c a b) s = (ev Γ c s).bind fun r => M.bind (peekM r) fun x => M.bind (test x) fun k => iteM k (ev Γ a) (ev Γ b) := same_of rfl
def sizeM (n : Nat) (r : Rv) : M Rv := if decide (n ≤ sizeLine) then M.pure r else M.bad
theorem sizeM_ok {n : Nat} {r : Rv} (h : n ≤ sizeLine) : sizeM n r s = .ok r s := by
  unfold sizeM
  rw [if_pos (decide_eq_true h)]
  rfl
theorem a_lst {l : Es} : ev Γ (.lst l) s = (evs Γ l s).bind fun ds => sizeM ds.length (.n (.lst ds)) := same_of rfl
theorem a_tup {l : Es} : ev Γ (.tup l) s = (evs Γ l s).bind fun ds => sizeM ds.length (.v (.tup ds)) := same_of rfl
theorem a_idx {a i : E} : ev Γ (.idx a i) s = (ev Γ a s).bind fun ra => M.bind (hold ra) fun ra => M.bind (ev Γ i) fun ri => M.bind (peekM ra) fun x => M.bind (peekM ri) fun y => M.bind (ofO (opIdx x y)) fun d => M.pure (.v d) := same_of rfl
theorem a_slc {a : E} {lo hi : Eo} : ev Γ (.slc a lo hi) s = (ev Γ a s).bind fun ra => M.bind (hold ra) fun ra => M.bind (evO Γ lo) fun l => M.bind (evO Γ hi) fun h => M.bind (peekM ra) fun x => ofO (opSlc x l h) := same_of rfl
theorem a_call {f : Str} {l : Es} : ev Γ (.call f l) s = (evH Γ l s).bind fun rs => callM Γ f rs := same_of rfl
def bltM (f : Blt) (rs : List Rv) : M Rv := fun s => match peeks s.ρ s.C rs with
  | some ds => match opBlt f ds with
    | some r => .ok r s
    | none => .bad
  | none => .bad
theorem bltM_ok {f : Blt} {rs : List Rv} {ds : List D} {r : Rv} (h1 : peeks s.ρ s.C rs = some ds) (h2 : opBlt f ds = some r) : bltM f rs s = .ok r s := by
  unfold bltM
  simp only [h1, h2]
theorem a_blt {f : Blt} {l : Es} : ev Γ (.blt f l) s = (evH Γ l s).bind fun rs => bltM f rs := same_of rfl
theorem a_nil : evs Γ .nil s = .ok [] s := same_of rfl
theorem a_cons {e : E} {r : Es} : evs Γ (.cons e r) s = (ev Γ e s).bind fun x => M.bind (frz x) fun d => M.bind (evs Γ r) fun ds => M.pure (d :: ds) := same_of rfl
theorem h_nil : evH Γ .nil s = .ok [] s := same_of rfl
theorem h_cons {e : E} {r : Es} : evH Γ (.cons e r) s = (ev Γ e s).bind fun x => M.bind (hold x) fun x => M.bind (evH Γ r) fun xs => M.pure (x :: xs) := same_of rfl
theorem o_no : evO Γ .no s = .ok none s := same_of rfl
def intO : D → M (Option Int)
  | .int i => M.pure (some i)
  | _ => M.bad
theorem intO_int {i : Int} : intO (.int i) s = .ok (some i) s := same_of rfl
theorem o_some {e : E} : evO Γ (.some e) s = (ev Γ e s).bind fun r => M.bind (peekM r) intO := by
  simp only [evO]
  unfold intO
  rfl
theorem t_nil : tvs Γ .nil s = .ok true s := same_of rfl
theorem t_cons {e : E} {r : Es} : tvs Γ (.cons e r) s = (ev Γ e s).bind fun v => M.bind (peekM v) fun x => M.bind (test x) fun k => iteM k (tvs Γ r) (M.pure false) := same_of rfl
theorem tv_at {e : E} : tv Γ e s = (ev Γ e s).bind fun r => M.bind (peekM r) test := same_of rfl
theorem i_seq {e : E} : evI Γ (.seq e) s = (ev Γ e s).bind fun r => M.bind (frz r) fun d => ofO (items d) := same_of rfl
def rngM : D → M (List D)
  | .int n => if small62 n then M.pure (rangeL 0 n.toNat) else M.bad
  | _ => M.bad
theorem rngM_int {n : Int} (h : small62 n = true) : rngM (.int n) s = .ok (rangeL 0 n.toNat) s := by
  unfold rngM
  simp only [h, if_true]
  rfl
theorem i_rng1 {e : E} : evI Γ (.rng1 e) s = (ev Γ e s).bind fun r => M.bind (peekM r) rngM := by
  simp only [evI]
  unfold rngM
  rfl
def rngM2 : D → D → M (List D)
  | .int lo, .int hi => if small62 lo && small62 hi then M.pure (rangeL lo (hi - lo).toNat) else M.bad
  | _, _ => M.bad
theorem rngM2_int {lo hi : Int} (h : small62 lo = true) (h' : small62 hi = true) : rngM2 (.int lo) (.int hi) s = .ok (rangeL lo (hi - lo).toNat) s := by
  unfold rngM2
  simp only [h, h', if_true, Bool.and_self]
  rfl
theorem i_rng2 {a b : E} : evI Γ (.rng2 a b) s = (ev Γ a s).bind fun r => M.bind (hold r) fun r => M.bind (ev Γ b) fun r2 => M.bind (peekM r) fun d => M.bind (peekM r2) fun d2 => rngM2 d d2 := by
  simp only [evI]
  unfold rngM2
  rfl
def enumM : D → M (List D)
  | .lst xs => M.pure (enumD 0 xs)
  | _ => M.bad
theorem enumM_lst {xs : List D} : enumM (.lst xs) s = .ok (enumD 0 xs) s := same_of rfl
theorem i_enum {e : E} : evI Γ (.enum e) s = (ev Γ e s).bind fun r => M.bind (frz r) enumM := by
  simp only [evI]
  unfold enumM
  rfl

/-! values -/
theorem p_v {d : D} : peekM (.v d) ⟨ρ, C⟩ = .ok (deref C d) ⟨ρ, C⟩ := same_of rfl
theorem p_n {o : Ob} {d : D} (h : o.toD = some d) : peekM (.n o) s = .ok d s := by
  show (match o.toD with | some d => Out.ok d s | none => .bad) = _
  rw [h]
def slotV (s : Sm) : Option D → Out D
  | some d => .ok d s
  | none => .bad
theorem slotV_some {d : D} : slotV s (some d) = .ok d s := same_of rfl
theorem p_s {i : Nat} : peekM (.s i) ⟨ρ, C⟩ = slotV ⟨ρ, C⟩ (peekS C ρ[i]?) := by
  unfold peekM slotV
  rfl
theorem peekS_val {d : D} : peekS C (some (.val d)) = some (deref C d) := same_of rfl
theorem peekS_own {xs : List D} : peekS C (some (.own (.lst xs))) = some (.lst xs) := same_of rfl
theorem peekS_dic {xs : List (Key × D)} : peekS C (some (.own (.dic xs))) = some (.dic xs) := same_of rfl
theorem d_int {i : Int} : deref C (.int i) = .int i := same_of rfl
theorem d_bl {i : Bool} : deref C (.bl i) = .bl i := same_of rfl
theorem d_str {i : Str} : deref C (.str i) = .str i := same_of rfl
theorem d_non : deref C .non = .non := same_of rfl
theorem d_lst {i : List D} : deref C (.lst i) = .lst i := same_of rfl
theorem d_tup {i : List D} : deref C (.tup i) = .tup i := same_of rfl
theorem d_ro {i : List D} : deref C (.ro i) = .ro i := same_of rfl
theorem d_dic {i : List (Key × D)} : deref C (.dic i) = .dic i := same_of rfl
theorem ho_v {d : D} : hold (.v d) s = .ok (.v d) s := same_of rfl
theorem ho_s {i : Nat} : hold (.s i) s = .ok (.s i) s := same_of rfl
theorem ho_l {xs : List D} : hold (.n (.lst xs)) s = .ok (.v (.lst xs)) s := same_of rfl
theorem fr_v {d : D} : frz (.v d) s = .ok d s := same_of rfl
theorem fr_l {xs : List D} : frz (.n (.lst xs)) s = .ok (.lst xs) s := same_of rfl
def frzV (i : Nat) (s : Sm) : Option Slot → Out D
  | some (.own (.lst xs)) => .ok (.lst xs) { s with ρ := s.ρ.set i (.val (.lst xs)) }
  | some (.own (.dic xs)) => .ok (.dic xs) { s with ρ := s.ρ.set i (.val (.dic xs)) }
  | some (.val d) => .ok d s
  | _ => .bad
theorem fr_s {i : Nat} : frz (.s i) ⟨ρ, C⟩ = frzV i ⟨ρ, C⟩ ρ[i]? := by
  unfold frz
  dsimp only
  cases ρ[i]? with
  | none => rfl
  | some x =>
    cases x with
    | no => rfl
    | val d => rfl
    | own o => cases o <;> rfl
theorem frzV_val {i : Nat} {d : D} : frzV i s (some (.val d)) = .ok d s := same_of rfl
theorem frzV_own {i : Nat} {xs : List D} : frzV i ⟨ρ, C⟩ (some (.own (.lst xs))) = .ok (.lst xs) ⟨ρ.set i (.val (.lst xs)), C⟩ := same_of rfl
theorem oo_some {α : Type} {a : α} : ofO (some a) s = .ok a s := same_of rfl
theorem te_bl {k : Bool} : test (.bl k) s = .ok k s := same_of rfl
theorem te_int {i : Int} : test (.int i) s = .ok (i != 0) s := same_of rfl
theorem te_non : test .non s = .ok false s := same_of rfl
theorem te_lst {xs : List D} : test (.lst xs) s = .ok (!xs.isEmpty) s := same_of rfl
theorem te_tup {xs : List D} : test (.tup xs) s = .ok (!xs.isEmpty) s := same_of rfl
theorem ps_nil : peeks ρ C [] = some [] := same_of rfl
theorem ps_v {d : D} {rs : List Rv} {ds : List D} (h : peeks ρ C rs = some ds) : peeks ρ C (.v d :: rs) = some (deref C d :: ds) := by
  show (match some (deref C d), peeks ρ C rs with | some d, some ds => some (d :: ds) | _, _ => none) = _
  rw [h]
def consO : Option D → Option (List D) → Option (List D)
  | some d, some ds => some (d :: ds)
  | _, _ => none
theorem consO_some {d : D} {ds : List D} : consO (some d) (some ds) = some (d :: ds) := same_of rfl
theorem ps_cons {r : Rv} {rs : List Rv} : peeks ρ C (r :: rs) = consO (peek ρ C r) (peeks ρ C rs) := by
  show (match peek ρ C r, peeks ρ C rs with | some d, some ds => some (d :: ds) | _, _ => none) = _
  unfold consO
  rfl
theorem pk_v {d : D} : peek ρ C (.v d) = some (deref C d) := same_of rfl
theorem pk_s {i : Nat} : peek ρ C (.s i) = peekS C ρ[i]? := same_of rfl
theorem ad_nil : argDs ρ [] = some [] := same_of rfl
theorem ad_cons {r : Rv} {rs : List Rv} : argDs ρ (r :: rs) = consO (argD ρ r) (argDs ρ rs) := by
  show (match argD ρ r, argDs ρ rs with | some d, some ds => some (d :: ds) | _, _ => none) = _
  unfold consO
  rfl
theorem ad_v {d : D} : argD ρ (.v d) = some d := same_of rfl
def argS : Option Slot → Option D
  | some (.own o) => o.toD
  | some (.val d) => some d
  | _ => none
theorem ad_s {i : Nat} : argD ρ (.s i) = argS ρ[i]? := by
  unfold argD argS
  rfl
theorem argS_val {d : D} : argS (some (.val d)) = some d := same_of rfl
theorem argS_own {xs : List D} : argS (some (.own (.lst xs))) = some (.lst xs) := same_of rfl

/-! statements -/
theorem cq_some {o : COp} {a b : D} {k : Bool} : cmpV o a b (some k) s = .ok k s := same_of rfl
theorem a_cell {e : E} : ev Γ (.cell e) s = (ev Γ e s).bind cellV := same_of rfl
theorem ce_v {d : D} : cellV (.v d) s = .ok (.v d) s := same_of rfl
theorem ce_o {o : Ob} : cellV (.n o) ⟨ρ, C⟩ = .ok (.v (.ref C.length)) ⟨ρ, C ++ [some o]⟩ := same_of rfl
theorem x_nil : exs Γ .nil s = .ok .nx s := same_of rfl
def nextM (m : M Fl) : Fl → M Fl
  | .nx => m
  | f => M.pure f
theorem nextM_nx {m : M Fl} : nextM m .nx = m := same_of rfl
theorem nextM_ret {m : M Fl} {r : Rv} : nextM m (.ret r) s = .ok (.ret r) s := same_of rfl
theorem nextM_brk {m : M Fl} : nextM m .brk s = .ok .brk s := same_of rfl
theorem nextM_ct {m : M Fl} : nextM m .ct s = .ok .ct s := same_of rfl
theorem x_cons {a : S} {r : Ss} : exs Γ (.cons a r) s = (ex Γ a s).bind (nextM (exs Γ r)) := by
  simp only [exs]
  unfold nextM
  rfl
theorem x_asg {t : Tg} {e : E} : ex Γ (.asg t e) s = (ev Γ e s).bind fun r => M.bind (asg t r) fun _ => M.pure .nx := same_of rfl
theorem x_cell {i : Nat} {e : E} : ex Γ (.cell i e) s = (ev Γ e s).bind fun r => M.bind (cellN i r) fun _ => M.pure .nx := same_of rfl
def parM (i j : Nat) : List D → M Fl
  | [x, y] => M.bind (setSlot i (.val x)) fun _ => M.bind (setSlot j (.val y)) fun _ => M.pure .nx
  | _ => M.bad
theorem parM_two {i j : Nat} {x y : D} (hi : i < ρ.length) (hj : j < ρ.length) : parM i j [x, y] ⟨ρ, C⟩ = .ok .nx ⟨(ρ.set i (.val x)).set j (.val y), C⟩ := by
  show (setSlot i (.val x) ⟨ρ, C⟩).bind _ = _
  unfold setSlot
  rw [if_pos hi]
  show (setSlot j (.val y) ⟨ρ.set i (.val x), C⟩).bind _ = _
  unfold setSlot
  rw [if_pos (by rw [List.length_set]; exact hj)]
  rfl
theorem x_par {i j : Nat} {l : Es} : ex Γ (.par i j l) s = (evs Γ l s).bind fun ds => parM i j ds := by
  simp only [ex]
  unfold parM
  rfl
theorem g_v {i : Nat} {d : D} (h : i < ρ.length) : asg (.nm i) (.v d) ⟨ρ, C⟩ = .ok () ⟨ρ.set i (.val d), C⟩ := by
  show setSlot i (.val d) ⟨ρ, C⟩ = _
  unfold setSlot
  rw [if_pos h]
theorem g_n {i : Nat} {o : Ob} (h : i < ρ.length) : asg (.nm i) (.n o) ⟨ρ, C⟩ = .ok () ⟨ρ.set i (.own o), C⟩ := by
  show setSlot i (.own o) ⟨ρ, C⟩ = _
  unfold setSlot
  rw [if_pos h]
theorem g_s {i j : Nat} : asg (.nm i) (.s j) s = (frz (.s j) s).bind fun d => asg (.nm i) (.v d) := same_of rfl
theorem g_tp {is : List Nat} {r : Rv} : asg (.tp is) r s = (frz r s).bind fun d => asgD (.tp is) d := same_of rfl
theorem gd_nm {i : Nat} {d : D} (h : i < ρ.length) : asgD (.nm i) d ⟨ρ, C⟩ = .ok () ⟨ρ.set i (.val d), C⟩ := by
  show setSlot i (.val d) ⟨ρ, C⟩ = _
  unfold setSlot
  rw [if_pos h]
theorem gd_2 {i j : Nat} {x y : D} (hi : i < ρ.length) (hj : j < ρ.length) : asgD (.tp [i, j]) (.tup [x, y]) ⟨ρ, C⟩ = .ok () ⟨(ρ.set i (.val x)).set j (.val y), C⟩ := by
  show (setSlot i (.val x) ⟨ρ, C⟩).bind _ = _
  unfold setSlot
  rw [if_pos hi]
  show (setSlot j (.val y) ⟨ρ.set i (.val x), C⟩).bind _ = _
  unfold setSlot
  rw [if_pos (by rw [List.length_set]; exact hj)]
  rfl
theorem gd_3 {i j k : Nat} {x y z : D} (hi : i < ρ.length) (hj : j < ρ.length) (hk : k < ρ.length) : asgD (.tp [i, j, k]) (.tup [x, y, z]) ⟨ρ, C⟩ = .ok () ⟨((ρ.set i (.val x)).set j (.val y)).set k (.val z), C⟩ := by
  show (setSlot i (.val x) ⟨ρ, C⟩).bind _ = _
  unfold setSlot
  rw [if_pos hi]
  show (setSlot j (.val y) ⟨ρ.set i (.val x), C⟩).bind _ = _
  unfold setSlot
  rw [if_pos (by rw [List.length_set]; exact hj)]
  show (setSlot k (.val z) ⟨(ρ.set i (.val x)).set j (.val y), C⟩).bind _ = _
  unfold setSlot
  rw [if_pos (by rw [List.length_set, List.length_set]; exact hk)]
  rfl
theorem x_expr {e : E} : ex Γ (.expr e) s = (ev Γ e s).bind fun _ => M.pure .nx := same_of rfl
theorem x_ret {e : E} : ex Γ (.ret e) s = (ev Γ e s).bind fun r => M.bind (retR r) fun r => M.pure (.ret r) := same_of rfl
theorem r_v {d : D} : retR (.v d) s = .ok (.v d) s := same_of rfl
theorem r_n {o : Ob} : retR (.n o) s = .ok (.n o) s := same_of rfl
def retV (i : Nat) (s : Sm) : Option Slot → Out Rv
  | some (.own o) => .ok (.n o) { s with ρ := s.ρ.set i .no }
  | some (.val d) => .ok (.v d) s
  | _ => .bad
theorem r_s {i : Nat} : retR (.s i) ⟨ρ, C⟩ = retV i ⟨ρ, C⟩ ρ[i]? := by
  unfold retR retV
  rfl
theorem retV_own {i : Nat} {o : Ob} : retV i ⟨ρ, C⟩ (some (.own o)) = .ok (.n o) ⟨ρ.set i .no, C⟩ := same_of rfl
theorem retV_val {i : Nat} {d : D} : retV i s (some (.val d)) = .ok (.v d) s := same_of rfl
theorem x_retN : ex Γ .retN s = .ok (.ret (.v .non)) s := same_of rfl
theorem x_ite {c : E} {a b : Ss} : ex Γ (.ite c a b) s = (tv Γ c s).bind fun k => iteM k (exs Γ a) (exs Γ b) := same_of rfl
theorem x_for {t : Tg} {it : It'} {b : Ss} : ex Γ (.for t it b) s = (evI Γ it s).bind fun ds => forL (fun d => M.bind (asgD t d) fun _ => exs Γ b) ds := same_of rfl
theorem x_while {c : E} {b : Ss} : ex Γ (.while c b) s = whileL (tv Γ c) (exs Γ b) Γ.fuel s := same_of rfl
theorem x_raise {c : Str} {es : Es} : ex Γ (.raise c es) s = (evs Γ es s).bind fun ds => raiseM Γ c ds := same_of rfl
theorem x_try {b : Ss} {c : Str} {as : Option Nat} {u : Su} : ex Γ (.try b c as u) s = tryM Γ (exs Γ b) c as u s := same_of rfl
theorem x_pass : ex Γ .pass s = .ok .nx s := same_of rfl
theorem x_brk : ex Γ .brk s = .ok .brk s := same_of rfl
theorem x_cont : ex Γ .cont s = .ok .ct s := same_of rfl
def putI (ra : Rv) (d : D) : D → M Fl
  | .int k => M.bind (putO ra (setL k d)) fun _ => M.pure .nx
  | _ => M.bad
theorem putI_int {ra : Rv} {d : D} {k : Int} : putI ra d (.int k) s = (putO ra (setL k d) s).bind fun _ => M.pure .nx := same_of rfl
theorem x_setI {a i e : E} : ex Γ (.setI a i e) s = (ev Γ e s).bind fun r => M.bind (frz r) fun d => M.bind (ev Γ a) fun ra => M.bind (ev Γ i) fun ri => M.bind (peekM ri) fun k => putI ra d k := by
  simp only [ex]
  unfold putI
  rfl
theorem x_augI {a i e : E} {o : BOp} : ex Γ (.augI a i o e) s = (ev Γ a s).bind fun ra => M.bind (noN ra) fun _ => M.bind (ev Γ i) fun ri => M.bind (peekM ri) fun k => M.bind (peekM ra) fun x => M.bind (ofO (opIdxL x k)) fun old => M.bind (ev Γ e) fun r => M.bind (peekM r) fun y => M.bind (ofO (opAug o old y)) fun z => putI ra z k := by
  simp only [ex]
  unfold putI
  rfl
theorem nn_v {d : D} : noN (.v d) s = .ok () s := same_of rfl
theorem nn_s {i : Nat} : noN (.s i) s = .ok () s := same_of rfl
def appM (ra : Rv) (m : M Rv) : D → M Fl
  | .lst _ => M.bind m fun r => M.bind (frz r) fun d => M.bind (putO ra (appL d)) fun _ => M.pure .nx
  | _ => M.bad
theorem appM_lst {ra : Rv} {m : M Rv} {xs : List D} : appM ra m (.lst xs) s = (m s).bind fun r => M.bind (frz r) fun d => M.bind (putO ra (appL d)) fun _ => M.pure .nx := same_of rfl
theorem x_app {a e : E} : ex Γ (.app a e) s = (ev Γ a s).bind fun ra => M.bind (peekM ra) fun x => appM ra (ev Γ e) x := by
  simp only [ex]
  unfold appM
  rfl
def augM (i : Nat) (o : BOp) (y : D) : M Fl := fun s => match s.ρ[i]? with
  | some (.val x) => (M.bind (ofO (opAug o x y)) fun z => M.bind (setSlot i (.val z)) (fun _ => M.pure .nx)) s
  | _ => .bad
theorem augM_ok {i : Nat} {o : BOp} {x y z : D} (h1 : ρ[i]? = some (.val x)) (h2 : opAug o x y = some z) : augM i o y ⟨ρ, C⟩ = .ok .nx ⟨ρ.set i (.val z), C⟩ := by
  unfold augM
  simp only [h1, h2]
  show (setSlot i (.val z) ⟨ρ, C⟩).bind _ = _
  unfold setSlot
  rw [if_pos (List.getElem?_eq_some_iff.mp h1).1]
  rfl
theorem x_aug {i : Nat} {o : BOp} {e : E} {x : D} (h : ρ[i]? = some (.val x)) : ex Γ (.aug i o e) ⟨ρ, C⟩ = (ev Γ e ⟨ρ, C⟩).bind fun r => M.bind (peekM r) fun y => augM i o y := by
  simp only [ex, h]
  unfold augM
  rfl
theorem pu_own {i : Nat} {g : Ob → Option Ob} {o o' : Ob} (h1 : ρ[i]? = some (.own o)) (h2 : g o = some o') : putO (.s i) g ⟨ρ, C⟩ = .ok () ⟨ρ.set i (.own o'), C⟩ := by
  unfold putO
  simp only [h1, h2]
theorem pu_ref {c : Nat} {g : Ob → Option Ob} {o o' : Ob} (h1 : C[c]? = some (some o)) (h2 : g o = some o') : putO (.v (.ref c)) g ⟨ρ, C⟩ = .ok () ⟨ρ, C.set c (some o')⟩ := by
  unfold putO
  simp only [h1, h2]
theorem dr_ref {c : Nat} {xs : List D} (h : C[c]? = some (some (.lst xs))) : deref C (.ref c) = .lst xs := by
  show derefO c C[c]? = _
  rw [h]
  rfl
theorem ce_n {i : Nat} {o : Ob} (h : i < ρ.length) : cellN i (.n o) ⟨ρ, C⟩ = .ok () ⟨ρ.set i (.val (.ref C.length)), C ++ [some o]⟩ := by
  unfold cellN
  dsimp only
  rw [if_pos h]
end

/-! operators -/
theorem op_addI {a b : Int} : opBin .add (.int a) (.int b) = some (.v (.int (a + b))) := same_of rfl
theorem op_subI {a b : Int} : opBin .sub (.int a) (.int b) = some (.v (.int (a - b))) := same_of rfl
theorem op_mulI {a b : Int} (h : mulOk a b = true) : opBin .mul (.int a) (.int b) = some (.v (.int (a * b))) := by
  show (if mulOk a b then some (Rv.v (.int (a * b))) else none) = _
  rw [if_pos h]
theorem op_divI {a b : Int} (h : fdivOk b = true) : opBin .fdiv (.int a) (.int b) = some (.v (.int (a / b))) := by
  show (if fdivOk b then some (Rv.v (.int (a / b))) else none) = _
  rw [if_pos h]
theorem op_modI {a b : Int} (h : 0 < b) : opBin .mod (.int a) (.int b) = some (.v (.int (a % b))) := by
  show (if decide (0 < b) then some (Rv.v (.int (a % b))) else none) = _
  rw [if_pos (decide_eq_true h)]
theorem op_powI {a b : Int} (h : powOk a b = true) : opBin .pow (.int a) (.int b) = some (.v (.int (a ^ b.toNat))) := by
  show (if powOk a b then some (Rv.v (.int (a ^ b.toNat))) else none) = _
  rw [if_pos h]
theorem cm_lt {a b : Int} : opCmp .lt (.int a) (.int b) = some (decide (a < b)) := same_of rfl
theorem cm_le {a b : Int} : opCmp .le (.int a) (.int b) = some (decide (a ≤ b)) := same_of rfl
theorem cm_gt {a b : Int} : opCmp .gt (.int a) (.int b) = some (decide (b < a)) := same_of rfl
theorem cm_ge {a b : Int} : opCmp .ge (.int a) (.int b) = some (decide (b ≤ a)) := same_of rfl
theorem cm_is {a : D} : opCmp .is a .non = some (isNonD a) := by cases a <;> rfl
theorem cm_isn {a : D} : opCmp .isn a .non = some (!isNonD a) := by cases a <;> rfl
theorem eqv_int {a b : Int} : PyData.eqv (.int a) (.int b) = decide (a = b) := by
  unfold PyData.eqv
  rfl
theorem cm_eqI {a b : Int} : opCmp .eq (.int a) (.int b) = some (decide (a = b)) := by
  show eqD (.int a) (.int b) = _
  unfold eqD
  simp only [D.toPy]
  rw [if_pos (by show min 0 0 ≤ 60; decide), eqv_int]
theorem cm_neI {a b : Int} : opCmp .ne (.int a) (.int b) = some (!decide (a = b)) := by
  show (opCmp .eq (.int a) (.int b)).map not = _
  rw [cm_eqI]
  rfl
theorem ix_l {xs : List D} {i : Int} : opIdx (.lst xs) (.int i) = atI xs i := same_of rfl
theorem ix_t {xs : List D} {i : Int} : opIdx (.tup xs) (.int i) = atI xs i := same_of rfl
theorem ix_r {xs : List D} {i : Int} : opIdx (.ro xs) (.int i) = atI xs i := same_of rfl
end IR

set_option Elab.async false
set_option linter.all false
set_option maxRecDepth 100000
/-! IrM2: what a run reaches. -/
namespace IR
open PySem L2
abbrev NoX : Exn → Sm → Prop := fun _ _ => False
theorem w_ok {α : Type} {a : α} {s : Sm} {Q : α → Sm → Prop} {X : Exn → Sm → Prop} : wpO (.ok a s) Q X = Q a s := same_of rfl
theorem w_bind {α β : Type} {o : Out α} {f : α → M β} {Q : β → Sm → Prop} {X : Exn → Sm → Prop} (R : α → Sm → Prop) (h : wpO o R NoX) (h2 : ∀ a s, R a s → wpO (f a s) Q X) : wpO (o.bind f) Q X := by
  cases o with
  | ok a s => exact h2 a s h
  | exc x s => exact h.elim
  | bad => exact h
theorem w_imp {α : Type} {o : Out α} {Q R : α → Sm → Prop} {X : Exn → Sm → Prop} (h : wpO o R NoX) (h2 : ∀ a s, R a s → Q a s) : wpO o Q X := h.imp h2 fun _ _ z => z.elim
/-- the outcome of a call -/
def OcW (o : Oc) (Q : Rv → List (Option Ob) → Prop) : Prop :=
  match o with
  | .ok r C => Q r C
  | _ => False
theorem run_w {Γ : Gam} {d : Def} {ds : List D} {C : List (Option Ob)} {Q : Rv → List (Option Ob) → Prop} (h1 : ds.length = d.ps) (h2 : d.ps ≤ d.n) {ρ : List Slot} (h3 : ds.map .val ++ List.replicate (d.n - d.ps) .no = ρ)
    (h : wpO (exs Γ d.body ⟨ρ, C⟩) (fun f s => match f with | .nx => Q (.v .non) s.C | .ret r => Q r s.C | _ => False) NoX) : OcW (runD Γ d ds C) Q := by
  unfold runD
  rw [if_pos ⟨h1, h2⟩, h3]
  cases e : exs Γ d.body ⟨ρ, C⟩ with
  | bad => rw [e] at h; exact h.elim
  | exc x s => rw [e] at h; exact h.elim
  | ok f s =>
    rw [e] at h
    cases f with
    | nx => exact h
    | ret r => exact h
    | brk => exact h.elim
    | ct => exact h.elim
theorem pu_of {Γ : Gam} {f : Str} {ds : List D} {r : Rv} (h : ∀ C, OcW (Γ.call f ds C) fun r' _ => r' = r) : Pu Γ f ds r := fun C => by
  have h := h C
  cases e : Γ.call f ds C with
  | ok r' C' =>
    rw [e] at h
    have h : r' = r := h
    subst h
    exact ⟨C', rfl⟩
  | exc x C' => rw [e] at h; exact h.elim
  | bad => rw [e] at h; exact h.elim
theorem pu_w {Γ : Gam} {f : Str} {ds : List D} {r : Rv} {C : List (Option Ob)} {Q : Rv → List (Option Ob) → Prop} (h : Pu Γ f ds r) (q : ∀ C', Q r C') : OcW (Γ.call f ds C) Q := by
  obtain ⟨C', e⟩ := h C
  rw [e]
  exact q C'
/-- a call that changes cells -/
theorem w_call {Γ : Gam} {f : Str} {rs : List Rv} {ds : List D} {s s1 : Sm} {g : Rv → M Fl} {Q : Fl → Sm → Prop} {X : Exn → Sm → Prop} (hp : Γ.isPure f = false) (ha : frzs rs s = .ok ds s1) (R : Rv → List (Option Ob) → Prop) (h : OcW (Γ.call f ds s1.C) R)
    (h2 : ∀ r C, R r C → wpO (g r { s1 with C := C }) Q X) : wpO ((callM Γ f rs s).bind g) Q X := by
  unfold callM
  rw [if_neg (by rw [hp]; exact Bool.false_ne_true)]
  show wpO (((frzs rs s).bind _).bind g) Q X
  rw [ha]
  show wpO (Out.bind (match Γ.call f ds s1.C with | .bad => .bad | .exc x C => .exc x { s1 with C := C } | .ok r C => .ok r { s1 with C := C }) g) Q X
  cases e : Γ.call f ds s1.C with
  | ok r C =>
    rw [e] at h
    exact h2 r C h
  | exc x C => rw [e] at h; exact h.elim
  | bad => rw [e] at h; exact h.elim
theorem w_for {turn : D → M Fl} {ds : List D} {s : Sm} {f : Fl → M Fl} {Q : Fl → Sm → Prop} {X : Exn → Sm → Prop} (I : Nat → Sm → Prop) (h0 : I 0 s)
    (step : ∀ (i : Nat) d s, ds[i]? = some d → I i s → wpO (turn d s) (fun fl s' => (fl = .nx ∨ fl = .ct) ∧ I (i + 1) s') NoX) (fin : ∀ s', I ds.length s' → wpO (f .nx s') Q X) : wpO ((forL turn ds s).bind f) Q X := by
  obtain ⟨s', e, h⟩ := forL_inv (turn := turn) (ds := ds) I h0 fun i d s hd hi => by
    have q := step i d s hd hi
    cases e : turn d s with
    | ok fl s' =>
      rw [e] at q
      exact ⟨fl, s', rfl, q⟩
    | exc x s' => rw [e] at q; exact q.elim
    | bad => rw [e] at q; exact q.elim
  rw [e]
  exact fin s' h
/-- a turn may hand back -/
theorem w_forR {turn : D → M Fl} {ds : List D} {s : Sm} {f : Fl → M Fl} {Q : Fl → Sm → Prop} {X : Exn → Sm → Prop} (I : Nat → Sm → Prop) (R : Rv → Sm → Prop) (h0 : I 0 s)
    (step : ∀ (i : Nat) d s, ds[i]? = some d → I i s → wpO (turn d s) (fun fl s' => (fl = .nx ∧ I (i + 1) s') ∨ ∃ r, fl = .ret r ∧ R r s') NoX) (fin : ∀ s', I ds.length s' → wpO (f .nx s') Q X) (ret : ∀ r s', R r s' → wpO (f (.ret r) s') Q X) : wpO ((forL turn ds s).bind f) Q X := by
  obtain ⟨fl, s', e, h⟩ := forL_ret (turn := turn) (ds := ds) I R h0 fun i d s hd hi => by
    have q := step i d s hd hi
    cases e : turn d s with
    | ok fl s' =>
      rw [e] at q
      exact ⟨fl, s', rfl, q⟩
    | exc x s' => rw [e] at q; exact q.elim
    | bad => rw [e] at q; exact q.elim
  rw [e]
  rcases h with ⟨rfl, h⟩ | ⟨r, rfl, h⟩
  · exact fin s' h
  · exact ret r s' h
/-- while, by a measure below the fuel; nothing is handed back -/
theorem w_while {c : M Bool} {b : M Fl} {n : Nat} {s : Sm} {f : Fl → M Fl} {Q : Fl → Sm → Prop} {X : Exn → Sm → Prop} (I : Nat → Sm → Prop) {m : Nat} (hm : m < n) (h0 : I m s)
    (step : ∀ m s, I m s → wpO (c s) (fun t s1 => if t = true then wpO (b s1) (fun fl s' => (fl = .nx ∨ fl = .ct) ∧ ∃ m', m' < m ∧ I m' s') NoX else wpO (f .nx s1) Q X) NoX) : wpO ((whileL c b n s).bind f) Q X := by
  induction n generalizing m s with
  | zero => omega
  | succ n ih =>
    have h := step m s h0
    show wpO (((c s).bind fun t => if t then M.bind b fun f => match f with
      | .nx => whileL c b n
      | .ct => whileL c b n
      | .brk => M.pure .nx
      | .ret r => M.pure (.ret r)
    else M.pure .nx).bind f) Q X
    cases e : c s with
    | bad => rw [e] at h; exact h.elim
    | exc x s1 => rw [e] at h; exact h.elim
    | ok t s1 =>
      rw [e] at h
      have h : if t = true then wpO (b s1) (fun fl s' => (fl = .nx ∨ fl = .ct) ∧ ∃ m', m' < m ∧ I m' s') NoX else wpO (f .nx s1) Q X := h
      cases t with
      | false => exact h
      | true =>
        rw [if_pos rfl] at h
        show wpO (((b s1).bind fun f => match f with
          | .nx => whileL c b n
          | .ct => whileL c b n
          | .brk => M.pure .nx
          | .ret r => M.pure (.ret r)).bind f) Q X
        cases e2 : b s1 with
        | bad => rw [e2] at h; exact h.elim
        | exc x s1 => rw [e2] at h; exact h.elim
        | ok fl s2 =>
          rw [e2] at h
          obtain ⟨hf, m', hm', hi⟩ := h
          rcases hf with rfl | rfl
          · exact ih (m := m') (by omega) hi
          · exact ih (m := m') (by omega) hi
theorem fdivOk_of {g : Int} (h : 0 < g) (h2 : g < 2 ^ 8000) : fdivOk g = true := by
  unfold fdivOk
  rw [Bool.and_eq_true, Bool.or_eq_true]
  refine ⟨decide_eq_true h, .inr (decide_eq_true ?_)⟩
  have hn : g.natAbs < 2 ^ 8000 := by
    have : (g.natAbs : Int) = g := Int.natAbs_of_nonneg (by omega)
    have h3 : ((g.natAbs : Nat) : Int) < ((2 ^ 8000 : Nat) : Int) := by
      rw [this]
      exact_mod_cast h2
    exact Int.ofNat_lt.mp h3
  have h0 : g.natAbs ≠ 0 := by omega
  exact Nat.lt_of_lt_of_le ((Nat.log2_lt h0).mpr hn) (by decide)
theorem mulOk_l {a b : Int} (h1 : -(2 ^ 64) < a) (h2 : a < 2 ^ 64) : mulOk a b = true := by
  unfold mulOk
  rw [Bool.or_eq_true]
  exact .inl (decide_eq_true (.inl ⟨h1, h2⟩))
theorem mulOk_r {a b : Int} (h1 : -(2 ^ 64) < b) (h2 : b < 2 ^ 64) : mulOk a b = true := by
  unfold mulOk
  rw [Bool.or_eq_true]
  exact .inl (decide_eq_true (.inr ⟨h1, h2⟩))
theorem small_of {n : Int} (h0 : 0 ≤ n) (h : n < 2 ^ 62) : small62 n = true := by
  unfold small62
  exact decide_eq_true ⟨by omega, h⟩
theorem small3 {n : Nat} {r : Rv} {s : Sm} (h : n ≤ 1000) : sizeM n r s = .ok r s := sizeM_ok (Nat.le_trans h (by decide))
end IR

set_option Elab.async false
set_option linter.all false
set_option maxRecDepth 100000
/-! IrL: what the laws' own helpers do: the feed, a draw, the same. -/
namespace IR
open PySem L2
def feedD : Def := ⟨1, 1, (.cons (.ret (.lst (.cons (.blt .list (.cons (.loc 0) .nil)) (.cons (.k (.int 0)) (.cons (.k (.int 0)) (.cons (.k (.int 1)) .nil)))))) .nil)⟩
def drawD : Def := ⟨5, 2, (.cons (.ite (.and (.cmp .eq (.idx (.loc 0) (.k (.int 2))) (.k (.int 0))) (.cmp .lt (.idx (.loc 0) (.k (.int 1))) (.blt .len (.cons (.idx (.loc 0) (.k (.int 0))) .nil)))) (.cons (.asg (.nm 2) (.blt .abs (.cons (.blt .int (.cons (.idx (.idx (.loc 0) (.k (.int 0))) (.idx (.loc 0) (.k (.int 1)))) .nil)) .nil))) (.cons (.augI (.loc 0) (.k (.int 1)) .add (.k (.int 1))) (.cons (.ite (.cmp .ge (.loc 2) (.bin .pow (.k (.int 10)) (.k (.int 18)))) (.cons (.setI (.loc 0) (.k (.int 2)) (.loc 2)) .nil) (.cons (.setI (.loc 0) (.k (.int 3)) (.bin .mod (.blt .int (.cons (.bin .add (.bin .add (.bin .mul (.idx (.loc 0) (.k (.int 3))) (.k (.int 48271))) (.bin .mul (.loc 2) (.k (.int 69621)))) (.idx (.loc 0) (.k (.int 1)))) .nil)) (.k (.int 2147483647)))) .nil)) .nil))) .nil) (.cons (.ite (.cmp .gt (.idx (.loc 0) (.k (.int 2))) (.k (.int 0))) (.cons (.asg (.nm 3) (.bin .mod (.blt .int (.cons (.idx (.loc 0) (.k (.int 2))) .nil)) (.loc 1))) (.cons (.setI (.loc 0) (.k (.int 2)) (.bin .fdiv (.idx (.loc 0) (.k (.int 2))) (.loc 1))) (.cons (.ret (.loc 3)) .nil))) .nil) (.cons (.setI (.loc 0) (.k (.int 3)) (.bin .mod (.blt .int (.cons (.bin .add (.bin .mul (.idx (.loc 0) (.k (.int 3))) (.k (.int 16807))) (.k (.int 12345))) .nil)) (.k (.int 2147483647)))) (.cons (.asg (.nm 4) (.bin .mod (.blt .int (.cons (.bin .add (.bin .mul (.idx (.loc 0) (.k (.int 3))) (.idx (.loc 0) (.k (.int 3)))) (.idx (.loc 0) (.k (.int 3)))) .nil)) (.k (.int 2147483629)))) (.cons (.ret (.bin .mod (.bin .fdiv (.loc 4) (.k (.int 11))) (.loc 1))) .nil)))))⟩
/-- the feed as it stands -/
def Feed (o : Ob) : Prop := ∃ (ns : List Int) (p x y : Int), o = .lst [.lst (ns.map .int), .int p, .int x, .int y] ∧ 0 ≤ p ∧ 0 ≤ y ∧ y < 2147483647
section
variable {Γ : Gam} {ρ : List Slot} {C : List (Option Ob)}
theorem dr0 {xs : List D} : deref (some (.lst xs) :: C) (.ref 0) = .lst xs := same_of rfl
theorem at4_0 {a b c d : D} : atI [a, b, c, d] 0 = some a := same_of rfl
theorem at4_1 {a b c d : D} : atI [a, b, c, d] 1 = some b := same_of rfl
theorem at4_2 {a b c d : D} : atI [a, b, c, d] 2 = some c := same_of rfl
theorem at4_3 {a b c d : D} : atI [a, b, c, d] 3 = some d := same_of rfl
theorem ixL {xs : List D} {i : Int} : opIdxL (.lst xs) (.int i) = atI xs i := same_of rfl
theorem put4_1 {a b c d x : D} : putO (.v (.ref 0)) (setL 1 x) ⟨ρ, some (.lst [a, b, c, d]) :: C⟩ = .ok () ⟨ρ, some (.lst [a, x, c, d]) :: C⟩ := same_of rfl
theorem put4_2 {a b c d x : D} : putO (.v (.ref 0)) (setL 2 x) ⟨ρ, some (.lst [a, b, c, d]) :: C⟩ = .ok () ⟨ρ, some (.lst [a, b, x, d]) :: C⟩ := same_of rfl
theorem put4_3 {a b c d x : D} : putO (.v (.ref 0)) (setL 3 x) ⟨ρ, some (.lst [a, b, c, d]) :: C⟩ = .ok () ⟨ρ, some (.lst [a, b, c, x]) :: C⟩ := same_of rfl
theorem bl_int {s : Sm} {i : Int} : bltM .int [.v (.int i)] s = .ok (.v (.int i)) s := bltM_ok rfl rfl
theorem bl_abs {s : Sm} {i : Int} : bltM .abs [.v (.int i)] s = .ok (.v (.int (if i < 0 then -i else i))) s := bltM_ok rfl rfl
theorem bl_len {s : Sm} {xs : List D} : bltM .len [.v (.lst xs)] s = .ok (.v (.int xs.length)) s := bltM_ok rfl rfl
theorem bl_lenT {s : Sm} {xs : List D} : bltM .len [.v (.tup xs)] s = .ok (.v (.int xs.length)) s := bltM_ok rfl rfl
theorem au_addI {a b : Int} : opAug .add (.int a) (.int b) = some (.int (a + b)) := same_of rfl
theorem pow1018 : opBin .pow (.int 10) (.int 18) = some (.v (.int 1000000000000000000)) := by
  show (if powOk 10 18 then some (Rv.v (.int ((10 : Int) ^ (18 : Int).toNat))) else none) = _
  rfl
theorem aug1 {ra : Rv} {z : D} {s : Sm} {k : Int} : putI ra z (.int k) s = (putO ra (setL k z) s).bind fun _ => M.pure .nx := same_of rfl
theorem atI_ints {ns : List Int} {p : Int} (h0 : 0 ≤ p) (h : p < ns.length) : ∃ n, atI (ns.map D.int) p = some (.int n) := by
  have h1 : p.toNat < ns.length := by omega
  refine ⟨ns[p.toNat], ?_⟩
  unfold atI ixN
  rw [if_pos h0, List.length_map, if_pos (by omega)]
  show (ns.map D.int)[p.toNat]? = _
  rw [List.getElem?_map, List.getElem?_eq_getElem h1]
  rfl
theorem draw_ok {o : Ob} {m : Int} (hm : 0 < m) (hm2 : m < 1073741824) (hF : Feed o) : OcW (runD Γ drawD [.ref 0, .int m] (some o :: C)) fun r C' => ∃ t o', r = .v (.int t) ∧ 0 ≤ t ∧ t < m ∧ C' = some o' :: C ∧ Feed o' := by
  obtain ⟨ns, p, x, y, rfl, hp, hy0, hy1⟩ := hF
  have hmod : ∀ a : Int, 0 ≤ a % 2147483647 ∧ a % 2147483647 < 2147483647 := fun a => ⟨Int.emod_nonneg _ (by decide), Int.emod_lt_of_pos _ (by decide)⟩
  have hmm : ∀ a : Int, 0 ≤ a % m ∧ a % m < m := fun a => ⟨Int.emod_nonneg _ (by omega), Int.emod_lt_of_pos _ hm⟩
  have hfm : fdivOk m = true := by
    unfold fdivOk
    rw [Bool.and_eq_true, Bool.or_eq_true]
    exact ⟨decide_eq_true hm, .inl (decide_eq_true hm2)⟩
  have h11 : fdivOk 11 = true := by decide
  have mA : ∀ a : Int, mulOk a 48271 = true := fun a => mulOk_r (by decide) (by decide)
  have mB : ∀ a : Int, mulOk a 69621 = true := fun a => mulOk_r (by decide) (by decide)
  have mC : ∀ a : Int, mulOk a 16807 = true := fun a => mulOk_r (by decide) (by decide)
  have mD : ∀ a : Int, opBin .mod (.int a) (.int 2147483647) = some (.v (.int (a % 2147483647))) := fun a => op_modI (by decide)
  have mE : ∀ a : Int, opBin .mod (.int a) (.int 2147483629) = some (.v (.int (a % 2147483629))) := fun a => op_modI (by decide)
  have mM : ∀ a : Int, opBin .mod (.int a) (.int m) = some (.v (.int (a % m))) := fun a => op_modI hm
  have dM : ∀ a : Int, opBin .fdiv (.int a) (.int m) = some (.v (.int (a / m))) := fun a => op_divI hfm
  have d11 : ∀ a : Int, opBin .fdiv (.int a) (.int 11) = some (.v (.int (a / 11))) := fun a => op_divI h11
  -- the second half
  have tail : ∀ (p x y : Int) (a b : Slot), 0 ≤ p → 0 ≤ y → y < 2147483647 → wpO (exs Γ (.cons (.ite (.cmp .gt (.idx (.loc 0) (.k (.int 2))) (.k (.int 0))) (.cons (.asg (.nm 3) (.bin .mod (.blt .int (.cons (.idx (.loc 0) (.k (.int 2))) .nil)) (.loc 1))) (.cons (.setI (.loc 0) (.k (.int 2)) (.bin .fdiv (.idx (.loc 0) (.k (.int 2))) (.loc 1))) (.cons (.ret (.loc 3)) .nil))) .nil) (.cons (.setI (.loc 0) (.k (.int 3)) (.bin .mod (.blt .int (.cons (.bin .add (.bin .mul (.idx (.loc 0) (.k (.int 3))) (.k (.int 16807))) (.k (.int 12345))) .nil)) (.k (.int 2147483647)))) (.cons (.asg (.nm 4) (.bin .mod (.blt .int (.cons (.bin .add (.bin .mul (.idx (.loc 0) (.k (.int 3))) (.idx (.loc 0) (.k (.int 3)))) (.idx (.loc 0) (.k (.int 3)))) .nil)) (.k (.int 2147483629)))) (.cons (.ret (.bin .mod (.bin .fdiv (.loc 4) (.k (.int 11))) (.loc 1))) .nil))))
      ⟨[.val (.ref 0), .val (.int m), a, .no, .no], some (.lst [.lst (ns.map .int), .int p, .int x, .int y]) :: C⟩) (fun f s => match f with | .nx => False | .ret r => ∃ t o', r = .v (.int t) ∧ 0 ≤ t ∧ t < m ∧ s.C = some o' :: C ∧ Feed o' | _ => False) NoX := by
    intro p x y a b hp hy0 hy1
    simp only [bind_at, out_ok, pure_at, a_loc, a_k, a_glob, a_bin, a_neg, a_cmp, cq_some, a_cell, ce_v, ce_o, a_chain, a_and, a_or, a_not, a_ife, a_lst, a_tup, a_idx, a_slc, a_call, a_blt, a_nil, a_cons, h_nil, h_cons, o_no, o_some, t_nil, t_cons, tv_at, i_seq, i_rng1, i_rng2, i_enum, p_v, p_s, peekS_val, peekS_own, d_int, d_bl, d_str, d_non, d_lst, d_tup, d_ro, ho_v, ho_s, ho_l, fr_v, fr_l, fr_s, frzV_val, frzV_own, oo_some, te_bl, te_int, te_non, te_lst, te_tup, ps_nil, ps_cons, pk_v, pk_s, consO_some, ad_nil, ad_cons, ad_v, ad_s, argS_val, argS_own, locV_val, locV_own, globV_some, negV_int, intO_int, slotV_some, x_nil, nextM_nx, nextM_ret, nextM_brk, nextM_ct, x_cons, x_asg, x_cell, x_par, g_v, g_n, g_s, g_tp, gd_nm, gd_2, gd_3, parM_two, x_expr, x_ret, r_v, r_n, r_s, retV_own, retV_val, x_retN, x_ite, x_raise, x_try, x_pass, x_brk, x_cont, x_setI, putI_int, x_augI, nn_v, nn_s, x_app, appM_lst, iteM_t, iteM_f, iteM_at, op_addI, op_subI, cm_lt, cm_le, cm_gt, cm_ge, cm_is, cm_isn, cm_eqI, cm_neI, ix_l, ix_t, ix_r, List.getElem?_cons_succ, List.getElem?_cons_zero, List.set_cons_succ, List.set_cons_zero, List.length_cons, List.length_nil, Nat.reduceAdd, Nat.reduceLT, Nat.reduceLeDiff, dr0, at4_0, at4_1, at4_2, at4_3, bl_int, put4_2, put4_3, dM]
    by_cases hx : 0 < x
    · simp only [decide_eq_true hx, if_true, bind_at, out_ok, pure_at, a_loc, a_k, a_glob, a_bin, a_neg, a_cmp, cq_some, a_cell, ce_v, ce_o, a_chain, a_and, a_or, a_not, a_ife, a_lst, a_tup, a_idx, a_slc, a_call, a_blt, a_nil, a_cons, h_nil, h_cons, o_no, o_some, t_nil, t_cons, tv_at, i_seq, i_rng1, i_rng2, i_enum, p_v, p_s, peekS_val, peekS_own, d_int, d_bl, d_str, d_non, d_lst, d_tup, d_ro, ho_v, ho_s, ho_l, fr_v, fr_l, fr_s, frzV_val, frzV_own, oo_some, te_bl, te_int, te_non, te_lst, te_tup, ps_nil, ps_cons, pk_v, pk_s, consO_some, ad_nil, ad_cons, ad_v, ad_s, argS_val, argS_own, locV_val, locV_own, globV_some, negV_int, intO_int, slotV_some, x_nil, nextM_nx, nextM_ret, nextM_brk, nextM_ct, x_cons, x_asg, x_cell, x_par, g_v, g_n, g_s, g_tp, gd_nm, gd_2, gd_3, parM_two, x_expr, x_ret, r_v, r_n, r_s, retV_own, retV_val, x_retN, x_ite, x_raise, x_try, x_pass, x_brk, x_cont, x_setI, putI_int, x_augI, nn_v, nn_s, x_app, appM_lst, iteM_t, iteM_f, iteM_at, op_addI, op_subI, cm_lt, cm_le, cm_gt, cm_ge, cm_is, cm_isn, cm_eqI, cm_neI, ix_l, ix_t, ix_r, List.getElem?_cons_succ, List.getElem?_cons_zero, List.set_cons_succ, List.set_cons_zero, List.length_cons, List.length_nil, Nat.reduceAdd, Nat.reduceLT, Nat.reduceLeDiff, dr0, at4_0, at4_1, at4_2, at4_3, bl_int, mM, dM, put4_2, w_ok]
      exact ⟨_, _, rfl, (hmm _).1, (hmm _).2, rfl, ns, _, _, _, rfl, hp, hy0, hy1⟩
    · simp only [decide_eq_false hx, Bool.false_eq_true, if_false, bind_at, out_ok, pure_at, a_loc, a_k, a_glob, a_bin, a_neg, a_cmp, cq_some, a_cell, ce_v, ce_o, a_chain, a_and, a_or, a_not, a_ife, a_lst, a_tup, a_idx, a_slc, a_call, a_blt, a_nil, a_cons, h_nil, h_cons, o_no, o_some, t_nil, t_cons, tv_at, i_seq, i_rng1, i_rng2, i_enum, p_v, p_s, peekS_val, peekS_own, d_int, d_bl, d_str, d_non, d_lst, d_tup, d_ro, ho_v, ho_s, ho_l, fr_v, fr_l, fr_s, frzV_val, frzV_own, oo_some, te_bl, te_int, te_non, te_lst, te_tup, ps_nil, ps_cons, pk_v, pk_s, consO_some, ad_nil, ad_cons, ad_v, ad_s, argS_val, argS_own, locV_val, locV_own, globV_some, negV_int, intO_int, slotV_some, x_nil, nextM_nx, nextM_ret, nextM_brk, nextM_ct, x_cons, x_asg, x_cell, x_par, g_v, g_n, g_s, g_tp, gd_nm, gd_2, gd_3, parM_two, x_expr, x_ret, r_v, r_n, r_s, retV_own, retV_val, x_retN, x_ite, x_raise, x_try, x_pass, x_brk, x_cont, x_setI, putI_int, x_augI, nn_v, nn_s, x_app, appM_lst, iteM_t, iteM_f, iteM_at, op_addI, op_subI, cm_lt, cm_le, cm_gt, cm_ge, cm_is, cm_isn, cm_eqI, cm_neI, ix_l, ix_t, ix_r, List.getElem?_cons_succ, List.getElem?_cons_zero, List.set_cons_succ, List.set_cons_zero, List.length_cons, List.length_nil, Nat.reduceAdd, Nat.reduceLT, Nat.reduceLeDiff, dr0, at4_0, at4_1, at4_2, at4_3, bl_int, op_mulI (mC _), mD, put4_3]
      have hyy := hmod (y * 16807 + 12345)
      simp only [bind_at, out_ok, pure_at, a_loc, a_k, a_glob, a_bin, a_neg, a_cmp, cq_some, a_cell, ce_v, ce_o, a_chain, a_and, a_or, a_not, a_ife, a_lst, a_tup, a_idx, a_slc, a_call, a_blt, a_nil, a_cons, h_nil, h_cons, o_no, o_some, t_nil, t_cons, tv_at, i_seq, i_rng1, i_rng2, i_enum, p_v, p_s, peekS_val, peekS_own, d_int, d_bl, d_str, d_non, d_lst, d_tup, d_ro, ho_v, ho_s, ho_l, fr_v, fr_l, fr_s, frzV_val, frzV_own, oo_some, te_bl, te_int, te_non, te_lst, te_tup, ps_nil, ps_cons, pk_v, pk_s, consO_some, ad_nil, ad_cons, ad_v, ad_s, argS_val, argS_own, locV_val, locV_own, globV_some, negV_int, intO_int, slotV_some, x_nil, nextM_nx, nextM_ret, nextM_brk, nextM_ct, x_cons, x_asg, x_cell, x_par, g_v, g_n, g_s, g_tp, gd_nm, gd_2, gd_3, parM_two, x_expr, x_ret, r_v, r_n, r_s, retV_own, retV_val, x_retN, x_ite, x_raise, x_try, x_pass, x_brk, x_cont, x_setI, putI_int, x_augI, nn_v, nn_s, x_app, appM_lst, iteM_t, iteM_f, iteM_at, op_addI, op_subI, cm_lt, cm_le, cm_gt, cm_ge, cm_is, cm_isn, cm_eqI, cm_neI, ix_l, ix_t, ix_r, List.getElem?_cons_succ, List.getElem?_cons_zero, List.set_cons_succ, List.set_cons_zero, List.length_cons, List.length_nil, Nat.reduceAdd, Nat.reduceLT, Nat.reduceLeDiff, dr0, at4_0, at4_1, at4_2, at4_3, bl_int, op_mulI (mulOk_l (a := (y * 16807 + 12345) % 2147483647) (b := (y * 16807 + 12345) % 2147483647) (by omega) (by omega)), mE, d11, mM, w_ok]
      exact ⟨_, _, rfl, (hmm _).1, (hmm _).2, rfl, ns, _, _, _, rfl, hp, hyy.1, hyy.2⟩
  refine run_w rfl (by decide) (ρ := [.val (.ref 0), .val (.int m), .no, .no, .no]) rfl ?_
  have weak : ∀ {o : Out Fl}, wpO o (fun f s => match f with | .nx => False | .ret r => ∃ t o', r = .v (.int t) ∧ 0 ≤ t ∧ t < m ∧ s.C = some o' :: C ∧ Feed o' | _ => False) NoX → wpO o (fun f s => match f with | .nx => ∃ t o', Rv.v D.non = .v (.int t) ∧ 0 ≤ t ∧ t < m ∧ s.C = some o' :: C ∧ Feed o' | .ret r => ∃ t o', r = .v (.int t) ∧ 0 ≤ t ∧ t < m ∧ s.C = some o' :: C ∧ Feed o' | _ => False) NoX := fun h => h.imp (fun f s h => by cases f <;> first | exact h | exact h.elim) fun _ _ z => z
  refine weak ?_
  unfold drawD
  rw [x_cons]
  refine w_bind (fun f s => f = .nx ∧ ∃ p x y a, s = ⟨[.val (.ref 0), .val (.int m), a, .no, .no], some (.lst [.lst (ns.map .int), .int p, .int x, .int y]) :: C⟩ ∧ 0 ≤ p ∧ 0 ≤ y ∧ y < 2147483647) ?_ ?_
  rotate_left
  · rintro f s ⟨rfl, p, x, y, a, rfl, h1, h2, h3⟩
    exact tail p x y a .no h1 h2 h3
  simp only [bind_at, out_ok, pure_at, a_loc, a_k, a_glob, a_bin, a_neg, a_cmp, cq_some, a_cell, ce_v, ce_o, a_chain, a_and, a_or, a_not, a_ife, a_lst, a_tup, a_idx, a_slc, a_call, a_blt, a_nil, a_cons, h_nil, h_cons, o_no, o_some, t_nil, t_cons, tv_at, i_seq, i_rng1, i_rng2, i_enum, p_v, p_s, peekS_val, peekS_own, d_int, d_bl, d_str, d_non, d_lst, d_tup, d_ro, ho_v, ho_s, ho_l, fr_v, fr_l, fr_s, frzV_val, frzV_own, oo_some, te_bl, te_int, te_non, te_lst, te_tup, ps_nil, ps_cons, pk_v, pk_s, consO_some, ad_nil, ad_cons, ad_v, ad_s, argS_val, argS_own, locV_val, locV_own, globV_some, negV_int, intO_int, slotV_some, x_nil, nextM_nx, nextM_ret, nextM_brk, nextM_ct, x_cons, x_asg, x_cell, x_par, g_v, g_n, g_s, g_tp, gd_nm, gd_2, gd_3, parM_two, x_expr, x_ret, r_v, r_n, r_s, retV_own, retV_val, x_retN, x_ite, x_raise, x_try, x_pass, x_brk, x_cont, x_setI, putI_int, x_augI, nn_v, nn_s, x_app, appM_lst, iteM_t, iteM_f, iteM_at, op_addI, op_subI, cm_lt, cm_le, cm_gt, cm_ge, cm_is, cm_isn, cm_eqI, cm_neI, ix_l, ix_t, ix_r, List.getElem?_cons_succ, List.getElem?_cons_zero, List.set_cons_succ, List.set_cons_zero, List.length_cons, List.length_nil, Nat.reduceAdd, Nat.reduceLT, Nat.reduceLeDiff, dr0, at4_0, at4_1, at4_2, at4_3, bl_len]
  by_cases hx : x = 0
  · simp only [decide_eq_true hx, if_true, bind_at, out_ok, pure_at, a_loc, a_k, a_glob, a_bin, a_neg, a_cmp, cq_some, a_cell, ce_v, ce_o, a_chain, a_and, a_or, a_not, a_ife, a_lst, a_tup, a_idx, a_slc, a_call, a_blt, a_nil, a_cons, h_nil, h_cons, o_no, o_some, t_nil, t_cons, tv_at, i_seq, i_rng1, i_rng2, i_enum, p_v, p_s, peekS_val, peekS_own, d_int, d_bl, d_str, d_non, d_lst, d_tup, d_ro, ho_v, ho_s, ho_l, fr_v, fr_l, fr_s, frzV_val, frzV_own, oo_some, te_bl, te_int, te_non, te_lst, te_tup, ps_nil, ps_cons, pk_v, pk_s, consO_some, ad_nil, ad_cons, ad_v, ad_s, argS_val, argS_own, locV_val, locV_own, globV_some, negV_int, intO_int, slotV_some, x_nil, nextM_nx, nextM_ret, nextM_brk, nextM_ct, x_cons, x_asg, x_cell, x_par, g_v, g_n, g_s, g_tp, gd_nm, gd_2, gd_3, parM_two, x_expr, x_ret, r_v, r_n, r_s, retV_own, retV_val, x_retN, x_ite, x_raise, x_try, x_pass, x_brk, x_cont, x_setI, putI_int, x_augI, nn_v, nn_s, x_app, appM_lst, iteM_t, iteM_f, iteM_at, op_addI, op_subI, cm_lt, cm_le, cm_gt, cm_ge, cm_is, cm_isn, cm_eqI, cm_neI, ix_l, ix_t, ix_r, List.getElem?_cons_succ, List.getElem?_cons_zero, List.set_cons_succ, List.set_cons_zero, List.length_cons, List.length_nil, Nat.reduceAdd, Nat.reduceLT, Nat.reduceLeDiff, dr0, at4_0, at4_1, at4_2, at4_3, bl_len, List.length_map]
    by_cases hl : p < (ns.length : Int)
    · obtain ⟨n, hn⟩ := atI_ints (ns := ns) hp hl
      simp only [decide_eq_true hl, if_true, bind_at, out_ok, pure_at, a_loc, a_k, a_glob, a_bin, a_neg, a_cmp, cq_some, a_cell, ce_v, ce_o, a_chain, a_and, a_or, a_not, a_ife, a_lst, a_tup, a_idx, a_slc, a_call, a_blt, a_nil, a_cons, h_nil, h_cons, o_no, o_some, t_nil, t_cons, tv_at, i_seq, i_rng1, i_rng2, i_enum, p_v, p_s, peekS_val, peekS_own, d_int, d_bl, d_str, d_non, d_lst, d_tup, d_ro, ho_v, ho_s, ho_l, fr_v, fr_l, fr_s, frzV_val, frzV_own, oo_some, te_bl, te_int, te_non, te_lst, te_tup, ps_nil, ps_cons, pk_v, pk_s, consO_some, ad_nil, ad_cons, ad_v, ad_s, argS_val, argS_own, locV_val, locV_own, globV_some, negV_int, intO_int, slotV_some, x_nil, nextM_nx, nextM_ret, nextM_brk, nextM_ct, x_cons, x_asg, x_cell, x_par, g_v, g_n, g_s, g_tp, gd_nm, gd_2, gd_3, parM_two, x_expr, x_ret, r_v, r_n, r_s, retV_own, retV_val, x_retN, x_ite, x_raise, x_try, x_pass, x_brk, x_cont, x_setI, putI_int, x_augI, nn_v, nn_s, x_app, appM_lst, iteM_t, iteM_f, iteM_at, op_addI, op_subI, cm_lt, cm_le, cm_gt, cm_ge, cm_is, cm_isn, cm_eqI, cm_neI, ix_l, ix_t, ix_r, List.getElem?_cons_succ, List.getElem?_cons_zero, List.set_cons_succ, List.set_cons_zero, List.length_cons, List.length_nil, Nat.reduceAdd, Nat.reduceLT, Nat.reduceLeDiff, dr0, at4_0, at4_1, at4_2, at4_3, bl_int, bl_abs, hn, ixL, au_addI, aug1, put4_1, pow1018]
      generalize (if n < 0 then -n else n) = c
      by_cases hc : 1000000000000000000 ≤ c
      · simp only [decide_eq_true hc, if_true, bind_at, out_ok, pure_at, a_loc, a_k, a_glob, a_bin, a_neg, a_cmp, cq_some, a_cell, ce_v, ce_o, a_chain, a_and, a_or, a_not, a_ife, a_lst, a_tup, a_idx, a_slc, a_call, a_blt, a_nil, a_cons, h_nil, h_cons, o_no, o_some, t_nil, t_cons, tv_at, i_seq, i_rng1, i_rng2, i_enum, p_v, p_s, peekS_val, peekS_own, d_int, d_bl, d_str, d_non, d_lst, d_tup, d_ro, ho_v, ho_s, ho_l, fr_v, fr_l, fr_s, frzV_val, frzV_own, oo_some, te_bl, te_int, te_non, te_lst, te_tup, ps_nil, ps_cons, pk_v, pk_s, consO_some, ad_nil, ad_cons, ad_v, ad_s, argS_val, argS_own, locV_val, locV_own, globV_some, negV_int, intO_int, slotV_some, x_nil, nextM_nx, nextM_ret, nextM_brk, nextM_ct, x_cons, x_asg, x_cell, x_par, g_v, g_n, g_s, g_tp, gd_nm, gd_2, gd_3, parM_two, x_expr, x_ret, r_v, r_n, r_s, retV_own, retV_val, x_retN, x_ite, x_raise, x_try, x_pass, x_brk, x_cont, x_setI, putI_int, x_augI, nn_v, nn_s, x_app, appM_lst, iteM_t, iteM_f, iteM_at, op_addI, op_subI, cm_lt, cm_le, cm_gt, cm_ge, cm_is, cm_isn, cm_eqI, cm_neI, ix_l, ix_t, ix_r, List.getElem?_cons_succ, List.getElem?_cons_zero, List.set_cons_succ, List.set_cons_zero, List.length_cons, List.length_nil, Nat.reduceAdd, Nat.reduceLT, Nat.reduceLeDiff, dr0, at4_0, at4_1, at4_2, at4_3, put4_2, w_ok]
        exact ⟨trivial, _, _, _, _, rfl, by omega, hy0, hy1⟩
      · simp only [decide_eq_false hc, Bool.false_eq_true, if_false, bind_at, out_ok, pure_at, a_loc, a_k, a_glob, a_bin, a_neg, a_cmp, cq_some, a_cell, ce_v, ce_o, a_chain, a_and, a_or, a_not, a_ife, a_lst, a_tup, a_idx, a_slc, a_call, a_blt, a_nil, a_cons, h_nil, h_cons, o_no, o_some, t_nil, t_cons, tv_at, i_seq, i_rng1, i_rng2, i_enum, p_v, p_s, peekS_val, peekS_own, d_int, d_bl, d_str, d_non, d_lst, d_tup, d_ro, ho_v, ho_s, ho_l, fr_v, fr_l, fr_s, frzV_val, frzV_own, oo_some, te_bl, te_int, te_non, te_lst, te_tup, ps_nil, ps_cons, pk_v, pk_s, consO_some, ad_nil, ad_cons, ad_v, ad_s, argS_val, argS_own, locV_val, locV_own, globV_some, negV_int, intO_int, slotV_some, x_nil, nextM_nx, nextM_ret, nextM_brk, nextM_ct, x_cons, x_asg, x_cell, x_par, g_v, g_n, g_s, g_tp, gd_nm, gd_2, gd_3, parM_two, x_expr, x_ret, r_v, r_n, r_s, retV_own, retV_val, x_retN, x_ite, x_raise, x_try, x_pass, x_brk, x_cont, x_setI, putI_int, x_augI, nn_v, nn_s, x_app, appM_lst, iteM_t, iteM_f, iteM_at, op_addI, op_subI, cm_lt, cm_le, cm_gt, cm_ge, cm_is, cm_isn, cm_eqI, cm_neI, ix_l, ix_t, ix_r, List.getElem?_cons_succ, List.getElem?_cons_zero, List.set_cons_succ, List.set_cons_zero, List.length_cons, List.length_nil, Nat.reduceAdd, Nat.reduceLT, Nat.reduceLeDiff, dr0, at4_0, at4_1, at4_2, at4_3, bl_int, op_mulI (mA _), op_mulI (mB _), mD, put4_3, w_ok]
        exact ⟨trivial, _, _, _, _, rfl, by omega, (hmod _).1, (hmod _).2⟩
    · simp only [decide_eq_false hl, Bool.false_eq_true, if_false, bind_at, out_ok, pure_at, a_loc, a_k, a_glob, a_bin, a_neg, a_cmp, cq_some, a_cell, ce_v, ce_o, a_chain, a_and, a_or, a_not, a_ife, a_lst, a_tup, a_idx, a_slc, a_call, a_blt, a_nil, a_cons, h_nil, h_cons, o_no, o_some, t_nil, t_cons, tv_at, i_seq, i_rng1, i_rng2, i_enum, p_v, p_s, peekS_val, peekS_own, d_int, d_bl, d_str, d_non, d_lst, d_tup, d_ro, ho_v, ho_s, ho_l, fr_v, fr_l, fr_s, frzV_val, frzV_own, oo_some, te_bl, te_int, te_non, te_lst, te_tup, ps_nil, ps_cons, pk_v, pk_s, consO_some, ad_nil, ad_cons, ad_v, ad_s, argS_val, argS_own, locV_val, locV_own, globV_some, negV_int, intO_int, slotV_some, x_nil, nextM_nx, nextM_ret, nextM_brk, nextM_ct, x_cons, x_asg, x_cell, x_par, g_v, g_n, g_s, g_tp, gd_nm, gd_2, gd_3, parM_two, x_expr, x_ret, r_v, r_n, r_s, retV_own, retV_val, x_retN, x_ite, x_raise, x_try, x_pass, x_brk, x_cont, x_setI, putI_int, x_augI, nn_v, nn_s, x_app, appM_lst, iteM_t, iteM_f, iteM_at, op_addI, op_subI, cm_lt, cm_le, cm_gt, cm_ge, cm_is, cm_isn, cm_eqI, cm_neI, ix_l, ix_t, ix_r, List.getElem?_cons_succ, List.getElem?_cons_zero, List.set_cons_succ, List.set_cons_zero, List.length_cons, List.length_nil, Nat.reduceAdd, Nat.reduceLT, Nat.reduceLeDiff, w_ok]
      exact ⟨trivial, _, _, _, _, rfl, hp, hy0, hy1⟩
  · simp only [decide_eq_false hx, Bool.false_eq_true, if_false, bind_at, out_ok, pure_at, a_loc, a_k, a_glob, a_bin, a_neg, a_cmp, cq_some, a_cell, ce_v, ce_o, a_chain, a_and, a_or, a_not, a_ife, a_lst, a_tup, a_idx, a_slc, a_call, a_blt, a_nil, a_cons, h_nil, h_cons, o_no, o_some, t_nil, t_cons, tv_at, i_seq, i_rng1, i_rng2, i_enum, p_v, p_s, peekS_val, peekS_own, d_int, d_bl, d_str, d_non, d_lst, d_tup, d_ro, ho_v, ho_s, ho_l, fr_v, fr_l, fr_s, frzV_val, frzV_own, oo_some, te_bl, te_int, te_non, te_lst, te_tup, ps_nil, ps_cons, pk_v, pk_s, consO_some, ad_nil, ad_cons, ad_v, ad_s, argS_val, argS_own, locV_val, locV_own, globV_some, negV_int, intO_int, slotV_some, x_nil, nextM_nx, nextM_ret, nextM_brk, nextM_ct, x_cons, x_asg, x_cell, x_par, g_v, g_n, g_s, g_tp, gd_nm, gd_2, gd_3, parM_two, x_expr, x_ret, r_v, r_n, r_s, retV_own, retV_val, x_retN, x_ite, x_raise, x_try, x_pass, x_brk, x_cont, x_setI, putI_int, x_augI, nn_v, nn_s, x_app, appM_lst, iteM_t, iteM_f, iteM_at, op_addI, op_subI, cm_lt, cm_le, cm_gt, cm_ge, cm_is, cm_isn, cm_eqI, cm_neI, ix_l, ix_t, ix_r, List.getElem?_cons_succ, List.getElem?_cons_zero, List.set_cons_succ, List.set_cons_zero, List.length_cons, List.length_nil, Nat.reduceAdd, Nat.reduceLT, Nat.reduceLeDiff, w_ok]
    exact ⟨trivial, _, _, _, _, rfl, hp, hy0, hy1⟩
theorem feed_ok {ns : List Int} : runD Γ feedD [.ro (ns.map .int)] C = .ok (.n (.lst [.lst (ns.map .int), .int 0, .int 0, .int 1])) C := by
  have hb : ∀ s : Sm, bltM .list [.v (.ro (ns.map D.int))] s = .ok (.n (.lst (ns.map D.int))) s := fun s => bltM_ok rfl rfl
  have hz : ∀ r s, sizeM 4 r s = .ok r s := fun r s => small3 (by decide)
  have e : exs Γ feedD.body ⟨[.val (.ro (ns.map .int))], C⟩ = .ok (.ret (.n (.lst [.lst (ns.map .int), .int 0, .int 0, .int 1]))) ⟨[.val (.ro (ns.map .int))], C⟩ := by
    simp only [feedD, bind_at, out_ok, pure_at, a_loc, a_k, a_glob, a_bin, a_neg, a_cmp, cq_some, a_cell, ce_v, ce_o, a_chain, a_and, a_or, a_not, a_ife, a_lst, a_tup, a_idx, a_slc, a_call, a_blt, a_nil, a_cons, h_nil, h_cons, o_no, o_some, t_nil, t_cons, tv_at, i_seq, i_rng1, i_rng2, i_enum, p_v, p_s, peekS_val, peekS_own, d_int, d_bl, d_str, d_non, d_lst, d_tup, d_ro, ho_v, ho_s, ho_l, fr_v, fr_l, fr_s, frzV_val, frzV_own, oo_some, te_bl, te_int, te_non, te_lst, te_tup, ps_nil, ps_cons, pk_v, pk_s, consO_some, ad_nil, ad_cons, ad_v, ad_s, argS_val, argS_own, locV_val, locV_own, globV_some, negV_int, intO_int, slotV_some, x_nil, nextM_nx, nextM_ret, nextM_brk, nextM_ct, x_cons, x_asg, x_cell, x_par, g_v, g_n, g_s, g_tp, gd_nm, gd_2, gd_3, parM_two, x_expr, x_ret, r_v, r_n, r_s, retV_own, retV_val, x_retN, x_ite, x_raise, x_try, x_pass, x_brk, x_cont, x_setI, putI_int, x_augI, nn_v, nn_s, x_app, appM_lst, iteM_t, iteM_f, iteM_at, op_addI, op_subI, cm_lt, cm_le, cm_gt, cm_ge, cm_is, cm_isn, cm_eqI, cm_neI, ix_l, ix_t, ix_r, List.getElem?_cons_succ, List.getElem?_cons_zero, List.set_cons_succ, List.set_cons_zero, List.length_cons, List.length_nil, Nat.reduceAdd, Nat.reduceLT, Nat.reduceLeDiff, hb, hz]
  unfold runD
  rw [if_pos ⟨rfl, by decide⟩]
  have e' : exs Γ feedD.body ⟨List.map Slot.val [D.ro (ns.map .int)] ++ List.replicate (feedD.n - feedD.ps) Slot.no, C⟩ = _ := e
  rw [e']
theorem feed0 {ns : List Int} : Feed (.lst [.lst (ns.map .int), .int 0, .int 0, .int 1]) := ⟨ns, 0, 0, 1, rfl, by decide, by decide, by decide⟩
end
end IR

set_option Elab.async false
set_option linter.all false
set_option maxRecDepth 100000
/-! IrL2: comprehensions that change nothing; the laws' own "the same". -/
namespace IR
open PySem L2
section
variable {Γ : Gam}
theorem wipeS_ext {ρ ρ0 : List Slot} : ∀ {vs : List Nat}, wipeS ρ vs = wipeS ρ0 vs → ρ.length = ρ0.length ∧ ∀ i, i ∉ vs → ρ[i]? = ρ0[i]? := fun {vs} h => by
  refine ⟨?_, fun i hi => ?_⟩
  · have := congrArg List.length h
    rw [wipeS_len, wipeS_len] at this
    exact this
  · have := congrArg (fun l => l[i]?) h
    have this : (wipeS ρ vs)[i]? = (wipeS ρ0 vs)[i]? := this
    rw [wipeS_out hi, wipeS_out hi] at this
    exact this
theorem restore_wipe {ρ ρ0 : List Slot} {vs : List Nat} (h : wipeS ρ vs = wipeS ρ0 vs) : restore ρ0 vs ρ = ρ0 := by
  obtain ⟨hl, ho⟩ := wipeS_ext h
  refine List.ext_getElem? fun i => ?_
  by_cases q : i ∈ vs
  · rw [restore_in hl q]
  · rw [restore_out q]
    exact ho i q
theorem compL_ok {turn : D → M (Option D)} {P : Sm → Prop} {g : D → Option D} : ∀ {ds : List D} {s : Sm}, P s → (∀ d s, d ∈ ds → P s → ∃ s', turn d s = .ok (g d) s' ∧ P s') → ∃ s', compL turn ds s = .ok (ds.filterMap g) s' ∧ P s'
  | [], s, h0, _ => ⟨s, rfl, h0⟩
  | d :: ds, s, h0, h => by
    obtain ⟨s1, e1, h1⟩ := h d s List.mem_cons_self h0
    obtain ⟨s2, e2, h2⟩ := compL_ok (ds := ds) h1 fun d s hd => h d s (List.mem_cons_of_mem _ hd)
    refine ⟨s2, ?_, h2⟩
    show (turn d s).bind _ = _
    rw [e1]
    show (compL turn ds s1).bind _ = _
    rw [e2]
    show Out.ok _ s2 = _
    rw [List.filterMap_cons]
    cases g d <;> rfl
def elM (Γ : Gam) (e : E) : M (Option D) := M.bind (ev Γ e) fun r => M.bind (frz r) fun x => M.pure (some x)
def turnM (Γ : Gam) (t : Tg) (cs : Es) (e : E) (d : D) : M (Option D) := M.bind (asgD t d) fun _ => M.bind (tvs Γ cs) fun k => iteM k (elM Γ e) (M.pure none)
theorem comp_ok {t : Tg} {it : It'} {cs : Es} {e : E} {s s1 : Sm} {ds : List D} {g : D → Option D} (hI : evI Γ it s = .ok ds s1) (hn : (t.names.all fun i => notOwn s1.ρ[i]?) = true)
    (turn : ∀ d ∈ ds, ∃ s', turnM Γ t cs e d ⟨wipeS s1.ρ t.names, s1.C⟩ = .ok (g d) s' ∧ wipeS s'.ρ t.names = wipeS s1.ρ t.names ∧ s'.C = s1.C) (hl : (ds.filterMap g).length ≤ sizeLine) : ev Γ (.comp t it cs e) s = .ok (.n (.lst (ds.filterMap g))) s1 := by
  have e0 : ev Γ (.comp t it cs e) s = (evI Γ it s).bind fun ds => fun s =>
      if t.names.all fun i => notOwn s.ρ[i]? then
        match compL (fun d => fun s => turnM Γ t cs e d { s with ρ := wipeS s.ρ t.names }) ds s with
        | .ok xs s' => if decide (xs.length ≤ sizeLine) then .ok (.n (.lst xs)) { s' with ρ := restore s.ρ t.names s'.ρ } else .bad
        | _ => .bad
      else .bad := rfl
  rw [e0, hI]
  show (if t.names.all fun i => notOwn s1.ρ[i]? then _ else _) = _
  rw [if_pos hn]
  obtain ⟨s2, e2, h1, h2⟩ := compL_ok (turn := fun d => fun s => turnM Γ t cs e d { s with ρ := wipeS s.ρ t.names }) (P := fun s => wipeS s.ρ t.names = wipeS s1.ρ t.names ∧ s.C = s1.C) (g := g) (ds := ds) (s := s1) ⟨rfl, rfl⟩ fun d s hd ⟨q1, q2⟩ => by
    obtain ⟨s', e', q3, q4⟩ := turn d hd
    refine ⟨s', ?_, q3, q4⟩
    show turnM Γ t cs e d ⟨wipeS s.ρ t.names, s.C⟩ = _
    rw [q1, q2, e']
  rw [e2]
  show (if decide ((ds.filterMap g).length ≤ sizeLine) then _ else _) = _
  rw [if_pos (decide_eq_true hl)]
  show Out.ok _ ⟨restore s1.ρ t.names s2.ρ, s2.C⟩ = _
  rw [restore_wipe h1, h2]
end

/-- plain data, so deep -/
inductive PlN : Nat → D → Prop
  | non {n : Nat} : PlN n .non
  | bl {n : Nat} {b : Bool} : PlN n (.bl b)
  | int {n : Nat} {b : Int} : PlN n (.int b)
  | str {n : Nat} {b : Str} : PlN n (.str b)
  | tup {n : Nat} {xs : List D} : xs.length ≤ sizeLine → (∀ d ∈ xs, PlN n d) → PlN (n + 1) (.tup xs)
  | lst {n : Nat} {xs : List D} : xs.length ≤ sizeLine → (∀ d ∈ xs, PlN n d) → PlN (n + 1) (.lst xs)

theorem gam_pure {T : Txt} {k : Nat} {f : Str} : (T.gam k).isPure f = decide (f ∈ T.pure) := by cases k <;> rfl
theorem atI_nat {xs : List D} {i : Nat} {d : D} (h : xs[i]? = some d) : atI xs (i : Int) = some d := by
  have hi := (List.getElem?_eq_some_iff.mp h).1
  unfold atI ixN
  rw [if_pos (by omega), if_pos (by omega)]
  exact h
theorem eqD_self {d : D} (h : ∃ b, d = .bl b ∨ (∃ i, d = .int i) ∨ ∃ x, d = .str x) : opCmp .eq d d = some true := by
  obtain ⟨b, rfl | ⟨i, rfl⟩ | ⟨x, rfl⟩⟩ := h
  · cases b <;> rfl
  · rw [cm_eqI, decide_eq_true rfl]
  · show eqD (.str x) (.str x) = _
    unfold eqD
    simp only [D.toPy]
    rw [if_pos (by show min 0 0 ≤ 60; decide)]
    show some (PyData.eqv (.str x) (.str x)) = _
    have : PyData.eqv (.str x) (.str x) = (x == x) := by
      unfold PyData.eqv
      rfl
    rw [this, beq_self_eq_true]
theorem cm_neB {a b : Bool} : opCmp .ne (.bl a) (.bl b) = some (!decide (a = b)) := by cases a <;> cases b <;> rfl
def sameD : Def := ⟨3, 2, (.cons (.ite (.or (.blt (.isinst "list") (.cons (.loc 1) .nil)) (.blt (.isinst "tuple") (.cons (.loc 1) .nil))) (.cons (.ite (.or (.cmp .ne (.blt (.isinst "list") (.cons (.loc 0) .nil)) (.blt (.isinst "list") (.cons (.loc 1) .nil))) (.cmp .ne (.blt (.isinst "tuple") (.cons (.loc 0) .nil)) (.blt (.isinst "tuple") (.cons (.loc 1) .nil)))) (.cons (.ret (.k (.bl false))) .nil) .nil) (.cons (.ret (.and (.cmp .eq (.blt .len (.cons (.loc 0) .nil)) (.blt .len (.cons (.loc 1) .nil))) (.blt .all (.cons (.comp (.nm 2) (.rng1 (.blt .len (.cons (.loc 1) .nil))) .nil (.call "_law_same" (.cons (.idx (.loc 0) (.loc 2)) (.cons (.idx (.loc 1) (.loc 2)) .nil)))) .nil)))) .nil)) .nil) (.cons (.ite (.or (.cmp .is (.loc 1) (.k .non)) (.blt (.isinst "bool") (.cons (.loc 1) .nil))) (.cons (.ret (.ife (.cmp .is (.loc 1) (.k .non)) (.cmp .is (.loc 0) (.k .non)) (.and (.blt (.isinst "bool") (.cons (.loc 0) .nil)) (.cmp .eq (.loc 0) (.loc 1))))) .nil) .nil) (.cons (.ite (.blt (.isinst "str") (.cons (.loc 1) .nil)) (.cons (.ret (.and (.blt (.isinst "str") (.cons (.loc 0) .nil)) (.cmp .eq (.loc 0) (.loc 1)))) .nil) .nil) (.cons (.ret (.and (.blt (.isinst "int") (.cons (.loc 0) .nil)) (.and (.not (.blt (.isinst "bool") (.cons (.loc 0) .nil))) (.cmp .eq (.loc 0) (.loc 1))))) .nil))))⟩
theorem isT {s : Sm} {t : String} {d : D} {b : Bool} (h0 : deref s.C d = d) (h : ((tyName d).bind fun a => isTyS a t) = some b) : bltM (.isinst t) [.v d] s = .ok (.v (.bl b)) s := by
  refine bltM_ok (ds := [d]) ?_ ?_
  · show consO (some (deref s.C d)) (some []) = _
    rw [h0]
    rfl
  · show (((tyName d).bind fun a => isTyS a t).map fun k => Rv.v (.bl k)) = _
    rw [h]
    rfl
theorem all_true (n : Nat) : opBlt .all [.lst (List.replicate n (.bl true))] = some (.v (.bl true)) := by
  have h : toBls (List.replicate n (.bl true)) = some (List.replicate n true) := by
    induction n with
    | zero => rfl
    | succ n ih =>
      rw [List.replicate_succ, List.replicate_succ]
      show (toBls (List.replicate n (.bl true))).map (true :: ·) = _
      rw [ih]
      rfl
  show (toBls (List.replicate n (.bl true))).map (fun bs => Rv.v (.bl (bs.all id))) = _
  rw [h]
  show some (Rv.v (.bl ((List.replicate n true).all id))) = _
  have : (List.replicate n true).all id = true := List.all_eq_true.mpr fun x hx => by rw [List.eq_of_mem_replicate hx]; rfl
  rw [this]
theorem small_len {n : Nat} (hl : n ≤ sizeLine) : small62 (n : Int) = true := by
  refine small_of (by omega) ?_
  have h2 : sizeLine < 2 ^ 62 := by rw [sizeLine_eq]; decide
  have h3 : n < 2 ^ 62 := Nat.lt_of_le_of_lt hl h2
  exact_mod_cast h3
theorem same_seq_ok {Γ : Gam} {xs : List D} {C : List (Option Ob)} {mk : List D → D} (hmk : mk = .lst ∨ mk = .tup) (hl : xs.length ≤ sizeLine) (hp : Γ.isPure "_law_same" = true) (ih : ∀ d ∈ xs, Pu Γ "_law_same" [d, d] (.v (.bl true))) :
    ev Γ (.and (.cmp .eq (.blt .len (.cons (.loc 0) .nil)) (.blt .len (.cons (.loc 1) .nil))) (.blt .all (.cons (.comp (.nm 2) (.rng1 (.blt .len (.cons (.loc 1) .nil))) .nil (.call "_law_same" (.cons (.idx (.loc 0) (.loc 2)) (.cons (.idx (.loc 1) (.loc 2)) .nil)))) .nil))) ⟨[.val (mk xs), .val (mk xs), .no], C⟩ = .ok (.v (.bl true)) ⟨[.val (mk xs), .val (mk xs), .no], C⟩ := by
  have hd : ∀ C, deref C (mk xs) = mk xs := fun C => by rcases hmk with rfl | rfl <;> rfl
  have hlen : ∀ s : Sm, bltM .len [.v (mk xs)] s = .ok (.v (.int xs.length)) s := fun s => by rcases hmk with rfl | rfl <;> exact bltM_ok rfl rfl
  have hix : ∀ i, opIdx (mk xs) (.int i) = atI xs i := fun i => by rcases hmk with rfl | rfl <;> rfl
  have hs : small62 (xs.length : Int) = true := small_len hl
  have hc : ∀ C, ev Γ (.comp (.nm 2) (.rng1 (.blt .len (.cons (.loc 1) .nil))) .nil (.call "_law_same" (.cons (.idx (.loc 0) (.loc 2)) (.cons (.idx (.loc 1) (.loc 2)) .nil)))) ⟨[.val (mk xs), .val (mk xs), .no], C⟩ = .ok (.n (.lst (List.replicate xs.length (.bl true)))) ⟨[.val (mk xs), .val (mk xs), .no], C⟩ := fun C => by
    have hf : (rangeL 0 xs.length).filterMap (fun _ => some (D.bl true)) = List.replicate xs.length (.bl true) := by
      rw [List.filterMap_eq_map', List.map_const', rangeL_len]
    rw [← hf]
    refine comp_ok (ds := rangeL 0 xs.length) ?_ rfl (fun d hd' => ?_) (by rw [hf, List.length_replicate]; exact hl)
    · have e1 : ∀ s : Sm, s = ⟨[.val (mk xs), .val (mk xs), .no], C⟩ → ev Γ (.blt .len (.cons (.loc 1) .nil)) s = .ok (.v (.int xs.length)) s := fun s es => by
        subst es
        simp only [bind_at, out_ok, pure_at, a_loc, a_k, a_glob, a_bin, a_neg, a_cmp, cq_some, a_cell, ce_v, ce_o, a_chain, a_and, a_or, a_not, a_ife, a_lst, a_tup, a_idx, a_slc, a_call, a_blt, a_nil, a_cons, h_nil, h_cons, o_no, o_some, t_nil, t_cons, tv_at, i_seq, i_rng1, i_rng2, i_enum, p_v, p_s, peekS_val, peekS_own, d_int, d_bl, d_str, d_non, d_lst, d_tup, d_ro, ho_v, ho_s, ho_l, fr_v, fr_l, fr_s, frzV_val, frzV_own, oo_some, te_bl, te_int, te_non, te_lst, te_tup, ps_nil, ps_cons, pk_v, pk_s, consO_some, ad_nil, ad_cons, ad_v, ad_s, argS_val, argS_own, locV_val, locV_own, globV_some, negV_int, intO_int, slotV_some, x_nil, nextM_nx, nextM_ret, nextM_brk, nextM_ct, x_cons, x_asg, x_cell, x_par, g_v, g_n, g_s, g_tp, gd_nm, gd_2, gd_3, parM_two, x_expr, x_ret, r_v, r_n, r_s, retV_own, retV_val, x_retN, x_ite, x_raise, x_try, x_pass, x_brk, x_cont, x_setI, putI_int, x_augI, nn_v, nn_s, x_app, appM_lst, iteM_t, iteM_f, iteM_at, op_addI, op_subI, cm_lt, cm_le, cm_gt, cm_ge, cm_is, cm_isn, cm_eqI, cm_neI, ix_l, ix_t, ix_r, List.getElem?_cons_succ, List.getElem?_cons_zero, List.set_cons_succ, List.set_cons_zero, List.length_cons, List.length_nil, Nat.reduceAdd, Nat.reduceLT, Nat.reduceLeDiff, hlen]
      rw [i_rng1, e1 _ rfl, out_ok, bind_at, p_v, d_int, out_ok, rngM_int hs, Int.toNat_natCast]
    · obtain ⟨i, hi⟩ := List.getElem?_of_mem hd'
      obtain ⟨h1, rfl⟩ := rangeL_get hi
      obtain ⟨x, hx⟩ : ∃ x, xs[i]? = some x := ⟨_, List.getElem?_eq_getElem h1⟩
      have ha : atI xs (0 + (i : Int)) = some x := by rw [Int.zero_add]; exact atI_nat hx
      have hcall : ∀ s, callM Γ "_law_same" [.v x, .v x] s = .ok (.v (.bl true)) s := fun s => callM_pu hp rfl (ih x (List.mem_of_getElem? hx)) rfl
      refine ⟨⟨[.val (mk xs), .val (mk xs), .val (.int (0 + i))], C⟩, ?_, rfl, rfl⟩
      show turnM Γ (.nm 2) .nil _ _ ⟨[.val (mk xs), .val (mk xs), .no], C⟩ = _
      unfold turnM elM
      simp only [bind_at, out_ok, pure_at, a_loc, a_k, a_glob, a_bin, a_neg, a_cmp, cq_some, a_cell, ce_v, ce_o, a_chain, a_and, a_or, a_not, a_ife, a_lst, a_tup, a_idx, a_slc, a_call, a_blt, a_nil, a_cons, h_nil, h_cons, o_no, o_some, t_nil, t_cons, tv_at, i_seq, i_rng1, i_rng2, i_enum, p_v, p_s, peekS_val, peekS_own, d_int, d_bl, d_str, d_non, d_lst, d_tup, d_ro, ho_v, ho_s, ho_l, fr_v, fr_l, fr_s, frzV_val, frzV_own, oo_some, te_bl, te_int, te_non, te_lst, te_tup, ps_nil, ps_cons, pk_v, pk_s, consO_some, ad_nil, ad_cons, ad_v, ad_s, argS_val, argS_own, locV_val, locV_own, globV_some, negV_int, intO_int, slotV_some, x_nil, nextM_nx, nextM_ret, nextM_brk, nextM_ct, x_cons, x_asg, x_cell, x_par, g_v, g_n, g_s, g_tp, gd_nm, gd_2, gd_3, parM_two, x_expr, x_ret, r_v, r_n, r_s, retV_own, retV_val, x_retN, x_ite, x_raise, x_try, x_pass, x_brk, x_cont, x_setI, putI_int, x_augI, nn_v, nn_s, x_app, appM_lst, iteM_t, iteM_f, iteM_at, op_addI, op_subI, cm_lt, cm_le, cm_gt, cm_ge, cm_is, cm_isn, cm_eqI, cm_neI, ix_l, ix_t, ix_r, List.getElem?_cons_succ, List.getElem?_cons_zero, List.set_cons_succ, List.set_cons_zero, List.length_cons, List.length_nil, Nat.reduceAdd, Nat.reduceLT, Nat.reduceLeDiff, hd, hix, ha, hcall, if_true]
  have hall : ∀ s : Sm, bltM .all [.v (.lst (List.replicate xs.length (.bl true)))] s = .ok (.v (.bl true)) s := fun s => bltM_ok rfl (all_true _)
  simp only [bind_at, out_ok, pure_at, a_loc, a_k, a_glob, a_bin, a_neg, a_cmp, cq_some, a_cell, ce_v, ce_o, a_chain, a_and, a_or, a_not, a_ife, a_lst, a_tup, a_idx, a_slc, a_call, a_blt, a_nil, a_cons, h_nil, h_cons, o_no, o_some, t_nil, t_cons, tv_at, i_seq, i_rng1, i_rng2, i_enum, p_v, p_s, peekS_val, peekS_own, d_int, d_bl, d_str, d_non, d_lst, d_tup, d_ro, ho_v, ho_s, ho_l, fr_v, fr_l, fr_s, frzV_val, frzV_own, oo_some, te_bl, te_int, te_non, te_lst, te_tup, ps_nil, ps_cons, pk_v, pk_s, consO_some, ad_nil, ad_cons, ad_v, ad_s, argS_val, argS_own, locV_val, locV_own, globV_some, negV_int, intO_int, slotV_some, x_nil, nextM_nx, nextM_ret, nextM_brk, nextM_ct, x_cons, x_asg, x_cell, x_par, g_v, g_n, g_s, g_tp, gd_nm, gd_2, gd_3, parM_two, x_expr, x_ret, r_v, r_n, r_s, retV_own, retV_val, x_retN, x_ite, x_raise, x_try, x_pass, x_brk, x_cont, x_setI, putI_int, x_augI, nn_v, nn_s, x_app, appM_lst, iteM_t, iteM_f, iteM_at, op_addI, op_subI, cm_lt, cm_le, cm_gt, cm_ge, cm_is, cm_isn, cm_eqI, cm_neI, ix_l, ix_t, ix_r, List.getElem?_cons_succ, List.getElem?_cons_zero, List.set_cons_succ, List.set_cons_zero, List.length_cons, List.length_nil, Nat.reduceAdd, Nat.reduceLT, Nat.reduceLeDiff, hlen, hd, hc, hall, decide_true, if_true]
theorem same_ok {T : Txt} {e : Ent} (he : findE "_law_same" T.ents = some e) (hd : e.d = sameD) (hp : ("_law_same" : Str) ∈ T.pure) : ∀ (n k : Nat) (d : D), PlN n d → Pu (T.gam (k + n + 1)) "_law_same" [d, d] (.v (.bl true)) := fun n => by
  induction n with
  | zero =>
    intro k d h
    refine pu_of fun C => ?_
    rw [gam_call he, hd]
    refine run_w rfl (by decide) (ρ := [.val d, .val d, .no]) rfl ?_
    cases h with
    | non =>
      have i1 : ∀ s : Sm, bltM (.isinst "list") [.v .non] s = .ok (.v (.bl false)) s := fun s => isT rfl rfl
      have i2 : ∀ s : Sm, bltM (.isinst "tuple") [.v .non] s = .ok (.v (.bl false)) s := fun s => isT rfl rfl
      simp only [sameD, bind_at, out_ok, pure_at, a_loc, a_k, a_glob, a_bin, a_neg, a_cmp, cq_some, a_cell, ce_v, ce_o, a_chain, a_and, a_or, a_not, a_ife, a_lst, a_tup, a_idx, a_slc, a_call, a_blt, a_nil, a_cons, h_nil, h_cons, o_no, o_some, t_nil, t_cons, tv_at, i_seq, i_rng1, i_rng2, i_enum, p_v, p_s, peekS_val, peekS_own, d_int, d_bl, d_str, d_non, d_lst, d_tup, d_ro, ho_v, ho_s, ho_l, fr_v, fr_l, fr_s, frzV_val, frzV_own, oo_some, te_bl, te_int, te_non, te_lst, te_tup, ps_nil, ps_cons, pk_v, pk_s, consO_some, ad_nil, ad_cons, ad_v, ad_s, argS_val, argS_own, locV_val, locV_own, globV_some, negV_int, intO_int, slotV_some, x_nil, nextM_nx, nextM_ret, nextM_brk, nextM_ct, x_cons, x_asg, x_cell, x_par, g_v, g_n, g_s, g_tp, gd_nm, gd_2, gd_3, parM_two, x_expr, x_ret, r_v, r_n, r_s, retV_own, retV_val, x_retN, x_ite, x_raise, x_try, x_pass, x_brk, x_cont, x_setI, putI_int, x_augI, nn_v, nn_s, x_app, appM_lst, iteM_t, iteM_f, iteM_at, op_addI, op_subI, cm_lt, cm_le, cm_gt, cm_ge, cm_is, cm_isn, cm_eqI, cm_neI, ix_l, ix_t, ix_r, List.getElem?_cons_succ, List.getElem?_cons_zero, List.set_cons_succ, List.set_cons_zero, List.length_cons, List.length_nil, Nat.reduceAdd, Nat.reduceLT, Nat.reduceLeDiff, i1, i2, isNonD, if_true, Bool.false_eq_true, if_false, w_ok]
    | bl =>
      rename_i b
      have i1 : ∀ s : Sm, bltM (.isinst "list") [.v (.bl b)] s = .ok (.v (.bl false)) s := fun s => isT rfl rfl
      have i2 : ∀ s : Sm, bltM (.isinst "tuple") [.v (.bl b)] s = .ok (.v (.bl false)) s := fun s => isT rfl rfl
      have i3 : ∀ s : Sm, bltM (.isinst "bool") [.v (.bl b)] s = .ok (.v (.bl true)) s := fun s => isT rfl rfl
      have q : opCmp .eq (.bl b) (.bl b) = some true := eqD_self ⟨b, .inl rfl⟩
      simp only [sameD, bind_at, out_ok, pure_at, a_loc, a_k, a_glob, a_bin, a_neg, a_cmp, cq_some, a_cell, ce_v, ce_o, a_chain, a_and, a_or, a_not, a_ife, a_lst, a_tup, a_idx, a_slc, a_call, a_blt, a_nil, a_cons, h_nil, h_cons, o_no, o_some, t_nil, t_cons, tv_at, i_seq, i_rng1, i_rng2, i_enum, p_v, p_s, peekS_val, peekS_own, d_int, d_bl, d_str, d_non, d_lst, d_tup, d_ro, ho_v, ho_s, ho_l, fr_v, fr_l, fr_s, frzV_val, frzV_own, oo_some, te_bl, te_int, te_non, te_lst, te_tup, ps_nil, ps_cons, pk_v, pk_s, consO_some, ad_nil, ad_cons, ad_v, ad_s, argS_val, argS_own, locV_val, locV_own, globV_some, negV_int, intO_int, slotV_some, x_nil, nextM_nx, nextM_ret, nextM_brk, nextM_ct, x_cons, x_asg, x_cell, x_par, g_v, g_n, g_s, g_tp, gd_nm, gd_2, gd_3, parM_two, x_expr, x_ret, r_v, r_n, r_s, retV_own, retV_val, x_retN, x_ite, x_raise, x_try, x_pass, x_brk, x_cont, x_setI, putI_int, x_augI, nn_v, nn_s, x_app, appM_lst, iteM_t, iteM_f, iteM_at, op_addI, op_subI, cm_lt, cm_le, cm_gt, cm_ge, cm_is, cm_isn, cm_eqI, cm_neI, ix_l, ix_t, ix_r, List.getElem?_cons_succ, List.getElem?_cons_zero, List.set_cons_succ, List.set_cons_zero, List.length_cons, List.length_nil, Nat.reduceAdd, Nat.reduceLT, Nat.reduceLeDiff, i1, i2, i3, isNonD, q, if_true, Bool.false_eq_true, if_false, w_ok]
    | int =>
      rename_i b
      have i1 : ∀ s : Sm, bltM (.isinst "list") [.v (.int b)] s = .ok (.v (.bl false)) s := fun s => isT rfl rfl
      have i2 : ∀ s : Sm, bltM (.isinst "tuple") [.v (.int b)] s = .ok (.v (.bl false)) s := fun s => isT rfl rfl
      have i3 : ∀ s : Sm, bltM (.isinst "bool") [.v (.int b)] s = .ok (.v (.bl false)) s := fun s => isT rfl rfl
      have i4 : ∀ s : Sm, bltM (.isinst "str") [.v (.int b)] s = .ok (.v (.bl false)) s := fun s => isT rfl rfl
      have i5 : ∀ s : Sm, bltM (.isinst "int") [.v (.int b)] s = .ok (.v (.bl true)) s := fun s => isT rfl rfl
      simp only [sameD, bind_at, out_ok, pure_at, a_loc, a_k, a_glob, a_bin, a_neg, a_cmp, cq_some, a_cell, ce_v, ce_o, a_chain, a_and, a_or, a_not, a_ife, a_lst, a_tup, a_idx, a_slc, a_call, a_blt, a_nil, a_cons, h_nil, h_cons, o_no, o_some, t_nil, t_cons, tv_at, i_seq, i_rng1, i_rng2, i_enum, p_v, p_s, peekS_val, peekS_own, d_int, d_bl, d_str, d_non, d_lst, d_tup, d_ro, ho_v, ho_s, ho_l, fr_v, fr_l, fr_s, frzV_val, frzV_own, oo_some, te_bl, te_int, te_non, te_lst, te_tup, ps_nil, ps_cons, pk_v, pk_s, consO_some, ad_nil, ad_cons, ad_v, ad_s, argS_val, argS_own, locV_val, locV_own, globV_some, negV_int, intO_int, slotV_some, x_nil, nextM_nx, nextM_ret, nextM_brk, nextM_ct, x_cons, x_asg, x_cell, x_par, g_v, g_n, g_s, g_tp, gd_nm, gd_2, gd_3, parM_two, x_expr, x_ret, r_v, r_n, r_s, retV_own, retV_val, x_retN, x_ite, x_raise, x_try, x_pass, x_brk, x_cont, x_setI, putI_int, x_augI, nn_v, nn_s, x_app, appM_lst, iteM_t, iteM_f, iteM_at, op_addI, op_subI, cm_lt, cm_le, cm_gt, cm_ge, cm_is, cm_isn, cm_eqI, cm_neI, ix_l, ix_t, ix_r, List.getElem?_cons_succ, List.getElem?_cons_zero, List.set_cons_succ, List.set_cons_zero, List.length_cons, List.length_nil, Nat.reduceAdd, Nat.reduceLT, Nat.reduceLeDiff, i1, i2, i3, i4, i5, isNonD, decide_true, Bool.not_false, if_true, Bool.false_eq_true, if_false, w_ok]
    | str =>
      rename_i b
      have i1 : ∀ s : Sm, bltM (.isinst "list") [.v (.str b)] s = .ok (.v (.bl false)) s := fun s => isT rfl rfl
      have i2 : ∀ s : Sm, bltM (.isinst "tuple") [.v (.str b)] s = .ok (.v (.bl false)) s := fun s => isT rfl rfl
      have i3 : ∀ s : Sm, bltM (.isinst "bool") [.v (.str b)] s = .ok (.v (.bl false)) s := fun s => isT rfl rfl
      have i4 : ∀ s : Sm, bltM (.isinst "str") [.v (.str b)] s = .ok (.v (.bl true)) s := fun s => isT rfl rfl
      have q : opCmp .eq (.str b) (.str b) = some true := eqD_self ⟨true, .inr (.inr ⟨b, rfl⟩)⟩
      simp only [sameD, bind_at, out_ok, pure_at, a_loc, a_k, a_glob, a_bin, a_neg, a_cmp, cq_some, a_cell, ce_v, ce_o, a_chain, a_and, a_or, a_not, a_ife, a_lst, a_tup, a_idx, a_slc, a_call, a_blt, a_nil, a_cons, h_nil, h_cons, o_no, o_some, t_nil, t_cons, tv_at, i_seq, i_rng1, i_rng2, i_enum, p_v, p_s, peekS_val, peekS_own, d_int, d_bl, d_str, d_non, d_lst, d_tup, d_ro, ho_v, ho_s, ho_l, fr_v, fr_l, fr_s, frzV_val, frzV_own, oo_some, te_bl, te_int, te_non, te_lst, te_tup, ps_nil, ps_cons, pk_v, pk_s, consO_some, ad_nil, ad_cons, ad_v, ad_s, argS_val, argS_own, locV_val, locV_own, globV_some, negV_int, intO_int, slotV_some, x_nil, nextM_nx, nextM_ret, nextM_brk, nextM_ct, x_cons, x_asg, x_cell, x_par, g_v, g_n, g_s, g_tp, gd_nm, gd_2, gd_3, parM_two, x_expr, x_ret, r_v, r_n, r_s, retV_own, retV_val, x_retN, x_ite, x_raise, x_try, x_pass, x_brk, x_cont, x_setI, putI_int, x_augI, nn_v, nn_s, x_app, appM_lst, iteM_t, iteM_f, iteM_at, op_addI, op_subI, cm_lt, cm_le, cm_gt, cm_ge, cm_is, cm_isn, cm_eqI, cm_neI, ix_l, ix_t, ix_r, List.getElem?_cons_succ, List.getElem?_cons_zero, List.set_cons_succ, List.set_cons_zero, List.length_cons, List.length_nil, Nat.reduceAdd, Nat.reduceLT, Nat.reduceLeDiff, i1, i2, i3, i4, isNonD, q, if_true, Bool.false_eq_true, if_false, w_ok]
  | succ n ihn =>
    intro k d h
    by_cases low : PlN n d
    · have q := ihn (k + 1) d low
      have e : k + 1 + n + 1 = k + (n + 1) + 1 := by omega
      rw [e] at q
      exact q
    · refine pu_of fun C => ?_
      rw [gam_call he, hd]
      refine run_w rfl (by decide) (ρ := [.val d, .val d, .no]) rfl ?_
      have hp' : (T.gam (k + (n + 1))).isPure "_law_same" = true := by rw [gam_pure]; exact decide_eq_true hp
      cases h with
      | non => exact absurd .non low
      | bl => exact absurd .bl low
      | int => exact absurd .int low
      | str => exact absurd .str low
      | lst hl hx =>
        rename_i xs
        have i1 : ∀ s : Sm, bltM (.isinst "list") [.v (.lst xs)] s = .ok (.v (.bl true)) s := fun s => isT rfl rfl
        have i2 : ∀ s : Sm, bltM (.isinst "tuple") [.v (.lst xs)] s = .ok (.v (.bl false)) s := fun s => isT rfl rfl
        have main := same_seq_ok (C := C) (mk := .lst) (.inl rfl) hl hp' fun d hd => ihn k d (hx d hd)
        generalize hE : (E.and (.cmp .eq (.blt .len (.cons (.loc 0) .nil)) (.blt .len (.cons (.loc 1) .nil))) (.blt .all (.cons (.comp (.nm 2) (.rng1 (.blt .len (.cons (.loc 1) .nil))) .nil (.call "_law_same" (.cons (.idx (.loc 0) (.loc 2)) (.cons (.idx (.loc 1) (.loc 2)) .nil)))) .nil))) = big at main
        unfold sameD
        rw [hE]
        simp only [bind_at, out_ok, pure_at, a_loc, a_k, a_glob, a_bin, a_neg, a_cmp, cq_some, a_cell, ce_v, ce_o, a_chain, a_and, a_or, a_not, a_ife, a_lst, a_tup, a_idx, a_slc, a_call, a_blt, a_nil, a_cons, h_nil, h_cons, o_no, o_some, t_nil, t_cons, tv_at, i_seq, i_rng1, i_rng2, i_enum, p_v, p_s, peekS_val, peekS_own, d_int, d_bl, d_str, d_non, d_lst, d_tup, d_ro, ho_v, ho_s, ho_l, fr_v, fr_l, fr_s, frzV_val, frzV_own, oo_some, te_bl, te_int, te_non, te_lst, te_tup, ps_nil, ps_cons, pk_v, pk_s, consO_some, ad_nil, ad_cons, ad_v, ad_s, argS_val, argS_own, locV_val, locV_own, globV_some, negV_int, intO_int, slotV_some, x_nil, nextM_nx, nextM_ret, nextM_brk, nextM_ct, x_cons, x_asg, x_cell, x_par, g_v, g_n, g_s, g_tp, gd_nm, gd_2, gd_3, parM_two, x_expr, x_ret, r_v, r_n, r_s, retV_own, retV_val, x_retN, x_ite, x_raise, x_try, x_pass, x_brk, x_cont, x_setI, putI_int, x_augI, nn_v, nn_s, x_app, appM_lst, iteM_t, iteM_f, iteM_at, op_addI, op_subI, cm_lt, cm_le, cm_gt, cm_ge, cm_is, cm_isn, cm_eqI, cm_neI, ix_l, ix_t, ix_r, List.getElem?_cons_succ, List.getElem?_cons_zero, List.set_cons_succ, List.set_cons_zero, List.length_cons, List.length_nil, Nat.reduceAdd, Nat.reduceLT, Nat.reduceLeDiff, i1, i2, cm_neB, decide_true, Bool.not_true, if_true, Bool.false_eq_true, if_false, main, w_ok]
      | tup hl hx =>
        rename_i xs
        have i1 : ∀ s : Sm, bltM (.isinst "list") [.v (.tup xs)] s = .ok (.v (.bl false)) s := fun s => isT rfl rfl
        have i2 : ∀ s : Sm, bltM (.isinst "tuple") [.v (.tup xs)] s = .ok (.v (.bl true)) s := fun s => isT rfl rfl
        have main := same_seq_ok (C := C) (mk := .tup) (.inr rfl) hl hp' fun d hd => ihn k d (hx d hd)
        generalize hE : (E.and (.cmp .eq (.blt .len (.cons (.loc 0) .nil)) (.blt .len (.cons (.loc 1) .nil))) (.blt .all (.cons (.comp (.nm 2) (.rng1 (.blt .len (.cons (.loc 1) .nil))) .nil (.call "_law_same" (.cons (.idx (.loc 0) (.loc 2)) (.cons (.idx (.loc 1) (.loc 2)) .nil)))) .nil))) = big at main
        unfold sameD
        rw [hE]
        simp only [bind_at, out_ok, pure_at, a_loc, a_k, a_glob, a_bin, a_neg, a_cmp, cq_some, a_cell, ce_v, ce_o, a_chain, a_and, a_or, a_not, a_ife, a_lst, a_tup, a_idx, a_slc, a_call, a_blt, a_nil, a_cons, h_nil, h_cons, o_no, o_some, t_nil, t_cons, tv_at, i_seq, i_rng1, i_rng2, i_enum, p_v, p_s, peekS_val, peekS_own, d_int, d_bl, d_str, d_non, d_lst, d_tup, d_ro, ho_v, ho_s, ho_l, fr_v, fr_l, fr_s, frzV_val, frzV_own, oo_some, te_bl, te_int, te_non, te_lst, te_tup, ps_nil, ps_cons, pk_v, pk_s, consO_some, ad_nil, ad_cons, ad_v, ad_s, argS_val, argS_own, locV_val, locV_own, globV_some, negV_int, intO_int, slotV_some, x_nil, nextM_nx, nextM_ret, nextM_brk, nextM_ct, x_cons, x_asg, x_cell, x_par, g_v, g_n, g_s, g_tp, gd_nm, gd_2, gd_3, parM_two, x_expr, x_ret, r_v, r_n, r_s, retV_own, retV_val, x_retN, x_ite, x_raise, x_try, x_pass, x_brk, x_cont, x_setI, putI_int, x_augI, nn_v, nn_s, x_app, appM_lst, iteM_t, iteM_f, iteM_at, op_addI, op_subI, cm_lt, cm_le, cm_gt, cm_ge, cm_is, cm_isn, cm_eqI, cm_neI, ix_l, ix_t, ix_r, List.getElem?_cons_succ, List.getElem?_cons_zero, List.set_cons_succ, List.set_cons_zero, List.length_cons, List.length_nil, Nat.reduceAdd, Nat.reduceLT, Nat.reduceLeDiff, i1, i2, cm_neB, decide_true, Bool.not_true, if_true, Bool.false_eq_true, if_false, main, w_ok]
end IR

set_option Elab.async false
set_option linter.all false
set_option maxRecDepth 100000
/-! IrL3: what laws share: calls, draws, walks over own lists. -/
namespace IR
open PySem L2
theorem out_assoc {α β γ : Type} {o : Out α} {f : α → M β} {g : β → M γ} : (o.bind f).bind g = o.bind fun a => M.bind (f a) g := by cases o <;> rfl
theorem run_e (d : Def) (ds : List D) (ρ : List Slot) (h1 : ds.length = d.ps) (h2 : d.ps ≤ d.n) (h3 : ds.map .val ++ List.replicate (d.n - d.ps) .no = ρ) {Γ : Gam} {C : List (Option Ob)} {Q : Rv → List (Option Ob) → Prop}
    (h : wpO (exs Γ d.body ⟨ρ, C⟩) (fun f s => match f with | .nx => Q (.v .non) s.C | .ret r => Q r s.C | _ => False) NoX) : OcW (runD Γ d ds C) Q := run_w h1 h2 h3 h
theorem refFree_ints : ∀ ns : List Int, D.refFrees (ns.map .int) = true
  | [] => rfl
  | n :: ns => by
    show (true && D.refFrees (ns.map .int)) = true
    rw [refFree_ints ns]
    rfl
theorem flat_ints : ∀ ns : List Int, D.flats (ns.map .int) = true
  | [] => rfl
  | n :: ns => by
    show (true && D.flats (ns.map .int)) = true
    rw [flat_ints ns]
    rfl
/-- a pure call of plain values -/
theorem callM_pf {Γ : Gam} {f : Str} {rs : List Rv} {ds : List D} {r : Rv} {s : Sm} (hp : Γ.isPure f = true) (ha : argDs s.ρ rs = some ds) (h : Pu Γ f ds r) (hr : r.refFree = true) (hz : slots rs = []) : callM Γ f rs s = .ok r s := by
  obtain ⟨C', e⟩ := h (mask s.C)
  unfold callM
  rw [if_pos hp]
  simp only [ha, e, hr, hz]
  cases r.flat <;> rfl
theorem h_feed {Γ Γ' : Gam} (hc : Γ.call "_law_feed" = runD Γ' feedD) (hp : Γ.isPure "_law_feed" = true) (ns : List Int) (s : Sm) : callM Γ "_law_feed" [.v (.ro (ns.map .int))] s = .ok (.n (.lst [.lst (ns.map .int), .int 0, .int 0, .int 1])) s := by
  refine callM_pf hp (ds := [.ro (ns.map .int)]) (by simp only [ad_cons, ad_v, ad_nil, consO_some]) (fun C => ⟨C, by rw [hc]; exact feed_ok⟩) ?_ rfl
  show (D.refFrees (ns.map .int) && (true && (true && (true && true)))) = true
  rw [refFree_ints]
  rfl
theorem w_draw {Γ Γ' : Gam} (hc : Γ.call "_law_draw" = runD Γ' drawD) (hp : Γ.isPure "_law_draw" = false) {m : Int} (hm : 0 < m) (hm2 : m < 1073741824) {o : Ob} (hF : Feed o) {ρ : List Slot} {C : List (Option Ob)} {g : Rv → M Fl} {Q : Fl → Sm → Prop} {X : Exn → Sm → Prop} (h : ∀ t o', 0 ≤ t → t < m → Feed o' → wpO (g (.v (.int t)) ⟨ρ, some o' :: C⟩) Q X) :
    wpO ((callM Γ "_law_draw" [.v (.ref 0), .v (.int m)] ⟨ρ, some o :: C⟩).bind g) Q X := by
  refine w_call hp (ds := [.ref 0, .int m]) (s1 := ⟨ρ, some o :: C⟩) rfl (fun r C' => ∃ t o', r = .v (.int t) ∧ 0 ≤ t ∧ t < m ∧ C' = some o' :: C ∧ Feed o') ?_ ?_
  · rw [hc]
    exact draw_ok hm hm2 hF
  · rintro r C ⟨t, o', rfl, h0, h1, rfl, hF'⟩
    exact h t o' h0 h1 hF'
theorem w_forN {turn : D → M Fl} {ds : List D} {s : Sm} {m : M Fl} {Q : Fl → Sm → Prop} {X : Exn → Sm → Prop} (I : Sm → Prop) (h0 : I s)
    (step : ∀ (i : Nat) d s, ds[i]? = some d → I s → wpO (turn d s) (fun fl s' => (fl = .nx ∨ fl = .ct) ∧ I s') NoX) (fin : ∀ s', I s' → wpO (m s') Q X) : wpO ((forL turn ds s).bind (nextM m)) Q X :=
  w_for (fun _ s => I s) h0 step fun s' h => by rw [nextM_nx]; exact fin s' h
theorem atI_int {ns : List Int} {i : Nat} {J x : Int} (hJ : J = i) (h : ns[i]? = some x) : atI (ns.map D.int) J = some (.int x) := by
  subst hJ
  exact atI_nat (by rw [List.getElem?_map, h]; rfl)
section
variable {Γ : Gam}
theorem compB_own {t : Tg} {i : Nat} {cs : Es} {e : E} {ρ : List Slot} {C : List (Option Ob)} {ds : List D} {g : D → Option D} (h : ρ[i]? = some (.own (.lst ds))) (hn : (t.names.all fun j => notOwn (ρ.set i .no)[j]?) = true)
    (turn : ∀ d ∈ ds, ∃ s', turnM Γ t cs e d ⟨wipeS (ρ.set i .no) t.names, C⟩ = .ok (g d) s' ∧ wipeS s'.ρ t.names = wipeS (ρ.set i .no) t.names ∧ s'.C = C) (hl : (ds.filterMap g).length ≤ sizeLine) : ev Γ (.compB t i cs e) ⟨ρ, C⟩ = .ok (.n (.lst (ds.filterMap g))) ⟨ρ, C⟩ := by
  have e0 : ev Γ (.compB t i cs e) ⟨ρ, C⟩ = if t.names.all fun j => notOwn (ρ.set i .no)[j]? then
        match compL (fun d => fun s => turnM Γ t cs e d { s with ρ := wipeS s.ρ t.names }) ds ⟨ρ.set i .no, C⟩ with
        | .ok xs s' => if decide (xs.length ≤ sizeLine) then .ok (.n (.lst xs)) { s' with ρ := (restore (ρ.set i .no) t.names s'.ρ).set i (.own (.lst ds)) } else .bad
        | _ => .bad
      else .bad := by
    show (match ρ[i]? with | some (.own (.lst ds)) => _ | _ => _) = _
    rw [h]
    rfl
  rw [e0, if_pos hn]
  obtain ⟨s2, e2, h1, h2⟩ := compL_ok (turn := fun d => fun s => turnM Γ t cs e d { s with ρ := wipeS s.ρ t.names }) (P := fun s => wipeS s.ρ t.names = wipeS (ρ.set i .no) t.names ∧ s.C = C) (g := g) (ds := ds) (s := ⟨ρ.set i .no, C⟩) ⟨rfl, rfl⟩ fun d s hd ⟨q1, q2⟩ => by
    obtain ⟨s', e', q3, q4⟩ := turn d hd
    refine ⟨s', ?_, q3, q4⟩
    show turnM Γ t cs e d ⟨wipeS s.ρ t.names, s.C⟩ = _
    rw [q1, q2, e']
  rw [e2]
  show (if decide ((ds.filterMap g).length ≤ sizeLine) then _ else _) = _
  rw [if_pos (decide_eq_true hl)]
  show Out.ok _ ⟨(restore (ρ.set i .no) t.names s2.ρ).set i (.own (.lst ds)), s2.C⟩ = _
  rw [restore_wipe h1, h2, List.set_set]
  congr
  apply List.ext_getElem?
  intro j
  by_cases q : i = j
  · subst q
    rw [List.getElem?_set_self (List.getElem?_eq_some_iff.mp h).1, h]
  · rw [List.getElem?_set_ne q]
theorem compB_val {t : Tg} {i : Nat} {cs : Es} {e : E} {ρ : List Slot} {C : List (Option Ob)} {d : D} {ds : List D} {g : D → Option D} (h : ρ[i]? = some (.val d)) (hi : items d = some ds) (hn : (t.names.all fun j => notOwn ρ[j]?) = true)
    (turn : ∀ d ∈ ds, ∃ s', turnM Γ t cs e d ⟨wipeS ρ t.names, C⟩ = .ok (g d) s' ∧ wipeS s'.ρ t.names = wipeS ρ t.names ∧ s'.C = C) (hl : (ds.filterMap g).length ≤ sizeLine) : ev Γ (.compB t i cs e) ⟨ρ, C⟩ = .ok (.n (.lst (ds.filterMap g))) ⟨ρ, C⟩ := by
  have e0 : ev Γ (.compB t i cs e) ⟨ρ, C⟩ = ev Γ (.comp t (.seq (.loc i)) cs e) ⟨ρ, C⟩ := by
    show (match ρ[i]? with | some (.own (.lst ds)) => _ | _ => _) = _
    rw [h]
    rfl
  rw [e0]
  refine comp_ok (s1 := ⟨ρ, C⟩) ?_ hn turn hl
  simp only [bind_at, out_ok, pure_at, a_loc, a_k, a_glob, a_bin, a_neg, a_cmp, cq_some, a_cell, ce_v, ce_o, a_chain, a_and, a_or, a_not, a_ife, a_lst, a_tup, a_idx, a_slc, a_call, a_blt, a_nil, a_cons, h_nil, h_cons, o_no, o_some, t_nil, t_cons, tv_at, i_seq, i_rng1, i_rng2, i_enum, p_v, p_s, peekS_val, peekS_own, d_int, d_bl, d_str, d_non, d_lst, d_tup, d_ro, ho_v, ho_s, ho_l, fr_v, fr_l, fr_s, frzV_val, frzV_own, oo_some, te_bl, te_int, te_non, te_lst, te_tup, ps_nil, ps_cons, pk_v, pk_s, consO_some, ad_nil, ad_cons, ad_v, ad_s, argS_val, argS_own, locV_val, locV_own, globV_some, negV_int, intO_int, slotV_some, x_nil, nextM_nx, nextM_ret, nextM_brk, nextM_ct, x_cons, x_asg, x_cell, x_par, g_v, g_n, g_s, g_tp, gd_nm, gd_2, gd_3, parM_two, x_expr, x_ret, r_v, r_n, r_s, retV_own, retV_val, x_retN, x_ite, x_raise, x_try, x_pass, x_brk, x_cont, x_setI, putI_int, x_augI, nn_v, nn_s, x_app, appM_lst, iteM_t, iteM_f, iteM_at, op_addI, op_subI, cm_lt, cm_le, cm_gt, cm_ge, cm_is, cm_isn, cm_eqI, cm_neI, ix_l, ix_t, ix_r, List.getElem?_cons_succ, List.getElem?_cons_zero, List.set_cons_succ, List.set_cons_zero, List.length_cons, List.length_nil, Nat.reduceAdd, Nat.reduceLT, Nat.reduceLeDiff, h, hi]
end
end IR

set_option Elab.async false
set_option linter.all false
set_option maxRecDepth 100000
/-! IrL4: the laws' own "the same" where lists stand in cells; calls that change no cell. -/
namespace IR
open PySem L2
/-- the same plain data, so deep; lists as they stand or in cells -/
inductive Eqv (C : List (Option Ob)) : Nat → D → D → Prop
  | non {n : Nat} : Eqv C n .non .non
  | bl {n : Nat} {b : Bool} : Eqv C n (.bl b) (.bl b)
  | int {n : Nat} {b : Int} : Eqv C n (.int b) (.int b)
  | str {n : Nat} {b : Str} : Eqv C n (.str b) (.str b)
  | tup {n : Nat} {xs ys : List D} : xs.length ≤ sizeLine → xs.length = ys.length → (∀ (i : Nat) x y, xs[i]? = some x → ys[i]? = some y → Eqv C n x y) → Eqv C (n + 1) (.tup xs) (.tup ys)
  | lst {n : Nat} {a b : D} {xs ys : List D} : deref C a = .lst xs → deref C b = .lst ys → xs.length ≤ sizeLine → xs.length = ys.length → (∀ (i : Nat) x y, xs[i]? = some x → ys[i]? = some y → Eqv C n x y) → Eqv C (n + 1) a b
theorem callM_im {Γ : Gam} {f : Str} {rs : List Rv} {ds : List D} {r : Rv} {s : Sm} (hp : Γ.isPure f = false) (ha : frzs rs s = .ok ds s) (h : Γ.call f ds s.C = .ok r s.C) : callM Γ f rs s = .ok r s := by
  unfold callM
  rw [hp]
  show (frzs rs s).bind _ = _
  rw [ha]
  show (match Γ.call f ds s.C with | .bad => Out.bad | .exc x C => .exc x { s with C := C } | .ok r C => .ok r { s with C := C }) = _
  rw [h]
theorem frzs_nil {s : Sm} : frzs [] s = .ok [] s := rfl
theorem frzs_v {d : D} {rs : List Rv} {ds : List D} {s : Sm} (h : frzs rs s = .ok ds s) : frzs (.v d :: rs) s = .ok (d :: ds) s := by
  show (frzs rs s).bind (fun ds => M.pure (d :: ds)) = _
  rw [h]
  rfl
theorem isT' {s : Sm} {t : String} {d e : D} {b : Bool} (h0 : deref s.C d = e) (h : ((tyName e).bind fun a => isTyS a t) = some b) : bltM (.isinst t) [.v d] s = .ok (.v (.bl b)) s := by
  refine bltM_ok (ds := [e]) ?_ ?_
  · show consO (some (deref s.C d)) (some []) = _
    rw [h0]
    rfl
  · show (((tyName e).bind fun a => isTyS a t).map fun k => Rv.v (.bl k)) = _
    rw [h]
    rfl
theorem lenT' {s : Sm} {d : D} {xs : List D} {mk : List D → D} (hmk : mk = .lst ∨ mk = .tup) (h0 : deref s.C d = mk xs) : bltM .len [.v d] s = .ok (.v (.int xs.length)) s := by
  refine bltM_ok (ds := [mk xs]) ?_ ?_
  · show consO (some (deref s.C d)) (some []) = _
    rw [h0]
    rfl
  · rcases hmk with rfl | rfl <;> rfl
theorem seqv_ok {Γ : Gam} {a b : D} {xs ys : List D} {C : List (Option Ob)} {mk : List D → D} (hmk : mk = .lst ∨ mk = .tup) (da : deref C a = mk xs) (db : deref C b = mk ys) (hl : xs.length ≤ sizeLine) (he : xs.length = ys.length) (hp : Γ.isPure "_law_same" = false) (ih : ∀ (i : Nat) x y, xs[i]? = some x → ys[i]? = some y → Γ.call "_law_same" [x, y] C = .ok (.v (.bl true)) C) :
    ev Γ (.and (.cmp .eq (.blt .len (.cons (.loc 0) .nil)) (.blt .len (.cons (.loc 1) .nil))) (.blt .all (.cons (.comp (.nm 2) (.rng1 (.blt .len (.cons (.loc 1) .nil))) .nil (.call "_law_same" (.cons (.idx (.loc 0) (.loc 2)) (.cons (.idx (.loc 1) (.loc 2)) .nil)))) .nil))) ⟨[.val a, .val b, .no], C⟩ = .ok (.v (.bl true)) ⟨[.val a, .val b, .no], C⟩ := by
  have hlenA : ∀ ρ, bltM .len [.v a] ⟨ρ, C⟩ = .ok (.v (.int xs.length)) ⟨ρ, C⟩ := fun ρ => lenT' hmk da
  have hlenB : ∀ ρ, bltM .len [.v b] ⟨ρ, C⟩ = .ok (.v (.int xs.length)) ⟨ρ, C⟩ := fun ρ => by rw [he]; exact lenT' hmk db
  have hix : ∀ zs i, opIdx (mk zs) (.int i) = atI zs i := fun zs i => by rcases hmk with rfl | rfl <;> rfl
  have hs : small62 (xs.length : Int) = true := small_len hl
  have hc : ev Γ (.comp (.nm 2) (.rng1 (.blt .len (.cons (.loc 1) .nil))) .nil (.call "_law_same" (.cons (.idx (.loc 0) (.loc 2)) (.cons (.idx (.loc 1) (.loc 2)) .nil)))) ⟨[.val a, .val b, .no], C⟩ = .ok (.n (.lst (List.replicate xs.length (.bl true)))) ⟨[.val a, .val b, .no], C⟩ := by
    have hf : (rangeL 0 xs.length).filterMap (fun _ => some (D.bl true)) = List.replicate xs.length (.bl true) := by
      rw [List.filterMap_eq_map', List.map_const', rangeL_len]
    rw [← hf]
    refine comp_ok (ds := rangeL 0 xs.length) ?_ rfl (fun d hd' => ?_) (by rw [hf, List.length_replicate]; exact hl)
    · have e1 : ev Γ (.blt .len (.cons (.loc 1) .nil)) ⟨[.val a, .val b, .no], C⟩ = .ok (.v (.int xs.length)) ⟨[.val a, .val b, .no], C⟩ := by
        simp only [bind_at, out_ok, pure_at, a_loc, a_k, a_glob, a_bin, a_neg, a_cmp, cq_some, a_cell, ce_v, ce_o, a_chain, a_and, a_or, a_not, a_ife, a_lst, a_tup, a_idx, a_slc, a_call, a_blt, a_nil, a_cons, h_nil, h_cons, o_no, o_some, t_nil, t_cons, tv_at, i_seq, i_rng1, i_rng2, i_enum, p_v, p_s, peekS_val, peekS_own, d_int, d_bl, d_str, d_non, d_lst, d_tup, d_ro, ho_v, ho_s, ho_l, fr_v, fr_l, fr_s, frzV_val, frzV_own, oo_some, te_bl, te_int, te_non, te_lst, te_tup, ps_nil, ps_cons, pk_v, pk_s, consO_some, ad_nil, ad_cons, ad_v, ad_s, argS_val, argS_own, locV_val, locV_own, globV_some, negV_int, intO_int, slotV_some, x_nil, nextM_nx, nextM_ret, nextM_brk, nextM_ct, x_cons, x_asg, x_cell, x_par, g_v, g_n, g_s, g_tp, gd_nm, gd_2, gd_3, parM_two, x_expr, x_ret, r_v, r_n, r_s, retV_own, retV_val, x_retN, x_ite, x_raise, x_try, x_pass, x_brk, x_cont, x_setI, putI_int, x_augI, nn_v, nn_s, x_app, appM_lst, iteM_t, iteM_f, iteM_at, op_addI, op_subI, cm_lt, cm_le, cm_gt, cm_ge, cm_is, cm_isn, cm_eqI, cm_neI, ix_l, ix_t, ix_r, List.getElem?_cons_succ, List.getElem?_cons_zero, List.set_cons_succ, List.set_cons_zero, List.length_cons, List.length_nil, Nat.reduceAdd, Nat.reduceLT, Nat.reduceLeDiff, hlenB]
      rw [i_rng1, e1, out_ok, bind_at, p_v, d_int, out_ok, rngM_int hs, Int.toNat_natCast]
    · obtain ⟨i, hi⟩ := List.getElem?_of_mem hd'
      obtain ⟨h1, rfl⟩ := rangeL_get hi
      obtain ⟨x, hx⟩ : ∃ x, xs[i]? = some x := ⟨_, List.getElem?_eq_getElem h1⟩
      obtain ⟨y, hy⟩ : ∃ y, ys[i]? = some y := ⟨_, List.getElem?_eq_getElem (by omega)⟩
      have ha : atI xs (0 + (i : Int)) = some x := by rw [Int.zero_add]; exact atI_nat hx
      have hb : atI ys (0 + (i : Int)) = some y := by rw [Int.zero_add]; exact atI_nat hy
      have hcall : ∀ ρ, callM Γ "_law_same" [.v x, .v y] ⟨ρ, C⟩ = .ok (.v (.bl true)) ⟨ρ, C⟩ := fun ρ => callM_im hp (frzs_v (frzs_v frzs_nil)) (ih i x y hx hy)
      refine ⟨⟨[.val a, .val b, .val (.int (0 + i))], C⟩, ?_, rfl, rfl⟩
      show turnM Γ (.nm 2) .nil _ _ ⟨[.val a, .val b, .no], C⟩ = _
      unfold turnM elM
      simp only [bind_at, out_ok, pure_at, a_loc, a_k, a_glob, a_bin, a_neg, a_cmp, cq_some, a_cell, ce_v, ce_o, a_chain, a_and, a_or, a_not, a_ife, a_lst, a_tup, a_idx, a_slc, a_call, a_blt, a_nil, a_cons, h_nil, h_cons, o_no, o_some, t_nil, t_cons, tv_at, i_seq, i_rng1, i_rng2, i_enum, p_v, p_s, peekS_val, peekS_own, d_int, d_bl, d_str, d_non, d_lst, d_tup, d_ro, ho_v, ho_s, ho_l, fr_v, fr_l, fr_s, frzV_val, frzV_own, oo_some, te_bl, te_int, te_non, te_lst, te_tup, ps_nil, ps_cons, pk_v, pk_s, consO_some, ad_nil, ad_cons, ad_v, ad_s, argS_val, argS_own, locV_val, locV_own, globV_some, negV_int, intO_int, slotV_some, x_nil, nextM_nx, nextM_ret, nextM_brk, nextM_ct, x_cons, x_asg, x_cell, x_par, g_v, g_n, g_s, g_tp, gd_nm, gd_2, gd_3, parM_two, x_expr, x_ret, r_v, r_n, r_s, retV_own, retV_val, x_retN, x_ite, x_raise, x_try, x_pass, x_brk, x_cont, x_setI, putI_int, x_augI, nn_v, nn_s, x_app, appM_lst, iteM_t, iteM_f, iteM_at, op_addI, op_subI, cm_lt, cm_le, cm_gt, cm_ge, cm_is, cm_isn, cm_eqI, cm_neI, ix_l, ix_t, ix_r, List.getElem?_cons_succ, List.getElem?_cons_zero, List.set_cons_succ, List.set_cons_zero, List.length_cons, List.length_nil, Nat.reduceAdd, Nat.reduceLT, Nat.reduceLeDiff, da, db, hix, ha, hb, hcall, if_true]
  have hall : ∀ s : Sm, bltM .all [.v (.lst (List.replicate xs.length (.bl true)))] s = .ok (.v (.bl true)) s := fun s => bltM_ok rfl (all_true _)
  simp only [bind_at, out_ok, pure_at, a_loc, a_k, a_glob, a_bin, a_neg, a_cmp, cq_some, a_cell, ce_v, ce_o, a_chain, a_and, a_or, a_not, a_ife, a_lst, a_tup, a_idx, a_slc, a_call, a_blt, a_nil, a_cons, h_nil, h_cons, o_no, o_some, t_nil, t_cons, tv_at, i_seq, i_rng1, i_rng2, i_enum, p_v, p_s, peekS_val, peekS_own, d_int, d_bl, d_str, d_non, d_lst, d_tup, d_ro, ho_v, ho_s, ho_l, fr_v, fr_l, fr_s, frzV_val, frzV_own, oo_some, te_bl, te_int, te_non, te_lst, te_tup, ps_nil, ps_cons, pk_v, pk_s, consO_some, ad_nil, ad_cons, ad_v, ad_s, argS_val, argS_own, locV_val, locV_own, globV_some, negV_int, intO_int, slotV_some, x_nil, nextM_nx, nextM_ret, nextM_brk, nextM_ct, x_cons, x_asg, x_cell, x_par, g_v, g_n, g_s, g_tp, gd_nm, gd_2, gd_3, parM_two, x_expr, x_ret, r_v, r_n, r_s, retV_own, retV_val, x_retN, x_ite, x_raise, x_try, x_pass, x_brk, x_cont, x_setI, putI_int, x_augI, nn_v, nn_s, x_app, appM_lst, iteM_t, iteM_f, iteM_at, op_addI, op_subI, cm_lt, cm_le, cm_gt, cm_ge, cm_is, cm_isn, cm_eqI, cm_neI, ix_l, ix_t, ix_r, List.getElem?_cons_succ, List.getElem?_cons_zero, List.set_cons_succ, List.set_cons_zero, List.length_cons, List.length_nil, Nat.reduceAdd, Nat.reduceLT, Nat.reduceLeDiff, hlenA, hlenB, hc, hall, decide_true, if_true]
theorem deref_at {C : List (Option Ob)} {d e : D} (h : deref C d = e) {ρ : List Slot} : peekM (.v d) ⟨ρ, C⟩ = .ok e ⟨ρ, C⟩ := by rw [p_v, h]
theorem oc_eq {o : Oc} {C : List (Option Ob)} {v : Rv} (h : OcW o fun r C' => r = v ∧ C' = C) : o = .ok v C := by
  cases o with
  | ok r C' =>
    have h : r = v ∧ C' = C := h
    rw [h.1, h.2]
  | exc x C' => exact h.elim
  | bad => exact h.elim
theorem same_im {T : Txt} {e : Ent} (he : findE "_law_same" T.ents = some e) (hd : e.d = sameD) (hp : ("_law_same" : Str) ∉ T.pure) {C : List (Option Ob)} : ∀ (n k : Nat) (a b : D), Eqv C n a b → (T.gam (k + n + 1)).call "_law_same" [a, b] C = .ok (.v (.bl true)) C := fun n => by
  have low : ∀ (k : Nat) (a : D), (a = .non ∨ (∃ b, a = .bl b) ∨ (∃ b, a = .int b) ∨ ∃ b, a = .str b) → (T.gam (k + 1)).call "_law_same" [a, a] C = .ok (.v (.bl true)) C := fun k d h => by
    rw [gam_call he, hd]
    refine oc_eq ?_
    refine run_w rfl (by decide) (ρ := [.val d, .val d, .no]) rfl ?_
    rcases h with rfl | ⟨b, rfl⟩ | ⟨b, rfl⟩ | ⟨b, rfl⟩
    · have i1 : ∀ s : Sm, bltM (.isinst "list") [.v .non] s = .ok (.v (.bl false)) s := fun s => isT rfl rfl
      have i2 : ∀ s : Sm, bltM (.isinst "tuple") [.v .non] s = .ok (.v (.bl false)) s := fun s => isT rfl rfl
      simp only [sameD, bind_at, out_ok, pure_at, a_loc, a_k, a_glob, a_bin, a_neg, a_cmp, cq_some, a_cell, ce_v, ce_o, a_chain, a_and, a_or, a_not, a_ife, a_lst, a_tup, a_idx, a_slc, a_call, a_blt, a_nil, a_cons, h_nil, h_cons, o_no, o_some, t_nil, t_cons, tv_at, i_seq, i_rng1, i_rng2, i_enum, p_v, p_s, peekS_val, peekS_own, d_int, d_bl, d_str, d_non, d_lst, d_tup, d_ro, ho_v, ho_s, ho_l, fr_v, fr_l, fr_s, frzV_val, frzV_own, oo_some, te_bl, te_int, te_non, te_lst, te_tup, ps_nil, ps_cons, pk_v, pk_s, consO_some, ad_nil, ad_cons, ad_v, ad_s, argS_val, argS_own, locV_val, locV_own, globV_some, negV_int, intO_int, slotV_some, x_nil, nextM_nx, nextM_ret, nextM_brk, nextM_ct, x_cons, x_asg, x_cell, x_par, g_v, g_n, g_s, g_tp, gd_nm, gd_2, gd_3, parM_two, x_expr, x_ret, r_v, r_n, r_s, retV_own, retV_val, x_retN, x_ite, x_raise, x_try, x_pass, x_brk, x_cont, x_setI, putI_int, x_augI, nn_v, nn_s, x_app, appM_lst, iteM_t, iteM_f, iteM_at, op_addI, op_subI, cm_lt, cm_le, cm_gt, cm_ge, cm_is, cm_isn, cm_eqI, cm_neI, ix_l, ix_t, ix_r, List.getElem?_cons_succ, List.getElem?_cons_zero, List.set_cons_succ, List.set_cons_zero, List.length_cons, List.length_nil, Nat.reduceAdd, Nat.reduceLT, Nat.reduceLeDiff, i1, i2, isNonD, if_true, Bool.false_eq_true, if_false, w_ok, and_self]
    · have i1 : ∀ s : Sm, bltM (.isinst "list") [.v (.bl b)] s = .ok (.v (.bl false)) s := fun s => isT rfl rfl
      have i2 : ∀ s : Sm, bltM (.isinst "tuple") [.v (.bl b)] s = .ok (.v (.bl false)) s := fun s => isT rfl rfl
      have i3 : ∀ s : Sm, bltM (.isinst "bool") [.v (.bl b)] s = .ok (.v (.bl true)) s := fun s => isT rfl rfl
      have q : opCmp .eq (.bl b) (.bl b) = some true := eqD_self ⟨b, .inl rfl⟩
      simp only [sameD, bind_at, out_ok, pure_at, a_loc, a_k, a_glob, a_bin, a_neg, a_cmp, cq_some, a_cell, ce_v, ce_o, a_chain, a_and, a_or, a_not, a_ife, a_lst, a_tup, a_idx, a_slc, a_call, a_blt, a_nil, a_cons, h_nil, h_cons, o_no, o_some, t_nil, t_cons, tv_at, i_seq, i_rng1, i_rng2, i_enum, p_v, p_s, peekS_val, peekS_own, d_int, d_bl, d_str, d_non, d_lst, d_tup, d_ro, ho_v, ho_s, ho_l, fr_v, fr_l, fr_s, frzV_val, frzV_own, oo_some, te_bl, te_int, te_non, te_lst, te_tup, ps_nil, ps_cons, pk_v, pk_s, consO_some, ad_nil, ad_cons, ad_v, ad_s, argS_val, argS_own, locV_val, locV_own, globV_some, negV_int, intO_int, slotV_some, x_nil, nextM_nx, nextM_ret, nextM_brk, nextM_ct, x_cons, x_asg, x_cell, x_par, g_v, g_n, g_s, g_tp, gd_nm, gd_2, gd_3, parM_two, x_expr, x_ret, r_v, r_n, r_s, retV_own, retV_val, x_retN, x_ite, x_raise, x_try, x_pass, x_brk, x_cont, x_setI, putI_int, x_augI, nn_v, nn_s, x_app, appM_lst, iteM_t, iteM_f, iteM_at, op_addI, op_subI, cm_lt, cm_le, cm_gt, cm_ge, cm_is, cm_isn, cm_eqI, cm_neI, ix_l, ix_t, ix_r, List.getElem?_cons_succ, List.getElem?_cons_zero, List.set_cons_succ, List.set_cons_zero, List.length_cons, List.length_nil, Nat.reduceAdd, Nat.reduceLT, Nat.reduceLeDiff, i1, i2, i3, isNonD, q, if_true, Bool.false_eq_true, if_false, w_ok, and_self]
    · have i1 : ∀ s : Sm, bltM (.isinst "list") [.v (.int b)] s = .ok (.v (.bl false)) s := fun s => isT rfl rfl
      have i2 : ∀ s : Sm, bltM (.isinst "tuple") [.v (.int b)] s = .ok (.v (.bl false)) s := fun s => isT rfl rfl
      have i3 : ∀ s : Sm, bltM (.isinst "bool") [.v (.int b)] s = .ok (.v (.bl false)) s := fun s => isT rfl rfl
      have i4 : ∀ s : Sm, bltM (.isinst "str") [.v (.int b)] s = .ok (.v (.bl false)) s := fun s => isT rfl rfl
      have i5 : ∀ s : Sm, bltM (.isinst "int") [.v (.int b)] s = .ok (.v (.bl true)) s := fun s => isT rfl rfl
      simp only [sameD, bind_at, out_ok, pure_at, a_loc, a_k, a_glob, a_bin, a_neg, a_cmp, cq_some, a_cell, ce_v, ce_o, a_chain, a_and, a_or, a_not, a_ife, a_lst, a_tup, a_idx, a_slc, a_call, a_blt, a_nil, a_cons, h_nil, h_cons, o_no, o_some, t_nil, t_cons, tv_at, i_seq, i_rng1, i_rng2, i_enum, p_v, p_s, peekS_val, peekS_own, d_int, d_bl, d_str, d_non, d_lst, d_tup, d_ro, ho_v, ho_s, ho_l, fr_v, fr_l, fr_s, frzV_val, frzV_own, oo_some, te_bl, te_int, te_non, te_lst, te_tup, ps_nil, ps_cons, pk_v, pk_s, consO_some, ad_nil, ad_cons, ad_v, ad_s, argS_val, argS_own, locV_val, locV_own, globV_some, negV_int, intO_int, slotV_some, x_nil, nextM_nx, nextM_ret, nextM_brk, nextM_ct, x_cons, x_asg, x_cell, x_par, g_v, g_n, g_s, g_tp, gd_nm, gd_2, gd_3, parM_two, x_expr, x_ret, r_v, r_n, r_s, retV_own, retV_val, x_retN, x_ite, x_raise, x_try, x_pass, x_brk, x_cont, x_setI, putI_int, x_augI, nn_v, nn_s, x_app, appM_lst, iteM_t, iteM_f, iteM_at, op_addI, op_subI, cm_lt, cm_le, cm_gt, cm_ge, cm_is, cm_isn, cm_eqI, cm_neI, ix_l, ix_t, ix_r, List.getElem?_cons_succ, List.getElem?_cons_zero, List.set_cons_succ, List.set_cons_zero, List.length_cons, List.length_nil, Nat.reduceAdd, Nat.reduceLT, Nat.reduceLeDiff, i1, i2, i3, i4, i5, isNonD, decide_true, Bool.not_false, if_true, Bool.false_eq_true, if_false, w_ok, and_self]
    · have i1 : ∀ s : Sm, bltM (.isinst "list") [.v (.str b)] s = .ok (.v (.bl false)) s := fun s => isT rfl rfl
      have i2 : ∀ s : Sm, bltM (.isinst "tuple") [.v (.str b)] s = .ok (.v (.bl false)) s := fun s => isT rfl rfl
      have i3 : ∀ s : Sm, bltM (.isinst "bool") [.v (.str b)] s = .ok (.v (.bl false)) s := fun s => isT rfl rfl
      have i4 : ∀ s : Sm, bltM (.isinst "str") [.v (.str b)] s = .ok (.v (.bl true)) s := fun s => isT rfl rfl
      have q : opCmp .eq (.str b) (.str b) = some true := eqD_self ⟨true, .inr (.inr ⟨b, rfl⟩)⟩
      simp only [sameD, bind_at, out_ok, pure_at, a_loc, a_k, a_glob, a_bin, a_neg, a_cmp, cq_some, a_cell, ce_v, ce_o, a_chain, a_and, a_or, a_not, a_ife, a_lst, a_tup, a_idx, a_slc, a_call, a_blt, a_nil, a_cons, h_nil, h_cons, o_no, o_some, t_nil, t_cons, tv_at, i_seq, i_rng1, i_rng2, i_enum, p_v, p_s, peekS_val, peekS_own, d_int, d_bl, d_str, d_non, d_lst, d_tup, d_ro, ho_v, ho_s, ho_l, fr_v, fr_l, fr_s, frzV_val, frzV_own, oo_some, te_bl, te_int, te_non, te_lst, te_tup, ps_nil, ps_cons, pk_v, pk_s, consO_some, ad_nil, ad_cons, ad_v, ad_s, argS_val, argS_own, locV_val, locV_own, globV_some, negV_int, intO_int, slotV_some, x_nil, nextM_nx, nextM_ret, nextM_brk, nextM_ct, x_cons, x_asg, x_cell, x_par, g_v, g_n, g_s, g_tp, gd_nm, gd_2, gd_3, parM_two, x_expr, x_ret, r_v, r_n, r_s, retV_own, retV_val, x_retN, x_ite, x_raise, x_try, x_pass, x_brk, x_cont, x_setI, putI_int, x_augI, nn_v, nn_s, x_app, appM_lst, iteM_t, iteM_f, iteM_at, op_addI, op_subI, cm_lt, cm_le, cm_gt, cm_ge, cm_is, cm_isn, cm_eqI, cm_neI, ix_l, ix_t, ix_r, List.getElem?_cons_succ, List.getElem?_cons_zero, List.set_cons_succ, List.set_cons_zero, List.length_cons, List.length_nil, Nat.reduceAdd, Nat.reduceLT, Nat.reduceLeDiff, i1, i2, i3, i4, isNonD, q, if_true, Bool.false_eq_true, if_false, w_ok, and_self]
  induction n with
  | zero =>
    intro k a b h
    cases h with
    | non => exact low k _ (.inl rfl)
    | bl => exact low k _ (.inr (.inl ⟨_, rfl⟩))
    | int => exact low k _ (.inr (.inr (.inl ⟨_, rfl⟩)))
    | str => exact low k _ (.inr (.inr (.inr ⟨_, rfl⟩)))
  | succ n ihn =>
    intro k a b h
    have hp' : (T.gam (k + (n + 1))).isPure "_law_same" = false := by rw [gam_pure]; exact decide_eq_false hp
    have e1 : k + (n + 1) + 1 = k + (n + 1) + 1 := rfl
    cases h with
    | non => exact low (k + (n + 1)) _ (.inl rfl)
    | bl => exact low (k + (n + 1)) _ (.inr (.inl ⟨_, rfl⟩))
    | int => exact low (k + (n + 1)) _ (.inr (.inr (.inl ⟨_, rfl⟩)))
    | str => exact low (k + (n + 1)) _ (.inr (.inr (.inr ⟨_, rfl⟩)))
    | lst da db hl hle hx =>
      rename_i xs ys
      rw [gam_call he, hd]
      refine oc_eq ?_
      refine run_w rfl (by decide) (ρ := [.val a, .val b, .no]) rfl ?_
      have i1 : ∀ ρ, bltM (.isinst "list") [.v b] ⟨ρ, C⟩ = .ok (.v (.bl true)) ⟨ρ, C⟩ := fun ρ => isT' db rfl
      have i2 : ∀ ρ, bltM (.isinst "tuple") [.v b] ⟨ρ, C⟩ = .ok (.v (.bl false)) ⟨ρ, C⟩ := fun ρ => isT' db rfl
      have j1 : ∀ ρ, bltM (.isinst "list") [.v a] ⟨ρ, C⟩ = .ok (.v (.bl true)) ⟨ρ, C⟩ := fun ρ => isT' da rfl
      have j2 : ∀ ρ, bltM (.isinst "tuple") [.v a] ⟨ρ, C⟩ = .ok (.v (.bl false)) ⟨ρ, C⟩ := fun ρ => isT' da rfl
      have main := seqv_ok (Γ := T.gam (k + (n + 1))) (.inl rfl) da db hl hle hp' fun i x y h1 h2 => ihn k x y (hx i x y h1 h2)
      generalize hE : (E.and (.cmp .eq (.blt .len (.cons (.loc 0) .nil)) (.blt .len (.cons (.loc 1) .nil))) (.blt .all (.cons (.comp (.nm 2) (.rng1 (.blt .len (.cons (.loc 1) .nil))) .nil (.call "_law_same" (.cons (.idx (.loc 0) (.loc 2)) (.cons (.idx (.loc 1) (.loc 2)) .nil)))) .nil))) = big at main
      unfold sameD
      rw [hE]
      simp only [bind_at, out_ok, pure_at, a_loc, a_k, a_glob, a_bin, a_neg, a_cmp, cq_some, a_cell, ce_v, ce_o, a_chain, a_and, a_or, a_not, a_ife, a_lst, a_tup, a_idx, a_slc, a_call, a_blt, a_nil, a_cons, h_nil, h_cons, o_no, o_some, t_nil, t_cons, tv_at, i_seq, i_rng1, i_rng2, i_enum, p_v, p_s, peekS_val, peekS_own, d_int, d_bl, d_str, d_non, d_lst, d_tup, d_ro, ho_v, ho_s, ho_l, fr_v, fr_l, fr_s, frzV_val, frzV_own, oo_some, te_bl, te_int, te_non, te_lst, te_tup, ps_nil, ps_cons, pk_v, pk_s, consO_some, ad_nil, ad_cons, ad_v, ad_s, argS_val, argS_own, locV_val, locV_own, globV_some, negV_int, intO_int, slotV_some, x_nil, nextM_nx, nextM_ret, nextM_brk, nextM_ct, x_cons, x_asg, x_cell, x_par, g_v, g_n, g_s, g_tp, gd_nm, gd_2, gd_3, parM_two, x_expr, x_ret, r_v, r_n, r_s, retV_own, retV_val, x_retN, x_ite, x_raise, x_try, x_pass, x_brk, x_cont, x_setI, putI_int, x_augI, nn_v, nn_s, x_app, appM_lst, iteM_t, iteM_f, iteM_at, op_addI, op_subI, cm_lt, cm_le, cm_gt, cm_ge, cm_is, cm_isn, cm_eqI, cm_neI, ix_l, ix_t, ix_r, List.getElem?_cons_succ, List.getElem?_cons_zero, List.set_cons_succ, List.set_cons_zero, List.length_cons, List.length_nil, Nat.reduceAdd, Nat.reduceLT, Nat.reduceLeDiff, i1, i2, j1, j2, cm_neB, decide_true, Bool.not_true, if_true, Bool.false_eq_true, if_false, main, w_ok, and_self]
    | tup hl hle hx =>
      rename_i xs ys
      rw [gam_call he, hd]
      refine oc_eq ?_
      refine run_w rfl (by decide) (ρ := [.val (.tup xs), .val (.tup ys), .no]) rfl ?_
      have i1 : ∀ ys (ρ : List Slot), bltM (.isinst "list") [.v (.tup ys)] ⟨ρ, C⟩ = .ok (.v (.bl false)) ⟨ρ, C⟩ := fun ys ρ => isT' rfl rfl
      have i2 : ∀ ys (ρ : List Slot), bltM (.isinst "tuple") [.v (.tup ys)] ⟨ρ, C⟩ = .ok (.v (.bl true)) ⟨ρ, C⟩ := fun ys ρ => isT' rfl rfl
      have main := seqv_ok (Γ := T.gam (k + (n + 1))) (C := C) (a := .tup xs) (b := .tup ys) (.inr rfl) rfl rfl hl hle hp' fun i x y h1 h2 => ihn k x y (hx i x y h1 h2)
      generalize hE : (E.and (.cmp .eq (.blt .len (.cons (.loc 0) .nil)) (.blt .len (.cons (.loc 1) .nil))) (.blt .all (.cons (.comp (.nm 2) (.rng1 (.blt .len (.cons (.loc 1) .nil))) .nil (.call "_law_same" (.cons (.idx (.loc 0) (.loc 2)) (.cons (.idx (.loc 1) (.loc 2)) .nil)))) .nil))) = big at main
      unfold sameD
      rw [hE]
      simp only [bind_at, out_ok, pure_at, a_loc, a_k, a_glob, a_bin, a_neg, a_cmp, cq_some, a_cell, ce_v, ce_o, a_chain, a_and, a_or, a_not, a_ife, a_lst, a_tup, a_idx, a_slc, a_call, a_blt, a_nil, a_cons, h_nil, h_cons, o_no, o_some, t_nil, t_cons, tv_at, i_seq, i_rng1, i_rng2, i_enum, p_v, p_s, peekS_val, peekS_own, d_int, d_bl, d_str, d_non, d_lst, d_tup, d_ro, ho_v, ho_s, ho_l, fr_v, fr_l, fr_s, frzV_val, frzV_own, oo_some, te_bl, te_int, te_non, te_lst, te_tup, ps_nil, ps_cons, pk_v, pk_s, consO_some, ad_nil, ad_cons, ad_v, ad_s, argS_val, argS_own, locV_val, locV_own, globV_some, negV_int, intO_int, slotV_some, x_nil, nextM_nx, nextM_ret, nextM_brk, nextM_ct, x_cons, x_asg, x_cell, x_par, g_v, g_n, g_s, g_tp, gd_nm, gd_2, gd_3, parM_two, x_expr, x_ret, r_v, r_n, r_s, retV_own, retV_val, x_retN, x_ite, x_raise, x_try, x_pass, x_brk, x_cont, x_setI, putI_int, x_augI, nn_v, nn_s, x_app, appM_lst, iteM_t, iteM_f, iteM_at, op_addI, op_subI, cm_lt, cm_le, cm_gt, cm_ge, cm_is, cm_isn, cm_eqI, cm_neI, ix_l, ix_t, ix_r, List.getElem?_cons_succ, List.getElem?_cons_zero, List.set_cons_succ, List.set_cons_zero, List.length_cons, List.length_nil, Nat.reduceAdd, Nat.reduceLT, Nat.reduceLeDiff, i1, i2, cm_neB, decide_true, Bool.not_true, if_true, Bool.false_eq_true, if_false, main, w_ok, and_self]
end IR

set_option Elab.async false
set_option linter.all false
set_option maxRecDepth 100000
namespace Law
open PySem L2 IR
def sAt (i : Nat) : Stmt := PySem.Challenge.pw_sendsure_k95_whole_steps_of_calls.main.body.getD i (.Pass ⟨0, 0, 0, 0⟩)
def d_first_call : Def := ⟨0, 0, (.cons (.ret (.tup (.cons (.tup (.cons (.k (.int 0)) (.cons (.cell (.glob "SHUT")) (.cons (.cell (.glob "NOBODY")) .nil)))) (.cons (.tup (.cons (.k (.int 0)) (.cons (.cell (.glob "SHUT")) (.cons (.cell (.glob "NOBODY")) .nil)))) (.cons (.cell (.lst .nil)) (.cons (.cell (.lst .nil)) .nil)))))) .nil)⟩
def e_first_call : Ent := ⟨"first_call", sAt 12, [], [], [], d_first_call, true⟩
def d_put_on : Def := ⟨2, 2, (.cons (.ret (.ife (.loc 0) (.blt .list (.cons (.loc 0) .nil)) (.lst (.cons (.loc 1) .nil)))) .nil)⟩
def e_put_on : Ent := ⟨"put_on", sAt 13, ["road", "letter"], ["road", "letter"], [], d_put_on, false⟩
def d_arrived_there : Def := ⟨12, 4, (.cons (.asg (.tp [4, 5, 6, 7]) (.loc 2)) (.cons (.asg (.nm 8) (.idx (.loc 6) (.k (.int 0)))) (.cons (.asg (.nm 9) (.ife (.loc 3) (.blt .list (.cons (.loc 6) .nil)) (.lst .nil))) (.cons (.ite (.cmp .eq (.idx (.loc 8) (.k (.int 0))) (.k (.str "ask"))) (.cons (.asg (.nm 10) (.bin .mod (.bin .add (.idx (.loc 5) (.k (.int 0))) (.k (.int 1))) (.loc 1))) (.cons (.asg (.nm 11) (.ife (.cmp .gt (.loc 0) (.k (.int 2))) (.glob "WAITS") (.glob "OPEN"))) (.cons (.ret (.tup (.cons (.cell (.loc 4)) (.cons (.tup (.cons (.cell (.loc 10)) (.cons (.cell (.loc 11)) (.cons (.idx (.loc 8) (.k (.int 1))) .nil)))) (.cons (.cell (.loc 9)) (.cons (.cell (.call "put_on" (.cons (.loc 7) (.cons (.tup (.cons (.k (.str "yes")) (.cons (.cell (.loc 10)) (.cons (.idx (.loc 8) (.k (.int 1))) .nil)))) .nil)))) .nil)))))) .nil))) .nil) (.cons (.ite (.and (.cmp .eq (.idx (.loc 5) (.k (.int 1))) (.glob "WAITS")) (.cmp .eq (.idx (.loc 8) (.k (.int 1))) (.idx (.loc 5) (.k (.int 0))))) (.cons (.asg (.nm 5) (.tup (.cons (.idx (.loc 5) (.k (.int 0))) (.cons (.cell (.glob "OPEN")) (.cons (.idx (.loc 5) (.k (.int 2))) .nil))))) .nil) .nil) (.cons (.ret (.tup (.cons (.cell (.loc 4)) (.cons (.cell (.loc 5)) (.cons (.cell (.loc 9)) (.cons (.cell (.blt .list (.cons (.loc 7) .nil))) .nil)))))) .nil))))))⟩
def e_arrived_there : Ent := ⟨"arrived_there", sAt 14, ["kind", "lives", "state", "stays", "asker", "answerer", "there", "back", "letter", "left", "life", "word"], ["kind", "lives", "state", "stays"], [], d_arrived_there, true⟩
def d_arrived_back : Def := ⟨12, 3, (.cons (.asg (.tp [3, 4, 5, 6]) (.loc 1)) (.cons (.asg (.tp [7, 8, 9]) (.idx (.loc 6) (.k (.int 0)))) (.cons (.asg (.nm 10) (.ife (.loc 2) (.blt .list (.cons (.loc 6) .nil)) (.lst .nil))) (.cons (.ite (.or (.cmp .eq (.idx (.loc 3) (.k (.int 1))) (.glob "SHUT")) (.cmp .ne (.loc 9) (.idx (.loc 3) (.k (.int 0))))) (.cons (.ret (.tup (.cons (.cell (.loc 3)) (.cons (.cell (.loc 4)) (.cons (.cell (.blt .list (.cons (.loc 5) .nil))) (.cons (.cell (.loc 10)) .nil)))))) .nil) .nil) (.cons (.asg (.nm 11) (.ife (.cmp .gt (.loc 0) (.k (.int 2))) (.call "put_on" (.cons (.loc 5) (.cons (.tup (.cons (.k (.str "ok")) (.cons (.cell (.loc 8)) .nil))) .nil))) (.blt .list (.cons (.loc 5) .nil)))) (.cons (.ret (.tup (.cons (.tup (.cons (.idx (.loc 3) (.k (.int 0))) (.cons (.cell (.glob "OPEN")) (.cons (.cell (.loc 8)) .nil)))) (.cons (.cell (.loc 4)) (.cons (.cell (.loc 11)) (.cons (.cell (.loc 10)) .nil)))))) .nil))))))⟩
def e_arrived_back : Ent := ⟨"arrived_back", sAt 15, ["kind", "state", "stays", "asker", "answerer", "there", "back", "_", "life", "mine", "left", "road"], ["kind", "state", "stays"], [], d_arrived_back, true⟩
def d_can_be_done : Def := ⟨6, 2, (.cons (.asg (.tp [2, 3, 4, 5]) (.loc 0)) (.cons (.ite (.cmp .inn (.loc 1) (.glob "OF_THERE")) (.cons (.ret (.cmp .ne (.loc 4) (.lst .nil))) .nil) .nil) (.cons (.ite (.cmp .inn (.loc 1) (.glob "OF_BACK")) (.cons (.ret (.cmp .ne (.loc 5) (.lst .nil))) .nil) .nil) (.cons (.ite (.cmp .eq (.loc 1) (.k (.str "ask"))) (.cons (.ret (.cmp .eq (.idx (.loc 2) (.k (.int 1))) (.glob "SHUT"))) .nil) .nil) (.cons (.ite (.cmp .eq (.loc 1) (.k (.str "again"))) (.cons (.ret (.cmp .eq (.idx (.loc 2) (.k (.int 1))) (.glob "ASKS"))) .nil) .nil) (.cons (.ite (.cmp .eq (.loc 1) (.k (.str "drop"))) (.cons (.ret (.cmp .ne (.idx (.loc 2) (.k (.int 1))) (.glob "SHUT"))) .nil) .nil) (.cons (.ret (.and (.cmp .eq (.loc 1) (.k (.str "other drops"))) (.cmp .ne (.idx (.loc 3) (.k (.int 1))) (.glob "SHUT")))) .nil)))))))⟩
def e_can_be_done : Ent := ⟨"can_be_done", sAt 16, ["state", "word", "asker", "answerer", "there", "back"], ["state", "word"], [], d_can_be_done, false⟩
def d_call_step : Def := ⟨10, 4, (.cons (.asg (.nm 4) (.idx (.loc 3) (.k (.int 0)))) (.cons (.ite (.or (.cmp .ne (.blt .len (.cons (.loc 3) .nil)) (.k (.int 1))) (.not (.call "can_be_done" (.cons (.loc 2) (.cons (.loc 4) .nil))))) (.cons (.raise "NoDeed" .nil) .nil) .nil) (.cons (.asg (.tp [5, 6, 7, 8]) (.loc 2)) (.cons (.ite (.cmp .eq (.loc 4) (.k (.str "lose"))) (.cons (.ret (.tup (.cons (.cell (.loc 5)) (.cons (.cell (.loc 6)) (.cons (.cell (.lst .nil)) (.cons (.cell (.blt .list (.cons (.loc 8) .nil))) .nil)))))) .nil) .nil) (.cons (.ite (.cmp .eq (.loc 4) (.k (.str "back lost"))) (.cons (.ret (.tup (.cons (.cell (.loc 5)) (.cons (.cell (.loc 6)) (.cons (.cell (.blt .list (.cons (.loc 7) .nil))) (.cons (.cell (.lst .nil)) .nil)))))) .nil) .nil) (.cons (.ite (.cmp .inn (.loc 4) (.glob "OF_THERE")) (.cons (.ret (.call "arrived_there" (.cons (.loc 0) (.cons (.loc 1) (.cons (.loc 2) (.cons (.cmp .eq (.loc 4) (.k (.str "come again"))) .nil)))))) .nil) .nil) (.cons (.ite (.cmp .inn (.loc 4) (.glob "OF_BACK")) (.cons (.ret (.call "arrived_back" (.cons (.loc 0) (.cons (.loc 2) (.cons (.cmp .eq (.loc 4) (.k (.str "back again"))) .nil))))) .nil) .nil) (.cons (.ite (.cmp .eq (.loc 4) (.k (.str "drop"))) (.cons (.ret (.tup (.cons (.tup (.cons (.idx (.loc 5) (.k (.int 0))) (.cons (.cell (.glob "SHUT")) (.cons (.cell (.glob "NOBODY")) .nil)))) (.cons (.cell (.loc 6)) (.cons (.cell (.blt .list (.cons (.loc 7) .nil))) (.cons (.cell (.blt .list (.cons (.loc 8) .nil))) .nil)))))) .nil) .nil) (.cons (.ite (.cmp .eq (.loc 4) (.k (.str "other drops"))) (.cons (.ret (.tup (.cons (.cell (.loc 5)) (.cons (.tup (.cons (.idx (.loc 6) (.k (.int 0))) (.cons (.cell (.glob "SHUT")) (.cons (.cell (.glob "NOBODY")) .nil)))) (.cons (.cell (.blt .list (.cons (.loc 7) .nil))) (.cons (.cell (.blt .list (.cons (.loc 8) .nil))) .nil)))))) .nil) .nil) (.cons (.asg (.nm 9) (.ife (.cmp .eq (.loc 4) (.k (.str "ask"))) (.bin .mod (.bin .add (.idx (.loc 5) (.k (.int 0))) (.k (.int 1))) (.loc 1)) (.idx (.loc 5) (.k (.int 0))))) (.cons (.ret (.tup (.cons (.tup (.cons (.cell (.loc 9)) (.cons (.cell (.glob "ASKS")) (.cons (.cell (.glob "NOBODY")) .nil)))) (.cons (.cell (.loc 6)) (.cons (.cell (.call "put_on" (.cons (.loc 7) (.cons (.tup (.cons (.k (.str "ask")) (.cons (.cell (.loc 9)) .nil))) .nil)))) (.cons (.cell (.blt .list (.cons (.loc 8) .nil))) .nil)))))) .nil)))))))))))⟩
def e_call_step : Ent := ⟨"call_step", sAt 17, ["kind", "lives", "state", "deed", "word", "asker", "answerer", "there", "back", "life"], ["kind", "lives", "state", "deed"], [], d_call_step, true⟩
def d_is_mixed : Def := ⟨3, 1, (.cons (.asg (.tp [1, 2]) (.slc (.loc 0) .no (.some (.k (.int 2))))) (.cons (.ite (.or (.cmp .ne (.idx (.loc 1) (.k (.int 1))) (.glob "OPEN")) (.cmp .ne (.idx (.loc 2) (.k (.int 1))) (.glob "OPEN"))) (.cons (.ret (.k (.bl false))) .nil) .nil) (.cons (.ret (.or (.cmp .ne (.idx (.loc 1) (.k (.int 2))) (.idx (.loc 2) (.k (.int 0)))) (.cmp .ne (.idx (.loc 2) (.k (.int 2))) (.idx (.loc 1) (.k (.int 0)))))) .nil)))⟩
def e_is_mixed : Ent := ⟨"is_mixed", sAt 18, ["state", "asker", "answerer"], ["state"], [], d_is_mixed, false⟩
def d__law_feed : Def := ⟨1, 1, (.cons (.ret (.lst (.cons (.blt .list (.cons (.loc 0) .nil)) (.cons (.k (.int 0)) (.cons (.k (.int 0)) (.cons (.k (.int 1)) .nil)))))) .nil)⟩
def e__law_feed : Ent := ⟨"_law_feed", sAt 20, ["script"], ["script"], [], d__law_feed, false⟩
def d__law_draw : Def := ⟨5, 2, (.cons (.ite (.and (.cmp .eq (.idx (.loc 0) (.k (.int 2))) (.k (.int 0))) (.cmp .lt (.idx (.loc 0) (.k (.int 1))) (.blt .len (.cons (.idx (.loc 0) (.k (.int 0))) .nil)))) (.cons (.asg (.nm 2) (.blt .abs (.cons (.blt .int (.cons (.idx (.idx (.loc 0) (.k (.int 0))) (.idx (.loc 0) (.k (.int 1)))) .nil)) .nil))) (.cons (.augI (.loc 0) (.k (.int 1)) .add (.k (.int 1))) (.cons (.ite (.cmp .ge (.loc 2) (.bin .pow (.k (.int 10)) (.k (.int 18)))) (.cons (.setI (.loc 0) (.k (.int 2)) (.loc 2)) .nil) (.cons (.setI (.loc 0) (.k (.int 3)) (.bin .mod (.blt .int (.cons (.bin .add (.bin .add (.bin .mul (.idx (.loc 0) (.k (.int 3))) (.k (.int 48271))) (.bin .mul (.loc 2) (.k (.int 69621)))) (.idx (.loc 0) (.k (.int 1)))) .nil)) (.k (.int 2147483647)))) .nil)) .nil))) .nil) (.cons (.ite (.cmp .gt (.idx (.loc 0) (.k (.int 2))) (.k (.int 0))) (.cons (.asg (.nm 3) (.bin .mod (.blt .int (.cons (.idx (.loc 0) (.k (.int 2))) .nil)) (.loc 1))) (.cons (.setI (.loc 0) (.k (.int 2)) (.bin .fdiv (.idx (.loc 0) (.k (.int 2))) (.loc 1))) (.cons (.ret (.loc 3)) .nil))) .nil) (.cons (.setI (.loc 0) (.k (.int 3)) (.bin .mod (.blt .int (.cons (.bin .add (.bin .mul (.idx (.loc 0) (.k (.int 3))) (.k (.int 16807))) (.k (.int 12345))) .nil)) (.k (.int 2147483647)))) (.cons (.asg (.nm 4) (.bin .mod (.blt .int (.cons (.bin .add (.bin .mul (.idx (.loc 0) (.k (.int 3))) (.idx (.loc 0) (.k (.int 3)))) (.idx (.loc 0) (.k (.int 3)))) .nil)) (.k (.int 2147483629)))) (.cons (.ret (.bin .mod (.bin .fdiv (.loc 4) (.k (.int 11))) (.loc 1))) .nil)))))⟩
def e__law_draw : Ent := ⟨"_law_draw", sAt 21, ["feed", "many", "cell", "told", "mixed"], ["feed", "many"], [], d__law_draw, false⟩
def d__law_same : Def := ⟨3, 2, (.cons (.ite (.or (.blt (.isinst "list") (.cons (.loc 1) .nil)) (.blt (.isinst "tuple") (.cons (.loc 1) .nil))) (.cons (.ite (.or (.cmp .ne (.blt (.isinst "list") (.cons (.loc 0) .nil)) (.blt (.isinst "list") (.cons (.loc 1) .nil))) (.cmp .ne (.blt (.isinst "tuple") (.cons (.loc 0) .nil)) (.blt (.isinst "tuple") (.cons (.loc 1) .nil)))) (.cons (.ret (.k (.bl false))) .nil) .nil) (.cons (.ret (.and (.cmp .eq (.blt .len (.cons (.loc 0) .nil)) (.blt .len (.cons (.loc 1) .nil))) (.blt .all (.cons (.comp (.nm 2) (.rng1 (.blt .len (.cons (.loc 1) .nil))) .nil (.call "_law_same" (.cons (.idx (.loc 0) (.loc 2)) (.cons (.idx (.loc 1) (.loc 2)) .nil)))) .nil)))) .nil)) .nil) (.cons (.ite (.or (.cmp .is (.loc 1) (.k .non)) (.blt (.isinst "bool") (.cons (.loc 1) .nil))) (.cons (.ret (.ife (.cmp .is (.loc 1) (.k .non)) (.cmp .is (.loc 0) (.k .non)) (.and (.blt (.isinst "bool") (.cons (.loc 0) .nil)) (.cmp .eq (.loc 0) (.loc 1))))) .nil) .nil) (.cons (.ite (.blt (.isinst "str") (.cons (.loc 1) .nil)) (.cons (.ret (.and (.blt (.isinst "str") (.cons (.loc 0) .nil)) (.cmp .eq (.loc 0) (.loc 1)))) .nil) .nil) (.cons (.ret (.and (.blt (.isinst "int") (.cons (.loc 0) .nil)) (.and (.not (.blt (.isinst "bool") (.cons (.loc 0) .nil))) (.cmp .eq (.loc 0) (.loc 1))))) .nil))))⟩
def e__law_same : Ent := ⟨"_law_same", sAt 22, ["actual", "due", "k"], ["actual", "due"], [], d__law_same, false⟩
def d__law_call_deeds : Def := ⟨0, 0, (.cons (.ret (.lst (.cons (.k (.str "again")) (.cons (.k (.str "ask")) (.cons (.k (.str "back")) (.cons (.k (.str "back again")) (.cons (.k (.str "back lost")) (.cons (.k (.str "come")) (.cons (.k (.str "come again")) (.cons (.k (.str "drop")) (.cons (.k (.str "lose")) (.cons (.k (.str "other drops")) .nil)))))))))))) .nil)⟩
def e__law_call_deeds : Ent := ⟨"_law_call_deeds", sAt 23, [], [], [], d__law_call_deeds, false⟩
def d__law_call : Def := ⟨15, 4, (.cons (.asg (.t2 [(.tp [4, 5, 6]), (.tp [7, 8, 9]), (.nm 10), (.nm 11)]) (.loc 2)) (.cons (.ite (.and (.cmp .inn (.loc 3) (.lst (.cons (.k (.str "come")) (.cons (.k (.str "come again")) (.cons (.k (.str "lose")) .nil))))) (.cmp .eq (.blt .len (.cons (.loc 10) .nil)) (.k (.int 0)))) (.cons (.ret (.k .non)) .nil) .nil) (.cons (.ite (.and (.cmp .inn (.loc 3) (.lst (.cons (.k (.str "back")) (.cons (.k (.str "back again")) (.cons (.k (.str "back lost")) .nil))))) (.cmp .eq (.blt .len (.cons (.loc 11) .nil)) (.k (.int 0)))) (.cons (.ret (.k .non)) .nil) .nil) (.cons (.ite (.and (.cmp .eq (.loc 3) (.k (.str "ask"))) (.cmp .eq (.loc 5) (.k (.str "shut")))) (.cons (.asg (.nm 4) (.bin .mod (.blt .int (.cons (.bin .add (.loc 4) (.k (.int 1))) .nil)) (.loc 1))) (.cons (.ret (.tup (.cons (.tup (.cons (.loc 4) (.cons (.k (.str "asks")) (.cons (.neg (.k (.int 1))) .nil)))) (.cons (.idx (.loc 2) (.k (.int 1))) (.cons (.or (.loc 10) (.lst (.cons (.tup (.cons (.k (.str "ask")) (.cons (.loc 4) .nil))) .nil))) (.cons (.loc 11) .nil)))))) .nil)) .nil) (.cons (.ite (.and (.cmp .eq (.loc 3) (.k (.str "again"))) (.cmp .eq (.loc 5) (.k (.str "asks")))) (.cons (.ret (.tup (.cons (.idx (.loc 2) (.k (.int 0))) (.cons (.idx (.loc 2) (.k (.int 1))) (.cons (.or (.loc 10) (.lst (.cons (.tup (.cons (.k (.str "ask")) (.cons (.loc 4) .nil))) .nil))) (.cons (.loc 11) .nil)))))) .nil) .nil) (.cons (.ite (.and (.cmp .eq (.loc 3) (.k (.str "drop"))) (.cmp .ne (.loc 5) (.k (.str "shut")))) (.cons (.ret (.tup (.cons (.tup (.cons (.loc 4) (.cons (.k (.str "shut")) (.cons (.neg (.k (.int 1))) .nil)))) (.cons (.idx (.loc 2) (.k (.int 1))) (.cons (.loc 10) (.cons (.loc 11) .nil)))))) .nil) .nil) (.cons (.ite (.and (.cmp .eq (.loc 3) (.k (.str "other drops"))) (.cmp .ne (.loc 8) (.k (.str "shut")))) (.cons (.ret (.tup (.cons (.idx (.loc 2) (.k (.int 0))) (.cons (.tup (.cons (.loc 7) (.cons (.k (.str "shut")) (.cons (.neg (.k (.int 1))) .nil)))) (.cons (.loc 10) (.cons (.loc 11) .nil)))))) .nil) .nil) (.cons (.ite (.cmp .eq (.loc 3) (.k (.str "lose"))) (.cons (.ret (.tup (.cons (.idx (.loc 2) (.k (.int 0))) (.cons (.idx (.loc 2) (.k (.int 1))) (.cons (.lst .nil) (.cons (.loc 11) .nil)))))) .nil) .nil) (.cons (.ite (.cmp .eq (.loc 3) (.k (.str "back lost"))) (.cons (.ret (.tup (.cons (.idx (.loc 2) (.k (.int 0))) (.cons (.idx (.loc 2) (.k (.int 1))) (.cons (.loc 10) (.cons (.lst .nil) .nil)))))) .nil) .nil) (.cons (.ite (.cmp .inn (.loc 3) (.lst (.cons (.k (.str "come")) (.cons (.k (.str "come again")) .nil)))) (.cons (.asg (.nm 12) (.idx (.loc 10) (.k (.int 0)))) (.cons (.asg (.nm 13) (.idx (.lst (.cons (.lst .nil) (.cons (.loc 10) .nil))) (.blt .int (.cons (.cmp .eq (.loc 3) (.k (.str "come again"))) .nil)))) (.cons (.ite (.cmp .eq (.idx (.loc 12) (.k (.int 0))) (.k (.str "ask"))) (.cons (.asg (.nm 7) (.bin .mod (.blt .int (.cons (.bin .add (.loc 7) (.k (.int 1))) .nil)) (.loc 1))) (.cons (.asg (.nm 14) (.tup (.cons (.loc 7) (.cons (.idx (.lst (.cons (.k (.str "open")) (.cons (.k (.str "waits")) .nil))) (.blt .int (.cons (.cmp .eq (.loc 0) (.k (.int 3))) .nil))) (.cons (.idx (.loc 12) (.k (.int 1))) .nil))))) (.cons (.ret (.tup (.cons (.idx (.loc 2) (.k (.int 0))) (.cons (.loc 14) (.cons (.loc 13) (.cons (.or (.loc 11) (.lst (.cons (.tup (.cons (.k (.str "yes")) (.cons (.loc 7) (.cons (.idx (.loc 12) (.k (.int 1))) .nil)))) .nil))) .nil)))))) .nil))) .nil) (.cons (.ite (.and (.cmp .eq (.loc 8) (.k (.str "waits"))) (.cmp .eq (.idx (.loc 12) (.k (.int 1))) (.loc 7))) (.cons (.ret (.tup (.cons (.idx (.loc 2) (.k (.int 0))) (.cons (.tup (.cons (.loc 7) (.cons (.k (.str "open")) (.cons (.loc 9) .nil)))) (.cons (.loc 13) (.cons (.loc 11) .nil)))))) .nil) .nil) (.cons (.ret (.tup (.cons (.idx (.loc 2) (.k (.int 0))) (.cons (.idx (.loc 2) (.k (.int 1))) (.cons (.loc 13) (.cons (.loc 11) .nil)))))) .nil))))) .nil) (.cons (.ite (.cmp .inn (.loc 3) (.lst (.cons (.k (.str "back")) (.cons (.k (.str "back again")) .nil)))) (.cons (.asg (.nm 12) (.idx (.loc 11) (.k (.int 0)))) (.cons (.asg (.nm 13) (.idx (.lst (.cons (.lst .nil) (.cons (.loc 11) .nil))) (.blt .int (.cons (.cmp .eq (.loc 3) (.k (.str "back again"))) .nil)))) (.cons (.ite (.or (.cmp .eq (.loc 5) (.k (.str "shut"))) (.cmp .ne (.idx (.loc 12) (.k (.int 2))) (.loc 4))) (.cons (.ret (.tup (.cons (.idx (.loc 2) (.k (.int 0))) (.cons (.idx (.loc 2) (.k (.int 1))) (.cons (.loc 10) (.cons (.loc 13) .nil)))))) .nil) .nil) (.cons (.ite (.cmp .eq (.loc 0) (.k (.int 3))) (.cons (.asg (.nm 10) (.or (.loc 10) (.lst (.cons (.tup (.cons (.k (.str "ok")) (.cons (.idx (.loc 12) (.k (.int 1))) .nil))) .nil)))) .nil) .nil) (.cons (.ret (.tup (.cons (.tup (.cons (.loc 4) (.cons (.k (.str "open")) (.cons (.idx (.loc 12) (.k (.int 1))) .nil)))) (.cons (.idx (.loc 2) (.k (.int 1))) (.cons (.loc 10) (.cons (.loc 13) .nil)))))) .nil))))) .nil) (.cons (.ret (.k .non)) .nil))))))))))))⟩
def e__law_call : Ent := ⟨"_law_call", sAt 24, ["kind", "lives", "state", "word", "life", "mine", "other", "own", "theirs", "whose", "there", "back", "letter", "left", "after"], ["kind", "lives", "state", "word"], [], d__law_call, false⟩
def d__law_is_mixed : Def := ⟨9, 1, (.cons (.asg (.t2 [(.tp [1, 2, 3]), (.tp [4, 5, 6]), (.nm 7), (.nm 8)]) (.loc 0)) (.cons (.ret (.and (.cmp .eq (.loc 2) (.k (.str "open"))) (.and (.cmp .eq (.loc 5) (.k (.str "open"))) (.or (.cmp .ne (.loc 3) (.loc 4)) (.cmp .ne (.loc 6) (.loc 1)))))) .nil))⟩
def e__law_is_mixed : Ent := ⟨"_law_is_mixed", sAt 25, ["state", "life", "mine", "other", "own", "theirs", "whose", "there", "back"], ["state"], [], d__law_is_mixed, false⟩
def b__law_asked_1 : Ss := (.cons (.asg (.nm 5) (.call "call_step" (.cons (.loc 0) (.cons (.loc 1) (.cons (.loc 4) (.cons (.loc 3) .nil)))))) .nil)
def r__law_asked_1 : Ss := (.cons (.ite (.cmp .ne (.loc 4) (.loc 2)) (.cons (.ret (.tup (.cons (.k (.str "error")) (.cons (.k (.int 1)) .nil)))) .nil) .nil) (.cons (.ret (.loc 5)) .nil))
def d__law_asked : Def := ⟨7, 4, (.cons (.asg (.nm 4) (.tup (.cons (.idx (.loc 2) (.k (.int 0))) (.cons (.idx (.loc 2) (.k (.int 1))) (.cons (.blt .list (.cons (.idx (.loc 2) (.k (.int 2))) .nil)) (.cons (.blt .list (.cons (.idx (.loc 2) (.k (.int 3))) .nil)) .nil)))))) (.cons (.try b__law_asked_1 "NoDeed" (some 6) (.ite (.or (.not (.isx "SendError")) (.or (.isx "NoUse") (.cmp .ne (.loc 4) (.loc 2)))) (.tup (.cons (.k (.str "error")) (.cons (.k (.int 0)) .nil))) (.ret (.k .non)))) r__law_asked_1))⟩
def e__law_asked : Ent := ⟨"_law_asked", sAt 26, ["kind", "lives", "state", "deed", "handed", "told", "e"], ["kind", "lives", "state", "deed"], [], d__law_asked, false⟩
def b_law_1 : Ss := (.cons (.asg (.nm 10) (.call "_law_call" (.cons (.loc 4) (.cons (.loc 5) (.cons (.loc 6) (.cons (.loc 9) .nil)))))) (.cons (.asg (.nm 11) (.call "_law_asked" (.cons (.loc 4) (.cons (.loc 5) (.cons (.loc 6) (.cons (.tup (.cons (.loc 9) .nil)) .nil)))))) (.cons (.ite (.not (.call "_law_same" (.cons (.loc 11) (.cons (.loc 10) .nil)))) (.cons (.ret (.k (.bl false))) .nil) .nil) (.cons (.ite (.cmp .isn (.loc 10) (.k .non)) (.cons (.app (.loc 8) (.loc 9)) (.cons (.app (.idx (.loc 11) (.k (.int 2))) (.tup (.cons (.k (.str "ask")) (.cons (.k (.int 9)) .nil)))) (.cons (.app (.idx (.loc 11) (.k (.int 3))) (.tup (.cons (.k (.str "ask")) (.cons (.k (.int 9)) .nil)))) .nil))) .nil) .nil))))
def r_law_1 : Ss := (.cons (.ite (.cmp .isn (.call "_law_asked" (.cons (.loc 4) (.cons (.loc 5) (.cons (.loc 6) (.cons (.tup (.cons (.k (.str "ask")) (.cons (.k (.int 1)) .nil))) .nil))))) (.k .non)) (.cons (.ret (.k (.bl false))) .nil) .nil) (.cons (.ite (.not (.call "_law_same" (.cons (.call "is_mixed" (.cons (.loc 6) .nil)) (.cons (.call "_law_is_mixed" (.cons (.loc 6) .nil)) .nil)))) (.cons (.ret (.k (.bl false))) .nil) .nil) (.cons (.asg (.nm 6) (.call "_law_call" (.cons (.loc 4) (.cons (.loc 5) (.cons (.loc 6) (.cons (.idx (.loc 8) (.call "_law_draw" (.cons (.loc 1) (.cons (.blt .len (.cons (.loc 8) .nil)) .nil)))) .nil)))))) (.cons (.asg (.nm 6) (.tup (.cons (.idx (.loc 6) (.k (.int 0))) (.cons (.idx (.loc 6) (.k (.int 1))) (.cons (.blt .list (.cons (.idx (.loc 6) (.k (.int 2))) .nil)) (.cons (.blt .list (.cons (.idx (.loc 6) (.k (.int 3))) .nil)) .nil)))))) .nil))))
def b_law_2 : Ss := (.cons (.asg (.nm 8) (.lst .nil)) (.cons (.for (.nm 9) (.seq (.bin .add (.call "_law_call_deeds" .nil) (.lst (.cons (.k (.str "come back")) (.cons (.k (.str "")) .nil))))) b_law_1) r_law_1))
def b_law_3 : Ss := (.cons (.asg (.nm 4) (.bin .add (.k (.int 2)) (.call "_law_draw" (.cons (.loc 1) (.cons (.k (.int 2)) .nil))))) (.cons (.asg (.nm 5) (.bin .add (.k (.int 2)) (.call "_law_draw" (.cons (.loc 1) (.cons (.k (.int 5)) .nil))))) (.cons (.asg (.nm 6) (.call "first_call" .nil)) (.cons (.ite (.not (.call "_law_same" (.cons (.loc 6) (.cons (.loc 2) .nil)))) (.cons (.ret (.k (.bl false))) .nil) .nil) (.cons (.app (.idx (.loc 6) (.k (.int 2))) (.tup (.cons (.k (.str "ask")) (.cons (.k (.int 1)) .nil)))) (.cons (.asg (.nm 6) (.call "first_call" .nil)) (.cons (.for (.nm 7) (.rng1 (.k (.int 40))) b_law_2) .nil)))))))
def r_law_2 : Ss := (.cons (.asg (.nm 12) (.tup (.cons (.tup (.cons (.k (.int 1)) (.cons (.k (.str "open")) (.cons (.k (.int 1)) .nil)))) (.cons (.tup (.cons (.k (.int 2)) (.cons (.k (.str "open")) (.cons (.k (.int 1)) .nil)))) (.cons (.lst .nil) (.cons (.lst .nil) .nil)))))) (.cons (.ite (.not (.call "_law_same" (.cons (.lst (.cons (.call "is_mixed" (.cons (.loc 12) .nil)) (.cons (.call "is_mixed" (.cons (.tup (.cons (.tup (.cons (.k (.int 1)) (.cons (.k (.str "open")) (.cons (.k (.int 2)) .nil)))) (.cons (.tup (.cons (.k (.int 2)) (.cons (.k (.str "open")) (.cons (.k (.int 1)) .nil)))) (.cons (.lst .nil) (.cons (.lst .nil) .nil))))) .nil)) .nil))) (.cons (.lst (.cons (.k (.bl true)) (.cons (.k (.bl false)) .nil))) .nil)))) (.cons (.ret (.k (.bl false))) .nil) .nil) (.cons (.asg (.nm 11) (.lst (.cons (.call "is_mixed" (.cons (.tup (.cons (.tup (.cons (.k (.int 1)) (.cons (.k (.str "asks")) (.cons (.neg (.k (.int 1))) .nil)))) (.cons (.tup (.cons (.k (.int 2)) (.cons (.k (.str "open")) (.cons (.k (.int 1)) .nil)))) (.cons (.lst .nil) (.cons (.lst .nil) .nil))))) .nil)) (.cons (.call "is_mixed" (.cons (.tup (.cons (.tup (.cons (.k (.int 2)) (.cons (.k (.str "open")) (.cons (.k (.int 2)) .nil)))) (.cons (.tup (.cons (.k (.int 2)) (.cons (.k (.str "open")) (.cons (.k (.int 1)) .nil)))) (.cons (.lst .nil) (.cons (.lst .nil) .nil))))) .nil)) .nil)))) (.cons (.ret (.call "_law_same" (.cons (.loc 11) (.cons (.lst (.cons (.k (.bl false)) (.cons (.k (.bl true)) .nil))) .nil)))) .nil))))
def d_law : Def := ⟨13, 1, (.cons (.cell 1 (.call "_law_feed" (.cons (.loc 0) .nil))) (.cons (.asg (.nm 2) (.tup (.cons (.tup (.cons (.k (.int 0)) (.cons (.k (.str "shut")) (.cons (.neg (.k (.int 1))) .nil)))) (.cons (.tup (.cons (.k (.int 0)) (.cons (.k (.str "shut")) (.cons (.neg (.k (.int 1))) .nil)))) (.cons (.lst .nil) (.cons (.lst .nil) .nil)))))) (.cons (.for (.nm 3) (.rng1 (.k (.int 3))) b_law_3) r_law_2)))⟩
def e_law : Ent := ⟨"law", sAt 27, ["script", "feed", "begin", "turn", "kind", "lives", "state", "step", "fits", "word", "due", "told", "mixed"], ["script"], ["feed"], d_law, false⟩
def tx : Txt := ⟨[e_first_call, e_put_on, e_arrived_there, e_arrived_back, e_can_be_done, e_call_step, e_is_mixed, e__law_feed, e__law_draw, e__law_same, e__law_call_deeds, e__law_call, e__law_is_mixed, e__law_asked, e_law], [("SHUT", .str "shut"), ("ASKS", .str "asks"), ("WAITS", .str "waits"), ("OPEN", .str "open"), ("NOBODY", .int (-1)), ("OF_THERE", .tup [.str "come", .str "come again", .str "lose"]), ("OF_BACK", .tup [.str "back", .str "back again", .str "back lost"])], ["len", "abs", "int", "list", "tuple", "all", "range", "isinstance", "str", "bool"], ["put_on", "can_be_done", "is_mixed", "_law_feed", "_law_call_deeds", "_law_is_mixed", "law"], 100000, [("SendError", []), ("NoDeed", []), ("NoUse", [])], [(("NoDeed", "NoDeed"), true), (("NoDeed", "NoUse"), false), (("NoDeed", "SendError"), true)]⟩
theorem g_first_call : e_first_call.Good tx := Ent.good_of (by decide +kernel)
theorem g_put_on : e_put_on.Good tx := Ent.good_of (by decide +kernel)
theorem g_arrived_there : e_arrived_there.Good tx := Ent.good_of (by decide +kernel)
theorem g_arrived_back : e_arrived_back.Good tx := Ent.good_of (by decide +kernel)
theorem g_can_be_done : e_can_be_done.Good tx := Ent.good_of (by decide +kernel)
theorem g_call_step : e_call_step.Good tx := Ent.good_of (by decide +kernel)
theorem g_is_mixed : e_is_mixed.Good tx := Ent.good_of (by decide +kernel)
theorem g__law_feed : e__law_feed.Good tx := Ent.good_of (by decide +kernel)
theorem g__law_draw : e__law_draw.Good tx := Ent.good_of (by decide +kernel)
theorem g__law_same : e__law_same.Good tx := Ent.good_of (by decide +kernel)
theorem g__law_call_deeds : e__law_call_deeds.Good tx := Ent.good_of (by decide +kernel)
theorem g__law_call : e__law_call.Good tx := Ent.good_of (by decide +kernel)
theorem g__law_is_mixed : e__law_is_mixed.Good tx := Ent.good_of (by decide +kernel)
theorem g__law_asked : e__law_asked.Good tx := Ent.good_of (by decide +kernel)
theorem g_law : e_law.Good tx := Ent.good_of (by decide +kernel)
end Law

set_option Elab.async false
set_option linter.all false
set_option maxRecDepth 100000
set_option maxHeartbeats 2000000
namespace Law
open PySem L2 IR
theorem c_first_call (k : Nat) : (tx.gam (k + 1)).call "first_call" = runD (tx.gam k) d_first_call := gam_call (e := e_first_call) (by rfl)
theorem c_put_on (k : Nat) : (tx.gam (k + 1)).call "put_on" = runD (tx.gam k) d_put_on := gam_call (e := e_put_on) (by rfl)
theorem c_arrived_there (k : Nat) : (tx.gam (k + 1)).call "arrived_there" = runD (tx.gam k) d_arrived_there := gam_call (e := e_arrived_there) (by rfl)
theorem c_arrived_back (k : Nat) : (tx.gam (k + 1)).call "arrived_back" = runD (tx.gam k) d_arrived_back := gam_call (e := e_arrived_back) (by rfl)
theorem c_can_be_done (k : Nat) : (tx.gam (k + 1)).call "can_be_done" = runD (tx.gam k) d_can_be_done := gam_call (e := e_can_be_done) (by rfl)
theorem c_call_step (k : Nat) : (tx.gam (k + 1)).call "call_step" = runD (tx.gam k) d_call_step := gam_call (e := e_call_step) (by rfl)
theorem c_is_mixed (k : Nat) : (tx.gam (k + 1)).call "is_mixed" = runD (tx.gam k) d_is_mixed := gam_call (e := e_is_mixed) (by rfl)
theorem c_law_feed (k : Nat) : (tx.gam (k + 1)).call "_law_feed" = runD (tx.gam k) feedD := gam_call (e := e__law_feed) (by rfl)
theorem c_law_draw (k : Nat) : (tx.gam (k + 1)).call "_law_draw" = runD (tx.gam k) drawD := gam_call (e := e__law_draw) (by rfl)
theorem c_law_call_deeds (k : Nat) : (tx.gam (k + 1)).call "_law_call_deeds" = runD (tx.gam k) d__law_call_deeds := gam_call (e := e__law_call_deeds) (by rfl)
theorem c_law_call (k : Nat) : (tx.gam (k + 1)).call "_law_call" = runD (tx.gam k) d__law_call := gam_call (e := e__law_call) (by rfl)
theorem c_law_is_mixed (k : Nat) : (tx.gam (k + 1)).call "_law_is_mixed" = runD (tx.gam k) d__law_is_mixed := gam_call (e := e__law_is_mixed) (by rfl)
theorem c_law_asked (k : Nat) : (tx.gam (k + 1)).call "_law_asked" = runD (tx.gam k) d__law_asked := gam_call (e := e__law_asked) (by rfl)
theorem c_law (k : Nat) : (tx.gam (k + 1)).call "law" = runD (tx.gam k) d_law := gam_call (e := e_law) (by rfl)
theorem pure_of (k : Nat) (f : Str) (h : decide (f ∈ tx.pure) = true) : (tx.gam k).isPure f = true := by rw [gam_pure]; exact h
theorem impure_of (k : Nat) (f : Str) (h : decide (f ∈ tx.pure) = false) : (tx.gam k).isPure f = false := by rw [gam_pure]; exact h
theorem glob_of (k : Nat) (x : Str) : (tx.gam k).glob x = tx.glob.lookup x := by cases k <;> rfl
/-! strings -/
theorem eqS {a b : Str} : opCmp .eq (.str a) (.str b) = some (decide (a = b)) := by
  show eqD (.str a) (.str b) = _
  unfold eqD
  simp only [D.toPy]
  rw [if_pos (by show min 0 0 ≤ 60; decide)]
  have : PyData.eqv (.str a) (.str b) = (a == b) := by unfold PyData.eqv; rfl
  rw [this]
  rfl
theorem neS {a b : Str} : opCmp .ne (.str a) (.str b) = some (!decide (a = b)) := by
  show (opCmp .eq (.str a) (.str b)).map not = _
  rw [eqS]
  rfl
theorem inS3 {w a b c : Str} {mk : List D → D} (h : mk = .lst ∨ mk = .tup) : opCmp .inn (.str w) (mk [.str a, .str b, .str c]) = some (decide (a = w) || (decide (b = w) || decide (c = w))) := by
  have e : ∀ x y : Str, PyData.eqv (.str x) (.str y) = decide (x = y) := fun x y => by
    have : PyData.eqv (.str x) (.str y) = (x == y) := by unfold PyData.eqv; rfl
    rw [this]
    rfl
  have q : inD (.str w) [.str a, .str b, .str c] = some (decide (a = w) || (decide (b = w) || decide (c = w))) := by
    unfold inD
    simp only [D.toPys, D.toPy]
    rw [if_pos (by show min _ 0 ≤ 60; rw [Nat.min_zero]; decide)]
    simp only [List.any_cons, List.any_nil, e, Bool.or_false]
  rcases h with rfl | rfl <;> exact q
theorem inS2 {w a b : Str} : opCmp .inn (.str w) (.lst [.str a, .str b]) = some (decide (a = w) || decide (b = w)) := by
  have e : ∀ x y : Str, PyData.eqv (.str x) (.str y) = decide (x = y) := fun x y => by
    have : PyData.eqv (.str x) (.str y) = (x == y) := by unfold PyData.eqv; rfl
    rw [this]
    rfl
  show inD (.str w) [.str a, .str b] = _
  unfold inD
  simp only [D.toPys, D.toPy]
  rw [if_pos (by show min _ 0 ≤ 60; rw [Nat.min_zero]; decide)]
  simp only [List.any_cons, List.any_nil, e, Bool.or_false]
theorem inL3 {w a b c : Str} : opCmp .inn (.str w) (.lst [.str a, .str b, .str c]) = some (decide (a = w) || (decide (b = w) || decide (c = w))) := inS3 (.inl rfl)
theorem inT3 {w a b c : Str} : opCmp .inn (.str w) (.tup [.str a, .str b, .str c]) = some (decide (a = w) || (decide (b = w) || decide (c = w))) := inS3 (.inr rfl)
theorem ofS {a b : String} : (Str.ofString a = Str.ofString b) = (a = b) := by
  refine propext ⟨fun h => ?_, fun h => by rw [h]⟩
  rw [Str.ofString_eq_toList, Str.ofString_eq_toList] at h
  have h := congrArg (fun s => s.cps.toList) h
  have h : a.toList.map Char.toNat = b.toList.map Char.toNat := h
  have inj : ∀ {l l' : List Char}, l.map Char.toNat = l'.map Char.toNat → l = l' := fun {l} => by
    induction l with
    | nil => intro l' h; cases l' with
      | nil => rfl
      | cons _ _ => cases h
    | cons c l ih => intro l' h; cases l' with
      | nil => cases h
      | cons d l' =>
        simp only [List.map_cons, List.cons.injEq] at h
        rw [ih h.2, Char.toNat_inj.mp h.1]
  exact String.toList_inj.mp (inj h)
/-! the states -/
def tri (a : Int) (m : Str) (o : Int) : D := .tup [.int a, .str m, .int o]
def LT (k : Str) (i : Int) : D := .tup [.str k, .int i]
def LB (i j : Int) : D := .tup [.str "yes", .int i, .int j]
/-- the lists that may stand on the roads -/
inductive There : List D → Prop
  | nil : There []
  | ask (i : Int) : There [LT "ask" i]
  | ok (i : Int) : There [LT "ok" i]
inductive Back : List D → Prop
  | nil : Back []
  | one (i j : Int) : Back [LB i j]
structure Sx where
  a : Int
  m : Str
  o : Int
  b : Int
  t : Str
  w : Int
  xs : List D
  ys : List D
structure Sx.Ok (s : Sx) : Prop where
  m : s.m = "shut" ∨ s.m = "asks" ∨ s.m = "open"
  t : s.t = "shut" ∨ s.t = "waits" ∨ s.t = "open"
  o : s.m = "asks" → s.o = -1
  xs : There s.xs
  ys : Back s.ys
/-- a state as it stands: the lists at x, y -/
def Sx.at (s : Sx) (x y : D) : D := .tup [tri s.a s.m s.o, tri s.b s.t s.w, x, y]
/-- an arrival there -/
def arrT (k l : Int) (s : Sx) (left : List D) : Option Sx := match s.xs with
  | [.tup [.str kk, .int i]] => if kk = "ask" then some { s with b := (s.b + 1) % l, t := if k = 3 then "waits" else "open", w := i, xs := left, ys := if s.ys.isEmpty then [LB ((s.b + 1) % l) i] else s.ys }
    else if s.t = "waits" ∧ i = s.b then some { s with t := "open", xs := left } else some { s with xs := left }
  | _ => none
def arrB (k : Int) (s : Sx) (left : List D) : Option Sx := match s.ys with
  | [.tup [_, .int i, .int j]] => if s.m = "shut" ∨ j ≠ s.a then some { s with ys := left } else some { s with m := "open", o := i, xs := if k = 3 ∧ s.xs.isEmpty then [LT "ok" i] else s.xs, ys := left }
  | _ => none
def nx (k l : Int) (s : Sx) (word : Str) : Option Sx :=
  if word = "come" then arrT k l s [] else if word = "come again" then arrT k l s s.xs
  else if word = "lose" then (if s.xs.isEmpty then none else some { s with xs := [] })
  else if word = "back" then arrB k s [] else if word = "back again" then arrB k s s.ys
  else if word = "back lost" then (if s.ys.isEmpty then none else some { s with ys := [] })
  else if word = "ask" then (if s.m = "shut" then some { s with a := (s.a + 1) % l, m := "asks", o := -1, xs := if s.xs.isEmpty then [LT "ask" ((s.a + 1) % l)] else s.xs } else none)
  else if word = "again" then (if s.m = "asks" then some { s with xs := if s.xs.isEmpty then [LT "ask" s.a] else s.xs } else none)
  else if word = "drop" then (if s.m = "shut" then none else some { s with m := "shut", o := -1 })
  else if word = "other drops" then (if s.t = "shut" then none else some { s with t := "shut", w := -1 })
  else none
def words : List Str := ["again", "ask", "back", "back again", "back lost", "come", "come again", "drop", "lose", "other drops", "come back", ""]
/-- what the law's own step gives: the state at some lists, or None -/
def Gives (C : List (Option Ob)) (d : D) : Option Sx → Prop
  | none => d = .non
  | some s => ∃ x y, d = s.at x y ∧ deref C x = .lst s.xs ∧ deref C y = .lst s.ys
theorem dr_l {C : List (Option Ob)} {l : List D} : deref C (.lst l) = .lst l := rfl
theorem at0 {a b c e : D} : atI [a, b, c, e] 0 = some a := rfl
theorem at1 {a b c e : D} : atI [a, b, c, e] 1 = some b := rfl
theorem at2 {a b c e : D} : atI [a, b, c, e] 2 = some c := rfl
theorem at3 {a b c e : D} : atI [a, b, c, e] 3 = some e := rfl
theorem bt0 {a b c : D} : atI [a, b, c] 0 = some a := rfl
theorem bt1 {a b c : D} : atI [a, b, c] 1 = some b := rfl
theorem bt2 {a b c : D} : atI [a, b, c] 2 = some c := rfl
theorem ct0 {a b : D} : atI [a, b] 0 = some a := rfl
theorem ct1 {a b : D} : atI [a, b] 1 = some b := rfl
theorem dt0 {a : D} : atI [a] 0 = some a := rfl
theorem ga4 {ρ : List IR.Slot} {C : List (Option Ob)} {i j k l : Nat} {a b c e : D} (hi : i < ρ.length) (hj : j < ρ.length) (hk : k < ρ.length) (hl : l < ρ.length) : asgD (.tp [i, j, k, l]) (.tup [a, b, c, e]) ⟨ρ, C⟩ = .ok () ⟨(((ρ.set i (.val a)).set j (.val b)).set k (.val c)).set l (.val e), C⟩ := by
  show M.bind (setSlot i _) _ _ = _
  simp only [M.bind, setSlot, Out.bind, asgVs, asgV, hi, if_true, List.length_set, hj, hk, hl]
  rfl
theorem g_t2 {ts : List Tg1} {r : Rv} {s : Sm} : asg (.t2 ts) r s = (frz r s).bind fun d => asgD (.t2 ts) d := rfl
theorem gt2 {ρ : List IR.Slot} {C : List (Option Ob)} {i j k l m n o p : Nat} {a b c a' b' c' x y : D} (hi : i < ρ.length) (hj : j < ρ.length) (hk : k < ρ.length) (hl : l < ρ.length) (hm : m < ρ.length) (hn : n < ρ.length) (ho : o < ρ.length) (hp : p < ρ.length) :
    asgD (.t2 [.tp [i, j, k], .tp [l, m, n], .nm o, .nm p]) (.tup [.tup [a, b, c], .tup [a', b', c'], x, y]) ⟨ρ, C⟩ = .ok () ⟨(((((((ρ.set i (.val a)).set j (.val b)).set k (.val c)).set l (.val a')).set m (.val b')).set n (.val c')).set o (.val x)).set p (.val y), C⟩ := by
  show M.bind (asgD1 _ _) _ _ = _
  simp only [M.bind, setSlot, Out.bind, asgVs, asgV, asgD1, asgD1s, hi, if_true, List.length_set, hj, hk, hl, hm, hn, ho, hp, M.pure]
end Law

set_option Elab.async false
set_option linter.all false
set_option maxRecDepth 100000
set_option maxHeartbeats 4000000
namespace Law
open PySem L2 IR
theorem z1 (r : Rv) (s : Sm) : sizeM 1 r s = .ok r s := small3 (by decide)
theorem z2 (r : Rv) (s : Sm) : sizeM 2 r s = .ok r s := small3 (by decide)
theorem z3 (r : Rv) (s : Sm) : sizeM 3 r s = .ok r s := small3 (by decide)
theorem z4 (r : Rv) (s : Sm) : sizeM 4 r s = .ok r s := small3 (by decide)
theorem p_nl {xs : List D} {s : Sm} : peekM (.n (.lst xs)) s = .ok (.lst xs) s := p_n rfl
theorem z0 (r : Rv) (s : Sm) : sizeM 0 r s = .ok r s := small3 (by decide)
section
variable {k : Nat} {kind lives a o b w : Int} {m t : Str} {xs ys : List D} {C : List (Option Ob)} {x y : D}
theorem lc_drop (hl : 0 < lives) (hk : kind = 2 ∨ kind = 3) (ok : Sx.Ok ⟨a, m, o, b, t, w, xs, ys⟩) (hx : deref C x = .lst xs) (hy : deref C y = .lst ys) :
    OcW ((tx.gam (k + 1)).call "_law_call" [.int kind, .int lives, Sx.at ⟨a, m, o, b, t, w, xs, ys⟩ x y, .str "drop"] C) fun r C' => ∃ d, r = .v d ∧ C' = C ∧ Gives C d (nx kind lives ⟨a, m, o, b, t, w, xs, ys⟩ "drop") := by
  rw [c_law_call]
  refine run_e d__law_call _ [.val (.int kind), .val (.int lives), .val (Sx.at ⟨a, m, o, b, t, w, xs, ys⟩ x y), .val (.str "drop"), .no, .no, .no, .no, .no, .no, .no, .no, .no, .no, .no] rfl (by decide) rfl ?_
  have hlx : ∀ ρ, bltM .len [.v x] ⟨ρ, C⟩ = .ok (.v (.int xs.length)) ⟨ρ, C⟩ := fun ρ => lenT' (.inl rfl) hx
  have hly : ∀ ρ, bltM .len [.v y] ⟨ρ, C⟩ = .ok (.v (.int ys.length)) ⟨ρ, C⟩ := fun ρ => lenT' (.inl rfl) hy
  have hb : ∀ s q, bltM .int [.v (.bl q)] s = .ok (.v (.int (if q then 1 else 0))) s := fun s q => bltM_ok rfl rfl
  have em : m = "shut" ∨ m = "asks" ∨ m = "open" := ok.m
  have et : t = "shut" ∨ t = "waits" ∨ t = "open" := ok.t
  have ex : There xs := ok.xs
  have ey : Back ys := ok.ys
  clear ok
  all_goals rcases em with rfl | rfl | rfl
  all_goals
    simp only [d__law_call, Sx.at, tri, LT, LB, bind_at, out_ok, pure_at, a_loc, a_k, a_glob, a_bin, a_neg, a_cmp, cq_some, a_cell, ce_v, ce_o, a_chain, a_and, a_or, a_not, a_ife, a_lst, a_tup, a_idx, a_slc, a_call, a_blt, a_nil, a_cons, h_nil, h_cons, o_no, o_some, t_nil, t_cons, tv_at, i_seq, i_rng1, i_rng2, i_enum, p_v, p_s, peekS_val, peekS_own, d_int, d_bl, d_str, d_non, d_lst, d_tup, d_ro, ho_v, ho_s, ho_l, fr_v, fr_l, fr_s, frzV_val, frzV_own, oo_some, te_bl, te_int, te_non, te_lst, te_tup, ps_nil, ps_cons, pk_v, pk_s, consO_some, ad_nil, ad_cons, ad_v, ad_s, argS_val, argS_own, locV_val, locV_own, globV_some, negV_int, intO_int, slotV_some, x_nil, nextM_nx, nextM_ret, nextM_brk, nextM_ct, x_cons, x_asg, x_cell, x_par, g_v, g_n, g_s, g_tp, gd_nm, gd_2, gd_3, parM_two, x_expr, x_ret, r_v, r_n, r_s, retV_own, retV_val, x_retN, x_ite, x_raise, x_try, x_pass, x_brk, x_cont, x_setI, putI_int, x_augI, nn_v, nn_s, x_app, appM_lst, iteM_t, iteM_f, iteM_at, op_addI, op_subI, cm_lt, cm_le, cm_gt, cm_ge, cm_is, cm_isn, cm_eqI, cm_neI, ix_l, ix_t, ix_r, List.getElem?_cons_succ, List.getElem?_cons_zero, List.set_cons_succ, List.set_cons_zero, List.length_cons, List.length_nil, Nat.reduceAdd, Nat.reduceLT, Nat.reduceLeDiff, p_nl, g_t2, gt2, eqS, neS, inL3, inS2, inT3, ofS, String.reduceEq, Int.reduceEq, at0, at1, at2, at3, bt0, bt1, bt2, ct0, ct1, dt0, dr_l, bl_int, z0, z1, z2, z3, z4, decide_true, decide_false, Bool.or_false, Bool.false_or, Bool.or_true, Bool.true_or, Bool.not_true, Bool.not_false, Bool.false_eq_true, if_true, if_false, List.isEmpty_nil, List.isEmpty_cons, negV_int, Int.reduceNeg, w_ok, hx, hy, hlx, hly, hb, op_modI hl, List.length_nil, List.length_cons, Nat.zero_add, Int.natCast_zero, Int.cast_ofNat_Int, Int.natCast_one]
    refine ⟨_, rfl, by first | trivial | rfl, ?_⟩
    simp only [nx, arrT, arrB, ofS, String.reduceEq, if_true, if_false, false_and, and_false, true_and, and_true, false_or, or_false, true_or, or_true, List.isEmpty_nil, List.isEmpty_cons, Bool.false_eq_true, not_true_eq_false, not_false_eq_true, ne_eq, LT, LB, Gives, Sx.at, tri]
    first | done | exact ⟨_, _, rfl, by first | assumption | rfl, by first | assumption | rfl⟩
theorem lc_odrop (hl : 0 < lives) (hk : kind = 2 ∨ kind = 3) (ok : Sx.Ok ⟨a, m, o, b, t, w, xs, ys⟩) (hx : deref C x = .lst xs) (hy : deref C y = .lst ys) :
    OcW ((tx.gam (k + 1)).call "_law_call" [.int kind, .int lives, Sx.at ⟨a, m, o, b, t, w, xs, ys⟩ x y, .str "other drops"] C) fun r C' => ∃ d, r = .v d ∧ C' = C ∧ Gives C d (nx kind lives ⟨a, m, o, b, t, w, xs, ys⟩ "other drops") := by
  rw [c_law_call]
  refine run_e d__law_call _ [.val (.int kind), .val (.int lives), .val (Sx.at ⟨a, m, o, b, t, w, xs, ys⟩ x y), .val (.str "other drops"), .no, .no, .no, .no, .no, .no, .no, .no, .no, .no, .no] rfl (by decide) rfl ?_
  have hlx : ∀ ρ, bltM .len [.v x] ⟨ρ, C⟩ = .ok (.v (.int xs.length)) ⟨ρ, C⟩ := fun ρ => lenT' (.inl rfl) hx
  have hly : ∀ ρ, bltM .len [.v y] ⟨ρ, C⟩ = .ok (.v (.int ys.length)) ⟨ρ, C⟩ := fun ρ => lenT' (.inl rfl) hy
  have hb : ∀ s q, bltM .int [.v (.bl q)] s = .ok (.v (.int (if q then 1 else 0))) s := fun s q => bltM_ok rfl rfl
  have em : m = "shut" ∨ m = "asks" ∨ m = "open" := ok.m
  have et : t = "shut" ∨ t = "waits" ∨ t = "open" := ok.t
  have ex : There xs := ok.xs
  have ey : Back ys := ok.ys
  clear ok
  all_goals rcases et with rfl | rfl | rfl
  all_goals
    simp only [d__law_call, Sx.at, tri, LT, LB, bind_at, out_ok, pure_at, a_loc, a_k, a_glob, a_bin, a_neg, a_cmp, cq_some, a_cell, ce_v, ce_o, a_chain, a_and, a_or, a_not, a_ife, a_lst, a_tup, a_idx, a_slc, a_call, a_blt, a_nil, a_cons, h_nil, h_cons, o_no, o_some, t_nil, t_cons, tv_at, i_seq, i_rng1, i_rng2, i_enum, p_v, p_s, peekS_val, peekS_own, d_int, d_bl, d_str, d_non, d_lst, d_tup, d_ro, ho_v, ho_s, ho_l, fr_v, fr_l, fr_s, frzV_val, frzV_own, oo_some, te_bl, te_int, te_non, te_lst, te_tup, ps_nil, ps_cons, pk_v, pk_s, consO_some, ad_nil, ad_cons, ad_v, ad_s, argS_val, argS_own, locV_val, locV_own, globV_some, negV_int, intO_int, slotV_some, x_nil, nextM_nx, nextM_ret, nextM_brk, nextM_ct, x_cons, x_asg, x_cell, x_par, g_v, g_n, g_s, g_tp, gd_nm, gd_2, gd_3, parM_two, x_expr, x_ret, r_v, r_n, r_s, retV_own, retV_val, x_retN, x_ite, x_raise, x_try, x_pass, x_brk, x_cont, x_setI, putI_int, x_augI, nn_v, nn_s, x_app, appM_lst, iteM_t, iteM_f, iteM_at, op_addI, op_subI, cm_lt, cm_le, cm_gt, cm_ge, cm_is, cm_isn, cm_eqI, cm_neI, ix_l, ix_t, ix_r, List.getElem?_cons_succ, List.getElem?_cons_zero, List.set_cons_succ, List.set_cons_zero, List.length_cons, List.length_nil, Nat.reduceAdd, Nat.reduceLT, Nat.reduceLeDiff, p_nl, g_t2, gt2, eqS, neS, inL3, inS2, inT3, ofS, String.reduceEq, Int.reduceEq, at0, at1, at2, at3, bt0, bt1, bt2, ct0, ct1, dt0, dr_l, bl_int, z0, z1, z2, z3, z4, decide_true, decide_false, Bool.or_false, Bool.false_or, Bool.or_true, Bool.true_or, Bool.not_true, Bool.not_false, Bool.false_eq_true, if_true, if_false, List.isEmpty_nil, List.isEmpty_cons, negV_int, Int.reduceNeg, w_ok, hx, hy, hlx, hly, hb, op_modI hl, List.length_nil, List.length_cons, Nat.zero_add, Int.natCast_zero, Int.cast_ofNat_Int, Int.natCast_one]
    refine ⟨_, rfl, by first | trivial | rfl, ?_⟩
    simp only [nx, arrT, arrB, ofS, String.reduceEq, if_true, if_false, false_and, and_false, true_and, and_true, false_or, or_false, true_or, or_true, List.isEmpty_nil, List.isEmpty_cons, Bool.false_eq_true, not_true_eq_false, not_false_eq_true, ne_eq, LT, LB, Gives, Sx.at, tri]
    first | done | exact ⟨_, _, rfl, by first | assumption | rfl, by first | assumption | rfl⟩
theorem lc_lose (hl : 0 < lives) (hk : kind = 2 ∨ kind = 3) (ok : Sx.Ok ⟨a, m, o, b, t, w, xs, ys⟩) (hx : deref C x = .lst xs) (hy : deref C y = .lst ys) :
    OcW ((tx.gam (k + 1)).call "_law_call" [.int kind, .int lives, Sx.at ⟨a, m, o, b, t, w, xs, ys⟩ x y, .str "lose"] C) fun r C' => ∃ d, r = .v d ∧ C' = C ∧ Gives C d (nx kind lives ⟨a, m, o, b, t, w, xs, ys⟩ "lose") := by
  rw [c_law_call]
  refine run_e d__law_call _ [.val (.int kind), .val (.int lives), .val (Sx.at ⟨a, m, o, b, t, w, xs, ys⟩ x y), .val (.str "lose"), .no, .no, .no, .no, .no, .no, .no, .no, .no, .no, .no] rfl (by decide) rfl ?_
  have hlx : ∀ ρ, bltM .len [.v x] ⟨ρ, C⟩ = .ok (.v (.int xs.length)) ⟨ρ, C⟩ := fun ρ => lenT' (.inl rfl) hx
  have hly : ∀ ρ, bltM .len [.v y] ⟨ρ, C⟩ = .ok (.v (.int ys.length)) ⟨ρ, C⟩ := fun ρ => lenT' (.inl rfl) hy
  have hb : ∀ s q, bltM .int [.v (.bl q)] s = .ok (.v (.int (if q then 1 else 0))) s := fun s q => bltM_ok rfl rfl
  have em : m = "shut" ∨ m = "asks" ∨ m = "open" := ok.m
  have et : t = "shut" ∨ t = "waits" ∨ t = "open" := ok.t
  have ex : There xs := ok.xs
  have ey : Back ys := ok.ys
  clear ok
  all_goals rcases ex with _ | i | i
  all_goals
    simp only [d__law_call, Sx.at, tri, LT, LB, bind_at, out_ok, pure_at, a_loc, a_k, a_glob, a_bin, a_neg, a_cmp, cq_some, a_cell, ce_v, ce_o, a_chain, a_and, a_or, a_not, a_ife, a_lst, a_tup, a_idx, a_slc, a_call, a_blt, a_nil, a_cons, h_nil, h_cons, o_no, o_some, t_nil, t_cons, tv_at, i_seq, i_rng1, i_rng2, i_enum, p_v, p_s, peekS_val, peekS_own, d_int, d_bl, d_str, d_non, d_lst, d_tup, d_ro, ho_v, ho_s, ho_l, fr_v, fr_l, fr_s, frzV_val, frzV_own, oo_some, te_bl, te_int, te_non, te_lst, te_tup, ps_nil, ps_cons, pk_v, pk_s, consO_some, ad_nil, ad_cons, ad_v, ad_s, argS_val, argS_own, locV_val, locV_own, globV_some, negV_int, intO_int, slotV_some, x_nil, nextM_nx, nextM_ret, nextM_brk, nextM_ct, x_cons, x_asg, x_cell, x_par, g_v, g_n, g_s, g_tp, gd_nm, gd_2, gd_3, parM_two, x_expr, x_ret, r_v, r_n, r_s, retV_own, retV_val, x_retN, x_ite, x_raise, x_try, x_pass, x_brk, x_cont, x_setI, putI_int, x_augI, nn_v, nn_s, x_app, appM_lst, iteM_t, iteM_f, iteM_at, op_addI, op_subI, cm_lt, cm_le, cm_gt, cm_ge, cm_is, cm_isn, cm_eqI, cm_neI, ix_l, ix_t, ix_r, List.getElem?_cons_succ, List.getElem?_cons_zero, List.set_cons_succ, List.set_cons_zero, List.length_cons, List.length_nil, Nat.reduceAdd, Nat.reduceLT, Nat.reduceLeDiff, p_nl, g_t2, gt2, eqS, neS, inL3, inS2, inT3, ofS, String.reduceEq, Int.reduceEq, at0, at1, at2, at3, bt0, bt1, bt2, ct0, ct1, dt0, dr_l, bl_int, z0, z1, z2, z3, z4, decide_true, decide_false, Bool.or_false, Bool.false_or, Bool.or_true, Bool.true_or, Bool.not_true, Bool.not_false, Bool.false_eq_true, if_true, if_false, List.isEmpty_nil, List.isEmpty_cons, negV_int, Int.reduceNeg, w_ok, hx, hy, hlx, hly, hb, op_modI hl, List.length_nil, List.length_cons, Nat.zero_add, Int.natCast_zero, Int.cast_ofNat_Int, Int.natCast_one]
    refine ⟨_, rfl, by first | trivial | rfl, ?_⟩
    simp only [nx, arrT, arrB, ofS, String.reduceEq, if_true, if_false, false_and, and_false, true_and, and_true, false_or, or_false, true_or, or_true, List.isEmpty_nil, List.isEmpty_cons, Bool.false_eq_true, not_true_eq_false, not_false_eq_true, ne_eq, LT, LB, Gives, Sx.at, tri]
    first | done | exact ⟨_, _, rfl, by first | assumption | rfl, by first | assumption | rfl⟩
theorem lc_blost (hl : 0 < lives) (hk : kind = 2 ∨ kind = 3) (ok : Sx.Ok ⟨a, m, o, b, t, w, xs, ys⟩) (hx : deref C x = .lst xs) (hy : deref C y = .lst ys) :
    OcW ((tx.gam (k + 1)).call "_law_call" [.int kind, .int lives, Sx.at ⟨a, m, o, b, t, w, xs, ys⟩ x y, .str "back lost"] C) fun r C' => ∃ d, r = .v d ∧ C' = C ∧ Gives C d (nx kind lives ⟨a, m, o, b, t, w, xs, ys⟩ "back lost") := by
  rw [c_law_call]
  refine run_e d__law_call _ [.val (.int kind), .val (.int lives), .val (Sx.at ⟨a, m, o, b, t, w, xs, ys⟩ x y), .val (.str "back lost"), .no, .no, .no, .no, .no, .no, .no, .no, .no, .no, .no] rfl (by decide) rfl ?_
  have hlx : ∀ ρ, bltM .len [.v x] ⟨ρ, C⟩ = .ok (.v (.int xs.length)) ⟨ρ, C⟩ := fun ρ => lenT' (.inl rfl) hx
  have hly : ∀ ρ, bltM .len [.v y] ⟨ρ, C⟩ = .ok (.v (.int ys.length)) ⟨ρ, C⟩ := fun ρ => lenT' (.inl rfl) hy
  have hb : ∀ s q, bltM .int [.v (.bl q)] s = .ok (.v (.int (if q then 1 else 0))) s := fun s q => bltM_ok rfl rfl
  have em : m = "shut" ∨ m = "asks" ∨ m = "open" := ok.m
  have et : t = "shut" ∨ t = "waits" ∨ t = "open" := ok.t
  have ex : There xs := ok.xs
  have ey : Back ys := ok.ys
  clear ok
  all_goals rcases ey with _ | ⟨i, j⟩
  all_goals
    simp only [d__law_call, Sx.at, tri, LT, LB, bind_at, out_ok, pure_at, a_loc, a_k, a_glob, a_bin, a_neg, a_cmp, cq_some, a_cell, ce_v, ce_o, a_chain, a_and, a_or, a_not, a_ife, a_lst, a_tup, a_idx, a_slc, a_call, a_blt, a_nil, a_cons, h_nil, h_cons, o_no, o_some, t_nil, t_cons, tv_at, i_seq, i_rng1, i_rng2, i_enum, p_v, p_s, peekS_val, peekS_own, d_int, d_bl, d_str, d_non, d_lst, d_tup, d_ro, ho_v, ho_s, ho_l, fr_v, fr_l, fr_s, frzV_val, frzV_own, oo_some, te_bl, te_int, te_non, te_lst, te_tup, ps_nil, ps_cons, pk_v, pk_s, consO_some, ad_nil, ad_cons, ad_v, ad_s, argS_val, argS_own, locV_val, locV_own, globV_some, negV_int, intO_int, slotV_some, x_nil, nextM_nx, nextM_ret, nextM_brk, nextM_ct, x_cons, x_asg, x_cell, x_par, g_v, g_n, g_s, g_tp, gd_nm, gd_2, gd_3, parM_two, x_expr, x_ret, r_v, r_n, r_s, retV_own, retV_val, x_retN, x_ite, x_raise, x_try, x_pass, x_brk, x_cont, x_setI, putI_int, x_augI, nn_v, nn_s, x_app, appM_lst, iteM_t, iteM_f, iteM_at, op_addI, op_subI, cm_lt, cm_le, cm_gt, cm_ge, cm_is, cm_isn, cm_eqI, cm_neI, ix_l, ix_t, ix_r, List.getElem?_cons_succ, List.getElem?_cons_zero, List.set_cons_succ, List.set_cons_zero, List.length_cons, List.length_nil, Nat.reduceAdd, Nat.reduceLT, Nat.reduceLeDiff, p_nl, g_t2, gt2, eqS, neS, inL3, inS2, inT3, ofS, String.reduceEq, Int.reduceEq, at0, at1, at2, at3, bt0, bt1, bt2, ct0, ct1, dt0, dr_l, bl_int, z0, z1, z2, z3, z4, decide_true, decide_false, Bool.or_false, Bool.false_or, Bool.or_true, Bool.true_or, Bool.not_true, Bool.not_false, Bool.false_eq_true, if_true, if_false, List.isEmpty_nil, List.isEmpty_cons, negV_int, Int.reduceNeg, w_ok, hx, hy, hlx, hly, hb, op_modI hl, List.length_nil, List.length_cons, Nat.zero_add, Int.natCast_zero, Int.cast_ofNat_Int, Int.natCast_one]
    refine ⟨_, rfl, by first | trivial | rfl, ?_⟩
    simp only [nx, arrT, arrB, ofS, String.reduceEq, if_true, if_false, false_and, and_false, true_and, and_true, false_or, or_false, true_or, or_true, List.isEmpty_nil, List.isEmpty_cons, Bool.false_eq_true, not_true_eq_false, not_false_eq_true, ne_eq, LT, LB, Gives, Sx.at, tri]
    first | done | exact ⟨_, _, rfl, by first | assumption | rfl, by first | assumption | rfl⟩
theorem lc_ask (hl : 0 < lives) (hk : kind = 2 ∨ kind = 3) (ok : Sx.Ok ⟨a, m, o, b, t, w, xs, ys⟩) (hx : deref C x = .lst xs) (hy : deref C y = .lst ys) :
    OcW ((tx.gam (k + 1)).call "_law_call" [.int kind, .int lives, Sx.at ⟨a, m, o, b, t, w, xs, ys⟩ x y, .str "ask"] C) fun r C' => ∃ d, r = .v d ∧ C' = C ∧ Gives C d (nx kind lives ⟨a, m, o, b, t, w, xs, ys⟩ "ask") := by
  rw [c_law_call]
  refine run_e d__law_call _ [.val (.int kind), .val (.int lives), .val (Sx.at ⟨a, m, o, b, t, w, xs, ys⟩ x y), .val (.str "ask"), .no, .no, .no, .no, .no, .no, .no, .no, .no, .no, .no] rfl (by decide) rfl ?_
  have hlx : ∀ ρ, bltM .len [.v x] ⟨ρ, C⟩ = .ok (.v (.int xs.length)) ⟨ρ, C⟩ := fun ρ => lenT' (.inl rfl) hx
  have hly : ∀ ρ, bltM .len [.v y] ⟨ρ, C⟩ = .ok (.v (.int ys.length)) ⟨ρ, C⟩ := fun ρ => lenT' (.inl rfl) hy
  have hb : ∀ s q, bltM .int [.v (.bl q)] s = .ok (.v (.int (if q then 1 else 0))) s := fun s q => bltM_ok rfl rfl
  have em : m = "shut" ∨ m = "asks" ∨ m = "open" := ok.m
  have et : t = "shut" ∨ t = "waits" ∨ t = "open" := ok.t
  have ex : There xs := ok.xs
  have ey : Back ys := ok.ys
  clear ok
  all_goals rcases em with rfl | rfl | rfl
  all_goals rcases ex with _ | i | i
  all_goals
    simp only [d__law_call, Sx.at, tri, LT, LB, bind_at, out_ok, pure_at, a_loc, a_k, a_glob, a_bin, a_neg, a_cmp, cq_some, a_cell, ce_v, ce_o, a_chain, a_and, a_or, a_not, a_ife, a_lst, a_tup, a_idx, a_slc, a_call, a_blt, a_nil, a_cons, h_nil, h_cons, o_no, o_some, t_nil, t_cons, tv_at, i_seq, i_rng1, i_rng2, i_enum, p_v, p_s, peekS_val, peekS_own, d_int, d_bl, d_str, d_non, d_lst, d_tup, d_ro, ho_v, ho_s, ho_l, fr_v, fr_l, fr_s, frzV_val, frzV_own, oo_some, te_bl, te_int, te_non, te_lst, te_tup, ps_nil, ps_cons, pk_v, pk_s, consO_some, ad_nil, ad_cons, ad_v, ad_s, argS_val, argS_own, locV_val, locV_own, globV_some, negV_int, intO_int, slotV_some, x_nil, nextM_nx, nextM_ret, nextM_brk, nextM_ct, x_cons, x_asg, x_cell, x_par, g_v, g_n, g_s, g_tp, gd_nm, gd_2, gd_3, parM_two, x_expr, x_ret, r_v, r_n, r_s, retV_own, retV_val, x_retN, x_ite, x_raise, x_try, x_pass, x_brk, x_cont, x_setI, putI_int, x_augI, nn_v, nn_s, x_app, appM_lst, iteM_t, iteM_f, iteM_at, op_addI, op_subI, cm_lt, cm_le, cm_gt, cm_ge, cm_is, cm_isn, cm_eqI, cm_neI, ix_l, ix_t, ix_r, List.getElem?_cons_succ, List.getElem?_cons_zero, List.set_cons_succ, List.set_cons_zero, List.length_cons, List.length_nil, Nat.reduceAdd, Nat.reduceLT, Nat.reduceLeDiff, p_nl, g_t2, gt2, eqS, neS, inL3, inS2, inT3, ofS, String.reduceEq, Int.reduceEq, at0, at1, at2, at3, bt0, bt1, bt2, ct0, ct1, dt0, dr_l, bl_int, z0, z1, z2, z3, z4, decide_true, decide_false, Bool.or_false, Bool.false_or, Bool.or_true, Bool.true_or, Bool.not_true, Bool.not_false, Bool.false_eq_true, if_true, if_false, List.isEmpty_nil, List.isEmpty_cons, negV_int, Int.reduceNeg, w_ok, hx, hy, hlx, hly, hb, op_modI hl, List.length_nil, List.length_cons, Nat.zero_add, Int.natCast_zero, Int.cast_ofNat_Int, Int.natCast_one]
    refine ⟨_, rfl, by first | trivial | rfl, ?_⟩
    simp only [nx, arrT, arrB, ofS, String.reduceEq, if_true, if_false, false_and, and_false, true_and, and_true, false_or, or_false, true_or, or_true, List.isEmpty_nil, List.isEmpty_cons, Bool.false_eq_true, not_true_eq_false, not_false_eq_true, ne_eq, LT, LB, Gives, Sx.at, tri]
    first | done | exact ⟨_, _, rfl, by first | assumption | rfl, by first | assumption | rfl⟩
theorem lc_again (hl : 0 < lives) (hk : kind = 2 ∨ kind = 3) (ok : Sx.Ok ⟨a, m, o, b, t, w, xs, ys⟩) (hx : deref C x = .lst xs) (hy : deref C y = .lst ys) :
    OcW ((tx.gam (k + 1)).call "_law_call" [.int kind, .int lives, Sx.at ⟨a, m, o, b, t, w, xs, ys⟩ x y, .str "again"] C) fun r C' => ∃ d, r = .v d ∧ C' = C ∧ Gives C d (nx kind lives ⟨a, m, o, b, t, w, xs, ys⟩ "again") := by
  rw [c_law_call]
  refine run_e d__law_call _ [.val (.int kind), .val (.int lives), .val (Sx.at ⟨a, m, o, b, t, w, xs, ys⟩ x y), .val (.str "again"), .no, .no, .no, .no, .no, .no, .no, .no, .no, .no, .no] rfl (by decide) rfl ?_
  have hlx : ∀ ρ, bltM .len [.v x] ⟨ρ, C⟩ = .ok (.v (.int xs.length)) ⟨ρ, C⟩ := fun ρ => lenT' (.inl rfl) hx
  have hly : ∀ ρ, bltM .len [.v y] ⟨ρ, C⟩ = .ok (.v (.int ys.length)) ⟨ρ, C⟩ := fun ρ => lenT' (.inl rfl) hy
  have hb : ∀ s q, bltM .int [.v (.bl q)] s = .ok (.v (.int (if q then 1 else 0))) s := fun s q => bltM_ok rfl rfl
  have em : m = "shut" ∨ m = "asks" ∨ m = "open" := ok.m
  have et : t = "shut" ∨ t = "waits" ∨ t = "open" := ok.t
  have ex : There xs := ok.xs
  have ey : Back ys := ok.ys
  clear ok
  all_goals rcases em with rfl | rfl | rfl
  all_goals rcases ex with _ | i | i
  all_goals
    simp only [d__law_call, Sx.at, tri, LT, LB, bind_at, out_ok, pure_at, a_loc, a_k, a_glob, a_bin, a_neg, a_cmp, cq_some, a_cell, ce_v, ce_o, a_chain, a_and, a_or, a_not, a_ife, a_lst, a_tup, a_idx, a_slc, a_call, a_blt, a_nil, a_cons, h_nil, h_cons, o_no, o_some, t_nil, t_cons, tv_at, i_seq, i_rng1, i_rng2, i_enum, p_v, p_s, peekS_val, peekS_own, d_int, d_bl, d_str, d_non, d_lst, d_tup, d_ro, ho_v, ho_s, ho_l, fr_v, fr_l, fr_s, frzV_val, frzV_own, oo_some, te_bl, te_int, te_non, te_lst, te_tup, ps_nil, ps_cons, pk_v, pk_s, consO_some, ad_nil, ad_cons, ad_v, ad_s, argS_val, argS_own, locV_val, locV_own, globV_some, negV_int, intO_int, slotV_some, x_nil, nextM_nx, nextM_ret, nextM_brk, nextM_ct, x_cons, x_asg, x_cell, x_par, g_v, g_n, g_s, g_tp, gd_nm, gd_2, gd_3, parM_two, x_expr, x_ret, r_v, r_n, r_s, retV_own, retV_val, x_retN, x_ite, x_raise, x_try, x_pass, x_brk, x_cont, x_setI, putI_int, x_augI, nn_v, nn_s, x_app, appM_lst, iteM_t, iteM_f, iteM_at, op_addI, op_subI, cm_lt, cm_le, cm_gt, cm_ge, cm_is, cm_isn, cm_eqI, cm_neI, ix_l, ix_t, ix_r, List.getElem?_cons_succ, List.getElem?_cons_zero, List.set_cons_succ, List.set_cons_zero, List.length_cons, List.length_nil, Nat.reduceAdd, Nat.reduceLT, Nat.reduceLeDiff, p_nl, g_t2, gt2, eqS, neS, inL3, inS2, inT3, ofS, String.reduceEq, Int.reduceEq, at0, at1, at2, at3, bt0, bt1, bt2, ct0, ct1, dt0, dr_l, bl_int, z0, z1, z2, z3, z4, decide_true, decide_false, Bool.or_false, Bool.false_or, Bool.or_true, Bool.true_or, Bool.not_true, Bool.not_false, Bool.false_eq_true, if_true, if_false, List.isEmpty_nil, List.isEmpty_cons, negV_int, Int.reduceNeg, w_ok, hx, hy, hlx, hly, hb, op_modI hl, List.length_nil, List.length_cons, Nat.zero_add, Int.natCast_zero, Int.cast_ofNat_Int, Int.natCast_one]
    refine ⟨_, rfl, by first | trivial | rfl, ?_⟩
    simp only [nx, arrT, arrB, ofS, String.reduceEq, if_true, if_false, false_and, and_false, true_and, and_true, false_or, or_false, true_or, or_true, List.isEmpty_nil, List.isEmpty_cons, Bool.false_eq_true, not_true_eq_false, not_false_eq_true, ne_eq, LT, LB, Gives, Sx.at, tri]
    first | done | exact ⟨_, _, rfl, by first | assumption | rfl, by first | assumption | rfl⟩
theorem lc_cback (hl : 0 < lives) (hk : kind = 2 ∨ kind = 3) (ok : Sx.Ok ⟨a, m, o, b, t, w, xs, ys⟩) (hx : deref C x = .lst xs) (hy : deref C y = .lst ys) :
    OcW ((tx.gam (k + 1)).call "_law_call" [.int kind, .int lives, Sx.at ⟨a, m, o, b, t, w, xs, ys⟩ x y, .str "come back"] C) fun r C' => ∃ d, r = .v d ∧ C' = C ∧ Gives C d (nx kind lives ⟨a, m, o, b, t, w, xs, ys⟩ "come back") := by
  rw [c_law_call]
  refine run_e d__law_call _ [.val (.int kind), .val (.int lives), .val (Sx.at ⟨a, m, o, b, t, w, xs, ys⟩ x y), .val (.str "come back"), .no, .no, .no, .no, .no, .no, .no, .no, .no, .no, .no] rfl (by decide) rfl ?_
  have hlx : ∀ ρ, bltM .len [.v x] ⟨ρ, C⟩ = .ok (.v (.int xs.length)) ⟨ρ, C⟩ := fun ρ => lenT' (.inl rfl) hx
  have hly : ∀ ρ, bltM .len [.v y] ⟨ρ, C⟩ = .ok (.v (.int ys.length)) ⟨ρ, C⟩ := fun ρ => lenT' (.inl rfl) hy
  have hb : ∀ s q, bltM .int [.v (.bl q)] s = .ok (.v (.int (if q then 1 else 0))) s := fun s q => bltM_ok rfl rfl
  have em : m = "shut" ∨ m = "asks" ∨ m = "open" := ok.m
  have et : t = "shut" ∨ t = "waits" ∨ t = "open" := ok.t
  have ex : There xs := ok.xs
  have ey : Back ys := ok.ys
  clear ok
  all_goals
    simp only [d__law_call, Sx.at, tri, LT, LB, bind_at, out_ok, pure_at, a_loc, a_k, a_glob, a_bin, a_neg, a_cmp, cq_some, a_cell, ce_v, ce_o, a_chain, a_and, a_or, a_not, a_ife, a_lst, a_tup, a_idx, a_slc, a_call, a_blt, a_nil, a_cons, h_nil, h_cons, o_no, o_some, t_nil, t_cons, tv_at, i_seq, i_rng1, i_rng2, i_enum, p_v, p_s, peekS_val, peekS_own, d_int, d_bl, d_str, d_non, d_lst, d_tup, d_ro, ho_v, ho_s, ho_l, fr_v, fr_l, fr_s, frzV_val, frzV_own, oo_some, te_bl, te_int, te_non, te_lst, te_tup, ps_nil, ps_cons, pk_v, pk_s, consO_some, ad_nil, ad_cons, ad_v, ad_s, argS_val, argS_own, locV_val, locV_own, globV_some, negV_int, intO_int, slotV_some, x_nil, nextM_nx, nextM_ret, nextM_brk, nextM_ct, x_cons, x_asg, x_cell, x_par, g_v, g_n, g_s, g_tp, gd_nm, gd_2, gd_3, parM_two, x_expr, x_ret, r_v, r_n, r_s, retV_own, retV_val, x_retN, x_ite, x_raise, x_try, x_pass, x_brk, x_cont, x_setI, putI_int, x_augI, nn_v, nn_s, x_app, appM_lst, iteM_t, iteM_f, iteM_at, op_addI, op_subI, cm_lt, cm_le, cm_gt, cm_ge, cm_is, cm_isn, cm_eqI, cm_neI, ix_l, ix_t, ix_r, List.getElem?_cons_succ, List.getElem?_cons_zero, List.set_cons_succ, List.set_cons_zero, List.length_cons, List.length_nil, Nat.reduceAdd, Nat.reduceLT, Nat.reduceLeDiff, p_nl, g_t2, gt2, eqS, neS, inL3, inS2, inT3, ofS, String.reduceEq, Int.reduceEq, at0, at1, at2, at3, bt0, bt1, bt2, ct0, ct1, dt0, dr_l, bl_int, z0, z1, z2, z3, z4, decide_true, decide_false, Bool.or_false, Bool.false_or, Bool.or_true, Bool.true_or, Bool.not_true, Bool.not_false, Bool.false_eq_true, if_true, if_false, List.isEmpty_nil, List.isEmpty_cons, negV_int, Int.reduceNeg, w_ok, hx, hy, hlx, hly, hb, op_modI hl, List.length_nil, List.length_cons, Nat.zero_add, Int.natCast_zero, Int.cast_ofNat_Int, Int.natCast_one]
    refine ⟨_, rfl, by first | trivial | rfl, ?_⟩
    simp only [nx, arrT, arrB, ofS, String.reduceEq, if_true, if_false, false_and, and_false, true_and, and_true, false_or, or_false, true_or, or_true, List.isEmpty_nil, List.isEmpty_cons, Bool.false_eq_true, not_true_eq_false, not_false_eq_true, ne_eq, LT, LB, Gives, Sx.at, tri]
    first | done | exact ⟨_, _, rfl, by first | assumption | rfl, by first | assumption | rfl⟩
theorem lc_none (hl : 0 < lives) (hk : kind = 2 ∨ kind = 3) (ok : Sx.Ok ⟨a, m, o, b, t, w, xs, ys⟩) (hx : deref C x = .lst xs) (hy : deref C y = .lst ys) :
    OcW ((tx.gam (k + 1)).call "_law_call" [.int kind, .int lives, Sx.at ⟨a, m, o, b, t, w, xs, ys⟩ x y, .str ""] C) fun r C' => ∃ d, r = .v d ∧ C' = C ∧ Gives C d (nx kind lives ⟨a, m, o, b, t, w, xs, ys⟩ "") := by
  rw [c_law_call]
  refine run_e d__law_call _ [.val (.int kind), .val (.int lives), .val (Sx.at ⟨a, m, o, b, t, w, xs, ys⟩ x y), .val (.str ""), .no, .no, .no, .no, .no, .no, .no, .no, .no, .no, .no] rfl (by decide) rfl ?_
  have hlx : ∀ ρ, bltM .len [.v x] ⟨ρ, C⟩ = .ok (.v (.int xs.length)) ⟨ρ, C⟩ := fun ρ => lenT' (.inl rfl) hx
  have hly : ∀ ρ, bltM .len [.v y] ⟨ρ, C⟩ = .ok (.v (.int ys.length)) ⟨ρ, C⟩ := fun ρ => lenT' (.inl rfl) hy
  have hb : ∀ s q, bltM .int [.v (.bl q)] s = .ok (.v (.int (if q then 1 else 0))) s := fun s q => bltM_ok rfl rfl
  have em : m = "shut" ∨ m = "asks" ∨ m = "open" := ok.m
  have et : t = "shut" ∨ t = "waits" ∨ t = "open" := ok.t
  have ex : There xs := ok.xs
  have ey : Back ys := ok.ys
  clear ok
  all_goals
    simp only [d__law_call, Sx.at, tri, LT, LB, bind_at, out_ok, pure_at, a_loc, a_k, a_glob, a_bin, a_neg, a_cmp, cq_some, a_cell, ce_v, ce_o, a_chain, a_and, a_or, a_not, a_ife, a_lst, a_tup, a_idx, a_slc, a_call, a_blt, a_nil, a_cons, h_nil, h_cons, o_no, o_some, t_nil, t_cons, tv_at, i_seq, i_rng1, i_rng2, i_enum, p_v, p_s, peekS_val, peekS_own, d_int, d_bl, d_str, d_non, d_lst, d_tup, d_ro, ho_v, ho_s, ho_l, fr_v, fr_l, fr_s, frzV_val, frzV_own, oo_some, te_bl, te_int, te_non, te_lst, te_tup, ps_nil, ps_cons, pk_v, pk_s, consO_some, ad_nil, ad_cons, ad_v, ad_s, argS_val, argS_own, locV_val, locV_own, globV_some, negV_int, intO_int, slotV_some, x_nil, nextM_nx, nextM_ret, nextM_brk, nextM_ct, x_cons, x_asg, x_cell, x_par, g_v, g_n, g_s, g_tp, gd_nm, gd_2, gd_3, parM_two, x_expr, x_ret, r_v, r_n, r_s, retV_own, retV_val, x_retN, x_ite, x_raise, x_try, x_pass, x_brk, x_cont, x_setI, putI_int, x_augI, nn_v, nn_s, x_app, appM_lst, iteM_t, iteM_f, iteM_at, op_addI, op_subI, cm_lt, cm_le, cm_gt, cm_ge, cm_is, cm_isn, cm_eqI, cm_neI, ix_l, ix_t, ix_r, List.getElem?_cons_succ, List.getElem?_cons_zero, List.set_cons_succ, List.set_cons_zero, List.length_cons, List.length_nil, Nat.reduceAdd, Nat.reduceLT, Nat.reduceLeDiff, p_nl, g_t2, gt2, eqS, neS, inL3, inS2, inT3, ofS, String.reduceEq, Int.reduceEq, at0, at1, at2, at3, bt0, bt1, bt2, ct0, ct1, dt0, dr_l, bl_int, z0, z1, z2, z3, z4, decide_true, decide_false, Bool.or_false, Bool.false_or, Bool.or_true, Bool.true_or, Bool.not_true, Bool.not_false, Bool.false_eq_true, if_true, if_false, List.isEmpty_nil, List.isEmpty_cons, negV_int, Int.reduceNeg, w_ok, hx, hy, hlx, hly, hb, op_modI hl, List.length_nil, List.length_cons, Nat.zero_add, Int.natCast_zero, Int.cast_ofNat_Int, Int.natCast_one]
    refine ⟨_, rfl, by first | trivial | rfl, ?_⟩
    simp only [nx, arrT, arrB, ofS, String.reduceEq, if_true, if_false, false_and, and_false, true_and, and_true, false_or, or_false, true_or, or_true, List.isEmpty_nil, List.isEmpty_cons, Bool.false_eq_true, not_true_eq_false, not_false_eq_true, ne_eq, LT, LB, Gives, Sx.at, tri]
    first | done | exact ⟨_, _, rfl, by first | assumption | rfl, by first | assumption | rfl⟩
theorem lc_come (hl : 0 < lives) (hk : kind = 2 ∨ kind = 3) (ok : Sx.Ok ⟨a, m, o, b, t, w, xs, ys⟩) (hx : deref C x = .lst xs) (hy : deref C y = .lst ys) :
    OcW ((tx.gam (k + 1)).call "_law_call" [.int kind, .int lives, Sx.at ⟨a, m, o, b, t, w, xs, ys⟩ x y, .str "come"] C) fun r C' => ∃ d, r = .v d ∧ C' = C ∧ Gives C d (nx kind lives ⟨a, m, o, b, t, w, xs, ys⟩ "come") := by
  rw [c_law_call]
  refine run_e d__law_call _ [.val (.int kind), .val (.int lives), .val (Sx.at ⟨a, m, o, b, t, w, xs, ys⟩ x y), .val (.str "come"), .no, .no, .no, .no, .no, .no, .no, .no, .no, .no, .no] rfl (by decide) rfl ?_
  have hlx : ∀ ρ, bltM .len [.v x] ⟨ρ, C⟩ = .ok (.v (.int xs.length)) ⟨ρ, C⟩ := fun ρ => lenT' (.inl rfl) hx
  have hly : ∀ ρ, bltM .len [.v y] ⟨ρ, C⟩ = .ok (.v (.int ys.length)) ⟨ρ, C⟩ := fun ρ => lenT' (.inl rfl) hy
  have hb : ∀ s q, bltM .int [.v (.bl q)] s = .ok (.v (.int (if q then 1 else 0))) s := fun s q => bltM_ok rfl rfl
  have em : m = "shut" ∨ m = "asks" ∨ m = "open" := ok.m
  have et : t = "shut" ∨ t = "waits" ∨ t = "open" := ok.t
  have ex : There xs := ok.xs
  have ey : Back ys := ok.ys
  clear ok
  rcases ex with _ | i | i
  · simp only [d__law_call, Sx.at, tri, LT, LB, bind_at, out_ok, pure_at, a_loc, a_k, a_glob, a_bin, a_neg, a_cmp, cq_some, a_cell, ce_v, ce_o, a_chain, a_and, a_or, a_not, a_ife, a_lst, a_tup, a_idx, a_slc, a_call, a_blt, a_nil, a_cons, h_nil, h_cons, o_no, o_some, t_nil, t_cons, tv_at, i_seq, i_rng1, i_rng2, i_enum, p_v, p_s, peekS_val, peekS_own, d_int, d_bl, d_str, d_non, d_lst, d_tup, d_ro, ho_v, ho_s, ho_l, fr_v, fr_l, fr_s, frzV_val, frzV_own, oo_some, te_bl, te_int, te_non, te_lst, te_tup, ps_nil, ps_cons, pk_v, pk_s, consO_some, ad_nil, ad_cons, ad_v, ad_s, argS_val, argS_own, locV_val, locV_own, globV_some, negV_int, intO_int, slotV_some, x_nil, nextM_nx, nextM_ret, nextM_brk, nextM_ct, x_cons, x_asg, x_cell, x_par, g_v, g_n, g_s, g_tp, gd_nm, gd_2, gd_3, parM_two, x_expr, x_ret, r_v, r_n, r_s, retV_own, retV_val, x_retN, x_ite, x_raise, x_try, x_pass, x_brk, x_cont, x_setI, putI_int, x_augI, nn_v, nn_s, x_app, appM_lst, iteM_t, iteM_f, iteM_at, op_addI, op_subI, cm_lt, cm_le, cm_gt, cm_ge, cm_is, cm_isn, cm_eqI, cm_neI, ix_l, ix_t, ix_r, List.getElem?_cons_succ, List.getElem?_cons_zero, List.set_cons_succ, List.set_cons_zero, List.length_cons, List.length_nil, Nat.reduceAdd, Nat.reduceLT, Nat.reduceLeDiff, p_nl, g_t2, gt2, eqS, neS, inL3, inS2, inT3, ofS, String.reduceEq, Int.reduceEq, at0, at1, at2, at3, bt0, bt1, bt2, ct0, ct1, dt0, dr_l, bl_int, z0, z1, z2, z3, z4, decide_true, decide_false, Bool.or_false, Bool.false_or, Bool.or_true, Bool.true_or, Bool.not_true, Bool.not_false, Bool.false_eq_true, if_true, if_false, List.isEmpty_nil, List.isEmpty_cons, negV_int, Int.reduceNeg, w_ok, hx, hy, hlx, hly, hb, op_modI hl, List.length_nil, List.length_cons, Nat.zero_add, Int.natCast_zero, Int.cast_ofNat_Int, Int.natCast_one]
    refine ⟨_, rfl, by first | trivial | rfl, ?_⟩
    simp only [nx, arrT, arrB, ofS, String.reduceEq, if_true, if_false, false_and, and_false, true_and, and_true, false_or, or_false, true_or, or_true, List.isEmpty_nil, List.isEmpty_cons, Bool.false_eq_true, not_true_eq_false, not_false_eq_true, ne_eq, LT, LB, Gives, Sx.at, tri]
  · all_goals rcases hk with rfl | rfl
    all_goals rcases ey with _ | ⟨i, j⟩
    all_goals
      simp only [d__law_call, Sx.at, tri, LT, LB, bind_at, out_ok, pure_at, a_loc, a_k, a_glob, a_bin, a_neg, a_cmp, cq_some, a_cell, ce_v, ce_o, a_chain, a_and, a_or, a_not, a_ife, a_lst, a_tup, a_idx, a_slc, a_call, a_blt, a_nil, a_cons, h_nil, h_cons, o_no, o_some, t_nil, t_cons, tv_at, i_seq, i_rng1, i_rng2, i_enum, p_v, p_s, peekS_val, peekS_own, d_int, d_bl, d_str, d_non, d_lst, d_tup, d_ro, ho_v, ho_s, ho_l, fr_v, fr_l, fr_s, frzV_val, frzV_own, oo_some, te_bl, te_int, te_non, te_lst, te_tup, ps_nil, ps_cons, pk_v, pk_s, consO_some, ad_nil, ad_cons, ad_v, ad_s, argS_val, argS_own, locV_val, locV_own, globV_some, negV_int, intO_int, slotV_some, x_nil, nextM_nx, nextM_ret, nextM_brk, nextM_ct, x_cons, x_asg, x_cell, x_par, g_v, g_n, g_s, g_tp, gd_nm, gd_2, gd_3, parM_two, x_expr, x_ret, r_v, r_n, r_s, retV_own, retV_val, x_retN, x_ite, x_raise, x_try, x_pass, x_brk, x_cont, x_setI, putI_int, x_augI, nn_v, nn_s, x_app, appM_lst, iteM_t, iteM_f, iteM_at, op_addI, op_subI, cm_lt, cm_le, cm_gt, cm_ge, cm_is, cm_isn, cm_eqI, cm_neI, ix_l, ix_t, ix_r, List.getElem?_cons_succ, List.getElem?_cons_zero, List.set_cons_succ, List.set_cons_zero, List.length_cons, List.length_nil, Nat.reduceAdd, Nat.reduceLT, Nat.reduceLeDiff, p_nl, g_t2, gt2, eqS, neS, inL3, inS2, inT3, ofS, String.reduceEq, Int.reduceEq, at0, at1, at2, at3, bt0, bt1, bt2, ct0, ct1, dt0, dr_l, bl_int, z0, z1, z2, z3, z4, decide_true, decide_false, Bool.or_false, Bool.false_or, Bool.or_true, Bool.true_or, Bool.not_true, Bool.not_false, Bool.false_eq_true, if_true, if_false, List.isEmpty_nil, List.isEmpty_cons, negV_int, Int.reduceNeg, w_ok, hx, hy, hlx, hly, hb, op_modI hl, List.length_nil, List.length_cons, Nat.zero_add, Int.natCast_zero, Int.cast_ofNat_Int, Int.natCast_one]
      refine ⟨_, rfl, by first | trivial | rfl, ?_⟩
      simp only [nx, arrT, arrB, ofS, String.reduceEq, if_true, if_false, false_and, and_false, true_and, and_true, false_or, or_false, true_or, or_true, List.isEmpty_nil, List.isEmpty_cons, Bool.false_eq_true, not_true_eq_false, not_false_eq_true, ne_eq, LT, LB, Gives, Sx.at, tri]
      first | done | exact ⟨_, _, rfl, by first | assumption | rfl, by first | assumption | rfl⟩
  · all_goals rcases et with rfl | rfl | rfl
    all_goals by_cases q1 : i = b
    all_goals try subst q1
    all_goals try have q2 : decide (i = b) = false := decide_eq_false q1
    all_goals
      try simp only [d__law_call, Sx.at, tri, LT, LB, bind_at, out_ok, pure_at, a_loc, a_k, a_glob, a_bin, a_neg, a_cmp, cq_some, a_cell, ce_v, ce_o, a_chain, a_and, a_or, a_not, a_ife, a_lst, a_tup, a_idx, a_slc, a_call, a_blt, a_nil, a_cons, h_nil, h_cons, o_no, o_some, t_nil, t_cons, tv_at, i_seq, i_rng1, i_rng2, i_enum, p_v, p_s, peekS_val, peekS_own, d_int, d_bl, d_str, d_non, d_lst, d_tup, d_ro, ho_v, ho_s, ho_l, fr_v, fr_l, fr_s, frzV_val, frzV_own, oo_some, te_bl, te_int, te_non, te_lst, te_tup, ps_nil, ps_cons, pk_v, pk_s, consO_some, ad_nil, ad_cons, ad_v, ad_s, argS_val, argS_own, locV_val, locV_own, globV_some, negV_int, intO_int, slotV_some, x_nil, nextM_nx, nextM_ret, nextM_brk, nextM_ct, x_cons, x_asg, x_cell, x_par, g_v, g_n, g_s, g_tp, gd_nm, gd_2, gd_3, parM_two, x_expr, x_ret, r_v, r_n, r_s, retV_own, retV_val, x_retN, x_ite, x_raise, x_try, x_pass, x_brk, x_cont, x_setI, putI_int, x_augI, nn_v, nn_s, x_app, appM_lst, iteM_t, iteM_f, iteM_at, op_addI, op_subI, cm_lt, cm_le, cm_gt, cm_ge, cm_is, cm_isn, cm_eqI, cm_neI, ix_l, ix_t, ix_r, List.getElem?_cons_succ, List.getElem?_cons_zero, List.set_cons_succ, List.set_cons_zero, List.length_cons, List.length_nil, Nat.reduceAdd, Nat.reduceLT, Nat.reduceLeDiff, p_nl, g_t2, gt2, eqS, neS, inL3, inS2, inT3, ofS, String.reduceEq, Int.reduceEq, at0, at1, at2, at3, bt0, bt1, bt2, ct0, ct1, dt0, dr_l, bl_int, z0, z1, z2, z3, z4, decide_true, decide_false, Bool.or_false, Bool.false_or, Bool.or_true, Bool.true_or, Bool.not_true, Bool.not_false, Bool.false_eq_true, if_true, if_false, List.isEmpty_nil, List.isEmpty_cons, negV_int, Int.reduceNeg, w_ok, hx, hy, hlx, hly, hb, op_modI hl, List.length_nil, List.length_cons, Nat.zero_add, Int.natCast_zero, Int.cast_ofNat_Int, Int.natCast_one, q2, cm_eqI]
      try simp only [d__law_call, Sx.at, tri, LT, LB, bind_at, out_ok, pure_at, a_loc, a_k, a_glob, a_bin, a_neg, a_cmp, cq_some, a_cell, ce_v, ce_o, a_chain, a_and, a_or, a_not, a_ife, a_lst, a_tup, a_idx, a_slc, a_call, a_blt, a_nil, a_cons, h_nil, h_cons, o_no, o_some, t_nil, t_cons, tv_at, i_seq, i_rng1, i_rng2, i_enum, p_v, p_s, peekS_val, peekS_own, d_int, d_bl, d_str, d_non, d_lst, d_tup, d_ro, ho_v, ho_s, ho_l, fr_v, fr_l, fr_s, frzV_val, frzV_own, oo_some, te_bl, te_int, te_non, te_lst, te_tup, ps_nil, ps_cons, pk_v, pk_s, consO_some, ad_nil, ad_cons, ad_v, ad_s, argS_val, argS_own, locV_val, locV_own, globV_some, negV_int, intO_int, slotV_some, x_nil, nextM_nx, nextM_ret, nextM_brk, nextM_ct, x_cons, x_asg, x_cell, x_par, g_v, g_n, g_s, g_tp, gd_nm, gd_2, gd_3, parM_two, x_expr, x_ret, r_v, r_n, r_s, retV_own, retV_val, x_retN, x_ite, x_raise, x_try, x_pass, x_brk, x_cont, x_setI, putI_int, x_augI, nn_v, nn_s, x_app, appM_lst, iteM_t, iteM_f, iteM_at, op_addI, op_subI, cm_lt, cm_le, cm_gt, cm_ge, cm_is, cm_isn, cm_eqI, cm_neI, ix_l, ix_t, ix_r, List.getElem?_cons_succ, List.getElem?_cons_zero, List.set_cons_succ, List.set_cons_zero, List.length_cons, List.length_nil, Nat.reduceAdd, Nat.reduceLT, Nat.reduceLeDiff, p_nl, g_t2, gt2, eqS, neS, inL3, inS2, inT3, ofS, String.reduceEq, Int.reduceEq, at0, at1, at2, at3, bt0, bt1, bt2, ct0, ct1, dt0, dr_l, bl_int, z0, z1, z2, z3, z4, decide_true, decide_false, Bool.or_false, Bool.false_or, Bool.or_true, Bool.true_or, Bool.not_true, Bool.not_false, Bool.false_eq_true, if_true, if_false, List.isEmpty_nil, List.isEmpty_cons, negV_int, Int.reduceNeg, w_ok, hx, hy, hlx, hly, hb, op_modI hl, List.length_nil, List.length_cons, Nat.zero_add, Int.natCast_zero, Int.cast_ofNat_Int, Int.natCast_one, cm_eqI]
      refine ⟨_, rfl, by first | trivial | rfl, ?_⟩
      try simp only [nx, arrT, arrB, ofS, String.reduceEq, if_true, if_false, false_and, and_false, true_and, and_true, false_or, or_false, true_or, or_true, List.isEmpty_nil, List.isEmpty_cons, Bool.false_eq_true, not_true_eq_false, not_false_eq_true, ne_eq, LT, LB, Gives, Sx.at, tri, q1]
      try simp only [nx, arrT, arrB, ofS, String.reduceEq, if_true, if_false, false_and, and_false, true_and, and_true, false_or, or_false, true_or, or_true, List.isEmpty_nil, List.isEmpty_cons, Bool.false_eq_true, not_true_eq_false, not_false_eq_true, ne_eq, LT, LB, Gives, Sx.at, tri]
      first | done | exact ⟨_, _, rfl, by first | assumption | rfl, by first | assumption | rfl⟩
theorem lc_comea (hl : 0 < lives) (hk : kind = 2 ∨ kind = 3) (ok : Sx.Ok ⟨a, m, o, b, t, w, xs, ys⟩) (hx : deref C x = .lst xs) (hy : deref C y = .lst ys) :
    OcW ((tx.gam (k + 1)).call "_law_call" [.int kind, .int lives, Sx.at ⟨a, m, o, b, t, w, xs, ys⟩ x y, .str "come again"] C) fun r C' => ∃ d, r = .v d ∧ C' = C ∧ Gives C d (nx kind lives ⟨a, m, o, b, t, w, xs, ys⟩ "come again") := by
  rw [c_law_call]
  refine run_e d__law_call _ [.val (.int kind), .val (.int lives), .val (Sx.at ⟨a, m, o, b, t, w, xs, ys⟩ x y), .val (.str "come again"), .no, .no, .no, .no, .no, .no, .no, .no, .no, .no, .no] rfl (by decide) rfl ?_
  have hlx : ∀ ρ, bltM .len [.v x] ⟨ρ, C⟩ = .ok (.v (.int xs.length)) ⟨ρ, C⟩ := fun ρ => lenT' (.inl rfl) hx
  have hly : ∀ ρ, bltM .len [.v y] ⟨ρ, C⟩ = .ok (.v (.int ys.length)) ⟨ρ, C⟩ := fun ρ => lenT' (.inl rfl) hy
  have hb : ∀ s q, bltM .int [.v (.bl q)] s = .ok (.v (.int (if q then 1 else 0))) s := fun s q => bltM_ok rfl rfl
  have em : m = "shut" ∨ m = "asks" ∨ m = "open" := ok.m
  have et : t = "shut" ∨ t = "waits" ∨ t = "open" := ok.t
  have ex : There xs := ok.xs
  have ey : Back ys := ok.ys
  clear ok
  rcases ex with _ | i | i
  · simp only [d__law_call, Sx.at, tri, LT, LB, bind_at, out_ok, pure_at, a_loc, a_k, a_glob, a_bin, a_neg, a_cmp, cq_some, a_cell, ce_v, ce_o, a_chain, a_and, a_or, a_not, a_ife, a_lst, a_tup, a_idx, a_slc, a_call, a_blt, a_nil, a_cons, h_nil, h_cons, o_no, o_some, t_nil, t_cons, tv_at, i_seq, i_rng1, i_rng2, i_enum, p_v, p_s, peekS_val, peekS_own, d_int, d_bl, d_str, d_non, d_lst, d_tup, d_ro, ho_v, ho_s, ho_l, fr_v, fr_l, fr_s, frzV_val, frzV_own, oo_some, te_bl, te_int, te_non, te_lst, te_tup, ps_nil, ps_cons, pk_v, pk_s, consO_some, ad_nil, ad_cons, ad_v, ad_s, argS_val, argS_own, locV_val, locV_own, globV_some, negV_int, intO_int, slotV_some, x_nil, nextM_nx, nextM_ret, nextM_brk, nextM_ct, x_cons, x_asg, x_cell, x_par, g_v, g_n, g_s, g_tp, gd_nm, gd_2, gd_3, parM_two, x_expr, x_ret, r_v, r_n, r_s, retV_own, retV_val, x_retN, x_ite, x_raise, x_try, x_pass, x_brk, x_cont, x_setI, putI_int, x_augI, nn_v, nn_s, x_app, appM_lst, iteM_t, iteM_f, iteM_at, op_addI, op_subI, cm_lt, cm_le, cm_gt, cm_ge, cm_is, cm_isn, cm_eqI, cm_neI, ix_l, ix_t, ix_r, List.getElem?_cons_succ, List.getElem?_cons_zero, List.set_cons_succ, List.set_cons_zero, List.length_cons, List.length_nil, Nat.reduceAdd, Nat.reduceLT, Nat.reduceLeDiff, p_nl, g_t2, gt2, eqS, neS, inL3, inS2, inT3, ofS, String.reduceEq, Int.reduceEq, at0, at1, at2, at3, bt0, bt1, bt2, ct0, ct1, dt0, dr_l, bl_int, z0, z1, z2, z3, z4, decide_true, decide_false, Bool.or_false, Bool.false_or, Bool.or_true, Bool.true_or, Bool.not_true, Bool.not_false, Bool.false_eq_true, if_true, if_false, List.isEmpty_nil, List.isEmpty_cons, negV_int, Int.reduceNeg, w_ok, hx, hy, hlx, hly, hb, op_modI hl, List.length_nil, List.length_cons, Nat.zero_add, Int.natCast_zero, Int.cast_ofNat_Int, Int.natCast_one]
    refine ⟨_, rfl, by first | trivial | rfl, ?_⟩
    simp only [nx, arrT, arrB, ofS, String.reduceEq, if_true, if_false, false_and, and_false, true_and, and_true, false_or, or_false, true_or, or_true, List.isEmpty_nil, List.isEmpty_cons, Bool.false_eq_true, not_true_eq_false, not_false_eq_true, ne_eq, LT, LB, Gives, Sx.at, tri]
  · all_goals rcases hk with rfl | rfl
    all_goals rcases ey with _ | ⟨i, j⟩
    all_goals
      simp only [d__law_call, Sx.at, tri, LT, LB, bind_at, out_ok, pure_at, a_loc, a_k, a_glob, a_bin, a_neg, a_cmp, cq_some, a_cell, ce_v, ce_o, a_chain, a_and, a_or, a_not, a_ife, a_lst, a_tup, a_idx, a_slc, a_call, a_blt, a_nil, a_cons, h_nil, h_cons, o_no, o_some, t_nil, t_cons, tv_at, i_seq, i_rng1, i_rng2, i_enum, p_v, p_s, peekS_val, peekS_own, d_int, d_bl, d_str, d_non, d_lst, d_tup, d_ro, ho_v, ho_s, ho_l, fr_v, fr_l, fr_s, frzV_val, frzV_own, oo_some, te_bl, te_int, te_non, te_lst, te_tup, ps_nil, ps_cons, pk_v, pk_s, consO_some, ad_nil, ad_cons, ad_v, ad_s, argS_val, argS_own, locV_val, locV_own, globV_some, negV_int, intO_int, slotV_some, x_nil, nextM_nx, nextM_ret, nextM_brk, nextM_ct, x_cons, x_asg, x_cell, x_par, g_v, g_n, g_s, g_tp, gd_nm, gd_2, gd_3, parM_two, x_expr, x_ret, r_v, r_n, r_s, retV_own, retV_val, x_retN, x_ite, x_raise, x_try, x_pass, x_brk, x_cont, x_setI, putI_int, x_augI, nn_v, nn_s, x_app, appM_lst, iteM_t, iteM_f, iteM_at, op_addI, op_subI, cm_lt, cm_le, cm_gt, cm_ge, cm_is, cm_isn, cm_eqI, cm_neI, ix_l, ix_t, ix_r, List.getElem?_cons_succ, List.getElem?_cons_zero, List.set_cons_succ, List.set_cons_zero, List.length_cons, List.length_nil, Nat.reduceAdd, Nat.reduceLT, Nat.reduceLeDiff, p_nl, g_t2, gt2, eqS, neS, inL3, inS2, inT3, ofS, String.reduceEq, Int.reduceEq, at0, at1, at2, at3, bt0, bt1, bt2, ct0, ct1, dt0, dr_l, bl_int, z0, z1, z2, z3, z4, decide_true, decide_false, Bool.or_false, Bool.false_or, Bool.or_true, Bool.true_or, Bool.not_true, Bool.not_false, Bool.false_eq_true, if_true, if_false, List.isEmpty_nil, List.isEmpty_cons, negV_int, Int.reduceNeg, w_ok, hx, hy, hlx, hly, hb, op_modI hl, List.length_nil, List.length_cons, Nat.zero_add, Int.natCast_zero, Int.cast_ofNat_Int, Int.natCast_one]
      refine ⟨_, rfl, by first | trivial | rfl, ?_⟩
      simp only [nx, arrT, arrB, ofS, String.reduceEq, if_true, if_false, false_and, and_false, true_and, and_true, false_or, or_false, true_or, or_true, List.isEmpty_nil, List.isEmpty_cons, Bool.false_eq_true, not_true_eq_false, not_false_eq_true, ne_eq, LT, LB, Gives, Sx.at, tri]
      first | done | exact ⟨_, _, rfl, by first | assumption | rfl, by first | assumption | rfl⟩
  · all_goals rcases et with rfl | rfl | rfl
    all_goals by_cases q1 : i = b
    all_goals try subst q1
    all_goals try have q2 : decide (i = b) = false := decide_eq_false q1
    all_goals
      try simp only [d__law_call, Sx.at, tri, LT, LB, bind_at, out_ok, pure_at, a_loc, a_k, a_glob, a_bin, a_neg, a_cmp, cq_some, a_cell, ce_v, ce_o, a_chain, a_and, a_or, a_not, a_ife, a_lst, a_tup, a_idx, a_slc, a_call, a_blt, a_nil, a_cons, h_nil, h_cons, o_no, o_some, t_nil, t_cons, tv_at, i_seq, i_rng1, i_rng2, i_enum, p_v, p_s, peekS_val, peekS_own, d_int, d_bl, d_str, d_non, d_lst, d_tup, d_ro, ho_v, ho_s, ho_l, fr_v, fr_l, fr_s, frzV_val, frzV_own, oo_some, te_bl, te_int, te_non, te_lst, te_tup, ps_nil, ps_cons, pk_v, pk_s, consO_some, ad_nil, ad_cons, ad_v, ad_s, argS_val, argS_own, locV_val, locV_own, globV_some, negV_int, intO_int, slotV_some, x_nil, nextM_nx, nextM_ret, nextM_brk, nextM_ct, x_cons, x_asg, x_cell, x_par, g_v, g_n, g_s, g_tp, gd_nm, gd_2, gd_3, parM_two, x_expr, x_ret, r_v, r_n, r_s, retV_own, retV_val, x_retN, x_ite, x_raise, x_try, x_pass, x_brk, x_cont, x_setI, putI_int, x_augI, nn_v, nn_s, x_app, appM_lst, iteM_t, iteM_f, iteM_at, op_addI, op_subI, cm_lt, cm_le, cm_gt, cm_ge, cm_is, cm_isn, cm_eqI, cm_neI, ix_l, ix_t, ix_r, List.getElem?_cons_succ, List.getElem?_cons_zero, List.set_cons_succ, List.set_cons_zero, List.length_cons, List.length_nil, Nat.reduceAdd, Nat.reduceLT, Nat.reduceLeDiff, p_nl, g_t2, gt2, eqS, neS, inL3, inS2, inT3, ofS, String.reduceEq, Int.reduceEq, at0, at1, at2, at3, bt0, bt1, bt2, ct0, ct1, dt0, dr_l, bl_int, z0, z1, z2, z3, z4, decide_true, decide_false, Bool.or_false, Bool.false_or, Bool.or_true, Bool.true_or, Bool.not_true, Bool.not_false, Bool.false_eq_true, if_true, if_false, List.isEmpty_nil, List.isEmpty_cons, negV_int, Int.reduceNeg, w_ok, hx, hy, hlx, hly, hb, op_modI hl, List.length_nil, List.length_cons, Nat.zero_add, Int.natCast_zero, Int.cast_ofNat_Int, Int.natCast_one, q2, cm_eqI]
      try simp only [d__law_call, Sx.at, tri, LT, LB, bind_at, out_ok, pure_at, a_loc, a_k, a_glob, a_bin, a_neg, a_cmp, cq_some, a_cell, ce_v, ce_o, a_chain, a_and, a_or, a_not, a_ife, a_lst, a_tup, a_idx, a_slc, a_call, a_blt, a_nil, a_cons, h_nil, h_cons, o_no, o_some, t_nil, t_cons, tv_at, i_seq, i_rng1, i_rng2, i_enum, p_v, p_s, peekS_val, peekS_own, d_int, d_bl, d_str, d_non, d_lst, d_tup, d_ro, ho_v, ho_s, ho_l, fr_v, fr_l, fr_s, frzV_val, frzV_own, oo_some, te_bl, te_int, te_non, te_lst, te_tup, ps_nil, ps_cons, pk_v, pk_s, consO_some, ad_nil, ad_cons, ad_v, ad_s, argS_val, argS_own, locV_val, locV_own, globV_some, negV_int, intO_int, slotV_some, x_nil, nextM_nx, nextM_ret, nextM_brk, nextM_ct, x_cons, x_asg, x_cell, x_par, g_v, g_n, g_s, g_tp, gd_nm, gd_2, gd_3, parM_two, x_expr, x_ret, r_v, r_n, r_s, retV_own, retV_val, x_retN, x_ite, x_raise, x_try, x_pass, x_brk, x_cont, x_setI, putI_int, x_augI, nn_v, nn_s, x_app, appM_lst, iteM_t, iteM_f, iteM_at, op_addI, op_subI, cm_lt, cm_le, cm_gt, cm_ge, cm_is, cm_isn, cm_eqI, cm_neI, ix_l, ix_t, ix_r, List.getElem?_cons_succ, List.getElem?_cons_zero, List.set_cons_succ, List.set_cons_zero, List.length_cons, List.length_nil, Nat.reduceAdd, Nat.reduceLT, Nat.reduceLeDiff, p_nl, g_t2, gt2, eqS, neS, inL3, inS2, inT3, ofS, String.reduceEq, Int.reduceEq, at0, at1, at2, at3, bt0, bt1, bt2, ct0, ct1, dt0, dr_l, bl_int, z0, z1, z2, z3, z4, decide_true, decide_false, Bool.or_false, Bool.false_or, Bool.or_true, Bool.true_or, Bool.not_true, Bool.not_false, Bool.false_eq_true, if_true, if_false, List.isEmpty_nil, List.isEmpty_cons, negV_int, Int.reduceNeg, w_ok, hx, hy, hlx, hly, hb, op_modI hl, List.length_nil, List.length_cons, Nat.zero_add, Int.natCast_zero, Int.cast_ofNat_Int, Int.natCast_one, cm_eqI]
      refine ⟨_, rfl, by first | trivial | rfl, ?_⟩
      try simp only [nx, arrT, arrB, ofS, String.reduceEq, if_true, if_false, false_and, and_false, true_and, and_true, false_or, or_false, true_or, or_true, List.isEmpty_nil, List.isEmpty_cons, Bool.false_eq_true, not_true_eq_false, not_false_eq_true, ne_eq, LT, LB, Gives, Sx.at, tri, q1]
      try simp only [nx, arrT, arrB, ofS, String.reduceEq, if_true, if_false, false_and, and_false, true_and, and_true, false_or, or_false, true_or, or_true, List.isEmpty_nil, List.isEmpty_cons, Bool.false_eq_true, not_true_eq_false, not_false_eq_true, ne_eq, LT, LB, Gives, Sx.at, tri]
      first | done | exact ⟨_, _, rfl, by first | assumption | rfl, by first | assumption | rfl⟩
theorem lc_back (hl : 0 < lives) (hk : kind = 2 ∨ kind = 3) (ok : Sx.Ok ⟨a, m, o, b, t, w, xs, ys⟩) (hx : deref C x = .lst xs) (hy : deref C y = .lst ys) :
    OcW ((tx.gam (k + 1)).call "_law_call" [.int kind, .int lives, Sx.at ⟨a, m, o, b, t, w, xs, ys⟩ x y, .str "back"] C) fun r C' => ∃ d, r = .v d ∧ C' = C ∧ Gives C d (nx kind lives ⟨a, m, o, b, t, w, xs, ys⟩ "back") := by
  rw [c_law_call]
  refine run_e d__law_call _ [.val (.int kind), .val (.int lives), .val (Sx.at ⟨a, m, o, b, t, w, xs, ys⟩ x y), .val (.str "back"), .no, .no, .no, .no, .no, .no, .no, .no, .no, .no, .no] rfl (by decide) rfl ?_
  have hlx : ∀ ρ, bltM .len [.v x] ⟨ρ, C⟩ = .ok (.v (.int xs.length)) ⟨ρ, C⟩ := fun ρ => lenT' (.inl rfl) hx
  have hly : ∀ ρ, bltM .len [.v y] ⟨ρ, C⟩ = .ok (.v (.int ys.length)) ⟨ρ, C⟩ := fun ρ => lenT' (.inl rfl) hy
  have hb : ∀ s q, bltM .int [.v (.bl q)] s = .ok (.v (.int (if q then 1 else 0))) s := fun s q => bltM_ok rfl rfl
  have em : m = "shut" ∨ m = "asks" ∨ m = "open" := ok.m
  have et : t = "shut" ∨ t = "waits" ∨ t = "open" := ok.t
  have ex : There xs := ok.xs
  have ey : Back ys := ok.ys
  clear ok
  rcases ey with _ | ⟨i, j⟩
  · simp only [d__law_call, Sx.at, tri, LT, LB, bind_at, out_ok, pure_at, a_loc, a_k, a_glob, a_bin, a_neg, a_cmp, cq_some, a_cell, ce_v, ce_o, a_chain, a_and, a_or, a_not, a_ife, a_lst, a_tup, a_idx, a_slc, a_call, a_blt, a_nil, a_cons, h_nil, h_cons, o_no, o_some, t_nil, t_cons, tv_at, i_seq, i_rng1, i_rng2, i_enum, p_v, p_s, peekS_val, peekS_own, d_int, d_bl, d_str, d_non, d_lst, d_tup, d_ro, ho_v, ho_s, ho_l, fr_v, fr_l, fr_s, frzV_val, frzV_own, oo_some, te_bl, te_int, te_non, te_lst, te_tup, ps_nil, ps_cons, pk_v, pk_s, consO_some, ad_nil, ad_cons, ad_v, ad_s, argS_val, argS_own, locV_val, locV_own, globV_some, negV_int, intO_int, slotV_some, x_nil, nextM_nx, nextM_ret, nextM_brk, nextM_ct, x_cons, x_asg, x_cell, x_par, g_v, g_n, g_s, g_tp, gd_nm, gd_2, gd_3, parM_two, x_expr, x_ret, r_v, r_n, r_s, retV_own, retV_val, x_retN, x_ite, x_raise, x_try, x_pass, x_brk, x_cont, x_setI, putI_int, x_augI, nn_v, nn_s, x_app, appM_lst, iteM_t, iteM_f, iteM_at, op_addI, op_subI, cm_lt, cm_le, cm_gt, cm_ge, cm_is, cm_isn, cm_eqI, cm_neI, ix_l, ix_t, ix_r, List.getElem?_cons_succ, List.getElem?_cons_zero, List.set_cons_succ, List.set_cons_zero, List.length_cons, List.length_nil, Nat.reduceAdd, Nat.reduceLT, Nat.reduceLeDiff, p_nl, g_t2, gt2, eqS, neS, inL3, inS2, inT3, ofS, String.reduceEq, Int.reduceEq, at0, at1, at2, at3, bt0, bt1, bt2, ct0, ct1, dt0, dr_l, bl_int, z0, z1, z2, z3, z4, decide_true, decide_false, Bool.or_false, Bool.false_or, Bool.or_true, Bool.true_or, Bool.not_true, Bool.not_false, Bool.false_eq_true, if_true, if_false, List.isEmpty_nil, List.isEmpty_cons, negV_int, Int.reduceNeg, w_ok, hx, hy, hlx, hly, hb, op_modI hl, List.length_nil, List.length_cons, Nat.zero_add, Int.natCast_zero, Int.cast_ofNat_Int, Int.natCast_one]
    refine ⟨_, rfl, by first | trivial | rfl, ?_⟩
    simp only [nx, arrT, arrB, ofS, String.reduceEq, if_true, if_false, false_and, and_false, true_and, and_true, false_or, or_false, true_or, or_true, List.isEmpty_nil, List.isEmpty_cons, Bool.false_eq_true, not_true_eq_false, not_false_eq_true, ne_eq, LT, LB, Gives, Sx.at, tri]
  · all_goals by_cases q1 : j = a
    all_goals try subst q1
    all_goals try have q2 : decide (j = a) = false := decide_eq_false q1
    all_goals rcases hk with rfl | rfl
    all_goals rcases em with rfl | rfl | rfl
    all_goals rcases ex with _ | i | i
    all_goals
      try simp only [d__law_call, Sx.at, tri, LT, LB, bind_at, out_ok, pure_at, a_loc, a_k, a_glob, a_bin, a_neg, a_cmp, cq_some, a_cell, ce_v, ce_o, a_chain, a_and, a_or, a_not, a_ife, a_lst, a_tup, a_idx, a_slc, a_call, a_blt, a_nil, a_cons, h_nil, h_cons, o_no, o_some, t_nil, t_cons, tv_at, i_seq, i_rng1, i_rng2, i_enum, p_v, p_s, peekS_val, peekS_own, d_int, d_bl, d_str, d_non, d_lst, d_tup, d_ro, ho_v, ho_s, ho_l, fr_v, fr_l, fr_s, frzV_val, frzV_own, oo_some, te_bl, te_int, te_non, te_lst, te_tup, ps_nil, ps_cons, pk_v, pk_s, consO_some, ad_nil, ad_cons, ad_v, ad_s, argS_val, argS_own, locV_val, locV_own, globV_some, negV_int, intO_int, slotV_some, x_nil, nextM_nx, nextM_ret, nextM_brk, nextM_ct, x_cons, x_asg, x_cell, x_par, g_v, g_n, g_s, g_tp, gd_nm, gd_2, gd_3, parM_two, x_expr, x_ret, r_v, r_n, r_s, retV_own, retV_val, x_retN, x_ite, x_raise, x_try, x_pass, x_brk, x_cont, x_setI, putI_int, x_augI, nn_v, nn_s, x_app, appM_lst, iteM_t, iteM_f, iteM_at, op_addI, op_subI, cm_lt, cm_le, cm_gt, cm_ge, cm_is, cm_isn, cm_eqI, cm_neI, ix_l, ix_t, ix_r, List.getElem?_cons_succ, List.getElem?_cons_zero, List.set_cons_succ, List.set_cons_zero, List.length_cons, List.length_nil, Nat.reduceAdd, Nat.reduceLT, Nat.reduceLeDiff, p_nl, g_t2, gt2, eqS, neS, inL3, inS2, inT3, ofS, String.reduceEq, Int.reduceEq, at0, at1, at2, at3, bt0, bt1, bt2, ct0, ct1, dt0, dr_l, bl_int, z0, z1, z2, z3, z4, decide_true, decide_false, Bool.or_false, Bool.false_or, Bool.or_true, Bool.true_or, Bool.not_true, Bool.not_false, Bool.false_eq_true, if_true, if_false, List.isEmpty_nil, List.isEmpty_cons, negV_int, Int.reduceNeg, w_ok, hx, hy, hlx, hly, hb, op_modI hl, List.length_nil, List.length_cons, Nat.zero_add, Int.natCast_zero, Int.cast_ofNat_Int, Int.natCast_one, q2, cm_eqI, cm_neI]
      try simp only [d__law_call, Sx.at, tri, LT, LB, bind_at, out_ok, pure_at, a_loc, a_k, a_glob, a_bin, a_neg, a_cmp, cq_some, a_cell, ce_v, ce_o, a_chain, a_and, a_or, a_not, a_ife, a_lst, a_tup, a_idx, a_slc, a_call, a_blt, a_nil, a_cons, h_nil, h_cons, o_no, o_some, t_nil, t_cons, tv_at, i_seq, i_rng1, i_rng2, i_enum, p_v, p_s, peekS_val, peekS_own, d_int, d_bl, d_str, d_non, d_lst, d_tup, d_ro, ho_v, ho_s, ho_l, fr_v, fr_l, fr_s, frzV_val, frzV_own, oo_some, te_bl, te_int, te_non, te_lst, te_tup, ps_nil, ps_cons, pk_v, pk_s, consO_some, ad_nil, ad_cons, ad_v, ad_s, argS_val, argS_own, locV_val, locV_own, globV_some, negV_int, intO_int, slotV_some, x_nil, nextM_nx, nextM_ret, nextM_brk, nextM_ct, x_cons, x_asg, x_cell, x_par, g_v, g_n, g_s, g_tp, gd_nm, gd_2, gd_3, parM_two, x_expr, x_ret, r_v, r_n, r_s, retV_own, retV_val, x_retN, x_ite, x_raise, x_try, x_pass, x_brk, x_cont, x_setI, putI_int, x_augI, nn_v, nn_s, x_app, appM_lst, iteM_t, iteM_f, iteM_at, op_addI, op_subI, cm_lt, cm_le, cm_gt, cm_ge, cm_is, cm_isn, cm_eqI, cm_neI, ix_l, ix_t, ix_r, List.getElem?_cons_succ, List.getElem?_cons_zero, List.set_cons_succ, List.set_cons_zero, List.length_cons, List.length_nil, Nat.reduceAdd, Nat.reduceLT, Nat.reduceLeDiff, p_nl, g_t2, gt2, eqS, neS, inL3, inS2, inT3, ofS, String.reduceEq, Int.reduceEq, at0, at1, at2, at3, bt0, bt1, bt2, ct0, ct1, dt0, dr_l, bl_int, z0, z1, z2, z3, z4, decide_true, decide_false, Bool.or_false, Bool.false_or, Bool.or_true, Bool.true_or, Bool.not_true, Bool.not_false, Bool.false_eq_true, if_true, if_false, List.isEmpty_nil, List.isEmpty_cons, negV_int, Int.reduceNeg, w_ok, hx, hy, hlx, hly, hb, op_modI hl, List.length_nil, List.length_cons, Nat.zero_add, Int.natCast_zero, Int.cast_ofNat_Int, Int.natCast_one, cm_eqI, cm_neI]
      refine ⟨_, rfl, by first | trivial | rfl, ?_⟩
      try simp only [nx, arrT, arrB, ofS, String.reduceEq, if_true, if_false, false_and, and_false, true_and, and_true, false_or, or_false, true_or, or_true, List.isEmpty_nil, List.isEmpty_cons, Bool.false_eq_true, not_true_eq_false, not_false_eq_true, ne_eq, LT, LB, Gives, Sx.at, tri, q1]
      try simp only [nx, arrT, arrB, ofS, String.reduceEq, if_true, if_false, false_and, and_false, true_and, and_true, false_or, or_false, true_or, or_true, List.isEmpty_nil, List.isEmpty_cons, Bool.false_eq_true, not_true_eq_false, not_false_eq_true, ne_eq, LT, LB, Gives, Sx.at, tri]
      first | done | exact ⟨_, _, rfl, by first | assumption | rfl, by first | assumption | rfl⟩
theorem lc_backa (hl : 0 < lives) (hk : kind = 2 ∨ kind = 3) (ok : Sx.Ok ⟨a, m, o, b, t, w, xs, ys⟩) (hx : deref C x = .lst xs) (hy : deref C y = .lst ys) :
    OcW ((tx.gam (k + 1)).call "_law_call" [.int kind, .int lives, Sx.at ⟨a, m, o, b, t, w, xs, ys⟩ x y, .str "back again"] C) fun r C' => ∃ d, r = .v d ∧ C' = C ∧ Gives C d (nx kind lives ⟨a, m, o, b, t, w, xs, ys⟩ "back again") := by
  rw [c_law_call]
  refine run_e d__law_call _ [.val (.int kind), .val (.int lives), .val (Sx.at ⟨a, m, o, b, t, w, xs, ys⟩ x y), .val (.str "back again"), .no, .no, .no, .no, .no, .no, .no, .no, .no, .no, .no] rfl (by decide) rfl ?_
  have hlx : ∀ ρ, bltM .len [.v x] ⟨ρ, C⟩ = .ok (.v (.int xs.length)) ⟨ρ, C⟩ := fun ρ => lenT' (.inl rfl) hx
  have hly : ∀ ρ, bltM .len [.v y] ⟨ρ, C⟩ = .ok (.v (.int ys.length)) ⟨ρ, C⟩ := fun ρ => lenT' (.inl rfl) hy
  have hb : ∀ s q, bltM .int [.v (.bl q)] s = .ok (.v (.int (if q then 1 else 0))) s := fun s q => bltM_ok rfl rfl
  have em : m = "shut" ∨ m = "asks" ∨ m = "open" := ok.m
  have et : t = "shut" ∨ t = "waits" ∨ t = "open" := ok.t
  have ex : There xs := ok.xs
  have ey : Back ys := ok.ys
  clear ok
  rcases ey with _ | ⟨i, j⟩
  · simp only [d__law_call, Sx.at, tri, LT, LB, bind_at, out_ok, pure_at, a_loc, a_k, a_glob, a_bin, a_neg, a_cmp, cq_some, a_cell, ce_v, ce_o, a_chain, a_and, a_or, a_not, a_ife, a_lst, a_tup, a_idx, a_slc, a_call, a_blt, a_nil, a_cons, h_nil, h_cons, o_no, o_some, t_nil, t_cons, tv_at, i_seq, i_rng1, i_rng2, i_enum, p_v, p_s, peekS_val, peekS_own, d_int, d_bl, d_str, d_non, d_lst, d_tup, d_ro, ho_v, ho_s, ho_l, fr_v, fr_l, fr_s, frzV_val, frzV_own, oo_some, te_bl, te_int, te_non, te_lst, te_tup, ps_nil, ps_cons, pk_v, pk_s, consO_some, ad_nil, ad_cons, ad_v, ad_s, argS_val, argS_own, locV_val, locV_own, globV_some, negV_int, intO_int, slotV_some, x_nil, nextM_nx, nextM_ret, nextM_brk, nextM_ct, x_cons, x_asg, x_cell, x_par, g_v, g_n, g_s, g_tp, gd_nm, gd_2, gd_3, parM_two, x_expr, x_ret, r_v, r_n, r_s, retV_own, retV_val, x_retN, x_ite, x_raise, x_try, x_pass, x_brk, x_cont, x_setI, putI_int, x_augI, nn_v, nn_s, x_app, appM_lst, iteM_t, iteM_f, iteM_at, op_addI, op_subI, cm_lt, cm_le, cm_gt, cm_ge, cm_is, cm_isn, cm_eqI, cm_neI, ix_l, ix_t, ix_r, List.getElem?_cons_succ, List.getElem?_cons_zero, List.set_cons_succ, List.set_cons_zero, List.length_cons, List.length_nil, Nat.reduceAdd, Nat.reduceLT, Nat.reduceLeDiff, p_nl, g_t2, gt2, eqS, neS, inL3, inS2, inT3, ofS, String.reduceEq, Int.reduceEq, at0, at1, at2, at3, bt0, bt1, bt2, ct0, ct1, dt0, dr_l, bl_int, z0, z1, z2, z3, z4, decide_true, decide_false, Bool.or_false, Bool.false_or, Bool.or_true, Bool.true_or, Bool.not_true, Bool.not_false, Bool.false_eq_true, if_true, if_false, List.isEmpty_nil, List.isEmpty_cons, negV_int, Int.reduceNeg, w_ok, hx, hy, hlx, hly, hb, op_modI hl, List.length_nil, List.length_cons, Nat.zero_add, Int.natCast_zero, Int.cast_ofNat_Int, Int.natCast_one]
    refine ⟨_, rfl, by first | trivial | rfl, ?_⟩
    simp only [nx, arrT, arrB, ofS, String.reduceEq, if_true, if_false, false_and, and_false, true_and, and_true, false_or, or_false, true_or, or_true, List.isEmpty_nil, List.isEmpty_cons, Bool.false_eq_true, not_true_eq_false, not_false_eq_true, ne_eq, LT, LB, Gives, Sx.at, tri]
  · all_goals by_cases q1 : j = a
    all_goals try subst q1
    all_goals try have q2 : decide (j = a) = false := decide_eq_false q1
    all_goals rcases hk with rfl | rfl
    all_goals rcases em with rfl | rfl | rfl
    all_goals rcases ex with _ | i | i
    all_goals
      try simp only [d__law_call, Sx.at, tri, LT, LB, bind_at, out_ok, pure_at, a_loc, a_k, a_glob, a_bin, a_neg, a_cmp, cq_some, a_cell, ce_v, ce_o, a_chain, a_and, a_or, a_not, a_ife, a_lst, a_tup, a_idx, a_slc, a_call, a_blt, a_nil, a_cons, h_nil, h_cons, o_no, o_some, t_nil, t_cons, tv_at, i_seq, i_rng1, i_rng2, i_enum, p_v, p_s, peekS_val, peekS_own, d_int, d_bl, d_str, d_non, d_lst, d_tup, d_ro, ho_v, ho_s, ho_l, fr_v, fr_l, fr_s, frzV_val, frzV_own, oo_some, te_bl, te_int, te_non, te_lst, te_tup, ps_nil, ps_cons, pk_v, pk_s, consO_some, ad_nil, ad_cons, ad_v, ad_s, argS_val, argS_own, locV_val, locV_own, globV_some, negV_int, intO_int, slotV_some, x_nil, nextM_nx, nextM_ret, nextM_brk, nextM_ct, x_cons, x_asg, x_cell, x_par, g_v, g_n, g_s, g_tp, gd_nm, gd_2, gd_3, parM_two, x_expr, x_ret, r_v, r_n, r_s, retV_own, retV_val, x_retN, x_ite, x_raise, x_try, x_pass, x_brk, x_cont, x_setI, putI_int, x_augI, nn_v, nn_s, x_app, appM_lst, iteM_t, iteM_f, iteM_at, op_addI, op_subI, cm_lt, cm_le, cm_gt, cm_ge, cm_is, cm_isn, cm_eqI, cm_neI, ix_l, ix_t, ix_r, List.getElem?_cons_succ, List.getElem?_cons_zero, List.set_cons_succ, List.set_cons_zero, List.length_cons, List.length_nil, Nat.reduceAdd, Nat.reduceLT, Nat.reduceLeDiff, p_nl, g_t2, gt2, eqS, neS, inL3, inS2, inT3, ofS, String.reduceEq, Int.reduceEq, at0, at1, at2, at3, bt0, bt1, bt2, ct0, ct1, dt0, dr_l, bl_int, z0, z1, z2, z3, z4, decide_true, decide_false, Bool.or_false, Bool.false_or, Bool.or_true, Bool.true_or, Bool.not_true, Bool.not_false, Bool.false_eq_true, if_true, if_false, List.isEmpty_nil, List.isEmpty_cons, negV_int, Int.reduceNeg, w_ok, hx, hy, hlx, hly, hb, op_modI hl, List.length_nil, List.length_cons, Nat.zero_add, Int.natCast_zero, Int.cast_ofNat_Int, Int.natCast_one, q2, cm_eqI, cm_neI]
      try simp only [d__law_call, Sx.at, tri, LT, LB, bind_at, out_ok, pure_at, a_loc, a_k, a_glob, a_bin, a_neg, a_cmp, cq_some, a_cell, ce_v, ce_o, a_chain, a_and, a_or, a_not, a_ife, a_lst, a_tup, a_idx, a_slc, a_call, a_blt, a_nil, a_cons, h_nil, h_cons, o_no, o_some, t_nil, t_cons, tv_at, i_seq, i_rng1, i_rng2, i_enum, p_v, p_s, peekS_val, peekS_own, d_int, d_bl, d_str, d_non, d_lst, d_tup, d_ro, ho_v, ho_s, ho_l, fr_v, fr_l, fr_s, frzV_val, frzV_own, oo_some, te_bl, te_int, te_non, te_lst, te_tup, ps_nil, ps_cons, pk_v, pk_s, consO_some, ad_nil, ad_cons, ad_v, ad_s, argS_val, argS_own, locV_val, locV_own, globV_some, negV_int, intO_int, slotV_some, x_nil, nextM_nx, nextM_ret, nextM_brk, nextM_ct, x_cons, x_asg, x_cell, x_par, g_v, g_n, g_s, g_tp, gd_nm, gd_2, gd_3, parM_two, x_expr, x_ret, r_v, r_n, r_s, retV_own, retV_val, x_retN, x_ite, x_raise, x_try, x_pass, x_brk, x_cont, x_setI, putI_int, x_augI, nn_v, nn_s, x_app, appM_lst, iteM_t, iteM_f, iteM_at, op_addI, op_subI, cm_lt, cm_le, cm_gt, cm_ge, cm_is, cm_isn, cm_eqI, cm_neI, ix_l, ix_t, ix_r, List.getElem?_cons_succ, List.getElem?_cons_zero, List.set_cons_succ, List.set_cons_zero, List.length_cons, List.length_nil, Nat.reduceAdd, Nat.reduceLT, Nat.reduceLeDiff, p_nl, g_t2, gt2, eqS, neS, inL3, inS2, inT3, ofS, String.reduceEq, Int.reduceEq, at0, at1, at2, at3, bt0, bt1, bt2, ct0, ct1, dt0, dr_l, bl_int, z0, z1, z2, z3, z4, decide_true, decide_false, Bool.or_false, Bool.false_or, Bool.or_true, Bool.true_or, Bool.not_true, Bool.not_false, Bool.false_eq_true, if_true, if_false, List.isEmpty_nil, List.isEmpty_cons, negV_int, Int.reduceNeg, w_ok, hx, hy, hlx, hly, hb, op_modI hl, List.length_nil, List.length_cons, Nat.zero_add, Int.natCast_zero, Int.cast_ofNat_Int, Int.natCast_one, cm_eqI, cm_neI]
      refine ⟨_, rfl, by first | trivial | rfl, ?_⟩
      try simp only [nx, arrT, arrB, ofS, String.reduceEq, if_true, if_false, false_and, and_false, true_and, and_true, false_or, or_false, true_or, or_true, List.isEmpty_nil, List.isEmpty_cons, Bool.false_eq_true, not_true_eq_false, not_false_eq_true, ne_eq, LT, LB, Gives, Sx.at, tri, q1]
      try simp only [nx, arrT, arrB, ofS, String.reduceEq, if_true, if_false, false_and, and_false, true_and, and_true, false_or, or_false, true_or, or_true, List.isEmpty_nil, List.isEmpty_cons, Bool.false_eq_true, not_true_eq_false, not_false_eq_true, ne_eq, LT, LB, Gives, Sx.at, tri]
      first | done | exact ⟨_, _, rfl, by first | assumption | rfl, by first | assumption | rfl⟩
end
end Law

set_option Elab.async false
set_option linter.all false
set_option maxRecDepth 100000
set_option maxHeartbeats 4000000
namespace Law
open PySem L2 IR
/-! what a body comes to -/
def toOc : Out Fl → Oc
  | .ok .nx s => .ok (.v .non) s.C
  | .ok (.ret r) s => .ok r s.C
  | .exc x s => .exc x s.C
  | _ => .bad
theorem run_to (d : Def) (ds : List D) (ρ : List Slot) (h1 : ds.length = d.ps) (h2 : d.ps ≤ d.n) (h3 : ds.map .val ++ List.replicate (d.n - d.ps) .no = ρ) {Γ : Gam} {C : List (Option Ob)} : runD Γ d ds C = toOc (exs Γ d.body ⟨ρ, C⟩) := by
  unfold runD
  rw [if_pos ⟨h1, h2⟩, h3]
  rfl
theorem oc_ret {r : Rv} {s : Sm} : toOc (.ok (.ret r) s) = .ok r s.C := rfl
theorem oc_exc {x : Exn} {s : Sm} : toOc (.exc x s) = .exc x s.C := rfl
theorem ob_exc {α β : Type} {x : Exn} {s : Sm} {f : α → M β} : (Out.exc x s).bind f = .exc x s := rfl
theorem rz {k : Nat} {s : Sm} : raiseM (tx.gam k) "NoDeed" [] s = .exc ⟨"NoDeed", []⟩ s := by
  have hx : (tx.gam k).xf "NoDeed" = some [] := by cases k <;> rfl
  unfold raiseM
  rw [hx]
  show (if ((tx.gam k).deep || true) = true then Out.exc ⟨"NoDeed", []⟩ s else .bad) = _
  rw [Bool.or_true, if_pos rfl]
theorem callM_ok {Γ : Gam} {f : Str} {rs : List Rv} {ds : List D} {r : Rv} {ρ : List Slot} {C C' : List (Option Ob)} (hp : Γ.isPure f = false) (ha : frzs rs ⟨ρ, C⟩ = .ok ds ⟨ρ, C⟩) (h : Γ.call f ds C = .ok r C') : callM Γ f rs ⟨ρ, C⟩ = .ok r ⟨ρ, C'⟩ := by
  unfold callM
  rw [hp]
  show (frzs rs _).bind _ = _
  rw [ha]
  show (match Γ.call f ds C with | .bad => Out.bad | .exc x C => .exc x ⟨ρ, C⟩ | .ok r C => .ok r ⟨ρ, C⟩) = _
  rw [h]
theorem callM_exc {Γ : Gam} {f : Str} {rs : List Rv} {ds : List D} {x : Exn} {ρ : List Slot} {C C' : List (Option Ob)} (hp : Γ.isPure f = false) (ha : frzs rs ⟨ρ, C⟩ = .ok ds ⟨ρ, C⟩) (h : Γ.call f ds C = .exc x C') : callM Γ f rs ⟨ρ, C⟩ = .exc x ⟨ρ, C'⟩ := by
  unfold callM
  rw [hp]
  show (frzs rs _).bind _ = _
  rw [ha]
  show (match Γ.call f ds C with | .bad => Out.bad | .exc x C => .exc x ⟨ρ, C⟩ | .ok r C => .ok r ⟨ρ, C⟩) = _
  rw [h]
/-! cells -/
def ceS (i : Nat) (s : Sm) : Option Slot → Out Rv
  | some (.own o) => .ok (.v (.ref s.C.length)) ⟨s.ρ.set i (.val (.ref s.C.length)), s.C ++ [some o]⟩
  | some (.val d) => .ok (.v d) s
  | _ => .bad
theorem ce_s {i : Nat} {ρ : List Slot} {C : List (Option Ob)} : cellV (.s i) ⟨ρ, C⟩ = ceS i ⟨ρ, C⟩ ρ[i]? := by
  show (match ρ[i]? with | some (.own o) => _ | some (.val d) => _ | _ => _) = _
  cases ρ[i]? with
  | none => rfl
  | some a => cases a <;> rfl
theorem ceS_own {i : Nat} {ρ : List Slot} {C : List (Option Ob)} {o : Ob} : ceS i ⟨ρ, C⟩ (some (.own o)) = .ok (.v (.ref C.length)) ⟨ρ.set i (.val (.ref C.length)), C ++ [some o]⟩ := rfl
theorem ceS_val {i : Nat} {ρ : List Slot} {C : List (Option Ob)} {d : D} : ceS i ⟨ρ, C⟩ (some (.val d)) = .ok (.v d) ⟨ρ, C⟩ := rfl
theorem bl_list {xs : List D} {s : Sm} : bltM .list [.v (.lst xs)] s = .ok (.n (.lst xs)) s := bltM_ok rfl rfl
theorem bl_listR {x : D} {xs : List D} {ρ : List Slot} {C : List (Option Ob)} (h : deref C x = .lst xs) : bltM .list [.v x] ⟨ρ, C⟩ = .ok (.n (.lst xs)) ⟨ρ, C⟩ := by
  refine bltM_ok (ds := [.lst xs]) ?_ rfl
  show consO (some (deref C x)) (some []) = _
  rw [h]
  rfl
/-! put_on, can_be_done -/
def po (xs : List D) (l : D) : List D := if xs.isEmpty then [l] else xs
theorem s_put_on (k : Nat) (xs : List D) (l : D) : Pu (tx.gam (k + 1)) "put_on" [.lst xs, l] (.n (.lst (po xs l))) := pu_of fun C => by
  rw [c_put_on]
  refine run_e d_put_on _ [.val (.lst xs), .val l] rfl (by decide) rfl ?_
  cases xs <;> simp only [d_put_on, po, bind_at, out_ok, pure_at, a_loc, a_k, a_glob, a_bin, a_neg, a_cmp, cq_some, a_cell, ce_v, ce_o, a_chain, a_and, a_or, a_not, a_ife, a_lst, a_tup, a_idx, a_slc, a_call, a_blt, a_nil, a_cons, h_nil, h_cons, o_no, o_some, t_nil, t_cons, tv_at, i_seq, i_rng1, i_rng2, i_enum, p_v, p_s, peekS_val, peekS_own, d_int, d_bl, d_str, d_non, d_lst, d_tup, d_ro, ho_v, ho_s, ho_l, fr_v, fr_l, fr_s, frzV_val, frzV_own, oo_some, te_bl, te_int, te_non, te_lst, te_tup, ps_nil, ps_cons, pk_v, pk_s, consO_some, ad_nil, ad_cons, ad_v, ad_s, argS_val, argS_own, locV_val, locV_own, globV_some, negV_int, intO_int, slotV_some, x_nil, nextM_nx, nextM_ret, nextM_brk, nextM_ct, x_cons, x_asg, x_cell, x_par, g_v, g_n, g_s, g_tp, gd_nm, gd_2, gd_3, parM_two, x_expr, x_ret, r_v, r_n, r_s, retV_own, retV_val, x_retN, x_ite, x_raise, x_try, x_pass, x_brk, x_cont, x_setI, putI_int, x_augI, nn_v, nn_s, x_app, appM_lst, iteM_t, iteM_f, iteM_at, op_addI, op_subI, cm_lt, cm_le, cm_gt, cm_ge, cm_is, cm_isn, cm_eqI, cm_neI, ix_l, ix_t, ix_r, List.getElem?_cons_succ, List.getElem?_cons_zero, List.set_cons_succ, List.set_cons_zero, List.length_cons, List.length_nil, Nat.reduceAdd, Nat.reduceLT, Nat.reduceLeDiff, bl_list, List.isEmpty_nil, List.isEmpty_cons, Bool.not_true, Bool.not_false, Bool.false_eq_true, if_true, if_false, z1, fr_v, w_ok]
theorem q_put {k : Nat} {xs : List D} {l : D} {ρ : List Slot} {C : List (Option Ob)} (h : D.refFrees (po xs l) = true) : callM (tx.gam (k + 1)) "put_on" [.v (.lst xs), .v l] ⟨ρ, C⟩ = .ok (.n (.lst (po xs l))) ⟨ρ, C⟩ :=
  callM_pf (pure_of _ _ (by decide +kernel)) (ds := [.lst xs, l]) (by simp only [ad_cons, ad_v, ad_nil, consO_some]) (s_put_on k xs l) h rfl
section
variable {k : Nat} {ρ : List Slot} {C : List (Option Ob)} {a b c d : Str} {i j i' j' : Int}
theorem pe2 : callM (tx.gam (k + 1)) "put_on" [.v (.lst []), .v (.tup [.str a, .int i])] ⟨ρ, C⟩ = .ok (.n (.lst [.tup [.str a, .int i]])) ⟨ρ, C⟩ := q_put rfl
theorem pe3 : callM (tx.gam (k + 1)) "put_on" [.v (.lst []), .v (.tup [.str a, .int i, .int j])] ⟨ρ, C⟩ = .ok (.n (.lst [.tup [.str a, .int i, .int j]])) ⟨ρ, C⟩ := q_put rfl
theorem pf2 : callM (tx.gam (k + 1)) "put_on" [.v (.lst [.tup [.str b, .int i']]), .v (.tup [.str a, .int i])] ⟨ρ, C⟩ = .ok (.n (.lst [.tup [.str b, .int i']])) ⟨ρ, C⟩ := q_put rfl
theorem pf3 : callM (tx.gam (k + 1)) "put_on" [.v (.lst [.tup [.str b, .int i', .int j']]), .v (.tup [.str a, .int i, .int j])] ⟨ρ, C⟩ = .ok (.n (.lst [.tup [.str b, .int i', .int j']])) ⟨ρ, C⟩ := q_put rfl
end
theorem neL {xs : List D} {ps : List PyData} (h : D.toPys xs = some ps) : opCmp .ne (.lst xs) (.lst []) = some (!xs.isEmpty) := by
  show (eqD (.lst xs) (.lst [])).map not = _
  unfold eqD
  simp only [D.toPy, h, D.toPys, Option.map_some]
  rw [if_pos (by
    refine Nat.le_trans (Nat.min_le_right _ _) ?_
    decide)]
  cases xs with
  | nil =>
    simp only [D.toPys, Option.some.injEq] at h
    subst h
    rfl
  | cons x xs =>
    cases ps with
    | nil =>
      rw [D.toPys] at h
      cases e1 : x.toPy <;> cases e2 : D.toPys xs <;> rw [e1, e2] at h <;> cases h
    | cons p ps =>
      have : PyData.eqv (.list (p :: ps)) (.list []) = false := by unfold PyData.eqv; rfl
      rw [this]
      rfl
theorem There.py {xs : List D} (h : There xs) : ∃ ps, D.toPys xs = some ps := by rcases h with _ | i | i <;> exact ⟨_, rfl⟩
theorem Back.py {xs : List D} (h : Back xs) : ∃ ps, D.toPys xs = some ps := by rcases h with _ | ⟨i, j⟩ <;> exact ⟨_, rfl⟩
def cbd (m t : Str) (xs ys : List D) (w : Str) : Bool :=
  if w = "come" ∨ w = "come again" ∨ w = "lose" then !xs.isEmpty else if w = "back" ∨ w = "back again" ∨ w = "back lost" then !ys.isEmpty
  else if w = "ask" then decide (m = "shut") else if w = "again" then decide (m = "asks") else if w = "drop" then !decide (m = "shut") else decide (w = "other drops") && !decide (t = "shut")
theorem gl_shut {k : Nat} : (tx.gam k).glob "SHUT" = some (.str "shut") := by rw [glob_of]; rfl
theorem gl_asks {k : Nat} : (tx.gam k).glob "ASKS" = some (.str "asks") := by rw [glob_of]; rfl
theorem gl_waits {k : Nat} : (tx.gam k).glob "WAITS" = some (.str "waits") := by rw [glob_of]; rfl
theorem gl_open {k : Nat} : (tx.gam k).glob "OPEN" = some (.str "open") := by rw [glob_of]; rfl
theorem gl_nobody {k : Nat} : (tx.gam k).glob "NOBODY" = some (.int (-1)) := by rw [glob_of]; rfl
theorem gl_there {k : Nat} : (tx.gam k).glob "OF_THERE" = some (.tup [.str "come", .str "come again", .str "lose"]) := by rw [glob_of]; rfl
theorem gl_back {k : Nat} : (tx.gam k).glob "OF_BACK" = some (.tup [.str "back", .str "back again", .str "back lost"]) := by rw [glob_of]; rfl
theorem op_gt2 {a b : Int} : opCmp .gt (.int a) (.int b) = some (decide (b < a)) := cm_gt
theorem s_cbd (k : Nat) {a o b w : Int} {m t : Str} {xs ys : List D} (hx : There xs) (hy : Back ys) (wd : Str) (hw : wd ∈ words) : Pu (tx.gam (k + 1)) "can_be_done" [Sx.at ⟨a, m, o, b, t, w, xs, ys⟩ (.lst xs) (.lst ys), .str wd] (.v (.bl (cbd m t xs ys wd))) := pu_of fun C => by
  rw [c_can_be_done]
  obtain ⟨ps, hp⟩ := hx.py
  obtain ⟨qs, hq⟩ := hy.py
  refine run_e d_can_be_done _ [.val (Sx.at ⟨a, m, o, b, t, w, xs, ys⟩ (.lst xs) (.lst ys)), .val (.str wd), .no, .no, .no, .no] rfl (by decide) rfl ?_
  clear hx hy
  have h4 : ∀ {ρ : List IR.Slot} {C : List (Option Ob)} {i j k l : Nat} {a b c e : D} (hi : i < ρ.length) (hj : j < ρ.length) (hk : k < ρ.length) (hl : l < ρ.length), asg (.tp [i, j, k, l]) (.v (.tup [a, b, c, e])) ⟨ρ, C⟩ = .ok () ⟨(((ρ.set i (.val a)).set j (.val b)).set k (.val c)).set l (.val e), C⟩ := fun hi hj hk hl => ga4 hi hj hk hl
  simp only [words, List.mem_cons, List.not_mem_nil, or_false] at hw
  rcases hw with rfl | rfl | rfl | rfl | rfl | rfl | rfl | rfl | rfl | rfl | rfl | rfl
  all_goals
    simp only [d_can_be_done, cbd, Sx.at, tri, bind_at, out_ok, pure_at, a_loc, a_k, a_glob, a_bin, a_neg, a_cmp, cq_some, a_cell, ce_v, ce_o, a_chain, a_and, a_or, a_not, a_ife, a_lst, a_tup, a_idx, a_slc, a_call, a_blt, a_nil, a_cons, h_nil, h_cons, o_no, o_some, t_nil, t_cons, tv_at, i_seq, i_rng1, i_rng2, i_enum, p_v, p_s, peekS_val, peekS_own, d_int, d_bl, d_str, d_non, d_lst, d_tup, d_ro, ho_v, ho_s, ho_l, fr_v, fr_l, fr_s, frzV_val, frzV_own, oo_some, te_bl, te_int, te_non, te_lst, te_tup, ps_nil, ps_cons, pk_v, pk_s, consO_some, ad_nil, ad_cons, ad_v, ad_s, argS_val, argS_own, locV_val, locV_own, globV_some, negV_int, intO_int, slotV_some, x_nil, nextM_nx, nextM_ret, nextM_brk, nextM_ct, x_cons, x_asg, x_cell, x_par, g_v, g_n, g_s, g_tp, gd_nm, gd_2, gd_3, parM_two, x_expr, x_ret, r_v, r_n, r_s, retV_own, retV_val, x_retN, x_ite, x_raise, x_try, x_pass, x_brk, x_cont, x_setI, putI_int, x_augI, nn_v, nn_s, x_app, appM_lst, iteM_t, iteM_f, iteM_at, op_addI, op_subI, cm_lt, cm_le, cm_gt, cm_ge, cm_is, cm_isn, cm_eqI, cm_neI, ix_l, ix_t, ix_r, List.getElem?_cons_succ, List.getElem?_cons_zero, List.set_cons_succ, List.set_cons_zero, List.length_cons, List.length_nil, Nat.reduceAdd, Nat.reduceLT, Nat.reduceLeDiff, p_nl, g_t2, gt2, eqS, neS, inL3, inS2, inT3, ofS, String.reduceEq, Int.reduceEq, at0, at1, at2, at3, bt0, bt1, bt2, ct0, ct1, dt0, dr_l, bl_int, z0, z1, z2, z3, z4, decide_true, decide_false, Bool.or_false, Bool.false_or, Bool.or_true, Bool.true_or, Bool.not_true, Bool.not_false, Bool.false_eq_true, if_true, if_false, List.isEmpty_nil, List.isEmpty_cons, negV_int, Int.reduceNeg, w_ok, h4, ga4, inT3, neL hp, neL hq, gl_shut, gl_asks, gl_waits, gl_open, gl_nobody, gl_there, gl_back, false_or, or_false, true_or, or_true, Bool.true_and, Bool.false_and]
  all_goals trivial
end Law

set_option Elab.async false
set_option linter.all false
set_option maxRecDepth 100000
set_option maxHeartbeats 8000000
namespace Law
open PySem L2 IR
/-- what a step comes to -/
def Ans (C : List (Option Ob)) : Option Sx → Oc
  | some s => .ok (.v (s.at (.ref C.length) (.ref (C.length + 1)))) (C ++ [some (.lst s.xs), some (.lst s.ys)])
  | none => .exc ⟨"NoDeed", []⟩ C
theorem app2 {α : Type} {a : List α} {b c : α} : (a ++ [b]) ++ [c] = a ++ [b, c] := by rw [List.append_assoc]; rfl
theorem g_4 {ρ : List IR.Slot} {C : List (Option Ob)} {i j k l : Nat} {a b c e : D} (hi : i < ρ.length) (hj : j < ρ.length) (hk : k < ρ.length) (hl : l < ρ.length) : asg (.tp [i, j, k, l]) (.v (.tup [a, b, c, e])) ⟨ρ, C⟩ = .ok () ⟨(((ρ.set i (.val a)).set j (.val b)).set k (.val c)).set l (.val e), C⟩ := ga4 hi hj hk hl
theorem d23 : decide ((2 : Int) < 2) = false := rfl
theorem d33 : decide ((2 : Int) < 3) = true := rfl
section
variable {k : Nat} {kind lives a o b w : Int} {m t : Str} {xs ys : List D} {C : List (Option Ob)}
theorem at_there (hl : 0 < lives) (hk : kind = 2 ∨ kind = 3) (ok : Sx.Ok ⟨a, m, o, b, t, w, xs, ys⟩) (q : Bool) (hne : xs ≠ []) :
    (tx.gam (k + 2)).call "arrived_there" [.int kind, .int lives, Sx.at ⟨a, m, o, b, t, w, xs, ys⟩ (.lst xs) (.lst ys), .bl q] C = Ans C (arrT kind lives ⟨a, m, o, b, t, w, xs, ys⟩ (if q then xs else [])) := by
  rw [c_arrived_there, run_to d_arrived_there _ [.val (.int kind), .val (.int lives), .val (Sx.at ⟨a, m, o, b, t, w, xs, ys⟩ (.lst xs) (.lst ys)), .val (.bl q), .no, .no, .no, .no, .no, .no, .no, .no] rfl (by decide) rfl]
  have em : m = "shut" ∨ m = "asks" ∨ m = "open" := ok.m
  have et : t = "shut" ∨ t = "waits" ∨ t = "open" := ok.t
  have ex : There xs := ok.xs
  have ey : Back ys := ok.ys
  have eo : m = "asks" → o = -1 := ok.o
  clear ok
  rcases ex with _ | i | i
  · exact absurd rfl hne
  · all_goals rcases hk with rfl | rfl
    all_goals cases q
    all_goals rcases ey with _ | ⟨i, j⟩
    all_goals
      first
        | simp only [d_arrived_there, Sx.at, tri, LT, LB, bind_at, out_ok, pure_at, a_loc, a_k, a_glob, a_bin, a_neg, a_cmp, cq_some, a_cell, ce_v, ce_o, a_chain, a_and, a_or, a_not, a_ife, a_lst, a_tup, a_idx, a_slc, a_call, a_blt, a_nil, a_cons, h_nil, h_cons, o_no, o_some, t_nil, t_cons, tv_at, i_seq, i_rng1, i_rng2, i_enum, p_v, p_s, peekS_val, peekS_own, d_int, d_bl, d_str, d_non, d_lst, d_tup, d_ro, ho_v, ho_s, ho_l, fr_v, fr_l, fr_s, frzV_val, frzV_own, oo_some, te_bl, te_int, te_non, te_lst, te_tup, ps_nil, ps_cons, pk_v, pk_s, consO_some, ad_nil, ad_cons, ad_v, ad_s, argS_val, argS_own, locV_val, locV_own, globV_some, negV_int, intO_int, slotV_some, x_nil, nextM_nx, nextM_ret, nextM_brk, nextM_ct, x_cons, x_asg, x_cell, x_par, g_v, g_n, g_s, g_tp, gd_nm, gd_2, gd_3, parM_two, x_expr, x_ret, r_v, r_n, r_s, retV_own, retV_val, x_retN, x_ite, x_raise, x_try, x_pass, x_brk, x_cont, x_setI, putI_int, x_augI, nn_v, nn_s, x_app, appM_lst, iteM_t, iteM_f, iteM_at, op_addI, op_subI, cm_lt, cm_le, cm_gt, cm_ge, cm_is, cm_isn, cm_eqI, cm_neI, ix_l, ix_t, ix_r, List.getElem?_cons_succ, List.getElem?_cons_zero, List.set_cons_succ, List.set_cons_zero, List.length_cons, List.length_nil, Nat.reduceAdd, Nat.reduceLT, Nat.reduceLeDiff, p_nl, g_t2, gt2, eqS, neS, inL3, inS2, inT3, ofS, String.reduceEq, Int.reduceEq, at0, at1, at2, at3, bt0, bt1, bt2, ct0, ct1, dt0, dr_l, bl_int, z0, z1, z2, z3, z4, decide_true, decide_false, Bool.or_false, Bool.false_or, Bool.or_true, Bool.true_or, Bool.not_true, Bool.not_false, Bool.false_eq_true, if_true, if_false, List.isEmpty_nil, List.isEmpty_cons, negV_int, Int.reduceNeg, w_ok, g_4, ga4, g_s, gl_shut, gl_asks, gl_waits, gl_open, gl_nobody, gl_there, gl_back, bl_list, bl_lenT, ce_s, ceS_own, ceS_val, pe2, pe3, pf2, pf3, d23, d33, oc_ret, oc_exc, ob_exc, rz, List.length_append, app2, Ans, nx, arrT, arrB, false_and, and_false, true_and, and_true, false_or, or_false, true_or, or_true, not_true_eq_false, not_false_eq_true, ne_eq, op_modI hl, q1, q2, cm_eqI, cm_neI]
        | simp only [d_arrived_there, Sx.at, tri, LT, LB, bind_at, out_ok, pure_at, a_loc, a_k, a_glob, a_bin, a_neg, a_cmp, cq_some, a_cell, ce_v, ce_o, a_chain, a_and, a_or, a_not, a_ife, a_lst, a_tup, a_idx, a_slc, a_call, a_blt, a_nil, a_cons, h_nil, h_cons, o_no, o_some, t_nil, t_cons, tv_at, i_seq, i_rng1, i_rng2, i_enum, p_v, p_s, peekS_val, peekS_own, d_int, d_bl, d_str, d_non, d_lst, d_tup, d_ro, ho_v, ho_s, ho_l, fr_v, fr_l, fr_s, frzV_val, frzV_own, oo_some, te_bl, te_int, te_non, te_lst, te_tup, ps_nil, ps_cons, pk_v, pk_s, consO_some, ad_nil, ad_cons, ad_v, ad_s, argS_val, argS_own, locV_val, locV_own, globV_some, negV_int, intO_int, slotV_some, x_nil, nextM_nx, nextM_ret, nextM_brk, nextM_ct, x_cons, x_asg, x_cell, x_par, g_v, g_n, g_s, g_tp, gd_nm, gd_2, gd_3, parM_two, x_expr, x_ret, r_v, r_n, r_s, retV_own, retV_val, x_retN, x_ite, x_raise, x_try, x_pass, x_brk, x_cont, x_setI, putI_int, x_augI, nn_v, nn_s, x_app, appM_lst, iteM_t, iteM_f, iteM_at, op_addI, op_subI, cm_lt, cm_le, cm_gt, cm_ge, cm_is, cm_isn, cm_eqI, cm_neI, ix_l, ix_t, ix_r, List.getElem?_cons_succ, List.getElem?_cons_zero, List.set_cons_succ, List.set_cons_zero, List.length_cons, List.length_nil, Nat.reduceAdd, Nat.reduceLT, Nat.reduceLeDiff, p_nl, g_t2, gt2, eqS, neS, inL3, inS2, inT3, ofS, String.reduceEq, Int.reduceEq, at0, at1, at2, at3, bt0, bt1, bt2, ct0, ct1, dt0, dr_l, bl_int, z0, z1, z2, z3, z4, decide_true, decide_false, Bool.or_false, Bool.false_or, Bool.or_true, Bool.true_or, Bool.not_true, Bool.not_false, Bool.false_eq_true, if_true, if_false, List.isEmpty_nil, List.isEmpty_cons, negV_int, Int.reduceNeg, w_ok, g_4, ga4, g_s, gl_shut, gl_asks, gl_waits, gl_open, gl_nobody, gl_there, gl_back, bl_list, bl_lenT, ce_s, ceS_own, ceS_val, pe2, pe3, pf2, pf3, d23, d33, oc_ret, oc_exc, ob_exc, rz, List.length_append, app2, Ans, nx, arrT, arrB, false_and, and_false, true_and, and_true, false_or, or_false, true_or, or_true, not_true_eq_false, not_false_eq_true, ne_eq, op_modI hl, cm_eqI, cm_neI]
    all_goals try rfl
  · all_goals cases q
    all_goals rcases et with rfl | rfl | rfl
    all_goals by_cases q1 : i = b
    all_goals try subst q1
    all_goals try have q2 : decide (i = b) = false := decide_eq_false q1
    all_goals
      first
        | simp only [d_arrived_there, Sx.at, tri, LT, LB, bind_at, out_ok, pure_at, a_loc, a_k, a_glob, a_bin, a_neg, a_cmp, cq_some, a_cell, ce_v, ce_o, a_chain, a_and, a_or, a_not, a_ife, a_lst, a_tup, a_idx, a_slc, a_call, a_blt, a_nil, a_cons, h_nil, h_cons, o_no, o_some, t_nil, t_cons, tv_at, i_seq, i_rng1, i_rng2, i_enum, p_v, p_s, peekS_val, peekS_own, d_int, d_bl, d_str, d_non, d_lst, d_tup, d_ro, ho_v, ho_s, ho_l, fr_v, fr_l, fr_s, frzV_val, frzV_own, oo_some, te_bl, te_int, te_non, te_lst, te_tup, ps_nil, ps_cons, pk_v, pk_s, consO_some, ad_nil, ad_cons, ad_v, ad_s, argS_val, argS_own, locV_val, locV_own, globV_some, negV_int, intO_int, slotV_some, x_nil, nextM_nx, nextM_ret, nextM_brk, nextM_ct, x_cons, x_asg, x_cell, x_par, g_v, g_n, g_s, g_tp, gd_nm, gd_2, gd_3, parM_two, x_expr, x_ret, r_v, r_n, r_s, retV_own, retV_val, x_retN, x_ite, x_raise, x_try, x_pass, x_brk, x_cont, x_setI, putI_int, x_augI, nn_v, nn_s, x_app, appM_lst, iteM_t, iteM_f, iteM_at, op_addI, op_subI, cm_lt, cm_le, cm_gt, cm_ge, cm_is, cm_isn, cm_eqI, cm_neI, ix_l, ix_t, ix_r, List.getElem?_cons_succ, List.getElem?_cons_zero, List.set_cons_succ, List.set_cons_zero, List.length_cons, List.length_nil, Nat.reduceAdd, Nat.reduceLT, Nat.reduceLeDiff, p_nl, g_t2, gt2, eqS, neS, inL3, inS2, inT3, ofS, String.reduceEq, Int.reduceEq, at0, at1, at2, at3, bt0, bt1, bt2, ct0, ct1, dt0, dr_l, bl_int, z0, z1, z2, z3, z4, decide_true, decide_false, Bool.or_false, Bool.false_or, Bool.or_true, Bool.true_or, Bool.not_true, Bool.not_false, Bool.false_eq_true, if_true, if_false, List.isEmpty_nil, List.isEmpty_cons, negV_int, Int.reduceNeg, w_ok, g_4, ga4, g_s, gl_shut, gl_asks, gl_waits, gl_open, gl_nobody, gl_there, gl_back, bl_list, bl_lenT, ce_s, ceS_own, ceS_val, pe2, pe3, pf2, pf3, d23, d33, oc_ret, oc_exc, ob_exc, rz, List.length_append, app2, Ans, nx, arrT, arrB, false_and, and_false, true_and, and_true, false_or, or_false, true_or, or_true, not_true_eq_false, not_false_eq_true, ne_eq, op_modI hl, q1, q2, cm_eqI, cm_neI]
        | simp only [d_arrived_there, Sx.at, tri, LT, LB, bind_at, out_ok, pure_at, a_loc, a_k, a_glob, a_bin, a_neg, a_cmp, cq_some, a_cell, ce_v, ce_o, a_chain, a_and, a_or, a_not, a_ife, a_lst, a_tup, a_idx, a_slc, a_call, a_blt, a_nil, a_cons, h_nil, h_cons, o_no, o_some, t_nil, t_cons, tv_at, i_seq, i_rng1, i_rng2, i_enum, p_v, p_s, peekS_val, peekS_own, d_int, d_bl, d_str, d_non, d_lst, d_tup, d_ro, ho_v, ho_s, ho_l, fr_v, fr_l, fr_s, frzV_val, frzV_own, oo_some, te_bl, te_int, te_non, te_lst, te_tup, ps_nil, ps_cons, pk_v, pk_s, consO_some, ad_nil, ad_cons, ad_v, ad_s, argS_val, argS_own, locV_val, locV_own, globV_some, negV_int, intO_int, slotV_some, x_nil, nextM_nx, nextM_ret, nextM_brk, nextM_ct, x_cons, x_asg, x_cell, x_par, g_v, g_n, g_s, g_tp, gd_nm, gd_2, gd_3, parM_two, x_expr, x_ret, r_v, r_n, r_s, retV_own, retV_val, x_retN, x_ite, x_raise, x_try, x_pass, x_brk, x_cont, x_setI, putI_int, x_augI, nn_v, nn_s, x_app, appM_lst, iteM_t, iteM_f, iteM_at, op_addI, op_subI, cm_lt, cm_le, cm_gt, cm_ge, cm_is, cm_isn, cm_eqI, cm_neI, ix_l, ix_t, ix_r, List.getElem?_cons_succ, List.getElem?_cons_zero, List.set_cons_succ, List.set_cons_zero, List.length_cons, List.length_nil, Nat.reduceAdd, Nat.reduceLT, Nat.reduceLeDiff, p_nl, g_t2, gt2, eqS, neS, inL3, inS2, inT3, ofS, String.reduceEq, Int.reduceEq, at0, at1, at2, at3, bt0, bt1, bt2, ct0, ct1, dt0, dr_l, bl_int, z0, z1, z2, z3, z4, decide_true, decide_false, Bool.or_false, Bool.false_or, Bool.or_true, Bool.true_or, Bool.not_true, Bool.not_false, Bool.false_eq_true, if_true, if_false, List.isEmpty_nil, List.isEmpty_cons, negV_int, Int.reduceNeg, w_ok, g_4, ga4, g_s, gl_shut, gl_asks, gl_waits, gl_open, gl_nobody, gl_there, gl_back, bl_list, bl_lenT, ce_s, ceS_own, ceS_val, pe2, pe3, pf2, pf3, d23, d33, oc_ret, oc_exc, ob_exc, rz, List.length_append, app2, Ans, nx, arrT, arrB, false_and, and_false, true_and, and_true, false_or, or_false, true_or, or_true, not_true_eq_false, not_false_eq_true, ne_eq, op_modI hl, cm_eqI, cm_neI]
    all_goals try rfl
theorem at_back (hl : 0 < lives) (hk : kind = 2 ∨ kind = 3) (ok : Sx.Ok ⟨a, m, o, b, t, w, xs, ys⟩) (q : Bool) (hne : ys ≠ []) :
    (tx.gam (k + 2)).call "arrived_back" [.int kind, Sx.at ⟨a, m, o, b, t, w, xs, ys⟩ (.lst xs) (.lst ys), .bl q] C = Ans C (arrB kind ⟨a, m, o, b, t, w, xs, ys⟩ (if q then ys else [])) := by
  rw [c_arrived_back, run_to d_arrived_back _ [.val (.int kind), .val (Sx.at ⟨a, m, o, b, t, w, xs, ys⟩ (.lst xs) (.lst ys)), .val (.bl q), .no, .no, .no, .no, .no, .no, .no, .no, .no] rfl (by decide) rfl]
  have em : m = "shut" ∨ m = "asks" ∨ m = "open" := ok.m
  have et : t = "shut" ∨ t = "waits" ∨ t = "open" := ok.t
  have ex : There xs := ok.xs
  have ey : Back ys := ok.ys
  have eo : m = "asks" → o = -1 := ok.o
  clear ok
  rcases ey with _ | ⟨i, j⟩
  · exact absurd rfl hne
  · all_goals cases q
    all_goals rcases hk with rfl | rfl
    all_goals by_cases q1 : j = a
    all_goals try subst q1
    all_goals try have q2 : decide (j = a) = false := decide_eq_false q1
    all_goals rcases em with rfl | rfl | rfl
    all_goals rcases ex with _ | i | i
    all_goals
      first
        | simp only [d_arrived_back, Sx.at, tri, LT, LB, bind_at, out_ok, pure_at, a_loc, a_k, a_glob, a_bin, a_neg, a_cmp, cq_some, a_cell, ce_v, ce_o, a_chain, a_and, a_or, a_not, a_ife, a_lst, a_tup, a_idx, a_slc, a_call, a_blt, a_nil, a_cons, h_nil, h_cons, o_no, o_some, t_nil, t_cons, tv_at, i_seq, i_rng1, i_rng2, i_enum, p_v, p_s, peekS_val, peekS_own, d_int, d_bl, d_str, d_non, d_lst, d_tup, d_ro, ho_v, ho_s, ho_l, fr_v, fr_l, fr_s, frzV_val, frzV_own, oo_some, te_bl, te_int, te_non, te_lst, te_tup, ps_nil, ps_cons, pk_v, pk_s, consO_some, ad_nil, ad_cons, ad_v, ad_s, argS_val, argS_own, locV_val, locV_own, globV_some, negV_int, intO_int, slotV_some, x_nil, nextM_nx, nextM_ret, nextM_brk, nextM_ct, x_cons, x_asg, x_cell, x_par, g_v, g_n, g_s, g_tp, gd_nm, gd_2, gd_3, parM_two, x_expr, x_ret, r_v, r_n, r_s, retV_own, retV_val, x_retN, x_ite, x_raise, x_try, x_pass, x_brk, x_cont, x_setI, putI_int, x_augI, nn_v, nn_s, x_app, appM_lst, iteM_t, iteM_f, iteM_at, op_addI, op_subI, cm_lt, cm_le, cm_gt, cm_ge, cm_is, cm_isn, cm_eqI, cm_neI, ix_l, ix_t, ix_r, List.getElem?_cons_succ, List.getElem?_cons_zero, List.set_cons_succ, List.set_cons_zero, List.length_cons, List.length_nil, Nat.reduceAdd, Nat.reduceLT, Nat.reduceLeDiff, p_nl, g_t2, gt2, eqS, neS, inL3, inS2, inT3, ofS, String.reduceEq, Int.reduceEq, at0, at1, at2, at3, bt0, bt1, bt2, ct0, ct1, dt0, dr_l, bl_int, z0, z1, z2, z3, z4, decide_true, decide_false, Bool.or_false, Bool.false_or, Bool.or_true, Bool.true_or, Bool.not_true, Bool.not_false, Bool.false_eq_true, if_true, if_false, List.isEmpty_nil, List.isEmpty_cons, negV_int, Int.reduceNeg, w_ok, g_4, ga4, g_s, gl_shut, gl_asks, gl_waits, gl_open, gl_nobody, gl_there, gl_back, bl_list, bl_lenT, ce_s, ceS_own, ceS_val, pe2, pe3, pf2, pf3, d23, d33, oc_ret, oc_exc, ob_exc, rz, List.length_append, app2, Ans, nx, arrT, arrB, false_and, and_false, true_and, and_true, false_or, or_false, true_or, or_true, not_true_eq_false, not_false_eq_true, ne_eq, op_modI hl, q1, q2, cm_eqI, cm_neI]
        | simp only [d_arrived_back, Sx.at, tri, LT, LB, bind_at, out_ok, pure_at, a_loc, a_k, a_glob, a_bin, a_neg, a_cmp, cq_some, a_cell, ce_v, ce_o, a_chain, a_and, a_or, a_not, a_ife, a_lst, a_tup, a_idx, a_slc, a_call, a_blt, a_nil, a_cons, h_nil, h_cons, o_no, o_some, t_nil, t_cons, tv_at, i_seq, i_rng1, i_rng2, i_enum, p_v, p_s, peekS_val, peekS_own, d_int, d_bl, d_str, d_non, d_lst, d_tup, d_ro, ho_v, ho_s, ho_l, fr_v, fr_l, fr_s, frzV_val, frzV_own, oo_some, te_bl, te_int, te_non, te_lst, te_tup, ps_nil, ps_cons, pk_v, pk_s, consO_some, ad_nil, ad_cons, ad_v, ad_s, argS_val, argS_own, locV_val, locV_own, globV_some, negV_int, intO_int, slotV_some, x_nil, nextM_nx, nextM_ret, nextM_brk, nextM_ct, x_cons, x_asg, x_cell, x_par, g_v, g_n, g_s, g_tp, gd_nm, gd_2, gd_3, parM_two, x_expr, x_ret, r_v, r_n, r_s, retV_own, retV_val, x_retN, x_ite, x_raise, x_try, x_pass, x_brk, x_cont, x_setI, putI_int, x_augI, nn_v, nn_s, x_app, appM_lst, iteM_t, iteM_f, iteM_at, op_addI, op_subI, cm_lt, cm_le, cm_gt, cm_ge, cm_is, cm_isn, cm_eqI, cm_neI, ix_l, ix_t, ix_r, List.getElem?_cons_succ, List.getElem?_cons_zero, List.set_cons_succ, List.set_cons_zero, List.length_cons, List.length_nil, Nat.reduceAdd, Nat.reduceLT, Nat.reduceLeDiff, p_nl, g_t2, gt2, eqS, neS, inL3, inS2, inT3, ofS, String.reduceEq, Int.reduceEq, at0, at1, at2, at3, bt0, bt1, bt2, ct0, ct1, dt0, dr_l, bl_int, z0, z1, z2, z3, z4, decide_true, decide_false, Bool.or_false, Bool.false_or, Bool.or_true, Bool.true_or, Bool.not_true, Bool.not_false, Bool.false_eq_true, if_true, if_false, List.isEmpty_nil, List.isEmpty_cons, negV_int, Int.reduceNeg, w_ok, g_4, ga4, g_s, gl_shut, gl_asks, gl_waits, gl_open, gl_nobody, gl_there, gl_back, bl_list, bl_lenT, ce_s, ceS_own, ceS_val, pe2, pe3, pf2, pf3, d23, d33, oc_ret, oc_exc, ob_exc, rz, List.length_append, app2, Ans, nx, arrT, arrB, false_and, and_false, true_and, and_true, false_or, or_false, true_or, or_true, not_true_eq_false, not_false_eq_true, ne_eq, op_modI hl, cm_eqI, cm_neI]
    all_goals try rfl
end
end Law

set_option Elab.async false
set_option linter.all false
set_option maxRecDepth 100000
set_option maxHeartbeats 8000000
namespace Law
open PySem L2 IR
def lift : Oc → List Slot → Out Rv
  | .ok r C, ρ => .ok r ⟨ρ, C⟩
  | .exc x C, ρ => .exc x ⟨ρ, C⟩
  | .bad, _ => .bad
theorem callM_lift {Γ : Gam} {f : Str} {rs : List Rv} {ds : List D} {o : Oc} {ρ : List Slot} {C : List (Option Ob)} (hp : Γ.isPure f = false) (ha : frzs rs ⟨ρ, C⟩ = .ok ds ⟨ρ, C⟩) (h : Γ.call f ds C = o) : callM Γ f rs ⟨ρ, C⟩ = lift o ρ := by
  unfold callM
  rw [hp]
  show (frzs rs _).bind _ = _
  rw [ha]
  show (match Γ.call f ds C with | .bad => Out.bad | .exc x C => .exc x ⟨ρ, C⟩ | .ok r C => .ok r ⟨ρ, C⟩) = _
  rw [h]
  cases o <;> rfl
theorem lift_ok {r : Rv} {C : List (Option Ob)} {ρ : List Slot} : lift (.ok r C) ρ = .ok r ⟨ρ, C⟩ := rfl
theorem lift_exc {x : Exn} {C : List (Option Ob)} {ρ : List Slot} : lift (.exc x C) ρ = .exc x ⟨ρ, C⟩ := rfl
theorem d11 : decide (((1 : Nat) : Int) = 1) = true := rfl
section
variable {k : Nat} {kind lives a o b w : Int} {m t : Str} {xs ys : List D} {C : List (Option Ob)}
theorem cs_drop (hl : 0 < lives) (hk : kind = 2 ∨ kind = 3) (ok : Sx.Ok ⟨a, m, o, b, t, w, xs, ys⟩) :
    (tx.gam (k + 3)).call "call_step" [.int kind, .int lives, Sx.at ⟨a, m, o, b, t, w, xs, ys⟩ (.lst xs) (.lst ys), .tup [.str "drop"]] C = Ans C (nx kind lives ⟨a, m, o, b, t, w, xs, ys⟩ "drop") := by
  rw [c_call_step, run_to d_call_step _ [.val (.int kind), .val (.int lives), .val (Sx.at ⟨a, m, o, b, t, w, xs, ys⟩ (.lst xs) (.lst ys)), .val (.tup [.str "drop"]), .no, .no, .no, .no, .no, .no] rfl (by decide) rfl]
  have hc : ∀ ρ, callM (tx.gam (k + 2)) "can_be_done" [.v (Sx.at ⟨a, m, o, b, t, w, xs, ys⟩ (.lst xs) (.lst ys)), .v (.str "drop")] ⟨ρ, C⟩ = .ok (.v (.bl (cbd m t xs ys "drop"))) ⟨ρ, C⟩ := fun ρ =>
    callM_pu (pure_of _ _ (by decide +kernel)) (ds := [Sx.at ⟨a, m, o, b, t, w, xs, ys⟩ (.lst xs) (.lst ys), .str "drop"]) (by simp only [ad_cons, ad_v, ad_nil, consO_some]) (s_cbd (k + 1) ok.xs ok.ys _ (by simp only [words, List.mem_cons, List.not_mem_nil, or_false, ofS, String.reduceEq, or_true, true_or])) rfl
  simp only [Sx.at, tri] at hc
  have em : m = "shut" ∨ m = "asks" ∨ m = "open" := ok.m
  have et : t = "shut" ∨ t = "waits" ∨ t = "open" := ok.t
  have ex : There xs := ok.xs
  have ey : Back ys := ok.ys
  have eo : m = "asks" → o = -1 := ok.o
  rcases em with rfl | rfl | rfl
  all_goals
    (try simp only [LT, LB] at hc)
    simp only [d_call_step, Sx.at, tri, LT, LB, bind_at, out_ok, pure_at, a_loc, a_k, a_glob, a_bin, a_neg, a_cmp, cq_some, a_cell, ce_v, ce_o, a_chain, a_and, a_or, a_not, a_ife, a_lst, a_tup, a_idx, a_slc, a_call, a_blt, a_nil, a_cons, h_nil, h_cons, o_no, o_some, t_nil, t_cons, tv_at, i_seq, i_rng1, i_rng2, i_enum, p_v, p_s, peekS_val, peekS_own, d_int, d_bl, d_str, d_non, d_lst, d_tup, d_ro, ho_v, ho_s, ho_l, fr_v, fr_l, fr_s, frzV_val, frzV_own, oo_some, te_bl, te_int, te_non, te_lst, te_tup, ps_nil, ps_cons, pk_v, pk_s, consO_some, ad_nil, ad_cons, ad_v, ad_s, argS_val, argS_own, locV_val, locV_own, globV_some, negV_int, intO_int, slotV_some, x_nil, nextM_nx, nextM_ret, nextM_brk, nextM_ct, x_cons, x_asg, x_cell, x_par, g_v, g_n, g_s, g_tp, gd_nm, gd_2, gd_3, parM_two, x_expr, x_ret, r_v, r_n, r_s, retV_own, retV_val, x_retN, x_ite, x_raise, x_try, x_pass, x_brk, x_cont, x_setI, putI_int, x_augI, nn_v, nn_s, x_app, appM_lst, iteM_t, iteM_f, iteM_at, op_addI, op_subI, cm_lt, cm_le, cm_gt, cm_ge, cm_is, cm_isn, cm_eqI, cm_neI, ix_l, ix_t, ix_r, List.getElem?_cons_succ, List.getElem?_cons_zero, List.set_cons_succ, List.set_cons_zero, List.length_cons, List.length_nil, Nat.reduceAdd, Nat.reduceLT, Nat.reduceLeDiff, p_nl, g_t2, gt2, eqS, neS, inL3, inS2, inT3, ofS, String.reduceEq, Int.reduceEq, at0, at1, at2, at3, bt0, bt1, bt2, ct0, ct1, dt0, dr_l, bl_int, z0, z1, z2, z3, z4, decide_true, decide_false, Bool.or_false, Bool.false_or, Bool.or_true, Bool.true_or, Bool.not_true, Bool.not_false, Bool.false_eq_true, if_true, if_false, List.isEmpty_nil, List.isEmpty_cons, negV_int, Int.reduceNeg, w_ok, g_4, ga4, g_s, gl_shut, gl_asks, gl_waits, gl_open, gl_nobody, gl_there, gl_back, bl_list, bl_lenT, ce_s, ceS_own, ceS_val, pe2, pe3, pf2, pf3, d23, d33, oc_ret, oc_exc, ob_exc, rz, List.length_append, app2, Ans, nx, false_and, and_false, true_and, and_true, false_or, or_false, true_or, or_true, not_true_eq_false, not_false_eq_true, ne_eq, op_modI hl, cbd, cm_neI, cm_eqI, d11, lift_ok, lift_exc, List.isEmpty_nil, List.isEmpty_cons, Bool.true_and, Bool.false_and, hc]
theorem cs_odrop (hl : 0 < lives) (hk : kind = 2 ∨ kind = 3) (ok : Sx.Ok ⟨a, m, o, b, t, w, xs, ys⟩) :
    (tx.gam (k + 3)).call "call_step" [.int kind, .int lives, Sx.at ⟨a, m, o, b, t, w, xs, ys⟩ (.lst xs) (.lst ys), .tup [.str "other drops"]] C = Ans C (nx kind lives ⟨a, m, o, b, t, w, xs, ys⟩ "other drops") := by
  rw [c_call_step, run_to d_call_step _ [.val (.int kind), .val (.int lives), .val (Sx.at ⟨a, m, o, b, t, w, xs, ys⟩ (.lst xs) (.lst ys)), .val (.tup [.str "other drops"]), .no, .no, .no, .no, .no, .no] rfl (by decide) rfl]
  have hc : ∀ ρ, callM (tx.gam (k + 2)) "can_be_done" [.v (Sx.at ⟨a, m, o, b, t, w, xs, ys⟩ (.lst xs) (.lst ys)), .v (.str "other drops")] ⟨ρ, C⟩ = .ok (.v (.bl (cbd m t xs ys "other drops"))) ⟨ρ, C⟩ := fun ρ =>
    callM_pu (pure_of _ _ (by decide +kernel)) (ds := [Sx.at ⟨a, m, o, b, t, w, xs, ys⟩ (.lst xs) (.lst ys), .str "other drops"]) (by simp only [ad_cons, ad_v, ad_nil, consO_some]) (s_cbd (k + 1) ok.xs ok.ys _ (by simp only [words, List.mem_cons, List.not_mem_nil, or_false, ofS, String.reduceEq, or_true, true_or])) rfl
  simp only [Sx.at, tri] at hc
  have em : m = "shut" ∨ m = "asks" ∨ m = "open" := ok.m
  have et : t = "shut" ∨ t = "waits" ∨ t = "open" := ok.t
  have ex : There xs := ok.xs
  have ey : Back ys := ok.ys
  have eo : m = "asks" → o = -1 := ok.o
  rcases et with rfl | rfl | rfl
  all_goals
    (try simp only [LT, LB] at hc)
    simp only [d_call_step, Sx.at, tri, LT, LB, bind_at, out_ok, pure_at, a_loc, a_k, a_glob, a_bin, a_neg, a_cmp, cq_some, a_cell, ce_v, ce_o, a_chain, a_and, a_or, a_not, a_ife, a_lst, a_tup, a_idx, a_slc, a_call, a_blt, a_nil, a_cons, h_nil, h_cons, o_no, o_some, t_nil, t_cons, tv_at, i_seq, i_rng1, i_rng2, i_enum, p_v, p_s, peekS_val, peekS_own, d_int, d_bl, d_str, d_non, d_lst, d_tup, d_ro, ho_v, ho_s, ho_l, fr_v, fr_l, fr_s, frzV_val, frzV_own, oo_some, te_bl, te_int, te_non, te_lst, te_tup, ps_nil, ps_cons, pk_v, pk_s, consO_some, ad_nil, ad_cons, ad_v, ad_s, argS_val, argS_own, locV_val, locV_own, globV_some, negV_int, intO_int, slotV_some, x_nil, nextM_nx, nextM_ret, nextM_brk, nextM_ct, x_cons, x_asg, x_cell, x_par, g_v, g_n, g_s, g_tp, gd_nm, gd_2, gd_3, parM_two, x_expr, x_ret, r_v, r_n, r_s, retV_own, retV_val, x_retN, x_ite, x_raise, x_try, x_pass, x_brk, x_cont, x_setI, putI_int, x_augI, nn_v, nn_s, x_app, appM_lst, iteM_t, iteM_f, iteM_at, op_addI, op_subI, cm_lt, cm_le, cm_gt, cm_ge, cm_is, cm_isn, cm_eqI, cm_neI, ix_l, ix_t, ix_r, List.getElem?_cons_succ, List.getElem?_cons_zero, List.set_cons_succ, List.set_cons_zero, List.length_cons, List.length_nil, Nat.reduceAdd, Nat.reduceLT, Nat.reduceLeDiff, p_nl, g_t2, gt2, eqS, neS, inL3, inS2, inT3, ofS, String.reduceEq, Int.reduceEq, at0, at1, at2, at3, bt0, bt1, bt2, ct0, ct1, dt0, dr_l, bl_int, z0, z1, z2, z3, z4, decide_true, decide_false, Bool.or_false, Bool.false_or, Bool.or_true, Bool.true_or, Bool.not_true, Bool.not_false, Bool.false_eq_true, if_true, if_false, List.isEmpty_nil, List.isEmpty_cons, negV_int, Int.reduceNeg, w_ok, g_4, ga4, g_s, gl_shut, gl_asks, gl_waits, gl_open, gl_nobody, gl_there, gl_back, bl_list, bl_lenT, ce_s, ceS_own, ceS_val, pe2, pe3, pf2, pf3, d23, d33, oc_ret, oc_exc, ob_exc, rz, List.length_append, app2, Ans, nx, false_and, and_false, true_and, and_true, false_or, or_false, true_or, or_true, not_true_eq_false, not_false_eq_true, ne_eq, op_modI hl, cbd, cm_neI, cm_eqI, d11, lift_ok, lift_exc, List.isEmpty_nil, List.isEmpty_cons, Bool.true_and, Bool.false_and, hc]
theorem cs_lose (hl : 0 < lives) (hk : kind = 2 ∨ kind = 3) (ok : Sx.Ok ⟨a, m, o, b, t, w, xs, ys⟩) :
    (tx.gam (k + 3)).call "call_step" [.int kind, .int lives, Sx.at ⟨a, m, o, b, t, w, xs, ys⟩ (.lst xs) (.lst ys), .tup [.str "lose"]] C = Ans C (nx kind lives ⟨a, m, o, b, t, w, xs, ys⟩ "lose") := by
  rw [c_call_step, run_to d_call_step _ [.val (.int kind), .val (.int lives), .val (Sx.at ⟨a, m, o, b, t, w, xs, ys⟩ (.lst xs) (.lst ys)), .val (.tup [.str "lose"]), .no, .no, .no, .no, .no, .no] rfl (by decide) rfl]
  have hc : ∀ ρ, callM (tx.gam (k + 2)) "can_be_done" [.v (Sx.at ⟨a, m, o, b, t, w, xs, ys⟩ (.lst xs) (.lst ys)), .v (.str "lose")] ⟨ρ, C⟩ = .ok (.v (.bl (cbd m t xs ys "lose"))) ⟨ρ, C⟩ := fun ρ =>
    callM_pu (pure_of _ _ (by decide +kernel)) (ds := [Sx.at ⟨a, m, o, b, t, w, xs, ys⟩ (.lst xs) (.lst ys), .str "lose"]) (by simp only [ad_cons, ad_v, ad_nil, consO_some]) (s_cbd (k + 1) ok.xs ok.ys _ (by simp only [words, List.mem_cons, List.not_mem_nil, or_false, ofS, String.reduceEq, or_true, true_or])) rfl
  simp only [Sx.at, tri] at hc
  have em : m = "shut" ∨ m = "asks" ∨ m = "open" := ok.m
  have et : t = "shut" ∨ t = "waits" ∨ t = "open" := ok.t
  have ex : There xs := ok.xs
  have ey : Back ys := ok.ys
  have eo : m = "asks" → o = -1 := ok.o
  cases xs with
  | nil => ((try simp only [LT, LB] at hc); simp only [d_call_step, Sx.at, tri, LT, LB, bind_at, out_ok, pure_at, a_loc, a_k, a_glob, a_bin, a_neg, a_cmp, cq_some, a_cell, ce_v, ce_o, a_chain, a_and, a_or, a_not, a_ife, a_lst, a_tup, a_idx, a_slc, a_call, a_blt, a_nil, a_cons, h_nil, h_cons, o_no, o_some, t_nil, t_cons, tv_at, i_seq, i_rng1, i_rng2, i_enum, p_v, p_s, peekS_val, peekS_own, d_int, d_bl, d_str, d_non, d_lst, d_tup, d_ro, ho_v, ho_s, ho_l, fr_v, fr_l, fr_s, frzV_val, frzV_own, oo_some, te_bl, te_int, te_non, te_lst, te_tup, ps_nil, ps_cons, pk_v, pk_s, consO_some, ad_nil, ad_cons, ad_v, ad_s, argS_val, argS_own, locV_val, locV_own, globV_some, negV_int, intO_int, slotV_some, x_nil, nextM_nx, nextM_ret, nextM_brk, nextM_ct, x_cons, x_asg, x_cell, x_par, g_v, g_n, g_s, g_tp, gd_nm, gd_2, gd_3, parM_two, x_expr, x_ret, r_v, r_n, r_s, retV_own, retV_val, x_retN, x_ite, x_raise, x_try, x_pass, x_brk, x_cont, x_setI, putI_int, x_augI, nn_v, nn_s, x_app, appM_lst, iteM_t, iteM_f, iteM_at, op_addI, op_subI, cm_lt, cm_le, cm_gt, cm_ge, cm_is, cm_isn, cm_eqI, cm_neI, ix_l, ix_t, ix_r, List.getElem?_cons_succ, List.getElem?_cons_zero, List.set_cons_succ, List.set_cons_zero, List.length_cons, List.length_nil, Nat.reduceAdd, Nat.reduceLT, Nat.reduceLeDiff, p_nl, g_t2, gt2, eqS, neS, inL3, inS2, inT3, ofS, String.reduceEq, Int.reduceEq, at0, at1, at2, at3, bt0, bt1, bt2, ct0, ct1, dt0, dr_l, bl_int, z0, z1, z2, z3, z4, decide_true, decide_false, Bool.or_false, Bool.false_or, Bool.or_true, Bool.true_or, Bool.not_true, Bool.not_false, Bool.false_eq_true, if_true, if_false, List.isEmpty_nil, List.isEmpty_cons, negV_int, Int.reduceNeg, w_ok, g_4, ga4, g_s, gl_shut, gl_asks, gl_waits, gl_open, gl_nobody, gl_there, gl_back, bl_list, bl_lenT, ce_s, ceS_own, ceS_val, pe2, pe3, pf2, pf3, d23, d33, oc_ret, oc_exc, ob_exc, rz, List.length_append, app2, Ans, nx, false_and, and_false, true_and, and_true, false_or, or_false, true_or, or_true, not_true_eq_false, not_false_eq_true, ne_eq, op_modI hl, cbd, cm_neI, cm_eqI, d11, lift_ok, lift_exc, List.isEmpty_nil, List.isEmpty_cons, Bool.true_and, Bool.false_and, hc])
  | cons x xs => ((try simp only [LT, LB] at hc); simp only [d_call_step, Sx.at, tri, LT, LB, bind_at, out_ok, pure_at, a_loc, a_k, a_glob, a_bin, a_neg, a_cmp, cq_some, a_cell, ce_v, ce_o, a_chain, a_and, a_or, a_not, a_ife, a_lst, a_tup, a_idx, a_slc, a_call, a_blt, a_nil, a_cons, h_nil, h_cons, o_no, o_some, t_nil, t_cons, tv_at, i_seq, i_rng1, i_rng2, i_enum, p_v, p_s, peekS_val, peekS_own, d_int, d_bl, d_str, d_non, d_lst, d_tup, d_ro, ho_v, ho_s, ho_l, fr_v, fr_l, fr_s, frzV_val, frzV_own, oo_some, te_bl, te_int, te_non, te_lst, te_tup, ps_nil, ps_cons, pk_v, pk_s, consO_some, ad_nil, ad_cons, ad_v, ad_s, argS_val, argS_own, locV_val, locV_own, globV_some, negV_int, intO_int, slotV_some, x_nil, nextM_nx, nextM_ret, nextM_brk, nextM_ct, x_cons, x_asg, x_cell, x_par, g_v, g_n, g_s, g_tp, gd_nm, gd_2, gd_3, parM_two, x_expr, x_ret, r_v, r_n, r_s, retV_own, retV_val, x_retN, x_ite, x_raise, x_try, x_pass, x_brk, x_cont, x_setI, putI_int, x_augI, nn_v, nn_s, x_app, appM_lst, iteM_t, iteM_f, iteM_at, op_addI, op_subI, cm_lt, cm_le, cm_gt, cm_ge, cm_is, cm_isn, cm_eqI, cm_neI, ix_l, ix_t, ix_r, List.getElem?_cons_succ, List.getElem?_cons_zero, List.set_cons_succ, List.set_cons_zero, List.length_cons, List.length_nil, Nat.reduceAdd, Nat.reduceLT, Nat.reduceLeDiff, p_nl, g_t2, gt2, eqS, neS, inL3, inS2, inT3, ofS, String.reduceEq, Int.reduceEq, at0, at1, at2, at3, bt0, bt1, bt2, ct0, ct1, dt0, dr_l, bl_int, z0, z1, z2, z3, z4, decide_true, decide_false, Bool.or_false, Bool.false_or, Bool.or_true, Bool.true_or, Bool.not_true, Bool.not_false, Bool.false_eq_true, if_true, if_false, List.isEmpty_nil, List.isEmpty_cons, negV_int, Int.reduceNeg, w_ok, g_4, ga4, g_s, gl_shut, gl_asks, gl_waits, gl_open, gl_nobody, gl_there, gl_back, bl_list, bl_lenT, ce_s, ceS_own, ceS_val, pe2, pe3, pf2, pf3, d23, d33, oc_ret, oc_exc, ob_exc, rz, List.length_append, app2, Ans, nx, false_and, and_false, true_and, and_true, false_or, or_false, true_or, or_true, not_true_eq_false, not_false_eq_true, ne_eq, op_modI hl, cbd, cm_neI, cm_eqI, d11, lift_ok, lift_exc, List.isEmpty_nil, List.isEmpty_cons, Bool.true_and, Bool.false_and, hc])
theorem cs_blost (hl : 0 < lives) (hk : kind = 2 ∨ kind = 3) (ok : Sx.Ok ⟨a, m, o, b, t, w, xs, ys⟩) :
    (tx.gam (k + 3)).call "call_step" [.int kind, .int lives, Sx.at ⟨a, m, o, b, t, w, xs, ys⟩ (.lst xs) (.lst ys), .tup [.str "back lost"]] C = Ans C (nx kind lives ⟨a, m, o, b, t, w, xs, ys⟩ "back lost") := by
  rw [c_call_step, run_to d_call_step _ [.val (.int kind), .val (.int lives), .val (Sx.at ⟨a, m, o, b, t, w, xs, ys⟩ (.lst xs) (.lst ys)), .val (.tup [.str "back lost"]), .no, .no, .no, .no, .no, .no] rfl (by decide) rfl]
  have hc : ∀ ρ, callM (tx.gam (k + 2)) "can_be_done" [.v (Sx.at ⟨a, m, o, b, t, w, xs, ys⟩ (.lst xs) (.lst ys)), .v (.str "back lost")] ⟨ρ, C⟩ = .ok (.v (.bl (cbd m t xs ys "back lost"))) ⟨ρ, C⟩ := fun ρ =>
    callM_pu (pure_of _ _ (by decide +kernel)) (ds := [Sx.at ⟨a, m, o, b, t, w, xs, ys⟩ (.lst xs) (.lst ys), .str "back lost"]) (by simp only [ad_cons, ad_v, ad_nil, consO_some]) (s_cbd (k + 1) ok.xs ok.ys _ (by simp only [words, List.mem_cons, List.not_mem_nil, or_false, ofS, String.reduceEq, or_true, true_or])) rfl
  simp only [Sx.at, tri] at hc
  have em : m = "shut" ∨ m = "asks" ∨ m = "open" := ok.m
  have et : t = "shut" ∨ t = "waits" ∨ t = "open" := ok.t
  have ex : There xs := ok.xs
  have ey : Back ys := ok.ys
  have eo : m = "asks" → o = -1 := ok.o
  cases ys with
  | nil => ((try simp only [LT, LB] at hc); simp only [d_call_step, Sx.at, tri, LT, LB, bind_at, out_ok, pure_at, a_loc, a_k, a_glob, a_bin, a_neg, a_cmp, cq_some, a_cell, ce_v, ce_o, a_chain, a_and, a_or, a_not, a_ife, a_lst, a_tup, a_idx, a_slc, a_call, a_blt, a_nil, a_cons, h_nil, h_cons, o_no, o_some, t_nil, t_cons, tv_at, i_seq, i_rng1, i_rng2, i_enum, p_v, p_s, peekS_val, peekS_own, d_int, d_bl, d_str, d_non, d_lst, d_tup, d_ro, ho_v, ho_s, ho_l, fr_v, fr_l, fr_s, frzV_val, frzV_own, oo_some, te_bl, te_int, te_non, te_lst, te_tup, ps_nil, ps_cons, pk_v, pk_s, consO_some, ad_nil, ad_cons, ad_v, ad_s, argS_val, argS_own, locV_val, locV_own, globV_some, negV_int, intO_int, slotV_some, x_nil, nextM_nx, nextM_ret, nextM_brk, nextM_ct, x_cons, x_asg, x_cell, x_par, g_v, g_n, g_s, g_tp, gd_nm, gd_2, gd_3, parM_two, x_expr, x_ret, r_v, r_n, r_s, retV_own, retV_val, x_retN, x_ite, x_raise, x_try, x_pass, x_brk, x_cont, x_setI, putI_int, x_augI, nn_v, nn_s, x_app, appM_lst, iteM_t, iteM_f, iteM_at, op_addI, op_subI, cm_lt, cm_le, cm_gt, cm_ge, cm_is, cm_isn, cm_eqI, cm_neI, ix_l, ix_t, ix_r, List.getElem?_cons_succ, List.getElem?_cons_zero, List.set_cons_succ, List.set_cons_zero, List.length_cons, List.length_nil, Nat.reduceAdd, Nat.reduceLT, Nat.reduceLeDiff, p_nl, g_t2, gt2, eqS, neS, inL3, inS2, inT3, ofS, String.reduceEq, Int.reduceEq, at0, at1, at2, at3, bt0, bt1, bt2, ct0, ct1, dt0, dr_l, bl_int, z0, z1, z2, z3, z4, decide_true, decide_false, Bool.or_false, Bool.false_or, Bool.or_true, Bool.true_or, Bool.not_true, Bool.not_false, Bool.false_eq_true, if_true, if_false, List.isEmpty_nil, List.isEmpty_cons, negV_int, Int.reduceNeg, w_ok, g_4, ga4, g_s, gl_shut, gl_asks, gl_waits, gl_open, gl_nobody, gl_there, gl_back, bl_list, bl_lenT, ce_s, ceS_own, ceS_val, pe2, pe3, pf2, pf3, d23, d33, oc_ret, oc_exc, ob_exc, rz, List.length_append, app2, Ans, nx, false_and, and_false, true_and, and_true, false_or, or_false, true_or, or_true, not_true_eq_false, not_false_eq_true, ne_eq, op_modI hl, cbd, cm_neI, cm_eqI, d11, lift_ok, lift_exc, List.isEmpty_nil, List.isEmpty_cons, Bool.true_and, Bool.false_and, hc])
  | cons x xs => ((try simp only [LT, LB] at hc); simp only [d_call_step, Sx.at, tri, LT, LB, bind_at, out_ok, pure_at, a_loc, a_k, a_glob, a_bin, a_neg, a_cmp, cq_some, a_cell, ce_v, ce_o, a_chain, a_and, a_or, a_not, a_ife, a_lst, a_tup, a_idx, a_slc, a_call, a_blt, a_nil, a_cons, h_nil, h_cons, o_no, o_some, t_nil, t_cons, tv_at, i_seq, i_rng1, i_rng2, i_enum, p_v, p_s, peekS_val, peekS_own, d_int, d_bl, d_str, d_non, d_lst, d_tup, d_ro, ho_v, ho_s, ho_l, fr_v, fr_l, fr_s, frzV_val, frzV_own, oo_some, te_bl, te_int, te_non, te_lst, te_tup, ps_nil, ps_cons, pk_v, pk_s, consO_some, ad_nil, ad_cons, ad_v, ad_s, argS_val, argS_own, locV_val, locV_own, globV_some, negV_int, intO_int, slotV_some, x_nil, nextM_nx, nextM_ret, nextM_brk, nextM_ct, x_cons, x_asg, x_cell, x_par, g_v, g_n, g_s, g_tp, gd_nm, gd_2, gd_3, parM_two, x_expr, x_ret, r_v, r_n, r_s, retV_own, retV_val, x_retN, x_ite, x_raise, x_try, x_pass, x_brk, x_cont, x_setI, putI_int, x_augI, nn_v, nn_s, x_app, appM_lst, iteM_t, iteM_f, iteM_at, op_addI, op_subI, cm_lt, cm_le, cm_gt, cm_ge, cm_is, cm_isn, cm_eqI, cm_neI, ix_l, ix_t, ix_r, List.getElem?_cons_succ, List.getElem?_cons_zero, List.set_cons_succ, List.set_cons_zero, List.length_cons, List.length_nil, Nat.reduceAdd, Nat.reduceLT, Nat.reduceLeDiff, p_nl, g_t2, gt2, eqS, neS, inL3, inS2, inT3, ofS, String.reduceEq, Int.reduceEq, at0, at1, at2, at3, bt0, bt1, bt2, ct0, ct1, dt0, dr_l, bl_int, z0, z1, z2, z3, z4, decide_true, decide_false, Bool.or_false, Bool.false_or, Bool.or_true, Bool.true_or, Bool.not_true, Bool.not_false, Bool.false_eq_true, if_true, if_false, List.isEmpty_nil, List.isEmpty_cons, negV_int, Int.reduceNeg, w_ok, g_4, ga4, g_s, gl_shut, gl_asks, gl_waits, gl_open, gl_nobody, gl_there, gl_back, bl_list, bl_lenT, ce_s, ceS_own, ceS_val, pe2, pe3, pf2, pf3, d23, d33, oc_ret, oc_exc, ob_exc, rz, List.length_append, app2, Ans, nx, false_and, and_false, true_and, and_true, false_or, or_false, true_or, or_true, not_true_eq_false, not_false_eq_true, ne_eq, op_modI hl, cbd, cm_neI, cm_eqI, d11, lift_ok, lift_exc, List.isEmpty_nil, List.isEmpty_cons, Bool.true_and, Bool.false_and, hc])
theorem cs_ask (hl : 0 < lives) (hk : kind = 2 ∨ kind = 3) (ok : Sx.Ok ⟨a, m, o, b, t, w, xs, ys⟩) :
    (tx.gam (k + 3)).call "call_step" [.int kind, .int lives, Sx.at ⟨a, m, o, b, t, w, xs, ys⟩ (.lst xs) (.lst ys), .tup [.str "ask"]] C = Ans C (nx kind lives ⟨a, m, o, b, t, w, xs, ys⟩ "ask") := by
  rw [c_call_step, run_to d_call_step _ [.val (.int kind), .val (.int lives), .val (Sx.at ⟨a, m, o, b, t, w, xs, ys⟩ (.lst xs) (.lst ys)), .val (.tup [.str "ask"]), .no, .no, .no, .no, .no, .no] rfl (by decide) rfl]
  have hc : ∀ ρ, callM (tx.gam (k + 2)) "can_be_done" [.v (Sx.at ⟨a, m, o, b, t, w, xs, ys⟩ (.lst xs) (.lst ys)), .v (.str "ask")] ⟨ρ, C⟩ = .ok (.v (.bl (cbd m t xs ys "ask"))) ⟨ρ, C⟩ := fun ρ =>
    callM_pu (pure_of _ _ (by decide +kernel)) (ds := [Sx.at ⟨a, m, o, b, t, w, xs, ys⟩ (.lst xs) (.lst ys), .str "ask"]) (by simp only [ad_cons, ad_v, ad_nil, consO_some]) (s_cbd (k + 1) ok.xs ok.ys _ (by simp only [words, List.mem_cons, List.not_mem_nil, or_false, ofS, String.reduceEq, or_true, true_or])) rfl
  simp only [Sx.at, tri] at hc
  have em : m = "shut" ∨ m = "asks" ∨ m = "open" := ok.m
  have et : t = "shut" ∨ t = "waits" ∨ t = "open" := ok.t
  have ex : There xs := ok.xs
  have ey : Back ys := ok.ys
  have eo : m = "asks" → o = -1 := ok.o
  rcases em with rfl | rfl | rfl
  all_goals rcases ex with _ | i | i
  all_goals
    (try simp only [LT, LB] at hc)
    simp only [d_call_step, Sx.at, tri, LT, LB, bind_at, out_ok, pure_at, a_loc, a_k, a_glob, a_bin, a_neg, a_cmp, cq_some, a_cell, ce_v, ce_o, a_chain, a_and, a_or, a_not, a_ife, a_lst, a_tup, a_idx, a_slc, a_call, a_blt, a_nil, a_cons, h_nil, h_cons, o_no, o_some, t_nil, t_cons, tv_at, i_seq, i_rng1, i_rng2, i_enum, p_v, p_s, peekS_val, peekS_own, d_int, d_bl, d_str, d_non, d_lst, d_tup, d_ro, ho_v, ho_s, ho_l, fr_v, fr_l, fr_s, frzV_val, frzV_own, oo_some, te_bl, te_int, te_non, te_lst, te_tup, ps_nil, ps_cons, pk_v, pk_s, consO_some, ad_nil, ad_cons, ad_v, ad_s, argS_val, argS_own, locV_val, locV_own, globV_some, negV_int, intO_int, slotV_some, x_nil, nextM_nx, nextM_ret, nextM_brk, nextM_ct, x_cons, x_asg, x_cell, x_par, g_v, g_n, g_s, g_tp, gd_nm, gd_2, gd_3, parM_two, x_expr, x_ret, r_v, r_n, r_s, retV_own, retV_val, x_retN, x_ite, x_raise, x_try, x_pass, x_brk, x_cont, x_setI, putI_int, x_augI, nn_v, nn_s, x_app, appM_lst, iteM_t, iteM_f, iteM_at, op_addI, op_subI, cm_lt, cm_le, cm_gt, cm_ge, cm_is, cm_isn, cm_eqI, cm_neI, ix_l, ix_t, ix_r, List.getElem?_cons_succ, List.getElem?_cons_zero, List.set_cons_succ, List.set_cons_zero, List.length_cons, List.length_nil, Nat.reduceAdd, Nat.reduceLT, Nat.reduceLeDiff, p_nl, g_t2, gt2, eqS, neS, inL3, inS2, inT3, ofS, String.reduceEq, Int.reduceEq, at0, at1, at2, at3, bt0, bt1, bt2, ct0, ct1, dt0, dr_l, bl_int, z0, z1, z2, z3, z4, decide_true, decide_false, Bool.or_false, Bool.false_or, Bool.or_true, Bool.true_or, Bool.not_true, Bool.not_false, Bool.false_eq_true, if_true, if_false, List.isEmpty_nil, List.isEmpty_cons, negV_int, Int.reduceNeg, w_ok, g_4, ga4, g_s, gl_shut, gl_asks, gl_waits, gl_open, gl_nobody, gl_there, gl_back, bl_list, bl_lenT, ce_s, ceS_own, ceS_val, pe2, pe3, pf2, pf3, d23, d33, oc_ret, oc_exc, ob_exc, rz, List.length_append, app2, Ans, nx, false_and, and_false, true_and, and_true, false_or, or_false, true_or, or_true, not_true_eq_false, not_false_eq_true, ne_eq, op_modI hl, cbd, cm_neI, cm_eqI, d11, lift_ok, lift_exc, List.isEmpty_nil, List.isEmpty_cons, Bool.true_and, Bool.false_and, hc]
theorem cs_again (hl : 0 < lives) (hk : kind = 2 ∨ kind = 3) (ok : Sx.Ok ⟨a, m, o, b, t, w, xs, ys⟩) :
    (tx.gam (k + 3)).call "call_step" [.int kind, .int lives, Sx.at ⟨a, m, o, b, t, w, xs, ys⟩ (.lst xs) (.lst ys), .tup [.str "again"]] C = Ans C (nx kind lives ⟨a, m, o, b, t, w, xs, ys⟩ "again") := by
  rw [c_call_step, run_to d_call_step _ [.val (.int kind), .val (.int lives), .val (Sx.at ⟨a, m, o, b, t, w, xs, ys⟩ (.lst xs) (.lst ys)), .val (.tup [.str "again"]), .no, .no, .no, .no, .no, .no] rfl (by decide) rfl]
  have hc : ∀ ρ, callM (tx.gam (k + 2)) "can_be_done" [.v (Sx.at ⟨a, m, o, b, t, w, xs, ys⟩ (.lst xs) (.lst ys)), .v (.str "again")] ⟨ρ, C⟩ = .ok (.v (.bl (cbd m t xs ys "again"))) ⟨ρ, C⟩ := fun ρ =>
    callM_pu (pure_of _ _ (by decide +kernel)) (ds := [Sx.at ⟨a, m, o, b, t, w, xs, ys⟩ (.lst xs) (.lst ys), .str "again"]) (by simp only [ad_cons, ad_v, ad_nil, consO_some]) (s_cbd (k + 1) ok.xs ok.ys _ (by simp only [words, List.mem_cons, List.not_mem_nil, or_false, ofS, String.reduceEq, or_true, true_or])) rfl
  simp only [Sx.at, tri] at hc
  have em : m = "shut" ∨ m = "asks" ∨ m = "open" := ok.m
  have et : t = "shut" ∨ t = "waits" ∨ t = "open" := ok.t
  have ex : There xs := ok.xs
  have ey : Back ys := ok.ys
  have eo : m = "asks" → o = -1 := ok.o
  rcases em with rfl | rfl | rfl
  · (try simp only [LT, LB] at hc)
    simp only [d_call_step, Sx.at, tri, LT, LB, bind_at, out_ok, pure_at, a_loc, a_k, a_glob, a_bin, a_neg, a_cmp, cq_some, a_cell, ce_v, ce_o, a_chain, a_and, a_or, a_not, a_ife, a_lst, a_tup, a_idx, a_slc, a_call, a_blt, a_nil, a_cons, h_nil, h_cons, o_no, o_some, t_nil, t_cons, tv_at, i_seq, i_rng1, i_rng2, i_enum, p_v, p_s, peekS_val, peekS_own, d_int, d_bl, d_str, d_non, d_lst, d_tup, d_ro, ho_v, ho_s, ho_l, fr_v, fr_l, fr_s, frzV_val, frzV_own, oo_some, te_bl, te_int, te_non, te_lst, te_tup, ps_nil, ps_cons, pk_v, pk_s, consO_some, ad_nil, ad_cons, ad_v, ad_s, argS_val, argS_own, locV_val, locV_own, globV_some, negV_int, intO_int, slotV_some, x_nil, nextM_nx, nextM_ret, nextM_brk, nextM_ct, x_cons, x_asg, x_cell, x_par, g_v, g_n, g_s, g_tp, gd_nm, gd_2, gd_3, parM_two, x_expr, x_ret, r_v, r_n, r_s, retV_own, retV_val, x_retN, x_ite, x_raise, x_try, x_pass, x_brk, x_cont, x_setI, putI_int, x_augI, nn_v, nn_s, x_app, appM_lst, iteM_t, iteM_f, iteM_at, op_addI, op_subI, cm_lt, cm_le, cm_gt, cm_ge, cm_is, cm_isn, cm_eqI, cm_neI, ix_l, ix_t, ix_r, List.getElem?_cons_succ, List.getElem?_cons_zero, List.set_cons_succ, List.set_cons_zero, List.length_cons, List.length_nil, Nat.reduceAdd, Nat.reduceLT, Nat.reduceLeDiff, p_nl, g_t2, gt2, eqS, neS, inL3, inS2, inT3, ofS, String.reduceEq, Int.reduceEq, at0, at1, at2, at3, bt0, bt1, bt2, ct0, ct1, dt0, dr_l, bl_int, z0, z1, z2, z3, z4, decide_true, decide_false, Bool.or_false, Bool.false_or, Bool.or_true, Bool.true_or, Bool.not_true, Bool.not_false, Bool.false_eq_true, if_true, if_false, List.isEmpty_nil, List.isEmpty_cons, negV_int, Int.reduceNeg, w_ok, g_4, ga4, g_s, gl_shut, gl_asks, gl_waits, gl_open, gl_nobody, gl_there, gl_back, bl_list, bl_lenT, ce_s, ceS_own, ceS_val, pe2, pe3, pf2, pf3, d23, d33, oc_ret, oc_exc, ob_exc, rz, List.length_append, app2, Ans, nx, false_and, and_false, true_and, and_true, false_or, or_false, true_or, or_true, not_true_eq_false, not_false_eq_true, ne_eq, op_modI hl, cbd, cm_neI, cm_eqI, d11, lift_ok, lift_exc, List.isEmpty_nil, List.isEmpty_cons, Bool.true_and, Bool.false_and, hc]
  · have eo' := eo rfl
    subst eo'
    rcases ex with _ | i | i
    all_goals
      (try simp only [LT, LB] at hc)
      simp only [d_call_step, Sx.at, tri, LT, LB, bind_at, out_ok, pure_at, a_loc, a_k, a_glob, a_bin, a_neg, a_cmp, cq_some, a_cell, ce_v, ce_o, a_chain, a_and, a_or, a_not, a_ife, a_lst, a_tup, a_idx, a_slc, a_call, a_blt, a_nil, a_cons, h_nil, h_cons, o_no, o_some, t_nil, t_cons, tv_at, i_seq, i_rng1, i_rng2, i_enum, p_v, p_s, peekS_val, peekS_own, d_int, d_bl, d_str, d_non, d_lst, d_tup, d_ro, ho_v, ho_s, ho_l, fr_v, fr_l, fr_s, frzV_val, frzV_own, oo_some, te_bl, te_int, te_non, te_lst, te_tup, ps_nil, ps_cons, pk_v, pk_s, consO_some, ad_nil, ad_cons, ad_v, ad_s, argS_val, argS_own, locV_val, locV_own, globV_some, negV_int, intO_int, slotV_some, x_nil, nextM_nx, nextM_ret, nextM_brk, nextM_ct, x_cons, x_asg, x_cell, x_par, g_v, g_n, g_s, g_tp, gd_nm, gd_2, gd_3, parM_two, x_expr, x_ret, r_v, r_n, r_s, retV_own, retV_val, x_retN, x_ite, x_raise, x_try, x_pass, x_brk, x_cont, x_setI, putI_int, x_augI, nn_v, nn_s, x_app, appM_lst, iteM_t, iteM_f, iteM_at, op_addI, op_subI, cm_lt, cm_le, cm_gt, cm_ge, cm_is, cm_isn, cm_eqI, cm_neI, ix_l, ix_t, ix_r, List.getElem?_cons_succ, List.getElem?_cons_zero, List.set_cons_succ, List.set_cons_zero, List.length_cons, List.length_nil, Nat.reduceAdd, Nat.reduceLT, Nat.reduceLeDiff, p_nl, g_t2, gt2, eqS, neS, inL3, inS2, inT3, ofS, String.reduceEq, Int.reduceEq, at0, at1, at2, at3, bt0, bt1, bt2, ct0, ct1, dt0, dr_l, bl_int, z0, z1, z2, z3, z4, decide_true, decide_false, Bool.or_false, Bool.false_or, Bool.or_true, Bool.true_or, Bool.not_true, Bool.not_false, Bool.false_eq_true, if_true, if_false, List.isEmpty_nil, List.isEmpty_cons, negV_int, Int.reduceNeg, w_ok, g_4, ga4, g_s, gl_shut, gl_asks, gl_waits, gl_open, gl_nobody, gl_there, gl_back, bl_list, bl_lenT, ce_s, ceS_own, ceS_val, pe2, pe3, pf2, pf3, d23, d33, oc_ret, oc_exc, ob_exc, rz, List.length_append, app2, Ans, nx, false_and, and_false, true_and, and_true, false_or, or_false, true_or, or_true, not_true_eq_false, not_false_eq_true, ne_eq, op_modI hl, cbd, cm_neI, cm_eqI, d11, lift_ok, lift_exc, List.isEmpty_nil, List.isEmpty_cons, Bool.true_and, Bool.false_and, hc]
  · (try simp only [LT, LB] at hc)
    simp only [d_call_step, Sx.at, tri, LT, LB, bind_at, out_ok, pure_at, a_loc, a_k, a_glob, a_bin, a_neg, a_cmp, cq_some, a_cell, ce_v, ce_o, a_chain, a_and, a_or, a_not, a_ife, a_lst, a_tup, a_idx, a_slc, a_call, a_blt, a_nil, a_cons, h_nil, h_cons, o_no, o_some, t_nil, t_cons, tv_at, i_seq, i_rng1, i_rng2, i_enum, p_v, p_s, peekS_val, peekS_own, d_int, d_bl, d_str, d_non, d_lst, d_tup, d_ro, ho_v, ho_s, ho_l, fr_v, fr_l, fr_s, frzV_val, frzV_own, oo_some, te_bl, te_int, te_non, te_lst, te_tup, ps_nil, ps_cons, pk_v, pk_s, consO_some, ad_nil, ad_cons, ad_v, ad_s, argS_val, argS_own, locV_val, locV_own, globV_some, negV_int, intO_int, slotV_some, x_nil, nextM_nx, nextM_ret, nextM_brk, nextM_ct, x_cons, x_asg, x_cell, x_par, g_v, g_n, g_s, g_tp, gd_nm, gd_2, gd_3, parM_two, x_expr, x_ret, r_v, r_n, r_s, retV_own, retV_val, x_retN, x_ite, x_raise, x_try, x_pass, x_brk, x_cont, x_setI, putI_int, x_augI, nn_v, nn_s, x_app, appM_lst, iteM_t, iteM_f, iteM_at, op_addI, op_subI, cm_lt, cm_le, cm_gt, cm_ge, cm_is, cm_isn, cm_eqI, cm_neI, ix_l, ix_t, ix_r, List.getElem?_cons_succ, List.getElem?_cons_zero, List.set_cons_succ, List.set_cons_zero, List.length_cons, List.length_nil, Nat.reduceAdd, Nat.reduceLT, Nat.reduceLeDiff, p_nl, g_t2, gt2, eqS, neS, inL3, inS2, inT3, ofS, String.reduceEq, Int.reduceEq, at0, at1, at2, at3, bt0, bt1, bt2, ct0, ct1, dt0, dr_l, bl_int, z0, z1, z2, z3, z4, decide_true, decide_false, Bool.or_false, Bool.false_or, Bool.or_true, Bool.true_or, Bool.not_true, Bool.not_false, Bool.false_eq_true, if_true, if_false, List.isEmpty_nil, List.isEmpty_cons, negV_int, Int.reduceNeg, w_ok, g_4, ga4, g_s, gl_shut, gl_asks, gl_waits, gl_open, gl_nobody, gl_there, gl_back, bl_list, bl_lenT, ce_s, ceS_own, ceS_val, pe2, pe3, pf2, pf3, d23, d33, oc_ret, oc_exc, ob_exc, rz, List.length_append, app2, Ans, nx, false_and, and_false, true_and, and_true, false_or, or_false, true_or, or_true, not_true_eq_false, not_false_eq_true, ne_eq, op_modI hl, cbd, cm_neI, cm_eqI, d11, lift_ok, lift_exc, List.isEmpty_nil, List.isEmpty_cons, Bool.true_and, Bool.false_and, hc]
theorem cs_cback (hl : 0 < lives) (hk : kind = 2 ∨ kind = 3) (ok : Sx.Ok ⟨a, m, o, b, t, w, xs, ys⟩) :
    (tx.gam (k + 3)).call "call_step" [.int kind, .int lives, Sx.at ⟨a, m, o, b, t, w, xs, ys⟩ (.lst xs) (.lst ys), .tup [.str "come back"]] C = Ans C (nx kind lives ⟨a, m, o, b, t, w, xs, ys⟩ "come back") := by
  rw [c_call_step, run_to d_call_step _ [.val (.int kind), .val (.int lives), .val (Sx.at ⟨a, m, o, b, t, w, xs, ys⟩ (.lst xs) (.lst ys)), .val (.tup [.str "come back"]), .no, .no, .no, .no, .no, .no] rfl (by decide) rfl]
  have hc : ∀ ρ, callM (tx.gam (k + 2)) "can_be_done" [.v (Sx.at ⟨a, m, o, b, t, w, xs, ys⟩ (.lst xs) (.lst ys)), .v (.str "come back")] ⟨ρ, C⟩ = .ok (.v (.bl (cbd m t xs ys "come back"))) ⟨ρ, C⟩ := fun ρ =>
    callM_pu (pure_of _ _ (by decide +kernel)) (ds := [Sx.at ⟨a, m, o, b, t, w, xs, ys⟩ (.lst xs) (.lst ys), .str "come back"]) (by simp only [ad_cons, ad_v, ad_nil, consO_some]) (s_cbd (k + 1) ok.xs ok.ys _ (by simp only [words, List.mem_cons, List.not_mem_nil, or_false, ofS, String.reduceEq, or_true, true_or])) rfl
  simp only [Sx.at, tri] at hc
  have em : m = "shut" ∨ m = "asks" ∨ m = "open" := ok.m
  have et : t = "shut" ∨ t = "waits" ∨ t = "open" := ok.t
  have ex : There xs := ok.xs
  have ey : Back ys := ok.ys
  have eo : m = "asks" → o = -1 := ok.o
  (try simp only [LT, LB] at hc)
  simp only [d_call_step, Sx.at, tri, LT, LB, bind_at, out_ok, pure_at, a_loc, a_k, a_glob, a_bin, a_neg, a_cmp, cq_some, a_cell, ce_v, ce_o, a_chain, a_and, a_or, a_not, a_ife, a_lst, a_tup, a_idx, a_slc, a_call, a_blt, a_nil, a_cons, h_nil, h_cons, o_no, o_some, t_nil, t_cons, tv_at, i_seq, i_rng1, i_rng2, i_enum, p_v, p_s, peekS_val, peekS_own, d_int, d_bl, d_str, d_non, d_lst, d_tup, d_ro, ho_v, ho_s, ho_l, fr_v, fr_l, fr_s, frzV_val, frzV_own, oo_some, te_bl, te_int, te_non, te_lst, te_tup, ps_nil, ps_cons, pk_v, pk_s, consO_some, ad_nil, ad_cons, ad_v, ad_s, argS_val, argS_own, locV_val, locV_own, globV_some, negV_int, intO_int, slotV_some, x_nil, nextM_nx, nextM_ret, nextM_brk, nextM_ct, x_cons, x_asg, x_cell, x_par, g_v, g_n, g_s, g_tp, gd_nm, gd_2, gd_3, parM_two, x_expr, x_ret, r_v, r_n, r_s, retV_own, retV_val, x_retN, x_ite, x_raise, x_try, x_pass, x_brk, x_cont, x_setI, putI_int, x_augI, nn_v, nn_s, x_app, appM_lst, iteM_t, iteM_f, iteM_at, op_addI, op_subI, cm_lt, cm_le, cm_gt, cm_ge, cm_is, cm_isn, cm_eqI, cm_neI, ix_l, ix_t, ix_r, List.getElem?_cons_succ, List.getElem?_cons_zero, List.set_cons_succ, List.set_cons_zero, List.length_cons, List.length_nil, Nat.reduceAdd, Nat.reduceLT, Nat.reduceLeDiff, p_nl, g_t2, gt2, eqS, neS, inL3, inS2, inT3, ofS, String.reduceEq, Int.reduceEq, at0, at1, at2, at3, bt0, bt1, bt2, ct0, ct1, dt0, dr_l, bl_int, z0, z1, z2, z3, z4, decide_true, decide_false, Bool.or_false, Bool.false_or, Bool.or_true, Bool.true_or, Bool.not_true, Bool.not_false, Bool.false_eq_true, if_true, if_false, List.isEmpty_nil, List.isEmpty_cons, negV_int, Int.reduceNeg, w_ok, g_4, ga4, g_s, gl_shut, gl_asks, gl_waits, gl_open, gl_nobody, gl_there, gl_back, bl_list, bl_lenT, ce_s, ceS_own, ceS_val, pe2, pe3, pf2, pf3, d23, d33, oc_ret, oc_exc, ob_exc, rz, List.length_append, app2, Ans, nx, false_and, and_false, true_and, and_true, false_or, or_false, true_or, or_true, not_true_eq_false, not_false_eq_true, ne_eq, op_modI hl, cbd, cm_neI, cm_eqI, d11, lift_ok, lift_exc, List.isEmpty_nil, List.isEmpty_cons, Bool.true_and, Bool.false_and, hc]
theorem cs_none (hl : 0 < lives) (hk : kind = 2 ∨ kind = 3) (ok : Sx.Ok ⟨a, m, o, b, t, w, xs, ys⟩) :
    (tx.gam (k + 3)).call "call_step" [.int kind, .int lives, Sx.at ⟨a, m, o, b, t, w, xs, ys⟩ (.lst xs) (.lst ys), .tup [.str ""]] C = Ans C (nx kind lives ⟨a, m, o, b, t, w, xs, ys⟩ "") := by
  rw [c_call_step, run_to d_call_step _ [.val (.int kind), .val (.int lives), .val (Sx.at ⟨a, m, o, b, t, w, xs, ys⟩ (.lst xs) (.lst ys)), .val (.tup [.str ""]), .no, .no, .no, .no, .no, .no] rfl (by decide) rfl]
  have hc : ∀ ρ, callM (tx.gam (k + 2)) "can_be_done" [.v (Sx.at ⟨a, m, o, b, t, w, xs, ys⟩ (.lst xs) (.lst ys)), .v (.str "")] ⟨ρ, C⟩ = .ok (.v (.bl (cbd m t xs ys ""))) ⟨ρ, C⟩ := fun ρ =>
    callM_pu (pure_of _ _ (by decide +kernel)) (ds := [Sx.at ⟨a, m, o, b, t, w, xs, ys⟩ (.lst xs) (.lst ys), .str ""]) (by simp only [ad_cons, ad_v, ad_nil, consO_some]) (s_cbd (k + 1) ok.xs ok.ys _ (by simp only [words, List.mem_cons, List.not_mem_nil, or_false, ofS, String.reduceEq, or_true, true_or])) rfl
  simp only [Sx.at, tri] at hc
  have em : m = "shut" ∨ m = "asks" ∨ m = "open" := ok.m
  have et : t = "shut" ∨ t = "waits" ∨ t = "open" := ok.t
  have ex : There xs := ok.xs
  have ey : Back ys := ok.ys
  have eo : m = "asks" → o = -1 := ok.o
  (try simp only [LT, LB] at hc)
  simp only [d_call_step, Sx.at, tri, LT, LB, bind_at, out_ok, pure_at, a_loc, a_k, a_glob, a_bin, a_neg, a_cmp, cq_some, a_cell, ce_v, ce_o, a_chain, a_and, a_or, a_not, a_ife, a_lst, a_tup, a_idx, a_slc, a_call, a_blt, a_nil, a_cons, h_nil, h_cons, o_no, o_some, t_nil, t_cons, tv_at, i_seq, i_rng1, i_rng2, i_enum, p_v, p_s, peekS_val, peekS_own, d_int, d_bl, d_str, d_non, d_lst, d_tup, d_ro, ho_v, ho_s, ho_l, fr_v, fr_l, fr_s, frzV_val, frzV_own, oo_some, te_bl, te_int, te_non, te_lst, te_tup, ps_nil, ps_cons, pk_v, pk_s, consO_some, ad_nil, ad_cons, ad_v, ad_s, argS_val, argS_own, locV_val, locV_own, globV_some, negV_int, intO_int, slotV_some, x_nil, nextM_nx, nextM_ret, nextM_brk, nextM_ct, x_cons, x_asg, x_cell, x_par, g_v, g_n, g_s, g_tp, gd_nm, gd_2, gd_3, parM_two, x_expr, x_ret, r_v, r_n, r_s, retV_own, retV_val, x_retN, x_ite, x_raise, x_try, x_pass, x_brk, x_cont, x_setI, putI_int, x_augI, nn_v, nn_s, x_app, appM_lst, iteM_t, iteM_f, iteM_at, op_addI, op_subI, cm_lt, cm_le, cm_gt, cm_ge, cm_is, cm_isn, cm_eqI, cm_neI, ix_l, ix_t, ix_r, List.getElem?_cons_succ, List.getElem?_cons_zero, List.set_cons_succ, List.set_cons_zero, List.length_cons, List.length_nil, Nat.reduceAdd, Nat.reduceLT, Nat.reduceLeDiff, p_nl, g_t2, gt2, eqS, neS, inL3, inS2, inT3, ofS, String.reduceEq, Int.reduceEq, at0, at1, at2, at3, bt0, bt1, bt2, ct0, ct1, dt0, dr_l, bl_int, z0, z1, z2, z3, z4, decide_true, decide_false, Bool.or_false, Bool.false_or, Bool.or_true, Bool.true_or, Bool.not_true, Bool.not_false, Bool.false_eq_true, if_true, if_false, List.isEmpty_nil, List.isEmpty_cons, negV_int, Int.reduceNeg, w_ok, g_4, ga4, g_s, gl_shut, gl_asks, gl_waits, gl_open, gl_nobody, gl_there, gl_back, bl_list, bl_lenT, ce_s, ceS_own, ceS_val, pe2, pe3, pf2, pf3, d23, d33, oc_ret, oc_exc, ob_exc, rz, List.length_append, app2, Ans, nx, false_and, and_false, true_and, and_true, false_or, or_false, true_or, or_true, not_true_eq_false, not_false_eq_true, ne_eq, op_modI hl, cbd, cm_neI, cm_eqI, d11, lift_ok, lift_exc, List.isEmpty_nil, List.isEmpty_cons, Bool.true_and, Bool.false_and, hc]
theorem cs_come (hl : 0 < lives) (hk : kind = 2 ∨ kind = 3) (ok : Sx.Ok ⟨a, m, o, b, t, w, xs, ys⟩) :
    (tx.gam (k + 3)).call "call_step" [.int kind, .int lives, Sx.at ⟨a, m, o, b, t, w, xs, ys⟩ (.lst xs) (.lst ys), .tup [.str "come"]] C = Ans C (nx kind lives ⟨a, m, o, b, t, w, xs, ys⟩ "come") := by
  rw [c_call_step, run_to d_call_step _ [.val (.int kind), .val (.int lives), .val (Sx.at ⟨a, m, o, b, t, w, xs, ys⟩ (.lst xs) (.lst ys)), .val (.tup [.str "come"]), .no, .no, .no, .no, .no, .no] rfl (by decide) rfl]
  have hc : ∀ ρ, callM (tx.gam (k + 2)) "can_be_done" [.v (Sx.at ⟨a, m, o, b, t, w, xs, ys⟩ (.lst xs) (.lst ys)), .v (.str "come")] ⟨ρ, C⟩ = .ok (.v (.bl (cbd m t xs ys "come"))) ⟨ρ, C⟩ := fun ρ =>
    callM_pu (pure_of _ _ (by decide +kernel)) (ds := [Sx.at ⟨a, m, o, b, t, w, xs, ys⟩ (.lst xs) (.lst ys), .str "come"]) (by simp only [ad_cons, ad_v, ad_nil, consO_some]) (s_cbd (k + 1) ok.xs ok.ys _ (by simp only [words, List.mem_cons, List.not_mem_nil, or_false, ofS, String.reduceEq, or_true, true_or])) rfl
  simp only [Sx.at, tri] at hc
  have em : m = "shut" ∨ m = "asks" ∨ m = "open" := ok.m
  have et : t = "shut" ∨ t = "waits" ∨ t = "open" := ok.t
  have ex : There xs := ok.xs
  have ey : Back ys := ok.ys
  have eo : m = "asks" → o = -1 := ok.o
  cases hx : xs with
  | nil => subst hx; ((try simp only [LT, LB] at hc); simp only [d_call_step, Sx.at, tri, LT, LB, bind_at, out_ok, pure_at, a_loc, a_k, a_glob, a_bin, a_neg, a_cmp, cq_some, a_cell, ce_v, ce_o, a_chain, a_and, a_or, a_not, a_ife, a_lst, a_tup, a_idx, a_slc, a_call, a_blt, a_nil, a_cons, h_nil, h_cons, o_no, o_some, t_nil, t_cons, tv_at, i_seq, i_rng1, i_rng2, i_enum, p_v, p_s, peekS_val, peekS_own, d_int, d_bl, d_str, d_non, d_lst, d_tup, d_ro, ho_v, ho_s, ho_l, fr_v, fr_l, fr_s, frzV_val, frzV_own, oo_some, te_bl, te_int, te_non, te_lst, te_tup, ps_nil, ps_cons, pk_v, pk_s, consO_some, ad_nil, ad_cons, ad_v, ad_s, argS_val, argS_own, locV_val, locV_own, globV_some, negV_int, intO_int, slotV_some, x_nil, nextM_nx, nextM_ret, nextM_brk, nextM_ct, x_cons, x_asg, x_cell, x_par, g_v, g_n, g_s, g_tp, gd_nm, gd_2, gd_3, parM_two, x_expr, x_ret, r_v, r_n, r_s, retV_own, retV_val, x_retN, x_ite, x_raise, x_try, x_pass, x_brk, x_cont, x_setI, putI_int, x_augI, nn_v, nn_s, x_app, appM_lst, iteM_t, iteM_f, iteM_at, op_addI, op_subI, cm_lt, cm_le, cm_gt, cm_ge, cm_is, cm_isn, cm_eqI, cm_neI, ix_l, ix_t, ix_r, List.getElem?_cons_succ, List.getElem?_cons_zero, List.set_cons_succ, List.set_cons_zero, List.length_cons, List.length_nil, Nat.reduceAdd, Nat.reduceLT, Nat.reduceLeDiff, p_nl, g_t2, gt2, eqS, neS, inL3, inS2, inT3, ofS, String.reduceEq, Int.reduceEq, at0, at1, at2, at3, bt0, bt1, bt2, ct0, ct1, dt0, dr_l, bl_int, z0, z1, z2, z3, z4, decide_true, decide_false, Bool.or_false, Bool.false_or, Bool.or_true, Bool.true_or, Bool.not_true, Bool.not_false, Bool.false_eq_true, if_true, if_false, List.isEmpty_nil, List.isEmpty_cons, negV_int, Int.reduceNeg, w_ok, g_4, ga4, g_s, gl_shut, gl_asks, gl_waits, gl_open, gl_nobody, gl_there, gl_back, bl_list, bl_lenT, ce_s, ceS_own, ceS_val, pe2, pe3, pf2, pf3, d23, d33, oc_ret, oc_exc, ob_exc, rz, List.length_append, app2, Ans, nx, false_and, and_false, true_and, and_true, false_or, or_false, true_or, or_true, not_true_eq_false, not_false_eq_true, ne_eq, op_modI hl, cbd, cm_neI, cm_eqI, d11, lift_ok, lift_exc, List.isEmpty_nil, List.isEmpty_cons, Bool.true_and, Bool.false_and, hc]; rfl)
  | cons x xs' =>
    rw [← hx]
    have hne : xs ≠ [] := by rw [hx]; exact List.cons_ne_nil _ _
    have hi : xs.isEmpty = false := by rw [hx]; rfl
    have hcall : ∀ ρ, callM (tx.gam (k + 2)) "arrived_there" [.v (.int kind), .v (.int lives), .v (Sx.at ⟨a, m, o, b, t, w, xs, ys⟩ (.lst xs) (.lst ys)), .v (.bl false)] ⟨ρ, C⟩ = lift (Ans C (arrT kind lives ⟨a, m, o, b, t, w, xs, ys⟩ [])) ρ := fun ρ => callM_lift (impure_of _ _ (by decide +kernel)) (frzs_v (frzs_v (frzs_v (frzs_v frzs_nil)))) (at_there hl hk ok false hne)
    clear ok em et ex ey eo hne hx
    simp only [Sx.at, tri] at hcall
    cases hz : arrT kind lives ⟨a, m, o, b, t, w, xs, ys⟩ [] <;> simp only [hz] at hcall <;> simp only [d_call_step, Sx.at, tri, LT, LB, bind_at, out_ok, pure_at, a_loc, a_k, a_glob, a_bin, a_neg, a_cmp, cq_some, a_cell, ce_v, ce_o, a_chain, a_and, a_or, a_not, a_ife, a_lst, a_tup, a_idx, a_slc, a_call, a_blt, a_nil, a_cons, h_nil, h_cons, o_no, o_some, t_nil, t_cons, tv_at, i_seq, i_rng1, i_rng2, i_enum, p_v, p_s, peekS_val, peekS_own, d_int, d_bl, d_str, d_non, d_lst, d_tup, d_ro, ho_v, ho_s, ho_l, fr_v, fr_l, fr_s, frzV_val, frzV_own, oo_some, te_bl, te_int, te_non, te_lst, te_tup, ps_nil, ps_cons, pk_v, pk_s, consO_some, ad_nil, ad_cons, ad_v, ad_s, argS_val, argS_own, locV_val, locV_own, globV_some, negV_int, intO_int, slotV_some, x_nil, nextM_nx, nextM_ret, nextM_brk, nextM_ct, x_cons, x_asg, x_cell, x_par, g_v, g_n, g_s, g_tp, gd_nm, gd_2, gd_3, parM_two, x_expr, x_ret, r_v, r_n, r_s, retV_own, retV_val, x_retN, x_ite, x_raise, x_try, x_pass, x_brk, x_cont, x_setI, putI_int, x_augI, nn_v, nn_s, x_app, appM_lst, iteM_t, iteM_f, iteM_at, op_addI, op_subI, cm_lt, cm_le, cm_gt, cm_ge, cm_is, cm_isn, cm_eqI, cm_neI, ix_l, ix_t, ix_r, List.getElem?_cons_succ, List.getElem?_cons_zero, List.set_cons_succ, List.set_cons_zero, List.length_cons, List.length_nil, Nat.reduceAdd, Nat.reduceLT, Nat.reduceLeDiff, p_nl, g_t2, gt2, eqS, neS, inL3, inS2, inT3, ofS, String.reduceEq, Int.reduceEq, at0, at1, at2, at3, bt0, bt1, bt2, ct0, ct1, dt0, dr_l, bl_int, z0, z1, z2, z3, z4, decide_true, decide_false, Bool.or_false, Bool.false_or, Bool.or_true, Bool.true_or, Bool.not_true, Bool.not_false, Bool.false_eq_true, if_true, if_false, List.isEmpty_nil, List.isEmpty_cons, negV_int, Int.reduceNeg, w_ok, g_4, ga4, g_s, gl_shut, gl_asks, gl_waits, gl_open, gl_nobody, gl_there, gl_back, bl_list, bl_lenT, ce_s, ceS_own, ceS_val, pe2, pe3, pf2, pf3, d23, d33, oc_ret, oc_exc, ob_exc, rz, List.length_append, app2, Ans, nx, false_and, and_false, true_and, and_true, false_or, or_false, true_or, or_true, not_true_eq_false, not_false_eq_true, ne_eq, op_modI hl, cbd, cm_neI, cm_eqI, d11, lift_ok, lift_exc, List.isEmpty_nil, List.isEmpty_cons, Bool.true_and, Bool.false_and, hc, hcall, hz, hi]
theorem cs_comea (hl : 0 < lives) (hk : kind = 2 ∨ kind = 3) (ok : Sx.Ok ⟨a, m, o, b, t, w, xs, ys⟩) :
    (tx.gam (k + 3)).call "call_step" [.int kind, .int lives, Sx.at ⟨a, m, o, b, t, w, xs, ys⟩ (.lst xs) (.lst ys), .tup [.str "come again"]] C = Ans C (nx kind lives ⟨a, m, o, b, t, w, xs, ys⟩ "come again") := by
  rw [c_call_step, run_to d_call_step _ [.val (.int kind), .val (.int lives), .val (Sx.at ⟨a, m, o, b, t, w, xs, ys⟩ (.lst xs) (.lst ys)), .val (.tup [.str "come again"]), .no, .no, .no, .no, .no, .no] rfl (by decide) rfl]
  have hc : ∀ ρ, callM (tx.gam (k + 2)) "can_be_done" [.v (Sx.at ⟨a, m, o, b, t, w, xs, ys⟩ (.lst xs) (.lst ys)), .v (.str "come again")] ⟨ρ, C⟩ = .ok (.v (.bl (cbd m t xs ys "come again"))) ⟨ρ, C⟩ := fun ρ =>
    callM_pu (pure_of _ _ (by decide +kernel)) (ds := [Sx.at ⟨a, m, o, b, t, w, xs, ys⟩ (.lst xs) (.lst ys), .str "come again"]) (by simp only [ad_cons, ad_v, ad_nil, consO_some]) (s_cbd (k + 1) ok.xs ok.ys _ (by simp only [words, List.mem_cons, List.not_mem_nil, or_false, ofS, String.reduceEq, or_true, true_or])) rfl
  simp only [Sx.at, tri] at hc
  have em : m = "shut" ∨ m = "asks" ∨ m = "open" := ok.m
  have et : t = "shut" ∨ t = "waits" ∨ t = "open" := ok.t
  have ex : There xs := ok.xs
  have ey : Back ys := ok.ys
  have eo : m = "asks" → o = -1 := ok.o
  cases hx : xs with
  | nil => subst hx; ((try simp only [LT, LB] at hc); simp only [d_call_step, Sx.at, tri, LT, LB, bind_at, out_ok, pure_at, a_loc, a_k, a_glob, a_bin, a_neg, a_cmp, cq_some, a_cell, ce_v, ce_o, a_chain, a_and, a_or, a_not, a_ife, a_lst, a_tup, a_idx, a_slc, a_call, a_blt, a_nil, a_cons, h_nil, h_cons, o_no, o_some, t_nil, t_cons, tv_at, i_seq, i_rng1, i_rng2, i_enum, p_v, p_s, peekS_val, peekS_own, d_int, d_bl, d_str, d_non, d_lst, d_tup, d_ro, ho_v, ho_s, ho_l, fr_v, fr_l, fr_s, frzV_val, frzV_own, oo_some, te_bl, te_int, te_non, te_lst, te_tup, ps_nil, ps_cons, pk_v, pk_s, consO_some, ad_nil, ad_cons, ad_v, ad_s, argS_val, argS_own, locV_val, locV_own, globV_some, negV_int, intO_int, slotV_some, x_nil, nextM_nx, nextM_ret, nextM_brk, nextM_ct, x_cons, x_asg, x_cell, x_par, g_v, g_n, g_s, g_tp, gd_nm, gd_2, gd_3, parM_two, x_expr, x_ret, r_v, r_n, r_s, retV_own, retV_val, x_retN, x_ite, x_raise, x_try, x_pass, x_brk, x_cont, x_setI, putI_int, x_augI, nn_v, nn_s, x_app, appM_lst, iteM_t, iteM_f, iteM_at, op_addI, op_subI, cm_lt, cm_le, cm_gt, cm_ge, cm_is, cm_isn, cm_eqI, cm_neI, ix_l, ix_t, ix_r, List.getElem?_cons_succ, List.getElem?_cons_zero, List.set_cons_succ, List.set_cons_zero, List.length_cons, List.length_nil, Nat.reduceAdd, Nat.reduceLT, Nat.reduceLeDiff, p_nl, g_t2, gt2, eqS, neS, inL3, inS2, inT3, ofS, String.reduceEq, Int.reduceEq, at0, at1, at2, at3, bt0, bt1, bt2, ct0, ct1, dt0, dr_l, bl_int, z0, z1, z2, z3, z4, decide_true, decide_false, Bool.or_false, Bool.false_or, Bool.or_true, Bool.true_or, Bool.not_true, Bool.not_false, Bool.false_eq_true, if_true, if_false, List.isEmpty_nil, List.isEmpty_cons, negV_int, Int.reduceNeg, w_ok, g_4, ga4, g_s, gl_shut, gl_asks, gl_waits, gl_open, gl_nobody, gl_there, gl_back, bl_list, bl_lenT, ce_s, ceS_own, ceS_val, pe2, pe3, pf2, pf3, d23, d33, oc_ret, oc_exc, ob_exc, rz, List.length_append, app2, Ans, nx, false_and, and_false, true_and, and_true, false_or, or_false, true_or, or_true, not_true_eq_false, not_false_eq_true, ne_eq, op_modI hl, cbd, cm_neI, cm_eqI, d11, lift_ok, lift_exc, List.isEmpty_nil, List.isEmpty_cons, Bool.true_and, Bool.false_and, hc]; rfl)
  | cons x xs' =>
    rw [← hx]
    have hne : xs ≠ [] := by rw [hx]; exact List.cons_ne_nil _ _
    have hi : xs.isEmpty = false := by rw [hx]; rfl
    have hcall : ∀ ρ, callM (tx.gam (k + 2)) "arrived_there" [.v (.int kind), .v (.int lives), .v (Sx.at ⟨a, m, o, b, t, w, xs, ys⟩ (.lst xs) (.lst ys)), .v (.bl true)] ⟨ρ, C⟩ = lift (Ans C (arrT kind lives ⟨a, m, o, b, t, w, xs, ys⟩ xs)) ρ := fun ρ => callM_lift (impure_of _ _ (by decide +kernel)) (frzs_v (frzs_v (frzs_v (frzs_v frzs_nil)))) (at_there hl hk ok true hne)
    clear ok em et ex ey eo hne hx
    simp only [Sx.at, tri] at hcall
    cases hz : arrT kind lives ⟨a, m, o, b, t, w, xs, ys⟩ xs <;> simp only [hz] at hcall <;> simp only [d_call_step, Sx.at, tri, LT, LB, bind_at, out_ok, pure_at, a_loc, a_k, a_glob, a_bin, a_neg, a_cmp, cq_some, a_cell, ce_v, ce_o, a_chain, a_and, a_or, a_not, a_ife, a_lst, a_tup, a_idx, a_slc, a_call, a_blt, a_nil, a_cons, h_nil, h_cons, o_no, o_some, t_nil, t_cons, tv_at, i_seq, i_rng1, i_rng2, i_enum, p_v, p_s, peekS_val, peekS_own, d_int, d_bl, d_str, d_non, d_lst, d_tup, d_ro, ho_v, ho_s, ho_l, fr_v, fr_l, fr_s, frzV_val, frzV_own, oo_some, te_bl, te_int, te_non, te_lst, te_tup, ps_nil, ps_cons, pk_v, pk_s, consO_some, ad_nil, ad_cons, ad_v, ad_s, argS_val, argS_own, locV_val, locV_own, globV_some, negV_int, intO_int, slotV_some, x_nil, nextM_nx, nextM_ret, nextM_brk, nextM_ct, x_cons, x_asg, x_cell, x_par, g_v, g_n, g_s, g_tp, gd_nm, gd_2, gd_3, parM_two, x_expr, x_ret, r_v, r_n, r_s, retV_own, retV_val, x_retN, x_ite, x_raise, x_try, x_pass, x_brk, x_cont, x_setI, putI_int, x_augI, nn_v, nn_s, x_app, appM_lst, iteM_t, iteM_f, iteM_at, op_addI, op_subI, cm_lt, cm_le, cm_gt, cm_ge, cm_is, cm_isn, cm_eqI, cm_neI, ix_l, ix_t, ix_r, List.getElem?_cons_succ, List.getElem?_cons_zero, List.set_cons_succ, List.set_cons_zero, List.length_cons, List.length_nil, Nat.reduceAdd, Nat.reduceLT, Nat.reduceLeDiff, p_nl, g_t2, gt2, eqS, neS, inL3, inS2, inT3, ofS, String.reduceEq, Int.reduceEq, at0, at1, at2, at3, bt0, bt1, bt2, ct0, ct1, dt0, dr_l, bl_int, z0, z1, z2, z3, z4, decide_true, decide_false, Bool.or_false, Bool.false_or, Bool.or_true, Bool.true_or, Bool.not_true, Bool.not_false, Bool.false_eq_true, if_true, if_false, List.isEmpty_nil, List.isEmpty_cons, negV_int, Int.reduceNeg, w_ok, g_4, ga4, g_s, gl_shut, gl_asks, gl_waits, gl_open, gl_nobody, gl_there, gl_back, bl_list, bl_lenT, ce_s, ceS_own, ceS_val, pe2, pe3, pf2, pf3, d23, d33, oc_ret, oc_exc, ob_exc, rz, List.length_append, app2, Ans, nx, false_and, and_false, true_and, and_true, false_or, or_false, true_or, or_true, not_true_eq_false, not_false_eq_true, ne_eq, op_modI hl, cbd, cm_neI, cm_eqI, d11, lift_ok, lift_exc, List.isEmpty_nil, List.isEmpty_cons, Bool.true_and, Bool.false_and, hc, hcall, hz, hi]
theorem cs_back (hl : 0 < lives) (hk : kind = 2 ∨ kind = 3) (ok : Sx.Ok ⟨a, m, o, b, t, w, xs, ys⟩) :
    (tx.gam (k + 3)).call "call_step" [.int kind, .int lives, Sx.at ⟨a, m, o, b, t, w, xs, ys⟩ (.lst xs) (.lst ys), .tup [.str "back"]] C = Ans C (nx kind lives ⟨a, m, o, b, t, w, xs, ys⟩ "back") := by
  rw [c_call_step, run_to d_call_step _ [.val (.int kind), .val (.int lives), .val (Sx.at ⟨a, m, o, b, t, w, xs, ys⟩ (.lst xs) (.lst ys)), .val (.tup [.str "back"]), .no, .no, .no, .no, .no, .no] rfl (by decide) rfl]
  have hc : ∀ ρ, callM (tx.gam (k + 2)) "can_be_done" [.v (Sx.at ⟨a, m, o, b, t, w, xs, ys⟩ (.lst xs) (.lst ys)), .v (.str "back")] ⟨ρ, C⟩ = .ok (.v (.bl (cbd m t xs ys "back"))) ⟨ρ, C⟩ := fun ρ =>
    callM_pu (pure_of _ _ (by decide +kernel)) (ds := [Sx.at ⟨a, m, o, b, t, w, xs, ys⟩ (.lst xs) (.lst ys), .str "back"]) (by simp only [ad_cons, ad_v, ad_nil, consO_some]) (s_cbd (k + 1) ok.xs ok.ys _ (by simp only [words, List.mem_cons, List.not_mem_nil, or_false, ofS, String.reduceEq, or_true, true_or])) rfl
  simp only [Sx.at, tri] at hc
  have em : m = "shut" ∨ m = "asks" ∨ m = "open" := ok.m
  have et : t = "shut" ∨ t = "waits" ∨ t = "open" := ok.t
  have ex : There xs := ok.xs
  have ey : Back ys := ok.ys
  have eo : m = "asks" → o = -1 := ok.o
  cases hx : ys with
  | nil => subst hx; ((try simp only [LT, LB] at hc); simp only [d_call_step, Sx.at, tri, LT, LB, bind_at, out_ok, pure_at, a_loc, a_k, a_glob, a_bin, a_neg, a_cmp, cq_some, a_cell, ce_v, ce_o, a_chain, a_and, a_or, a_not, a_ife, a_lst, a_tup, a_idx, a_slc, a_call, a_blt, a_nil, a_cons, h_nil, h_cons, o_no, o_some, t_nil, t_cons, tv_at, i_seq, i_rng1, i_rng2, i_enum, p_v, p_s, peekS_val, peekS_own, d_int, d_bl, d_str, d_non, d_lst, d_tup, d_ro, ho_v, ho_s, ho_l, fr_v, fr_l, fr_s, frzV_val, frzV_own, oo_some, te_bl, te_int, te_non, te_lst, te_tup, ps_nil, ps_cons, pk_v, pk_s, consO_some, ad_nil, ad_cons, ad_v, ad_s, argS_val, argS_own, locV_val, locV_own, globV_some, negV_int, intO_int, slotV_some, x_nil, nextM_nx, nextM_ret, nextM_brk, nextM_ct, x_cons, x_asg, x_cell, x_par, g_v, g_n, g_s, g_tp, gd_nm, gd_2, gd_3, parM_two, x_expr, x_ret, r_v, r_n, r_s, retV_own, retV_val, x_retN, x_ite, x_raise, x_try, x_pass, x_brk, x_cont, x_setI, putI_int, x_augI, nn_v, nn_s, x_app, appM_lst, iteM_t, iteM_f, iteM_at, op_addI, op_subI, cm_lt, cm_le, cm_gt, cm_ge, cm_is, cm_isn, cm_eqI, cm_neI, ix_l, ix_t, ix_r, List.getElem?_cons_succ, List.getElem?_cons_zero, List.set_cons_succ, List.set_cons_zero, List.length_cons, List.length_nil, Nat.reduceAdd, Nat.reduceLT, Nat.reduceLeDiff, p_nl, g_t2, gt2, eqS, neS, inL3, inS2, inT3, ofS, String.reduceEq, Int.reduceEq, at0, at1, at2, at3, bt0, bt1, bt2, ct0, ct1, dt0, dr_l, bl_int, z0, z1, z2, z3, z4, decide_true, decide_false, Bool.or_false, Bool.false_or, Bool.or_true, Bool.true_or, Bool.not_true, Bool.not_false, Bool.false_eq_true, if_true, if_false, List.isEmpty_nil, List.isEmpty_cons, negV_int, Int.reduceNeg, w_ok, g_4, ga4, g_s, gl_shut, gl_asks, gl_waits, gl_open, gl_nobody, gl_there, gl_back, bl_list, bl_lenT, ce_s, ceS_own, ceS_val, pe2, pe3, pf2, pf3, d23, d33, oc_ret, oc_exc, ob_exc, rz, List.length_append, app2, Ans, nx, false_and, and_false, true_and, and_true, false_or, or_false, true_or, or_true, not_true_eq_false, not_false_eq_true, ne_eq, op_modI hl, cbd, cm_neI, cm_eqI, d11, lift_ok, lift_exc, List.isEmpty_nil, List.isEmpty_cons, Bool.true_and, Bool.false_and, hc]; rfl)
  | cons x ys' =>
    rw [← hx]
    have hne : ys ≠ [] := by rw [hx]; exact List.cons_ne_nil _ _
    have hi : ys.isEmpty = false := by rw [hx]; rfl
    have hcall : ∀ ρ, callM (tx.gam (k + 2)) "arrived_back" [.v (.int kind), .v (Sx.at ⟨a, m, o, b, t, w, xs, ys⟩ (.lst xs) (.lst ys)), .v (.bl false)] ⟨ρ, C⟩ = lift (Ans C (arrB kind ⟨a, m, o, b, t, w, xs, ys⟩ [])) ρ := fun ρ => callM_lift (impure_of _ _ (by decide +kernel)) (frzs_v (frzs_v (frzs_v frzs_nil))) (at_back hl hk ok false hne)
    clear ok em et ex ey eo hne hx
    simp only [Sx.at, tri] at hcall
    cases hz : arrB kind ⟨a, m, o, b, t, w, xs, ys⟩ [] <;> simp only [hz] at hcall <;> simp only [d_call_step, Sx.at, tri, LT, LB, bind_at, out_ok, pure_at, a_loc, a_k, a_glob, a_bin, a_neg, a_cmp, cq_some, a_cell, ce_v, ce_o, a_chain, a_and, a_or, a_not, a_ife, a_lst, a_tup, a_idx, a_slc, a_call, a_blt, a_nil, a_cons, h_nil, h_cons, o_no, o_some, t_nil, t_cons, tv_at, i_seq, i_rng1, i_rng2, i_enum, p_v, p_s, peekS_val, peekS_own, d_int, d_bl, d_str, d_non, d_lst, d_tup, d_ro, ho_v, ho_s, ho_l, fr_v, fr_l, fr_s, frzV_val, frzV_own, oo_some, te_bl, te_int, te_non, te_lst, te_tup, ps_nil, ps_cons, pk_v, pk_s, consO_some, ad_nil, ad_cons, ad_v, ad_s, argS_val, argS_own, locV_val, locV_own, globV_some, negV_int, intO_int, slotV_some, x_nil, nextM_nx, nextM_ret, nextM_brk, nextM_ct, x_cons, x_asg, x_cell, x_par, g_v, g_n, g_s, g_tp, gd_nm, gd_2, gd_3, parM_two, x_expr, x_ret, r_v, r_n, r_s, retV_own, retV_val, x_retN, x_ite, x_raise, x_try, x_pass, x_brk, x_cont, x_setI, putI_int, x_augI, nn_v, nn_s, x_app, appM_lst, iteM_t, iteM_f, iteM_at, op_addI, op_subI, cm_lt, cm_le, cm_gt, cm_ge, cm_is, cm_isn, cm_eqI, cm_neI, ix_l, ix_t, ix_r, List.getElem?_cons_succ, List.getElem?_cons_zero, List.set_cons_succ, List.set_cons_zero, List.length_cons, List.length_nil, Nat.reduceAdd, Nat.reduceLT, Nat.reduceLeDiff, p_nl, g_t2, gt2, eqS, neS, inL3, inS2, inT3, ofS, String.reduceEq, Int.reduceEq, at0, at1, at2, at3, bt0, bt1, bt2, ct0, ct1, dt0, dr_l, bl_int, z0, z1, z2, z3, z4, decide_true, decide_false, Bool.or_false, Bool.false_or, Bool.or_true, Bool.true_or, Bool.not_true, Bool.not_false, Bool.false_eq_true, if_true, if_false, List.isEmpty_nil, List.isEmpty_cons, negV_int, Int.reduceNeg, w_ok, g_4, ga4, g_s, gl_shut, gl_asks, gl_waits, gl_open, gl_nobody, gl_there, gl_back, bl_list, bl_lenT, ce_s, ceS_own, ceS_val, pe2, pe3, pf2, pf3, d23, d33, oc_ret, oc_exc, ob_exc, rz, List.length_append, app2, Ans, nx, false_and, and_false, true_and, and_true, false_or, or_false, true_or, or_true, not_true_eq_false, not_false_eq_true, ne_eq, op_modI hl, cbd, cm_neI, cm_eqI, d11, lift_ok, lift_exc, List.isEmpty_nil, List.isEmpty_cons, Bool.true_and, Bool.false_and, hc, hcall, hz, hi]
theorem cs_backa (hl : 0 < lives) (hk : kind = 2 ∨ kind = 3) (ok : Sx.Ok ⟨a, m, o, b, t, w, xs, ys⟩) :
    (tx.gam (k + 3)).call "call_step" [.int kind, .int lives, Sx.at ⟨a, m, o, b, t, w, xs, ys⟩ (.lst xs) (.lst ys), .tup [.str "back again"]] C = Ans C (nx kind lives ⟨a, m, o, b, t, w, xs, ys⟩ "back again") := by
  rw [c_call_step, run_to d_call_step _ [.val (.int kind), .val (.int lives), .val (Sx.at ⟨a, m, o, b, t, w, xs, ys⟩ (.lst xs) (.lst ys)), .val (.tup [.str "back again"]), .no, .no, .no, .no, .no, .no] rfl (by decide) rfl]
  have hc : ∀ ρ, callM (tx.gam (k + 2)) "can_be_done" [.v (Sx.at ⟨a, m, o, b, t, w, xs, ys⟩ (.lst xs) (.lst ys)), .v (.str "back again")] ⟨ρ, C⟩ = .ok (.v (.bl (cbd m t xs ys "back again"))) ⟨ρ, C⟩ := fun ρ =>
    callM_pu (pure_of _ _ (by decide +kernel)) (ds := [Sx.at ⟨a, m, o, b, t, w, xs, ys⟩ (.lst xs) (.lst ys), .str "back again"]) (by simp only [ad_cons, ad_v, ad_nil, consO_some]) (s_cbd (k + 1) ok.xs ok.ys _ (by simp only [words, List.mem_cons, List.not_mem_nil, or_false, ofS, String.reduceEq, or_true, true_or])) rfl
  simp only [Sx.at, tri] at hc
  have em : m = "shut" ∨ m = "asks" ∨ m = "open" := ok.m
  have et : t = "shut" ∨ t = "waits" ∨ t = "open" := ok.t
  have ex : There xs := ok.xs
  have ey : Back ys := ok.ys
  have eo : m = "asks" → o = -1 := ok.o
  cases hx : ys with
  | nil => subst hx; ((try simp only [LT, LB] at hc); simp only [d_call_step, Sx.at, tri, LT, LB, bind_at, out_ok, pure_at, a_loc, a_k, a_glob, a_bin, a_neg, a_cmp, cq_some, a_cell, ce_v, ce_o, a_chain, a_and, a_or, a_not, a_ife, a_lst, a_tup, a_idx, a_slc, a_call, a_blt, a_nil, a_cons, h_nil, h_cons, o_no, o_some, t_nil, t_cons, tv_at, i_seq, i_rng1, i_rng2, i_enum, p_v, p_s, peekS_val, peekS_own, d_int, d_bl, d_str, d_non, d_lst, d_tup, d_ro, ho_v, ho_s, ho_l, fr_v, fr_l, fr_s, frzV_val, frzV_own, oo_some, te_bl, te_int, te_non, te_lst, te_tup, ps_nil, ps_cons, pk_v, pk_s, consO_some, ad_nil, ad_cons, ad_v, ad_s, argS_val, argS_own, locV_val, locV_own, globV_some, negV_int, intO_int, slotV_some, x_nil, nextM_nx, nextM_ret, nextM_brk, nextM_ct, x_cons, x_asg, x_cell, x_par, g_v, g_n, g_s, g_tp, gd_nm, gd_2, gd_3, parM_two, x_expr, x_ret, r_v, r_n, r_s, retV_own, retV_val, x_retN, x_ite, x_raise, x_try, x_pass, x_brk, x_cont, x_setI, putI_int, x_augI, nn_v, nn_s, x_app, appM_lst, iteM_t, iteM_f, iteM_at, op_addI, op_subI, cm_lt, cm_le, cm_gt, cm_ge, cm_is, cm_isn, cm_eqI, cm_neI, ix_l, ix_t, ix_r, List.getElem?_cons_succ, List.getElem?_cons_zero, List.set_cons_succ, List.set_cons_zero, List.length_cons, List.length_nil, Nat.reduceAdd, Nat.reduceLT, Nat.reduceLeDiff, p_nl, g_t2, gt2, eqS, neS, inL3, inS2, inT3, ofS, String.reduceEq, Int.reduceEq, at0, at1, at2, at3, bt0, bt1, bt2, ct0, ct1, dt0, dr_l, bl_int, z0, z1, z2, z3, z4, decide_true, decide_false, Bool.or_false, Bool.false_or, Bool.or_true, Bool.true_or, Bool.not_true, Bool.not_false, Bool.false_eq_true, if_true, if_false, List.isEmpty_nil, List.isEmpty_cons, negV_int, Int.reduceNeg, w_ok, g_4, ga4, g_s, gl_shut, gl_asks, gl_waits, gl_open, gl_nobody, gl_there, gl_back, bl_list, bl_lenT, ce_s, ceS_own, ceS_val, pe2, pe3, pf2, pf3, d23, d33, oc_ret, oc_exc, ob_exc, rz, List.length_append, app2, Ans, nx, false_and, and_false, true_and, and_true, false_or, or_false, true_or, or_true, not_true_eq_false, not_false_eq_true, ne_eq, op_modI hl, cbd, cm_neI, cm_eqI, d11, lift_ok, lift_exc, List.isEmpty_nil, List.isEmpty_cons, Bool.true_and, Bool.false_and, hc]; rfl)
  | cons x ys' =>
    rw [← hx]
    have hne : ys ≠ [] := by rw [hx]; exact List.cons_ne_nil _ _
    have hi : ys.isEmpty = false := by rw [hx]; rfl
    have hcall : ∀ ρ, callM (tx.gam (k + 2)) "arrived_back" [.v (.int kind), .v (Sx.at ⟨a, m, o, b, t, w, xs, ys⟩ (.lst xs) (.lst ys)), .v (.bl true)] ⟨ρ, C⟩ = lift (Ans C (arrB kind ⟨a, m, o, b, t, w, xs, ys⟩ ys)) ρ := fun ρ => callM_lift (impure_of _ _ (by decide +kernel)) (frzs_v (frzs_v (frzs_v frzs_nil))) (at_back hl hk ok true hne)
    clear ok em et ex ey eo hne hx
    simp only [Sx.at, tri] at hcall
    cases hz : arrB kind ⟨a, m, o, b, t, w, xs, ys⟩ ys <;> simp only [hz] at hcall <;> simp only [d_call_step, Sx.at, tri, LT, LB, bind_at, out_ok, pure_at, a_loc, a_k, a_glob, a_bin, a_neg, a_cmp, cq_some, a_cell, ce_v, ce_o, a_chain, a_and, a_or, a_not, a_ife, a_lst, a_tup, a_idx, a_slc, a_call, a_blt, a_nil, a_cons, h_nil, h_cons, o_no, o_some, t_nil, t_cons, tv_at, i_seq, i_rng1, i_rng2, i_enum, p_v, p_s, peekS_val, peekS_own, d_int, d_bl, d_str, d_non, d_lst, d_tup, d_ro, ho_v, ho_s, ho_l, fr_v, fr_l, fr_s, frzV_val, frzV_own, oo_some, te_bl, te_int, te_non, te_lst, te_tup, ps_nil, ps_cons, pk_v, pk_s, consO_some, ad_nil, ad_cons, ad_v, ad_s, argS_val, argS_own, locV_val, locV_own, globV_some, negV_int, intO_int, slotV_some, x_nil, nextM_nx, nextM_ret, nextM_brk, nextM_ct, x_cons, x_asg, x_cell, x_par, g_v, g_n, g_s, g_tp, gd_nm, gd_2, gd_3, parM_two, x_expr, x_ret, r_v, r_n, r_s, retV_own, retV_val, x_retN, x_ite, x_raise, x_try, x_pass, x_brk, x_cont, x_setI, putI_int, x_augI, nn_v, nn_s, x_app, appM_lst, iteM_t, iteM_f, iteM_at, op_addI, op_subI, cm_lt, cm_le, cm_gt, cm_ge, cm_is, cm_isn, cm_eqI, cm_neI, ix_l, ix_t, ix_r, List.getElem?_cons_succ, List.getElem?_cons_zero, List.set_cons_succ, List.set_cons_zero, List.length_cons, List.length_nil, Nat.reduceAdd, Nat.reduceLT, Nat.reduceLeDiff, p_nl, g_t2, gt2, eqS, neS, inL3, inS2, inT3, ofS, String.reduceEq, Int.reduceEq, at0, at1, at2, at3, bt0, bt1, bt2, ct0, ct1, dt0, dr_l, bl_int, z0, z1, z2, z3, z4, decide_true, decide_false, Bool.or_false, Bool.false_or, Bool.or_true, Bool.true_or, Bool.not_true, Bool.not_false, Bool.false_eq_true, if_true, if_false, List.isEmpty_nil, List.isEmpty_cons, negV_int, Int.reduceNeg, w_ok, g_4, ga4, g_s, gl_shut, gl_asks, gl_waits, gl_open, gl_nobody, gl_there, gl_back, bl_list, bl_lenT, ce_s, ceS_own, ceS_val, pe2, pe3, pf2, pf3, d23, d33, oc_ret, oc_exc, ob_exc, rz, List.length_append, app2, Ans, nx, false_and, and_false, true_and, and_true, false_or, or_false, true_or, or_true, not_true_eq_false, not_false_eq_true, ne_eq, op_modI hl, cbd, cm_neI, cm_eqI, d11, lift_ok, lift_exc, List.isEmpty_nil, List.isEmpty_cons, Bool.true_and, Bool.false_and, hc, hcall, hz, hi]
theorem cs_two (ok : Sx.Ok ⟨a, m, o, b, t, w, xs, ys⟩) :
    (tx.gam (k + 3)).call "call_step" [.int kind, .int lives, Sx.at ⟨a, m, o, b, t, w, xs, ys⟩ (.lst xs) (.lst ys), .tup [.str "ask", .int 1]] C = .exc ⟨"NoDeed", []⟩ C := by
  rw [c_call_step, run_to d_call_step _ [.val (.int kind), .val (.int lives), .val (Sx.at ⟨a, m, o, b, t, w, xs, ys⟩ (.lst xs) (.lst ys)), .val (.tup [.str "ask", .int 1]), .no, .no, .no, .no, .no, .no] rfl (by decide) rfl]
  have hn : bltM .len [.v (.tup [.str "ask", .int 1])] = fun s => .ok (.v (.int 2)) s := funext fun s => bltM_ok rfl rfl
  have h21 : decide ((2 : Int) = 1) = false := rfl
  have hcc : ∀ ρ, callM (tx.gam (k + 2)) "can_be_done" [.v (Sx.at ⟨a, m, o, b, t, w, xs, ys⟩ (.lst xs) (.lst ys)), .v (.str "ask")] ⟨ρ, C⟩ = .ok (.v (.bl (cbd m t xs ys "ask"))) ⟨ρ, C⟩ := fun ρ =>
    callM_pu (pure_of _ _ (by decide +kernel)) (ds := [Sx.at ⟨a, m, o, b, t, w, xs, ys⟩ (.lst xs) (.lst ys), .str "ask"]) (by simp only [ad_cons, ad_v, ad_nil, consO_some]) (s_cbd (k + 1) ok.xs ok.ys _ (by simp only [words, List.mem_cons, List.not_mem_nil, or_false, ofS, String.reduceEq, or_true, true_or])) rfl
  simp only [d_call_step, bind_at, out_ok, pure_at, a_loc, a_k, a_glob, a_bin, a_neg, a_cmp, cq_some, a_cell, ce_v, ce_o, a_chain, a_and, a_or, a_not, a_ife, a_lst, a_tup, a_idx, a_slc, a_call, a_blt, a_nil, a_cons, h_nil, h_cons, o_no, o_some, t_nil, t_cons, tv_at, i_seq, i_rng1, i_rng2, i_enum, p_v, p_s, peekS_val, peekS_own, d_int, d_bl, d_str, d_non, d_lst, d_tup, d_ro, ho_v, ho_s, ho_l, fr_v, fr_l, fr_s, frzV_val, frzV_own, oo_some, te_bl, te_int, te_non, te_lst, te_tup, ps_nil, ps_cons, pk_v, pk_s, consO_some, ad_nil, ad_cons, ad_v, ad_s, argS_val, argS_own, locV_val, locV_own, globV_some, negV_int, intO_int, slotV_some, x_nil, nextM_nx, nextM_ret, nextM_brk, nextM_ct, x_cons, x_asg, x_cell, x_par, g_v, g_n, g_s, g_tp, gd_nm, gd_2, gd_3, parM_two, x_expr, x_ret, r_v, r_n, r_s, retV_own, retV_val, x_retN, x_ite, x_raise, x_try, x_pass, x_brk, x_cont, x_setI, putI_int, x_augI, nn_v, nn_s, x_app, appM_lst, iteM_t, iteM_f, iteM_at, op_addI, op_subI, cm_lt, cm_le, cm_gt, cm_ge, cm_is, cm_isn, cm_eqI, cm_neI, ix_l, ix_t, ix_r, List.getElem?_cons_succ, List.getElem?_cons_zero, List.set_cons_succ, List.set_cons_zero, List.length_cons, List.length_nil, Nat.reduceAdd, Nat.reduceLT, Nat.reduceLeDiff, p_nl, g_t2, gt2, eqS, neS, inL3, inS2, inT3, ofS, String.reduceEq, Int.reduceEq, at0, at1, at2, at3, bt0, bt1, bt2, ct0, ct1, dt0, dr_l, bl_int, z0, z1, z2, z3, z4, decide_true, decide_false, Bool.or_false, Bool.false_or, Bool.or_true, Bool.true_or, Bool.not_true, Bool.not_false, Bool.false_eq_true, if_true, if_false, List.isEmpty_nil, List.isEmpty_cons, negV_int, Int.reduceNeg, w_ok, g_4, ga4, g_s, gl_shut, gl_asks, gl_waits, gl_open, gl_nobody, gl_there, gl_back, bl_list, ce_s, ceS_own, ceS_val, pe2, pe3, pf2, pf3, d23, d33, oc_ret, oc_exc, ob_exc, rz, List.length_append, app2, Ans, nx, false_and, and_false, true_and, and_true, false_or, or_false, true_or, or_true, not_true_eq_false, not_false_eq_true, ne_eq, cbd, cm_neI, cm_eqI, d11, lift_ok, lift_exc, List.isEmpty_nil, List.isEmpty_cons, Bool.true_and, Bool.false_and, hn, h21]
end
end Law

set_option Elab.async false
set_option linter.all false
set_option maxRecDepth 100000
set_option maxHeartbeats 4000000
namespace Law
open PySem L2 IR
/-! try -/
theorem try_ok {Γ : Gam} {m : M Fl} {c : Str} {as : Option Nat} {u : Su} {s s' : Sm} {f : Fl} (h : m s = .ok f s') : tryM Γ m c as u s = .ok f s' := by unfold tryM; rw [h]
theorem try_exc {Γ : Gam} {m : M Fl} {c : Str} {i : Nat} {u : Su} {s : Sm} {ρ : List Slot} {C : List (Option Ob)} {x : Exn} (h : m s = .exc x ⟨ρ, C⟩) (h2 : Γ.sub x.cl c = some true) (h3 : i < ρ.length) : tryM Γ m c (some i) u s = (exU Γ x u ⟨ρ.set i .no, C⟩).bind fun f => fun s => .ok f ⟨s.ρ.set i .no, s.C⟩ := by
  unfold tryM
  rw [h]
  dsimp only
  rw [h2]
  dsimp only
  rw [if_pos (show okAs (some i) ρ = true from decide_eq_true h3)]
  rfl
theorem xl {i : Nat} {ρ : List Slot} {C : List (Option Ob)} : locM i ⟨ρ, C⟩ = locV i ⟨ρ, C⟩ ρ[i]? := a_loc (Γ := tx.gam 0)
theorem sub_of (k : Nat) (x y : Str) : (tx.gam k).sub x y = tx.sub x y := by cases k <;> rfl
/-! the same state -/
def stD (a : Int) (m : Str) (o b : Int) (t : Str) (w : Int) (xs ys : List D) : D := Sx.at ⟨a, m, o, b, t, w, xs, ys⟩ (.lst xs) (.lst ys)
theorem eqv_at {a o b w : Int} {m t : Str} {xs ys : List D} (hx : There xs) (hy : Back ys) : eqD (stD a m o b t w xs ys) (stD a m o b t w xs ys) = some true := by
  obtain ⟨p, h1, h2, h3⟩ : ∃ p, (stD a m o b t w xs ys).toPy = some p ∧ p.plain = true ∧ decide (min p.depth p.depth ≤ 60) = true := by
    rcases hx with _ | i | i <;> rcases hy with _ | ⟨i, j⟩ <;> exact ⟨_, rfl, rfl, rfl⟩
  unfold eqD
  simp only [h1]
  rw [if_pos (of_decide_eq_true h3), SeqAt.eqv_refl_plain p h2]
theorem deref_cases {C : List (Option Ob)} {x : D} {xs : List D} (h : deref C x = .lst xs) : x = .lst xs ∨ ∃ c, x = .ref c ∧ C[c]? = some (some (.lst xs)) := by
  cases x with
  | ref c =>
    refine .inr ⟨c, rfl, ?_⟩
    have h : derefO c C[c]? = .lst xs := h
    cases e : C[c]? with
    | none => rw [e] at h; cases h
    | some o =>
      rw [e] at h
      cases o with
      | none => cases h
      | some o =>
        cases o with
        | lst ys => cases h; rfl
        | _ => cases h
  | lst ys => cases h; exact .inl rfl
  | _ => cases h
theorem deref_app {C : List (Option Ob)} {x : D} {xs : List D} (h : deref C x = .lst xs) (E : List (Option Ob)) : deref (C ++ E) x = .lst xs := by
  rcases deref_cases h with rfl | ⟨c, rfl, hc⟩
  · rfl
  · exact dr_ref (by rw [List.getElem?_append_left (List.getElem?_eq_some_iff.mp hc).1]; exact hc)
theorem res_l {C : List (Option Ob)} {x : D} {xs : List D} (h : deref C x = .lst xs) (hx : xs.map (D.res C 4) = xs) : D.res C 5 x = .lst xs := by
  rcases deref_cases h with rfl | ⟨c, rfl, hc⟩
  · show D.lst (xs.map (D.res C 4)) = _
    rw [hx]
  · show (match C[c]? with | some (some (.lst xs)) => D.lst (xs.map (D.res C 4)) | _ => .ref c) = _
    rw [hc]
    show D.lst (xs.map (D.res C 4)) = _
    rw [hx]
theorem ne_st {C : List (Option Ob)} {a o b w : Int} {m t : Str} {xs ys : List D} {x y : D} (hx : There xs) (hy : Back ys) (dx : deref C x = .lst xs) (dy : deref C y = .lst ys) (ρ : List Slot) :
    cmpV .ne (stD a m o b t w xs ys) (Sx.at ⟨a, m, o, b, t, w, xs, ys⟩ x y) (opCmp .ne (stD a m o b t w xs ys) (Sx.at ⟨a, m, o, b, t, w, xs, ys⟩ x y)) ⟨ρ, C⟩ = .ok false ⟨ρ, C⟩ := by
  have mx : xs.map (D.res C 4) = xs := by rcases hx with _ | i | i <;> rfl
  have my : ys.map (D.res C 4) = ys := by rcases hy with _ | ⟨i, j⟩ <;> rfl
  have r1 : D.res C 6 (Sx.at ⟨a, m, o, b, t, w, xs, ys⟩ x y) = stD a m o b t w xs ys := by
    show D.tup [tri a m o, tri b t w, D.res C 5 x, D.res C 5 y] = _
    rw [res_l dx mx, res_l dy my]
    rfl
  have r2 : D.res C 6 (stD a m o b t w xs ys) = stD a m o b t w xs ys := by
    show D.tup [tri a m o, tri b t w, D.res C 5 (.lst xs), D.res C 5 (.lst ys)] = _
    rw [res_l (x := .lst xs) rfl mx, res_l (x := .lst ys) rfl my]
    rfl
  have far : cmpV .ne (stD a m o b t w xs ys) (Sx.at ⟨a, m, o, b, t, w, xs, ys⟩ x y) none ⟨ρ, C⟩ = .ok false ⟨ρ, C⟩ := by
    show (match (eqD (D.res C 6 (stD a m o b t w xs ys)) (D.res C 6 (Sx.at ⟨a, m, o, b, t, w, xs, ys⟩ x y))).map not with | some k => Out.ok k ⟨ρ, C⟩ | none => .bad) = _
    rw [r1, r2, eqv_at hx hy]
    rfl
  have q0 : ∀ {e : D}, e.toPy = none → opCmp .ne (stD a m o b t w xs ys) e = none := fun {e} h => by
    show (eqD _ e).map not = none
    unfold eqD
    rw [h]
    cases (stD a m o b t w xs ys).toPy <;> rfl
  have qt : ∀ c, D.toPy (.ref c) = none := fun c => rfl
  rcases deref_cases dx with rfl | ⟨c, rfl, hc⟩
  · rcases deref_cases dy with rfl | ⟨d, rfl, hd⟩
    · have : opCmp .ne (stD a m o b t w xs ys) (Sx.at ⟨a, m, o, b, t, w, xs, ys⟩ (.lst xs) (.lst ys)) = some false := by
        show (eqD (stD a m o b t w xs ys) (stD a m o b t w xs ys)).map not = _
        rw [eqv_at hx hy]
        rfl
      rw [this, cq_some]
    · rw [q0 (by
        show (D.toPys [tri a m o, tri b t w, .lst xs, .ref d]).map PyData.tuple = none
        simp only [D.toPys, qt]
        cases (tri a m o).toPy <;> cases (tri b t w).toPy <;> cases (D.lst xs).toPy <;> rfl)]
      exact far
  · rw [q0 (by
        show (D.toPys [tri a m o, tri b t w, .ref c, y]).map PyData.tuple = none
        simp only [D.toPys, qt]
        cases (tri a m o).toPy <;> cases (tri b t w).toPy <;> cases y.toPy <;> rfl)]
    exact far
/-- what the asked step comes to -/
def AnsV (C : List (Option Ob)) : Option Sx → Oc
  | some s => .ok (.v (s.at (.ref C.length) (.ref (C.length + 1)))) (C ++ [some (.lst s.xs), some (.lst s.ys)])
  | none => .ok (.v .non) C
theorem s_asked {k : Nat} {kind lives a o b w : Int} {m t : Str} {xs ys : List D} {C : List (Option Ob)} {x y d : D} {z : Option Sx} (ok : Sx.Ok ⟨a, m, o, b, t, w, xs, ys⟩) (dx : deref C x = .lst xs) (dy : deref C y = .lst ys)
    (h : (tx.gam (k + 3)).call "call_step" [.int kind, .int lives, Sx.at ⟨a, m, o, b, t, w, xs, ys⟩ (.lst xs) (.lst ys), d] C = Ans C z) (hd : deref C d = d) :
    (tx.gam (k + 4)).call "_law_asked" [.int kind, .int lives, Sx.at ⟨a, m, o, b, t, w, xs, ys⟩ x y, d] C = AnsV C z := by
  rw [c_law_asked, run_to d__law_asked _ [.val (.int kind), .val (.int lives), .val (Sx.at ⟨a, m, o, b, t, w, xs, ys⟩ x y), .val d, .no, .no, .no] rfl (by decide) rfl]
  have lx : ∀ ρ, bltM .list [.v x] ⟨ρ, C⟩ = .ok (.n (.lst xs)) ⟨ρ, C⟩ := fun ρ => bl_listR dx
  have ly : ∀ ρ, bltM .list [.v y] ⟨ρ, C⟩ = .ok (.n (.lst ys)) ⟨ρ, C⟩ := fun ρ => bl_listR dy
  have hcall : ∀ ρ, callM (tx.gam (k + 3)) "call_step" [.v (.int kind), .v (.int lives), .v (Sx.at ⟨a, m, o, b, t, w, xs, ys⟩ (.lst xs) (.lst ys)), .v d] ⟨ρ, C⟩ = lift (Ans C z) ρ := fun ρ =>
    callM_lift (impure_of _ _ (by decide +kernel)) (frzs_v (frzs_v (frzs_v (frzs_v frzs_nil)))) h
  have e1 : tx.sub "NoDeed" "NoDeed" = some true := by rfl
  have e2 : tx.sub "NoDeed" "SendError" = some true := by rfl
  have e3 : tx.sub "NoDeed" "NoUse" = some false := by rfl
  cases z with
  | none =>
    have hne : ∀ ρ, cmpV .ne (Sx.at ⟨a, m, o, b, t, w, xs, ys⟩ (.lst xs) (.lst ys)) (Sx.at ⟨a, m, o, b, t, w, xs, ys⟩ x y) (opCmp .ne (Sx.at ⟨a, m, o, b, t, w, xs, ys⟩ (.lst xs) (.lst ys)) (Sx.at ⟨a, m, o, b, t, w, xs, ys⟩ x y)) ⟨ρ, C⟩ = .ok false ⟨ρ, C⟩ := fun ρ => ne_st ok.xs ok.ys dx dy ρ
    have hb : exs (tx.gam (k + 3)) b__law_asked_1 ⟨[.val (.int kind), .val (.int lives), .val (Sx.at ⟨a, m, o, b, t, w, xs, ys⟩ x y), .val d, .val (Sx.at ⟨a, m, o, b, t, w, xs, ys⟩ (.lst xs) (.lst ys)), .no, .no], C⟩ = .exc ⟨"NoDeed", []⟩ ⟨[.val (.int kind), .val (.int lives), .val (Sx.at ⟨a, m, o, b, t, w, xs, ys⟩ x y), .val d, .val (Sx.at ⟨a, m, o, b, t, w, xs, ys⟩ (.lst xs) (.lst ys)), .no, .no], C⟩ := by
      simp only [b__law_asked_1, bind_at, out_ok, pure_at, a_loc, a_k, a_glob, a_bin, a_neg, a_cmp, cq_some, a_cell, ce_v, ce_o, a_chain, a_and, a_or, a_not, a_ife, a_lst, a_tup, a_idx, a_slc, a_call, a_blt, a_nil, a_cons, h_nil, h_cons, o_no, o_some, t_nil, t_cons, tv_at, i_seq, i_rng1, i_rng2, i_enum, p_v, p_s, peekS_val, peekS_own, d_int, d_bl, d_str, d_non, d_lst, d_tup, d_ro, ho_v, ho_s, ho_l, fr_v, fr_l, fr_s, frzV_val, frzV_own, oo_some, te_bl, te_int, te_non, te_lst, te_tup, ps_nil, ps_cons, pk_v, pk_s, consO_some, ad_nil, ad_cons, ad_v, ad_s, argS_val, argS_own, locV_val, locV_own, globV_some, negV_int, intO_int, slotV_some, x_nil, nextM_nx, nextM_ret, nextM_brk, nextM_ct, x_cons, x_asg, x_cell, x_par, g_v, g_n, g_s, g_tp, gd_nm, gd_2, gd_3, parM_two, x_expr, x_ret, r_v, r_n, r_s, retV_own, retV_val, x_retN, x_ite, x_raise, x_try, x_pass, x_brk, x_cont, x_setI, putI_int, x_augI, nn_v, nn_s, x_app, appM_lst, iteM_t, iteM_f, iteM_at, op_addI, op_subI, cm_lt, cm_le, cm_gt, cm_ge, cm_is, cm_isn, cm_eqI, cm_neI, ix_l, ix_t, ix_r, List.getElem?_cons_succ, List.getElem?_cons_zero, List.set_cons_succ, List.set_cons_zero, List.length_cons, List.length_nil, Nat.reduceAdd, Nat.reduceLT, Nat.reduceLeDiff, p_nl, g_t2, gt2, eqS, neS, inL3, inS2, inT3, ofS, String.reduceEq, Int.reduceEq, at0, at1, at2, at3, bt0, bt1, bt2, ct0, ct1, dt0, dr_l, bl_int, z0, z1, z2, z3, z4, decide_true, decide_false, Bool.or_false, Bool.false_or, Bool.or_true, Bool.true_or, Bool.not_true, Bool.not_false, Bool.false_eq_true, if_true, if_false, List.isEmpty_nil, List.isEmpty_cons, negV_int, Int.reduceNeg, w_ok, hcall, lift_exc, Ans, ob_exc]
    have htry := try_exc (Γ := tx.gam (k + 3)) (i := 6) (c := "NoDeed") (u := .ite (.or (.not (.isx "SendError")) (.or (.isx "NoUse") (.cmp .ne (.loc 4) (.loc 2)))) (.tup (.cons (.k (.str "error")) (.cons (.k (.int 0)) .nil))) (.ret (.k .non))) hb ((sub_of (k + 3) _ _).trans e1) (Nat.le_refl 7)
    have hu : exU (tx.gam (k + 3)) ⟨"NoDeed", []⟩ (.ite (.or (.not (.isx "SendError")) (.or (.isx "NoUse") (.cmp .ne (.loc 4) (.loc 2)))) (.tup (.cons (.k (.str "error")) (.cons (.k (.int 0)) .nil))) (.ret (.k .non))) ⟨[.val (.int kind), .val (.int lives), .val (Sx.at ⟨a, m, o, b, t, w, xs, ys⟩ x y), .val d, .val (Sx.at ⟨a, m, o, b, t, w, xs, ys⟩ (.lst xs) (.lst ys)), .no, .no], C⟩ = .ok (.ret (.v .non)) ⟨[.val (.int kind), .val (.int lives), .val (Sx.at ⟨a, m, o, b, t, w, xs, ys⟩ x y), .val d, .val (Sx.at ⟨a, m, o, b, t, w, xs, ys⟩ (.lst xs) (.lst ys)), .no, .no], C⟩ := by
      simp only [Sx.at] at hne
      simp only [exU, evX, bind_at, out_ok, pure_at, a_loc, a_k, a_glob, a_bin, a_neg, a_cmp, cq_some, a_cell, ce_v, ce_o, a_chain, a_and, a_or, a_not, a_ife, a_lst, a_tup, a_idx, a_slc, a_call, a_blt, a_nil, a_cons, h_nil, h_cons, o_no, o_some, t_nil, t_cons, tv_at, i_seq, i_rng1, i_rng2, i_enum, p_v, p_s, peekS_val, peekS_own, d_int, d_bl, d_str, d_non, d_lst, d_tup, d_ro, ho_v, ho_s, ho_l, fr_v, fr_l, fr_s, frzV_val, frzV_own, oo_some, te_bl, te_int, te_non, te_lst, te_tup, ps_nil, ps_cons, pk_v, pk_s, consO_some, ad_nil, ad_cons, ad_v, ad_s, argS_val, argS_own, locV_val, locV_own, globV_some, negV_int, intO_int, slotV_some, x_nil, nextM_nx, nextM_ret, nextM_brk, nextM_ct, x_cons, x_asg, x_cell, x_par, g_v, g_n, g_s, g_tp, gd_nm, gd_2, gd_3, parM_two, x_expr, x_ret, r_v, r_n, r_s, retV_own, retV_val, x_retN, x_ite, x_raise, x_try, x_pass, x_brk, x_cont, x_setI, putI_int, x_augI, nn_v, nn_s, x_app, appM_lst, iteM_t, iteM_f, iteM_at, op_addI, op_subI, cm_lt, cm_le, cm_gt, cm_ge, cm_is, cm_isn, cm_eqI, cm_neI, ix_l, ix_t, ix_r, List.getElem?_cons_succ, List.getElem?_cons_zero, List.set_cons_succ, List.set_cons_zero, List.length_cons, List.length_nil, Nat.reduceAdd, Nat.reduceLT, Nat.reduceLeDiff, p_nl, g_t2, gt2, eqS, neS, inL3, inS2, inT3, ofS, String.reduceEq, Int.reduceEq, at0, at1, at2, at3, bt0, bt1, bt2, ct0, ct1, dt0, dr_l, bl_int, z0, z1, z2, z3, z4, decide_true, decide_false, Bool.or_false, Bool.false_or, Bool.or_true, Bool.true_or, Bool.not_true, Bool.not_false, Bool.false_eq_true, if_true, if_false, List.isEmpty_nil, List.isEmpty_cons, negV_int, Int.reduceNeg, w_ok, sub_of, e2, e3, Option.map_some, oo_some, xl, hne, Sx.at]
    rw [show List.set _ 6 _ = [.val (.int kind), .val (.int lives), .val (Sx.at ⟨a, m, o, b, t, w, xs, ys⟩ x y), .val d, .val (Sx.at ⟨a, m, o, b, t, w, xs, ys⟩ (.lst xs) (.lst ys)), .no, .no] from rfl, hu, out_ok] at htry
    simp only [Sx.at] at htry
    simp only [d__law_asked, bind_at, out_ok, pure_at, a_loc, a_k, a_glob, a_bin, a_neg, a_cmp, cq_some, a_cell, ce_v, ce_o, a_chain, a_and, a_or, a_not, a_ife, a_lst, a_tup, a_idx, a_slc, a_call, a_blt, a_nil, a_cons, h_nil, h_cons, o_no, o_some, t_nil, t_cons, tv_at, i_seq, i_rng1, i_rng2, i_enum, p_v, p_s, peekS_val, peekS_own, d_int, d_bl, d_str, d_non, d_lst, d_tup, d_ro, ho_v, ho_s, ho_l, fr_v, fr_l, fr_s, frzV_val, frzV_own, oo_some, te_bl, te_int, te_non, te_lst, te_tup, ps_nil, ps_cons, pk_v, pk_s, consO_some, ad_nil, ad_cons, ad_v, ad_s, argS_val, argS_own, locV_val, locV_own, globV_some, negV_int, intO_int, slotV_some, x_nil, nextM_nx, nextM_ret, nextM_brk, nextM_ct, x_cons, x_asg, x_cell, x_par, g_v, g_n, g_s, g_tp, gd_nm, gd_2, gd_3, parM_two, x_expr, x_ret, r_v, r_n, r_s, retV_own, retV_val, x_retN, x_ite, x_raise, x_try, x_pass, x_brk, x_cont, x_setI, putI_int, x_augI, nn_v, nn_s, x_app, appM_lst, iteM_t, iteM_f, iteM_at, op_addI, op_subI, cm_lt, cm_le, cm_gt, cm_ge, cm_is, cm_isn, cm_eqI, cm_neI, ix_l, ix_t, ix_r, List.getElem?_cons_succ, List.getElem?_cons_zero, List.set_cons_succ, List.set_cons_zero, List.length_cons, List.length_nil, Nat.reduceAdd, Nat.reduceLT, Nat.reduceLeDiff, p_nl, g_t2, gt2, eqS, neS, inL3, inS2, inT3, ofS, String.reduceEq, Int.reduceEq, at0, at1, at2, at3, bt0, bt1, bt2, ct0, ct1, dt0, dr_l, bl_int, z0, z1, z2, z3, z4, decide_true, decide_false, Bool.or_false, Bool.false_or, Bool.or_true, Bool.true_or, Bool.not_true, Bool.not_false, Bool.false_eq_true, if_true, if_false, List.isEmpty_nil, List.isEmpty_cons, negV_int, Int.reduceNeg, w_ok, Sx.at, lx, ly, htry, oc_ret, AnsV, List.set_cons_succ, List.set_cons_zero]
  | some s' =>
    have hne : ∀ ρ, cmpV .ne (Sx.at ⟨a, m, o, b, t, w, xs, ys⟩ (.lst xs) (.lst ys)) (Sx.at ⟨a, m, o, b, t, w, xs, ys⟩ x y) (opCmp .ne (Sx.at ⟨a, m, o, b, t, w, xs, ys⟩ (.lst xs) (.lst ys)) (Sx.at ⟨a, m, o, b, t, w, xs, ys⟩ x y)) ⟨ρ, C ++ [some (.lst s'.xs), some (.lst s'.ys)]⟩ = .ok false ⟨ρ, C ++ [some (.lst s'.xs), some (.lst s'.ys)]⟩ := fun ρ => ne_st ok.xs ok.ys (deref_app dx _) (deref_app dy _) ρ
    have hb : exs (tx.gam (k + 3)) b__law_asked_1 ⟨[.val (.int kind), .val (.int lives), .val (Sx.at ⟨a, m, o, b, t, w, xs, ys⟩ x y), .val d, .val (Sx.at ⟨a, m, o, b, t, w, xs, ys⟩ (.lst xs) (.lst ys)), .no, .no], C⟩ = .ok .nx ⟨[.val (.int kind), .val (.int lives), .val (Sx.at ⟨a, m, o, b, t, w, xs, ys⟩ x y), .val d, .val (Sx.at ⟨a, m, o, b, t, w, xs, ys⟩ (.lst xs) (.lst ys)), .val (s'.at (.ref C.length) (.ref (C.length + 1))), .no], C ++ [some (.lst s'.xs), some (.lst s'.ys)]⟩ := by
      simp only [b__law_asked_1, bind_at, out_ok, pure_at, a_loc, a_k, a_glob, a_bin, a_neg, a_cmp, cq_some, a_cell, ce_v, ce_o, a_chain, a_and, a_or, a_not, a_ife, a_lst, a_tup, a_idx, a_slc, a_call, a_blt, a_nil, a_cons, h_nil, h_cons, o_no, o_some, t_nil, t_cons, tv_at, i_seq, i_rng1, i_rng2, i_enum, p_v, p_s, peekS_val, peekS_own, d_int, d_bl, d_str, d_non, d_lst, d_tup, d_ro, ho_v, ho_s, ho_l, fr_v, fr_l, fr_s, frzV_val, frzV_own, oo_some, te_bl, te_int, te_non, te_lst, te_tup, ps_nil, ps_cons, pk_v, pk_s, consO_some, ad_nil, ad_cons, ad_v, ad_s, argS_val, argS_own, locV_val, locV_own, globV_some, negV_int, intO_int, slotV_some, x_nil, nextM_nx, nextM_ret, nextM_brk, nextM_ct, x_cons, x_asg, x_cell, x_par, g_v, g_n, g_s, g_tp, gd_nm, gd_2, gd_3, parM_two, x_expr, x_ret, r_v, r_n, r_s, retV_own, retV_val, x_retN, x_ite, x_raise, x_try, x_pass, x_brk, x_cont, x_setI, putI_int, x_augI, nn_v, nn_s, x_app, appM_lst, iteM_t, iteM_f, iteM_at, op_addI, op_subI, cm_lt, cm_le, cm_gt, cm_ge, cm_is, cm_isn, cm_eqI, cm_neI, ix_l, ix_t, ix_r, List.getElem?_cons_succ, List.getElem?_cons_zero, List.set_cons_succ, List.set_cons_zero, List.length_cons, List.length_nil, Nat.reduceAdd, Nat.reduceLT, Nat.reduceLeDiff, p_nl, g_t2, gt2, eqS, neS, inL3, inS2, inT3, ofS, String.reduceEq, Int.reduceEq, at0, at1, at2, at3, bt0, bt1, bt2, ct0, ct1, dt0, dr_l, bl_int, z0, z1, z2, z3, z4, decide_true, decide_false, Bool.or_false, Bool.false_or, Bool.or_true, Bool.true_or, Bool.not_true, Bool.not_false, Bool.false_eq_true, if_true, if_false, List.isEmpty_nil, List.isEmpty_cons, negV_int, Int.reduceNeg, w_ok, hcall, lift_ok, Ans]
    have htry := try_ok (Γ := tx.gam (k + 3)) (c := "NoDeed") (as := some 6) (u := .ite (.or (.not (.isx "SendError")) (.or (.isx "NoUse") (.cmp .ne (.loc 4) (.loc 2)))) (.tup (.cons (.k (.str "error")) (.cons (.k (.int 0)) .nil))) (.ret (.k .non))) hb
    simp only [Sx.at] at htry hne
    simp only [d__law_asked, r__law_asked_1, bind_at, out_ok, pure_at, a_loc, a_k, a_glob, a_bin, a_neg, a_cmp, cq_some, a_cell, ce_v, ce_o, a_chain, a_and, a_or, a_not, a_ife, a_lst, a_tup, a_idx, a_slc, a_call, a_blt, a_nil, a_cons, h_nil, h_cons, o_no, o_some, t_nil, t_cons, tv_at, i_seq, i_rng1, i_rng2, i_enum, p_v, p_s, peekS_val, peekS_own, d_int, d_bl, d_str, d_non, d_lst, d_tup, d_ro, ho_v, ho_s, ho_l, fr_v, fr_l, fr_s, frzV_val, frzV_own, oo_some, te_bl, te_int, te_non, te_lst, te_tup, ps_nil, ps_cons, pk_v, pk_s, consO_some, ad_nil, ad_cons, ad_v, ad_s, argS_val, argS_own, locV_val, locV_own, globV_some, negV_int, intO_int, slotV_some, x_nil, nextM_nx, nextM_ret, nextM_brk, nextM_ct, x_cons, x_asg, x_cell, x_par, g_v, g_n, g_s, g_tp, gd_nm, gd_2, gd_3, parM_two, x_expr, x_ret, r_v, r_n, r_s, retV_own, retV_val, x_retN, x_ite, x_raise, x_try, x_pass, x_brk, x_cont, x_setI, putI_int, x_augI, nn_v, nn_s, x_app, appM_lst, iteM_t, iteM_f, iteM_at, op_addI, op_subI, cm_lt, cm_le, cm_gt, cm_ge, cm_is, cm_isn, cm_eqI, cm_neI, ix_l, ix_t, ix_r, List.getElem?_cons_succ, List.getElem?_cons_zero, List.set_cons_succ, List.set_cons_zero, List.length_cons, List.length_nil, Nat.reduceAdd, Nat.reduceLT, Nat.reduceLeDiff, p_nl, g_t2, gt2, eqS, neS, inL3, inS2, inT3, ofS, String.reduceEq, Int.reduceEq, at0, at1, at2, at3, bt0, bt1, bt2, ct0, ct1, dt0, dr_l, bl_int, z0, z1, z2, z3, z4, decide_true, decide_false, Bool.or_false, Bool.false_or, Bool.or_true, Bool.true_or, Bool.not_true, Bool.not_false, Bool.false_eq_true, if_true, if_false, List.isEmpty_nil, List.isEmpty_cons, negV_int, Int.reduceNeg, w_ok, Sx.at, lx, ly, htry, hne, oc_ret, AnsV]
end Law

set_option Elab.async false
set_option linter.all false
set_option maxRecDepth 100000
set_option maxHeartbeats 4000000
namespace Law
open PySem L2 IR
def mx (s : Sx) : Bool := decide (s.m = "open") && (decide (s.t = "open") && (!decide (s.o = s.b) || !decide (s.w = s.a)))
theorem sl2 {p q x y : D} : opSlc (.tup [p, q, x, y]) none (some 2) = some (.v (.tup [p, q])) := rfl
theorem s_mixed (k : Nat) (s : Sx) (x y : D) : Pu (tx.gam (k + 1)) "is_mixed" [s.at x y] (.v (.bl (mx s))) := pu_of fun C => by
  rw [c_is_mixed]
  obtain ⟨a, m, o, b, t, w, xs, ys⟩ := s
  refine run_e d_is_mixed _ [.val (Sx.at ⟨a, m, o, b, t, w, xs, ys⟩ x y), .no, .no] rfl (by decide) rfl ?_
  simp only [d_is_mixed, bind_at, out_ok, pure_at, a_loc, a_k, a_glob, a_bin, a_neg, a_cmp, cq_some, a_cell, ce_v, ce_o, a_chain, a_and, a_or, a_not, a_ife, a_lst, a_tup, a_idx, a_slc, a_call, a_blt, a_nil, a_cons, h_nil, h_cons, o_no, o_some, t_nil, t_cons, tv_at, i_seq, i_rng1, i_rng2, i_enum, p_v, p_s, peekS_val, peekS_own, d_int, d_bl, d_str, d_non, d_lst, d_tup, d_ro, ho_v, ho_s, ho_l, fr_v, fr_l, fr_s, frzV_val, frzV_own, oo_some, te_bl, te_int, te_non, te_lst, te_tup, ps_nil, ps_cons, pk_v, pk_s, consO_some, ad_nil, ad_cons, ad_v, ad_s, argS_val, argS_own, locV_val, locV_own, globV_some, negV_int, intO_int, slotV_some, x_nil, nextM_nx, nextM_ret, nextM_brk, nextM_ct, x_cons, x_asg, x_cell, x_par, g_v, g_n, g_s, g_tp, gd_nm, gd_2, gd_3, parM_two, x_expr, x_ret, r_v, r_n, r_s, retV_own, retV_val, x_retN, x_ite, x_raise, x_try, x_pass, x_brk, x_cont, x_setI, putI_int, x_augI, nn_v, nn_s, x_app, appM_lst, iteM_t, iteM_f, iteM_at, op_addI, op_subI, cm_lt, cm_le, cm_gt, cm_ge, cm_is, cm_isn, cm_eqI, cm_neI, ix_l, ix_t, ix_r, List.getElem?_cons_succ, List.getElem?_cons_zero, List.set_cons_succ, List.set_cons_zero, List.length_cons, List.length_nil, Nat.reduceAdd, Nat.reduceLT, Nat.reduceLeDiff, p_nl, g_t2, gt2, eqS, neS, inL3, inS2, inT3, ofS, String.reduceEq, Int.reduceEq, at0, at1, at2, at3, bt0, bt1, bt2, ct0, ct1, dt0, dr_l, bl_int, z0, z1, z2, z3, z4, decide_true, decide_false, Bool.or_false, Bool.false_or, Bool.or_true, Bool.true_or, Bool.not_true, Bool.not_false, Bool.false_eq_true, if_true, if_false, List.isEmpty_nil, List.isEmpty_cons, negV_int, Int.reduceNeg, w_ok, Sx.at, tri, mx, sl2, gl_open, cm_neI]
  by_cases e1 : m = "open" <;> by_cases e2 : t = "open" <;> by_cases e3 : o = b <;> by_cases e4 : w = a <;> simp only [e1, e2, e3, e4, bind_at, out_ok, pure_at, a_loc, a_k, a_glob, a_bin, a_neg, a_cmp, cq_some, a_cell, ce_v, ce_o, a_chain, a_and, a_or, a_not, a_ife, a_lst, a_tup, a_idx, a_slc, a_call, a_blt, a_nil, a_cons, h_nil, h_cons, o_no, o_some, t_nil, t_cons, tv_at, i_seq, i_rng1, i_rng2, i_enum, p_v, p_s, peekS_val, peekS_own, d_int, d_bl, d_str, d_non, d_lst, d_tup, d_ro, ho_v, ho_s, ho_l, fr_v, fr_l, fr_s, frzV_val, frzV_own, oo_some, te_bl, te_int, te_non, te_lst, te_tup, ps_nil, ps_cons, pk_v, pk_s, consO_some, ad_nil, ad_cons, ad_v, ad_s, argS_val, argS_own, locV_val, locV_own, globV_some, negV_int, intO_int, slotV_some, x_nil, nextM_nx, nextM_ret, nextM_brk, nextM_ct, x_cons, x_asg, x_cell, x_par, g_v, g_n, g_s, g_tp, gd_nm, gd_2, gd_3, parM_two, x_expr, x_ret, r_v, r_n, r_s, retV_own, retV_val, x_retN, x_ite, x_raise, x_try, x_pass, x_brk, x_cont, x_setI, putI_int, x_augI, nn_v, nn_s, x_app, appM_lst, iteM_t, iteM_f, iteM_at, op_addI, op_subI, cm_lt, cm_le, cm_gt, cm_ge, cm_is, cm_isn, cm_eqI, cm_neI, ix_l, ix_t, ix_r, List.getElem?_cons_succ, List.getElem?_cons_zero, List.set_cons_succ, List.set_cons_zero, List.length_cons, List.length_nil, Nat.reduceAdd, Nat.reduceLT, Nat.reduceLeDiff, p_nl, g_t2, gt2, eqS, neS, inL3, inS2, inT3, ofS, String.reduceEq, Int.reduceEq, at0, at1, at2, at3, bt0, bt1, bt2, ct0, ct1, dt0, dr_l, bl_int, z0, z1, z2, z3, z4, decide_true, decide_false, Bool.or_false, Bool.false_or, Bool.or_true, Bool.true_or, Bool.not_true, Bool.not_false, Bool.false_eq_true, if_true, if_false, List.isEmpty_nil, List.isEmpty_cons, negV_int, Int.reduceNeg, w_ok, sl2, gl_open, cm_neI, Bool.not_true, Bool.not_false, Bool.true_and, Bool.false_and, Bool.and_false, Bool.and_true]
theorem s_lmixed (k : Nat) (s : Sx) (x y : D) : Pu (tx.gam (k + 1)) "_law_is_mixed" [s.at x y] (.v (.bl (mx s))) := pu_of fun C => by
  rw [c_law_is_mixed]
  obtain ⟨a, m, o, b, t, w, xs, ys⟩ := s
  refine run_e d__law_is_mixed _ [.val (Sx.at ⟨a, m, o, b, t, w, xs, ys⟩ x y), .no, .no, .no, .no, .no, .no, .no, .no] rfl (by decide) rfl ?_
  simp only [d__law_is_mixed, bind_at, out_ok, pure_at, a_loc, a_k, a_glob, a_bin, a_neg, a_cmp, cq_some, a_cell, ce_v, ce_o, a_chain, a_and, a_or, a_not, a_ife, a_lst, a_tup, a_idx, a_slc, a_call, a_blt, a_nil, a_cons, h_nil, h_cons, o_no, o_some, t_nil, t_cons, tv_at, i_seq, i_rng1, i_rng2, i_enum, p_v, p_s, peekS_val, peekS_own, d_int, d_bl, d_str, d_non, d_lst, d_tup, d_ro, ho_v, ho_s, ho_l, fr_v, fr_l, fr_s, frzV_val, frzV_own, oo_some, te_bl, te_int, te_non, te_lst, te_tup, ps_nil, ps_cons, pk_v, pk_s, consO_some, ad_nil, ad_cons, ad_v, ad_s, argS_val, argS_own, locV_val, locV_own, globV_some, negV_int, intO_int, slotV_some, x_nil, nextM_nx, nextM_ret, nextM_brk, nextM_ct, x_cons, x_asg, x_cell, x_par, g_v, g_n, g_s, g_tp, gd_nm, gd_2, gd_3, parM_two, x_expr, x_ret, r_v, r_n, r_s, retV_own, retV_val, x_retN, x_ite, x_raise, x_try, x_pass, x_brk, x_cont, x_setI, putI_int, x_augI, nn_v, nn_s, x_app, appM_lst, iteM_t, iteM_f, iteM_at, op_addI, op_subI, cm_lt, cm_le, cm_gt, cm_ge, cm_is, cm_isn, cm_eqI, cm_neI, ix_l, ix_t, ix_r, List.getElem?_cons_succ, List.getElem?_cons_zero, List.set_cons_succ, List.set_cons_zero, List.length_cons, List.length_nil, Nat.reduceAdd, Nat.reduceLT, Nat.reduceLeDiff, p_nl, g_t2, gt2, eqS, neS, inL3, inS2, inT3, ofS, String.reduceEq, Int.reduceEq, at0, at1, at2, at3, bt0, bt1, bt2, ct0, ct1, dt0, dr_l, bl_int, z0, z1, z2, z3, z4, decide_true, decide_false, Bool.or_false, Bool.false_or, Bool.or_true, Bool.true_or, Bool.not_true, Bool.not_false, Bool.false_eq_true, if_true, if_false, List.isEmpty_nil, List.isEmpty_cons, negV_int, Int.reduceNeg, w_ok, Sx.at, tri, mx, sl2, gl_open, cm_neI]
  by_cases e1 : m = "open" <;> by_cases e2 : t = "open" <;> by_cases e3 : o = b <;> by_cases e4 : w = a <;> simp only [e1, e2, e3, e4, bind_at, out_ok, pure_at, a_loc, a_k, a_glob, a_bin, a_neg, a_cmp, cq_some, a_cell, ce_v, ce_o, a_chain, a_and, a_or, a_not, a_ife, a_lst, a_tup, a_idx, a_slc, a_call, a_blt, a_nil, a_cons, h_nil, h_cons, o_no, o_some, t_nil, t_cons, tv_at, i_seq, i_rng1, i_rng2, i_enum, p_v, p_s, peekS_val, peekS_own, d_int, d_bl, d_str, d_non, d_lst, d_tup, d_ro, ho_v, ho_s, ho_l, fr_v, fr_l, fr_s, frzV_val, frzV_own, oo_some, te_bl, te_int, te_non, te_lst, te_tup, ps_nil, ps_cons, pk_v, pk_s, consO_some, ad_nil, ad_cons, ad_v, ad_s, argS_val, argS_own, locV_val, locV_own, globV_some, negV_int, intO_int, slotV_some, x_nil, nextM_nx, nextM_ret, nextM_brk, nextM_ct, x_cons, x_asg, x_cell, x_par, g_v, g_n, g_s, g_tp, gd_nm, gd_2, gd_3, parM_two, x_expr, x_ret, r_v, r_n, r_s, retV_own, retV_val, x_retN, x_ite, x_raise, x_try, x_pass, x_brk, x_cont, x_setI, putI_int, x_augI, nn_v, nn_s, x_app, appM_lst, iteM_t, iteM_f, iteM_at, op_addI, op_subI, cm_lt, cm_le, cm_gt, cm_ge, cm_is, cm_isn, cm_eqI, cm_neI, ix_l, ix_t, ix_r, List.getElem?_cons_succ, List.getElem?_cons_zero, List.set_cons_succ, List.set_cons_zero, List.length_cons, List.length_nil, Nat.reduceAdd, Nat.reduceLT, Nat.reduceLeDiff, p_nl, g_t2, gt2, eqS, neS, inL3, inS2, inT3, ofS, String.reduceEq, Int.reduceEq, at0, at1, at2, at3, bt0, bt1, bt2, ct0, ct1, dt0, dr_l, bl_int, z0, z1, z2, z3, z4, decide_true, decide_false, Bool.or_false, Bool.false_or, Bool.or_true, Bool.true_or, Bool.not_true, Bool.not_false, Bool.false_eq_true, if_true, if_false, List.isEmpty_nil, List.isEmpty_cons, negV_int, Int.reduceNeg, w_ok, sl2, gl_open, cm_neI, Bool.not_true, Bool.not_false, Bool.true_and, Bool.false_and, Bool.and_false, Bool.and_true]
def s0 : Sx := ⟨0, "shut", -1, 0, "shut", -1, [], []⟩
theorem s_first (k : Nat) (C : List (Option Ob)) : (tx.gam (k + 1)).call "first_call" [] C = AnsV C (some s0) := by
  rw [c_first_call, run_to d_first_call _ [] rfl (by decide) rfl]
  simp only [d_first_call, bind_at, out_ok, pure_at, a_loc, a_k, a_glob, a_bin, a_neg, a_cmp, cq_some, a_cell, ce_v, ce_o, a_chain, a_and, a_or, a_not, a_ife, a_lst, a_tup, a_idx, a_slc, a_call, a_blt, a_nil, a_cons, h_nil, h_cons, o_no, o_some, t_nil, t_cons, tv_at, i_seq, i_rng1, i_rng2, i_enum, p_v, p_s, peekS_val, peekS_own, d_int, d_bl, d_str, d_non, d_lst, d_tup, d_ro, ho_v, ho_s, ho_l, fr_v, fr_l, fr_s, frzV_val, frzV_own, oo_some, te_bl, te_int, te_non, te_lst, te_tup, ps_nil, ps_cons, pk_v, pk_s, consO_some, ad_nil, ad_cons, ad_v, ad_s, argS_val, argS_own, locV_val, locV_own, globV_some, negV_int, intO_int, slotV_some, x_nil, nextM_nx, nextM_ret, nextM_brk, nextM_ct, x_cons, x_asg, x_cell, x_par, g_v, g_n, g_s, g_tp, gd_nm, gd_2, gd_3, parM_two, x_expr, x_ret, r_v, r_n, r_s, retV_own, retV_val, x_retN, x_ite, x_raise, x_try, x_pass, x_brk, x_cont, x_setI, putI_int, x_augI, nn_v, nn_s, x_app, appM_lst, iteM_t, iteM_f, iteM_at, op_addI, op_subI, cm_lt, cm_le, cm_gt, cm_ge, cm_is, cm_isn, cm_eqI, cm_neI, ix_l, ix_t, ix_r, List.getElem?_cons_succ, List.getElem?_cons_zero, List.set_cons_succ, List.set_cons_zero, List.length_cons, List.length_nil, Nat.reduceAdd, Nat.reduceLT, Nat.reduceLeDiff, p_nl, g_t2, gt2, eqS, neS, inL3, inS2, inT3, ofS, String.reduceEq, Int.reduceEq, at0, at1, at2, at3, bt0, bt1, bt2, ct0, ct1, dt0, dr_l, bl_int, z0, z1, z2, z3, z4, decide_true, decide_false, Bool.or_false, Bool.false_or, Bool.or_true, Bool.true_or, Bool.not_true, Bool.not_false, Bool.false_eq_true, if_true, if_false, List.isEmpty_nil, List.isEmpty_cons, negV_int, Int.reduceNeg, w_ok, gl_shut, gl_nobody, List.length_append, app2, oc_ret, AnsV, s0, Sx.at, tri, a_cell, ce_v, ce_o]
def deedsD : List D := [.str "again", .str "ask", .str "back", .str "back again", .str "back lost", .str "come", .str "come again", .str "drop", .str "lose", .str "other drops"]
theorem s_deeds (k : Nat) : Pu (tx.gam (k + 1)) "_law_call_deeds" [] (.n (.lst deedsD)) := pu_of fun C => by
  rw [c_law_call_deeds]
  refine run_e d__law_call_deeds _ [] rfl (by decide) rfl ?_
  have z10 : ∀ r s, sizeM 10 r s = .ok r s := fun r s => small3 (by decide)
  simp only [d__law_call_deeds, bind_at, out_ok, pure_at, a_loc, a_k, a_glob, a_bin, a_neg, a_cmp, cq_some, a_cell, ce_v, ce_o, a_chain, a_and, a_or, a_not, a_ife, a_lst, a_tup, a_idx, a_slc, a_call, a_blt, a_nil, a_cons, h_nil, h_cons, o_no, o_some, t_nil, t_cons, tv_at, i_seq, i_rng1, i_rng2, i_enum, p_v, p_s, peekS_val, peekS_own, d_int, d_bl, d_str, d_non, d_lst, d_tup, d_ro, ho_v, ho_s, ho_l, fr_v, fr_l, fr_s, frzV_val, frzV_own, oo_some, te_bl, te_int, te_non, te_lst, te_tup, ps_nil, ps_cons, pk_v, pk_s, consO_some, ad_nil, ad_cons, ad_v, ad_s, argS_val, argS_own, locV_val, locV_own, globV_some, negV_int, intO_int, slotV_some, x_nil, nextM_nx, nextM_ret, nextM_brk, nextM_ct, x_cons, x_asg, x_cell, x_par, g_v, g_n, g_s, g_tp, gd_nm, gd_2, gd_3, parM_two, x_expr, x_ret, r_v, r_n, r_s, retV_own, retV_val, x_retN, x_ite, x_raise, x_try, x_pass, x_brk, x_cont, x_setI, putI_int, x_augI, nn_v, nn_s, x_app, appM_lst, iteM_t, iteM_f, iteM_at, op_addI, op_subI, cm_lt, cm_le, cm_gt, cm_ge, cm_is, cm_isn, cm_eqI, cm_neI, ix_l, ix_t, ix_r, List.getElem?_cons_succ, List.getElem?_cons_zero, List.set_cons_succ, List.set_cons_zero, List.length_cons, List.length_nil, Nat.reduceAdd, Nat.reduceLT, Nat.reduceLeDiff, p_nl, g_t2, gt2, eqS, neS, inL3, inS2, inT3, ofS, String.reduceEq, Int.reduceEq, at0, at1, at2, at3, bt0, bt1, bt2, ct0, ct1, dt0, dr_l, bl_int, z0, z1, z2, z3, z4, decide_true, decide_false, Bool.or_false, Bool.false_or, Bool.or_true, Bool.true_or, Bool.not_true, Bool.not_false, Bool.false_eq_true, if_true, if_false, List.isEmpty_nil, List.isEmpty_cons, negV_int, Int.reduceNeg, w_ok, z10, deedsD]
theorem q_deeds (k : Nat) (s : Sm) : callM (tx.gam (k + 1)) "_law_call_deeds" [] s = .ok (.n (.lst deedsD)) s := callM_pf (pure_of _ _ (by decide +kernel)) (ds := []) (by simp only [ad_nil]) (s_deeds k) rfl rfl
theorem q_mixed (k : Nat) (s : Sx) (x y : D) (S : Sm) : callM (tx.gam (k + 1)) "is_mixed" [.v (s.at x y)] S = .ok (.v (.bl (mx s))) S := callM_pu (pure_of _ _ (by decide +kernel)) (ds := [s.at x y]) (by simp only [ad_cons, ad_v, ad_nil, consO_some]) (s_mixed k s x y) rfl
theorem q_lmixed (k : Nat) (s : Sx) (x y : D) (S : Sm) : callM (tx.gam (k + 1)) "_law_is_mixed" [.v (s.at x y)] S = .ok (.v (.bl (mx s))) S := callM_pu (pure_of _ _ (by decide +kernel)) (ds := [s.at x y]) (by simp only [ad_cons, ad_v, ad_nil, consO_some]) (s_lmixed k s x y) rfl
theorem q_first (k : Nat) (ρ : List Slot) (C : List (Option Ob)) : callM (tx.gam (k + 1)) "first_call" [] ⟨ρ, C⟩ = .ok (.v (s0.at (.ref C.length) (.ref (C.length + 1)))) ⟨ρ, C ++ [some (.lst []), some (.lst [])]⟩ := callM_ok (impure_of _ _ (by decide +kernel)) frzs_nil (s_first k C)
end Law

set_option Elab.async false
set_option linter.all false
set_option maxRecDepth 100000
set_option maxHeartbeats 4000000
namespace Law
open PySem L2 IR
theorem lc_all {k : Nat} {kind lives : Int} {s : Sx} {C : List (Option Ob)} {x y : D} (hl : 0 < lives) (hk : kind = 2 ∨ kind = 3) (ok : s.Ok) (hx : deref C x = .lst s.xs) (hy : deref C y = .lst s.ys) (wd : Str) (hw : wd ∈ words) :
    OcW ((tx.gam (k + 1)).call "_law_call" [.int kind, .int lives, s.at x y, .str wd] C) fun r C' => ∃ d, r = .v d ∧ C' = C ∧ Gives C d (nx kind lives s wd) := by
  obtain ⟨a, m, o, b, t, w, xs, ys⟩ := s
  simp only [words, List.mem_cons, List.not_mem_nil, or_false] at hw
  rcases hw with rfl | rfl | rfl | rfl | rfl | rfl | rfl | rfl | rfl | rfl | rfl | rfl
  · exact lc_again hl hk ok hx hy
  · exact lc_ask hl hk ok hx hy
  · exact lc_back hl hk ok hx hy
  · exact lc_backa hl hk ok hx hy
  · exact lc_blost hl hk ok hx hy
  · exact lc_come hl hk ok hx hy
  · exact lc_comea hl hk ok hx hy
  · exact lc_drop hl hk ok hx hy
  · exact lc_lose hl hk ok hx hy
  · exact lc_odrop hl hk ok hx hy
  · exact lc_cback hl hk ok hx hy
  · exact lc_none hl hk ok hx hy
theorem cs_all {k : Nat} {kind lives : Int} {s : Sx} {C : List (Option Ob)} (hl : 0 < lives) (hk : kind = 2 ∨ kind = 3) (ok : s.Ok) (wd : Str) (hw : wd ∈ words) :
    (tx.gam (k + 3)).call "call_step" [.int kind, .int lives, s.at (.lst s.xs) (.lst s.ys), .tup [.str wd]] C = Ans C (nx kind lives s wd) := by
  obtain ⟨a, m, o, b, t, w, xs, ys⟩ := s
  simp only [words, List.mem_cons, List.not_mem_nil, or_false] at hw
  rcases hw with rfl | rfl | rfl | rfl | rfl | rfl | rfl | rfl | rfl | rfl | rfl | rfl
  · exact cs_again hl hk ok
  · exact cs_ask hl hk ok
  · exact cs_back hl hk ok
  · exact cs_backa hl hk ok
  · exact cs_blost hl hk ok
  · exact cs_come hl hk ok
  · exact cs_comea hl hk ok
  · exact cs_drop hl hk ok
  · exact cs_lose hl hk ok
  · exact cs_odrop hl hk ok
  · exact cs_cback hl hk ok
  · exact cs_none hl hk ok
theorem as_all {k : Nat} {kind lives : Int} {s : Sx} {C : List (Option Ob)} {x y : D} (hl : 0 < lives) (hk : kind = 2 ∨ kind = 3) (ok : s.Ok) (hx : deref C x = .lst s.xs) (hy : deref C y = .lst s.ys) (wd : Str) (hw : wd ∈ words) :
    (tx.gam (k + 4)).call "_law_asked" [.int kind, .int lives, s.at x y, .tup [.str wd]] C = AnsV C (nx kind lives s wd) := s_asked ok hx hy (cs_all hl hk ok wd hw) rfl
theorem as_two {k : Nat} {kind lives : Int} {s : Sx} {C : List (Option Ob)} {x y : D} (ok : s.Ok) (hx : deref C x = .lst s.xs) (hy : deref C y = .lst s.ys) :
    (tx.gam (k + 4)).call "_law_asked" [.int kind, .int lives, s.at x y, .tup [.str "ask", .int 1]] C = .ok (.v .non) C := s_asked (z := none) ok hx hy (cs_two ok) rfl
/-! steps stay well -/
theorem arrT_ok {k l : Int} {s s' : Sx} {left : List D} (ok : s.Ok) (hl : There left) (h : arrT k l s left = some s') : s'.Ok := by
  obtain ⟨a, m, o, b, t, w, xs, ys⟩ := s
  obtain ⟨hm, ht, ho, hx, hy⟩ := ok
  have hx' : There xs := hx
  rcases hx' with _ | i | i
  · cases h
  · have h : some (_ : Sx) = some s' := h
    cases h
    refine ⟨hm, ?_, ho, hl, ?_⟩
    · show (if k = 3 then ("waits" : Str) else "open") = "shut" ∨ (if k = 3 then ("waits" : Str) else "open") = "waits" ∨ (if k = 3 then ("waits" : Str) else "open") = "open"
      by_cases e : k = 3
      · rw [if_pos e]; exact .inr (.inl rfl)
      · rw [if_neg e]; exact .inr (.inr rfl)
    · show Back (if ys.isEmpty then _ else ys)
      cases hy
      · exact .one _ _
      · exact .one _ _
  · have h : (if t = "waits" ∧ i = b then some (⟨a, m, o, b, "open", w, left, ys⟩ : Sx) else some ⟨a, m, o, b, t, w, left, ys⟩) = some s' := h
    by_cases e : t = "waits" ∧ i = b
    · rw [if_pos e] at h
      cases h
      exact ⟨hm, .inr (.inr rfl), ho, hl, hy⟩
    · rw [if_neg e] at h
      cases h
      exact ⟨hm, ht, ho, hl, hy⟩
theorem arrB_ok {k : Int} {s s' : Sx} {left : List D} (ok : s.Ok) (hl : Back left) (h : arrB k s left = some s') : s'.Ok := by
  obtain ⟨a, m, o, b, t, w, xs, ys⟩ := s
  obtain ⟨hm, ht, ho, hx, hy⟩ := ok
  have hy' : Back ys := hy
  rcases hy' with _ | ⟨i, j⟩
  · cases h
  · have h : (if m = "shut" ∨ j ≠ a then some (⟨a, m, o, b, t, w, xs, left⟩ : Sx) else some ⟨a, "open", i, b, t, w, if k = 3 ∧ xs.isEmpty then [LT "ok" i] else xs, left⟩) = some s' := h
    by_cases e : m = "shut" ∨ j ≠ a
    · rw [if_pos e] at h
      cases h
      exact ⟨hm, ht, ho, hx, hl⟩
    · rw [if_neg e] at h
      cases h
      refine ⟨.inr (.inr rfl), ht, fun z => ?_, ?_, hl⟩
      · rw [ofS] at z
        exact absurd z (by decide)
      · show There (if k = 3 ∧ xs.isEmpty then [LT "ok" i] else xs)
        by_cases e : k = 3 ∧ xs.isEmpty
        · rw [if_pos e]; exact .ok _
        · rw [if_neg e]; exact hx
theorem nx_ok {kind lives : Int} {s s' : Sx} (ok : s.Ok) (wd : Str) (hw : wd ∈ words) (h : nx kind lives s wd = some s') : s'.Ok := by
  have ok0 := ok
  obtain ⟨a, m, o, b, t, w, xs, ys⟩ := s
  obtain ⟨hm, ht, ho, hx, hy⟩ := ok
  have hx' : There xs := hx
  have hy' : Back ys := hy
  have one : ∀ i, There (if xs.isEmpty then [LT "ask" i] else xs) := fun i => by rcases hx' with _ | j | j <;> first | exact .ask _ | exact .ok _
  simp only [words, List.mem_cons, List.not_mem_nil, or_false] at hw
  rcases hw with rfl | rfl | rfl | rfl | rfl | rfl | rfl | rfl | rfl | rfl | rfl | rfl
  all_goals simp only [nx, ofS, String.reduceEq, if_true, if_false] at h
  · split at h
    · cases h; exact ⟨hm, ht, ho, one _, hy⟩
    · cases h
  · split at h
    · cases h; exact ⟨.inr (.inl rfl), ht, fun _ => rfl, one _, hy⟩
    · cases h
  · exact arrB_ok ok0 .nil h
  · exact arrB_ok ok0 hy h
  · split at h
    · cases h
    · cases h; exact ⟨hm, ht, ho, hx, .nil⟩
  · exact arrT_ok ok0 .nil h
  · exact arrT_ok ok0 hx h
  · split at h
    · cases h
    · cases h
      refine ⟨.inl rfl, ht, fun z => ?_, hx, hy⟩
      rfl
  · split at h
    · cases h
    · cases h; exact ⟨hm, ht, ho, .nil, hy⟩
  · split at h
    · cases h
    · cases h; exact ⟨hm, .inl rfl, ho, hx, hy⟩
  all_goals cases h
theorem one_fits {kind lives : Int} {s : Sx} (ok : s.Ok) : ∃ wd, wd ∈ words ∧ (nx kind lives s wd).isSome = true := by
  rcases ok.m with h | h | h
  · refine ⟨"ask", by simp only [words, List.mem_cons, ofS, String.reduceEq, false_or, true_or, or_true], ?_⟩
    simp only [nx, ofS, String.reduceEq, if_true, if_false, h, Option.isSome_some]
  · refine ⟨"again", by simp only [words, List.mem_cons, ofS, String.reduceEq, false_or, true_or, or_true], ?_⟩
    simp only [nx, ofS, String.reduceEq, if_true, if_false, h, Option.isSome_some]
  · refine ⟨"drop", by simp only [words, List.mem_cons, ofS, String.reduceEq, false_or, true_or, or_true], ?_⟩
    simp only [nx, ofS, String.reduceEq, if_true, if_false, h, Option.isSome_some]
theorem s0_ok : s0.Ok := ⟨.inl rfl, .inl rfl, fun _ => rfl, .nil, .nil⟩
/-! the same -/
theorem two {α : Type} {P : Nat → α → α → Prop} : True := trivial
theorem eqv_tri {C : List (Option Ob)} {n : Nat} {a o : Int} {m : Str} : Eqv C (n + 1) (tri a m o) (tri a m o) :=
  .tup (by rw [sizeLine_eq]; exact Nat.le_of_ble_eq_true rfl) rfl fun i x y h1 h2 => by
    match i, h1, h2 with
    | 0, h1, h2 => cases h1; cases h2; exact .int
    | 1, h1, h2 => cases h1; cases h2; exact .str
    | 2, h1, h2 => cases h1; cases h2; exact .int
theorem eqv_LT {C : List (Option Ob)} {n : Nat} {i : Int} {m : Str} : Eqv C (n + 1) (LT m i) (LT m i) :=
  .tup (by rw [sizeLine_eq]; exact Nat.le_of_ble_eq_true rfl) rfl fun i x y h1 h2 => by
    match i, h1, h2 with
    | 0, h1, h2 => cases h1; cases h2; exact .str
    | 1, h1, h2 => cases h1; cases h2; exact .int
theorem eqv_LB {C : List (Option Ob)} {n : Nat} {i j : Int} : Eqv C (n + 1) (LB i j) (LB i j) :=
  .tup (by rw [sizeLine_eq]; exact Nat.le_of_ble_eq_true rfl) rfl fun i x y h1 h2 => by
    match i, h1, h2 with
    | 0, h1, h2 => cases h1; cases h2; exact .str
    | 1, h1, h2 => cases h1; cases h2; exact .int
    | 2, h1, h2 => cases h1; cases h2; exact .int
theorem one_get {α : Type} {a x : α} {i : Nat} (h : [a][i]? = some x) : x = a := by
  match i, h with
  | 0, h => cases h; rfl
theorem There.eqv {C : List (Option Ob)} {n : Nat} {a b : D} {xs : List D} (h : There xs) (da : deref C a = .lst xs) (db : deref C b = .lst xs) : Eqv C (n + 2) a b := by
  refine .lst da db (by rw [sizeLine_eq]; cases h <;> exact Nat.le_of_ble_eq_true rfl) rfl fun i x y h1 h2 => ?_
  rcases h with _ | j | j
  · cases h1
  · rw [one_get h1, one_get h2]; exact eqv_LT
  · rw [one_get h1, one_get h2]; exact eqv_LT
theorem Back.eqv {C : List (Option Ob)} {n : Nat} {a b : D} {xs : List D} (h : Back xs) (da : deref C a = .lst xs) (db : deref C b = .lst xs) : Eqv C (n + 2) a b := by
  refine .lst da db (by rw [sizeLine_eq]; cases h <;> exact Nat.le_of_ble_eq_true rfl) rfl fun i x y h1 h2 => ?_
  rcases h with _ | ⟨j, j'⟩
  · cases h1
  · rw [one_get h1, one_get h2]; exact eqv_LB
theorem eqv_st {C : List (Option Ob)} {s : Sx} {x y x' y' : D} (ok : s.Ok) (h1 : deref C x = .lst s.xs) (h2 : deref C y = .lst s.ys) (h3 : deref C x' = .lst s.xs) (h4 : deref C y' = .lst s.ys) : Eqv C 3 (s.at x y) (s.at x' y') :=
  .tup (by rw [sizeLine_eq]; exact Nat.le_of_ble_eq_true rfl) rfl fun i a b g1 g2 => by
    match i, g1, g2 with
    | 0, g1, g2 => cases g1; cases g2; exact eqv_tri
    | 1, g1, g2 => cases g1; cases g2; exact eqv_tri
    | 2, g1, g2 => cases g1; cases g2; exact ok.xs.eqv h1 h3
    | 3, g1, g2 => cases g1; cases g2; exact ok.ys.eqv h2 h4
theorem c_same {C : List (Option Ob)} {a b : D} (h : Eqv C 3 a b) : (tx.gam 9).call "_law_same" [a, b] C = .ok (.v (.bl true)) C := same_im (e := e__law_same) (by rfl) rfl (by decide +kernel) 3 5 a b h
theorem q_same {C : List (Option Ob)} {ρ : List Slot} {a b : D} (h : Eqv C 3 a b) : callM (tx.gam 9) "_law_same" [.v a, .v b] ⟨ρ, C⟩ = .ok (.v (.bl true)) ⟨ρ, C⟩ := callM_ok (impure_of _ _ (by decide +kernel)) (frzs_v (frzs_v frzs_nil)) (c_same h)
end Law

set_option Elab.async false
set_option linter.all false
set_option maxRecDepth 100000
set_option maxHeartbeats 4000000
namespace Law
open PySem L2 IR
theorem oc_ex {o : Oc} {C : List (Option Ob)} {P : D → Prop} (h : OcW o fun r C' => ∃ d, r = .v d ∧ C' = C ∧ P d) : ∃ d, o = .ok (.v d) C ∧ P d := by
  cases o with
  | ok r C' =>
    obtain ⟨d, rfl, rfl, hp⟩ := (h : ∃ d, r = .v d ∧ C' = C ∧ P d)
    exact ⟨d, rfl, hp⟩
  | exc x C' => exact h.elim
  | bad => exact h.elim
theorem There.len {xs : List D} (h : There xs) : xs.length ≤ 1 := by cases h <;> exact Nat.le_of_ble_eq_true rfl
theorem Back.len {xs : List D} (h : Back xs) : xs.length ≤ 1 := by cases h <;> exact Nat.le_of_ble_eq_true rfl
theorem app_put {C : List (Option Ob)} {ρ : List Slot} {c : Nat} {xs : List D} {d : D} (h : C[c]? = some (some (.lst xs))) (hl : xs.length < sizeLine) : putO (.v (.ref c)) (appL d) ⟨ρ, C⟩ = .ok () ⟨ρ, C.set c (some (.lst (xs ++ [d])))⟩ := pu_ref h (by
  show (if xs.length < sizeLine then some (Ob.lst (xs ++ [d])) else none) = _
  rw [if_pos hl])
theorem one_line {n : Nat} (h : n ≤ 100) : n < sizeLine := by rw [sizeLine_eq]; omega
theorem app_own {C : List (Option Ob)} {ρ : List Slot} {i : Nat} {xs : List D} {d : D} (h : ρ[i]? = some (.own (.lst xs))) (hl : xs.length < sizeLine) : putO (.s i) (appL d) ⟨ρ, C⟩ = .ok () ⟨ρ.set i (.own (.lst (xs ++ [d]))), C⟩ := pu_own h (by
  show (if xs.length < sizeLine then some (Ob.lst (xs ++ [d])) else none) = _
  rw [if_pos hl])
theorem cell0 {α : Type} {C : List α} {a b : α} : (C ++ [a, b])[C.length]? = some a := by induction C with | nil => rfl | cons c C ih => exact ih
theorem cell1 {α : Type} {C : List α} {a b : α} : (C ++ [a, b])[C.length + 1]? = some b := by induction C with | nil => rfl | cons c C ih => exact ih
theorem set0 {α : Type} {C : List α} {a b c : α} : (C ++ [a, b]).set C.length c = C ++ [c, b] := by induction C with | nil => rfl | cons d C ih => exact congrArg (d :: ·) ih
theorem set1 {α : Type} {C : List α} {a b c : α} : (C ++ [a, b]).set (C.length + 1) c = C ++ [a, c] := by induction C with | nil => rfl | cons d C ih => exact congrArg (d :: ·) ih
def fitsOf (z : Option Sx) (fits : List D) (wd : Str) : List D := if z.isSome then fits ++ [.str wd] else fits
/-- one word asked both ways -/
theorem w_word {kind lives : Int} {s : Sx} {C : List (Option Ob)} {x y : D} (hl : 0 < lives) (hk : kind = 2 ∨ kind = 3) (ok : s.Ok) (hx : deref C x = .lst s.xs) (hy : deref C y = .lst s.ys) (wd : Str) (hw : wd ∈ words)
    {fits : List D} (hf : fits.length ≤ 50) {e0 e1 e2 e3 e7 e10 e11 e12 : Slot} :
    wpO (exs (tx.gam 9) b_law_1 ⟨[e0, e1, e2, e3, .val (.int kind), .val (.int lives), .val (s.at x y), e7, .own (.lst fits), .val (.str wd), e10, e11, e12], C⟩)
      (fun f S => f = .nx ∧ ∃ E a b, S = ⟨[e0, e1, e2, e3, .val (.int kind), .val (.int lives), .val (s.at x y), e7, .own (.lst (fitsOf (nx kind lives s wd) fits wd)), .val (.str wd), a, b, e12], C ++ E⟩) NoX := by
  obtain ⟨d, c1, hg⟩ := oc_ex (lc_all (k := 8) (kind := kind) (lives := lives) hl hk ok hx hy wd hw)
  have c2 := as_all (k := 5) (kind := kind) (lives := lives) hl hk ok hx hy wd hw
  have q1 : ∀ ρ, callM (tx.gam 9) "_law_call" [.v (.int kind), .v (.int lives), .v (s.at x y), .v (.str wd)] ⟨ρ, C⟩ = .ok (.v d) ⟨ρ, C⟩ := fun ρ =>
    callM_ok (impure_of _ _ (by decide +kernel)) (frzs_v (frzs_v (frzs_v (frzs_v frzs_nil)))) c1
  have q2 : ∀ ρ, callM (tx.gam 9) "_law_asked" [.v (.int kind), .v (.int lives), .v (s.at x y), .v (.tup [.str wd])] ⟨ρ, C⟩ = lift (AnsV C (nx kind lives s wd)) ρ := fun ρ =>
    callM_lift (impure_of _ _ (by decide +kernel)) (frzs_v (frzs_v (frzs_v (frzs_v frzs_nil)))) c2
  have hz : ∀ s', nx kind lives s wd = some s' → s'.Ok := fun s' h => nx_ok ok wd hw h
  clear c1 c2
  cases e : nx kind lives s wd with
  | none =>
    rw [e] at hg
    have hg : d = .non := hg
    subst hg
    simp only [e] at q2
    have q3 : ∀ ρ, callM (tx.gam 9) "_law_same" [.v .non, .v .non] ⟨ρ, C⟩ = .ok (.v (.bl true)) ⟨ρ, C⟩ := fun ρ => q_same .non
    simp only [b_law_1, bind_at, out_ok, pure_at, a_loc, a_k, a_glob, a_bin, a_neg, a_cmp, cq_some, a_cell, ce_v, ce_o, a_chain, a_and, a_or, a_not, a_ife, a_lst, a_tup, a_idx, a_slc, a_call, a_blt, a_nil, a_cons, h_nil, h_cons, o_no, o_some, t_nil, t_cons, tv_at, i_seq, i_rng1, i_rng2, i_enum, p_v, p_s, peekS_val, peekS_own, d_int, d_bl, d_str, d_non, d_lst, d_tup, d_ro, ho_v, ho_s, ho_l, fr_v, fr_l, fr_s, frzV_val, frzV_own, oo_some, te_bl, te_int, te_non, te_lst, te_tup, ps_nil, ps_cons, pk_v, pk_s, consO_some, ad_nil, ad_cons, ad_v, ad_s, argS_val, argS_own, locV_val, locV_own, globV_some, negV_int, intO_int, slotV_some, x_nil, nextM_nx, nextM_ret, nextM_brk, nextM_ct, x_cons, x_asg, x_cell, x_par, g_v, g_n, g_s, g_tp, gd_nm, gd_2, gd_3, parM_two, x_expr, x_ret, r_v, r_n, r_s, retV_own, retV_val, x_retN, x_ite, x_raise, x_try, x_pass, x_brk, x_cont, x_setI, putI_int, x_augI, nn_v, nn_s, x_app, appM_lst, iteM_t, iteM_f, iteM_at, op_addI, op_subI, cm_lt, cm_le, cm_gt, cm_ge, cm_is, cm_isn, cm_eqI, cm_neI, ix_l, ix_t, ix_r, List.getElem?_cons_succ, List.getElem?_cons_zero, List.set_cons_succ, List.set_cons_zero, List.length_cons, List.length_nil, Nat.reduceAdd, Nat.reduceLT, Nat.reduceLeDiff, p_nl, g_t2, gt2, eqS, neS, inL3, inS2, inT3, ofS, String.reduceEq, Int.reduceEq, at0, at1, at2, at3, bt0, bt1, bt2, ct0, ct1, dt0, dr_l, bl_int, z0, z1, z2, z3, z4, decide_true, decide_false, Bool.or_false, Bool.false_or, Bool.or_true, Bool.true_or, Bool.not_true, Bool.not_false, Bool.false_eq_true, if_true, if_false, List.isEmpty_nil, List.isEmpty_cons, negV_int, Int.reduceNeg, w_ok, q1, q2, lift_ok, AnsV, q3, isNonD, fitsOf, Option.isSome_none]
    exact ⟨trivial, [], _, _, by rw [List.append_nil]⟩
  | some s' =>
    rw [e] at hg
    obtain ⟨x', y', rfl, dx, dy⟩ := (hg : ∃ x y, d = s'.at x y ∧ deref C x = .lst s'.xs ∧ deref C y = .lst s'.ys)
    simp only [e] at q2
    have ok' := hz s' e
    have q3 : ∀ ρ, callM (tx.gam 9) "_law_same" [.v (s'.at (.ref C.length) (.ref (C.length + 1))), .v (s'.at x' y')] ⟨ρ, C ++ [some (.lst s'.xs), some (.lst s'.ys)]⟩ = .ok (.v (.bl true)) ⟨ρ, C ++ [some (.lst s'.xs), some (.lst s'.ys)]⟩ := fun ρ =>
      q_same (eqv_st ok' (dr_ref cell0) (dr_ref cell1) (deref_app dx _) (deref_app dy _))
    have p1 : ∀ ρ, putO (.v (.ref C.length)) (appL (.tup [.str "ask", .int 9])) ⟨ρ, C ++ [some (.lst s'.xs), some (.lst s'.ys)]⟩ = .ok () ⟨ρ, C ++ [some (.lst (s'.xs ++ [.tup [.str "ask", .int 9]])), some (.lst s'.ys)]⟩ := fun ρ => by
      rw [app_put cell0 (one_line (Nat.le_trans ok'.xs.len (by decide))), set0]
    have p2 : ∀ ρ a, putO (.v (.ref (C.length + 1))) (appL (.tup [.str "ask", .int 9])) ⟨ρ, C ++ [a, some (.lst s'.ys)]⟩ = .ok () ⟨ρ, C ++ [a, some (.lst (s'.ys ++ [.tup [.str "ask", .int 9]]))]⟩ := fun ρ a => by
      rw [app_put cell1 (one_line (Nat.le_trans ok'.ys.len (by decide))), set1]
    have d0 : ∀ a b, deref (C ++ [some (.lst a), b]) (.ref C.length) = .lst a := fun a b => dr_ref cell0
    have d1 : ∀ a b, deref (C ++ [a, some (.lst b)]) (.ref (C.length + 1)) = .lst b := fun a b => dr_ref cell1
    have p0 : ∀ (a b c : Slot) C, putO (.s 8) (appL (.str wd)) ⟨[e0, e1, e2, e3, .val (.int kind), .val (.int lives), .val (s.at x y), e7, .own (.lst fits), a, b, c, e12], C⟩ = .ok () ⟨[e0, e1, e2, e3, .val (.int kind), .val (.int lives), .val (s.at x y), e7, .own (.lst (fits ++ [.str wd])), a, b, c, e12], C⟩ := fun a b c C => app_own rfl (one_line (Nat.le_trans hf (by decide)))
    simp only [Sx.at] at q1 q2 q3 p0
    simp only [b_law_1, bind_at, out_ok, pure_at, a_loc, a_k, a_glob, a_bin, a_neg, a_cmp, cq_some, a_cell, ce_v, ce_o, a_chain, a_and, a_or, a_not, a_ife, a_lst, a_tup, a_idx, a_slc, a_call, a_blt, a_nil, a_cons, h_nil, h_cons, o_no, o_some, t_nil, t_cons, tv_at, i_seq, i_rng1, i_rng2, i_enum, p_v, p_s, peekS_val, peekS_own, d_int, d_bl, d_str, d_non, d_lst, d_tup, d_ro, ho_v, ho_s, ho_l, fr_v, fr_l, fr_s, frzV_val, frzV_own, oo_some, te_bl, te_int, te_non, te_lst, te_tup, ps_nil, ps_cons, pk_v, pk_s, consO_some, ad_nil, ad_cons, ad_v, ad_s, argS_val, argS_own, locV_val, locV_own, globV_some, negV_int, intO_int, slotV_some, x_nil, nextM_nx, nextM_ret, nextM_brk, nextM_ct, x_cons, x_asg, x_cell, x_par, g_v, g_n, g_s, g_tp, gd_nm, gd_2, gd_3, parM_two, x_expr, x_ret, r_v, r_n, r_s, retV_own, retV_val, x_retN, x_ite, x_raise, x_try, x_pass, x_brk, x_cont, x_setI, putI_int, x_augI, nn_v, nn_s, x_app, appM_lst, iteM_t, iteM_f, iteM_at, op_addI, op_subI, cm_lt, cm_le, cm_gt, cm_ge, cm_is, cm_isn, cm_eqI, cm_neI, ix_l, ix_t, ix_r, List.getElem?_cons_succ, List.getElem?_cons_zero, List.set_cons_succ, List.set_cons_zero, List.length_cons, List.length_nil, Nat.reduceAdd, Nat.reduceLT, Nat.reduceLeDiff, p_nl, g_t2, gt2, eqS, neS, inL3, inS2, inT3, ofS, String.reduceEq, Int.reduceEq, at0, at1, at2, at3, bt0, bt1, bt2, ct0, ct1, dt0, dr_l, bl_int, z0, z1, z2, z3, z4, decide_true, decide_false, Bool.or_false, Bool.false_or, Bool.or_true, Bool.true_or, Bool.not_true, Bool.not_false, Bool.false_eq_true, if_true, if_false, List.isEmpty_nil, List.isEmpty_cons, negV_int, Int.reduceNeg, w_ok, Sx.at, q1, q2, lift_ok, AnsV, q3, isNonD, fitsOf, Option.isSome_some, p0, p1, p2, d0, d1]
    exact ⟨trivial, _, _, _, rfl⟩
end Law

set_option Elab.async false
set_option linter.all false
set_option maxRecDepth 100000
set_option maxHeartbeats 4000000
namespace Law
open PySem L2 IR
/-- the lists of a state, whatever the feed is -/
def DX (T : List (Option Ob)) (x : D) (xs : List D) : Prop := ∀ o, deref (some o :: T) x = .lst xs
theorem DX.app {T : List (Option Ob)} {x : D} {xs : List D} (h : DX T x xs) (E : List (Option Ob)) : DX (T ++ E) x xs := fun o => deref_app (h o) E
/-- the words that fit, so far -/
def FitsI (z : Str → Option Sx) (i : Nat) (fits : List D) : Prop :=
  fits.length ≤ i ∧ (∀ d ∈ fits, ∃ wd, wd ∈ words ∧ d = .str wd ∧ (z wd).isSome = true) ∧ ∀ (j : Nat) wd, j < i → words[j]? = some wd → (z wd).isSome = true → D.str wd ∈ fits
theorem fits_step {z : Str → Option Sx} {i : Nat} {fits : List D} {wd : Str} (h : FitsI z i fits) (hw : words[i]? = some wd) : FitsI z (i + 1) (fitsOf (z wd) fits wd) := by
  obtain ⟨h1, h2, h3⟩ := h
  unfold fitsOf
  by_cases e : (z wd).isSome = true
  · rw [if_pos e]
    refine ⟨by rw [List.length_append]; exact Nat.add_le_add h1 (Nat.le_refl 1), fun d hd => ?_, fun j w hj hjw hs => ?_⟩
    · rcases List.mem_append.mp hd with hd | hd
      · exact h2 d hd
      · rw [List.mem_singleton.mp hd]
        exact ⟨wd, List.mem_of_getElem? hw, rfl, e⟩
    · by_cases q : j < i
      · exact List.mem_append_left _ (h3 j w q hjw hs)
      · have q : j = i := by omega
        subst q
        rw [hw] at hjw
        cases hjw
        exact List.mem_append_right _ (List.mem_singleton.mpr rfl)
  · rw [if_neg e]
    refine ⟨Nat.le_succ_of_le h1, h2, fun j w hj hjw hs => ?_⟩
    by_cases q : j < i
    · exact h3 j w q hjw hs
    · have q : j = i := by omega
      subst q
      rw [hw] at hjw
      cases hjw
      exact absurd hs e
theorem fits_any {z : Str → Option Sx} {fits : List D} (h : FitsI z 12 fits) (h1 : ∃ wd, wd ∈ words ∧ (z wd).isSome = true) : 0 < fits.length := by
  obtain ⟨wd, hw, hs⟩ := h1
  obtain ⟨j, hj⟩ := List.getElem?_of_mem hw
  have hm := h.2.2 j wd (by
    have := (List.getElem?_eq_some_iff.mp hj).1
    exact this) hj hs
  exact List.length_pos_of_mem hm
theorem words_get {i : Nat} {d : D} (h : (words.map D.str)[i]? = some d) : ∃ wd, words[i]? = some wd ∧ d = .str wd := by
  rw [List.getElem?_map] at h
  cases e : words[i]? with
  | none => rw [e] at h; cases h
  | some w => rw [e] at h; cases h; exact ⟨w, rfl, rfl⟩
/-- a step -/
theorem w_step {kind lives : Int} {s : Sx} {o : Ob} {T : List (Option Ob)} {x y : D} (hl : 0 < lives) (hk : kind = 2 ∨ kind = 3) (ok : s.Ok) (hx : DX T x s.xs) (hy : DX T y s.ys) (hF : Feed o)
    {e0 e2 e3 e7 e8 e9 e10 e11 e12 : Slot} :
    wpO (exs (tx.gam 9) b_law_2 ⟨[e0, .val (.ref 0), e2, e3, .val (.int kind), .val (.int lives), .val (s.at x y), e7, e8, e9, e10, e11, e12], some o :: T⟩)
      (fun f S => f = .nx ∧ ∃ s' : Sx, ∃ T' o' x' y' a b c d, s'.Ok ∧ DX T' x' s'.xs ∧ DX T' y' s'.ys ∧ Feed o' ∧ S = ⟨[e0, .val (.ref 0), e2, e3, .val (.int kind), .val (.int lives), .val (s'.at x' y'), e7, a, b, c, d, e12], some o' :: T'⟩) NoX := by
  have hd : ∀ S, callM (tx.gam 9) "_law_call_deeds" [] S = .ok (.n (.lst deedsD)) S := fun S => q_deeds 8 S
  have hadd : opBin .add (.lst deedsD) (.lst [.str "come back", .str ""]) = some (.n (.lst (words.map .str))) := by
    show (if deedsD.length + 2 ≤ sizeLine then some (Rv.n (.lst (words.map .str))) else none) = _
    rw [if_pos (by rw [sizeLine_eq]; exact Nat.le_of_ble_eq_true rfl)]
  have hit : items (.lst (words.map D.str)) = some (words.map .str) := rfl
  simp only [b_law_2, bind_at, out_ok, pure_at, a_loc, a_k, a_glob, a_bin, a_neg, a_cmp, cq_some, a_cell, ce_v, ce_o, a_chain, a_and, a_or, a_not, a_ife, a_lst, a_tup, a_idx, a_slc, a_call, a_blt, a_nil, a_cons, h_nil, h_cons, o_no, o_some, t_nil, t_cons, tv_at, i_seq, i_rng1, i_rng2, i_enum, p_v, p_s, peekS_val, peekS_own, d_int, d_bl, d_str, d_non, d_lst, d_tup, d_ro, ho_v, ho_s, ho_l, fr_v, fr_l, fr_s, frzV_val, frzV_own, oo_some, te_bl, te_int, te_non, te_lst, te_tup, ps_nil, ps_cons, pk_v, pk_s, consO_some, ad_nil, ad_cons, ad_v, ad_s, argS_val, argS_own, locV_val, locV_own, globV_some, negV_int, intO_int, slotV_some, x_nil, nextM_nx, nextM_ret, nextM_brk, nextM_ct, x_cons, x_asg, x_cell, x_par, g_v, g_n, g_s, g_tp, gd_nm, gd_2, gd_3, parM_two, x_expr, x_ret, r_v, r_n, r_s, retV_own, retV_val, x_retN, x_ite, x_raise, x_try, x_pass, x_brk, x_cont, x_setI, putI_int, x_augI, nn_v, nn_s, x_app, appM_lst, iteM_t, iteM_f, iteM_at, op_addI, op_subI, cm_lt, cm_le, cm_gt, cm_ge, cm_is, cm_isn, cm_eqI, cm_neI, ix_l, ix_t, ix_r, List.getElem?_cons_succ, List.getElem?_cons_zero, List.set_cons_succ, List.set_cons_zero, List.length_cons, List.length_nil, Nat.reduceAdd, Nat.reduceLT, Nat.reduceLeDiff, p_nl, g_t2, gt2, eqS, neS, inL3, inS2, inT3, ofS, String.reduceEq, Int.reduceEq, at0, at1, at2, at3, bt0, bt1, bt2, ct0, ct1, dt0, dr_l, bl_int, z0, z1, z2, z3, z4, decide_true, decide_false, Bool.or_false, Bool.false_or, Bool.or_true, Bool.true_or, Bool.not_true, Bool.not_false, Bool.false_eq_true, if_true, if_false, List.isEmpty_nil, List.isEmpty_cons, negV_int, Int.reduceNeg, w_ok, x_for, hd, hadd, hit, out_assoc]
  refine w_for (fun i S => ∃ fits E a b c, S = ⟨[e0, .val (.ref 0), e2, e3, .val (.int kind), .val (.int lives), .val (s.at x y), e7, .own (.lst fits), a, b, c, e12], some o :: (T ++ E)⟩ ∧ FitsI (nx kind lives s) i fits)
    ⟨[], [], e9, e10, e11, by rw [List.append_nil], Nat.le_refl _, fun d h => (List.not_mem_nil h).elim, fun j w h => absurd h (Nat.not_lt_zero _)⟩ (fun i d S hdi ⟨fits, E, a, b, c, hS, hI⟩ => ?_) (fun S ⟨fits, E, a, b, c, hS, hI⟩ => ?_)
  · subst hS
    obtain ⟨wd, hw, rfl⟩ := words_get hdi
    have hi : i < 12 := (List.getElem?_eq_some_iff.mp hw).1
    simp only [bind_at, out_ok, pure_at, a_loc, a_k, a_glob, a_bin, a_neg, a_cmp, cq_some, a_cell, ce_v, ce_o, a_chain, a_and, a_or, a_not, a_ife, a_lst, a_tup, a_idx, a_slc, a_call, a_blt, a_nil, a_cons, h_nil, h_cons, o_no, o_some, t_nil, t_cons, tv_at, i_seq, i_rng1, i_rng2, i_enum, p_v, p_s, peekS_val, peekS_own, d_int, d_bl, d_str, d_non, d_lst, d_tup, d_ro, ho_v, ho_s, ho_l, fr_v, fr_l, fr_s, frzV_val, frzV_own, oo_some, te_bl, te_int, te_non, te_lst, te_tup, ps_nil, ps_cons, pk_v, pk_s, consO_some, ad_nil, ad_cons, ad_v, ad_s, argS_val, argS_own, locV_val, locV_own, globV_some, negV_int, intO_int, slotV_some, x_nil, nextM_nx, nextM_ret, nextM_brk, nextM_ct, x_cons, x_asg, x_cell, x_par, g_v, g_n, g_s, g_tp, gd_nm, gd_2, gd_3, parM_two, x_expr, x_ret, r_v, r_n, r_s, retV_own, retV_val, x_retN, x_ite, x_raise, x_try, x_pass, x_brk, x_cont, x_setI, putI_int, x_augI, nn_v, nn_s, x_app, appM_lst, iteM_t, iteM_f, iteM_at, op_addI, op_subI, cm_lt, cm_le, cm_gt, cm_ge, cm_is, cm_isn, cm_eqI, cm_neI, ix_l, ix_t, ix_r, List.getElem?_cons_succ, List.getElem?_cons_zero, List.set_cons_succ, List.set_cons_zero, List.length_cons, List.length_nil, Nat.reduceAdd, Nat.reduceLT, Nat.reduceLeDiff, p_nl, g_t2, gt2, eqS, neS, inL3, inS2, inT3, ofS, String.reduceEq, Int.reduceEq, at0, at1, at2, at3, bt0, bt1, bt2, ct0, ct1, dt0, dr_l, bl_int, z0, z1, z2, z3, z4, decide_true, decide_false, Bool.or_false, Bool.false_or, Bool.or_true, Bool.true_or, Bool.not_true, Bool.not_false, Bool.false_eq_true, if_true, if_false, List.isEmpty_nil, List.isEmpty_cons, negV_int, Int.reduceNeg, w_ok]
    refine w_imp (w_word hl hk ok (hx.app E o) (hy.app E o) wd (List.mem_of_getElem? hw) (Nat.le_trans hI.1 (by omega))) ?_
    rintro f S' ⟨rfl, E', a', b', rfl⟩
    exact ⟨.inl rfl, _, E ++ E', .val (.str wd), a', b', by rw [← List.append_assoc]; rfl, fits_step hI hw⟩
  · subst hS
    rw [nextM_nx]
    have hI : FitsI (nx kind lives s) 12 fits := hI
    have hpos := fits_any hI (one_fits ok)
    have hlen : fits.length ≤ 12 := hI.1
    have c2 : ∀ ρ, callM (tx.gam 9) "_law_asked" [.v (.int kind), .v (.int lives), .v (s.at x y), .v (.tup [.str "ask", .int 1])] ⟨ρ, some o :: (T ++ E)⟩ = .ok (.v .non) ⟨ρ, some o :: (T ++ E)⟩ := fun ρ =>
      callM_ok (impure_of _ _ (by decide +kernel)) (frzs_v (frzs_v (frzs_v (frzs_v frzs_nil)))) (as_two (k := 5) ok (hx.app E o) (hy.app E o))
    have c3 : ∀ S, callM (tx.gam 9) "is_mixed" [.v (s.at x y)] S = .ok (.v (.bl (mx s))) S := fun S => q_mixed 8 s x y S
    have c4 : ∀ S, callM (tx.gam 9) "_law_is_mixed" [.v (s.at x y)] S = .ok (.v (.bl (mx s))) S := fun S => q_lmixed 8 s x y S
    have c5 : ∀ ρ, callM (tx.gam 9) "_law_same" [.v (.bl (mx s)), .v (.bl (mx s))] ⟨ρ, some o :: (T ++ E)⟩ = .ok (.v (.bl true)) ⟨ρ, some o :: (T ++ E)⟩ := fun ρ => q_same .bl
    have c6 : bltM .len [.s 8] ⟨[e0, .val (.ref 0), e2, e3, .val (.int kind), .val (.int lives), .val (s.at x y), e7, .own (.lst fits), a, b, c, e12], some o :: (T ++ E)⟩ = .ok (.v (.int fits.length)) ⟨[e0, .val (.ref 0), e2, e3, .val (.int kind), .val (.int lives), .val (s.at x y), e7, .own (.lst fits), a, b, c, e12], some o :: (T ++ E)⟩ := bltM_ok rfl rfl
    simp only [r_law_1, bind_at, out_ok, pure_at, a_loc, a_k, a_glob, a_bin, a_neg, a_cmp, cq_some, a_cell, ce_v, ce_o, a_chain, a_and, a_or, a_not, a_ife, a_lst, a_tup, a_idx, a_slc, a_call, a_blt, a_nil, a_cons, h_nil, h_cons, o_no, o_some, t_nil, t_cons, tv_at, i_seq, i_rng1, i_rng2, i_enum, p_v, p_s, peekS_val, peekS_own, d_int, d_bl, d_str, d_non, d_lst, d_tup, d_ro, ho_v, ho_s, ho_l, fr_v, fr_l, fr_s, frzV_val, frzV_own, oo_some, te_bl, te_int, te_non, te_lst, te_tup, ps_nil, ps_cons, pk_v, pk_s, consO_some, ad_nil, ad_cons, ad_v, ad_s, argS_val, argS_own, locV_val, locV_own, globV_some, negV_int, intO_int, slotV_some, x_nil, nextM_nx, nextM_ret, nextM_brk, nextM_ct, x_cons, x_asg, x_cell, x_par, g_v, g_n, g_s, g_tp, gd_nm, gd_2, gd_3, parM_two, x_expr, x_ret, r_v, r_n, r_s, retV_own, retV_val, x_retN, x_ite, x_raise, x_try, x_pass, x_brk, x_cont, x_setI, putI_int, x_augI, nn_v, nn_s, x_app, appM_lst, iteM_t, iteM_f, iteM_at, op_addI, op_subI, cm_lt, cm_le, cm_gt, cm_ge, cm_is, cm_isn, cm_eqI, cm_neI, ix_l, ix_t, ix_r, List.getElem?_cons_succ, List.getElem?_cons_zero, List.set_cons_succ, List.set_cons_zero, List.length_cons, List.length_nil, Nat.reduceAdd, Nat.reduceLT, Nat.reduceLeDiff, p_nl, g_t2, gt2, eqS, neS, inL3, inS2, inT3, ofS, String.reduceEq, Int.reduceEq, at0, at1, at2, at3, bt0, bt1, bt2, ct0, ct1, dt0, dr_l, bl_int, z0, z1, z2, z3, z4, decide_true, decide_false, Bool.or_false, Bool.false_or, Bool.or_true, Bool.true_or, Bool.not_true, Bool.not_false, Bool.false_eq_true, if_true, if_false, List.isEmpty_nil, List.isEmpty_cons, negV_int, Int.reduceNeg, w_ok, c2, c3, c4, c5, c6, isNonD, out_assoc]
    refine w_draw (c_law_draw 8) (impure_of _ _ (by decide +kernel)) (by omega) (by omega) hF fun u o' h0 h1 hF' => ?_
    obtain ⟨n, rfl⟩ := Int.eq_ofNat_of_zero_le h0
    have hn : n < fits.length := by omega
    obtain ⟨dd, hdd⟩ : ∃ d, fits[n]? = some d := ⟨_, List.getElem?_eq_getElem hn⟩
    obtain ⟨wd, hw, rfl, hs⟩ := hI.2.1 dd (List.mem_of_getElem? hdd)
    have ha : atI fits (n : Int) = some (.str wd) := IR.atI_nat hdd
    obtain ⟨d, k1, hg⟩ := oc_ex (lc_all (k := 8) (kind := kind) (lives := lives) hl hk ok (hx.app E o') (hy.app E o') wd hw)
    cases e : nx kind lives s wd with
    | none => rw [e] at hs; cases hs
    | some s' =>
      rw [e] at hg
      obtain ⟨x', y', rfl, dx, dy⟩ := (hg : ∃ x y, d = s'.at x y ∧ deref (some o' :: (T ++ E)) x = .lst s'.xs ∧ deref (some o' :: (T ++ E)) y = .lst s'.ys)
      have ok' := nx_ok ok wd hw e
      have q1 : ∀ ρ, callM (tx.gam 9) "_law_call" [.v (.int kind), .v (.int lives), .v (s.at x y), .v (.str wd)] ⟨ρ, some o' :: (T ++ E)⟩ = .ok (.v (s'.at x' y')) ⟨ρ, some o' :: (T ++ E)⟩ := fun ρ =>
        callM_ok (impure_of _ _ (by decide +kernel)) (frzs_v (frzs_v (frzs_v (frzs_v frzs_nil)))) k1
      have lx : ∀ ρ, bltM .list [.v x'] ⟨ρ, some o' :: (T ++ E)⟩ = .ok (.n (.lst s'.xs)) ⟨ρ, some o' :: (T ++ E)⟩ := fun ρ => bl_listR dx
      have ly : ∀ ρ, bltM .list [.v y'] ⟨ρ, some o' :: (T ++ E)⟩ = .ok (.n (.lst s'.ys)) ⟨ρ, some o' :: (T ++ E)⟩ := fun ρ => bl_listR dy
      simp only [bind_at, out_ok, pure_at, a_loc, a_k, a_glob, a_bin, a_neg, a_cmp, cq_some, a_cell, ce_v, ce_o, a_chain, a_and, a_or, a_not, a_ife, a_lst, a_tup, a_idx, a_slc, a_call, a_blt, a_nil, a_cons, h_nil, h_cons, o_no, o_some, t_nil, t_cons, tv_at, i_seq, i_rng1, i_rng2, i_enum, p_v, p_s, peekS_val, peekS_own, d_int, d_bl, d_str, d_non, d_lst, d_tup, d_ro, ho_v, ho_s, ho_l, fr_v, fr_l, fr_s, frzV_val, frzV_own, oo_some, te_bl, te_int, te_non, te_lst, te_tup, ps_nil, ps_cons, pk_v, pk_s, consO_some, ad_nil, ad_cons, ad_v, ad_s, argS_val, argS_own, locV_val, locV_own, globV_some, negV_int, intO_int, slotV_some, x_nil, nextM_nx, nextM_ret, nextM_brk, nextM_ct, x_cons, x_asg, x_cell, x_par, g_v, g_n, g_s, g_tp, gd_nm, gd_2, gd_3, parM_two, x_expr, x_ret, r_v, r_n, r_s, retV_own, retV_val, x_retN, x_ite, x_raise, x_try, x_pass, x_brk, x_cont, x_setI, putI_int, x_augI, nn_v, nn_s, x_app, appM_lst, iteM_t, iteM_f, iteM_at, op_addI, op_subI, cm_lt, cm_le, cm_gt, cm_ge, cm_is, cm_isn, cm_eqI, cm_neI, ix_l, ix_t, ix_r, List.getElem?_cons_succ, List.getElem?_cons_zero, List.set_cons_succ, List.set_cons_zero, List.length_cons, List.length_nil, Nat.reduceAdd, Nat.reduceLT, Nat.reduceLeDiff, p_nl, g_t2, gt2, eqS, neS, inL3, inS2, inT3, ofS, String.reduceEq, Int.reduceEq, at0, at1, at2, at3, bt0, bt1, bt2, ct0, ct1, dt0, dr_l, bl_int, z0, z1, z2, z3, z4, decide_true, decide_false, Bool.or_false, Bool.false_or, Bool.or_true, Bool.true_or, Bool.not_true, Bool.not_false, Bool.false_eq_true, if_true, if_false, List.isEmpty_nil, List.isEmpty_cons, negV_int, Int.reduceNeg, w_ok, ha, q1, lx, ly]
      simp only [Sx.at, bind_at, out_ok, pure_at, a_loc, a_k, a_glob, a_bin, a_neg, a_cmp, cq_some, a_cell, ce_v, ce_o, a_chain, a_and, a_or, a_not, a_ife, a_lst, a_tup, a_idx, a_slc, a_call, a_blt, a_nil, a_cons, h_nil, h_cons, o_no, o_some, t_nil, t_cons, tv_at, i_seq, i_rng1, i_rng2, i_enum, p_v, p_s, peekS_val, peekS_own, d_int, d_bl, d_str, d_non, d_lst, d_tup, d_ro, ho_v, ho_s, ho_l, fr_v, fr_l, fr_s, frzV_val, frzV_own, oo_some, te_bl, te_int, te_non, te_lst, te_tup, ps_nil, ps_cons, pk_v, pk_s, consO_some, ad_nil, ad_cons, ad_v, ad_s, argS_val, argS_own, locV_val, locV_own, globV_some, negV_int, intO_int, slotV_some, x_nil, nextM_nx, nextM_ret, nextM_brk, nextM_ct, x_cons, x_asg, x_cell, x_par, g_v, g_n, g_s, g_tp, gd_nm, gd_2, gd_3, parM_two, x_expr, x_ret, r_v, r_n, r_s, retV_own, retV_val, x_retN, x_ite, x_raise, x_try, x_pass, x_brk, x_cont, x_setI, putI_int, x_augI, nn_v, nn_s, x_app, appM_lst, iteM_t, iteM_f, iteM_at, op_addI, op_subI, cm_lt, cm_le, cm_gt, cm_ge, cm_is, cm_isn, cm_eqI, cm_neI, ix_l, ix_t, ix_r, List.getElem?_cons_succ, List.getElem?_cons_zero, List.set_cons_succ, List.set_cons_zero, List.length_cons, List.length_nil, Nat.reduceAdd, Nat.reduceLT, Nat.reduceLeDiff, p_nl, g_t2, gt2, eqS, neS, inL3, inS2, inT3, ofS, String.reduceEq, Int.reduceEq, at0, at1, at2, at3, bt0, bt1, bt2, ct0, ct1, dt0, dr_l, bl_int, z0, z1, z2, z3, z4, decide_true, decide_false, Bool.or_false, Bool.false_or, Bool.or_true, Bool.true_or, Bool.not_true, Bool.not_false, Bool.false_eq_true, if_true, if_false, List.isEmpty_nil, List.isEmpty_cons, negV_int, Int.reduceNeg, w_ok, lx, ly]
      exact ⟨trivial, s', T ++ E, o', .lst s'.xs, .lst s'.ys, _, _, _, _, ok', fun _ => rfl, fun _ => rfl, hF', rfl⟩
end Law

set_option Elab.async false
set_option linter.all false
set_option maxRecDepth 100000
set_option maxHeartbeats 4000000
namespace Law
open PySem L2 IR
def bgn : D := .tup [.tup [.int 0, .str "shut", .int (-1)], .tup [.int 0, .str "shut", .int (-1)], .lst [], .lst []]
def StepI (e0 e3 e12 : Slot) (kind lives : Int) (S : Sm) : Prop := ∃ s : Sx, ∃ o T x y e7 a b c d, s.Ok ∧ DX T x s.xs ∧ DX T y s.ys ∧ Feed o ∧ S = ⟨[e0, .val (.ref 0), .val bgn, e3, .val (.int kind), .val (.int lives), .val (s.at x y), e7, a, b, c, d, e12], some o :: T⟩
theorem r40 (s : Sm) : rngM (.int 40) s = .ok (rangeL 0 40) s := by rw [rngM_int (small_of (by decide) (by decide))]; rfl
theorem w_loop {kind lives : Int} {e0 e3 e12 : Slot} (hl : 0 < lives) (hk : kind = 2 ∨ kind = 3) {S : Sm} (h0 : StepI e0 e3 e12 kind lives S) :
    wpO ((ex (tx.gam 9) (.for (.nm 7) (.rng1 (.k (.int 40))) b_law_2) S).bind (nextM (exs (tx.gam 9) .nil))) (fun f S => f = .nx ∧ StepI e0 e3 e12 kind lives S) NoX := by
  obtain ⟨ρ, C⟩ := S
  simp only [bind_at, out_ok, pure_at, a_loc, a_k, a_glob, a_bin, a_neg, a_cmp, cq_some, a_cell, ce_v, ce_o, a_chain, a_and, a_or, a_not, a_ife, a_lst, a_tup, a_idx, a_slc, a_call, a_blt, a_nil, a_cons, h_nil, h_cons, o_no, o_some, t_nil, t_cons, tv_at, i_seq, i_rng1, i_rng2, i_enum, p_v, p_s, peekS_val, peekS_own, d_int, d_bl, d_str, d_non, d_lst, d_tup, d_ro, ho_v, ho_s, ho_l, fr_v, fr_l, fr_s, frzV_val, frzV_own, oo_some, te_bl, te_int, te_non, te_lst, te_tup, ps_nil, ps_cons, pk_v, pk_s, consO_some, ad_nil, ad_cons, ad_v, ad_s, argS_val, argS_own, locV_val, locV_own, globV_some, negV_int, intO_int, slotV_some, x_nil, nextM_nx, nextM_ret, nextM_brk, nextM_ct, x_cons, x_asg, x_cell, x_par, g_v, g_n, g_s, g_tp, gd_nm, gd_2, gd_3, parM_two, x_expr, x_ret, r_v, r_n, r_s, retV_own, retV_val, x_retN, x_ite, x_raise, x_try, x_pass, x_brk, x_cont, x_setI, putI_int, x_augI, nn_v, nn_s, x_app, appM_lst, iteM_t, iteM_f, iteM_at, op_addI, op_subI, cm_lt, cm_le, cm_gt, cm_ge, cm_is, cm_isn, cm_eqI, cm_neI, ix_l, ix_t, ix_r, List.getElem?_cons_succ, List.getElem?_cons_zero, List.set_cons_succ, List.set_cons_zero, List.length_cons, List.length_nil, Nat.reduceAdd, Nat.reduceLT, Nat.reduceLeDiff, p_nl, g_t2, gt2, eqS, neS, inL3, inS2, inT3, ofS, String.reduceEq, Int.reduceEq, at0, at1, at2, at3, bt0, bt1, bt2, ct0, ct1, dt0, dr_l, bl_int, z0, z1, z2, z3, z4, decide_true, decide_false, Bool.or_false, Bool.false_or, Bool.or_true, Bool.true_or, Bool.not_true, Bool.not_false, Bool.false_eq_true, if_true, if_false, List.isEmpty_nil, List.isEmpty_cons, negV_int, Int.reduceNeg, w_ok, x_for, r40]
  refine w_forN (StepI e0 e3 e12 kind lives) h0 (fun i d S hd hI => ?_) (fun S hI => ?_)
  · obtain ⟨s, o, T, x, y, e7, a, b, c, d', ok, hx, hy, hF, rfl⟩ := hI
    simp only [bind_at, out_ok, pure_at, a_loc, a_k, a_glob, a_bin, a_neg, a_cmp, cq_some, a_cell, ce_v, ce_o, a_chain, a_and, a_or, a_not, a_ife, a_lst, a_tup, a_idx, a_slc, a_call, a_blt, a_nil, a_cons, h_nil, h_cons, o_no, o_some, t_nil, t_cons, tv_at, i_seq, i_rng1, i_rng2, i_enum, p_v, p_s, peekS_val, peekS_own, d_int, d_bl, d_str, d_non, d_lst, d_tup, d_ro, ho_v, ho_s, ho_l, fr_v, fr_l, fr_s, frzV_val, frzV_own, oo_some, te_bl, te_int, te_non, te_lst, te_tup, ps_nil, ps_cons, pk_v, pk_s, consO_some, ad_nil, ad_cons, ad_v, ad_s, argS_val, argS_own, locV_val, locV_own, globV_some, negV_int, intO_int, slotV_some, x_nil, nextM_nx, nextM_ret, nextM_brk, nextM_ct, x_cons, x_asg, x_cell, x_par, g_v, g_n, g_s, g_tp, gd_nm, gd_2, gd_3, parM_two, x_expr, x_ret, r_v, r_n, r_s, retV_own, retV_val, x_retN, x_ite, x_raise, x_try, x_pass, x_brk, x_cont, x_setI, putI_int, x_augI, nn_v, nn_s, x_app, appM_lst, iteM_t, iteM_f, iteM_at, op_addI, op_subI, cm_lt, cm_le, cm_gt, cm_ge, cm_is, cm_isn, cm_eqI, cm_neI, ix_l, ix_t, ix_r, List.getElem?_cons_succ, List.getElem?_cons_zero, List.set_cons_succ, List.set_cons_zero, List.length_cons, List.length_nil, Nat.reduceAdd, Nat.reduceLT, Nat.reduceLeDiff, p_nl, g_t2, gt2, eqS, neS, inL3, inS2, inT3, ofS, String.reduceEq, Int.reduceEq, at0, at1, at2, at3, bt0, bt1, bt2, ct0, ct1, dt0, dr_l, bl_int, z0, z1, z2, z3, z4, decide_true, decide_false, Bool.or_false, Bool.false_or, Bool.or_true, Bool.true_or, Bool.not_true, Bool.not_false, Bool.false_eq_true, if_true, if_false, List.isEmpty_nil, List.isEmpty_cons, negV_int, Int.reduceNeg, w_ok]
    refine w_imp (w_step hl hk ok hx hy hF) ?_
    rintro f S ⟨rfl, s', T', o', x', y', a, b, c, d', ok', hx', hy', hF', rfl⟩
    exact ⟨.inl rfl, s', o', T', x', y', _, a, b, c, d', ok', hx', hy', hF', rfl⟩
  · simp only [bind_at, out_ok, pure_at, a_loc, a_k, a_glob, a_bin, a_neg, a_cmp, cq_some, a_cell, ce_v, ce_o, a_chain, a_and, a_or, a_not, a_ife, a_lst, a_tup, a_idx, a_slc, a_call, a_blt, a_nil, a_cons, h_nil, h_cons, o_no, o_some, t_nil, t_cons, tv_at, i_seq, i_rng1, i_rng2, i_enum, p_v, p_s, peekS_val, peekS_own, d_int, d_bl, d_str, d_non, d_lst, d_tup, d_ro, ho_v, ho_s, ho_l, fr_v, fr_l, fr_s, frzV_val, frzV_own, oo_some, te_bl, te_int, te_non, te_lst, te_tup, ps_nil, ps_cons, pk_v, pk_s, consO_some, ad_nil, ad_cons, ad_v, ad_s, argS_val, argS_own, locV_val, locV_own, globV_some, negV_int, intO_int, slotV_some, x_nil, nextM_nx, nextM_ret, nextM_brk, nextM_ct, x_cons, x_asg, x_cell, x_par, g_v, g_n, g_s, g_tp, gd_nm, gd_2, gd_3, parM_two, x_expr, x_ret, r_v, r_n, r_s, retV_own, retV_val, x_retN, x_ite, x_raise, x_try, x_pass, x_brk, x_cont, x_setI, putI_int, x_augI, nn_v, nn_s, x_app, appM_lst, iteM_t, iteM_f, iteM_at, op_addI, op_subI, cm_lt, cm_le, cm_gt, cm_ge, cm_is, cm_isn, cm_eqI, cm_neI, ix_l, ix_t, ix_r, List.getElem?_cons_succ, List.getElem?_cons_zero, List.set_cons_succ, List.set_cons_zero, List.length_cons, List.length_nil, Nat.reduceAdd, Nat.reduceLT, Nat.reduceLeDiff, p_nl, g_t2, gt2, eqS, neS, inL3, inS2, inT3, ofS, String.reduceEq, Int.reduceEq, at0, at1, at2, at3, bt0, bt1, bt2, ct0, ct1, dt0, dr_l, bl_int, z0, z1, z2, z3, z4, decide_true, decide_false, Bool.or_false, Bool.false_or, Bool.or_true, Bool.true_or, Bool.not_true, Bool.not_false, Bool.false_eq_true, if_true, if_false, List.isEmpty_nil, List.isEmpty_cons, negV_int, Int.reduceNeg, w_ok]
    exact ⟨trivial, hI⟩
def rest3 : Ss := (.cons (.asg (.nm 6) (.call "first_call" .nil)) (.cons (.ite (.not (.call "_law_same" (.cons (.loc 6) (.cons (.loc 2) .nil)))) (.cons (.ret (.k (.bl false))) .nil) .nil) (.cons (.app (.idx (.loc 6) (.k (.int 2))) (.tup (.cons (.k (.str "ask")) (.cons (.k (.int 1)) .nil)))) (.cons (.asg (.nm 6) (.call "first_call" .nil)) (.cons (.for (.nm 7) (.rng1 (.k (.int 40))) b_law_2) .nil)))))
structure Wp (o : Out Fl) (Q : Fl → Sm → Prop) : Prop where
  h : wpO o Q NoX
theorem Wp.imp {o : Out Fl} {Q R : Fl → Sm → Prop} (h : Wp o R) (h2 : ∀ f s, R f s → Q f s) : Wp o Q := ⟨w_imp h.h h2⟩
theorem w_rest {kind lives : Int} {e0 e3 e6 e7 e8 e9 e10 e11 e12 : Slot} (hl : 0 < lives) (hk : kind = 2 ∨ kind = 3) {o : Ob} {C T : List (Option Ob)} (hF : Feed o) (hC : C = some o :: T) :
    Wp (exs (tx.gam 9) rest3 ⟨[e0, .val (.ref 0), .val bgn, e3, .val (.int kind), .val (.int lives), e6, e7, e8, e9, e10, e11, e12], C⟩) (fun f S => f = .nx ∧ StepI e0 e3 e12 kind lives S) := by
  constructor
  have f1 : ∀ ρ, callM (tx.gam 9) "first_call" [] ⟨ρ, C⟩ = .ok (.v (s0.at (.ref C.length) (.ref (C.length + 1)))) ⟨ρ, C ++ [some (.lst []), some (.lst [])]⟩ := fun ρ => q_first 8 ρ _
  have f2 : ∀ ρ, callM (tx.gam 9) "_law_same" [.v (s0.at (.ref C.length) (.ref (C.length + 1))), .v bgn] ⟨ρ, C ++ [some (.lst []), some (.lst [])]⟩ = .ok (.v (.bl true)) ⟨ρ, C ++ [some (.lst []), some (.lst [])]⟩ := fun ρ =>
    q_same (a := s0.at (.ref C.length) (.ref (C.length + 1))) (b := s0.at (.lst []) (.lst [])) (eqv_st s0_ok (dr_ref cell0) (dr_ref cell1) rfl rfl)
  have f3 : deref (C ++ [some (.lst []), some (.lst [])]) (.ref C.length) = .lst [] := dr_ref cell0
  have f4 : ∀ ρ, putO (.v (.ref C.length)) (appL (.tup [.str "ask", .int 1])) ⟨ρ, C ++ [some (.lst []), some (.lst [])]⟩ = .ok () ⟨ρ, C ++ [some (.lst [.tup [.str "ask", .int 1]]), some (.lst [])]⟩ := fun ρ => by
    rw [app_put cell0 (one_line (Nat.zero_le _)), set0]
    rfl
  have g1 : ∀ ρ, callM (tx.gam 9) "first_call" [] ⟨ρ, C ++ [some (Ob.lst [D.tup [.str "ask", .int 1]]), some (Ob.lst [])]⟩ = .ok (.v (s0.at (.ref (C ++ [some (Ob.lst [D.tup [.str "ask", .int 1]]), some (Ob.lst [])]).length) (.ref ((C ++ [some (Ob.lst [D.tup [.str "ask", .int 1]]), some (Ob.lst [])]).length + 1)))) ⟨ρ, (C ++ [some (Ob.lst [D.tup [.str "ask", .int 1]]), some (Ob.lst [])]) ++ [some (Ob.lst []), some (Ob.lst [])]⟩ := fun ρ => q_first 8 ρ _
  simp only [Sx.at, tri, s0, bgn] at f1 f2 g1
  simp only [rest3, bind_at, out_ok, pure_at, a_loc, a_k, a_glob, a_bin, a_neg, a_cmp, cq_some, a_cell, ce_v, ce_o, a_chain, a_and, a_or, a_not, a_ife, a_lst, a_tup, a_idx, a_slc, a_call, a_blt, a_nil, a_cons, h_nil, h_cons, o_no, o_some, t_nil, t_cons, tv_at, i_seq, i_rng1, i_rng2, i_enum, p_v, p_s, peekS_val, peekS_own, d_int, d_bl, d_str, d_non, d_lst, d_tup, d_ro, ho_v, ho_s, ho_l, fr_v, fr_l, fr_s, frzV_val, frzV_own, oo_some, te_bl, te_int, te_non, te_lst, te_tup, ps_nil, ps_cons, pk_v, pk_s, consO_some, ad_nil, ad_cons, ad_v, ad_s, argS_val, argS_own, locV_val, locV_own, globV_some, negV_int, intO_int, slotV_some, x_nil, nextM_nx, nextM_ret, nextM_brk, nextM_ct, x_cons, x_asg, x_cell, x_par, g_v, g_n, g_s, g_tp, gd_nm, gd_2, gd_3, parM_two, x_expr, x_ret, r_v, r_n, r_s, retV_own, retV_val, x_retN, x_ite, x_raise, x_try, x_pass, x_brk, x_cont, x_setI, putI_int, x_augI, nn_v, nn_s, x_app, appM_lst, iteM_t, iteM_f, iteM_at, op_addI, op_subI, cm_lt, cm_le, cm_gt, cm_ge, cm_is, cm_isn, cm_eqI, cm_neI, ix_l, ix_t, ix_r, List.getElem?_cons_succ, List.getElem?_cons_zero, List.set_cons_succ, List.set_cons_zero, List.length_cons, List.length_nil, Nat.reduceAdd, Nat.reduceLT, Nat.reduceLeDiff, p_nl, g_t2, gt2, eqS, neS, inL3, inS2, inT3, ofS, String.reduceEq, Int.reduceEq, at0, at1, at2, at3, bt0, bt1, bt2, ct0, ct1, dt0, dr_l, bl_int, z0, z1, z2, z3, z4, decide_true, decide_false, Bool.or_false, Bool.false_or, Bool.or_true, Bool.true_or, Bool.not_true, Bool.not_false, Bool.false_eq_true, if_true, if_false, List.isEmpty_nil, List.isEmpty_cons, negV_int, Int.reduceNeg, w_ok, bgn, f1, f2, f3, f4, g1]
  refine w_loop hl hk ?_
  subst hC
  exact ⟨s0, o, (T ++ [some (.lst [.tup [.str "ask", .int 1]]), some (.lst [])]) ++ [some (.lst []), some (.lst [])], _, _, _, _, _, _, _, s0_ok, fun o => dr_ref (C := some o :: _) cell0, fun o => dr_ref (C := some o :: _) cell1, hF, rfl⟩
end Law

set_option Elab.async false
set_option linter.all false
set_option maxRecDepth 100000
set_option maxHeartbeats 4000000
namespace Law
open PySem L2 IR
theorem callM_ok2 {Γ : Gam} {f : Str} {rs : List Rv} {ds : List D} {r : Rv} {s : Sm} {ρ : List Slot} {C C' : List (Option Ob)} (hp : Γ.isPure f = false) (ha : frzs rs s = .ok ds ⟨ρ, C⟩) (h : Γ.call f ds C = .ok r C') : callM Γ f rs s = .ok r ⟨ρ, C'⟩ := by
  unfold callM
  rw [hp]
  show (frzs rs _).bind _ = _
  rw [ha]
  show (match Γ.call f ds C with | .bad => Out.bad | .exc x C => .exc x ⟨ρ, C⟩ | .ok r C => .ok r ⟨ρ, C⟩) = _
  rw [h]
theorem w_turn {o : Ob} {T : List (Option Ob)} (hF : Feed o) {e0 e3 e4 e5 e6 e7 e8 e9 e10 e11 e12 : Slot} :
    Wp (exs (tx.gam 9) b_law_3 ⟨[e0, .val (.ref 0), .val bgn, e3, e4, e5, e6, e7, e8, e9, e10, e11, e12], some o :: T⟩)
      (fun f S => f = .nx ∧ ∃ kind lives, StepI e0 e3 e12 kind lives S) := by
  constructor
  have wd : ∀ {m : Int}, 0 < m → m < 1073741824 → ∀ {o : Ob}, Feed o → ∀ {ρ : List Slot} {C : List (Option Ob)} {g : Rv → M Fl} {Q : Fl → Sm → Prop} {X : Exn → Sm → Prop}, (∀ t o', 0 ≤ t → t < m → Feed o' → wpO (g (.v (.int t)) ⟨ρ, some o' :: C⟩) Q X) →
      wpO ((callM (tx.gam 9) "_law_draw" [.v (.ref 0), .v (.int m)] ⟨ρ, some o :: C⟩).bind g) Q X := fun hm hm2 _ hF _ _ _ _ _ h => w_draw (c_law_draw 8) (impure_of _ _ (by decide +kernel)) hm hm2 hF h
  have e : b_law_3 = (.cons (.asg (.nm 4) (.bin .add (.k (.int 2)) (.call "_law_draw" (.cons (.loc 1) (.cons (.k (.int 2)) .nil))))) (.cons (.asg (.nm 5) (.bin .add (.k (.int 2)) (.call "_law_draw" (.cons (.loc 1) (.cons (.k (.int 5)) .nil))))) rest3)) := rfl
  rw [e]
  generalize hr : rest3 = rest
  simp only [bind_at, out_ok, pure_at, a_loc, a_k, a_glob, a_bin, a_neg, a_cmp, cq_some, a_cell, ce_v, ce_o, a_chain, a_and, a_or, a_not, a_ife, a_lst, a_tup, a_idx, a_slc, a_call, a_blt, a_nil, a_cons, h_nil, h_cons, o_no, o_some, t_nil, t_cons, tv_at, i_seq, i_rng1, i_rng2, i_enum, p_v, p_s, peekS_val, peekS_own, d_int, d_bl, d_str, d_non, d_lst, d_tup, d_ro, ho_v, ho_s, ho_l, fr_v, fr_l, fr_s, frzV_val, frzV_own, oo_some, te_bl, te_int, te_non, te_lst, te_tup, ps_nil, ps_cons, pk_v, pk_s, consO_some, ad_nil, ad_cons, ad_v, ad_s, argS_val, argS_own, locV_val, locV_own, globV_some, negV_int, intO_int, slotV_some, x_nil, nextM_nx, nextM_ret, nextM_brk, nextM_ct, x_cons, x_asg, x_cell, x_par, g_v, g_n, g_s, g_tp, gd_nm, gd_2, gd_3, parM_two, x_expr, x_ret, r_v, r_n, r_s, retV_own, retV_val, x_retN, x_ite, x_raise, x_try, x_pass, x_brk, x_cont, x_setI, putI_int, x_augI, nn_v, nn_s, x_app, appM_lst, iteM_t, iteM_f, iteM_at, op_addI, op_subI, cm_lt, cm_le, cm_gt, cm_ge, cm_is, cm_isn, cm_eqI, cm_neI, ix_l, ix_t, ix_r, List.getElem?_cons_succ, List.getElem?_cons_zero, List.set_cons_succ, List.set_cons_zero, List.length_cons, List.length_nil, Nat.reduceAdd, Nat.reduceLT, Nat.reduceLeDiff, p_nl, g_t2, gt2, eqS, neS, inL3, inS2, inT3, ofS, String.reduceEq, Int.reduceEq, at0, at1, at2, at3, bt0, bt1, bt2, ct0, ct1, dt0, dr_l, bl_int, z0, z1, z2, z3, z4, decide_true, decide_false, Bool.or_false, Bool.false_or, Bool.or_true, Bool.true_or, Bool.not_true, Bool.not_false, Bool.false_eq_true, if_true, if_false, List.isEmpty_nil, List.isEmpty_cons, negV_int, Int.reduceNeg, w_ok, out_assoc]
  refine wd (by decide) (by decide) hF fun t1 o1 a1 b1 hF1 => ?_
  simp only [bind_at, out_ok, pure_at, a_loc, a_k, a_glob, a_bin, a_neg, a_cmp, cq_some, a_cell, ce_v, ce_o, a_chain, a_and, a_or, a_not, a_ife, a_lst, a_tup, a_idx, a_slc, a_call, a_blt, a_nil, a_cons, h_nil, h_cons, o_no, o_some, t_nil, t_cons, tv_at, i_seq, i_rng1, i_rng2, i_enum, p_v, p_s, peekS_val, peekS_own, d_int, d_bl, d_str, d_non, d_lst, d_tup, d_ro, ho_v, ho_s, ho_l, fr_v, fr_l, fr_s, frzV_val, frzV_own, oo_some, te_bl, te_int, te_non, te_lst, te_tup, ps_nil, ps_cons, pk_v, pk_s, consO_some, ad_nil, ad_cons, ad_v, ad_s, argS_val, argS_own, locV_val, locV_own, globV_some, negV_int, intO_int, slotV_some, x_nil, nextM_nx, nextM_ret, nextM_brk, nextM_ct, x_cons, x_asg, x_cell, x_par, g_v, g_n, g_s, g_tp, gd_nm, gd_2, gd_3, parM_two, x_expr, x_ret, r_v, r_n, r_s, retV_own, retV_val, x_retN, x_ite, x_raise, x_try, x_pass, x_brk, x_cont, x_setI, putI_int, x_augI, nn_v, nn_s, x_app, appM_lst, iteM_t, iteM_f, iteM_at, op_addI, op_subI, cm_lt, cm_le, cm_gt, cm_ge, cm_is, cm_isn, cm_eqI, cm_neI, ix_l, ix_t, ix_r, List.getElem?_cons_succ, List.getElem?_cons_zero, List.set_cons_succ, List.set_cons_zero, List.length_cons, List.length_nil, Nat.reduceAdd, Nat.reduceLT, Nat.reduceLeDiff, p_nl, g_t2, gt2, eqS, neS, inL3, inS2, inT3, ofS, String.reduceEq, Int.reduceEq, at0, at1, at2, at3, bt0, bt1, bt2, ct0, ct1, dt0, dr_l, bl_int, z0, z1, z2, z3, z4, decide_true, decide_false, Bool.or_false, Bool.false_or, Bool.or_true, Bool.true_or, Bool.not_true, Bool.not_false, Bool.false_eq_true, if_true, if_false, List.isEmpty_nil, List.isEmpty_cons, negV_int, Int.reduceNeg, w_ok, out_assoc]
  refine wd (by decide) (by decide) hF1 fun t2 o2 a2 b2 hF2 => ?_
  simp only [bind_at, out_ok, pure_at, a_loc, a_k, a_glob, a_bin, a_neg, a_cmp, cq_some, a_cell, ce_v, ce_o, a_chain, a_and, a_or, a_not, a_ife, a_lst, a_tup, a_idx, a_slc, a_call, a_blt, a_nil, a_cons, h_nil, h_cons, o_no, o_some, t_nil, t_cons, tv_at, i_seq, i_rng1, i_rng2, i_enum, p_v, p_s, peekS_val, peekS_own, d_int, d_bl, d_str, d_non, d_lst, d_tup, d_ro, ho_v, ho_s, ho_l, fr_v, fr_l, fr_s, frzV_val, frzV_own, oo_some, te_bl, te_int, te_non, te_lst, te_tup, ps_nil, ps_cons, pk_v, pk_s, consO_some, ad_nil, ad_cons, ad_v, ad_s, argS_val, argS_own, locV_val, locV_own, globV_some, negV_int, intO_int, slotV_some, x_nil, nextM_nx, nextM_ret, nextM_brk, nextM_ct, x_cons, x_asg, x_cell, x_par, g_v, g_n, g_s, g_tp, gd_nm, gd_2, gd_3, parM_two, x_expr, x_ret, r_v, r_n, r_s, retV_own, retV_val, x_retN, x_ite, x_raise, x_try, x_pass, x_brk, x_cont, x_setI, putI_int, x_augI, nn_v, nn_s, x_app, appM_lst, iteM_t, iteM_f, iteM_at, op_addI, op_subI, cm_lt, cm_le, cm_gt, cm_ge, cm_is, cm_isn, cm_eqI, cm_neI, ix_l, ix_t, ix_r, List.getElem?_cons_succ, List.getElem?_cons_zero, List.set_cons_succ, List.set_cons_zero, List.length_cons, List.length_nil, Nat.reduceAdd, Nat.reduceLT, Nat.reduceLeDiff, p_nl, g_t2, gt2, eqS, neS, inL3, inS2, inT3, ofS, String.reduceEq, Int.reduceEq, at0, at1, at2, at3, bt0, bt1, bt2, ct0, ct1, dt0, dr_l, bl_int, z0, z1, z2, z3, z4, decide_true, decide_false, Bool.or_false, Bool.false_or, Bool.or_true, Bool.true_or, Bool.not_true, Bool.not_false, Bool.false_eq_true, if_true, if_false, List.isEmpty_nil, List.isEmpty_cons, negV_int, Int.reduceNeg, w_ok, out_assoc]
  subst hr
  have h1 : 0 < 2 + t2 := by omega
  have h2 : 2 + t1 = 2 ∨ 2 + t1 = 3 := by omega
  have hw := w_rest (e0 := e0) (e3 := e3) (e6 := e6) (e7 := e7) (e8 := e8) (e9 := e9) (e10 := e10) (e11 := e11) (e12 := e12) (T := T) h1 h2 hF2 rfl
  refine Wp.h ?_
  exact Wp.imp hw fun f S h => ⟨h.1, _, _, h.2⟩
theorem tail_ok {o : Ob} {T : List (Option Ob)} {e0 e1 e2 e3 e4 e5 e6 e7 e8 e9 e10 e11 e12 : Slot} :
    Wp (exs (tx.gam 9) r_law_2 ⟨[e0, e1, e2, e3, e4, e5, e6, e7, e8, e9, e10, e11, e12], some o :: T⟩) (fun f _ => f = .ret (.v (.bl true))) := by
  constructor
  have mk : ∀ {a b : D} {v : Bool} (s : Sx), s.at a b = s.at a b → mx s = v → ∀ S, callM (tx.gam 9) "is_mixed" [.v (s.at a b)] S = .ok (.v (.bl v)) S := fun s _ h S => by rw [← h]; exact q_mixed 8 s _ _ S
  have m1 := mk (a := .lst []) (b := .lst []) (v := true) ⟨1, "open", 1, 2, "open", 1, [], []⟩ rfl (by decide +kernel)
  have m2 := mk (a := .lst []) (b := .lst []) (v := false) ⟨1, "open", 2, 2, "open", 1, [], []⟩ rfl (by decide +kernel)
  have m3 := mk (a := .lst []) (b := .lst []) (v := false) ⟨1, "asks", -1, 2, "open", 1, [], []⟩ rfl (by decide +kernel)
  have m4 := mk (a := .lst []) (b := .lst []) (v := true) ⟨2, "open", 2, 2, "open", 1, [], []⟩ rfl (by decide +kernel)
  have e2 : ∀ (C : List (Option Ob)) (a b : Bool), Eqv C 3 (.lst [.bl a, .bl b]) (.lst [.bl a, .bl b]) := fun C a b => .lst rfl rfl (by rw [sizeLine_eq]; exact Nat.le_of_ble_eq_true rfl) rfl fun i x y h1 h2 => by
    match i, h1, h2 with
    | 0, h1, h2 => cases h1; cases h2; exact .bl
    | 1, h1, h2 => cases h1; cases h2; exact .bl
  have s1 : ∀ (a b : Bool) ρ, callM (tx.gam 9) "_law_same" [.v (.lst [.bl a, .bl b]), .v (.lst [.bl a, .bl b])] ⟨ρ, some o :: T⟩ = .ok (.v (.bl true)) ⟨ρ, some o :: T⟩ := fun a b ρ => q_same (e2 _ a b)
  have s2 : ∀ (a b : Bool) (x0 x1 x2 x3 x4 x5 x6 x7 x8 x9 x10 x12 : Slot), callM (tx.gam 9) "_law_same" [.s 11, .v (.lst [.bl a, .bl b])] ⟨[x0, x1, x2, x3, x4, x5, x6, x7, x8, x9, x10, .own (.lst [.bl a, .bl b]), x12], some o :: T⟩ = .ok (.v (.bl true)) ⟨[x0, x1, x2, x3, x4, x5, x6, x7, x8, x9, x10, .val (.lst [.bl a, .bl b]), x12], some o :: T⟩ := fun a b x0 x1 x2 x3 x4 x5 x6 x7 x8 x9 x10 x12 => by
    exact callM_ok2 (impure_of _ _ (by decide +kernel)) rfl (c_same (e2 (some o :: T) a b))
  simp only [Sx.at, tri] at m1 m2 m3 m4
  simp only [r_law_2, bind_at, out_ok, pure_at, a_loc, a_k, a_glob, a_bin, a_neg, a_cmp, cq_some, a_cell, ce_v, ce_o, a_chain, a_and, a_or, a_not, a_ife, a_lst, a_tup, a_idx, a_slc, a_call, a_blt, a_nil, a_cons, h_nil, h_cons, o_no, o_some, t_nil, t_cons, tv_at, i_seq, i_rng1, i_rng2, i_enum, p_v, p_s, peekS_val, peekS_own, d_int, d_bl, d_str, d_non, d_lst, d_tup, d_ro, ho_v, ho_s, ho_l, fr_v, fr_l, fr_s, frzV_val, frzV_own, oo_some, te_bl, te_int, te_non, te_lst, te_tup, ps_nil, ps_cons, pk_v, pk_s, consO_some, ad_nil, ad_cons, ad_v, ad_s, argS_val, argS_own, locV_val, locV_own, globV_some, negV_int, intO_int, slotV_some, x_nil, nextM_nx, nextM_ret, nextM_brk, nextM_ct, x_cons, x_asg, x_cell, x_par, g_v, g_n, g_s, g_tp, gd_nm, gd_2, gd_3, parM_two, x_expr, x_ret, r_v, r_n, r_s, retV_own, retV_val, x_retN, x_ite, x_raise, x_try, x_pass, x_brk, x_cont, x_setI, putI_int, x_augI, nn_v, nn_s, x_app, appM_lst, iteM_t, iteM_f, iteM_at, op_addI, op_subI, cm_lt, cm_le, cm_gt, cm_ge, cm_is, cm_isn, cm_eqI, cm_neI, ix_l, ix_t, ix_r, List.getElem?_cons_succ, List.getElem?_cons_zero, List.set_cons_succ, List.set_cons_zero, List.length_cons, List.length_nil, Nat.reduceAdd, Nat.reduceLT, Nat.reduceLeDiff, p_nl, g_t2, gt2, eqS, neS, inL3, inS2, inT3, ofS, String.reduceEq, Int.reduceEq, at0, at1, at2, at3, bt0, bt1, bt2, ct0, ct1, dt0, dr_l, bl_int, z0, z1, z2, z3, z4, decide_true, decide_false, Bool.or_false, Bool.false_or, Bool.or_true, Bool.true_or, Bool.not_true, Bool.not_false, Bool.false_eq_true, if_true, if_false, List.isEmpty_nil, List.isEmpty_cons, negV_int, Int.reduceNeg, w_ok, m1, m2, m3, m4, s1, s2]
def OutI (ns : List Int) (s : Sm) : Prop := ∃ o T e3 e4 e5 e6 e7 e8 e9 e10 e11 e12, s = ⟨[.val (.ro (ns.map .int)), .val (.ref 0), .val bgn, e3, e4, e5, e6, e7, e8, e9, e10, e11, e12], some o :: T⟩ ∧ Feed o
theorem t_turn {Γ : Gam} (hΓ : tx.gam 9 = Γ) (ns : List Int) (s : Sm) (d : D) (hI : OutI ns s) : Wp ((M.bind (asgD (.nm 3) d) fun _ => exs Γ b_law_3) s) (fun f s => (f = .nx ∨ f = .ct) ∧ OutI ns s) := by
  obtain ⟨o, T, e3, e4, e5, e6, e7, e8, e9, e10, e11, e12, rfl, hF⟩ := hI
  constructor
  simp only [bind_at, out_ok, pure_at, a_loc, a_k, a_glob, a_bin, a_neg, a_cmp, cq_some, a_cell, ce_v, ce_o, a_chain, a_and, a_or, a_not, a_ife, a_lst, a_tup, a_idx, a_slc, a_call, a_blt, a_nil, a_cons, h_nil, h_cons, o_no, o_some, t_nil, t_cons, tv_at, i_seq, i_rng1, i_rng2, i_enum, p_v, p_s, peekS_val, peekS_own, d_int, d_bl, d_str, d_non, d_lst, d_tup, d_ro, ho_v, ho_s, ho_l, fr_v, fr_l, fr_s, frzV_val, frzV_own, oo_some, te_bl, te_int, te_non, te_lst, te_tup, ps_nil, ps_cons, pk_v, pk_s, consO_some, ad_nil, ad_cons, ad_v, ad_s, argS_val, argS_own, locV_val, locV_own, globV_some, negV_int, intO_int, slotV_some, x_nil, nextM_nx, nextM_ret, nextM_brk, nextM_ct, x_cons, x_asg, x_cell, x_par, g_v, g_n, g_s, g_tp, gd_nm, gd_2, gd_3, parM_two, x_expr, x_ret, r_v, r_n, r_s, retV_own, retV_val, x_retN, x_ite, x_raise, x_try, x_pass, x_brk, x_cont, x_setI, putI_int, x_augI, nn_v, nn_s, x_app, appM_lst, iteM_t, iteM_f, iteM_at, op_addI, op_subI, cm_lt, cm_le, cm_gt, cm_ge, cm_is, cm_isn, cm_eqI, cm_neI, ix_l, ix_t, ix_r, List.getElem?_cons_succ, List.getElem?_cons_zero, List.set_cons_succ, List.set_cons_zero, List.length_cons, List.length_nil, Nat.reduceAdd, Nat.reduceLT, Nat.reduceLeDiff, p_nl, g_t2, gt2, eqS, neS, inL3, inS2, inT3, ofS, String.reduceEq, Int.reduceEq, at0, at1, at2, at3, bt0, bt1, bt2, ct0, ct1, dt0, dr_l, bl_int, z0, z1, z2, z3, z4, decide_true, decide_false, Bool.or_false, Bool.false_or, Bool.or_true, Bool.true_or, Bool.not_true, Bool.not_false, Bool.false_eq_true, if_true, if_false, List.isEmpty_nil, List.isEmpty_cons, negV_int, Int.reduceNeg, w_ok, out_assoc]
  subst hΓ
  refine Wp.h ?_
  exact Wp.imp (w_turn hF) fun f S hh => by
    obtain ⟨rfl, kind, lives, s, o, T, x, y, e7, a, b, c, d', ok, hx, hy, hF, rfl⟩ := hh
    exact ⟨.inl rfl, o, T, _, _, _, _, _, _, _, _, _, _, rfl, hF⟩
theorem t_tail {Γ : Gam} (hΓ : tx.gam 9 = Γ) (ns : List Int) (s : Sm) (hI : OutI ns s) : Wp (exs Γ r_law_2 s) (fun f _ => f = .ret (.v (.bl true))) := by
  obtain ⟨o, T, e3, e4, e5, e6, e7, e8, e9, e10, e11, e12, rfl, hF⟩ := hI
  subst hΓ
  exact tail_ok
theorem t_law {Γ : Gam} (hΓ : tx.gam 9 = Γ) (ns : List Int) : Wp (exs Γ d_law.body ⟨[.val (.ro (ns.map .int)), .no, .no, .no, .no, .no, .no, .no, .no, .no, .no, .no, .no], []⟩) (fun f _ => f = .ret (.v (.bl true))) := by
  constructor
  have r3 : ∀ s, rngM (.int 3) s = .ok (rangeL 0 3) s := fun s => by rw [rngM_int (small_of (by decide) (by decide))]; rfl
  have hf : ∀ s, callM Γ "_law_feed" [.v (.ro (ns.map .int))] s = .ok (.n (.lst [.lst (ns.map .int), .int 0, .int 0, .int 1])) s := fun s => by rw [← hΓ]; exact h_feed (c_law_feed 8) (pure_of _ _ (by decide +kernel)) ns s
  have e : d_law.body = (.cons (.cell 1 (.call "_law_feed" (.cons (.loc 0) .nil))) (.cons (.asg (.nm 2) (.tup (.cons (.tup (.cons (.k (.int 0)) (.cons (.k (.str "shut")) (.cons (.neg (.k (.int 1))) .nil)))) (.cons (.tup (.cons (.k (.int 0)) (.cons (.k (.str "shut")) (.cons (.neg (.k (.int 1))) .nil)))) (.cons (.lst .nil) (.cons (.lst .nil) .nil)))))) (.cons (.for (.nm 3) (.rng1 (.k (.int 3))) b_law_3) r_law_2))) := rfl
  rw [e]
  generalize hr : r_law_2 = rest
  simp only [bind_at, out_ok, pure_at, a_loc, a_k, a_glob, a_bin, a_neg, a_cmp, cq_some, a_cell, ce_v, ce_o, a_chain, a_and, a_or, a_not, a_ife, a_lst, a_tup, a_idx, a_slc, a_call, a_blt, a_nil, a_cons, h_nil, h_cons, o_no, o_some, t_nil, t_cons, tv_at, i_seq, i_rng1, i_rng2, i_enum, p_v, p_s, peekS_val, peekS_own, d_int, d_bl, d_str, d_non, d_lst, d_tup, d_ro, ho_v, ho_s, ho_l, fr_v, fr_l, fr_s, frzV_val, frzV_own, oo_some, te_bl, te_int, te_non, te_lst, te_tup, ps_nil, ps_cons, pk_v, pk_s, consO_some, ad_nil, ad_cons, ad_v, ad_s, argS_val, argS_own, locV_val, locV_own, globV_some, negV_int, intO_int, slotV_some, x_nil, nextM_nx, nextM_ret, nextM_brk, nextM_ct, x_cons, x_asg, x_cell, x_par, g_v, g_n, g_s, g_tp, gd_nm, gd_2, gd_3, parM_two, x_expr, x_ret, r_v, r_n, r_s, retV_own, retV_val, x_retN, x_ite, x_raise, x_try, x_pass, x_brk, x_cont, x_setI, putI_int, x_augI, nn_v, nn_s, x_app, appM_lst, iteM_t, iteM_f, iteM_at, op_addI, op_subI, cm_lt, cm_le, cm_gt, cm_ge, cm_is, cm_isn, cm_eqI, cm_neI, ix_l, ix_t, ix_r, List.getElem?_cons_succ, List.getElem?_cons_zero, List.set_cons_succ, List.set_cons_zero, List.length_cons, List.length_nil, Nat.reduceAdd, Nat.reduceLT, Nat.reduceLeDiff, p_nl, g_t2, gt2, eqS, neS, inL3, inS2, inT3, ofS, String.reduceEq, Int.reduceEq, at0, at1, at2, at3, bt0, bt1, bt2, ct0, ct1, dt0, dr_l, bl_int, z0, z1, z2, z3, z4, decide_true, decide_false, Bool.or_false, Bool.false_or, Bool.or_true, Bool.true_or, Bool.not_true, Bool.not_false, Bool.false_eq_true, if_true, if_false, List.isEmpty_nil, List.isEmpty_cons, negV_int, Int.reduceNeg, w_ok, out_assoc, hf, ce_n, x_for, r3, List.length_nil, List.nil_append]
  subst hr
  exact w_forN (OutI ns) ⟨_, _, _, _, _, _, _, _, _, _, _, _, rfl, feed0⟩ (fun i d s _ hI => (t_turn hΓ ns s d hI).h) fun s' hI => (t_tail hΓ ns s' hI).h
theorem law_ok (ns : List Int) : OcW ((tx.gam 10).call "law" [.ro (ns.map .int)] []) fun r _ => r = .v (.bl true) := by
  rw [c_law]
  generalize hΓ : tx.gam 9 = Γ
  refine run_e d_law [.ro (ns.map .int)] [.val (.ro (ns.map .int)), .no, .no, .no, .no, .no, .no, .no, .no, .no, .no, .no, .no] rfl (by decide) rfl ?_
  exact w_imp (t_law hΓ ns).h fun f s hh => by subst hh; rfl
end Law

set_option Elab.async false
set_option linter.all false
set_option maxRecDepth 100000
set_option maxHeartbeats 1000000
namespace Law
open PySem L2 IR
end Law
namespace Law
open PySem L2 IR
theorem law_call_ok (ns : List Int) : ∃ C, (tx.gam 10).call "law" [.ro (ns.map .int)] [] = .ok (.v (.bl true)) C := by
  have h := law_ok ns
  cases e : (tx.gam 10).call "law" [.ro (ns.map .int)] [] with
  | ok r C =>
    rw [e] at h
    have h : r = .v (.bl true) := h
    subst h
    exact ⟨C, rfl⟩
  | exc x C => rw [e] at h; exact h.elim
  | bad => rw [e] at h; exact h.elim
theorem at_first_call {K : PySem.W.Frag} {h : Heap} {mg : Str → Option Value} {f : Addr} {oc : Value} {od an : Option Addr} {sl : Array (Option Value)} {kV dc pm cd ct : Value} (X : K.In h) (G : h.Ns mainGlobals mg) (a : PySem.W.nsIn K mainGlobals "first_call" = some (some (.ref f)))
    (l : K.lookup f = some ⟨oc, od, .func (PySem.W.fnOf "first_call" "first_call" (defArgs (sAt 12)) (defBody (sAt 12)) (defScope (sAt 12)) .none kV dc pm an cd ct), sl⟩) (c : PySem.W.codeIn K cd "first_call" = true) (k : PySem.W.keepIn K (.ref f) = true) : e_first_call.At K mg :=
  ⟨f, _, PySem.W.mg_of X G a, fun_mk (st := sAt 12) l c k, (fun_mk (st := sAt 12) l c k).binds (ps := []) fun _ _ _ _ _ _ us hl => match us, hl with | [], _ => rfl⟩
theorem at_put_on {K : PySem.W.Frag} {h : Heap} {mg : Str → Option Value} {f : Addr} {oc : Value} {od an : Option Addr} {sl : Array (Option Value)} {kV dc pm cd ct : Value} (X : K.In h) (G : h.Ns mainGlobals mg) (a : PySem.W.nsIn K mainGlobals "put_on" = some (some (.ref f)))
    (l : K.lookup f = some ⟨oc, od, .func (PySem.W.fnOf "put_on" "put_on" (defArgs (sAt 13)) (defBody (sAt 13)) (defScope (sAt 13)) .none kV dc pm an cd ct), sl⟩) (c : PySem.W.codeIn K cd "put_on" = true) (k : PySem.W.keepIn K (.ref f) = true) : e_put_on.At K mg :=
  ⟨f, _, PySem.W.mg_of X G a, fun_mk (st := sAt 13) l c k, (fun_mk (st := sAt 13) l c k).binds (ps := ["road", "letter"]) fun _ _ _ _ _ _ us hl => match us, hl with | [_, _], _ => rfl⟩
theorem at_arrived_there {K : PySem.W.Frag} {h : Heap} {mg : Str → Option Value} {f : Addr} {oc : Value} {od an : Option Addr} {sl : Array (Option Value)} {kV dc pm cd ct : Value} (X : K.In h) (G : h.Ns mainGlobals mg) (a : PySem.W.nsIn K mainGlobals "arrived_there" = some (some (.ref f)))
    (l : K.lookup f = some ⟨oc, od, .func (PySem.W.fnOf "arrived_there" "arrived_there" (defArgs (sAt 14)) (defBody (sAt 14)) (defScope (sAt 14)) .none kV dc pm an cd ct), sl⟩) (c : PySem.W.codeIn K cd "arrived_there" = true) (k : PySem.W.keepIn K (.ref f) = true) : e_arrived_there.At K mg :=
  ⟨f, _, PySem.W.mg_of X G a, fun_mk (st := sAt 14) l c k, (fun_mk (st := sAt 14) l c k).binds (ps := ["kind", "lives", "state", "stays"]) fun _ _ _ _ _ _ us hl => match us, hl with | [_, _, _, _], _ => rfl⟩
theorem at_arrived_back {K : PySem.W.Frag} {h : Heap} {mg : Str → Option Value} {f : Addr} {oc : Value} {od an : Option Addr} {sl : Array (Option Value)} {kV dc pm cd ct : Value} (X : K.In h) (G : h.Ns mainGlobals mg) (a : PySem.W.nsIn K mainGlobals "arrived_back" = some (some (.ref f)))
    (l : K.lookup f = some ⟨oc, od, .func (PySem.W.fnOf "arrived_back" "arrived_back" (defArgs (sAt 15)) (defBody (sAt 15)) (defScope (sAt 15)) .none kV dc pm an cd ct), sl⟩) (c : PySem.W.codeIn K cd "arrived_back" = true) (k : PySem.W.keepIn K (.ref f) = true) : e_arrived_back.At K mg :=
  ⟨f, _, PySem.W.mg_of X G a, fun_mk (st := sAt 15) l c k, (fun_mk (st := sAt 15) l c k).binds (ps := ["kind", "state", "stays"]) fun _ _ _ _ _ _ us hl => match us, hl with | [_, _, _], _ => rfl⟩
theorem at_can_be_done {K : PySem.W.Frag} {h : Heap} {mg : Str → Option Value} {f : Addr} {oc : Value} {od an : Option Addr} {sl : Array (Option Value)} {kV dc pm cd ct : Value} (X : K.In h) (G : h.Ns mainGlobals mg) (a : PySem.W.nsIn K mainGlobals "can_be_done" = some (some (.ref f)))
    (l : K.lookup f = some ⟨oc, od, .func (PySem.W.fnOf "can_be_done" "can_be_done" (defArgs (sAt 16)) (defBody (sAt 16)) (defScope (sAt 16)) .none kV dc pm an cd ct), sl⟩) (c : PySem.W.codeIn K cd "can_be_done" = true) (k : PySem.W.keepIn K (.ref f) = true) : e_can_be_done.At K mg :=
  ⟨f, _, PySem.W.mg_of X G a, fun_mk (st := sAt 16) l c k, (fun_mk (st := sAt 16) l c k).binds (ps := ["state", "word"]) fun _ _ _ _ _ _ us hl => match us, hl with | [_, _], _ => rfl⟩
theorem at_call_step {K : PySem.W.Frag} {h : Heap} {mg : Str → Option Value} {f : Addr} {oc : Value} {od an : Option Addr} {sl : Array (Option Value)} {kV dc pm cd ct : Value} (X : K.In h) (G : h.Ns mainGlobals mg) (a : PySem.W.nsIn K mainGlobals "call_step" = some (some (.ref f)))
    (l : K.lookup f = some ⟨oc, od, .func (PySem.W.fnOf "call_step" "call_step" (defArgs (sAt 17)) (defBody (sAt 17)) (defScope (sAt 17)) .none kV dc pm an cd ct), sl⟩) (c : PySem.W.codeIn K cd "call_step" = true) (k : PySem.W.keepIn K (.ref f) = true) : e_call_step.At K mg :=
  ⟨f, _, PySem.W.mg_of X G a, fun_mk (st := sAt 17) l c k, (fun_mk (st := sAt 17) l c k).binds (ps := ["kind", "lives", "state", "deed"]) fun _ _ _ _ _ _ us hl => match us, hl with | [_, _, _, _], _ => rfl⟩
theorem at_is_mixed {K : PySem.W.Frag} {h : Heap} {mg : Str → Option Value} {f : Addr} {oc : Value} {od an : Option Addr} {sl : Array (Option Value)} {kV dc pm cd ct : Value} (X : K.In h) (G : h.Ns mainGlobals mg) (a : PySem.W.nsIn K mainGlobals "is_mixed" = some (some (.ref f)))
    (l : K.lookup f = some ⟨oc, od, .func (PySem.W.fnOf "is_mixed" "is_mixed" (defArgs (sAt 18)) (defBody (sAt 18)) (defScope (sAt 18)) .none kV dc pm an cd ct), sl⟩) (c : PySem.W.codeIn K cd "is_mixed" = true) (k : PySem.W.keepIn K (.ref f) = true) : e_is_mixed.At K mg :=
  ⟨f, _, PySem.W.mg_of X G a, fun_mk (st := sAt 18) l c k, (fun_mk (st := sAt 18) l c k).binds (ps := ["state"]) fun _ _ _ _ _ _ us hl => match us, hl with | [_], _ => rfl⟩
theorem at__law_feed {K : PySem.W.Frag} {h : Heap} {mg : Str → Option Value} {f : Addr} {oc : Value} {od an : Option Addr} {sl : Array (Option Value)} {kV dc pm cd ct : Value} (X : K.In h) (G : h.Ns mainGlobals mg) (a : PySem.W.nsIn K mainGlobals "_law_feed" = some (some (.ref f)))
    (l : K.lookup f = some ⟨oc, od, .func (PySem.W.fnOf "_law_feed" "_law_feed" (defArgs (sAt 20)) (defBody (sAt 20)) (defScope (sAt 20)) .none kV dc pm an cd ct), sl⟩) (c : PySem.W.codeIn K cd "_law_feed" = true) (k : PySem.W.keepIn K (.ref f) = true) : e__law_feed.At K mg :=
  ⟨f, _, PySem.W.mg_of X G a, fun_mk (st := sAt 20) l c k, (fun_mk (st := sAt 20) l c k).binds (ps := ["script"]) fun _ _ _ _ _ _ us hl => match us, hl with | [_], _ => rfl⟩
theorem at__law_draw {K : PySem.W.Frag} {h : Heap} {mg : Str → Option Value} {f : Addr} {oc : Value} {od an : Option Addr} {sl : Array (Option Value)} {kV dc pm cd ct : Value} (X : K.In h) (G : h.Ns mainGlobals mg) (a : PySem.W.nsIn K mainGlobals "_law_draw" = some (some (.ref f)))
    (l : K.lookup f = some ⟨oc, od, .func (PySem.W.fnOf "_law_draw" "_law_draw" (defArgs (sAt 21)) (defBody (sAt 21)) (defScope (sAt 21)) .none kV dc pm an cd ct), sl⟩) (c : PySem.W.codeIn K cd "_law_draw" = true) (k : PySem.W.keepIn K (.ref f) = true) : e__law_draw.At K mg :=
  ⟨f, _, PySem.W.mg_of X G a, fun_mk (st := sAt 21) l c k, (fun_mk (st := sAt 21) l c k).binds (ps := ["feed", "many"]) fun _ _ _ _ _ _ us hl => match us, hl with | [_, _], _ => rfl⟩
theorem at__law_same {K : PySem.W.Frag} {h : Heap} {mg : Str → Option Value} {f : Addr} {oc : Value} {od an : Option Addr} {sl : Array (Option Value)} {kV dc pm cd ct : Value} (X : K.In h) (G : h.Ns mainGlobals mg) (a : PySem.W.nsIn K mainGlobals "_law_same" = some (some (.ref f)))
    (l : K.lookup f = some ⟨oc, od, .func (PySem.W.fnOf "_law_same" "_law_same" (defArgs (sAt 22)) (defBody (sAt 22)) (defScope (sAt 22)) .none kV dc pm an cd ct), sl⟩) (c : PySem.W.codeIn K cd "_law_same" = true) (k : PySem.W.keepIn K (.ref f) = true) : e__law_same.At K mg :=
  ⟨f, _, PySem.W.mg_of X G a, fun_mk (st := sAt 22) l c k, (fun_mk (st := sAt 22) l c k).binds (ps := ["actual", "due"]) fun _ _ _ _ _ _ us hl => match us, hl with | [_, _], _ => rfl⟩
theorem at__law_call_deeds {K : PySem.W.Frag} {h : Heap} {mg : Str → Option Value} {f : Addr} {oc : Value} {od an : Option Addr} {sl : Array (Option Value)} {kV dc pm cd ct : Value} (X : K.In h) (G : h.Ns mainGlobals mg) (a : PySem.W.nsIn K mainGlobals "_law_call_deeds" = some (some (.ref f)))
    (l : K.lookup f = some ⟨oc, od, .func (PySem.W.fnOf "_law_call_deeds" "_law_call_deeds" (defArgs (sAt 23)) (defBody (sAt 23)) (defScope (sAt 23)) .none kV dc pm an cd ct), sl⟩) (c : PySem.W.codeIn K cd "_law_call_deeds" = true) (k : PySem.W.keepIn K (.ref f) = true) : e__law_call_deeds.At K mg :=
  ⟨f, _, PySem.W.mg_of X G a, fun_mk (st := sAt 23) l c k, (fun_mk (st := sAt 23) l c k).binds (ps := []) fun _ _ _ _ _ _ us hl => match us, hl with | [], _ => rfl⟩
theorem at__law_call {K : PySem.W.Frag} {h : Heap} {mg : Str → Option Value} {f : Addr} {oc : Value} {od an : Option Addr} {sl : Array (Option Value)} {kV dc pm cd ct : Value} (X : K.In h) (G : h.Ns mainGlobals mg) (a : PySem.W.nsIn K mainGlobals "_law_call" = some (some (.ref f)))
    (l : K.lookup f = some ⟨oc, od, .func (PySem.W.fnOf "_law_call" "_law_call" (defArgs (sAt 24)) (defBody (sAt 24)) (defScope (sAt 24)) .none kV dc pm an cd ct), sl⟩) (c : PySem.W.codeIn K cd "_law_call" = true) (k : PySem.W.keepIn K (.ref f) = true) : e__law_call.At K mg :=
  ⟨f, _, PySem.W.mg_of X G a, fun_mk (st := sAt 24) l c k, (fun_mk (st := sAt 24) l c k).binds (ps := ["kind", "lives", "state", "word"]) fun _ _ _ _ _ _ us hl => match us, hl with | [_, _, _, _], _ => rfl⟩
theorem at__law_is_mixed {K : PySem.W.Frag} {h : Heap} {mg : Str → Option Value} {f : Addr} {oc : Value} {od an : Option Addr} {sl : Array (Option Value)} {kV dc pm cd ct : Value} (X : K.In h) (G : h.Ns mainGlobals mg) (a : PySem.W.nsIn K mainGlobals "_law_is_mixed" = some (some (.ref f)))
    (l : K.lookup f = some ⟨oc, od, .func (PySem.W.fnOf "_law_is_mixed" "_law_is_mixed" (defArgs (sAt 25)) (defBody (sAt 25)) (defScope (sAt 25)) .none kV dc pm an cd ct), sl⟩) (c : PySem.W.codeIn K cd "_law_is_mixed" = true) (k : PySem.W.keepIn K (.ref f) = true) : e__law_is_mixed.At K mg :=
  ⟨f, _, PySem.W.mg_of X G a, fun_mk (st := sAt 25) l c k, (fun_mk (st := sAt 25) l c k).binds (ps := ["state"]) fun _ _ _ _ _ _ us hl => match us, hl with | [_], _ => rfl⟩
theorem at__law_asked {K : PySem.W.Frag} {h : Heap} {mg : Str → Option Value} {f : Addr} {oc : Value} {od an : Option Addr} {sl : Array (Option Value)} {kV dc pm cd ct : Value} (X : K.In h) (G : h.Ns mainGlobals mg) (a : PySem.W.nsIn K mainGlobals "_law_asked" = some (some (.ref f)))
    (l : K.lookup f = some ⟨oc, od, .func (PySem.W.fnOf "_law_asked" "_law_asked" (defArgs (sAt 26)) (defBody (sAt 26)) (defScope (sAt 26)) .none kV dc pm an cd ct), sl⟩) (c : PySem.W.codeIn K cd "_law_asked" = true) (k : PySem.W.keepIn K (.ref f) = true) : e__law_asked.At K mg :=
  ⟨f, _, PySem.W.mg_of X G a, fun_mk (st := sAt 26) l c k, (fun_mk (st := sAt 26) l c k).binds (ps := ["kind", "lives", "state", "deed"]) fun _ _ _ _ _ _ us hl => match us, hl with | [_, _, _, _], _ => rfl⟩
theorem at_law {K : PySem.W.Frag} {h : Heap} {mg : Str → Option Value} {f : Addr} {oc : Value} {od an : Option Addr} {sl : Array (Option Value)} {kV dc pm cd ct : Value} (X : K.In h) (G : h.Ns mainGlobals mg) (a : PySem.W.nsIn K mainGlobals "law" = some (some (.ref f)))
    (l : K.lookup f = some ⟨oc, od, .func (PySem.W.fnOf "law" "law" (defArgs (sAt 27)) (defBody (sAt 27)) (defScope (sAt 27)) .none kV dc pm an cd ct), sl⟩) (c : PySem.W.codeIn K cd "law" = true) (k : PySem.W.keepIn K (.ref f) = true) : e_law.At K mg :=
  ⟨f, _, PySem.W.mg_of X G a, fun_mk (st := sAt 27) l c k, (fun_mk (st := sAt 27) l c k).binds (ps := ["script"]) fun _ _ _ _ _ _ us hl => match us, hl with | [_], _ => rfl⟩
theorem all_mk {P : Program} {w : World} {K : PySem.W.Frag} {h : Heap} {mg : Str → Option Value} {fa f0 f1 f2 f3 f4 f5 f6 f7 f8 f9 f10 f11 f12 f13 f14 E0 E1 E2 : Addr} (X : K.In h) (G : h.Ns mainGlobals mg) (hfa : mg "law" = some (.ref fa))
    {od0 an0 od1 an1 od2 an2 od3 an3 od4 an4 od5 an5 od6 an6 od7 an7 od8 an8 od9 an9 od10 an10 od11 an11 od12 an12 od13 an13 od14 an14 : Option Addr} {sl0 sl1 sl2 sl3 sl4 sl5 sl6 sl7 sl8 sl9 sl10 sl11 sl12 sl13 sl14 : Array (Option Value)} {oc0 kV0 dc0 pm0 cd0 ct0 oc1 kV1 dc1 pm1 cd1 ct1 oc2 kV2 dc2 pm2 cd2 ct2 oc3 kV3 dc3 pm3 cd3 ct3 oc4 kV4 dc4 pm4 cd4 ct4 oc5 kV5 dc5 pm5 cd5 ct5 oc6 kV6 dc6 pm6 cd6 ct6 oc7 kV7 dc7 pm7 cd7 ct7 oc8 kV8 dc8 pm8 cd8 ct8 oc9 kV9 dc9 pm9 cd9 ct9 oc10 kV10 dc10 pm10 cd10 ct10 oc11 kV11 dc11 pm11 cd11 ct11 oc12 kV12 dc12 pm12 cd12 ct12 oc13 kV13 dc13 pm13 cd13 ct13 oc14 kV14 dc14 pm14 cd14 ct14 : Value}
    {t0 t1 t2 t3 t4 t5 t6 t7 t8 t9 t10 : Tok}
    {T5 T6 : Addr} {Td5 Td6 : Option Addr} {Tn5 Tn6 : Nat} {Ts5 Ts6 : Array (Option Value)}
    (a0 : PySem.W.nsIn K mainGlobals "first_call" = some (some (.ref f0))) (l0 : K.lookup f0 = some ⟨oc0, od0, .func (PySem.W.fnOf "first_call" "first_call" (defArgs (sAt 12)) (defBody (sAt 12)) (defScope (sAt 12)) .none kV0 dc0 pm0 an0 cd0 ct0), sl0⟩) (c0 : PySem.W.codeIn K cd0 "first_call" = true) (k0 : PySem.W.keepIn K (.ref f0) = true)
    (a1 : PySem.W.nsIn K mainGlobals "put_on" = some (some (.ref f1))) (l1 : K.lookup f1 = some ⟨oc1, od1, .func (PySem.W.fnOf "put_on" "put_on" (defArgs (sAt 13)) (defBody (sAt 13)) (defScope (sAt 13)) .none kV1 dc1 pm1 an1 cd1 ct1), sl1⟩) (c1 : PySem.W.codeIn K cd1 "put_on" = true) (k1 : PySem.W.keepIn K (.ref f1) = true)
    (a2 : PySem.W.nsIn K mainGlobals "arrived_there" = some (some (.ref f2))) (l2 : K.lookup f2 = some ⟨oc2, od2, .func (PySem.W.fnOf "arrived_there" "arrived_there" (defArgs (sAt 14)) (defBody (sAt 14)) (defScope (sAt 14)) .none kV2 dc2 pm2 an2 cd2 ct2), sl2⟩) (c2 : PySem.W.codeIn K cd2 "arrived_there" = true) (k2 : PySem.W.keepIn K (.ref f2) = true)
    (a3 : PySem.W.nsIn K mainGlobals "arrived_back" = some (some (.ref f3))) (l3 : K.lookup f3 = some ⟨oc3, od3, .func (PySem.W.fnOf "arrived_back" "arrived_back" (defArgs (sAt 15)) (defBody (sAt 15)) (defScope (sAt 15)) .none kV3 dc3 pm3 an3 cd3 ct3), sl3⟩) (c3 : PySem.W.codeIn K cd3 "arrived_back" = true) (k3 : PySem.W.keepIn K (.ref f3) = true)
    (a4 : PySem.W.nsIn K mainGlobals "can_be_done" = some (some (.ref f4))) (l4 : K.lookup f4 = some ⟨oc4, od4, .func (PySem.W.fnOf "can_be_done" "can_be_done" (defArgs (sAt 16)) (defBody (sAt 16)) (defScope (sAt 16)) .none kV4 dc4 pm4 an4 cd4 ct4), sl4⟩) (c4 : PySem.W.codeIn K cd4 "can_be_done" = true) (k4 : PySem.W.keepIn K (.ref f4) = true)
    (a5 : PySem.W.nsIn K mainGlobals "call_step" = some (some (.ref f5))) (l5 : K.lookup f5 = some ⟨oc5, od5, .func (PySem.W.fnOf "call_step" "call_step" (defArgs (sAt 17)) (defBody (sAt 17)) (defScope (sAt 17)) .none kV5 dc5 pm5 an5 cd5 ct5), sl5⟩) (c5 : PySem.W.codeIn K cd5 "call_step" = true) (k5 : PySem.W.keepIn K (.ref f5) = true)
    (a6 : PySem.W.nsIn K mainGlobals "is_mixed" = some (some (.ref f6))) (l6 : K.lookup f6 = some ⟨oc6, od6, .func (PySem.W.fnOf "is_mixed" "is_mixed" (defArgs (sAt 18)) (defBody (sAt 18)) (defScope (sAt 18)) .none kV6 dc6 pm6 an6 cd6 ct6), sl6⟩) (c6 : PySem.W.codeIn K cd6 "is_mixed" = true) (k6 : PySem.W.keepIn K (.ref f6) = true)
    (a7 : PySem.W.nsIn K mainGlobals "_law_feed" = some (some (.ref f7))) (l7 : K.lookup f7 = some ⟨oc7, od7, .func (PySem.W.fnOf "_law_feed" "_law_feed" (defArgs (sAt 20)) (defBody (sAt 20)) (defScope (sAt 20)) .none kV7 dc7 pm7 an7 cd7 ct7), sl7⟩) (c7 : PySem.W.codeIn K cd7 "_law_feed" = true) (k7 : PySem.W.keepIn K (.ref f7) = true)
    (a8 : PySem.W.nsIn K mainGlobals "_law_draw" = some (some (.ref f8))) (l8 : K.lookup f8 = some ⟨oc8, od8, .func (PySem.W.fnOf "_law_draw" "_law_draw" (defArgs (sAt 21)) (defBody (sAt 21)) (defScope (sAt 21)) .none kV8 dc8 pm8 an8 cd8 ct8), sl8⟩) (c8 : PySem.W.codeIn K cd8 "_law_draw" = true) (k8 : PySem.W.keepIn K (.ref f8) = true)
    (a9 : PySem.W.nsIn K mainGlobals "_law_same" = some (some (.ref f9))) (l9 : K.lookup f9 = some ⟨oc9, od9, .func (PySem.W.fnOf "_law_same" "_law_same" (defArgs (sAt 22)) (defBody (sAt 22)) (defScope (sAt 22)) .none kV9 dc9 pm9 an9 cd9 ct9), sl9⟩) (c9 : PySem.W.codeIn K cd9 "_law_same" = true) (k9 : PySem.W.keepIn K (.ref f9) = true)
    (a10 : PySem.W.nsIn K mainGlobals "_law_call_deeds" = some (some (.ref f10))) (l10 : K.lookup f10 = some ⟨oc10, od10, .func (PySem.W.fnOf "_law_call_deeds" "_law_call_deeds" (defArgs (sAt 23)) (defBody (sAt 23)) (defScope (sAt 23)) .none kV10 dc10 pm10 an10 cd10 ct10), sl10⟩) (c10 : PySem.W.codeIn K cd10 "_law_call_deeds" = true) (k10 : PySem.W.keepIn K (.ref f10) = true)
    (a11 : PySem.W.nsIn K mainGlobals "_law_call" = some (some (.ref f11))) (l11 : K.lookup f11 = some ⟨oc11, od11, .func (PySem.W.fnOf "_law_call" "_law_call" (defArgs (sAt 24)) (defBody (sAt 24)) (defScope (sAt 24)) .none kV11 dc11 pm11 an11 cd11 ct11), sl11⟩) (c11 : PySem.W.codeIn K cd11 "_law_call" = true) (k11 : PySem.W.keepIn K (.ref f11) = true)
    (a12 : PySem.W.nsIn K mainGlobals "_law_is_mixed" = some (some (.ref f12))) (l12 : K.lookup f12 = some ⟨oc12, od12, .func (PySem.W.fnOf "_law_is_mixed" "_law_is_mixed" (defArgs (sAt 25)) (defBody (sAt 25)) (defScope (sAt 25)) .none kV12 dc12 pm12 an12 cd12 ct12), sl12⟩) (c12 : PySem.W.codeIn K cd12 "_law_is_mixed" = true) (k12 : PySem.W.keepIn K (.ref f12) = true)
    (a13 : PySem.W.nsIn K mainGlobals "_law_asked" = some (some (.ref f13))) (l13 : K.lookup f13 = some ⟨oc13, od13, .func (PySem.W.fnOf "_law_asked" "_law_asked" (defArgs (sAt 26)) (defBody (sAt 26)) (defScope (sAt 26)) .none kV13 dc13 pm13 an13 cd13 ct13), sl13⟩) (c13 : PySem.W.codeIn K cd13 "_law_asked" = true) (k13 : PySem.W.keepIn K (.ref f13) = true)
    (a14 : PySem.W.nsIn K mainGlobals "law" = some (some (.ref f14))) (l14 : K.lookup f14 = some ⟨oc14, od14, .func (PySem.W.fnOf "law" "law" (defArgs (sAt 27)) (defBody (sAt 27)) (defScope (sAt 27)) .none kV14 dc14 pm14 an14 cd14 ct14), sl14⟩) (c14 : PySem.W.codeIn K cd14 "law" = true) (k14 : PySem.W.keepIn K (.ref f14) = true)
    (z0 : PySem.W.nsIn K mainGlobals "len" = some none)
    (z1 : PySem.W.nsIn K mainGlobals "abs" = some none)
    (z2 : PySem.W.nsIn K mainGlobals "int" = some none)
    (z3 : PySem.W.nsIn K mainGlobals "list" = some none)
    (z4 : PySem.W.nsIn K mainGlobals "tuple" = some none)
    (z5 : PySem.W.nsIn K mainGlobals "all" = some none)
    (z6 : PySem.W.nsIn K mainGlobals "range" = some none)
    (z7 : PySem.W.nsIn K mainGlobals "isinstance" = some none)
    (z8 : PySem.W.nsIn K mainGlobals "str" = some none)
    (z9 : PySem.W.nsIn K mainGlobals "bool" = some none)
    (m0 : PySem.W.nsIn K mainGlobals "SHUT" = some (some (.str "shut" t0)))
    (m1 : PySem.W.nsIn K mainGlobals "ASKS" = some (some (.str "asks" t1)))
    (m2 : PySem.W.nsIn K mainGlobals "WAITS" = some (some (.str "waits" t2)))
    (m3 : PySem.W.nsIn K mainGlobals "OPEN" = some (some (.str "open" t3)))
    (m4 : PySem.W.nsIn K mainGlobals "NOBODY" = some (some (.int (-1) t4)))
    (m5 : PySem.W.nsIn K mainGlobals "OF_THERE" = some (some (.ref T5)))
    (m6 : PySem.W.nsIn K mainGlobals "OF_BACK" = some (some (.ref T6)))
    (u5 : K.lookup T5 = some ⟨.type "tuple", Td5, .seq #[(.str "come" t5), (.str "come again" t6), (.str "lose" t7)] Tn5, Ts5⟩)
    (u6 : K.lookup T6 = some ⟨.type "tuple", Td6, .seq #[(.str "back" t8), (.str "back again" t9), (.str "back lost" t10)] Tn6, Ts6⟩)
    (xn : PySem.W.specialIn K (.builtin "object.__class__") "__get__" = some (some (.builtin "getset_descriptor.__get__")))
    (xt : PySem.W.takesIn K (.builtin "object.__class__") = some true)
    (xg0 : PySem.W.nsIn K mainGlobals "SendError" = some (some (.ref E0)))
    (xk0 : PySem.W.keepIn K (.ref E0) = true)
    (xy0 : PySem.W.typeIn K (.ref E0) = some (.type "type"))
    (xa0 : PySem.W.findIn K (.ref E0) "__getattribute__" = some (some (.builtin "BaseException.__getattribute__")))
    (xb0 : PySem.W.findIn K (.ref E0) "__getattr__" = some none)
    (xs0 : PySem.W.subIn K (.ref E0) (.type "BaseException") = some true)
    (xd0 : PySem.W.hasDictIn K E0 = true)
    (xc0 : PySem.W.findIn K (.ref E0) "__class__" = some (some (.builtin "object.__class__")))
    (xm0 : PySem.W.mroIn K E0 (.type "object") = some true)
    (xe0 : PySem.W.excIn K E0 [.type "ValueError", .type "Exception", .type "BaseException", .type "object"] "ValueError.__new__" = true)
    (xg1 : PySem.W.nsIn K mainGlobals "NoDeed" = some (some (.ref E1)))
    (xk1 : PySem.W.keepIn K (.ref E1) = true)
    (xy1 : PySem.W.typeIn K (.ref E1) = some (.type "type"))
    (xa1 : PySem.W.findIn K (.ref E1) "__getattribute__" = some (some (.builtin "BaseException.__getattribute__")))
    (xb1 : PySem.W.findIn K (.ref E1) "__getattr__" = some none)
    (xs1 : PySem.W.subIn K (.ref E1) (.type "BaseException") = some true)
    (xd1 : PySem.W.hasDictIn K E1 = true)
    (xc1 : PySem.W.findIn K (.ref E1) "__class__" = some (some (.builtin "object.__class__")))
    (xm1 : PySem.W.mroIn K E1 (.type "object") = some true)
    (xe1 : PySem.W.excIn K E1 [.type "ValueError", .type "Exception", .type "BaseException", .type "object"] "ValueError.__new__" = true)
    (xg2 : PySem.W.nsIn K mainGlobals "NoUse" = some (some (.ref E2)))
    (xk2 : PySem.W.keepIn K (.ref E2) = true)
    (xy2 : PySem.W.typeIn K (.ref E2) = some (.type "type"))
    (xa2 : PySem.W.findIn K (.ref E2) "__getattribute__" = some (some (.builtin "BaseException.__getattribute__")))
    (xb2 : PySem.W.findIn K (.ref E2) "__getattr__" = some none)
    (xs2 : PySem.W.subIn K (.ref E2) (.type "BaseException") = some true)
    (xd2 : PySem.W.hasDictIn K E2 = true)
    (xc2 : PySem.W.findIn K (.ref E2) "__class__" = some (some (.builtin "object.__class__")))
    (xm2 : PySem.W.mroIn K E2 (.type "object") = some true)
    (xe2 : PySem.W.excIn K E2 [.type "ValueError", .type "Exception", .type "BaseException", .type "object"] "ValueError.__new__" = true)
    (xu0 : PySem.W.subIn K (.ref E1) (.ref E1) = some true)
    (xu1 : PySem.W.subIn K (.ref E1) (.ref E2) = some false)
    (xu2 : PySem.W.subIn K (.ref E1) (.ref E0) = some true)
    (xw1 : PySem.W.subIn K (.ref E1) (.ref E1) = some true)
    : ∃ fd : FuncData, (∀ (s : Shared) (u : Value), BindsTo s fd ⟨[u], []⟩ [("script", u)]) ∧ ∀ base : Heap, K.In base → base.Ns mainGlobals mg → FnOk P w K mg base (L2.CX P w) 10 fa fd ["script"] (spA K ((tx.gam 10).call "law")) := by
  have e := hfa.symm.trans (PySem.W.mg_of X G a14)
  cases e
  have hat : ∀ e ∈ tx.ents, e.At K mg := by
    intro e he
    have he : e ∈ [e_first_call, e_put_on, e_arrived_there, e_arrived_back, e_can_be_done, e_call_step, e_is_mixed, e__law_feed, e__law_draw, e__law_same, e__law_call_deeds, e__law_call, e__law_is_mixed, e__law_asked, e_law] := he
    simp only [List.mem_cons, List.not_mem_nil, or_false] at he
    rcases he with rfl | rfl | rfl | rfl | rfl | rfl | rfl | rfl | rfl | rfl | rfl | rfl | rfl | rfl | rfl
    · exact at_first_call X G a0 l0 c0 k0
    · exact at_put_on X G a1 l1 c1 k1
    · exact at_arrived_there X G a2 l2 c2 k2
    · exact at_arrived_back X G a3 l3 c3 k3
    · exact at_can_be_done X G a4 l4 c4 k4
    · exact at_call_step X G a5 l5 c5 k5
    · exact at_is_mixed X G a6 l6 c6 k6
    · exact at__law_feed X G a7 l7 c7 k7
    · exact at__law_draw X G a8 l8 c8 k8
    · exact at__law_same X G a9 l9 c9 k9
    · exact at__law_call_deeds X G a10 l10 c10 k10
    · exact at__law_call X G a11 l11 c11 k11
    · exact at__law_is_mixed X G a12 l12 c12 k12
    · exact at__law_asked X G a13 l13 c13 k13
    · exact at_law X G a14 l14 c14 k14
  have good : ∀ e ∈ tx.ents, e.Good tx := by
    intro e he
    have he : e ∈ [e_first_call, e_put_on, e_arrived_there, e_arrived_back, e_can_be_done, e_call_step, e_is_mixed, e__law_feed, e__law_draw, e__law_same, e__law_call_deeds, e__law_call, e__law_is_mixed, e__law_asked, e_law] := he
    simp only [List.mem_cons, List.not_mem_nil, or_false] at he
    rcases he with rfl | rfl | rfl | rfl | rfl | rfl | rfl | rfl | rfl | rfl | rfl | rfl | rfl | rfl | rfl
    · exact g_first_call
    · exact g_put_on
    · exact g_arrived_there
    · exact g_arrived_back
    · exact g_can_be_done
    · exact g_call_step
    · exact g_is_mixed
    · exact g__law_feed
    · exact g__law_draw
    · exact g__law_same
    · exact g__law_call_deeds
    · exact g__law_call
    · exact g__law_is_mixed
    · exact g__law_asked
    · exact g_law
  have hg : ∀ x d, tx.glob.lookup x = some d → GlobAt K mg x d := by
    intro x d hx hn
    have hx : ([("SHUT", .str "shut"), ("ASKS", .str "asks"), ("WAITS", .str "waits"), ("OPEN", .str "open"), ("NOBODY", .int (-1)), ("OF_THERE", .tup [.str "come", .str "come again", .str "lose"]), ("OF_BACK", .tup [.str "back", .str "back again", .str "back lost"])] : List (Str × D)).lookup x = some d := hx
    simp only [List.lookup_cons, List.lookup_nil] at hx
    split at hx
    · rename_i q
      cases hx
      have q := eq_of_beq q
      subst q
      exact ⟨_, .str _, PySem.W.mg_of X G m0, ⟨_, rfl⟩, fun _ _ => .str _⟩
    split at hx
    · rename_i q
      cases hx
      have q := eq_of_beq q
      subst q
      exact ⟨_, .str _, PySem.W.mg_of X G m1, ⟨_, rfl⟩, fun _ _ => .str _⟩
    split at hx
    · rename_i q
      cases hx
      have q := eq_of_beq q
      subst q
      exact ⟨_, .str _, PySem.W.mg_of X G m2, ⟨_, rfl⟩, fun _ _ => .str _⟩
    split at hx
    · rename_i q
      cases hx
      have q := eq_of_beq q
      subst q
      exact ⟨_, .str _, PySem.W.mg_of X G m3, ⟨_, rfl⟩, fun _ _ => .str _⟩
    split at hx
    · rename_i q
      cases hx
      have q := eq_of_beq q
      subst q
      exact ⟨_, .int _, PySem.W.mg_of X G m4, ⟨_, rfl⟩, fun _ _ => .int _⟩
    split at hx
    · rename_i q
      cases hx
      have q := eq_of_beq q
      subst q
      exact ⟨_, .ref T5, PySem.W.mg_of X G m5, rfl, fun _ _ => .tup (vs := [.str "come", .str "come again", .str "lose"]) (.inr ⟨_, _, _, u5, rfl, rfl, (by show 3 ≤ sizeLine; decide), .cons (show RelV (.str "come") _ from ⟨_, rfl⟩) (.cons (show RelV (.str "come again") _ from ⟨_, rfl⟩) (.cons (show RelV (.str "lose") _ from ⟨_, rfl⟩) .nil))⟩) (.cons (.str _) (.cons (.str _) (.cons (.str _) .nil)))⟩
    split at hx
    · rename_i q
      cases hx
      have q := eq_of_beq q
      subst q
      exact ⟨_, .ref T6, PySem.W.mg_of X G m6, rfl, fun _ _ => .tup (vs := [.str "back", .str "back again", .str "back lost"]) (.inr ⟨_, _, _, u6, rfl, rfl, (by show 3 ≤ sizeLine; decide), .cons (show RelV (.str "back") _ from ⟨_, rfl⟩) (.cons (show RelV (.str "back again") _ from ⟨_, rfl⟩) (.cons (show RelV (.str "back lost") _ from ⟨_, rfl⟩) .nil))⟩) (.cons (.str _) (.cons (.str _) (.cons (.str _) .nil)))⟩
    cases hx
  have hb : ∀ x ∈ tx.blts, mg x = none := by
    intro x hx
    have hx : x ∈ (["len", "abs", "int", "list", "tuple", "all", "range", "isinstance", "str", "bool"] : List Str) := hx
    simp only [List.mem_cons, List.not_mem_nil, or_false] at hx
    rcases hx with rfl | rfl | rfl | rfl | rfl | rfl | rfl | rfl | rfl | rfl
    · exact PySem.W.mg_none_of X G z0
    · exact PySem.W.mg_none_of X G z1
    · exact PySem.W.mg_none_of X G z2
    · exact PySem.W.mg_none_of X G z3
    · exact PySem.W.mg_none_of X G z4
    · exact PySem.W.mg_none_of X G z5
    · exact PySem.W.mg_none_of X G z6
    · exact PySem.W.mg_none_of X G z7
    · exact PySem.W.mg_none_of X G z8
    · exact PySem.W.mg_none_of X G z9
  have F := fun_mk (st := sAt 27) l14 c14 k14
  refine ⟨PySem.W.fnOf "law" "law" (defArgs (sAt 27)) (defBody (sAt 27)) (defScope (sAt 27)) .none kV14 dc14 pm14 an14 cd14 ct14, fun s u => .of_eq rfl, fun base _ _ => ?_⟩
  have c0_ : (fun x => if x = "SendError" then some E0 else if x = "NoDeed" then some E1 else if x = "NoUse" then some E2 else none : Str → Option Addr) "SendError" = some E0 := by rfl
  have a0_ : ExcAt K mg "SendError" E0 := ⟨PySem.W.mg_of X G xg0, xk0, xy0, ⟨xa0, xb0, xs0, xd0, xc0, xn, xt, xm0⟩⟩
  have c1_ : (fun x => if x = "SendError" then some E0 else if x = "NoDeed" then some E1 else if x = "NoUse" then some E2 else none : Str → Option Addr) "NoDeed" = some E1 := by rfl
  have a1_ : ExcAt K mg "NoDeed" E1 := ⟨PySem.W.mg_of X G xg1, xk1, xy1, ⟨xa1, xb1, xs1, xd1, xc1, xn, xt, xm1⟩⟩
  have c2_ : (fun x => if x = "SendError" then some E0 else if x = "NoDeed" then some E1 else if x = "NoUse" then some E2 else none : Str → Option Addr) "NoUse" = some E2 := by rfl
  have a2_ : ExcAt K mg "NoUse" E2 := ⟨PySem.W.mg_of X G xg2, xk2, xy2, ⟨xa2, xb2, xs2, xd2, xc2, xn, xt, xm2⟩⟩
  have hxs : ExsOk K mg (fun x => if x = "SendError" then some E0 else if x = "NoDeed" then some E1 else if x = "NoUse" then some E2 else none) tx := by
    refine ⟨fun x y b h => ?_, fun x h => ?_, fun x fs f C h hf hC => ?_, fun x h => ?_⟩
    · have h : ([(("NoDeed", "NoDeed"), true), (("NoDeed", "NoUse"), false), (("NoDeed", "SendError"), true)] : List ((Str × Str) × Bool)).lookup (x, y) = some b := h
      simp only [List.lookup_cons, List.lookup_nil] at h
      split at h
      · rename_i q
        cases h
        have q := eq_of_beq q
        cases q
        exact ⟨_, _, c1_, c1_, a1_, a1_, PySem.W.exm_ref xs1 xd1 xy1 xu0, kit_of xd1 xy1 xu0 xw1⟩
      split at h
      · rename_i q
        cases h
        have q := eq_of_beq q
        cases q
        exact ⟨_, _, c1_, c2_, a1_, a2_, PySem.W.exm_ref xs2 xd2 xy2 xu1, kit_of xd2 xy2 xu1 xw1⟩
      split at h
      · rename_i q
        cases h
        have q := eq_of_beq q
        cases q
        exact ⟨_, _, c1_, c0_, a1_, a0_, PySem.W.exm_ref xs0 xd0 xy0 xu2, kit_of xd0 xy0 xu2 xw1⟩
      cases h
    · have h : x ∈ (["SendError", "NoDeed", "NoUse"] : List Str) := h
      simp only [List.mem_cons, List.not_mem_nil, or_false] at h
      rcases h with rfl | rfl | rfl
      · exact ⟨_, c0_, a0_⟩
      · exact ⟨_, c1_, a1_⟩
      · exact ⟨_, c2_, a2_⟩
    · have h : ([("SendError", []), ("NoDeed", []), ("NoUse", [])] : List (Str × List Str)).lookup x = some fs := h
      simp only [List.lookup_cons, List.lookup_nil] at h
      split at h
      · rename_i q
        cases h
        have q := eq_of_beq q
        cases q
        have hC := c0_.symm.trans hC
        cases hC
        cases hf
      split at h
      · rename_i q
        cases h
        have q := eq_of_beq q
        cases q
        have hC := c1_.symm.trans hC
        cases hC
        cases hf
      split at h
      · rename_i q
        cases h
        have q := eq_of_beq q
        cases q
        have hC := c2_.symm.trans hC
        cases hC
        cases hf
      cases h
    · have h : ([("SendError", []), ("NoDeed", []), ("NoUse", [])] : List (Str × List Str)).lookup x = some [] := h
      simp only [List.lookup_cons, List.lookup_nil] at h
      split at h
      · rename_i q
        have q := eq_of_beq q
        cases q
        exact ⟨_, _, c0_, a0_, xe0, rfl⟩
      split at h
      · rename_i q
        have q := eq_of_beq q
        cases q
        exact ⟨_, _, c1_, a1_, xe1, rfl⟩
      split at h
      · rename_i q
        have q := eq_of_beq q
        cases q
        exact ⟨_, _, c2_, a2_, xe2, rfl⟩
      cases h
  have env := text_ok (P := P) (w := w) (base := base) good hat hg hb (fun h => absurd h (by decide +kernel)) (fun x => if x = "SendError" then some E0 else if x = "NoDeed" then some E1 else if x = "NoUse" then some E2 else none) hxs 9
  have gl := good e_law (by show e_law ∈ [e_first_call, e_put_on, e_arrived_there, e_arrived_back, e_can_be_done, e_call_step, e_is_mixed, e__law_feed, e__law_draw, e__law_same, e__law_call_deeds, e__law_call, e__law_is_mixed, e__law_asked, e_law]; simp only [List.mem_cons, true_or, or_true])
  obtain ⟨n, hn⟩ := gl.body
  rw [c_law]
  exact fn_imp (def_ok F (scOk_of gl.sc) (nm := tx.nm e_law) rfl rfl gl.n gl.ps hn env) fun _ _ _ _ h => h _
end Law
open PySem PySem.W PyProof.Rows
set_option maxRecDepth 100000 in
set_option maxHeartbeats 0 in
theorem PySem.Challenge.cw_sendsure_k95_whole_steps_of_calls_holds : PySem.Challenge.rw_sendsure_k95_whole_steps_of_calls.Holds := by
  w_on; o_law; k_head; (case hw => w_witness2)
  k_fill
  refine L2.walk_of (l := PySem.Challenge.rw_sendsure_k95_whole_steps_of_calls) (n := 63) (k := 10) (x := "script") (CX := fun w => L2.CX PySem.Challenge.pw_sendsure_k95_whole_steps_of_calls w) (sp := fun w => IR.spA _ ((Law.tx.gam 10).call "law")) rfl (by decide) rfl ⟨rfl, by decide, by decide⟩ (fun w h Y => PySem.W.kIn_of Y) ?F (fun _ _ a ns _ _ hS => (Law.law_call_ok ns).elim fun C hC cl => IR.law_sp hS hC) (fun _ _ _ _ _ h => by obtain ⟨_, _, _, _, _, _, _, _, _, _, _, _, z⟩ := h; exact z)
  case F =>
    intro w mg fa h KX G hmg
    refine' Law.all_mk KX G hmg ?a0 ?l0 ?c0 ?k0 ?a1 ?l1 ?c1 ?k1 ?a2 ?l2 ?c2 ?k2 ?a3 ?l3 ?c3 ?k3 ?a4 ?l4 ?c4 ?k4 ?a5 ?l5 ?c5 ?k5 ?a6 ?l6 ?c6 ?k6 ?a7 ?l7 ?c7 ?k7 ?a8 ?l8 ?c8 ?k8 ?a9 ?l9 ?c9 ?k9 ?a10 ?l10 ?c10 ?k10 ?a11 ?l11 ?c11 ?k11 ?a12 ?l12 ?c12 ?k12 ?a13 ?l13 ?c13 ?k13 ?a14 ?l14 ?c14 ?k14 ?z0 ?z1 ?z2 ?z3 ?z4 ?z5 ?z6 ?z7 ?z8 ?z9 ?m0 ?m1 ?m2 ?m3 ?m4 ?m5 ?m6 ?u5 ?u6 ?xn ?xt ?xg0 ?xk0 ?xy0 ?xa0 ?xb0 ?xs0 ?xd0 ?xc0 ?xm0 ?xe0 ?xg1 ?xk1 ?xy1 ?xa1 ?xb1 ?xs1 ?xd1 ?xc1 ?xm1 ?xe1 ?xg2 ?xk2 ?xy2 ?xa2 ?xb2 ?xs2 ?xd2 ?xc2 ?xm2 ?xe2 ?xu0 ?xu1 ?xu2 ?xw1
    (case a0 => k_is); (case l0 => k_is); (case c0 => k_is); (case k0 => k_is)
    (case a1 => k_is); (case l1 => k_is); (case c1 => k_is); (case k1 => k_is)
    (case a2 => k_is); (case l2 => k_is); (case c2 => k_is); (case k2 => k_is)
    (case a3 => k_is); (case l3 => k_is); (case c3 => k_is); (case k3 => k_is)
    (case a4 => k_is); (case l4 => k_is); (case c4 => k_is); (case k4 => k_is)
    (case a5 => k_is); (case l5 => k_is); (case c5 => k_is); (case k5 => k_is)
    (case a6 => k_is); (case l6 => k_is); (case c6 => k_is); (case k6 => k_is)
    (case a7 => k_is); (case l7 => k_is); (case c7 => k_is); (case k7 => k_is)
    (case a8 => k_is); (case l8 => k_is); (case c8 => k_is); (case k8 => k_is)
    (case a9 => k_is); (case l9 => k_is); (case c9 => k_is); (case k9 => k_is)
    (case a10 => k_is); (case l10 => k_is); (case c10 => k_is); (case k10 => k_is)
    (case a11 => k_is); (case l11 => k_is); (case c11 => k_is); (case k11 => k_is)
    (case a12 => k_is); (case l12 => k_is); (case c12 => k_is); (case k12 => k_is)
    (case a13 => k_is); (case l13 => k_is); (case c13 => k_is); (case k13 => k_is)
    (case a14 => k_is); (case l14 => k_is); (case c14 => k_is); (case k14 => k_is)
    (case z0 => k_is); (case z1 => k_is); (case z2 => k_is); (case z3 => k_is)
    (case z4 => k_is); (case z5 => k_is); (case z6 => k_is); (case z7 => k_is)
    (case z8 => k_is); (case z9 => k_is); (case m0 => k_is); (case m1 => k_is)
    (case m2 => k_is); (case m3 => k_is); (case m4 => k_is); (case m5 => k_is)
    (case m6 => k_is); (case u5 => k_is); (case u6 => k_is); (case xn => k_is)
    (case xt => k_is); (case xg0 => k_is); (case xk0 => k_is); (case xy0 => k_is)
    (case xa0 => k_is); (case xb0 => k_is); (case xs0 => k_is); (case xd0 => k_is)
    (case xc0 => k_is); (case xm0 => k_is); (case xe0 => k_exc); (case xg1 => k_is)
    (case xk1 => k_is); (case xy1 => k_is); (case xa1 => k_is); (case xb1 => k_is)
    (case xs1 => k_is); (case xd1 => k_is); (case xc1 => k_is); (case xm1 => k_is)
    (case xe1 => k_exc); (case xg2 => k_is); (case xk2 => k_is); (case xy2 => k_is)
    (case xa2 => k_is); (case xb2 => k_is); (case xs2 => k_is); (case xd2 => k_is)
    (case xc2 => k_is); (case xm2 => k_is); (case xe2 => k_exc); (case xu0 => k_is)
    (case xu1 => k_is); (case xu2 => k_is); (case xw1 => k_is)
#print axioms PySem.Challenge.cw_sendsure_k95_whole_steps_of_calls_holds

