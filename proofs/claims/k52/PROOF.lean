import PyProof.Rows.All
import Wide.All
import OpenK.AllK
import Wide.FinOn
import HandS.ForMost
import HandS.WordsExc
import HandS.Walk
import HandS.Wide
import HandS.WideBits
import HandS.TupAny
import HandS.Deep
import HandS.Flow
import HandS.Style
import HandS.Steps
import HandS.Iter
import KE.GoesNew
import HandS.Defaults
import HandS.MakeKwOnly
import HandS.IsInst
import HandS.SortInts
import HandS.Gcd
import HandS.Conv
import HandS.Dict
import PyProof.ReprRoads
import PyProof.CallFns
import HandS.Ends
import HandS.EndBits
import KE.GoesMore
import KE.GoesEnum
import HandS.Property
import HandS.Strs
import PyProof.P3In
import HandS.Codes
import PyProof.MaxThree
import HandS.TryOnly
import HandS.OwnEq
import PyProof.InstNe
import HandS.TupSets
import PySem.Challenge.RW_pointrows_k52_whole_stairs_have_their_ro
import PyProof.P3Eq
import PyProof.FitsInt
import PyProof.Rows.ReprOcc
set_option Elab.async false
set_option linter.all false
set_option maxRecDepth 100000
/-! Data, what stands for them, results. -/
namespace DL
open PySem PySem.Spec PyProof.Rows L2

abbrev DKey := Sum Key (List Key)
inductive D where
  | non | bl (b : Bool) | int (i : Int) | str (x : Str)
  | lst (xs : List D) | tup (xs : List D)
  | dic (ks : List DKey) (xs : List D)
  | ins (c : Str) (ns : List Str) (xs : List D)

abbrev Pot := Int × Int
inductive Res (α : Type) where
  | ok (a : α)
  | err (c : Str) (ns : List Str) (xs : List D) (π : Pot)
  | stuck
def Res.bind {α β : Type} (x : Res α) (f : α → Res β) : Res β := match x with
  | .ok a => f a
  | .err c ns xs π => .err c ns xs π
  | .stuck => .stuck
@[simp] theorem Res.bind_ok {α β : Type} (a : α) (f : α → Res β) : (Res.ok a).bind f = f a := rfl
@[simp] theorem Res.bind_stuck {α β : Type} (f : α → Res β) : (Res.stuck : Res α).bind f = .stuck := rfl
@[simp] theorem Res.bind_err {α β : Type} (c : Str) (ns : List Str) (xs : List D) (π : Pot) (f : α → Res β) : (Res.err c ns xs π : Res α).bind f = .err c ns xs π := rfl

section
variable (mg : Str → Option Value) (K : PySem.W.Frag) (H : Hp)
mutual
/-- the value stands for the datum, all of it to be read in the heap -/
inductive Rp : V → D → Prop
  | non : Rp .non .non
  | bl (b : Bool) : Rp (.bl b) (.bl b)
  | int (i : Int) : Rp (.int i) (.int i)
  | str (x : Str) : Rp (.str x) (.str x)
  | lst {a : Addr} {vs : List V} {ds : List D} : H a = some (.lst vs) → RpL vs ds → Rp (.ref a) (.lst ds)
  | tup {a : Addr} {vs : List V} {ds : List D} : SqT K H a vs → RpL vs ds → Rp (.ref a) (.tup ds)
  | dicK {a : Addr} {kvs : List (Key × V)} {ds : List D} : Rd H a (.dK kvs) → RpL (kvs.map (·.2)) ds → Rp (.ref a) (.dic (kvs.map fun p => .inl p.1) ds)
  | dicT {a : Addr} {kvs : List (List Key × V)} {ds : List D} : H a = some (.dT kvs) → RpL (kvs.map (·.2)) ds → Rp (.ref a) (.dic (kvs.map fun p => .inr p.1) ds)
  | ins {a C dx : Addr} {fs : List (Str × V)} {c : Str} {ds : List D} : mg c = some (.ref C) → H a = some (.ins C dx fs) → RpL (fs.map (·.2)) ds → Rp (.ref a) (.ins c (fs.map (·.1)) ds)
inductive RpL : List V → List D → Prop
  | nil : RpL [] []
  | cons {v : V} {vs : List V} {d : D} {ds : List D} : Rp v d → RpL vs ds → RpL (v :: vs) (d :: ds)
end
end

section
variable (mg : Str → Option Value) (K : PySem.W.Frag) (H : Hp)
/-- what an own thing holds -/
inductive HoR : HO → D → Prop
  | lst {vs : List V} {ds : List D} : RpL mg K H vs ds → HoR (.lst vs) (.lst ds)
  | dicK {kvs : List (Key × V)} {ds : List D} : RpL mg K H (kvs.map (·.2)) ds → HoR (.dK kvs) (.dic (kvs.map fun p => .inl p.1) ds)
  | dicT {kvs : List (List Key × V)} {ds : List D} : RpL mg K H (kvs.map (·.2)) ds → HoR (.dT kvs) (.dic (kvs.map fun p => .inr p.1) ds)
  | ins {C dx : Addr} {fs : List (Str × V)} {c : Str} {ds : List D} : mg c = some (.ref C) → RpL mg K H (fs.map (·.2)) ds → HoR (.ins C dx fs) (.ins c (fs.map (·.1)) ds)
end
/-- the heap without the cells that may change -/
def less (H : Hp) (M : List Addr) : Hp := fun a => if a ∈ M then none else H a
theorem less_some {H : Hp} {M : List Addr} {a : Addr} {o : HO} : less H M a = some o ↔ a ∉ M ∧ H a = some o := by
  unfold less
  by_cases h : a ∈ M
  · rw [if_pos h]
    exact ⟨fun e => (by cases e), fun e => absurd h e.1⟩
  · rw [if_neg h]
    exact ⟨fun e => ⟨h, e⟩, fun e => e.2⟩

section
variable {mg : Str → Option Value} {K : PySem.W.Frag} {H H' : Hp}
theorem sqL_mono {a : Addr} {xs : List V} (e : Same H H') (h : SqL K H a xs) : SqL K H' a xs := e.seq h
theorem rd_mono {a : Addr} {u : HO} (e : Same H H') (h : Rd H a u) : Rd H' a u := by
  rcases h with h | ⟨o, h⟩
  · exact .inl (e _ _ h)
  · exact .inr ⟨o, e _ _ h⟩
theorem sqT_mono {a : Addr} {xs : List V} (e : Same H H') (h : SqT K H a xs) : SqT K H' a xs := by
  rcases h with h | h
  · exact .inl (rd_mono e h)
  · exact .inr h
mutual
theorem Rp.mono (e : Same H H') : ∀ {v : V} {d : D}, Rp mg K H v d → Rp mg K H' v d
  | _, _, .non => .non
  | _, _, .bl b => .bl b
  | _, _, .int i => .int i
  | _, _, .str x => .str x
  | _, _, .lst h r => .lst (e _ _ h) (RpL.mono e r)
  | _, _, .tup h r => .tup (sqT_mono e h) (RpL.mono e r)
  | _, _, .dicK h r => .dicK (rd_mono e h) (RpL.mono e r)
  | _, _, .dicT h r => .dicT (e _ _ h) (RpL.mono e r)
  | _, _, .ins m h r => .ins m (e _ _ h) (RpL.mono e r)
theorem RpL.mono (e : Same H H') : ∀ {vs : List V} {ds : List D}, RpL mg K H vs ds → RpL mg K H' vs ds
  | _, _, .nil => .nil
  | _, _, .cons h r => .cons (Rp.mono e h) (RpL.mono e r)
end
theorem HoR.mono {o : HO} {d : D} (e : Same H H') (h : HoR mg K H o d) : HoR mg K H' o d := by
  cases h with
  | lst r => exact .lst (r.mono e)
  | dicK r => exact .dicK (r.mono e)
  | dicT r => exact .dicT (r.mono e)
  | ins m r => exact .ins m (r.mono e)
theorem HoR.rp {a : Addr} {o : HO} {d : D} (e : H a = some o) (h : HoR mg K H o d) : Rp mg K H (.ref a) d := by
  cases h with
  | lst r => exact .lst e r
  | dicK r => exact .dicK (.inl e) r
  | dicT r => exact .dicT e r
  | ins m r => exact .ins m e r
theorem RpL.length : ∀ {vs : List V} {ds : List D}, RpL mg K H vs ds → vs.length = ds.length
  | _, _, .nil => rfl
  | _, _, .cons _ r => congrArg Nat.succ r.length
theorem RpL.append : ∀ {vs ws : List V} {ds es : List D}, RpL mg K H vs ds → RpL mg K H ws es → RpL mg K H (vs ++ ws) (ds ++ es)
  | _, _, _, _, .nil, s => s
  | _, _, _, _, .cons h r, s => .cons h (r.append s)
theorem RpL.get : ∀ {vs : List V} {ds : List D} {i : Nat} {d : D}, RpL mg K H vs ds → ds[i]? = some d → ∃ v, vs[i]? = some v ∧ Rp mg K H v d
  | _, _, _, _, .nil, e => by simp at e
  | _, _, 0, _, .cons h r, e => by
    simp at e
    subst e
    exact ⟨_, rfl, h⟩
  | _, _, i + 1, _, .cons h r, e => by
    obtain ⟨v, q, p⟩ := r.get (i := i) (by simpa using e)
    exact ⟨v, by simpa using q, p⟩
theorem RpL.getV : ∀ {vs : List V} {ds : List D} {i : Nat} {v : V}, RpL mg K H vs ds → vs[i]? = some v → ∃ d, ds[i]? = some d ∧ Rp mg K H v d
  | _, _, _, _, .nil, e => by simp at e
  | _, _, 0, _, .cons h r, e => by
    simp at e
    subst e
    exact ⟨_, rfl, h⟩
  | _, _, i + 1, _, .cons h r, e => by
    obtain ⟨v, q, p⟩ := r.getV (i := i) (by simpa using e)
    exact ⟨v, by simpa using q, p⟩
theorem RpL.take : ∀ {vs : List V} {ds : List D} (n : Nat), RpL mg K H vs ds → RpL mg K H (vs.take n) (ds.take n)
  | _, _, 0, _ => .nil
  | _, _, _ + 1, .nil => .nil
  | _, _, n + 1, .cons h r => .cons h (r.take n)
theorem RpL.drop : ∀ {vs : List V} {ds : List D} (n : Nat), RpL mg K H vs ds → RpL mg K H (vs.drop n) (ds.drop n)
  | _, _, 0, r => r
  | _, _, _ + 1, .nil => .nil
  | _, _, n + 1, .cons _ r => r.drop n
theorem RpL.set : ∀ {vs : List V} {ds : List D} (i : Nat) {v : V} {d : D}, Rp mg K H v d → RpL mg K H vs ds → RpL mg K H (vs.set i v) (ds.set i d)
  | _, _, _, _, _, _, .nil => .nil
  | _, _, 0, _, _, h, .cons _ r => .cons h r
  | _, _, i + 1, _, _, h, .cons q r => .cons q (r.set i h)
theorem RpL.reverse : ∀ {vs : List V} {ds : List D}, RpL mg K H vs ds → RpL mg K H vs.reverse ds.reverse
  | _, _, .nil => .nil
  | _, _, .cons h r => by
    rw [List.reverse_cons, List.reverse_cons]
    exact r.reverse.append (.cons h .nil)
theorem RpL.replicate {v : V} {d : D} (h : Rp mg K H v d) : ∀ n, RpL mg K H (List.replicate n v) (List.replicate n d)
  | 0 => .nil
  | n + 1 => .cons h (RpL.replicate h n)
theorem RpL.flat {vs : List V} {ds : List D} (h : RpL mg K H vs ds) : ∀ n, RpL mg K H (List.replicate n vs).flatten (List.replicate n ds).flatten
  | 0 => .nil
  | n + 1 => by
    rw [List.replicate_succ, List.replicate_succ, List.flatten_cons, List.flatten_cons]
    exact h.append (RpL.flat h n)
/-- ints -/
abbrev iz (ns : List Int) : List D := ns.map D.int
theorem RpL.iz : ∀ {ns : List Int} {vs : List V}, RpL mg K H vs (DL.iz ns) → vs = ns.map V.int
  | [], _, .nil => rfl
  | n :: ns, _, .cons h r => by
    cases h
    rw [RpL.iz r]
    rfl
theorem RpL.of_ints : ∀ (ns : List Int), RpL mg K H (ns.map V.int) (DL.iz ns)
  | [] => .nil
  | n :: ns => .cons (.int n) (RpL.of_ints ns)

/-! to the library's data -/
mutual
def toPy : D → Option PyData
  | .non => some .none
  | .bl b => some (.bool b)
  | .int i => some (.int i)
  | .str x => some (.str x)
  | .lst xs => (toPyL xs).map .list
  | .tup xs => (toPyL xs).map .tuple
  | .dic _ _ => none
  | .ins _ _ _ => none
def toPyL : List D → Option (List PyData)
  | [] => some []
  | x :: xs => match toPy x, toPyL xs with
    | some p, some ps => some (p :: ps)
    | _, _ => none
end
mutual
theorem Rp.dp : ∀ {v : V} {d : D} {p : PyData}, Rp mg K H v d → toPy d = some p → Dp K H v p
  | _, _, _, .non, e => by
    cases e
    exact .non
  | _, _, _, .bl b, e => by
    cases e
    exact .bl b
  | _, _, _, .int i, e => by
    cases e
    exact .int i
  | _, _, _, .str x, e => by
    cases e
    exact .str x
  | _, .lst ds, p, .lst h r, e => by
    simp only [toPy, Option.map_eq_some_iff] at e
    obtain ⟨ps, e1, rfl⟩ := e
    exact .lst (.inl (.inl h)) (RpL.dp r e1)
  | _, .tup ds, p, .tup h r, e => by
    simp only [toPy, Option.map_eq_some_iff] at e
    obtain ⟨ps, e1, rfl⟩ := e
    exact .tup h (RpL.dp r e1)
  | _, _, _, .dicK _ _, e => by simp [toPy] at e
  | _, _, _, .dicT _ _, e => by simp [toPy] at e
  | _, _, _, .ins _ _ _, e => by simp [toPy] at e
theorem RpL.dp : ∀ {vs : List V} {ds : List D} {ps : List PyData}, RpL mg K H vs ds → toPyL ds = some ps → DpAll K H vs ps
  | _, _, _, .nil, e => by
    simp only [toPyL, Option.some.injEq] at e
    subst e
    exact .nil
  | _, d :: ds, ps, .cons h r, e => by
    simp only [toPyL] at e
    split at e
    · rename_i p qs e1 e2
      cases e
      exact .cons (Rp.dp h e1) (RpL.dp r e2)
    · cases e
end
end
end DL

set_option maxHeartbeats 2000000
/-! Modes, states, what an expression means. -/
namespace DL
open PySem PySem.Spec PyProof.Rows L2

/-- how a slot is held: not at all, as data, as a list of the def's own that changes, as the pot -/
inductive Md where | u | f | o | p | s
  deriving DecidableEq
/-- how a value comes: as data, to be looked at only, as a new list -/
inductive Rm where | f | b | o | t
  deriving DecidableEq
/-- how an argument goes -/
inductive Ak where | f | b | p | s
  deriving DecidableEq

abbrev Rho := List (Option D)
abbrev Ed := Rho → Pot → Res (D × Pot)
abbrev Et := Rho → Pot → Res (Bool × Pot)
abbrev Ea := Rho → Pot → Res (List D × Pot)
abbrev Fd := List D → Pot → Res (D × Pot)

def Grow (pot : Option Addr) (H H' : Hp) : Prop := ∀ a o, pot ≠ some a → H a = some o → H' a = some o
def PotAt (pot : Option Addr) (H : Hp) (π : Pot) : Prop := ∀ p, pot = some p → H p = some (.lst [.int π.1, .int π.2])

section
variable (mg : Str → Option Value) (K : PySem.W.Frag)
def Own (pot : Option Addr) (M : List Addr) (H : Hp) (p : Addr) (d : D) : Prop :=
  pot ≠ some p ∧ ∃ o, H p = some o ∧ HoR mg K (less H (p :: M)) o d
def Rb (pot : Option Addr) (M : List Addr) (H : Hp) (v : V) (d : D) : Prop :=
  Rp mg K (less H M) v d ∨ ∃ p, v = .ref p ∧ Own mg K pot M H p d
/-- a new tuple of new things -/
def OwnT (pot : Option Addr) (M : List Addr) (H H' : Hp) (v : V) (d : D) : Prop :=
  ∃ q ps ds, v = .ref q ∧ d = .tup ds ∧ H' q = some (.tup (ps.map V.ref)) ∧ H q = none ∧ q ∉ M ∧ q ∉ ps ∧ ds.length = ps.length ∧ pot ≠ some q ∧
    ∀ (i : Nat) (p : Addr) (e : D), ps[i]? = some p → ds[i]? = some e → pot ≠ some p ∧ H p = none ∧ p ∉ M ∧ ∃ o, H' p = some o ∧ HoR mg K (less H' (ps ++ M)) o e
def RpR (r : Rm) (pot : Option Addr) (M : List Addr) (H H' : Hp) (v : V) (d : D) : Prop := match r with
  | .f => Rp mg K (less H' M) v d
  | .b => Rb mg K pot M H' v d
  | .o => ∃ p, v = .ref p ∧ H p = none ∧ Own mg K pot M H' p d
  | .t => OwnT mg K pot M H H' v d
def ArgR (pot : Option Addr) (M : List Addr) (H : Hp) (k : Ak) (v : V) (d : D) : Prop := match k with
  | .f => Rp mg K (less H M) v d
  | .b => Rb mg K pot M H v d
  | .p => ∃ p, pot = some p ∧ v = .ref p
  | .s => ∃ p ns, v = .ref p ∧ d = .lst (DL.iz ns) ∧ SqL K (less H M) p (ns.map V.int)
inductive Args (pot : Option Addr) (M : List Addr) (H : Hp) : List Ak → List V → List D → Prop
  | nil : Args pot M H [] [] []
  | cons {k : Ak} {v : V} {d : D} {ks : List Ak} {vs : List V} {ds : List D} : ArgR mg K pot M H k v d → Args pot M H ks vs ds → Args pot M H (k :: ks) (v :: vs) (d :: ds)
def ErrAt (M : List Addr) (H : Hp) (cv : Value) (dd : Option Addr) (c : Str) (ns : List Str) (xs : List D) : Prop :=
  ∃ C, mg c = some (.ref C) ∧ cv = .ref C ∧ ((dd = none ∧ ns = [] ∧ xs = []) ∨ ∃ a fs, dd = some a ∧ H a = some (.xd fs) ∧ a ∉ M ∧ ns = fs.map (·.1) ∧ RpL mg K (less H M) (fs.map (·.2)) xs)

def PErr (pot : Option Addr) (M : List Addr) (H : Hp) (c : Str) (ns : List Str) (xs : List D) (π : Pot) (E : XK) : Prop :=
  ∀ cv dd H', Grow pot H H' → PotAt pot H' π → ErrAt mg K M H' cv dd c ns xs → E cv dd H'
def Post (r : Rm) (pot : Option Addr) (M : List Addr) (H : Hp) (x : Res (D × Pot)) (Q : VK) (E : XK) : Prop := match x with
  | .ok (d, π) => ∀ v H', Grow pot H H' → PotAt pot H' π → RpR mg K r pot M H H' v d → Q v H'
  | .err c ns xs π => PErr mg K pot M H c ns xs π E
  | .stuck => False
def PostT (pot : Option Addr) (M : List Addr) (H : Hp) (x : Res (Bool × Pot)) (Q : Bool → Hp → Prop) (E : XK) : Prop := match x with
  | .ok (b, π) => ∀ H', Grow pot H H' → PotAt pot H' π → Q b H'
  | .err c ns xs π => PErr mg K pot M H c ns xs π E
  | .stuck => False
def PostA (ks : List Ak) (pot : Option Addr) (M : List Addr) (H : Hp) (x : Res (List D × Pot)) (Q : List V → Hp → Prop) (E : XK) : Prop := match x with
  | .ok (ds, π) => ∀ vs H', Grow pot H H' → PotAt pot H' π → Args mg K pot M H' ks vs ds → Q vs H'
  | .err c ns xs π => PErr mg K pot M H c ns xs π E
  | .stuck => False

structure EnvOk (Γ : List Md) (pot : Option Addr) (M : List Addr) (σ : L2.St) (H : Hp) (ρ : Rho) : Prop where
  ls : σ.length = Γ.length
  lr : ρ.length = Γ.length
  f : ∀ (i : Nat) (d : D), Γ[i]? = some .f → ρ[i]? = some (some d) → ∃ v, σ[i]? = some (some v) ∧ Rp mg K (less H M) v d
  o : ∀ (i : Nat) (d : D), Γ[i]? = some .o → ρ[i]? = some (some d) → ∃ p, σ[i]? = some (some (.ref p)) ∧ p ∈ M ∧ Own mg K pot M H p d
  p : ∀ (i : Nat), Γ[i]? = some .p → ∃ p, pot = some p ∧ σ[i]? = some (some (.ref p))
  s : ∀ (i : Nat) (d : D), Γ[i]? = some .s → ρ[i]? = some (some d) → ∃ p ns, σ[i]? = some (some (.ref p)) ∧ d = .lst (DL.iz ns) ∧ SqL K (less H M) p (ns.map V.int)
  ap : ∀ (i j : Nat) (a : Addr) (d e : D), Γ[i]? = some .o → Γ[j]? = some .o → ρ[i]? = some (some d) → ρ[j]? = some (some e) → σ[i]? = some (some (.ref a)) → σ[j]? = some (some (.ref a)) → i = j
  al : ∀ a ∈ M, H a ≠ none
  pm : ∀ a, pot = some a → a ∈ M

def SemE (E : XK) (r : Rm) (Γ : List Md) (te : TE) (fe : Ed) : Prop :=
  ∀ pot M σ H ρ π, EnvOk mg K Γ pot M σ H ρ → PotAt pot H π → ∀ Q, Post mg K r pot M H (fe ρ π) Q E → te σ H Q
def SemT (E : XK) (Γ : List Md) (tt : TT) (ft : Et) : Prop :=
  ∀ pot M σ H ρ π, EnvOk mg K Γ pot M σ H ρ → PotAt pot H π → ∀ Q, PostT mg K pot M H (ft ρ π) Q E → tt σ H Q
def SemA (E : XK) (ks : List Ak) (Γ : List Md) (ta : TA) (fa : Ea) : Prop :=
  ∀ pot M σ H ρ π, EnvOk mg K Γ pot M σ H ρ → PotAt pot H π → ∀ Q, PostA mg K ks pot M H (fa ρ π) Q E → ta σ H Q
end

section
variable {mg : Str → Option Value} {K : PySem.W.Frag} {pot : Option Addr} {M : List Addr} {H H' H1 H2 : Hp} {π : Pot} {Γ : List Md} {σ : L2.St} {ρ : Rho} {v : V} {d : D}
theorem Grow.refl : Grow pot H H := fun _ _ _ h => h
theorem Grow.trans (a : Grow pot H H1) (b : Grow pot H1 H2) : Grow pot H H2 := fun x o n h => b x o n (a x o n h)
theorem Grow.of_same (e : Same H H') : Grow pot H H' := fun a o _ h => e a o h
theorem same_upd {p : Addr} {o : HO} (h : H p = none) : Same H (upd H p o) := fun b x e => by
  rw [upd_ne (ne_of_none e h)]
  exact e
theorem Grow.new {p : Addr} {o : HO} (h : H p = none) : Grow pot H (upd H p o) := .of_same (same_upd h)
/-- nothing that was there is hurt: data stays -/
theorem less_grow (hp : ∀ a, pot = some a → a ∈ M) (g : Grow pot H H') : Same (less H M) (less H' M) := fun a o h => by
  obtain ⟨h1, h2⟩ := less_some.mp h
  exact less_some.mpr ⟨h1, g a o (fun e => h1 (hp a e)) h2⟩
theorem less_sub {N : List Addr} (h : ∀ a ∈ N, a ∈ M) : Same (less H M) (less H N) := fun a o e => by
  obtain ⟨h1, h2⟩ := less_some.mp e
  exact less_some.mpr ⟨fun q => h1 (h a q), h2⟩
theorem PotAt.same (p : PotAt pot H π) (e : Same H H') : PotAt pot H' π := fun a h => e _ _ (p a h)
theorem PotAt.new {q : Addr} {o : HO} (p : PotAt pot H π) (h : H q = none) : PotAt pot (upd H q o) π := p.same (same_upd h)

theorem Own.grow {p : Addr} (hp : ∀ a, pot = some a → a ∈ M) (g : Grow pot H H') (h : Own mg K pot M H p d) : Own mg K pot M H' p d := by
  obtain ⟨n, o, h1, h2⟩ := h
  exact ⟨n, o, g _ _ n h1, h2.mono (less_grow (fun a q => List.mem_cons_of_mem _ (hp a q)) g)⟩
theorem Rb.grow (hp : ∀ a, pot = some a → a ∈ M) (g : Grow pot H H') (h : Rb mg K pot M H v d) : Rb mg K pot M H' v d := by
  rcases h with h | ⟨p, e, h⟩
  · exact .inl (h.mono (less_grow hp g))
  · exact .inr ⟨p, e, h.grow hp g⟩
theorem ArgR.grow {k : Ak} (hp : ∀ a, pot = some a → a ∈ M) (g : Grow pot H H') (h : ArgR mg K pot M H k v d) : ArgR mg K pot M H' k v d := by
  cases k with
  | f => exact h.mono (less_grow hp g)
  | b => exact Rb.grow hp g h
  | p => exact h
  | s =>
    obtain ⟨q, ns, e1, e2, e3⟩ := h
    exact ⟨q, ns, e1, e2, sqL_mono (less_grow hp g) e3⟩
theorem Args.grow {ks : List Ak} {vs : List V} {ds : List D} (hp : ∀ a, pot = some a → a ∈ M) (g : Grow pot H H') (h : Args mg K pot M H ks vs ds) : Args mg K pot M H' ks vs ds := by
  induction h with
  | nil => exact .nil
  | cons a _ ih => exact .cons (a.grow hp g) ih
theorem Args.length {ks : List Ak} {vs : List V} {ds : List D} (h : Args mg K pot M H ks vs ds) : vs.length = ks.length := by
  induction h with
  | nil => rfl
  | cons _ _ ih => exact congrArg Nat.succ ih
theorem alive (al : ∀ a ∈ M, H a ≠ none) (p : PotAt pot H' π) (g : Grow pot H H') : ∀ a ∈ M, H' a ≠ none := fun a ha e => by
  cases h : H a with
  | none => exact al a ha h
  | some o =>
    by_cases q : pot = some a
    · rw [p a q] at e
      cases e
    · rw [g a o q h] at e
      cases e
theorem EnvOk.grow (I : EnvOk mg K Γ pot M σ H ρ) (g : Grow pot H H') (p : PotAt pot H' π) : EnvOk mg K Γ pot M σ H' ρ where
  ls := I.ls
  lr := I.lr
  f := fun i d h1 h2 => by
    obtain ⟨v, e, r⟩ := I.f i d h1 h2
    exact ⟨v, e, r.mono (less_grow I.pm g)⟩
  o := fun i d h1 h2 => by
    obtain ⟨q, e, m, r⟩ := I.o i d h1 h2
    exact ⟨q, e, m, r.grow I.pm g⟩
  p := I.p
  s := fun i d h1 h2 => by
    obtain ⟨q, ns, e1, e2, e3⟩ := I.s i d h1 h2
    exact ⟨q, ns, e1, e2, sqL_mono (less_grow I.pm g) e3⟩
  ap := I.ap
  al := alive I.al p g
  pm := I.pm
theorem ErrAt.grow {cv : Value} {dd : Option Addr} {c : Str} {ns : List Str} {xs : List D} (h : ErrAt mg K M H cv dd c ns xs) : ErrAt mg K M H cv dd c ns xs := h

/-- a new list is data as well -/
theorem own_f {p : Addr} (al : ∀ a ∈ M, H a ≠ none) (hn : H p = none) (h : Own mg K pot M H' p d) : Rp mg K (less H' M) (.ref p) d := by
  obtain ⟨_, o, h1, h2⟩ := h
  have np : p ∉ M := fun q => al p q hn
  exact HoR.rp (less_some.mpr ⟨np, h1⟩) (h2.mono (less_sub fun a q => List.mem_cons_of_mem _ q))
theorem RpR.toF (al : ∀ a ∈ M, H a ≠ none) (h : RpR mg K .o pot M H H' v d) : Rp mg K (less H' M) v d := by
  obtain ⟨p, rfl, hn, h⟩ := h
  exact own_f al hn h
theorem rpl_refs {H : Hp} : ∀ {ps : List Addr} {ds : List D}, ds.length = ps.length → (∀ (i : Nat) (p : Addr) (e : D), ps[i]? = some p → ds[i]? = some e → Rp mg K H (.ref p) e) → RpL mg K H (ps.map V.ref) ds
  | [], [], _, _ => .nil
  | [], _ :: _, h, _ => by simp at h
  | _ :: _, [], h, _ => by simp at h
  | p :: ps, d :: ds, h, k => .cons (k 0 p d rfl rfl) (rpl_refs (by simpa using h) fun i q e h1 h2 => k (i + 1) q e (by simpa using h1) (by simpa using h2))
theorem ownT_f (h : OwnT mg K pot M H H' v d) : Rp mg K (less H' M) v d := by
  obtain ⟨q, ps, ds, rfl, rfl, h1, _, h3, _, h5, _, h6⟩ := h
  refine .tup (.inl (.inl (less_some.mpr ⟨h3, h1⟩))) (rpl_refs h5 fun i p e e1 e2 => ?_)
  obtain ⟨_, _, g3, o, g4, g5⟩ := h6 i p e e1 e2
  exact HoR.rp (less_some.mpr ⟨g3, g4⟩) (g5.mono (less_sub fun a ha => List.mem_append_right _ ha))
theorem RpR.toB {r : Rm} (h : RpR mg K r pot M H H' v d) : Rb mg K pot M H' v d := by
  cases r with
  | f => exact .inl h
  | b => exact h
  | o =>
    obtain ⟨p, e, _, h⟩ := h
    exact .inr ⟨p, e, h⟩
  | t => exact .inl (ownT_f h)
/-- seen from further back -/
theorem RpR.back {r : Rm} (g : Grow pot H H1) (h0 : PotAt pot H π) (h : RpR mg K r pot M H1 H2 v d) : RpR mg K r pot M H H2 v d := by
  cases r with
  | f => exact h
  | b => exact h
  | o =>
    obtain ⟨p, e, hn, h⟩ := h
    refine ⟨p, e, ?_, h⟩
    cases q : H p with
    | none => rfl
    | some o =>
      rw [g p o h.1 q] at hn
      cases hn
  | t =>
    have bk : ∀ p, pot ≠ some p → H1 p = none → H p = none := fun p np hn => by
      cases q : H p with
      | none => rfl
      | some o =>
        rw [g p o np q] at hn
        cases hn
    obtain ⟨q, ps, ds, e1, e2, h1, h2, h3, h4, h5, h7, h6⟩ := h
    refine ⟨q, ps, ds, e1, e2, h1, bk q h7 h2, h3, h4, h5, h7, fun i p e a1 a2 => ?_⟩
    obtain ⟨g1, g2, g3, g4⟩ := h6 i p e a1 a2
    exact ⟨g1, bk p g1 g2, g3, g4⟩

theorem PErr.back {c : Str} {ns : List Str} {xs : List D} {π' : Pot} {E : XK} (h : PErr mg K pot M H c ns xs π' E) (g : Grow pot H H1) : PErr mg K pot M H1 c ns xs π' E :=
  fun cv dd H' g' p e => h cv dd H' (g.trans g') p e
/-- the post of what comes last is the post of the whole -/
theorem Post.back {r : Rm} {x : Res (D × Pot)} {Q : VK} {E : XK} (g : Grow pot H H1) (h0 : PotAt pot H π) (h : Post mg K r pot M H x Q E) : Post mg K r pot M H1 x Q E := by
  cases x with
  | ok a => exact fun v H' g' p q => h v H' (g.trans g') p (q.back g h0)
  | err c ns xs π' => exact PErr.back h g
  | stuck => exact h
theorem PostT.back {x : Res (Bool × Pot)} {Q : Bool → Hp → Prop} {E : XK} (g : Grow pot H H1) (h : PostT mg K pot M H x Q E) : PostT mg K pot M H1 x Q E := by
  cases x with
  | ok a => exact fun H' g' p => h H' (g.trans g') p
  | err c ns xs π' => exact PErr.back h g
  | stuck => exact h
/-- first x, then k -/
theorem Post.seq {r r' : Rm} {x : Res (D × Pot)} {k : D × Pot → Res (D × Pot)} {Q : VK} {E : XK} (h : Post mg K r pot M H (x.bind k) Q E) (h0 : PotAt pot H π)
    {te : VK → Prop} (ht : ∀ Q', Post mg K r' pot M H x Q' E → te Q') {R : VK}
    (hk : ∀ d π1 v H1, x = .ok (d, π1) → Grow pot H H1 → PotAt pot H1 π1 → RpR mg K r' pot M H H1 v d → Post mg K r pot M H1 (k (d, π1)) Q E → R v H1) : te R := by
  refine ht R ?_
  cases x with
  | ok a =>
    obtain ⟨d, π1⟩ := a
    exact fun v H1 g p q => hk d π1 v H1 rfl g p q (Post.back g h0 h)
  | err c ns xs π' => exact h
  | stuck => exact h
end
end DL

set_option maxHeartbeats 2000000
/-! Expressions. -/
namespace DL
open PySem PySem.Spec PyProof.Rows L2

/-- what a rule asks of the place where it is used -/
structure XOk (X : Cx) (E : XK) (k : Nat) : Prop where
  room : Room k X.A
  gd : X.A.guards = some []
  calm : X.calm = true
  pass : Passes (L2.CX X.prog X.w) X E
  own : PassesOwn (model X.prog X.w) X.A X.env X.xe
  nd : X.N.Nodup
theorem XOk.u1 {X : Cx} {E : XK} {k : Nat} (x : XOk X E k) : X.A.units + 1 < cLine := hu_of x.room
theorem XOk.u0 {X : Cx} {E : XK} {k : Nat} (x : XOk X E k) : X.A.units < cLine := x.room.units0
theorem XOk.u64 {X : Cx} {E : XK} {k : Nat} (x : XOk X E k) : X.A.units + 64 < cLine := x.room.units
theorem XOk.u65 {X : Cx} {E : XK} {k : Nat} (x : XOk X E k) : X.A.units + 65 < cLine := by
  have := x.room.un
  omega

structure DE (X : Cx) (E : XK) (r : Rm) (Γ : List Md) (e : Expr) (te : TE) (fe : Ed) : Prop where
  pe : PE X e te
  sem : SemE X.mg X.K E r Γ te fe
structure DT (X : Cx) (E : XK) (Γ : List Md) (e : Expr) (tt : TT) (ft : Et) : Prop where
  pt : PT X e tt
  sem : SemT X.mg X.K E Γ tt ft
structure DW (X : Cx) (E : XK) (Γ : List Md) (e : Expr) (tt : TT) (ft : Et) : Prop where
  pw : PW X e tt
  sem : SemT X.mg X.K E Γ tt ft
structure DA (X : Cx) (E : XK) (ks : List Ak) (Γ : List Md) (es : List Expr) (ta : TA) (fa : Ea) : Prop where
  pa : PA X es ta
  sem : SemA X.mg X.K E ks Γ ta fa
theorem DW.dt {X : Cx} {E : XK} {Γ : List Md} {e : Expr} {tt : TT} {ft : Et} (h : DW X E Γ e tt ft) : DT X E Γ e tt ft := ⟨h.pw.pt, h.sem⟩

/-! ### the meanings -/
def ofO {α : Type} : Option α → Res α
  | some a => .ok a
  | none => .stuck
@[simp] theorem ofO_some {α : Type} (a : α) : ofO (some a) = .ok a := rfl
@[simp] theorem ofO_none {α : Type} : ofO (none : Option α) = .stuck := rfl
def eVar (i : Nat) : Ed := fun ρ π => match ρ[i]? with
  | some (some d) => .ok (d, π)
  | _ => .stuck
def eC (d : D) : Ed := fun _ π => .ok (d, π)
def eBin (g : D → D → Option D) (a b : Ed) : Ed := fun ρ π => (a ρ π).bind fun x => (b ρ x.2).bind fun y => (ofO (g x.1 y.1)).bind fun z => .ok (z, y.2)
def eUn (g : D → Option D) (a : Ed) : Ed := fun ρ π => (a ρ π).bind fun x => (ofO (g x.1)).bind fun z => .ok (z, x.2)
def truth : D → Option Bool
  | .non => some false
  | .bl b => some b
  | .int i => some (i != 0)
  | .str y => if y.length ≤ sizeLine then some ((y.length : Int) != 0) else none
  | .lst xs => some (!xs.isEmpty)
  | .tup xs => some (!xs.isEmpty)
  | .dic _ _ => none
  | .ins _ _ _ => none
def eAnd (a b : Ed) : Ed := fun ρ π => (a ρ π).bind fun x => (ofO (truth x.1)).bind fun k => if k = true then b ρ x.2 else .ok x
def eOr (a b : Ed) : Ed := fun ρ π => (a ρ π).bind fun x => (ofO (truth x.1)).bind fun k => if k = true then .ok x else b ρ x.2
def eNot (a : Ed) : Ed := fun ρ π => (a ρ π).bind fun x => (ofO (truth x.1)).bind fun k => .ok (.bl (!k), x.2)
def eIf (t : Et) (a b : Ed) : Ed := fun ρ π => (t ρ π).bind fun x => if x.1 = true then a ρ x.2 else b ρ x.2
def aNil : Ea := fun _ π => .ok ([], π)
def aCons (a : Ed) (b : Ea) : Ea := fun ρ π => (a ρ π).bind fun x => (b ρ x.2).bind fun y => .ok (x.1 :: y.1, y.2)
def eTup (a : Ea) : Ed := fun ρ π => (a ρ π).bind fun x => if x.1.length ≤ sizeLine then .ok (.tup x.1, x.2) else .stuck
def eLst (a : Ea) : Ed := fun ρ π => (a ρ π).bind fun x => if x.1.length ≤ sizeLine then .ok (.lst x.1, x.2) else .stuck
def eApp (g : List D → Option D) (a : Ea) : Ed := fun ρ π => (a ρ π).bind fun x => (ofO (g x.1)).bind fun z => .ok (z, x.2)
def tOf (a : Ed) : Et := fun ρ π => (a ρ π).bind fun x => (ofO (truth x.1)).bind fun k => .ok (k, x.2)
def tBl (a : Ed) : Et := fun ρ π => (a ρ π).bind fun x => match x.1 with
  | .bl k => .ok (k, x.2)
  | _ => .stuck
def tAndD (a b : Et) : Et := fun ρ π => (a ρ π).bind fun x => if x.1 = true then b ρ x.2 else .ok (false, x.2)
def tOrD (a b : Et) : Et := fun ρ π => (a ρ π).bind fun x => if x.1 = true then .ok (true, x.2) else b ρ x.2
def tNotD (a : Et) : Et := fun ρ π => (a ρ π).bind fun x => .ok (!x.1, x.2)

section
variable {X : Cx} {E : XK} {Γ : List Md} {r ra rb : Rm} {e a b c : Expr} {ta tb te : TE} {fa fb fe : Ed} {pos : Pos} {k : Nat}

/-! ### from one mode to another -/
theorem DE.toF (h : DE X E .o Γ e te fe) : DE X E .f Γ e te fe := ⟨h.pe, fun pot M σ H ρ π I p Q q => by
  refine h.sem pot M σ H ρ π I p Q ?_
  cases e : fe ρ π with
  | ok a =>
    rw [e] at q
    exact fun v H' g p' y => q v H' g p' (y.toF I.al)
  | err c ns xs π' =>
    rw [e] at q
    exact q
  | stuck =>
    rw [e] at q
    exact q⟩
theorem DE.toB (h : DE X E r Γ e te fe) : DE X E .b Γ e te fe := ⟨h.pe, fun pot M σ H ρ π I p Q q => by
  refine h.sem pot M σ H ρ π I p Q ?_
  cases e : fe ρ π with
  | ok a =>
    rw [e] at q
    exact fun v H' g p' y => q v H' g p' y.toB
  | err c ns xs π' =>
    rw [e] at q
    exact q
  | stuck =>
    rw [e] at q
    exact q⟩

/-! ### names, constants -/
theorem de_var (i : Nat) {x : Str} (hN : X.N[i]? = some x := by rfl) (hv : Vis X.env.scope x := by first | exact Or.inl rfl | exact Or.inr (Or.inl rfl) | exact Or.inr (Or.inr rfl)) (hΓ : Γ[i]? = some .f := by rfl)
    (hd : (x == ("__debug__" : Str)) = false := by decide) (hcd : (x == ("__classdict__" : Str)) = false := by decide) : DE X E .f Γ (.Name x pos) (tVar i) (eVar i) :=
  ⟨pe_var hN hv hd hcd, fun pot M σ H ρ π I p Q q => by
    unfold eVar at q
    split at q
    · rename_i d e
      obtain ⟨v, e1, r⟩ := I.f i d hΓ e
      exact ⟨v, e1, q v H .refl p r⟩
    · exact q.elim⟩
/-- an own list that changes, to be looked at -/
theorem de_varo (i : Nat) {x : Str} (hN : X.N[i]? = some x := by rfl) (hv : Vis X.env.scope x := by first | exact Or.inl rfl | exact Or.inr (Or.inl rfl) | exact Or.inr (Or.inr rfl)) (hΓ : Γ[i]? = some .o := by rfl)
    (hd : (x == ("__debug__" : Str)) = false := by decide) (hcd : (x == ("__classdict__" : Str)) = false := by decide) : DE X E .b Γ (.Name x pos) (tVar i) (eVar i) :=
  ⟨pe_var hN hv hd hcd, fun pot M σ H ρ π I p Q q => by
    unfold eVar at q
    split at q
    · rename_i d e
      obtain ⟨v, e1, m, r⟩ := I.o i d hΓ e
      exact ⟨_, e1, q _ H .refl p (.inr ⟨_, rfl, r⟩)⟩
    · exact q.elim⟩
theorem sem_c {v : V} {d : D} (h : ∀ H, Rp X.mg X.K H v d) : SemE X.mg X.K E .f Γ (tC v) (eC d) := fun pot M σ H ρ π I p Q q => q v H .refl p (h _)
theorem de_int {i : Int} {j : Nat} : DE X E .f Γ (.Constant (.int i) j pos) (tC (.int i)) (eC (.int i)) := ⟨pe_int, sem_c fun _ => .int i⟩
theorem de_bl {i : Bool} {j : Nat} : DE X E .f Γ (.Constant (.bool i) j pos) (tC (.bl i)) (eC (.bl i)) := ⟨pe_bl, sem_c fun _ => .bl i⟩
theorem de_non {j : Nat} : DE X E .f Γ (.Constant .none j pos) (tC .non) (eC .non) := ⟨pe_non, sem_c fun _ => .non⟩
theorem de_str {x : Str} {j : Nat} : DE X E .f Γ (.Constant (.str x) j pos) (tC (.str x)) (eC (.str x)) := ⟨pe_str, sem_c fun _ => .str x⟩
/-- a constant of the module -/
theorem de_glob {x : Str} {v : V} {d : D} (h : ∃ u, X.mg x = some u ∧ RelV v u) (hr : ∀ H, Rp X.mg X.K H v d) (hg : Gl X x := by rfl) (hdb : (x == ("__debug__" : Str)) = false := by decide) : DE X E .f Γ (.Name x pos) (tC v) (eC d) := by
  obtain ⟨u, h1, h2⟩ := h
  exact ⟨pe_glob hg h1 h2 hdb, sem_c hr⟩

/-! ### operators -/
def SemOp (mg : Str → Option Value) (K : PySem.W.Frag) (r2 : R2) (rz : Rm) (g : D → D → Option D) : Prop :=
  ∀ (pot : Option Addr) (M : List Addr) (H : Hp) (x y : V) (d e z : D), (∀ a ∈ M, H a ≠ none) → (∀ a, pot = some a → a ∈ M) → (∀ a, pot = some a → H a ≠ none) → Rb mg K pot M H x d → Rb mg K pot M H y e → g d e = some z →
    ∀ Q : VK, (∀ v H', Same H H' → RpR mg K rz pot M H H' v z → Q v H') → r2 x y H Q
def SemUn (mg : Str → Option Value) (K : PySem.W.Frag) (r1 : V → Hp → VK → Prop) (rz : Rm) (g : D → Option D) : Prop :=
  ∀ (pot : Option Addr) (M : List Addr) (H : Hp) (x : V) (d z : D), (∀ a ∈ M, H a ≠ none) → (∀ a, pot = some a → a ∈ M) → (∀ a, pot = some a → H a ≠ none) → Rb mg K pot M H x d → g d = some z →
    ∀ Q : VK, (∀ v H', Same H H' → RpR mg K rz pot M H H' v z → Q v H') → r1 x H Q
theorem PotAt.has {pot : Option Addr} {H : Hp} {π : Pot} (p : PotAt pot H π) : ∀ a, pot = some a → H a ≠ none := fun a h e => by
  rw [p a h] at e
  cases e
theorem sem_bin {r2 : R2} {rz : Rm} {g : D → D → Option D} (hg : SemOp X.mg X.K r2 rz g) (ha : SemE X.mg X.K E ra Γ ta fa) (hb : SemE X.mg X.K E rb Γ tb fb) : SemE X.mg X.K E rz Γ (tOp r2 ta tb) (eBin g fa fb) := by
  intro pot M σ H ρ π I p Q h
  refine Post.seq (r' := ra) (te := ta σ H) h p (fun Q' hq => ha pot M σ H ρ π I p Q' hq) fun d π1 v H1 _ g1 p1 r1 h1 => ?_
  refine Post.seq (r' := rb) (te := tb σ H1) h1 p1 (fun Q' hq => hb pot M σ H1 ρ π1 (I.grow g1 p1) p1 Q' hq) fun e π2 w H2 _ g2 p2 r2' h2 => ?_
  have I2 := I.grow (g1.trans g2) p2
  cases hz : g d e with
  | none =>
    simp only [hz, ofO_none, Res.bind_stuck] at h2
    exact h2.elim
  | some z =>
    simp only [hz, ofO_some, Res.bind_ok] at h2
    exact hg pot M H2 v w d e z I2.al I.pm p2.has (r1.toB.grow I.pm g2) r2'.toB hz Q fun u H3 s q => h2 u H3 (.of_same s) (p2.same s) q
theorem sem_un {r1 : V → Hp → VK → Prop} {rz : Rm} {g : D → Option D} (hg : SemUn X.mg X.K r1 rz g) (ha : SemE X.mg X.K E ra Γ ta fa) : SemE X.mg X.K E rz Γ (tUn r1 ta) (eUn g fa) := by
  intro pot M σ H ρ π I p Q h
  refine Post.seq (r' := ra) (te := ta σ H) h p (fun Q' hq => ha pot M σ H ρ π I p Q' hq) fun d π1 v H1 _ g1 p1 r1' h1 => ?_
  have I1 := I.grow g1 p1
  cases hz : g d with
  | none =>
    simp only [hz, ofO_none, Res.bind_stuck] at h1
    exact h1.elim
  | some z =>
    simp only [hz, ofO_some, Res.bind_ok] at h1
    exact hg pot M H1 v d z I1.al I.pm p1.has r1'.toB hz Q fun u H3 s q => h1 u H3 (.of_same s) (p1.same s) q
theorem de_bin {op : Operator} {r2 : R2} {rz : Rm} {g : D → D → Option D} (o : OpR X (binaryOp op) r2 ∧ SemOp X.mg X.K r2 rz g) (ha : DE X E ra Γ a ta fa) (hb : DE X E rb Γ b tb fb) : DE X E rz Γ (.BinOp a op b pos) (tOp r2 ta tb) (eBin g fa fb) :=
  ⟨pe_op o.1 ha.pe hb.pe, sem_bin o.2 ha.sem hb.sem⟩
theorem de_un {op : UnaryOp} {r1 : V → Hp → VK → Prop} {rz : Rm} {g : D → Option D} (o : UnR X (unaryOp op) r1 ∧ SemUn X.mg X.K r1 rz g) (ha : DE X E ra Γ a ta fa) : DE X E rz Γ (.UnaryOp op a pos) (tUn r1 ta) (eUn g fa) :=
  ⟨pe_un o.1 ha.pe, sem_un o.2 ha.sem⟩
theorem de_cmp {op : CmpOp} {r2 : R2} {rz : Rm} {g : D → D → Option D} (o : OpR X (compareOp op) r2 ∧ SemOp X.mg X.K r2 rz g) (ha : DE X E ra Γ a ta fa) (hb : DE X E rb Γ b tb fb) (hm : behindInMarks op b = false := by rfl) : DE X E rz Γ (.Compare a [op] [b] pos) (tOp r2 ta tb) (eBin g fa fb) :=
  ⟨pe_cmpR o.1 ha.pe hb.pe hm, sem_bin o.2 ha.sem hb.sem⟩
end
end DL

set_option maxHeartbeats 2000000
/-! Operators on data. -/
namespace DL
open PySem PySem.Spec PyProof.Rows L2

section
variable {mg : Str → Option Value} {K : PySem.W.Frag} {pot : Option Addr} {M : List Addr} {H H' : Hp} {v x : V} {d : D}
theorem rb_int {i : Int} (h : Rb mg K pot M H x (.int i)) : x = .int i := by
  rcases h with h | ⟨_, _, _, _, _, e⟩
  · cases h
    rfl
  · cases e
theorem rb_bl {i : Bool} (h : Rb mg K pot M H x (.bl i)) : x = .bl i := by
  rcases h with h | ⟨_, _, _, _, _, e⟩
  · cases h
    rfl
  · cases e
theorem rb_str {i : Str} (h : Rb mg K pot M H x (.str i)) : x = .str i := by
  rcases h with h | ⟨_, _, _, _, _, e⟩
  · cases h
    rfl
  · cases e
theorem rb_non (h : Rb mg K pot M H x .non) : x = .non := by
  rcases h with h | ⟨_, _, _, _, _, e⟩
  · cases h
    rfl
  · cases e
theorem less_le : Same (less H M) H := fun a o h => (less_some.mp h).2
theorem rb_lst {ds : List D} (h : Rb mg K pot M H x (.lst ds)) : ∃ p xs, x = .ref p ∧ H p = some (.lst xs) ∧ RpL mg K (less H M) xs ds := by
  rcases h with h | ⟨p, e1, _, o, h1, h2⟩
  · cases h with
    | lst h1 h2 => exact ⟨_, _, rfl, less_le _ _ h1, h2⟩
  · cases h2 with
    | lst h2 => exact ⟨p, _, e1, h1, h2.mono (less_sub fun a q => List.mem_cons_of_mem _ q)⟩
theorem rb_tup {ds : List D} (h : Rb mg K pot M H x (.tup ds)) : ∃ p xs, x = .ref p ∧ SqT K (less H M) p xs ∧ RpL mg K (less H M) xs ds := by
  rcases h with h | ⟨p, e1, _, o, h1, h2⟩
  · cases h with
    | tup h1 h2 => exact ⟨_, _, rfl, h1, h2⟩
  · cases h2
theorem rb_rp (h : Rb mg K pot M H x d) : Rp mg K H x d := by
  rcases h with h | ⟨p, e1, _, o, h1, h2⟩
  · exact h.mono less_le
  · cases e1
    exact HoR.rp h1 (h2.mono less_le)
theorem less_new {q : Addr} {o : HO} (hn : H q = none) : Same (less H M) (less (upd H q o) (q :: M)) := fun a u h => by
  obtain ⟨h1, h2⟩ := less_some.mp h
  have n := ne_of_none h2 hn
  refine less_some.mpr ⟨fun m => ?_, ?_⟩
  · rcases List.mem_cons.mp m with e | m
    · exact n e
    · exact h1 m
  · rw [upd_ne n]
    exact h2
theorem less_new1 {q : Addr} {o : HO} (hn : H q = none) : Same (less H M) (less (upd H q o) M) := fun a u h => by
  obtain ⟨h1, h2⟩ := less_some.mp h
  refine less_some.mpr ⟨h1, ?_⟩
  rw [upd_ne (ne_of_none h2 hn)]
  exact h2
theorem new_lst {q : Addr} {xs : List V} {ds : List D} (hp : ∀ a, pot = some a → H a ≠ none) (hn : H q = none) (r : RpL mg K (less H M) xs ds) : RpR mg K .o pot M H (upd H q (.lst xs)) (.ref q) (.lst ds) :=
  ⟨q, rfl, hn, fun e => hp q e hn, _, upd_same, .lst (r.mono (less_new hn))⟩
theorem new_tup {q : Addr} {xs : List V} {ds : List D} (al : ∀ a ∈ M, H a ≠ none) (hn : H q = none) (r : RpL mg K (less H M) xs ds) : Rp mg K (less (upd H q (.tup xs)) M) (.ref q) (.tup ds) :=
  .tup (.inl (.inl (less_some.mpr ⟨fun m => al q m hn, upd_same⟩))) (r.mono (less_new1 hn))
theorem new_lstF {q : Addr} {xs : List V} {ds : List D} (al : ∀ a ∈ M, H a ≠ none) (hn : H q = none) (r : RpL mg K (less H M) xs ds) : Rp mg K (less (upd H q (.lst xs)) M) (.ref q) (.lst ds) :=
  .lst (less_some.mpr ⟨fun m => al q m hn, upd_same⟩) (r.mono (less_new1 hn))
end

/-! the operations -/
def opAdd : D → D → Option D
  | .int i, .int j => some (.int (i + j))
  | .lst xs, .lst ys => if xs.length + ys.length ≤ sizeLine then some (.lst (xs ++ ys)) else none
  | .tup xs, .tup ys => if xs.length + ys.length ≤ sizeLine then some (.tup (xs ++ ys)) else none
  | .str x, .str y => if x.length + y.length ≤ sizeLine then some (.str (x ++ y)) else none
  | _, _ => none
def opCat : D → D → Option D
  | .lst xs, .lst ys => if xs.length + ys.length ≤ sizeLine then some (.lst (xs ++ ys)) else none
  | _, _ => none
def opSub : D → D → Option D
  | .int i, .int j => some (.int (i - j))
  | _, _ => none
def small (i : Int) : Bool := decide (-18446744073709551616 < i ∧ i < 18446744073709551616)
def opMul : D → D → Option D
  | .int i, .int j => if small i || small j then some (.int (i * j)) else none
  | _, _ => none
def opMulW : D → D → Option D
  | .int i, .int j => if i.natAbs.log2 + j.natAbs.log2 < 1000000 then some (.int (i * j)) else none
  | _, _ => none
def opRep : D → D → Option D
  | .lst xs, .int k => if decide (-9223372036854775808 ≤ k ∧ k < 9223372036854775808) && decide (xs.length * k.toNat ≤ sizeLine) then some (.lst (List.replicate k.toNat xs).flatten) else none
  | _, _ => none
def opFdiv : D → D → Option D
  | .int i, .int j => if 0 < j ∧ j < 1073741824 then some (.int (i / j)) else none
  | _, _ => none
def opFdivW : D → D → Option D
  | .int i, .int j => if 0 < j ∧ j.natAbs.log2 < 9000 then some (.int (i / j)) else none
  | _, _ => none
def opMod : D → D → Option D
  | .int i, .int j => if 0 < j then some (.int (i % j)) else none
  | _, _ => none
def opPow : D → D → Option D
  | .int i, .int j => if decide (0 ≤ j ∧ j ≤ 1000000) && small i then some (.int (i ^ j.toNat)) else none
  | _, _ => none
def opNeg : D → Option D
  | .int i => some (.int (-i))
  | _ => none
def cmpI (p : Int → Int → Bool) : D → D → Option D
  | .int i, .int j => some (.bl (p i j))
  | _, _ => none
def eqP (d e : D) : Option Bool := match toPy d, toPy e with
  | some p, some q => if SeqAt.shaped p && SeqAt.shaped q then some (PyData.eqv p q) else none
  | _, _ => none
def eqD : D → D → Option Bool
  | .str x, .str y => some (decide (x = y))
  | .int x, .int y => some (decide (x = y))
  | d, e => eqP d e
def opEq (d e : D) : Option D := (eqD d e).map .bl
def opNe (d e : D) : Option D := (eqD d e).map fun b => .bl (!b)
def isNonD : D → Bool
  | .non => true
  | _ => false
def opIsN (d e : D) : Option D := if isNonD e then some (.bl (isNonD d)) else none
def opNotN (d e : D) : Option D := if isNonD e then some (.bl (!isNonD d)) else none
def opIsB : D → D → Option D
  | .bl a, .bl b => some (.bl (decide (a = b)))
  | _, _ => none
def opNotB : D → D → Option D
  | .bl a, .bl b => some (.bl (!decide (a = b)))
  | _, _ => none
def inD (d : D) (e : D) : Option Bool := match toPy d, toPy e with
  | some p, some (.list qs) => if SeqAt.shaped p && SeqAt.shaped (.list qs) then some (qs.any fun z => PyData.eqv z p) else none
  | _, _ => none
def opIn (d e : D) : Option D := (inD d e).map .bl
def opNotIn (d e : D) : Option D := (inD d e).map fun b => .bl (!b)

section
variable {X : Cx} {E : XK} {k : Nat}
abbrev OpOk (X : Cx) (f : Value → Value → Sem Value) (r2 : R2) (rz : Rm) (g : D → D → Option D) : Prop := OpR X f r2 ∧ SemOp X.mg X.K r2 rz g
theorem sem_int {mg : Str → Option Value} {K : PySem.W.Frag} {C : Int → Int → Prop} {g : D → D → Option D} {gi : Int → Int → Int} (h : ∀ d e z, g d e = some z → ∃ i j, d = .int i ∧ e = .int j ∧ C i j ∧ z = .int (gi i j)) : SemOp mg K (rI C fun i j => .int (gi i j)) .f g := by
  intro pot M H x y d e z al pm ph rx ry hz Q q
  obtain ⟨i, j, rfl, rfl, c, rfl⟩ := h d e z hz
  exact ⟨i, j, rb_int rx, rb_int ry, c, q _ H (Same.refl H) (.int _)⟩
theorem sem_int0 {mg : Str → Option Value} {K : PySem.W.Frag} {g : D → D → Option D} {gi : Int → Int → V} {gd : Int → Int → D} (hr : ∀ i j H, Rp mg K H (gi i j) (gd i j)) (h : ∀ d e z, g d e = some z → ∃ i j, d = .int i ∧ e = .int j ∧ z = gd i j) : SemOp mg K (rI0 gi) .f g := by
  intro pot M H x y d e z al pm ph rx ry hz Q q
  obtain ⟨i, j, rfl, rfl, rfl⟩ := h d e z hz
  exact ⟨i, j, rb_int rx, rb_int ry, q _ H (Same.refl H) (hr _ _ _)⟩
theorem o_sub : OpOk X (binaryOp .Sub) (rI0 fun i j => .int (i - j)) .f opSub := ⟨op_sub, sem_int0 (gd := fun i j => .int (i - j)) (fun _ _ _ => .int _) fun d e z h => by
  cases d <;> cases e <;> simp [opSub] at h
  exact ⟨_, _, rfl, rfl, h.symm⟩⟩
theorem o_mul : OpOk X (binaryOp .Mult) (rI CMul fun i j => .int (i * j)) .f opMul := ⟨op_mul, sem_int (gi := fun i j => i * j) fun d e z h => by
  cases d <;> cases e <;> simp [opMul, small] at h
  exact ⟨_, _, rfl, rfl, (by unfold CMul; omega), h.2.symm⟩⟩
theorem o_mulW : OpOk X (binaryOp .Mult) (rI CMulW fun i j => .int (i * j)) .f opMulW := ⟨op_mulW, sem_int (gi := fun i j => i * j) fun d e z h => by
  cases d <;> cases e <;> simp [opMulW] at h
  exact ⟨_, _, rfl, rfl, h.1, h.2.symm⟩⟩
theorem o_fdiv : OpOk X (binaryOp .FloorDiv) (rI CDiv fun i j => .int (i / j)) .f opFdiv := ⟨op_fdiv, sem_int (gi := fun i j => i / j) fun d e z h => by
  cases d <;> cases e <;> simp [opFdiv] at h
  exact ⟨_, _, rfl, rfl, h.1, h.2.symm⟩⟩
theorem o_fdivW : OpOk X (binaryOp .FloorDiv) (rI CDivW fun i j => .int (i / j)) .f opFdivW := ⟨op_fdivW, sem_int (gi := fun i j => i / j) fun d e z h => by
  cases d <;> cases e <;> simp [opFdivW] at h
  exact ⟨_, _, rfl, rfl, h.1, h.2.symm⟩⟩
theorem o_mod : OpOk X (binaryOp .Mod) (rI (fun _ j => 0 < j) fun i j => .int (i % j)) .f opMod := ⟨op_mod, sem_int (gi := fun i j => i % j) fun d e z h => by
  cases d <;> cases e <;> simp [opMod] at h
  exact ⟨_, _, rfl, rfl, h.1, h.2.symm⟩⟩
theorem o_pow : OpOk X (binaryOp .Pow) (rI CPow fun i j => .int (i ^ j.toNat)) .f opPow := ⟨op_pow, sem_int (gi := fun i j => i ^ j.toNat) fun d e z h => by
  cases d <;> cases e <;> simp [opPow, small] at h
  exact ⟨_, _, rfl, rfl, (by unfold CPow; omega), h.2.symm⟩⟩
theorem o_neg : UnR X (unaryOp .USub) (rU fun i => .int (-i)) ∧ SemUn X.mg X.K (rU fun i => .int (-i)) .f opNeg := ⟨un_neg, fun pot M H x d z al pm ph rx hz Q q => by
  cases d <;> simp [opNeg] at hz
  subst hz
  exact ⟨_, rb_int rx, q _ H (Same.refl H) (.int _)⟩⟩
theorem o_lt : OpOk X (compareOp .Lt) (rI0 fun i j => .bl (decide (i < j))) .f (cmpI fun i j => decide (i < j)) := ⟨op_lt, sem_int0 (gd := fun i j => .bl (decide (i < j))) (fun _ _ _ => .bl _) fun d e z h => by
  cases d <;> cases e <;> simp [cmpI] at h
  exact ⟨_, _, rfl, rfl, h.symm⟩⟩
theorem o_le : OpOk X (compareOp .LtE) (rI0 fun i j => .bl (decide (i ≤ j))) .f (cmpI fun i j => decide (i ≤ j)) := ⟨op_le, sem_int0 (gd := fun i j => .bl (decide (i ≤ j))) (fun _ _ _ => .bl _) fun d e z h => by
  cases d <;> cases e <;> simp [cmpI] at h
  exact ⟨_, _, rfl, rfl, h.symm⟩⟩
theorem o_gt : OpOk X (compareOp .Gt) (rI0 fun i j => .bl (decide (j < i))) .f (cmpI fun i j => decide (j < i)) := ⟨op_gt, sem_int0 (gd := fun i j => .bl (decide (j < i))) (fun _ _ _ => .bl _) fun d e z h => by
  cases d <;> cases e <;> simp [cmpI] at h
  exact ⟨_, _, rfl, rfl, h.symm⟩⟩
theorem o_ge : OpOk X (compareOp .GtE) (rI0 fun i j => .bl (decide (j ≤ i))) .f (cmpI fun i j => decide (j ≤ i)) := ⟨op_ge, sem_int0 (gd := fun i j => .bl (decide (j ≤ i))) (fun _ _ _ => .bl _) fun d e z h => by
  cases d <;> cases e <;> simp [cmpI] at h
  exact ⟨_, _, rfl, rfl, h.symm⟩⟩
theorem sem_cat {mg : Str → Option Value} {K : PySem.W.Frag} : SemOp mg K rCat .o opCat := by
  intro pot M H x y d e z al pm ph rx ry hz Q q
  cases d <;> cases e <;> simp [opCat] at hz
  obtain ⟨p, xs, rfl, h1, r1⟩ := rb_lst rx
  obtain ⟨p', ys, rfl, h2, r2⟩ := rb_lst ry
  obtain ⟨hl, rfl⟩ := hz
  refine ⟨p, p', xs, ys, rfl, rfl, h1, h2, by rw [r1.length, r2.length]; exact hl, fun l hn => ?_⟩
  exact q _ _ (same_upd hn) (new_lst ph hn (r1.append r2))
theorem o_cat : OpOk X (binaryOp .Add) rCat .o opCat := ⟨op_cat, sem_cat⟩
theorem o_rep : OpOk X (binaryOp .Mult) rRep .o opRep := ⟨op_rep, fun pot M H x y d e z al pm ph rx ry hz Q q => by
  cases d <;> cases e <;> simp [opRep] at hz
  obtain ⟨p, xs, rfl, h1, r1⟩ := rb_lst rx
  obtain ⟨⟨h3, h4⟩, rfl⟩ := hz
  refine ⟨p, _, xs, rfl, rb_int ry, h1, by omega, by omega, by rw [r1.length]; exact h4, fun l hn => ?_⟩
  exact q _ _ (same_upd hn) (new_lst ph hn (r1.flat _))⟩
/-- + of ints, texts, lists, tuples -/
def rAddA (K : PySem.W.Frag) : R2 := fun x y H Q => rI0 (fun i j => .int (i + j)) x y H Q ∨ (∃ i j, x = .str i ∧ y = .str j ∧ i.length + j.length ≤ sizeLine ∧ Q (.str (i ++ j)) H) ∨ rCat x y H Q ∨ rCatA K x y H Q
theorem o_add : OpOk X (binaryOp .Add) (rAddA X.K) .f opAdd := ⟨op_add.or (op_add_str.or (op_cat.or op_catA)), fun pot M H x y d e z al pm ph rx ry hz Q q => by
  cases d <;> cases e <;> simp [opAdd] at hz
  · subst hz
    exact .inl ⟨_, _, rb_int rx, rb_int ry, q _ H (Same.refl H) (.int _)⟩
  · obtain ⟨hl, rfl⟩ := hz
    exact .inr (.inl ⟨_, _, rb_str rx, rb_str ry, hl, q _ H (Same.refl H) (.str _)⟩)
  · obtain ⟨p, xs, rfl, h1, r1⟩ := rb_lst rx
    obtain ⟨p', ys, rfl, h2, r2⟩ := rb_lst ry
    obtain ⟨hl, rfl⟩ := hz
    refine .inr (.inr (.inl ⟨p, p', xs, ys, rfl, rfl, h1, h2, by rw [r1.length, r2.length]; exact hl, fun l hn => ?_⟩))
    exact q _ _ (same_upd hn) (new_lstF al hn (r1.append r2))
  · obtain ⟨p, xs, rfl, h1, r1⟩ := rb_tup rx
    obtain ⟨p', ys, rfl, h2, r2⟩ := rb_tup ry
    obtain ⟨hl, rfl⟩ := hz
    refine .inr (.inr (.inr ⟨p, p', xs, ys, rfl, rfl, sqT_mono less_le h1, sqT_mono less_le h2, by rw [r1.length, r2.length]; exact hl, fun e0 => ?_, fun e0 e1 => ?_, fun e0 e1 l hn => ?_⟩))
    · subst e0
      cases r1
      exact q _ H (Same.refl H) (.tup h2 r2)
    · subst e1
      cases r2
      rw [List.append_nil] at q
      exact q _ H (Same.refl H) (.tup h1 r1)
    · exact q _ _ (same_upd hn) (new_tup al hn (r1.append r2))⟩
theorem dec_strV {i j : Str} : decide (V.str i = V.str j) = decide (i = j) := by
  rw [Bool.eq_iff_iff]
  simp
theorem dec_intV {i j : Int} : decide (V.int i = V.int j) = decide (i = j) := by
  rw [Bool.eq_iff_iff]
  simp
theorem o_eq (x : XOk X E k) : OpOk X (compareOp .Eq) (fun x y H Q => rEq x y H Q ∨ rEqD X.K x y H Q) .f opEq := ⟨op_eq.or (op_eqD x.u64), fun pot M H x y d e z al pm ph rx ry hz Q q => by
  unfold opEq eqD at hz
  split at hz
  · cases hz
    rw [rb_str rx, rb_str ry]
    exact .inl ⟨rfl, by rw [dec_strV]; exact q _ H (Same.refl H) (.bl _)⟩
  · cases hz
    rw [rb_int rx, rb_int ry]
    exact .inl ⟨rfl, by rw [dec_intV]; exact q _ H (Same.refl H) (.bl _)⟩
  · unfold eqP at hz
    split at hz
    · rename_i p p' e1 e2
      split at hz
      · rename_i hs
        cases hz
        obtain ⟨s1, s2⟩ := Bool.and_eq_true_iff.mp hs
        exact .inr ⟨p, p', (rb_rp rx).dp e1, (rb_rp ry).dp e2, s1, s2, q _ H (Same.refl H) (.bl _)⟩
      · cases hz
    · cases hz⟩
theorem o_ne (x : XOk X E k) : OpOk X (compareOp .NotEq) (fun x y H Q => rNe x y H Q ∨ rNeD X.K x y H Q) .f opNe := ⟨op_ne.or (op_neD x.u64), fun pot M H x y d e z al pm ph rx ry hz Q q => by
  unfold opNe eqD at hz
  split at hz
  · cases hz
    rw [rb_str rx, rb_str ry]
    exact .inl ⟨rfl, by rw [dec_strV]; exact q _ H (Same.refl H) (.bl _)⟩
  · cases hz
    rw [rb_int rx, rb_int ry]
    exact .inl ⟨rfl, by rw [dec_intV]; exact q _ H (Same.refl H) (.bl _)⟩
  · unfold eqP at hz
    split at hz
    · rename_i p p' e1 e2
      split at hz
      · rename_i hs
        cases hz
        obtain ⟨s1, s2⟩ := Bool.and_eq_true_iff.mp hs
        exact .inr ⟨p, p', (rb_rp rx).dp e1, (rb_rp ry).dp e2, s1, s2, q _ H (Same.refl H) (.bl _)⟩
      · cases hz
    · cases hz⟩
theorem o_in (x : XOk X E k) : OpOk X (compareOp .In) (rInD X.K) .f opIn := ⟨op_inD x.u65, fun pot M H x y d e z al pm ph rx ry hz Q q => by
  unfold opIn inD at hz
  split at hz
  · rename_i p qs e1 e2
    split at hz
    · rename_i hs
      cases hz
      obtain ⟨s1, s2⟩ := Bool.and_eq_true_iff.mp hs
      exact ⟨p, qs, (rb_rp rx).dp e1, (rb_rp ry).dp e2, s1, s2, q _ H (Same.refl H) (.bl _)⟩
    · cases hz
  · cases hz⟩
theorem o_notIn (x : XOk X E k) : OpOk X (compareOp .NotIn) (rNotInD X.K) .f opNotIn := ⟨op_notInD x.u65, fun pot M H x y d e z al pm ph rx ry hz Q q => by
  unfold opNotIn inD at hz
  split at hz
  · rename_i p qs e1 e2
    split at hz
    · rename_i hs
      cases hz
      obtain ⟨s1, s2⟩ := Bool.and_eq_true_iff.mp hs
      exact ⟨p, qs, (rb_rp rx).dp e1, (rb_rp ry).dp e2, s1, s2, q _ H (Same.refl H) (.bl _)⟩
    · cases hz
  · cases hz⟩
theorem rb_isN {mg : Str → Option Value} {K : PySem.W.Frag} {pot : Option Addr} {M : List Addr} {H : Hp} {x : V} {d : D} (h : Rb mg K pot M H x d) : decide (x = .non) = isNonD d := by
  rcases h with h | ⟨p, e1, _, o, h1, h2⟩
  · cases h <;> rfl
  · cases e1
    cases h2 <;> rfl
theorem o_isN : OpOk X (compareOp .Is) (fun x y H Q => y = .non ∧ Q (.bl (decide (x = .non))) H) .f opIsN := ⟨op_isN, fun pot M H x y d e z al pm ph rx ry hz Q q => by
  cases e <;> simp [opIsN, isNonD] at hz
  have hz' : z = .bl _ := hz.symm
  subst hz'
  rw [rb_isN rx]
  exact ⟨rb_non ry, q _ H (Same.refl H) (.bl _)⟩⟩
theorem o_notN : OpOk X (compareOp .IsNot) (fun x y H Q => y = .non ∧ Q (.bl (!decide (x = .non))) H) .f opNotN := ⟨op_notN, fun pot M H x y d e z al pm ph rx ry hz Q q => by
  cases e <;> simp [opNotN, isNonD] at hz
  have hz' : z = .bl _ := hz.symm
  subst hz'
  rw [rb_isN rx]
  exact ⟨rb_non ry, q _ H (Same.refl H) (.bl _)⟩⟩
theorem o_isB : OpOk X (compareOp .Is) rIsB .f opIsB := ⟨op_isBl, fun pot M H x y d e z al pm ph rx ry hz Q q => by
  cases d <;> cases e <;> simp [opIsB] at hz
  subst hz
  exact ⟨_, _, rb_bl rx, rb_bl ry, q _ H (Same.refl H) (.bl _)⟩⟩
theorem o_notB : OpOk X (compareOp .IsNot) rNotB .f opNotB := ⟨op_notBl, fun pot M H x y d e z al pm ph rx ry hz Q q => by
  cases d <;> cases e <;> simp [opNotB] at hz
  subst hz
  exact ⟨_, _, rb_bl rx, rb_bl ry, q _ H (Same.refl H) (.bl _)⟩⟩
end
end DL

set_option maxHeartbeats 2000000
/-! and, or, if, displays, tests, places, built-in functions. -/
namespace DL
open PySem PySem.Spec PyProof.Rows L2

section
variable {mg : Str → Option Value} {K : PySem.W.Frag} {pot : Option Addr} {M : List Addr} {H H' : Hp} {v x : V} {d : D}
theorem RpL.empty {vs : List V} {ds : List D} (h : RpL mg K H vs ds) : vs.isEmpty = ds.isEmpty := by
  cases h <;> rfl
theorem tru_of {k : Bool} (h : Rb mg K pot M H x d) (e : truth d = some k) : TruV K x H k := by
  cases d with
  | non =>
    cases rb_non h
    cases e
    rfl
  | bl b =>
    cases rb_bl h
    cases e
    rfl
  | int i =>
    cases rb_int h
    simp only [truth, Option.some.injEq] at e
    exact e.symm
  | str y =>
    cases rb_str h
    simp only [truth] at e
    split at e
    · rename_i hl
      simp only [Option.some.injEq] at e
      exact ⟨hl, e.symm⟩
    · cases e
  | lst ds =>
    obtain ⟨p, xs, rfl, h1, r1⟩ := rb_lst h
    simp only [truth, Option.some.injEq] at e
    exact .inl ⟨xs, .inl (.inl h1), by rw [r1.empty, e]⟩
  | tup ds =>
    obtain ⟨p, xs, rfl, h1, r1⟩ := rb_tup h
    simp only [truth, Option.some.injEq] at e
    exact .inr (.inl ⟨xs, sqT_mono less_le h1, by rw [r1.empty, e]⟩)
  | dic ks xs => cases e
  | ins c ns xs => cases e
theorem Args.rpl : ∀ {ks : List Ak} {vs : List V} {ds : List D}, Args mg K pot M H ks vs ds → (∀ k ∈ ks, k = Ak.f) → RpL mg K (less H M) vs ds
  | _, _, _, .nil, _ => .nil
  | _, _, _, .cons (k := k) a r, h => by
    have e : k = .f := h k (List.mem_cons_self ..)
    subst e
    exact .cons a (r.rpl fun k hk => h k (List.mem_cons_of_mem _ hk))
theorem ArgR.rb {k : Ak} (h : ArgR mg K pot M H k v d) (hk : k = .f ∨ k = .b) : Rb mg K pot M H v d := by
  rcases hk with rfl | rfl
  · exact .inl h
  · exact h
end

section
variable {X : Cx} {E : XK} {Γ : List Md} {r ra rb rc : Rm} {e a b c : Expr} {ta tb tc te : TE} {fa fb fc fe : Ed} {tt uu : TT} {ft fu : Et} {pos : Pos} {k : Nat} {ks : List Ak} {es rest : List Expr} {tA : TA} {fA : Ea}

theorem de_one {op : BoolOp} (ha : DE X E r Γ a ta fa) : DE X E r Γ (.BoolOp op [a] pos) ta fa := ⟨pe_one ha.pe, ha.sem⟩
theorem de_and (ha : DE X E .f Γ a ta fa) (hb : DE X E .f Γ (.BoolOp .And (b :: rest) pos) tb fb) : DE X E .f Γ (.BoolOp .And (a :: b :: rest) pos) (tAndT X.K ta tb) (eAnd fa fb) :=
  ⟨pe_andT ha.pe hb.pe, fun pot M σ H ρ π I p Q h => by
    refine Post.seq (r' := .f) (te := ta σ H) h p (fun Q' hq => ha.sem pot M σ H ρ π I p Q' hq) fun d π1 v H1 _ g1 p1 r1 h1 => ?_
    cases hz : truth d with
    | none =>
      simp only [hz, ofO_none, Res.bind_stuck] at h1
      exact h1.elim
    | some z =>
      simp only [hz, ofO_some, Res.bind_ok] at h1
      refine ⟨z, tru_of r1.toB hz, ?_⟩
      cases z with
      | true => exact hb.sem pot M σ H1 ρ π1 (I.grow g1 p1) p1 Q h1
      | false => exact h1 v H1 .refl p1 r1⟩
theorem de_or (ha : DE X E .f Γ a ta fa) (hb : DE X E .f Γ (.BoolOp .Or (b :: rest) pos) tb fb) : DE X E .f Γ (.BoolOp .Or (a :: b :: rest) pos) (tOrT X.K ta tb) (eOr fa fb) :=
  ⟨pe_orT ha.pe hb.pe, fun pot M σ H ρ π I p Q h => by
    refine Post.seq (r' := .f) (te := ta σ H) h p (fun Q' hq => ha.sem pot M σ H ρ π I p Q' hq) fun d π1 v H1 _ g1 p1 r1 h1 => ?_
    cases hz : truth d with
    | none =>
      simp only [hz, ofO_none, Res.bind_stuck] at h1
      exact h1.elim
    | some z =>
      simp only [hz, ofO_some, Res.bind_ok] at h1
      refine ⟨z, tru_of r1.toB hz, ?_⟩
      cases z with
      | true => exact h1 v H1 .refl p1 r1
      | false => exact hb.sem pot M σ H1 ρ π1 (I.grow g1 p1) p1 Q h1⟩
theorem de_not (ha : DE X E r Γ a ta fa) : DE X E .f Γ (.UnaryOp .Not a pos) (tNotT X.K ta) (eNot fa) :=
  ⟨pe_notT ha.pe, fun pot M σ H ρ π I p Q h => by
    refine Post.seq (r' := r) (te := ta σ H) h p (fun Q' hq => ha.sem pot M σ H ρ π I p Q' hq) fun d π1 v H1 _ g1 p1 r1 h1 => ?_
    cases hz : truth d with
    | none =>
      simp only [hz, ofO_none, Res.bind_stuck] at h1
      exact h1.elim
    | some z =>
      simp only [hz, ofO_some, Res.bind_ok] at h1
      exact ⟨z, tru_of r1.toB hz, h1 _ H1 .refl p1 (.bl _)⟩⟩
theorem PostT.seq {pot : Option Addr} {M : List Addr} {H : Hp} {π : Pot} {x : Res (Bool × Pot)} {kk : Bool × Pot → Res (D × Pot)} {Q : VK} (h : Post X.mg X.K r pot M H (x.bind kk) Q E) (h0 : PotAt pot H π)
    {te : (Bool → Hp → Prop) → Prop} (ht : ∀ Q', PostT X.mg X.K pot M H x Q' E → te Q') {R : Bool → Hp → Prop}
    (hk : ∀ d π1 H1, x = .ok (d, π1) → Grow pot H H1 → PotAt pot H1 π1 → Post X.mg X.K r pot M H1 (kk (d, π1)) Q E → R d H1) : te R := by
  refine ht R ?_
  cases x with
  | ok a =>
    obtain ⟨d, π1⟩ := a
    exact fun H1 g p => hk d π1 H1 rfl g p (Post.back g h0 h)
  | err c ns xs π' => exact h
  | stuck => exact h
theorem PostT.seqT {pot : Option Addr} {M : List Addr} {H : Hp} {x : Res (Bool × Pot)} {kk : Bool × Pot → Res (Bool × Pot)} {Q : Bool → Hp → Prop} (h : PostT X.mg X.K pot M H (x.bind kk) Q E)
    {te : (Bool → Hp → Prop) → Prop} (ht : ∀ Q', PostT X.mg X.K pot M H x Q' E → te Q') {R : Bool → Hp → Prop}
    (hk : ∀ d π1 H1, x = .ok (d, π1) → Grow pot H H1 → PotAt pot H1 π1 → PostT X.mg X.K pot M H1 (kk (d, π1)) Q E → R d H1) : te R := by
  refine ht R ?_
  cases x with
  | ok a =>
    obtain ⟨d, π1⟩ := a
    exact fun H1 g p => hk d π1 H1 rfl g p (PostT.back g h)
  | err c ns xs π' => exact h
  | stuck => exact h
theorem Post.seqT {pot : Option Addr} {M : List Addr} {H : Hp} {x : Res (D × Pot)} {kk : D × Pot → Res (Bool × Pot)} {Q : Bool → Hp → Prop} (h : PostT X.mg X.K pot M H (x.bind kk) Q E)
    {te : VK → Prop} (ht : ∀ Q', Post X.mg X.K r pot M H x Q' E → te Q') {R : VK}
    (hk : ∀ d π1 v H1, x = .ok (d, π1) → Grow pot H H1 → PotAt pot H1 π1 → RpR X.mg X.K r pot M H H1 v d → PostT X.mg X.K pot M H1 (kk (d, π1)) Q E → R v H1) : te R := by
  refine ht R ?_
  cases x with
  | ok a =>
    obtain ⟨d, π1⟩ := a
    exact fun v H1 g p q => hk d π1 v H1 rfl g p q (PostT.back g h)
  | err c ns xs π' => exact h
  | stuck => exact h
theorem de_if (hc : DT X E Γ c tt ft) (ha : DE X E r Γ a ta fa) (hb : DE X E r Γ b tb fb) : DE X E r Γ (.IfExp c a b pos) (tIf tt ta tb) (eIf ft fa fb) :=
  ⟨pe_ifExp hc.pt ha.pe hb.pe, fun pot M σ H ρ π I p Q h => by
    refine PostT.seq (te := tt σ H) h p (fun Q' hq => hc.sem pot M σ H ρ π I p Q' hq) fun d π1 H1 _ g1 p1 h1 => ?_
    cases d with
    | true => exact ha.sem pot M σ H1 ρ π1 (I.grow g1 p1) p1 Q h1
    | false => exact hb.sem pot M σ H1 ρ π1 (I.grow g1 p1) p1 Q h1⟩

/-! ### tests -/
theorem dt_of (ha : DE X E r Γ a ta fa) (he : ∀ whole, isTrue a X.env whole = (do let v ← whole; standAt a.pos; holding [v] (truthy v)) := by intro _; rfl) : DT X E Γ a (fun σ H Q => ta σ H fun x H' => ∃ k, TruV X.K x H' k ∧ Q k H') (tOf fa) :=
  ⟨pt_truth ha.pe he, fun pot M σ H ρ π I p Q h => by
    refine Post.seqT (r := r) (te := ta σ H) h (fun Q' hq => ha.sem pot M σ H ρ π I p Q' hq) fun d π1 v H1 _ g1 p1 r1 h1 => ?_
    cases hz : truth d with
    | none =>
      simp only [hz, ofO_none, Res.bind_stuck] at h1
      exact h1.elim
    | some z =>
      simp only [hz, ofO_some, Res.bind_ok] at h1
      exact ⟨z, tru_of r1.toB hz, h1 H1 .refl p1⟩⟩
theorem sem_bl {t : TE} {f : Ed} (ha : SemE X.mg X.K E .f Γ t f) : SemT X.mg X.K E Γ (tTest t) (tBl f) := fun pot M σ H ρ π I p Q h => by
  refine Post.seqT (r := .f) (te := t σ H) h (fun Q' hq => ha pot M σ H ρ π I p Q' hq) fun d π1 v H1 _ g1 p1 r1 h1 => ?_
  cases d with
  | bl z =>
    cases rb_bl (RpR.toB (r := .f) r1)
    exact ⟨z, rfl, h1 H1 .refl p1⟩
  | _ => exact h1.elim
theorem dt_cmp {op : CmpOp} {r2 : R2} {g : D → D → Option D} (o : OpOk X (compareOp op) r2 .f g) (ha : DE X E ra Γ a ta fa) (hb : DE X E rb Γ b tb fb) (hm : behindInMarks op b = false := by rfl) : DT X E Γ (.Compare a [op] [b] pos) (tTest (tOp r2 ta tb)) (tBl (eBin g fa fb)) :=
  ⟨pt_cmpR o.1 ha.pe hb.pe hm, sem_bl (sem_bin o.2 ha.sem hb.sem)⟩
theorem dt_not (hc : DT X E Γ c tt ft) : DT X E Γ (.UnaryOp .Not c pos) (tNot tt) (tNotD ft) :=
  ⟨pt_not hc.pt, fun pot M σ H ρ π I p Q h => by
    refine PostT.seqT (te := tt σ H) h (fun Q' hq => hc.sem pot M σ H ρ π I p Q' hq) fun d π1 H1 _ g1 p1 h1 => ?_
    exact h1 H1 .refl p1⟩
theorem dw_and1 (hc : DT X E Γ c tt ft) : DW X E Γ (.BoolOp .And [c] pos) tt ft := ⟨pw_and1 hc.pt, hc.sem⟩
theorem dw_or1 (hc : DT X E Γ c tt ft) : DW X E Γ (.BoolOp .Or [c] pos) tt ft := ⟨pw_or1 hc.pt, hc.sem⟩
theorem dw_and (hc : DT X E Γ a tt ft) (hb : DW X E Γ (.BoolOp .And (b :: rest) pos) uu fu) : DW X E Γ (.BoolOp .And (a :: b :: rest) pos) (tAnd tt uu) (tAndD ft fu) :=
  ⟨pw_and hc.pt hb.pw, fun pot M σ H ρ π I p Q h => by
    refine PostT.seqT (te := tt σ H) h (fun Q' hq => hc.sem pot M σ H ρ π I p Q' hq) fun d π1 H1 _ g1 p1 h1 => ?_
    cases d with
    | true => exact hb.sem pot M σ H1 ρ π1 (I.grow g1 p1) p1 Q h1
    | false => exact h1 H1 .refl p1⟩
theorem dw_or (hc : DT X E Γ a tt ft) (hb : DW X E Γ (.BoolOp .Or (b :: rest) pos) uu fu) : DW X E Γ (.BoolOp .Or (a :: b :: rest) pos) (tOr tt uu) (tOrD ft fu) :=
  ⟨pw_or hc.pt hb.pw, fun pot M σ H ρ π I p Q h => by
    refine PostT.seqT (te := tt σ H) h (fun Q' hq => hc.sem pot M σ H ρ π I p Q' hq) fun d π1 H1 _ g1 p1 h1 => ?_
    cases d with
    | true => exact h1 H1 .refl p1
    | false => exact hb.sem pot M σ H1 ρ π1 (I.grow g1 p1) p1 Q h1⟩
/-- a < b <= c -/
def eChain (g g' : D → D → Option D) (a b c : Ed) : Ed := fun ρ π => (a ρ π).bind fun x => (b ρ x.2).bind fun y => (ofO (g x.1 y.1)).bind fun z => match z with
  | .bl true => (c ρ y.2).bind fun u => (ofO (g' y.1 u.1)).bind fun q => .ok (q, u.2)
  | .bl false => .ok (.bl false, y.2)
  | _ => .stuck
theorem sem_chain {r2 r2' : R2} {g g' : D → D → Option D} (o : SemOp X.mg X.K r2 .f g) (o' : SemOp X.mg X.K r2' .f g') (ha : SemE X.mg X.K E ra Γ ta fa) (hb : SemE X.mg X.K E rb Γ tb fb) (hc : SemE X.mg X.K E rc Γ tc fc) :
    SemE X.mg X.K E .f Γ (tChain r2 r2' ta tb tc) (eChain g g' fa fb fc) := fun pot M σ H ρ π I p Q h => by
  refine Post.seq (r' := ra) (te := ta σ H) h p (fun Q' hq => ha pot M σ H ρ π I p Q' hq) fun d π1 v H1 _ g1 p1 r1 h1 => ?_
  refine Post.seq (r' := rb) (te := tb σ H1) h1 p1 (fun Q' hq => hb pot M σ H1 ρ π1 (I.grow g1 p1) p1 Q' hq) fun e π2 w H2 _ g2 p2 r2 h2 => ?_
  have I2 := I.grow (g1.trans g2) p2
  cases hz : g d e with
  | none =>
    simp only [hz, ofO_none, Res.bind_stuck] at h2
    exact h2.elim
  | some z =>
    simp only [hz, ofO_some, Res.bind_ok] at h2
    refine o pot M H2 v w d e z I2.al I.pm p2.has (r1.toB.grow I.pm g2) r2.toB hz _ fun u H3 s q => ?_
    have g3 : Grow pot H2 H3 := .of_same s
    have p3 := p2.same s
    cases z with
    | bl kk =>
      cases rb_bl (RpR.toB (r := .f) q)
      refine ⟨kk, rfl, ?_⟩
      cases kk with
      | true =>
        refine Post.seq (r' := rc) (te := tc σ H3) (Post.back g3 p2 h2) p3 (fun Q' hq => hc pot M σ H3 ρ π2 (I2.grow g3 p3) p3 Q' hq) fun f π4 w4 H4 _ g4 p4 r4 h4 => ?_
        cases hy : g' e f with
        | none =>
          simp only [hy, ofO_none, Res.bind_stuck] at h4
          exact h4.elim
        | some y =>
          simp only [hy, ofO_some, Res.bind_ok] at h4
          exact o' pot M H4 w w4 e f y ((I2.grow g3 p3).grow g4 p4).al I.pm p4.has (r2.toB.grow I.pm (g3.trans g4)) r4.toB hy Q fun u H5 s q => h4 u H5 (.of_same s) (p4.same s) q
      | false => exact h2 _ H3 g3 p3 (.bl _)
    | _ => exact h2.elim
theorem de_chain {op op' : CmpOp} {r2 r2' : R2} {g g' : D → D → Option D} (o : OpOk X (compareOp op) r2 .f g) (o' : OpOk X (compareOp op') r2' .f g') (ha : DE X E ra Γ a ta fa) (hb : DE X E rb Γ b tb fb) (hc : DE X E rc Γ c tc fc)
    (hm : lastMarks [op, op'] [b, c] = false := by rfl) : DE X E .f Γ (.Compare a [op, op'] [b, c] pos) (tChain r2 r2' ta tb tc) (eChain g g' fa fb fc) :=
  ⟨pe_chain o.1 o'.1 ha.pe hb.pe hc.pe hm, sem_chain o.2 o'.2 ha.sem hb.sem hc.sem⟩
theorem dt_chain {op op' : CmpOp} {r2 r2' : R2} {g g' : D → D → Option D} (o : OpOk X (compareOp op) r2 .f g) (o' : OpOk X (compareOp op') r2' .f g') (ha : DE X E ra Γ a ta fa) (hb : DE X E rb Γ b tb fb) (hc : DE X E rc Γ c tc fc)
    (hm : lastMarks [op, op'] [b, c] = false := by rfl) : DT X E Γ (.Compare a [op, op'] [b, c] pos) (tTest (tChain r2 r2' ta tb tc)) (tBl (eChain g g' fa fb fc)) :=
  ⟨pt_chain o.1 o'.1 ha.pe hb.pe hc.pe hm, sem_bl (sem_chain o.2 o'.2 ha.sem hb.sem hc.sem)⟩

/-! ### arguments, displays -/
theorem da_nil : DA X E [] Γ [] tNil aNil := ⟨pa_nil, fun pot M σ H ρ π I p Q h => h _ H .refl p .nil⟩
theorem sem_cons {kk : Ak} {ra : Rm} (hr : ∀ pot M H H' v d, (∀ a ∈ M, H a ≠ none) → RpR X.mg X.K ra pot M H H' v d → ArgR X.mg X.K pot M H' kk v d) (ha : SemE X.mg X.K E ra Γ ta fa) (hA : SemA X.mg X.K E ks Γ tA fA) : SemA X.mg X.K E (kk :: ks) Γ (tCons ta tA) (aCons fa fA) :=
  fun pot M σ H ρ π I p Q h => by
    refine ha pot M σ H ρ π I p _ ?_
    unfold aCons at h
    cases e : fa ρ π with
    | ok x =>
      obtain ⟨d, π1⟩ := x
      rw [e] at h
      intro v H1 g1 p1 r1
      refine hA pot M σ H1 ρ π1 (I.grow g1 p1) p1 _ ?_
      cases e2 : fA ρ π1 with
      | ok y =>
        obtain ⟨ds, π2⟩ := y
        simp only [Res.bind_ok, e2] at h
        intro vs H2 g2 p2 r2
        exact h _ H2 (g1.trans g2) p2 (.cons ((hr _ _ _ _ _ _ I.al r1).grow I.pm g2) r2)
      | err c ns xs π' =>
        simp only [Res.bind_ok, e2, Res.bind_err] at h
        exact PErr.back h g1
      | stuck =>
        simp only [Res.bind_ok, e2, Res.bind_stuck] at h
        exact h
    | err c ns xs π' =>
      rw [e] at h
      exact h
    | stuck =>
      rw [e] at h
      exact h
theorem da_f (ha : DE X E .f Γ a ta fa) (hA : DA X E ks Γ es tA fA) (hs : starEach (a :: es) X.env = (false, eval a X.env) :: starEach es X.env := by rfl) : DA X E (.f :: ks) Γ (a :: es) (tCons ta tA) (aCons fa fA) :=
  ⟨pa_cons ha.pe hA.pa hs, sem_cons (kk := .f) (ra := .f) (fun _ _ _ _ _ _ _ h => h) ha.sem hA.sem⟩
theorem da_b (ha : DE X E r Γ a ta fa) (hA : DA X E ks Γ es tA fA) (hs : starEach (a :: es) X.env = (false, eval a X.env) :: starEach es X.env := by rfl) : DA X E (.b :: ks) Γ (a :: es) (tCons ta tA) (aCons fa fA) :=
  ⟨pa_cons ha.pe hA.pa hs, sem_cons (kk := .b) (fun _ _ _ _ _ _ _ h => h.toB) ha.sem hA.sem⟩
/-- the pot, the script handed on -/
theorem da_p (i : Nat) {x : Str} (hA : DA X E ks Γ es tA fA) (hN : X.N[i]? = some x := by rfl) (hv : Vis X.env.scope x := by first | exact Or.inl rfl | exact Or.inr (Or.inl rfl) | exact Or.inr (Or.inr rfl)) (hΓ : Γ[i]? = some .p := by rfl)
    (hd : (x == ("__debug__" : Str)) = false := by decide) (hcd : (x == ("__classdict__" : Str)) = false := by decide) (hs : starEach (.Name x pos :: es) X.env = (false, eval (.Name x pos) X.env) :: starEach es X.env := by rfl) :
    DA X E (.p :: ks) Γ (.Name x pos :: es) (tCons (tVar i) tA) (aCons (eC .non) fA) :=
  ⟨pa_cons (pe_var hN hv hd hcd) hA.pa hs, fun pot M σ H ρ π I p Q h => by
    obtain ⟨q, e, e1⟩ := I.p i hΓ
    refine ⟨_, e1, ?_⟩
    refine hA.sem pot M σ H ρ π I p _ ?_
    unfold aCons eC at h
    simp only [Res.bind_ok] at h
    cases e2 : fA ρ π with
    | ok y =>
      obtain ⟨ds, π2⟩ := y
      simp only [Res.bind_ok, e2] at h
      exact fun vs H2 g2 p2 r2 => h _ H2 g2 p2 (.cons ⟨q, e, rfl⟩ r2)
    | err c ns xs π' =>
      simp only [e2, Res.bind_err] at h
      exact h
    | stuck =>
      simp only [e2, Res.bind_stuck] at h
      exact h⟩
theorem da_s (i : Nat) {x : Str} (hA : DA X E ks Γ es tA fA) (hN : X.N[i]? = some x := by rfl) (hv : Vis X.env.scope x := by first | exact Or.inl rfl | exact Or.inr (Or.inl rfl) | exact Or.inr (Or.inr rfl)) (hΓ : Γ[i]? = some .s := by rfl)
    (hd : (x == ("__debug__" : Str)) = false := by decide) (hcd : (x == ("__classdict__" : Str)) = false := by decide) (hs : starEach (.Name x pos :: es) X.env = (false, eval (.Name x pos) X.env) :: starEach es X.env := by rfl) :
    DA X E (.s :: ks) Γ (.Name x pos :: es) (tCons (tVar i) tA) (aCons (eVar i) fA) :=
  ⟨pa_cons (pe_var hN hv hd hcd) hA.pa hs, fun pot M σ H ρ π I p Q h => by
    unfold aCons eVar at h
    split at h
    · rename_i d e
      obtain ⟨q, ns, e1, e2, e3⟩ := I.s i d hΓ e
      refine ⟨_, e1, ?_⟩
      refine hA.sem pot M σ H ρ π I p _ ?_
      simp only [Res.bind_ok] at h
      cases e2 : fA ρ π with
      | ok y =>
        obtain ⟨ds, π2⟩ := y
        simp only [Res.bind_ok, e2] at h
        exact fun vs H2 g2 p2 r2 => h _ H2 g2 p2 (.cons (ArgR.grow (k := .s) I.pm g2 ⟨q, ns, rfl, by assumption, e3⟩) r2)
      | err c ns xs π' =>
        simp only [e2, Res.bind_err] at h
        exact h
      | stuck =>
        simp only [e2, Res.bind_stuck] at h
        exact h
    · exact h.elim⟩
theorem PostA.seq {r : Rm} {pot : Option Addr} {M : List Addr} {H : Hp} {π : Pot} {x : Res (List D × Pot)} {kk : List D × Pot → Res (D × Pot)} {Q : VK} (h : Post X.mg X.K r pot M H (x.bind kk) Q E) (h0 : PotAt pot H π)
    {te : (List V → Hp → Prop) → Prop} (ht : ∀ Q', PostA X.mg X.K ks pot M H x Q' E → te Q') {R : List V → Hp → Prop}
    (hk : ∀ ds π1 vs H1, x = .ok (ds, π1) → Grow pot H H1 → PotAt pot H1 π1 → Args X.mg X.K pot M H1 ks vs ds → Post X.mg X.K r pot M H1 (kk (ds, π1)) Q E → R vs H1) : te R := by
  refine ht R ?_
  cases x with
  | ok a =>
    obtain ⟨d, π1⟩ := a
    exact fun vs H1 g p q => hk d π1 vs H1 rfl g p q (Post.back g h0 h)
  | err c ns xs π' => exact h
  | stuck => exact h
theorem de_tup {x1 : Nat} (hA : DA X E ks Γ es tA fA) (hk : ∀ k ∈ ks, k = Ak.f := by decide) : DE X E .f Γ (.Tuple es x1 pos) (tTup tA) (eTup fA) :=
  ⟨pe_tup hA.pa, fun pot M σ H ρ π I p Q h => by
    refine PostA.seq (ks := ks) (te := tA σ H) h p (fun Q' hq => hA.sem pot M σ H ρ π I p Q' hq) fun ds π1 vs H1 _ g1 p1 r1 h1 => ?_
    split at h1
    · rename_i hl
      have r2 := r1.rpl hk
      exact ⟨by rw [r2.length]; exact hl, fun q hn => h1 _ _ (.new hn) (p1.new hn) (new_tup (I.grow g1 p1).al hn r2)⟩
    · exact h1.elim⟩
theorem de_lst (hA : DA X E ks Γ es tA fA) (hk : ∀ k ∈ ks, k = Ak.f := by decide) : DE X E .o Γ (.List es pos) (tLst tA) (eLst fA) :=
  ⟨pe_lst hA.pa, fun pot M σ H ρ π I p Q h => by
    refine PostA.seq (ks := ks) (te := tA σ H) h p (fun Q' hq => hA.sem pot M σ H ρ π I p Q' hq) fun ds π1 vs H1 _ g1 p1 r1 h1 => ?_
    split at h1
    · rename_i hl
      have r2 := r1.rpl hk
      exact ⟨by rw [r2.length]; exact hl, fun q hn => h1 _ _ (.new hn) (p1.new hn) (new_lst p1.has hn r2)⟩
    · exact h1.elim⟩

/-! ### built-in functions -/
def SemCall (mg : Str → Option Value) (K : PySem.W.Frag) (rc : List V → Hp → VK → Prop) (ks : List Ak) (rz : Rm) (g : List D → Option D) : Prop :=
  ∀ (pot : Option Addr) (M : List Addr) (H : Hp) (vs : List V) (ds : List D) (z : D), (∀ a ∈ M, H a ≠ none) → (∀ a, pot = some a → a ∈ M) → (∀ a, pot = some a → H a ≠ none) → Args mg K pot M H ks vs ds → g ds = some z →
    ∀ Q : VK, (∀ v H', Same H H' → RpR mg K rz pot M H H' v z → Q v H') → rc vs H Q
abbrev CallOk (X : Cx) (f : Value) (rc : List V → Hp → VK → Prop) (ks : List Ak) (rz : Rm) (g : List D → Option D) : Prop := CallR X f rc ∧ SemCall X.mg X.K rc ks rz g
theorem sem_app {rc : List V → Hp → VK → Prop} {rz : Rm} {g : List D → Option D} (o : SemCall X.mg X.K rc ks rz g) (hA : SemA X.mg X.K E ks Γ tA fA) : SemE X.mg X.K E rz Γ (tCB rc tA) (eApp g fA) := fun pot M σ H ρ π I p Q h => by
  refine PostA.seq (ks := ks) (te := tA σ H) h p (fun Q' hq => hA pot M σ H ρ π I p Q' hq) fun ds π1 vs H1 _ g1 p1 r1 h1 => ?_
  cases hz : g ds with
  | none =>
    simp only [hz, ofO_none, Res.bind_stuck] at h1
    exact h1.elim
  | some z =>
    simp only [hz, ofO_some, Res.bind_ok] at h1
    exact o pot M H1 vs ds z (I.grow g1 p1).al I.pm p1.has r1 hz Q fun u H3 s q => h1 u H3 (.of_same s) (p1.same s) q
theorem de_callB {id : String} {x : Str} {p : Pos} {rc : List V → Hp → VK → Prop} {rz : Rm} {g : List D → Option D} (o : CallOk X (.builtin id) rc ks rz g) (hm : X.mg x = none) (hA : DA X E ks Γ (e :: es) tA fA) (hg : Gl X x := by rfl) (hv : bootBuiltins x = some (.builtin id) := by decide +kernel)
    (hn : x ≠ "__name__" := by decide) (hdb : (x == ("__debug__" : Str)) = false := by decide) (he : starEach (e :: es) X.env = (false, eval e X.env) :: starEach es X.env := by rfl) (hpl : (backTo pos (starEach es X.env)).any (·.1) = false := by rfl) :
    DE X E rz Γ (.Call (.Name x p) (e :: es) [] pos) (tCB rc tA) (eApp g fA) := ⟨pe_callB o.1 hg hm hv hA.pa hn hdb he hpl, sem_app o.2 hA.sem⟩
theorem de_callTy {T : String} {x : Str} {p : Pos} {rc : List V → Hp → VK → Prop} {rz : Rm} {g : List D → Option D} (o : CallOk X (.type T) rc ks rz g) (hm : X.mg x = none) (hA : DA X E ks Γ (e :: es) tA fA) (hg : Gl X x := by rfl) (hv : bootBuiltins x = some (.type T) := by decide +kernel)
    (hn : x ≠ "__name__" := by decide) (hdb : (x == ("__debug__" : Str)) = false := by decide) (he : starEach (e :: es) X.env = (false, eval e X.env) :: starEach es X.env := by rfl) (hpl : (backTo pos (starEach es X.env)).any (·.1) = false := by rfl) :
    DE X E rz Γ (.Call (.Name x p) (e :: es) [] pos) (tCB rc tA) (eApp g fA) := ⟨pe_callTy o.1 hg hm hv hA.pa hn hdb he hpl, sem_app o.2 hA.sem⟩
end
end DL

set_option maxHeartbeats 2000000
/-! What is walked: lists and tuples alike, told off with their numbers, two side by side. -/
namespace DL
open PySem PySem.Spec PyProof.Rows L2

/-- a list (l) or a tuple at a -/
structure Src where
  l : Bool
  a : Addr
def Src.sq (K : PySem.W.Frag) (S : Src) (H : Hp) (xs : List V) : Prop := if S.l = true then SqL K H S.a xs else SqT K H S.a xs
def Src.it (S : Src) (h : Heap) (it : Addr) (i : Nat) : Prop := if S.l = true then h.IsListIter it S.a i else h.IsTupleIter it S.a i
def Src.is (S : Src) (h : Heap) (items : Array Value) : Prop := if S.l = true then h.IsList S.a items else h.IsTuple S.a items
def Src.ob (S : Src) : Obj := if S.l = true then { cls := .type "list_iterator", data := .fields #[.ref S.a, .int 0 0] } else { cls := .type "tuple_iterator", data := .fields #[.ref S.a, .int 0 0] }
section
variable {S : Src} {X : Cx} {pins : List (Addr × Obj)} {σ : L2.St} {H : Hp} {s : Shared} {h h' : Heap}
theorem Src.lay {xs : List V} (I : Inv X pins σ H s) (q : S.sq X.K H xs) : ∃ its, Vals xs its ∧ S.is s.heap its.toArray := by
  unfold Src.sq at q
  unfold Src.is
  split at q
  · rename_i e
    obtain ⟨its, rv, p, _⟩ := I.list q
    exact ⟨its, rv, by rw [if_pos e]; exact p.isList⟩
  · rename_i e
    obtain ⟨its, rv, p, _⟩ := I.tuple q
    exact ⟨its, rv, by rw [if_neg e]; exact p⟩
theorem Src.inj {xs ys : List V} (I : Inv X pins σ H s) (q : S.sq X.K H xs) (r : S.sq X.K H ys) : xs = ys := by
  unfold Src.sq at q r
  split at q
  · rename_i e
    rw [if_pos e] at r
    exact I.list_inj q r
  · rename_i e
    rw [if_neg e] at r
    exact I.tuple_inj q r
theorem Src.it_at {it : Addr} {i : Nat} (q : S.it h it i) (k : ∀ o, h.get? it = some o → h'.get? it = some o) : S.it h' it i := by
  unfold Src.it at q ⊢
  split at q
  · rename_i e
    rw [if_pos e]
    exact q.at k
  · rename_i e
    rw [if_neg e]
    exact q.at k
theorem Src.it_obj {it : Addr} {i : Nat} (q : S.it h it i) : ∃ o, h.get? it = some o ∧ ∀ v, o.data ≠ .cell v := by
  unfold Src.it at q
  split at q
  · obtain ⟨o, e, _, d⟩ := q
    exact ⟨o, e, fun v z => by rw [d] at z; cases z⟩
  · obtain ⟨o, e, _, d⟩ := q
    exact ⟨o, e, fun v z => by rw [d] at z; cases z⟩
theorem Src.is_at {items : Array Value} (q : S.is h items) (k : ∀ o, h.get? S.a = some o → h'.get? S.a = some o) : S.is h' items := by
  unfold Src.is at q ⊢
  split at q
  · rename_i e
    rw [if_pos e]
    exact q.at k
  · rename_i e
    rw [if_neg e]
    exact q.at k
theorem Src.is_lt {items : Array Value} (q : S.is h items) : S.a < h.objs.size := by
  unfold Src.is at q
  split at q
  · obtain ⟨o, e, _⟩ := q
    exact Heap.lt_size e
  · obtain ⟨o, e, _⟩ := q
    exact Heap.lt_size e
theorem Src.begins (items : Array Value) : Begins (.ref S.a) S.ob (fun h => S.is h items) := by
  obtain ⟨b, a⟩ := S
  cases b
  · exact begins_tuple a items
  · exact begins_list a items
theorem Src.it0 {it : Addr} (e : h.get? it = some S.ob) : S.it h it 0 := by
  unfold Src.ob at e
  unfold Src.it
  split at e
  · rename_i q
    rw [if_pos q]
    exact ⟨_, e, rfl, rfl⟩
  · rename_i q
    rw [if_neg q]
    exact ⟨_, e, rfl, rfl⟩
theorem Src.draws {A : Around} {prog : Program} {w : World} (hh : A.handled = none) (it : Addr) (hne : S.a ≠ it) (items : Array Value) :
    Draws prog w A it [it, S.a] items.size (fun i v => items[i]? = some v) (fun i h => S.it h it i ∧ S.is h items) := by
  obtain ⟨b, a⟩ := S
  cases b
  · exact .tuple hh it a hne items
  · exact .list hh it a hne items
end

/-! ### one by one -/
def ItS (K : PySem.W.Frag) (S : Src) : It := if S.l = true then Itl K S.a else Itt K S.a
def iSeq (K : PySem.W.Frag) (tl : TE) : TI := fun σ H R => tl σ H fun x H1 => ∃ S : Src, x = .ref S.a ∧ (∃ xs, S.sq K H1 xs) ∧ R (ItS K S) H1
theorem pi_seq {X : Cx} {tg l : Expr} {tl : TE} (hl : PE X l tl) : PI X tg l (iSeq X.K tl) := by
  refine ⟨fun pins s σ H R I h => ?_⟩
  refine thn (hl.run pins s σ H _ I h) fun v s1 ⟨x, H1, I1, r1, q1⟩ => ?_
  obtain ⟨⟨b, a⟩, e, ⟨xs, hq⟩, q⟩ := q1
  subst e
  cases r1
  cases b
  · obtain ⟨its, rv, p, hz⟩ := I1.tuple hq
    refine wpAny_pyIter_tuple (show s1.heap.IsTuple a its.toArray from p) ⟨s1.heap.objs.size, [s1.heap.objs.size], _, _, H1, rfl, I1.kept (t' := s1.toks) fun b o e => Heap.get?_push_of_some _ e, turn_tuple a _, ⟨_, Heap.get?_push_size _ rfl, rfl, rfl⟩, fun b hb => ?_, q⟩
    rw [List.mem_singleton.mp hb]
    exact I1.fpOk (Nat.le_refl _) (I1.hok.fresh (Nat.le_refl _))
  · obtain ⟨its, rv, p, hz⟩ := I1.list hq
    refine wpAny_pyIter_list p.isList ⟨s1.heap.objs.size, [s1.heap.objs.size], _, _, H1, rfl, I1.kept (t' := s1.toks) fun b o e => Heap.get?_push_of_some _ e, turn_list a _, ⟨_, Heap.get?_push_size _ rfl, rfl, rfl⟩, fun b hb => ?_, q⟩
    rw [List.mem_singleton.mp hb]
    exact I1.fpOk (Nat.le_refl _) (I1.hok.fresh (Nat.le_refl _))
theorem walk_seq {K : PySem.W.Frag} {S : Src} {xs : List V} : Walk (ItS K S) xs.length (fun H => S.sq K H xs) (YAt xs) := by
  obtain ⟨b, a⟩ := S
  cases b
  · exact walk_tup
  · exact walk_list

/-! ### with their numbers -/
/-- the item at place i of the sequence as it stands, in a new pair -/
def ItE (K : PySem.W.Frag) (S : Src) : It :=
  ⟨fun i H => ∃ xs x, S.sq K H xs ∧ xs[i]? = some x, fun i H v H' => ∃ T x, v = .ref T ∧ H T = none ∧ H' = upd H T (.tup [.int ((i : Nat) : Int), x]) ∧ ∀ xs, S.sq K H xs → xs[i]? = some x,
    fun i H => ∃ xs, S.sq K H xs ∧ xs.length = i⟩
theorem turn_enumS {P : Program} {w : World} {K : PySem.W.Frag} {elts : List Expr} {kk : Nat} {tpos : Pos} (S : Src) (e it : Addr) (ha : S.a ≠ e) (hb : S.a ≠ it) :
    Turn P w K (.Tuple elts kk tpos) (ItE K S) [e, it] e (fun i h => (∃ old, IsEnum h e it (0 + ((i : Nat) : Int)) old) ∧ S.it h it i ∧ e ≠ it) where
  mem := by simp
  obj := fun i h st b hb => by
    obtain ⟨⟨old, he⟩, hi, _⟩ := st
    rcases List.mem_cons.mp hb with z | z
    · rw [z]
      exact ⟨_, he, fun v q => nomatch q⟩
    · rw [List.mem_singleton.mp z]
      exact Src.it_obj hi
  keep := fun i h h' st k => by
    obtain ⟨⟨old, he⟩, hi, hne⟩ := st
    exact ⟨⟨old, k e (by simp) _ he⟩, Src.it_at hi fun o q => k it (by simp) o q, hne⟩
  item := by
    intro X hP hw hK hc i pins s σ H E I hf st hg
    subst hP hw hK
    obtain ⟨he, hit, hne⟩ := st
    obtain ⟨xs, x, hq, hx⟩ := hg
    obtain ⟨its, rv, p⟩ := Src.lay I hq
    obtain ⟨u, hu, ru⟩ := rv.get hx
    have hlt : i < its.toArray.size := by
      have := List.getElem?_eq_some_iff.mp hu
      obtain ⟨q, _⟩ := this
      simpa using q
    have hel : e < s.heap.objs.size := by
      obtain ⟨_, q⟩ := he
      exact Heap.lt_size q
    have hil : it < s.heap.objs.size := by
      obtain ⟨o, q, _⟩ := Src.it_obj hit
      exact Heap.lt_size q
    have G : GoesN X.prog X.w X.A (.Tuple elts kk tpos) e [e, it, S.a] [e, it] its.toArray.size _ _ := GoesN.enumFrom (elts := elts) (x1 := kk) (pos := tpos) 0 (Src.draws (S := S) (A := X.A.in1) (I.ok.hd hc) it hb its.toArray) e hne (by simp [hne, Ne.symm ha]) (by simp)
    refine thn (G.goes i s (fun v s2 => _) E hlt ⟨he, hit, p⟩ fun v h' tk hY st' hk _ => ?_) fun r s1 z => z
    obtain ⟨T, t, y, rfl, hT, hy, hTup⟩ := hY
    obtain ⟨he', hit', p'⟩ := st'
    have eu : y = u := by
      have : its.toArray[i]? = some u := by simpa using hu
      exact Option.some.inj (hy.symm.trans this)
    subst eu
    have new : ObjOk X.prog X.w (upd H T (.tup [.int ((i : Nat) : Int), x])) h' T (.tup [.int ((i : Nat) : Int), x]) := by
      refine ⟨by show 2 ≤ sizeLine; decide, [.int (0 + (i : Int)) t, y], .cons ⟨t, by rw [Int.zero_add]⟩ (.cons ru .nil), hTup⟩
    have I1 : Inv X pins σ (upd H T (.tup [.int ((i : Nat) : Int), x])) { s with heap := h', toks := tk } := I.turnedNew (ch := [e, it]) hk hf hT new
    refine ⟨.ref T, _, I1, rfl, ⟨T, x, rfl, I.hok.fresh hT, rfl, fun ys hy => by rw [Src.inj I hy hq]; exact hx⟩, ⟨he', hit', hne⟩, fun b hb => ?_⟩
    have hbl : b < s.heap.objs.size := by
      rcases List.mem_cons.mp hb with z | z
      · rw [z]; exact hel
      · rw [List.mem_singleton.mp z]; exact hil
    rw [upd_ne (Nat.ne_of_lt (Nat.lt_of_lt_of_le hbl hT))]
    exact (hf b hb).1
  done := by
    intro X hP hw hK hc i pins s σ H E I hf st hg
    subst hP hw hK
    obtain ⟨he, hit, hne⟩ := st
    obtain ⟨xs, hq, hx⟩ := hg
    obtain ⟨its, rv, p⟩ := Src.lay I hq
    have hl : i = its.toArray.size := by
      rw [← hx, rv.length]
      simp
    have G : GoesN X.prog X.w X.A (.Tuple elts kk tpos) e [e, it, S.a] [e, it] its.toArray.size _ _ := GoesN.enumFrom (elts := elts) (x1 := kk) (pos := tpos) 0 (Src.draws (S := S) (A := X.A.in1) (I.ok.hd hc) it hb its.toArray) e hne (by simp [hne, Ne.symm ha]) (by simp)
    subst hl
    exact G.stops s (fun s1 => Inv X pins σ H s1) E ⟨he, hit, p⟩ fun h' tk hk _ => I.turnedL (ch := [e, it]) hk hf
  self := fun A i s Q E st h => by
    obtain ⟨⟨_, he⟩, _⟩ := st
    exact wpAny_pyIter_enum he h
/-! enumerate(v) -/
theorem meets_enum1 {v : Value} {o : Obj} {H : Heap → Prop} (B : Begins v o H) :
    Meets (Builtin.«enumerate.__new__» ⟨[.type "enumerate", v], []⟩) (fun _ R s => H s.heap ∧
      R (.ok (.ret (.ref (s.heap.push o).objs.size))) { s with heap := (s.heap.push o).push { cls := .type "enumerate", data := .fields #[.none, .bool false, .ref s.heap.objs.size, rawInt 0, .none, .none] } }) :=
  .of_wp fun prog w A R s h => by
    obtain ⟨hp, g, d, tk, os⟩ := s
    obtain ⟨h1, h⟩ := h
    have hsub := sub_enumerate
    have go : ∀ {A' : Around} {E : Value → Shared → Prop} {Q : Value → Shared → Prop}, Q (.ref hp.objs.size) ⟨hp.push o, g, d, tk, os⟩ → wpAny (model prog w) A' (pyIter v) Q E ⟨hp, g, d, tk, os⟩ :=
      fun q => B.iter prog w _ _ ⟨hp, g, d, tk, os⟩ _ h1 q
    wp_walk using go
    refine wpAny_stack_any fun st => wpAny_pure ?_
    split
    · rename_i c _ _ _ _ _
      cases (c == Value.type "enumerate")
      · wp_walk using go
        exact ⟨_, rfl, h⟩
      · wp_walk using go
        exact ⟨_, rfl, h⟩
    · wp_walk using go
      exact ⟨_, rfl, h⟩
theorem call_enum1 {prog : Program} {w : World} {A : Around} {E : Value → Shared → Prop} {s : Shared} {v : Value} {o : Obj} {H : Heap → Prop} {Q : Value → Shared → Prop} (B : Begins v o H) (h1 : H s.heap)
    (h : ∀ h', IsEnum h' (s.heap.objs.size + 1) s.heap.objs.size 0 .none → h'.get? s.heap.objs.size = some o → (∀ b o, s.heap.get? b = some o → h'.get? b = some o) → Q (.ref (s.heap.objs.size + 1)) { s with heap := h' }) :
    wpAny (model prog w) A (call (.type "enumerate") [v]) Q E s := by
  refine callType_new F.called_enumerate (by decide) (F.typeCall_enumerate_1 _) (F.newCall_enumerate_1 _) (fun obj => F.args_object_init_2 obj _) F.entry_enumerate_new (meets_enum1 B) ⟨h1, ?_⟩
  have hz : (s.heap.push o).objs.size = s.heap.objs.size + 1 := Heap.size_push ..
  show _ ∧ _
  rw [hz]
  have he : IsEnum ((s.heap.push o).push { cls := .type "enumerate", data := .fields #[.none, .bool false, .ref s.heap.objs.size, rawInt 0, .none, .none] }) (s.heap.objs.size + 1) s.heap.objs.size 0 .none := by
    have z := Heap.get?_push_size (s.heap.push o) (o := { cls := .type "enumerate", data := .fields #[.none, .bool false, .ref s.heap.objs.size, rawInt 0, .none, .none] }) rfl
    rw [hz] at z
    exact z
  exact ⟨⟨_, he, rfl⟩, h _ he (Heap.get?_push_of_some _ (Heap.get?_push_size _ B.free)) fun b o x => Heap.get?_push_of_some _ (Heap.get?_push_of_some _ x)⟩
def iEnumS (K : PySem.W.Frag) (ta : TA) : TI := fun σ H R => ta σ H fun vs H1 => ∃ S : Src, vs = [.ref S.a] ∧ (∃ xs, S.sq K H1 xs) ∧ R (ItE K S) H1
theorem pi_enumS {X : Cx} {e : Expr} {ta : TA} {p pos tpos : Pos} {elts : List Expr} {kk : Nat} (hg : Gl X "enumerate") (hm : X.mg "enumerate" = none) (ha : PA X [e] ta) (hs : starEach [e] X.env = [(false, eval e X.env)] := by rfl) :
    PI X (.Tuple elts kk tpos) (.Call (.Name "enumerate" p) [e] [] pos) (iEnumS X.K ta) := by
  refine ⟨fun pins s σ H R I h => ?_⟩
  refine Call_ (ld_blt I hg hm boot_enumerate (PyProof.Rows.callWith_type1 (thn (ha.run pos pins s σ H _ I h) fun us s1 ⟨vs, H1, I1, r1, q1⟩ => ?_) hs rfl))
  obtain ⟨S, ex, ⟨xs, hq⟩, q⟩ := q1
  subst ex
  cases r1 with
  | cons r rr =>
    cases rr
    cases r
    obtain ⟨its, rv, p'⟩ := Src.lay I1 hq
    refine call_enum1 (Src.begins (S := S) its.toArray) p' fun h' he hit hk => wpAny_pyIter_enum he ?_
    have I2 : Inv X pins σ H1 { s1 with heap := h' } := I1.kept (t' := s1.toks) hk
    have la := Src.is_lt p'
    refine ⟨s1.heap.objs.size + 1, [s1.heap.objs.size + 1, s1.heap.objs.size], _, _, H1, rfl, I2, turn_enumS S (s1.heap.objs.size + 1) s1.heap.objs.size (Nat.ne_of_lt (Nat.lt_succ_of_lt la)) (Nat.ne_of_lt la), ⟨⟨.none, he⟩, Src.it0 hit, Nat.succ_ne_self _⟩, fun b hb => ?_, q⟩
    have hle : s1.heap.objs.size ≤ b := by
      rcases List.mem_cons.mp hb with z | z
      · rw [z]; exact Nat.le_add_right _ _
      · rw [List.mem_singleton.mp z]; exact Nat.le_refl _
    exact I1.fpOk hle (I1.hok.fresh hle)
theorem walk_enumS {K : PySem.W.Frag} {S : Src} {xs : List V} : Walk (ItE K S) xs.length (fun H => S.sq K H xs) (YPair (fun i => some (.int ((i : Nat) : Int))) (fun i => xs[i]?)) where
  goes := fun i H hi q => ⟨xs, xs[i], q, by simp [hi]⟩
  stops := fun H q => ⟨xs, q, rfl⟩
  yields := fun i H x H' hi q y => by
    obtain ⟨T, y, e1, e2, e3, e4⟩ := y
    exact ⟨T, _, y, e1, e2, e3, rfl, e4 xs q⟩
end DL

set_option maxHeartbeats 2000000
/-! What is walked, targets, list comprehensions. -/
namespace DL
open PySem PySem.Spec PyProof.Rows L2

abbrev Ei := Rho → Pot → Res (List D × Pot)
section
variable (mg : Str → Option Value) (K : PySem.W.Frag)
/-- an iterator gives these data; w: as long as nothing but the pot changes -/
structure WalkD (w : Bool) (pot : Option Addr) (M : List Addr) (H1 : Hp) (J : It) (items : List D) (G : Hp → Prop) (Y : Nat → Hp → V → Hp → Prop) : Prop where
  walk : Walk J items.length G Y
  stay : ∀ H' M', (w = true → Grow pot H1 H') → Same (less H1 M) (less H' M') → G H'
  item : ∀ i H x H' M', (w = true → Grow pot H1 H) → Same (less H1 M) (less H M') → (∀ a ∈ M', H a ≠ none) → i < items.length → Y i H x H' → Same H H' ∧ ∃ d, items[i]? = some d ∧ Rp mg K (less H' M') x d
def PostI (w : Bool) (pot : Option Addr) (M : List Addr) (H : Hp) (x : Res (List D × Pot)) (R : It → Hp → Prop) (E : XK) : Prop := match x with
  | .ok (items, π) => ∀ J H1 G Y, Grow pot H H1 → PotAt pot H1 π → WalkD mg K w pot M H1 J items G Y → R J H1
  | .err c ns xs π => PErr mg K pot M H c ns xs π E
  | .stuck => False
def SemI (w : Bool) (E : XK) (Γ : List Md) (wi : TI) (fi : Ei) : Prop :=
  ∀ pot M σ H ρ π, EnvOk mg K Γ pot M σ H ρ → PotAt pot H π → ∀ R, PostI mg K w pot M H (fi ρ π) R E → wi σ H R
/-- a target: the slots that it sets -/
def SemG (Γ : List Md) (is : List Nat) (g : TG) (fg : D → Rho → Option Rho) : Prop :=
  ∀ pot M σ H ρ v d, EnvOk mg K Γ pot M σ H ρ → Rp mg K (less H M) v d → ∀ ρ', fg d ρ = some ρ' → ∀ Q : L2.St → Hp → Prop, (∀ σ', EnvOk mg K Γ pot M σ' H ρ' → (∀ i, i ∉ is → σ'[i]? = σ[i]?) → (∀ i, i ∉ is → ρ'[i]? = ρ[i]?) → Q σ' H) → g v σ H Q
def SemGs (Γ : List Md) (is : List Nat) (g : TGs) (fg : List D → Rho → Option Rho) : Prop :=
  ∀ pot M σ H ρ vs ds, EnvOk mg K Γ pot M σ H ρ → RpL mg K (less H M) vs ds → ∀ ρ', fg ds ρ = some ρ' → ∀ Q : L2.St → Hp → Prop, (∀ σ', EnvOk mg K Γ pot M σ' H ρ' → (∀ i, i ∉ is → σ'[i]? = σ[i]?) → (∀ i, i ∉ is → ρ'[i]? = ρ[i]?) → Q σ' H) → g vs σ H Q
end
structure DI (w : Bool) (X : Cx) (E : XK) (Γ : List Md) (tg iter : Expr) (wi : TI) (fi : Ei) : Prop where
  pi : PI X tg iter wi
  sem : SemI X.mg X.K w E Γ wi fi
structure DG (X : Cx) (Γ : List Md) (tg : Expr) (is : List Nat) (g : TG) (fg : D → Rho → Option Rho) : Prop where
  pg : PG X tg g
  fs : ∀ i ∈ is, Γ[i]? = some .f
  sem : SemG X.mg X.K Γ is g fg
structure DGs (X : Cx) (Γ : List Md) (tgs : List Expr) (is : List Nat) (g : TGs) (fg : List D → Rho → Option Rho) : Prop where
  pgs : PGs X tgs g
  fs : ∀ i ∈ is, Γ[i]? = some .f
  sem : SemGs X.mg X.K Γ is g fg

/-! ### targets -/
def gN (i : Nat) : D → Rho → Option Rho := fun d ρ => some (ρ.set i (some d))
def gsNil : List D → Rho → Option Rho := fun ds ρ => match ds with
  | [] => some ρ
  | _ => none
def gsCons (a : D → Rho → Option Rho) (b : List D → Rho → Option Rho) : List D → Rho → Option Rho := fun ds ρ => match ds with
  | d :: r => (a d ρ).bind (b r)
  | [] => none
def gT (n : Nat) (b : List D → Rho → Option Rho) : D → Rho → Option Rho := fun d ρ => match d with
  | .tup ds => if ds.length = n then b ds ρ else none
  | _ => none
section
variable {mg : Str → Option Value} {K : PySem.W.Frag} {pot : Option Addr} {M : List Addr} {H H' : Hp} {v : V} {d : D} {Γ : List Md} {σ : L2.St} {ρ : Rho}
theorem EnvOk.setf (I : EnvOk mg K Γ pot M σ H ρ) {i : Nat} (hi : Γ[i]? = some .f) (r : Rp mg K (less H M) v d) : EnvOk mg K Γ pot M (σ.set i (some v)) H (ρ.set i (some d)) where
  ls := by rw [List.length_set]; exact I.ls
  lr := by rw [List.length_set]; exact I.lr
  f := fun j e h1 h2 => by
    by_cases e1 : i = j
    · subst e1
      have hl : i < ρ.length := by rw [I.lr]; exact (List.getElem?_eq_some_iff.mp hi).1
      have hs : i < σ.length := by rw [I.ls]; exact (List.getElem?_eq_some_iff.mp hi).1
      rw [List.getElem?_set_self hl] at h2
      cases h2
      exact ⟨v, by rw [List.getElem?_set_self hs], r⟩
    · rw [List.getElem?_set_ne e1] at h2
      obtain ⟨u, q, z⟩ := I.f j e h1 h2
      exact ⟨u, by rw [List.getElem?_set_ne e1]; exact q, z⟩
  o := fun j e h1 h2 => by
    have e1 : i ≠ j := fun q => by rw [q, h1] at hi; cases hi
    rw [List.getElem?_set_ne e1] at h2
    obtain ⟨p, q, z⟩ := I.o j e h1 h2
    exact ⟨p, by rw [List.getElem?_set_ne e1]; exact q, z⟩
  p := fun j h1 => by
    have e1 : i ≠ j := fun q => by rw [q, h1] at hi; cases hi
    obtain ⟨p, q, z⟩ := I.p j h1
    exact ⟨p, q, by rw [List.getElem?_set_ne e1]; exact z⟩
  s := fun j e h1 h2 => by
    have e1 : i ≠ j := fun q => by rw [q, h1] at hi; cases hi
    rw [List.getElem?_set_ne e1] at h2
    obtain ⟨p, ns, q, z⟩ := I.s j e h1 h2
    exact ⟨p, ns, by rw [List.getElem?_set_ne e1]; exact q, z⟩
  ap := fun j k a b c h1 h2 h3 h4 h5 h6 => by
    have e1 : i ≠ j := fun q => by rw [q, h1] at hi; cases hi
    have e2 : i ≠ k := fun q => by rw [q, h2] at hi; cases hi
    rw [List.getElem?_set_ne e1] at h3 h5
    rw [List.getElem?_set_ne e2] at h4 h6
    exact I.ap j k a b c h1 h2 h3 h4 h5 h6
  al := I.al
  pm := I.pm
end
section
variable {X : Cx} {E : XK} {Γ : List Md} {pos : Pos} {k : Nat}
theorem dg_name (i : Nat) {x : Str} (hN : X.N.Nodup) (hi : X.N[i]? = some x := by rfl) (hx : Loc X.env.scope x := by first | exact Or.inl rfl | exact Or.inr rfl) (hΓ : Γ[i]? = some .f := by rfl)
    (hf : X.fn x = true ∨ X.env.scope.names.lookup x = some .local := by first | exact .inl rfl | exact .inr rfl) : DG X Γ (.Name x pos) [i] (gName i) (gN i) :=
  ⟨pg_name hN hi hx hf, fun j hj => by rw [List.mem_singleton.mp hj]; exact hΓ, fun pot M σ H ρ v d I r ρ' h Q q => by
    cases h
    refine q _ (I.setf hΓ r) (fun j hj => ?_) fun j hj => ?_
    · rw [List.getElem?_set_ne (fun e => hj (by simp [e]))]
    · rw [List.getElem?_set_ne (fun e => hj (by simp [e]))]⟩
theorem dgs_nil : DGs X Γ [] [] gNil gsNil := ⟨pgs_nil, (fun _ h => by cases h), fun pot M σ H ρ vs ds I r ρ' h Q q => by
  cases r with
  | nil =>
    cases h
    exact ⟨rfl, q σ I (fun _ _ => rfl) fun _ _ => rfl⟩
  | cons => cases h⟩
theorem dgs_cons {e : Expr} {es : List Expr} {is js : List Nat} {g : TG} {gs : TGs} {fg : D → Rho → Option Rho} {fgs : List D → Rho → Option Rho} (a : DG X Γ e is g fg) (b : DGs X Γ es js gs fgs)
    (hs : (assignEach (e :: es) X.env).map (·.2) = assign e X.env :: (assignEach es X.env).map (·.2) := by rfl) : DGs X Γ (e :: es) (is ++ js) (gCons g gs) (gsCons fg fgs) :=
  ⟨pgs_cons a.pg b.pgs hs, fun i hi => (List.mem_append.mp hi).elim (a.fs i) (b.fs i), fun pot M σ H ρ vs ds I r ρ' h Q q => by
    cases r with
    | nil => cases h
    | cons r1 r2 =>
      rename_i v ws d es
      unfold gsCons at h
      simp only [Option.bind_eq_some_iff] at h
      obtain ⟨ρ1, h1, h2⟩ := h
      refine ⟨v, ws, rfl, a.sem pot M σ H ρ v d I r1 ρ1 h1 _ fun σ1 I1 s1 s2 => ?_⟩
      refine b.sem pot M σ1 H ρ1 ws es I1 r2 ρ' h2 _ fun σ2 I2 s3 s4 => q σ2 I2 (fun i hi => ?_) fun i hi => ?_
      · rw [s3 i fun z => hi (List.mem_append_right _ z), s1 i fun z => hi (List.mem_append_left _ z)]
      · rw [s4 i fun z => hi (List.mem_append_right _ z), s2 i fun z => hi (List.mem_append_left _ z)]⟩
theorem dg_tup {es : List Expr} {is : List Nat} {gs : TGs} {fgs : List D → Rho → Option Rho} {kk : Nat} (hc : X.calm = true) (b : DGs X Γ es is gs fgs)
    (hn : (assignEach es X.env).length = es.length := by rfl) (hst : (assignEach es X.env).findIdx? (·.1) = none := by rfl) : DG X Γ (.Tuple es kk pos) is (gTup X.K es.length gs) (gT es.length fgs) :=
  ⟨pg_tup hc b.pgs hn hst, b.fs, fun pot M σ H ρ v d I r ρ' h Q q => by
    cases d with
    | tup ds =>
      unfold gT at h
      simp only at h
      split at h
      · rename_i hl
        cases r with
        | tup h1 h2 =>
          exact ⟨_, _, rfl, sqT_mono less_le h1, by rw [h2.length]; exact hl, b.sem pot M σ H ρ _ ds I h2 ρ' h Q q⟩
      · cases h
    | _ => cases h⟩
end

/-! ### what is walked -/
def seqOf : D → Option (List D)
  | .lst xs => some xs
  | .tup xs => some xs
  | _ => none
def iVal (a : Ed) : Ei := fun ρ π => (a ρ π).bind fun x => (ofO (seqOf x.1)).bind fun z => .ok (z, x.2)
def numbered : Nat → List D → List D
  | _, [] => []
  | n, x :: xs => .tup [.int (n : Int), x] :: numbered (n + 1) xs
def iEnumD (a : Ea) : Ei := fun ρ π => (a ρ π).bind fun x => match x.1 with
  | [d] => (ofO (seqOf d)).bind fun z => .ok (numbered 0 z, x.2)
  | _ => .stuck
def rangeD (lo c : Int) (n : Nat) : List D := (List.range n).map fun (i : Nat) => .int (lo + (i : Int) * c)
def mid62 (i : Int) : Bool := decide (-4611686018427387904 ≤ i ∧ i < 4611686018427387904)
def rng (xs : List D) : Option (List D) := match xs with
  | [.int j] => if mid62 j then some (rangeD 0 1 j.toNat) else none
  | [.int i, .int j] => if mid62 i && mid62 j then some (rangeD i 1 (j - i).toNat) else none
  | _ => none
def iRng (a : Ea) : Ei := fun ρ π => (a ρ π).bind fun x => (ofO (rng x.1)).bind fun z => .ok (z, x.2)
/-- range(i, j, -1) -/
def rngDown (xs : List D) : Option (List D) := match xs with
  | [.int i, .int j, .int c] => if mid62 i && mid62 j && decide (c = -1) then some (rangeD i (-1) (i - j).toNat) else none
  | _ => none
def iRngDown (a : Ea) : Ei := fun ρ π => (a ρ π).bind fun x => (ofO (rngDown x.1)).bind fun z => .ok (z, x.2)
theorem numbered_get : ∀ (xs : List D) (n i : Nat), (numbered n xs)[i]? = (xs[i]?).map fun x => .tup [.int ((n + i : Nat) : Int), x]
  | [], n, i => by simp [numbered]
  | x :: xs, n, 0 => by simp [numbered]
  | x :: xs, n, i + 1 => by
    show (numbered (n + 1) xs)[i]? = _
    rw [numbered_get xs (n + 1) i]
    simp [Nat.add_comm, Nat.add_left_comm]
theorem numbered_len : ∀ (xs : List D) (n : Nat), (numbered n xs).length = xs.length
  | [], n => rfl
  | x :: xs, n => by
    show (numbered (n + 1) xs).length + 1 = xs.length + 1
    rw [numbered_len xs (n + 1)]
section
variable {mg : Str → Option Value} {K : PySem.W.Frag} {pot : Option Addr} {M : List Addr} {H H1 H' : Hp} {v x : V} {d : D} {ds : List D}
/-- a list or a tuple of data: where it lies -/
theorem seq_src (h : Rp mg K (less H M) x d) (e : seqOf d = some ds) : ∃ (S : Src) (xs : List V), x = .ref S.a ∧ S.sq K (less H M) xs ∧ RpL mg K (less H M) xs ds := by
  cases d with
  | lst es =>
    cases e
    cases h with
    | lst h1 h2 => exact ⟨⟨true, _⟩, _, rfl, .inl (.inl h1), h2⟩
  | tup es =>
    cases e
    cases h with
    | tup h1 h2 => exact ⟨⟨false, _⟩, _, rfl, h1, h2⟩
  | _ => cases e
theorem sq_mono {S : Src} {xs : List V} (e : Same H H') (h : S.sq K H xs) : S.sq K H' xs := by
  unfold Src.sq at h ⊢
  split at h
  · rename_i q
    rw [if_pos q]
    exact sqL_mono e h
  · rename_i q
    rw [if_neg q]
    exact sqT_mono e h
/-- data, or an own list as long as it does not change -/
theorem seq_srcB (h : Rb mg K pot M H x d) (e : seqOf d = some ds) : ∃ (S : Src) (xs : List V), x = .ref S.a ∧ RpL mg K (less H M) xs ds ∧ ∀ H' M', Grow pot H H' → Same (less H M) (less H' M') → S.sq K H' xs := by
  rcases h with h | ⟨p, e1, n, o, h1, h2⟩
  · obtain ⟨S, xs, h1, h2, h3⟩ := seq_src h e
    exact ⟨S, xs, h1, h3, fun H' M' _ s => sq_mono less_le (sq_mono s h2)⟩
  · cases h2 with
    | lst h2 =>
      cases e
      exact ⟨⟨true, p⟩, _, e1, h2.mono (less_sub fun a q => List.mem_cons_of_mem _ q), fun H' M' g _ => .inl (.inl (g p _ n h1))⟩
    | _ => cases e
theorem walkS {w : Bool} {S : Src} {xs : List V} (r : RpL mg K (less H1 M) xs ds) (st : ∀ H' M', (w = true → Grow pot H1 H') → Same (less H1 M) (less H' M') → S.sq K H' xs) : WalkD mg K w pot M H1 (ItS K S) ds (fun H => S.sq K H xs) (YAt xs) where
  walk := by
    rw [← r.length]
    exact walk_seq
  stay := st
  item := fun i H x H' M' _ s _ hi y => by
    obtain ⟨rfl, y⟩ := y
    obtain ⟨d, e, q⟩ := r.getV y
    exact ⟨Same.refl _, d, e, q.mono s⟩
theorem walkE {w : Bool} {S : Src} {xs : List V} (r : RpL mg K (less H1 M) xs ds) (st : ∀ H' M', (w = true → Grow pot H1 H') → Same (less H1 M) (less H' M') → S.sq K H' xs) :
    WalkD mg K w pot M H1 (ItE K S) (numbered 0 ds) (fun H => S.sq K H xs) (YPair (fun i => some (.int ((i : Nat) : Int))) (fun i => xs[i]?)) where
  walk := by
    rw [numbered_len, ← r.length]
    exact walk_enumS
  stay := st
  item := fun i H x H' M' _ s al hi y => by
    obtain ⟨T, a, b, rfl, hT, rfl, e1, e2⟩ := y
    cases e1
    obtain ⟨d, e, q⟩ := r.getV e2
    refine ⟨same_upd hT, .tup [.int (i : Int), d], ?_, new_tup al hT (.cons (.int _) (.cons (q.mono s) .nil))⟩
    rw [numbered_get, e]
    simp
end
theorem args1 {mg : Str → Option Value} {K : PySem.W.Frag} {pot : Option Addr} {M : List Addr} {H : Hp} {k : Ak} {vs : List V} {ds : List D} (h : Args mg K pot M H [k] vs ds) : ∃ v d, vs = [v] ∧ ds = [d] ∧ ArgR mg K pot M H k v d := by
  cases h with
  | cons a r =>
    cases r
    exact ⟨_, _, rfl, rfl, a⟩
theorem args2 {mg : Str → Option Value} {K : PySem.W.Frag} {pot : Option Addr} {M : List Addr} {H : Hp} {k l : Ak} {vs : List V} {ds : List D} (h : Args mg K pot M H [k, l] vs ds) : ∃ v d w e, vs = [v, w] ∧ ds = [d, e] ∧ ArgR mg K pot M H k v d ∧ ArgR mg K pot M H l w e := by
  cases h with
  | cons a r =>
    obtain ⟨w, e, rfl, rfl, b⟩ := args1 r
    exact ⟨_, _, _, _, rfl, rfl, a, b⟩
theorem args3 {mg : Str → Option Value} {K : PySem.W.Frag} {pot : Option Addr} {M : List Addr} {H : Hp} {k l m : Ak} {vs : List V} {ds : List D} (h : Args mg K pot M H [k, l, m] vs ds) :
    ∃ v d w e x f, vs = [v, w, x] ∧ ds = [d, e, f] ∧ ArgR mg K pot M H k v d ∧ ArgR mg K pot M H l w e ∧ ArgR mg K pot M H m x f := by
  cases h with
  | cons a r =>
    obtain ⟨w, e, x, f, rfl, rfl, b, c⟩ := args2 r
    exact ⟨_, _, _, _, _, _, rfl, rfl, a, b, c⟩
section
variable {X : Cx} {E : XK} {Γ : List Md} {pos p tpos : Pos} {k kk : Nat} {r : Rm} {e tg : Expr} {te : TE} {fe : Ed} {es elts : List Expr} {tA : TA} {fA : Ea} {ks : List Ak}
theorem PostI.seq {w : Bool} {pot : Option Addr} {M : List Addr} {H : Hp} {x : Res (D × Pot)} {kk : D × Pot → Res (List D × Pot)} {R0 : It → Hp → Prop} (h : PostI X.mg X.K w pot M H (x.bind kk) R0 E)
    {te : VK → Prop} (ht : ∀ Q', Post X.mg X.K r pot M H x Q' E → te Q') {R : VK}
    (hk : ∀ d π1 v H1, x = .ok (d, π1) → Grow pot H H1 → PotAt pot H1 π1 → RpR X.mg X.K r pot M H H1 v d → PostI X.mg X.K w pot M H1 (kk (d, π1)) R0 E → R v H1) : te R := by
  refine ht R ?_
  cases x with
  | ok a =>
    obtain ⟨d, π1⟩ := a
    refine fun v H1 g p q => hk d π1 v H1 rfl g p q ?_
    simp only [Res.bind_ok] at h
    cases e : kk (d, π1) with
    | ok b =>
      rw [e] at h
      exact fun J H2 G Y g2 p2 w2 => h J H2 G Y (g.trans g2) p2 w2
    | err c ns xs π' =>
      rw [e] at h
      exact PErr.back h g
    | stuck =>
      rw [e] at h
      exact h
  | err c ns xs π' => exact h
  | stuck => exact h
theorem PostI.seqA {w : Bool} {pot : Option Addr} {M : List Addr} {H : Hp} {x : Res (List D × Pot)} {kk : List D × Pot → Res (List D × Pot)} {R0 : It → Hp → Prop} (h : PostI X.mg X.K w pot M H (x.bind kk) R0 E)
    {te : (List V → Hp → Prop) → Prop} (ht : ∀ Q', PostA X.mg X.K ks pot M H x Q' E → te Q') {R : List V → Hp → Prop}
    (hk : ∀ ds π1 vs H1, x = .ok (ds, π1) → Grow pot H H1 → PotAt pot H1 π1 → Args X.mg X.K pot M H1 ks vs ds → PostI X.mg X.K w pot M H1 (kk (ds, π1)) R0 E → R vs H1) : te R := by
  refine ht R ?_
  cases x with
  | ok a =>
    obtain ⟨d, π1⟩ := a
    refine fun v H1 g p q => hk d π1 v H1 rfl g p q ?_
    simp only [Res.bind_ok] at h
    cases e : kk (d, π1) with
    | ok b =>
      rw [e] at h
      exact fun J H2 G Y g2 p2 w2 => h J H2 G Y (g.trans g2) p2 w2
    | err c ns xs π' =>
      rw [e] at h
      exact PErr.back h g
    | stuck =>
      rw [e] at h
      exact h
  | err c ns xs π' => exact h
  | stuck => exact h
theorem di_seq (ha : DE X E .f Γ e te fe) : DI false X E Γ tg e (iSeq X.K te) (iVal fe) :=
  ⟨pi_seq ha.pe, fun pot M σ H ρ π I p R h => by
    refine PostI.seq (r := .f) (te := te σ H) h (fun Q' hq => ha.sem pot M σ H ρ π I p Q' hq) fun d π1 v H1 _ g1 p1 r1 h1 => ?_
    cases hz : seqOf d with
    | none =>
      simp only [hz, ofO_none, Res.bind_stuck] at h1
      exact h1.elim
    | some ds =>
      simp only [hz, ofO_some, Res.bind_ok] at h1
      obtain ⟨S, xs, e1, e2, e3⟩ := seq_src r1 hz
      exact ⟨S, e1, ⟨xs, sq_mono less_le e2⟩, h1 _ H1 _ _ .refl p1 (walkS e3 fun H' M' _ s => sq_mono less_le (sq_mono s e2))⟩⟩
theorem di_seqB (ha : DE X E r Γ e te fe) : DI true X E Γ tg e (iSeq X.K te) (iVal fe) :=
  ⟨pi_seq ha.pe, fun pot M σ H ρ π I p R h => by
    refine PostI.seq (r := r) (te := te σ H) h (fun Q' hq => ha.sem pot M σ H ρ π I p Q' hq) fun d π1 v H1 _ g1 p1 r1 h1 => ?_
    cases hz : seqOf d with
    | none =>
      simp only [hz, ofO_none, Res.bind_stuck] at h1
      exact h1.elim
    | some ds =>
      simp only [hz, ofO_some, Res.bind_ok] at h1
      obtain ⟨S, xs, e1, e2, e3⟩ := seq_srcB r1.toB hz
      exact ⟨S, e1, ⟨xs, e3 H1 M .refl (Same.refl _)⟩, h1 _ H1 _ _ .refl p1 (walkS e2 fun H' M' g s => e3 H' M' (g rfl) s)⟩⟩
theorem di_enum (hm : X.mg "enumerate" = none) (ha : DA X E [.f] Γ [e] tA fA) (hg : Gl X "enumerate" := by rfl) (hs : starEach [e] X.env = [(false, eval e X.env)] := by rfl) : DI false X E Γ (.Tuple elts kk tpos) (.Call (.Name "enumerate" p) [e] [] pos) (iEnumS X.K tA) (iEnumD fA) :=
  ⟨pi_enumS hg hm ha.pa hs, fun pot M σ H ρ π I p R h => by
    refine PostI.seqA (ks := [.f]) (te := tA σ H) h (fun Q' hq => ha.sem pot M σ H ρ π I p Q' hq) fun ds π1 vs H1 _ g1 p1 r1 h1 => ?_
    obtain ⟨v, d, rfl, rfl, a⟩ := args1 r1
    · simp only at h1
      cases hz : seqOf d with
      | none =>
        simp only [hz, ofO_none, Res.bind_stuck] at h1
        exact h1.elim
      | some ds =>
        simp only [hz, ofO_some, Res.bind_ok] at h1
        obtain ⟨S, xs, e1, e2, e3⟩ := seq_src (show Rp X.mg X.K (less H1 M) v d from a) hz
        subst e1
        exact ⟨S, rfl, ⟨xs, sq_mono less_le e2⟩, h1 _ H1 _ _ .refl p1 (walkE e3 fun H' M' _ s => sq_mono less_le (sq_mono s e2))⟩⟩
theorem di_enumB (hm : X.mg "enumerate" = none) (ha : DA X E [.b] Γ [e] tA fA) (hg : Gl X "enumerate" := by rfl) (hs : starEach [e] X.env = [(false, eval e X.env)] := by rfl) : DI true X E Γ (.Tuple elts kk tpos) (.Call (.Name "enumerate" p) [e] [] pos) (iEnumS X.K tA) (iEnumD fA) :=
  ⟨pi_enumS hg hm ha.pa hs, fun pot M σ H ρ π I p R h => by
    refine PostI.seqA (ks := [.b]) (te := tA σ H) h (fun Q' hq => ha.sem pot M σ H ρ π I p Q' hq) fun ds π1 vs H1 _ g1 p1 r1 h1 => ?_
    obtain ⟨v, d, rfl, rfl, a⟩ := args1 r1
    · simp only at h1
      cases hz : seqOf d with
      | none =>
        simp only [hz, ofO_none, Res.bind_stuck] at h1
        exact h1.elim
      | some ds =>
        simp only [hz, ofO_some, Res.bind_ok] at h1
        obtain ⟨S, xs, e1, e2, e3⟩ := seq_srcB (show Rb X.mg X.K pot M H1 v d from a) hz
        subst e1
        exact ⟨S, rfl, ⟨xs, e3 H1 M .refl (Same.refl _)⟩, h1 _ H1 _ _ .refl p1 (walkE e2 fun H' M' g s => e3 H' M' (g rfl) s)⟩⟩
theorem mid_of {i : Int} (h : mid62 i = true) : -(2 ^ 62) ≤ i ∧ i < 2 ^ 62 := by
  unfold mid62 at h
  have := of_decide_eq_true h
  omega
theorem rangeD_get {lo c : Int} {n i : Nat} (h : i < n) : (rangeD lo c n)[i]? = some (.int (lo + (i : Int) * c)) := by
  unfold rangeD
  rw [List.getElem?_map, List.getElem?_range h]
  rfl
theorem rangeD_len (lo c : Int) (n : Nat) : (rangeD lo c n).length = n := by
  unfold rangeD
  rw [List.length_map, List.length_range]
theorem walkR {w : Bool} {pot : Option Addr} {M : List Addr} {H1 : Hp} {lo : Int} {n : Nat} : WalkD X.mg X.K w pot M H1 (Itr lo n) (rangeD lo 1 n) (fun _ => True) (YFn fun i => .int (lo + i)) where
  walk := by
    rw [rangeD_len]
    exact walk_range
  stay := fun _ _ _ _ => trivial
  item := fun i H x H' M' _ s al hi y => by
    obtain ⟨rfl, rfl⟩ := y
    rw [rangeD_len] at hi
    exact ⟨Same.refl _, _, rangeD_get hi, by rw [Int.mul_one]; exact .int _⟩
theorem di_range1 (hm : X.mg "range" = none) (ha : DA X E [.f] Γ [e] tA fA) (hg : Gl X "range" := by rfl) (hs : starEach [e] X.env = [(false, eval e X.env)] := by rfl) : DI false X E Γ tg (.Call (.Name "range" p) [e] [] pos) (iRng1 tA) (iRng fA) :=
  ⟨pi_range1 hg hm ha.pa hs, fun pot M σ H ρ π I p R h => by
    refine PostI.seqA (ks := [.f]) (te := tA σ H) h (fun Q' hq => ha.sem pot M σ H ρ π I p Q' hq) fun ds π1 vs H1 _ g1 p1 r1 h1 => ?_
    obtain ⟨v, d, rfl, rfl, a⟩ := args1 r1
    cases d with
    | int j =>
      cases rb_int (.inl (show Rp X.mg X.K (less H1 M) v (.int j) from a) : Rb X.mg X.K pot M H1 v (.int j))
      simp only [rng] at h1
      split at h1
      · rename_i hj
        obtain ⟨q1, q2⟩ := mid_of hj
        exact ⟨j, rfl, q1, q2, h1 _ H1 _ _ .refl p1 walkR⟩
      · exact h1.elim
    | _ => exact h1.elim⟩
theorem di_range2 {e2 : Expr} (hm : X.mg "range" = none) (ha : DA X E [.f, .f] Γ [e, e2] tA fA) (hg : Gl X "range" := by rfl) (hs : starEach [e, e2] X.env = [(false, eval e X.env), (false, eval e2 X.env)] := by rfl) (hs2 : starEach [e2] X.env = [(false, eval e2 X.env)] := by rfl) :
    DI false X E Γ tg (.Call (.Name "range" p) [e, e2] [] pos) (iRng2 tA) (iRng fA) :=
  ⟨pi_range2 hg hm ha.pa hs hs2, fun pot M σ H ρ π I p R h => by
    refine PostI.seqA (ks := [.f, .f]) (te := tA σ H) h (fun Q' hq => ha.sem pot M σ H ρ π I p Q' hq) fun ds π1 vs H1 _ g1 p1 r1 h1 => ?_
    obtain ⟨v, d, v2, d2, rfl, rfl, a, b⟩ := args2 r1
    cases d with
    | int i =>
      cases d2 with
      | int j =>
        cases rb_int (.inl (show Rp X.mg X.K (less H1 M) v (.int i) from a) : Rb X.mg X.K pot M H1 v (.int i))
        cases rb_int (.inl (show Rp X.mg X.K (less H1 M) v2 (.int j) from b) : Rb X.mg X.K pot M H1 v2 (.int j))
        simp only [rng] at h1
        split at h1
        · rename_i hj
          obtain ⟨q0, q9⟩ := Bool.and_eq_true_iff.mp hj
          obtain ⟨q1, q2⟩ := mid_of q0
          obtain ⟨q3, q4⟩ := mid_of q9
          exact ⟨i, j, rfl, ⟨q1, q2, q3, q4⟩, h1 _ H1 _ _ .refl p1 walkR⟩
        · exact h1.elim
      | _ => exact h1.elim
    | _ => exact h1.elim⟩
end
end DL

set_option maxHeartbeats 2000000
/-! List comprehensions. -/
namespace DL
open PySem PySem.Spec PyProof.Rows L2

def safe {α : Type} : Res α → Res α
  | .ok a => .ok a
  | _ => .stuck
@[simp] theorem safe_ok {α : Type} (a : α) : safe (Res.ok a) = .ok a := rfl
def lcGo (fg : D → Rho → Option Rho) (ft : Et) (fe : Ed) (ρ : Rho) : List D → Pot → Res (List D × Pot)
  | [], π => .ok ([], π)
  | d :: ds, π => (ofO (fg d ρ)).bind fun ρ1 => (safe (ft ρ1 π)).bind fun b => if b.1 = true then (safe (fe ρ1 b.2)).bind fun x => (lcGo fg ft fe ρ ds x.2).bind fun r => .ok (x.1 :: r.1, r.2) else lcGo fg ft fe ρ ds b.2
def wipeD (ρ : Rho) : List Nat → Rho
  | [] => ρ
  | v :: vs => (wipeD ρ vs).set v none
def eLC (fi : Ei) (fg : D → Rho → Option Rho) (ft : Et) (fe : Ed) (vs : List Nat) : Ed := fun ρ π => (fi ρ π).bind fun x => if x.1.length < sizeLine then (lcGo fg ft fe (wipeD ρ vs) x.1 x.2).bind fun r => .ok (.lst r.1, r.2) else .stuck
def tTrue : Et := fun _ π => .ok (true, π)

section
variable {mg : Str → Option Value} {K : PySem.W.Frag} {pot : Option Addr} {M : List Addr} {H H1 H' : Hp} {v : V} {d : D} {Γ : List Md} {σ : L2.St} {ρ : Rho} {π : Pot}
theorem safe_ne {α : Type} {x : Res α} {c : Str} {ns : List Str} {xs : List D} : safe x ≠ .err c ns xs π := by
  cases x <;> simp [safe]
theorem lcGo_ne {fg : D → Rho → Option Rho} {ft : Et} {fe : Ed} {c : Str} {ns : List Str} {xs : List D} {π' : Pot} : ∀ (ds : List D) (π : Pot), lcGo fg ft fe ρ ds π ≠ .err c ns xs π'
  | [], π => by simp [lcGo]
  | d :: ds, π => by
    unfold lcGo
    cases h1 : fg d ρ with
    | none => simp
    | some ρ1 =>
      simp only [ofO_some, Res.bind_ok]
      cases h2 : safe (ft ρ1 π) with
      | ok b =>
        simp only [Res.bind_ok]
        split
        · cases h3 : safe (fe ρ1 b.2) with
          | ok x =>
            simp only [Res.bind_ok]
            cases h4 : lcGo fg ft fe ρ ds x.2 with
            | ok r => simp
            | err c ns xs p => exact absurd h4 (lcGo_ne ds x.2)
            | stuck => simp
          | err c ns xs p => exact absurd h3 safe_ne
          | stuck => simp
        · exact lcGo_ne ds b.2
      | err c ns xs p => exact absurd h2 safe_ne
      | stuck => simp
theorem wipeD_len : ∀ (vs : List Nat), (wipeD ρ vs).length = ρ.length
  | [] => rfl
  | v :: vs => by
    unfold wipeD
    rw [List.length_set, wipeD_len vs]
theorem EnvOk.unset (I : EnvOk mg K Γ pot M σ H ρ) {i : Nat} (hi : Γ[i]? = some .f) : EnvOk mg K Γ pot M (σ.set i none) H (ρ.set i none) where
  ls := by rw [List.length_set]; exact I.ls
  lr := by rw [List.length_set]; exact I.lr
  f := fun j e h1 h2 => by
    by_cases e1 : i = j
    · subst e1
      have hl : i < ρ.length := by rw [I.lr]; exact (List.getElem?_eq_some_iff.mp hi).1
      rw [List.getElem?_set_self hl] at h2
      cases h2
    · rw [List.getElem?_set_ne e1] at h2
      obtain ⟨u, q, z⟩ := I.f j e h1 h2
      exact ⟨u, by rw [List.getElem?_set_ne e1]; exact q, z⟩
  o := fun j e h1 h2 => by
    have e1 : i ≠ j := fun q => by rw [q, h1] at hi; cases hi
    rw [List.getElem?_set_ne e1] at h2
    obtain ⟨p, q, z⟩ := I.o j e h1 h2
    exact ⟨p, by rw [List.getElem?_set_ne e1]; exact q, z⟩
  p := fun j h1 => by
    have e1 : i ≠ j := fun q => by rw [q, h1] at hi; cases hi
    obtain ⟨p, q, z⟩ := I.p j h1
    exact ⟨p, q, by rw [List.getElem?_set_ne e1]; exact z⟩
  s := fun j e h1 h2 => by
    have e1 : i ≠ j := fun q => by rw [q, h1] at hi; cases hi
    rw [List.getElem?_set_ne e1] at h2
    obtain ⟨p, ns, q, z⟩ := I.s j e h1 h2
    exact ⟨p, ns, by rw [List.getElem?_set_ne e1]; exact q, z⟩
  ap := fun j k a b c h1 h2 h3 h4 h5 h6 => by
    have e1 : i ≠ j := fun q => by rw [q, h1] at hi; cases hi
    have e2 : i ≠ k := fun q => by rw [q, h2] at hi; cases hi
    rw [List.getElem?_set_ne e1] at h3 h5
    rw [List.getElem?_set_ne e2] at h4 h6
    exact I.ap j k a b c h1 h2 h3 h4 h5 h6
  al := I.al
  pm := I.pm
theorem EnvOk.wipe (I : EnvOk mg K Γ pot M σ H ρ) : ∀ {vs : List Nat}, (∀ i ∈ vs, Γ[i]? = some .f) → EnvOk mg K Γ pot M (L2.wipe σ vs) H (wipeD ρ vs)
  | [], _ => I
  | v :: vs, h => (EnvOk.wipe I fun i hi => h i (List.mem_cons_of_mem _ hi)).unset (h v (List.mem_cons_self ..))
/-- the same place, later, a new cell beside -/
theorem EnvOk.under (I : EnvOk mg K Γ pot M σ H1 ρ) {q : Addr} (hn : H1 q = none) (g : Grow pot H1 H) (p : PotAt pot H π) (hq : H q ≠ none) : EnvOk mg K Γ pot (q :: M) σ H ρ := by
  have nq : ∀ a o, H1 a = some o → a ≠ q := fun a o h => ne_of_none h hn
  have sm : ∀ L : List Addr, (∀ a, pot = some a → a ∈ L) → Same (less H1 L) (less H (q :: L)) := fun L hL a o h => by
    obtain ⟨h1, h2⟩ := less_some.mp h
    refine less_some.mpr ⟨fun m => ?_, g a o (fun e => h1 (hL a e)) h2⟩
    rcases List.mem_cons.mp m with e | m
    · exact nq a o h2 e
    · exact h1 m
  refine ⟨I.ls, I.lr, fun i d h1 h2 => ?_, fun i d h1 h2 => ?_, I.p, fun i d h1 h2 => ?_, I.ap, fun a ha => ?_, fun a e => List.mem_cons_of_mem _ (I.pm a e)⟩
  · obtain ⟨v, e, r⟩ := I.f i d h1 h2
    exact ⟨v, e, r.mono (sm M I.pm)⟩
  · obtain ⟨a, e, m, n, oo, h3, h4⟩ := I.o i d h1 h2
    refine ⟨a, e, List.mem_cons_of_mem _ m, n, oo, g a _ n h3, h4.mono fun b o h => ?_⟩
    obtain ⟨h5, h6⟩ := less_some.mp (sm (a :: M) (fun b e => List.mem_cons_of_mem _ (I.pm b e)) b o h)
    refine less_some.mpr ⟨fun m => h5 ?_, h6⟩
    rcases List.mem_cons.mp m with z | m
    · exact List.mem_cons_of_mem _ (by rw [z]; exact List.mem_cons_self ..)
    · rcases List.mem_cons.mp m with z | m
      · rw [z]
        exact List.mem_cons_self ..
      · exact List.mem_cons_of_mem _ (List.mem_cons_of_mem _ m)
  · obtain ⟨a, ns, e1, e2, e3⟩ := I.s i d h1 h2
    exact ⟨a, ns, e1, e2, sqL_mono (sm M I.pm) e3⟩
  · rcases List.mem_cons.mp ha with e | m
    · rw [e]
      exact hq
    · exact alive I.al p g a m
theorem wipe_at (σ : L2.St) (i : Nat) : ∀ (vs : List Nat), (L2.wipe σ vs)[i]? = if i ∈ vs then (if i < σ.length then some none else none) else σ[i]?
  | [] => by simp [L2.wipe]
  | v :: vs => by
    have ih := wipe_at σ i vs
    unfold L2.wipe
    by_cases e : v = i
    · subst e
      rw [List.getElem?_set, if_pos rfl, wipe_length]
      simp
    · rw [List.getElem?_set_ne e, ih]
      simp [Ne.symm e]
theorem wipe_of {σ σ2 : L2.St} {vs is : List Nat} (hl : σ2.length = σ.length) (hs : ∀ i ∈ is, i ∈ vs) (h : ∀ i, i ∉ is → σ2[i]? = (L2.wipe σ vs)[i]?) : L2.wipe σ2 vs = L2.wipe σ vs := by
  apply List.ext_getElem?
  intro i
  rw [wipe_at, wipe_at]
  by_cases e : i ∈ vs
  · rw [if_pos e, if_pos e, hl]
  · rw [if_neg e, if_neg e, h i fun z => e (hs i z), wipe_at, if_neg e]
end

structure DTs (X : Cx) (E : XK) (Γ : List Md) (es : List Expr) (tt : TT) (ft : Et) : Prop where
  pts : PTs X es tt
  sem : SemT X.mg X.K E Γ tt ft
section
variable {X : Cx} {E : XK} {Γ : List Md} {pos : Pos} {k : Nat}
theorem dts_nil : DTs X E Γ [] tYes tTrue := ⟨pts_nil, fun pot M σ H ρ π I p Q h => h H .refl p⟩
theorem dts_one {c : Expr} {tt : TT} {ft : Et} (h : DT X E Γ c tt ft) : DTs X E Γ [c] tt ft := ⟨pts_one h.pt, h.sem⟩
theorem XOk.blk {s : Shared} {H : Hp} {scope : Scope} {cenv : Env} {fp : List Addr} (x : XOk X E k) : XOk (X.blk s H scope cenv fp) E0 k := ⟨x.room, x.gd, x.calm, passL, PassesOwn.never, x.nd⟩

theorem sem_lc {w : Bool} {wi : TI} {fi : Ei} {is vs : List Nat} {g : TG} {fg : D → Rho → Option Rho} {tt : TT} {ft : Et} {te : TE} {fe : Ed} (hi : SemI X.mg X.K w E Γ wi fi) (hg : SemG X.mg X.K Γ is g fg) (hv : ∀ i ∈ is, i ∈ vs) (hΓ : ∀ i ∈ vs, Γ[i]? = some .f)
    (ht : SemT X.mg X.K E0 Γ tt ft) (he : SemE X.mg X.K E0 .f Γ te fe) : SemE X.mg X.K E .o Γ (tLc wi g tt te vs) (eLC fi fg ft fe vs) := fun pot M σ H ρ π I p Q h => by
  refine hi pot M σ H ρ π I p _ ?_
  unfold eLC at h
  cases ei : fi ρ π with
  | err c ns xs π' =>
    rw [ei] at h
    exact h
  | stuck =>
    rw [ei] at h
    exact h
  | ok x =>
    obtain ⟨items, π0⟩ := x
    rw [ei] at h
    simp only [Res.bind_ok] at h
    intro J H1 G Y g1 p1 W D hD
    by_cases hz : items.length < sizeLine
    · rw [if_pos hz] at h
      have I1 := I.grow g1 p1
      cases et : lcGo fg ft fe (wipeD ρ vs) items π0 with
      | err c ns xs π' => exact absurd et (lcGo_ne items π0)
      | stuck =>
        rw [et] at h
        exact h.elim
      | ok r =>
        obtain ⟨ds, π9⟩ := r
        rw [et] at h
        simp only [Res.bind_ok] at h
        have nD : pot ≠ some D := fun e => p1.has D e hD
        have gD : ∀ {H2 : Hp} {o : HO}, Grow pot H1 H2 → Grow pot H1 (upd H2 D o) := fun gr a o n e => by
          rw [upd_ne (ne_of_none e hD)]
          exact gr a o n e
        have pD : ∀ {H2 : Hp} {o : HO} {π : Pot}, PotAt pot H2 π → PotAt pot (upd H2 D o) π := fun q a e => by
          rw [upd_ne (fun z => nD (by rw [e, z]))]
          exact q a e
        have lD : ∀ {H2 : Hp} {o : HO}, Same (less H2 (D :: M)) (less (upd H2 D o) (D :: M)) := fun a o e => by
          obtain ⟨e1, e2⟩ := less_some.mp e
          refine less_some.mpr ⟨e1, ?_⟩
          rw [upd_ne (fun z => e1 (by rw [z]; exact List.mem_cons_self ..))]
          exact e2
        have sD : ∀ {H2 : Hp}, Grow pot H1 H2 → Same (less H1 M) (less H2 (D :: M)) := fun gr a o e => by
          obtain ⟨e1, e2⟩ := less_some.mp e
          refine less_some.mpr ⟨fun m => ?_, gr a o (fun z => e1 (I.pm a z)) e2⟩
          rcases List.mem_cons.mp m with z | m
          · exact ne_of_none e2 hD z
          · exact e1 m
        refine lc_it W.walk (fun i H2 => ∃ π2 vsa dsa, Grow pot H1 H2 ∧ PotAt pot H2 π2 ∧ H2 D = some (.lst vsa) ∧ RpL X.mg X.K (less H2 (D :: M)) vsa dsa ∧ dsa.length ≤ i ∧
            (lcGo fg ft fe (wipeD ρ vs) (items.drop i) π2).bind (fun r => .ok (dsa ++ r.1, r.2)) = .ok (ds, π9))
          ⟨π0, [], [], gD .refl, pD p1, upd_same, .nil, Nat.le_refl _, by rw [List.drop_zero, et]; rfl⟩ (fun i H2 _ ⟨_, _, _, gr, _⟩ => W.stay H2 (D :: M) (fun _ => gr) (sD gr)) ?_ ?_
        · rintro i xv H2 H3 hlt ⟨π2, vsa, dsa, gr, pr, hDv, rr, hle, hgo⟩ hy
          have I2 := I1.under hD gr pr (by rw [hDv]; simp)
          obtain ⟨sm, d, hd, rd⟩ := W.item i H2 xv H3 (D :: M) (fun _ => gr) (sD gr) I2.al hlt hy
          have gr3 : Grow pot H1 H3 := gr.trans (.of_same sm)
          have pr3 := pr.same sm
          have hDv3 := sm _ _ hDv
          have I3 := (I1.under hD gr3 pr3 (by rw [hDv3]; simp)).wipe hΓ
          have rr3 : RpL X.mg X.K (less H3 (D :: M)) vsa dsa := rr.mono (less_grow I2.pm (.of_same sm))
          have edr : items.drop i = d :: items.drop (i + 1) := by
            rw [List.drop_eq_getElem_cons hlt]
            congr 1
            have := List.getElem?_eq_getElem hlt
            rw [hd] at this
            exact (Option.some.inj this).symm
          rw [edr] at hgo
          unfold lcGo at hgo
          cases e1 : fg d (wipeD ρ vs) with
          | none => rw [e1] at hgo; cases hgo
          | some ρ1 =>
            rw [e1] at hgo
            simp only [ofO_some, Res.bind_ok] at hgo
            refine hg pot (D :: M) _ H3 _ xv d I3 rd ρ1 e1 _ fun σ2 I4 so _ => ⟨wipe_of (by rw [I4.ls, I1.ls]) hv so, ?_⟩
            refine ht pot (D :: M) σ2 H3 ρ1 π2 I4 pr3 _ ?_
            cases e2 : ft ρ1 π2 with
            | err c ns xs p => rw [e2] at hgo; cases hgo
            | stuck => rw [e2] at hgo; cases hgo
            | ok b =>
              obtain ⟨b, π3⟩ := b
              rw [e2] at hgo
              simp only [safe_ok, Res.bind_ok] at hgo
              intro H4 g4 p4
              have gr4 := gr3.trans g4
              have hDv4 := g4 D _ nD hDv3
              cases b with
              | false =>
                rw [if_neg Bool.false_ne_true] at hgo ⊢
                exact ⟨π3, vsa, dsa, gr4, p4, hDv4, rr3.mono (less_grow I4.pm g4), Nat.le_succ_of_le hle, hgo⟩
              | true =>
                rw [if_pos rfl] at hgo ⊢
                refine he pot (D :: M) σ2 H4 ρ1 π3 (I4.grow g4 p4) p4 _ ?_
                cases e3 : fe ρ1 π3 with
                | err c ns xs p => rw [e3] at hgo; cases hgo
                | stuck => rw [e3] at hgo; cases hgo
                | ok y =>
                  obtain ⟨y, π4⟩ := y
                  rw [e3] at hgo
                  simp only [safe_ok, Res.bind_ok] at hgo
                  intro yv H5 g5 p5 ry
                  have gr5 := gr4.trans g5
                  have hDv5 := g5 D _ nD hDv4
                  have rr5 := (rr3.mono (less_grow I4.pm g4)).mono (less_grow I4.pm g5)
                  refine ⟨vsa, hDv5, by rw [rr.length]; omega, π4, vsa ++ [yv], dsa ++ [y], gD gr5, pD p5, upd_same, (rr5.append (.cons ry .nil)).mono lD, by simp; omega, ?_⟩
                  cases e4 : lcGo fg ft fe (wipeD ρ vs) (items.drop (i + 1)) π4 with
                  | ok r =>
                    rw [e4] at hgo
                    simp only [Res.bind_ok] at hgo ⊢
                    rw [← hgo, List.append_assoc]
                    rfl
                  | err c ns xs p => rw [e4] at hgo; cases hgo
                  | stuck => rw [e4] at hgo; cases hgo
        · rintro H2 ⟨π2, vsa, dsa, gr, pr, hDv, rr, hle, hgo⟩
          rw [List.drop_length] at hgo
          simp only [lcGo, Res.bind_ok, List.append_nil, Res.ok.injEq, Prod.mk.injEq] at hgo
          obtain ⟨rfl, rfl⟩ := hgo
          refine h (.ref D) H2 (g1.trans gr) pr ⟨D, rfl, ?_, nD, _, hDv, .lst rr⟩
          cases e : H D with
          | none => rfl
          | some o =>
            rw [g1 D o nD e] at hD
            cases hD
    · rw [if_neg hz] at h
      exact h.elim
/-- one reading for all places that are alike -/
def canE (mg : Str → Option Value) (K : PySem.W.Frag) (E : XK) (r : Rm) (Γ : List Md) (fe : Ed) : TE := fun σ H Q => ∃ pot M ρ π, EnvOk mg K Γ pot M σ H ρ ∧ PotAt pot H π ∧ Post mg K r pot M H (fe ρ π) Q E
def canT (mg : Str → Option Value) (K : PySem.W.Frag) (E : XK) (Γ : List Md) (ft : Et) : TT := fun σ H Q => ∃ pot M ρ π, EnvOk mg K Γ pot M σ H ρ ∧ PotAt pot H π ∧ PostT mg K pot M H (ft ρ π) Q E
def canG (mg : Str → Option Value) (K : PySem.W.Frag) (Γ : List Md) (is : List Nat) (fg : D → Rho → Option Rho) : TG := fun v σ H Q => ∃ pot M ρ d ρ', EnvOk mg K Γ pot M σ H ρ ∧ Rp mg K (less H M) v d ∧ fg d ρ = some ρ' ∧ ∀ σ', EnvOk mg K Γ pot M σ' H ρ' → (∀ i, i ∉ is → σ'[i]? = σ[i]?) → (∀ i, i ∉ is → ρ'[i]? = ρ[i]?) → Q σ' H
theorem DE.can {r : Rm} {e : Expr} {te : TE} {fe : Ed} (h : DE X E r Γ e te fe) : DE X E r Γ e (canE X.mg X.K E r Γ fe) fe :=
  ⟨⟨fun pins s σ H Q I q => by
    obtain ⟨pot, M, ρ, π, h1, h2, h3⟩ := q
    exact h.pe.run pins s σ H Q I (h.sem pot M σ H ρ π h1 h2 Q h3)⟩, fun pot M σ H ρ π I p Q q => ⟨pot, M, ρ, π, I, p, q⟩⟩
theorem DTs.can {es : List Expr} {tt : TT} {ft : Et} (h : DTs X E Γ es tt ft) : DTs X E Γ es (canT X.mg X.K E Γ ft) ft :=
  ⟨⟨fun pins s σ H Q I q => by
    obtain ⟨pot, M, ρ, π, h1, h2, h3⟩ := q
    exact h.pts.run pins s σ H Q I (h.sem pot M σ H ρ π h1 h2 Q h3)⟩, fun pot M σ H ρ π I p Q q => ⟨pot, M, ρ, π, I, p, q⟩⟩
theorem DG.can {tg : Expr} {is : List Nat} {g : TG} {fg : D → Rho → Option Rho} (h : DG X Γ tg is g fg) : DG X Γ tg is (canG X.mg X.K Γ is fg) fg :=
  ⟨⟨fun pins s σ H v u Q I r q => by
    obtain ⟨pot, M, ρ, d, ρ', h1, h2, h3, h4⟩ := q
    exact h.pg.run pins s σ H v u Q I r (h.sem pot M σ H ρ v d h1 h2 ρ' h3 Q h4)⟩, h.fs, fun pot M σ H ρ v d I r ρ' e Q q => ⟨pot, M, ρ, d, ρ', I, r, e, q⟩⟩
theorem de_lc {w : Bool} {elt tg iter : Expr} {ifs : List Expr} {scope : Scope} {own : List (Str × Nat)} {wi : TI} {fi : Ei} {is : List Nat} {fg : D → Rho → Option Rho} {ft : Et} {fe : Ed} (x : XOk X E k) (hi : DI w X E Γ tg iter wi fi) (ok : BlkOk X.N X.env.scope scope own)
    (hg : ∀ (s : Shared) (H : Hp) (C : Addr) (cl : List (Str × Addr)) (fp : List Addr), ∃ g, DG (X.blk s H scope (compEnvC scope cl C X.env) fp) Γ tg is g fg)
    (ht : ∀ (s : Shared) (H : Hp) (C : Addr) (cl : List (Str × Addr)) (fp : List Addr), ∃ tt, DTs (X.blk s H scope (compEnvC scope cl C X.env) fp) E0 Γ ifs tt ft)
    (he : ∀ (s : Shared) (H : Hp) (C : Addr) (cl : List (Str × Addr)) (fp : List Addr), ∃ te, DE (X.blk s H scope (compEnvC scope cl C X.env) fp) E0 .f Γ elt te fe)
    (hv : ∀ i ∈ is, i ∈ own.map (·.2) := by decide) (hΓ : ∀ i ∈ own.map (·.2), Γ[i]? = some .f := by decide) (hs : ∀ x, foldedSetIterable iter X.env x = pure x := by intro _; rfl) :
    DE X E .o Γ (.ListComp elt [⟨tg, iter, ifs, 0⟩] scope pos) (tLc wi (canG X.mg X.K Γ is fg) (canT X.mg X.K E0 Γ ft) (canE X.mg X.K E0 .f Γ fe) (own.map (·.2))) (eLC fi fg ft fe (own.map (·.2))) := by
  have hg' : ∀ (s : Shared) (H : Hp) (C : Addr) (cl : List (Str × Addr)) (fp : List Addr), DG (X.blk s H scope (compEnvC scope cl C X.env) fp) Γ tg is (canG X.mg X.K Γ is fg) fg := fun s H C cl fp => by
    obtain ⟨g, h⟩ := hg s H C cl fp
    exact h.can
  have ht' : ∀ (s : Shared) (H : Hp) (C : Addr) (cl : List (Str × Addr)) (fp : List Addr), DTs (X.blk s H scope (compEnvC scope cl C X.env) fp) E0 Γ ifs (canT X.mg X.K E0 Γ ft) ft := fun s H C cl fp => by
    obtain ⟨g, h⟩ := ht s H C cl fp
    exact h.can
  have he' : ∀ (s : Shared) (H : Hp) (C : Addr) (cl : List (Str × Addr)) (fp : List Addr), DE (X.blk s H scope (compEnvC scope cl C X.env) fp) E0 .f Γ elt (canE X.mg X.K E0 .f Γ fe) fe := fun s H C cl fp => by
    obtain ⟨g, h⟩ := he s H C cl fp
    exact h.can
  exact ⟨pe_lc x.calm x.nd hi.pi ok (fun s H C cl fp => (hg' s H C cl fp).pg) (fun s H C cl fp => (ht' s H C cl fp).pts) (fun s H C cl fp => (he' s H C cl fp).pe) hs,
    sem_lc hi.sem (hg' X.s_0 X.H_0 0 [] []).sem hv hΓ (ht' X.s_0 X.H_0 0 [] []).sem (he' X.s_0 X.H_0 0 [] []).sem⟩
end
end DL

set_option maxHeartbeats 2000000
/-! Statements. -/
namespace DL
open PySem PySem.Spec PyProof.Rows L2

inductive Out where
  | nx (ρ : Rho) | bk (ρ : Rho) | ct (ρ : Rho) | rt (d : D)
abbrev Fs := Rho → Pot → Res (Out × Pot)
def Rm.md : Rm → Md
  | .f => .f
  | .b => .u
  | .o => .o
  | .t => .u

section
variable (mg : Str → Option Value) (K : PySem.W.Frag)
structure SOk (Γ : List Md) (pot : Option Addr) (M0 : List Addr) (H0 B : Hp) (M : List Addr) (σ : L2.St) (H : Hp) (ρ : Rho) : Prop where
  env : EnvOk mg K Γ pot M σ H ρ
  gr : Grow pot H0 H
  sub : ∀ a ∈ M0, a ∈ M
  ow : ∀ (i : Nat) (d : D) (a : Addr), Γ[i]? = some .o → ρ[i]? = some (some d) → σ[i]? = some (some (.ref a)) → H0 a = none
  m0 : ∀ a ∈ M0, H0 a ≠ none
  bs : Same B (less H M)
/-- a value that is to be put into a slot -/
def Held (r : Rm) (Γ : List Md) (pot : Option Addr) (H0 : Hp) (M : List Addr) (σ : L2.St) (H : Hp) (ρ : Rho) (v : V) (d : D) : Prop := match r with
  | .f => Rp mg K (less H M) v d
  | .b => True
  | .t => True
  | .o => ∃ p, v = .ref p ∧ p ∈ M ∧ Own mg K pot M H p d ∧ H0 p = none ∧ ∀ (i : Nat) (e : D), Γ[i]? = some .o → ρ[i]? = some (some e) → σ[i]? ≠ some (some (.ref p))
def PostS (r : Rm) (Γl Γ' : List Md) (pot : Option Addr) (M0 : List Addr) (H0 B : Hp) (x : Res (Out × Pot)) (D : Ends) (E : XK) : Prop := match x with
  | .ok (.nx ρ, π) => ∀ M σ H, SOk mg K Γ' pot M0 H0 B M σ H ρ → PotAt pot H π → D.nx σ H
  | .ok (.bk ρ, π) => ∀ M σ H, SOk mg K Γl pot M0 H0 B M σ H ρ → PotAt pot H π → D.bk σ H
  | .ok (.ct ρ, π) => ∀ M σ H, SOk mg K Γl pot M0 H0 B M σ H ρ → PotAt pot H π → D.ct σ H
  | .ok (.rt d, π) => ∀ v H, Grow pot H0 H → PotAt pot H π → RpR mg K r pot M0 H0 H v d → D.rt v H
  | .err c ns xs π => PErr mg K pot M0 H0 c ns xs π E
  | .stuck => False
def SemS (E : XK) (r : Rm) (Γl Γ Γ' : List Md) (ts : TS) (fs : Fs) : Prop :=
  ∀ pot M0 H0 B M σ H ρ π D, SOk mg K Γ pot M0 H0 B M σ H ρ → PotAt pot H π → PostS mg K r Γl Γ' pot M0 H0 B (fs ρ π) D E → ts D σ H
end

section
variable {mg : Str → Option Value} {K : PySem.W.Frag} {pot : Option Addr} {M M0 M1 : List Addr} {H H0 H1 H2 B : Hp} {π π1 : Pot} {Γ Γl Γ' : List Md} {σ : L2.St} {ρ : Rho} {v : V} {d : D} {r : Rm} {E : XK}
theorem SOk.pm0 (S : SOk mg K Γ pot M0 H0 B M σ H ρ) : ∀ a, pot = some a → a ∈ M := S.env.pm
theorem SOk.grow (S : SOk mg K Γ pot M0 H0 B M σ H ρ) (g : Grow pot H H1) (p : PotAt pot H1 π) : SOk mg K Γ pot M0 H0 B M σ H1 ρ := ⟨S.env.grow g p, S.gr.trans g, S.sub, S.ow, S.m0, fun a o h => less_grow S.env.pm g a o (S.bs a o h)⟩
theorem PErr.out {c : Str} {ns : List Str} {xs : List D} {π' : Pot} (h : PErr mg K pot M0 H0 c ns xs π' E) (S : SOk mg K Γ pot M0 H0 B M σ H ρ) : PErr mg K pot M H c ns xs π' E := fun cv dd H' g p e => by
  refine h cv dd H' (S.gr.trans g) p ?_
  obtain ⟨C, h1, h2, h3⟩ := e
  refine ⟨C, h1, h2, h3.imp id ?_⟩
  rintro ⟨a, fs, e1, e2, e3, e4, e5⟩
  exact ⟨a, fs, e1, e2, fun m => e3 (S.sub a m), e4, e5.mono (less_sub S.sub)⟩
/-- an expression, then the rest of the statement -/
theorem PostS.seq {r' : Rm} {x : Res (D × Pot)} {kk : D × Pot → Res (Out × Pot)} {D' : Ends} (h : PostS mg K r Γl Γ' pot M0 H0 B (x.bind kk) D' E) (S : SOk mg K Γ pot M0 H0 B M σ H ρ)
    {te : VK → Prop} (ht : ∀ Q', Post mg K r' pot M H x Q' E → te Q') {R : VK}
    (hk : ∀ d π1 v H1, x = .ok (d, π1) → Grow pot H H1 → PotAt pot H1 π1 → RpR mg K r' pot M H H1 v d → PostS mg K r Γl Γ' pot M0 H0 B (kk (d, π1)) D' E → R v H1) : te R := by
  refine ht R ?_
  cases x with
  | ok a =>
    obtain ⟨d, π1⟩ := a
    exact fun v H1 g p q => hk d π1 v H1 rfl g p q h
  | err c ns xs π' => exact PErr.out h S
  | stuck => exact h
theorem PostS.seqT {x : Res (Bool × Pot)} {kk : Bool × Pot → Res (Out × Pot)} {D' : Ends} (h : PostS mg K r Γl Γ' pot M0 H0 B (x.bind kk) D' E) (S : SOk mg K Γ pot M0 H0 B M σ H ρ)
    {te : (Bool → Hp → Prop) → Prop} (ht : ∀ Q', PostT mg K pot M H x Q' E → te Q') {R : Bool → Hp → Prop}
    (hk : ∀ d π1 H1, x = .ok (d, π1) → Grow pot H H1 → PotAt pot H1 π1 → PostS mg K r Γl Γ' pot M0 H0 B (kk (d, π1)) D' E → R d H1) : te R := by
  refine ht R ?_
  cases x with
  | ok a =>
    obtain ⟨d, π1⟩ := a
    exact fun H1 g p => hk d π1 H1 rfl g p h
  | err c ns xs π' => exact PErr.out h S
  | stuck => exact h
theorem PostS.seqI {w : Bool} {x : Res (List D × Pot)} {kk : List D × Pot → Res (Out × Pot)} {D' : Ends} (h : PostS mg K r Γl Γ' pot M0 H0 B (x.bind kk) D' E) (S : SOk mg K Γ pot M0 H0 B M σ H ρ)
    {te : (It → Hp → Prop) → Prop} (ht : ∀ Q', PostI mg K w pot M H x Q' E → te Q') {R : It → Hp → Prop}
    (hk : ∀ ds π1 J H1 G Y, x = .ok (ds, π1) → Grow pot H H1 → PotAt pot H1 π1 → WalkD mg K w pot M H1 J ds G Y → PostS mg K r Γl Γ' pot M0 H0 B (kk (ds, π1)) D' E → R J H1) : te R := by
  refine ht R ?_
  cases x with
  | ok a =>
    obtain ⟨ds, π1⟩ := a
    exact fun J H1 G Y g p q => hk ds π1 J H1 G Y rfl g p q h
  | err c ns xs π' => exact PErr.out h S
  | stuck => exact h
theorem less_in {p : Addr} (h : p ∈ M) : Same (less H M) (less H (p :: M)) := fun a o e => by
  obtain ⟨e1, e2⟩ := less_some.mp e
  refine less_some.mpr ⟨fun m => ?_, e2⟩
  rcases List.mem_cons.mp m with z | m
  · exact e1 (by rw [z]; exact h)
  · exact e1 m
/-- a new value is held -/
theorem SOk.hold (S : SOk mg K Γ pot M0 H0 B M σ H ρ) (g : Grow pot H H1) (p : PotAt pot H1 π) (q : RpR mg K r pot M H H1 v d) :
    ∃ M1, SOk mg K Γ pot M0 H0 B M1 σ H1 ρ ∧ Held mg K r Γ pot H0 M1 σ H1 ρ v d ∧ (M1 = M ∨ ∃ c, M1 = c :: M ∧ H c = none) := by
  cases r with
  | f => exact ⟨M, S.grow g p, q, .inl rfl⟩
  | b => exact ⟨M, S.grow g p, trivial, .inl rfl⟩
  | t => exact ⟨M, S.grow g p, trivial, .inl rfl⟩
  | o =>
    obtain ⟨c, rfl, hn, n, oo, h1, h2⟩ := q
    have S1 := S.env.under hn g p (by rw [h1]; simp)
    refine ⟨c :: M, ⟨S1, S.gr.trans g, fun a m => List.mem_cons_of_mem _ (S.sub a m), S.ow, S.m0, fun a o h => ?_⟩, ⟨c, rfl, List.mem_cons_self .., ⟨n, oo, h1, h2.mono (less_in (List.mem_cons_self ..))⟩, ?_, fun i e hi he hs => ?_⟩, .inr ⟨c, rfl, hn⟩⟩
    · obtain ⟨e1, e2⟩ := less_some.mp (S.bs a o h)
      refine less_some.mpr ⟨fun m => ?_, g a o (fun z => e1 (S.env.pm a z)) e2⟩
      rcases List.mem_cons.mp m with z | m
      · rw [z, hn] at e2
        cases e2
      · exact e1 m
    · cases z : H0 c with
      | none => rfl
      | some o =>
        rw [S.gr c o n z] at hn
        cases hn
    · obtain ⟨a, e1, m, _⟩ := S.env.o i e hi he
      rw [hs] at e1
      cases e1
      exact S.env.al c m hn
/-- later, with one more cell or none -/
theorem Held.carry {r : Rm} (h : Held mg K r Γ pot H0 M σ H ρ v d) (pm : ∀ a, pot = some a → a ∈ M) (g : Grow pot H H1) (c : M1 = M ∨ ∃ c, M1 = c :: M ∧ H c = none) : Held mg K r Γ pot H0 M1 σ H1 ρ v d := by
  have sm : ∀ L L1 : List Addr, (∀ a, pot = some a → a ∈ L) → (L1 = L ∨ ∃ c, (∀ a, a ∈ L1 → a = c ∨ a ∈ L) ∧ H c = none) → Same (less H L) (less H1 L1) := fun L L1 hp hl a o e => by
    obtain ⟨e1, e2⟩ := less_some.mp e
    refine less_some.mpr ⟨fun m => ?_, g a o (fun z => e1 (hp a z)) e2⟩
    rcases hl with z | ⟨c, hl, hc⟩
    · exact e1 (by rw [← z]; exact m)
    · rcases hl a m with z | z
      · rw [z, hc] at e2
        cases e2
      · exact e1 z
  cases r with
  | f =>
    refine Rp.mono (sm M M1 pm ?_) h
    rcases c with c | ⟨c, e, hc⟩
    · exact .inl c
    · exact .inr ⟨c, fun a m => by rw [e] at m; exact List.mem_cons.mp m, hc⟩
  | b => trivial
  | t => trivial
  | o =>
    obtain ⟨p, e1, m, ⟨n, oo, h1, h2⟩, h3, h4⟩ := h
    refine ⟨p, e1, ?_, ⟨n, oo, g p _ n h1, h2.mono (sm (p :: M) (p :: M1) (fun a z => List.mem_cons_of_mem _ (pm a z)) ?_)⟩, h3, h4⟩
    · rcases c with c | ⟨c, e, _⟩
      · rw [c]; exact m
      · rw [e]; exact List.mem_cons_of_mem _ m
    · rcases c with c | ⟨c, e, hc⟩
      · exact .inl (by rw [c])
      · refine .inr ⟨c, fun a ma => ?_, hc⟩
        rcases List.mem_cons.mp ma with z | ma
        · exact .inr (by rw [z]; exact List.mem_cons_self ..)
        · rw [e] at ma
          rcases List.mem_cons.mp ma with z | ma
          · exact .inl z
          · exact .inr (List.mem_cons_of_mem _ ma)
theorem set_at {α : Type} {l : List α} {i j : Nat} {a : α} {x : α} (h : (l.set i a)[j]? = some x) : (i = j ∧ x = a ∧ i < l.length) ∨ (i ≠ j ∧ l[j]? = some x) := by
  by_cases e : i = j
  · subst e
    rw [List.getElem?_set] at h
    rw [if_pos rfl] at h
    split at h
    · rename_i hl
      cases h
      exact .inl ⟨rfl, rfl, hl⟩
    · cases h
  · rw [List.getElem?_set_ne e] at h
    exact .inr ⟨e, h⟩
/-- it is put into slot i -/
theorem SOk.put (S : SOk mg K Γ pot M0 H0 B M σ H ρ) {i : Nat} (hi : i < Γ.length) (q : Held mg K r Γ pot H0 M σ H ρ v d) : SOk mg K (Γ.set i r.md) pot M0 H0 B M (σ.set i (some v)) H (ρ.set i (some d)) := by
  have I := S.env
  have hs : i < σ.length := by rw [I.ls]; exact hi
  have hr : i < ρ.length := by rw [I.lr]; exact hi
  refine ⟨⟨by simp [I.ls], by simp [I.lr], fun j e h1 h2 => ?_, fun j e h1 h2 => ?_, fun j h1 => ?_, fun j e h1 h2 => ?_, fun j k a b c h1 h2 h3 h4 h5 h6 => ?_, I.al, I.pm⟩, S.gr, S.sub, fun j e a h1 h2 h3 => ?_, S.m0, S.bs⟩
  · rcases set_at h1 with ⟨rfl, e1, _⟩ | ⟨n, e1⟩
    · rw [List.getElem?_set_self hr] at h2
      cases h2
      refine ⟨v, List.getElem?_set_self hs, ?_⟩
      cases r with
      | f => exact q
      | b => cases e1
      | t => cases e1
      | o => cases e1
    · rw [List.getElem?_set_ne n] at h2 ⊢
      exact I.f j e e1 h2
  · rcases set_at h1 with ⟨rfl, e1, _⟩ | ⟨n, e1⟩
    · rw [List.getElem?_set_self hr] at h2
      cases h2
      cases r with
      | f => cases e1
      | b => cases e1
      | t => cases e1
      | o =>
        obtain ⟨p, rfl, m, o, _⟩ := q
        exact ⟨p, List.getElem?_set_self hs, m, o⟩
    · rw [List.getElem?_set_ne n] at h2 ⊢
      exact I.o j e e1 h2
  · rcases set_at h1 with ⟨rfl, e1, _⟩ | ⟨n, e1⟩
    · cases r <;> cases e1
    · rw [List.getElem?_set_ne n]
      exact I.p j e1
  · rcases set_at h1 with ⟨rfl, e1, _⟩ | ⟨n, e1⟩
    · cases r <;> cases e1
    · rw [List.getElem?_set_ne n] at h2 ⊢
      exact I.s j e e1 h2
  · rcases set_at h1 with ⟨rfl, e1, _⟩ | ⟨n, e1⟩
    · rcases set_at h2 with ⟨rfl, e2, _⟩ | ⟨n2, e2⟩
      · rfl
      · rw [List.getElem?_set_self hs] at h5
        rw [List.getElem?_set_ne n2] at h4 h6
        cases r with
        | f => cases e1
        | b => cases e1
        | t => cases e1
        | o =>
          obtain ⟨p, rfl, m, o, _, hno⟩ := q
          cases h5
          exact absurd h6 (hno k c e2 h4)
    · rcases set_at h2 with ⟨rfl, e2, _⟩ | ⟨n2, e2⟩
      · rw [List.getElem?_set_self hs] at h6
        rw [List.getElem?_set_ne n] at h3 h5
        cases r with
        | f => cases e2
        | b => cases e2
        | t => cases e2
        | o =>
          obtain ⟨p, rfl, m, o, _, hno⟩ := q
          cases h6
          exact absurd h5 (hno j b e1 h3)
      · rw [List.getElem?_set_ne n] at h3 h5
        rw [List.getElem?_set_ne n2] at h4 h6
        exact I.ap j k a b c e1 e2 h3 h4 h5 h6
  · rcases set_at h1 with ⟨rfl, e1, _⟩ | ⟨n, e1⟩
    · rw [List.getElem?_set_self hs] at h3
      cases h3
      cases r with
      | f => cases e1
      | b => cases e1
      | t => cases e1
      | o =>
        obtain ⟨p, ep, m, o, hz, _⟩ := q
        cases ep
        exact hz
    · rw [List.getElem?_set_ne n] at h2 h3
      exact S.ow j e a e1 h2 h3
/-- a held value stays held when another slot is set -/
theorem Held.put {r r' : Rm} {w : V} {e : D} {i : Nat} (h : Held mg K r Γ pot H0 M σ H ρ v d) (h' : Held mg K r' Γ pot H0 M σ H ρ w e) (hn : r = .o → r' = .o → v ≠ w) : Held mg K r (Γ.set i r'.md) pot H0 M (σ.set i (some w)) H (ρ.set i (some e)) v d := by
  cases r with
  | f => exact h
  | b => trivial
  | t => trivial
  | o =>
    obtain ⟨p, e1, m, o, z, hno⟩ := h
    refine ⟨p, e1, m, o, z, fun j f h1 h2 h3 => ?_⟩
    rcases set_at h1 with ⟨rfl, e2, hl⟩ | ⟨n, e2⟩
    · rcases set_at h3 with ⟨_, e3, _⟩ | ⟨n, _⟩
      · cases e3
        cases r' with
        | f => cases e2
        | b => cases e2
        | t => cases e2
        | o => exact hn rfl rfl e1
      · exact n rfl
    · rw [List.getElem?_set_ne n] at h2 h3
      exact hno j f e2 h2 h3
/-- an own list becomes data -/
theorem SOk.freeze (S : SOk mg K Γ pot M0 H0 B M σ H ρ) {i : Nat} (hi : Γ[i]? = some .o) : ∃ M1, SOk mg K (Γ.set i .f) pot M0 H0 B M1 σ H ρ := by
  have I := S.env
  cases er : ρ[i]? with
  | none =>
    have hl := (List.getElem?_eq_some_iff.mp hi).1
    rw [List.getElem?_eq_none_iff, I.lr] at er
    omega
  | some od =>
    cases od with
    | none =>
      refine ⟨M, ⟨by simp [I.ls], by simp [I.lr], fun j e h1 h2 => ?_, fun j e h1 h2 => ?_, fun j h1 => ?_, fun j e h1 h2 => ?_, fun j k a b c h1 h2 h3 h4 h5 h6 => ?_, I.al, I.pm⟩, S.gr, S.sub, fun j e a h1 h2 h3 => ?_, S.m0, S.bs⟩
      · rcases set_at h1 with ⟨rfl, _, _⟩ | ⟨n, e1⟩
        · rw [er] at h2
          cases h2
        · exact I.f j e e1 h2
      · rcases set_at h1 with ⟨_, z, _⟩ | ⟨n, e1⟩
        · cases z
        · exact I.o j e e1 h2
      · rcases set_at h1 with ⟨_, z, _⟩ | ⟨n, e1⟩
        · cases z
        · exact I.p j e1
      · rcases set_at h1 with ⟨_, z, _⟩ | ⟨n, e1⟩
        · cases z
        · exact I.s j e e1 h2
      · rcases set_at h1 with ⟨_, z, _⟩ | ⟨n, e1⟩
        · cases z
        · rcases set_at h2 with ⟨_, z, _⟩ | ⟨n2, e2⟩
          · cases z
          · exact I.ap j k a b c e1 e2 h3 h4 h5 h6
      · rcases set_at h1 with ⟨_, z, _⟩ | ⟨n, e1⟩
        · cases z
        · exact S.ow j e a e1 h2 h3
    | some d =>
      obtain ⟨p, es, m, o⟩ := I.o i d hi er
      have hz := S.ow i d p hi er es
      obtain ⟨np, oo, h1, h2⟩ := o
      have low : Same (less H M) (less H (M.filter fun a => decide (a ≠ p))) := less_sub fun a ha => (List.mem_filter.mp ha).1
      have hp : (less H (M.filter fun a => decide (a ≠ p))) p = some oo := less_some.mpr ⟨fun q => by simpa using (List.mem_filter.mp q).2, h1⟩
      have hM0 : ∀ a ∈ M0, a ≠ p → a ∈ M.filter fun a => decide (a ≠ p) := fun a ha n => List.mem_filter.mpr ⟨S.sub a ha, by simpa using n⟩
      have q0 : p ∉ M0 := fun q => S.m0 p q hz
      · refine ⟨M.filter fun a => decide (a ≠ p), ⟨by simp [I.ls], by simp [I.lr], fun j e g1 g2 => ?_, fun j e g1 g2 => ?_, fun j g1 => ?_, fun j e g1 g2 => ?_, fun j k a b c g1 g2 g3 g4 g5 g6 => ?_, fun a ha => I.al a (List.mem_filter.mp ha).1, fun a ha => List.mem_filter.mpr ⟨I.pm a ha, by simpa using fun z : a = p => np (by rw [ha, z])⟩⟩, S.gr, fun a ha => hM0 a ha fun z => q0 (by rw [← z]; exact ha), fun j e a g1 g2 g3 => ?_, S.m0, fun a o h => low a o (S.bs a o h)⟩
        · rcases set_at g1 with ⟨rfl, _, _⟩ | ⟨n, e1⟩
          · rw [er] at g2
            cases g2
            exact ⟨_, es, HoR.rp hp (h2.mono fun a o e => low a o (less_sub (fun b q => List.mem_cons_of_mem _ q) a o e))⟩
          · obtain ⟨w, w1, w2⟩ := I.f j e e1 g2
            exact ⟨w, w1, w2.mono low⟩
        · rcases set_at g1 with ⟨_, z, _⟩ | ⟨n, e1⟩
          · cases z
          · obtain ⟨a, w1, w2, w3, oj, w5, w6⟩ := I.o j e e1 g2
            refine ⟨a, w1, List.mem_filter.mpr ⟨w2, ?_⟩, w3, oj, w5, w6.mono (less_sub fun b hb => ?_)⟩
            · simpa using fun z : a = p => n (I.ap i j p _ e hi e1 er g2 es (by rw [← z]; exact w1))
            · rcases List.mem_cons.mp hb with z | hb
              · rw [z]
                exact List.mem_cons_self ..
              · exact List.mem_cons_of_mem _ (List.mem_filter.mp hb).1
        · rcases set_at g1 with ⟨_, z, _⟩ | ⟨n, e1⟩
          · cases z
          · exact I.p j e1
        · rcases set_at g1 with ⟨_, z, _⟩ | ⟨n, e1⟩
          · cases z
          · obtain ⟨a, ns, w1, w2, w3⟩ := I.s j e e1 g2
            exact ⟨a, ns, w1, w2, sqL_mono low w3⟩
        · rcases set_at g1 with ⟨_, z, _⟩ | ⟨n, e1⟩
          · cases z
          · rcases set_at g2 with ⟨_, z, _⟩ | ⟨n2, e2⟩
            · cases z
            · exact I.ap j k a b c e1 e2 g3 g4 g5 g6
        · rcases set_at g1 with ⟨_, z, _⟩ | ⟨n, e1⟩
          · cases z
          · exact S.ow j e a e1 g2 g3
end
end DL

set_option maxHeartbeats 2000000
/-! Statements: their rules. -/
namespace DL
open PySem PySem.Spec PyProof.Rows L2

def sNext : Fs := fun ρ π => .ok (.nx ρ, π)
def sSeq (a b : Fs) : Fs := fun ρ π => (a ρ π).bind fun x => match x.1 with
  | .nx ρ1 => b ρ1 x.2
  | .bk ρ1 => .ok (.bk ρ1, x.2)
  | .ct ρ1 => .ok (.ct ρ1, x.2)
  | .rt d => .ok (.rt d, x.2)
def sSet (i : Nat) (fe : Ed) : Fs := fun ρ π => (fe ρ π).bind fun x => .ok (.nx (ρ.set i (some x.1)), x.2)
def sPar (i j : Nat) (fa fb : Ed) : Fs := fun ρ π => (fa ρ π).bind fun x => (fb ρ x.2).bind fun y => .ok (.nx ((ρ.set i (some x.1)).set j (some y.1)), y.2)
def sPar3 (i j l : Nat) (fa fb fc : Ed) : Fs := fun ρ π => (fa ρ π).bind fun x => (fb ρ x.2).bind fun y => (fc ρ y.2).bind fun z => .ok (.nx (((ρ.set i (some x.1)).set j (some y.1)).set l (some z.1)), z.2)
def sUnp (fe : Ed) (fg : D → Rho → Option Rho) : Fs := fun ρ π => (fe ρ π).bind fun x => (ofO (fg x.1 ρ)).bind fun ρ1 => .ok (.nx ρ1, x.2)
def sExpr (fe : Ed) : Fs := fun ρ π => (fe ρ π).bind fun x => .ok (.nx ρ, x.2)
def sRet (fe : Ed) : Fs := fun ρ π => (fe ρ π).bind fun x => .ok (.rt x.1, x.2)
def sRetN : Fs := fun _ π => .ok (.rt .non, π)
def sIf (ft : Et) (a b : Fs) : Fs := fun ρ π => (ft ρ π).bind fun x => if x.1 = true then a ρ x.2 else b ρ x.2
def sBreak : Fs := fun ρ π => .ok (.bk ρ, π)
def sCont : Fs := fun ρ π => .ok (.ct ρ, π)
def sStuck : Fs := fun _ _ => .stuck
def forGo (fg : D → Rho → Option Rho) (fb : Fs) : List D → Rho → Pot → Res (Out × Pot)
  | [], ρ, π => .ok (.nx ρ, π)
  | d :: ds, ρ, π => (ofO (fg d ρ)).bind fun ρ1 => (fb ρ1 π).bind fun y => match y.1 with
    | .nx ρ2 => forGo fg fb ds ρ2 y.2
    | .ct ρ2 => forGo fg fb ds ρ2 y.2
    | .bk ρ2 => .ok (.nx ρ2, y.2)
    | .rt d => .ok (.rt d, y.2)
def sFor (fi : Ei) (fg : D → Rho → Option Rho) (fb : Fs) : Fs := fun ρ π => (fi ρ π).bind fun x => forGo fg fb x.1 ρ x.2
def whileGo (ft : Et) (fb : Fs) : Nat → Rho → Pot → Res (Out × Pot)
  | 0, _, _ => .stuck
  | n + 1, ρ, π => (ft ρ π).bind fun x => if x.1 = true then (fb ρ x.2).bind fun y => (match y.1 with
    | .nx ρ2 => whileGo ft fb n ρ2 y.2
    | .ct ρ2 => whileGo ft fb n ρ2 y.2
    | .bk ρ2 => .ok (.nx ρ2, y.2)
    | .rt d => .ok (.rt d, y.2)) else .ok (.nx ρ, x.2)
def lineW : Nat := 1000000000
def sWhile (ft : Et) (fb : Fs) : Fs := whileGo ft fb lineW

structure DS (X : Cx) (E : XK) (r : Rm) (Γl Γ Γ' : List Md) (st : Stmt) (ts : TS) (fs : Fs) : Prop where
  ps : PS X st ts
  sem : SemS X.mg X.K E r Γl Γ Γ' ts fs
structure DSs (X : Cx) (E : XK) (r : Rm) (Γl Γ Γ' : List Md) (sts : List Stmt) (ts : TS) (fs : Fs) : Prop where
  pss : PSs X sts ts
  sem : SemS X.mg X.K E r Γl Γ Γ' ts fs

section
variable {X : Cx} {E : XK} {r r' ra rb rc : Rm} {Γl Γ Γ1 Γ' : List Md} {pos : Pos} {k : Nat} {e a b c : Expr} {te ta tb tc : TE} {fe fa fb fc : Ed} {st : Stmt} {sts body : List Stmt} {ts us : TS} {fs gs : Fs} {tt : TT} {ft : Et}
theorem dss_nil : DSs X E r Γl Γ Γ [] tNext sNext := ⟨pss_nil, fun pot M0 H0 B M σ H ρ π D S p h => h M σ H S p⟩
theorem dss_one (h : DS X E r Γl Γ Γ' st ts fs) : DSs X E r Γl Γ Γ' [st] ts fs := ⟨pss_one h.ps, h.sem⟩
theorem dss_cons (h : DS X E r Γl Γ Γ1 st ts fs) (h' : DSs X E r Γl Γ1 Γ' sts us gs) : DSs X E r Γl Γ Γ' (st :: sts) (tSeq ts us) (sSeq fs gs) :=
  ⟨pss_cons h.ps h'.pss, fun pot M0 H0 B M σ H ρ π D S p q => by
    refine h.sem pot M0 H0 B M σ H ρ π _ S p ?_
    unfold sSeq at q
    cases ex : fs ρ π with
    | err c ns xs π' =>
      rw [ex] at q
      exact q
    | stuck =>
      rw [ex] at q
      exact q
    | ok x =>
      obtain ⟨o, π1⟩ := x
      rw [ex] at q
      cases o with
      | nx ρ1 => exact fun M1 σ1 H1 S1 p1 => h'.sem pot M0 H0 B M1 σ1 H1 ρ1 π1 D S1 p1 q
      | bk ρ1 => exact q
      | ct ρ1 => exact q
      | rt d => exact q⟩
/-- an own list is data from here on -/
theorem dss_frz (i : Nat) (h : DSs X E r Γl (Γ.set i .f) Γ' sts ts fs) (hΓ : Γ[i]? = some .o := by rfl) : DSs X E r Γl Γ Γ' sts ts fs :=
  ⟨h.pss, fun pot M0 H0 B M σ H ρ π D S p q => by
    obtain ⟨M1, S1⟩ := S.freeze hΓ
    exact h.sem pot M0 H0 B M1 σ H ρ π D S1 p q⟩
theorem ds_pass {p : Pos} : DS X E r Γl Γ Γ (.Pass p) tNext sNext := ⟨ps_pass, fun pot M0 H0 B M σ H ρ π D S p h => h M σ H S p⟩
theorem ds_doc {x : Str} {j : Nat} {p p' : Pos} : DS X E r Γl Γ Γ (.Expr (.Constant (.str x) j p) p') tNext sNext := ⟨ps_doc, fun pot M0 H0 B M σ H ρ π D S p h => h M σ H S p⟩
theorem ds_break {p : Pos} : DS X E r Γ Γ Γ' (.Break p) tBreak sBreak := ⟨ps_break, fun pot M0 H0 B M σ H ρ π D S p h => h M σ H S p⟩
theorem ds_cont {p : Pos} : DS X E r Γ Γ Γ' (.Continue p) tCont sCont := ⟨ps_continue, fun pot M0 H0 B M σ H ρ π D S p h => h M σ H S p⟩
theorem ds_never : DS X E r Γl Γ Γ' st tNever sStuck := ⟨ps_never, fun pot M0 H0 B M σ H ρ π D S p h => h.elim⟩
theorem dss_never : DSs X E r Γl Γ Γ' sts tNever sStuck := ⟨pss_never, fun pot M0 H0 B M σ H ρ π D S p h => h.elim⟩
theorem set_same {l : List Md} {i : Nat} {m : Md} (h : l[i]? = some m) : l.set i m = l := by
  apply List.ext_getElem?
  intro j
  by_cases e : i = j
  · subst e
    rw [List.getElem?_set_self (List.getElem?_eq_some_iff.mp h).1, h]
  · rw [List.getElem?_set_ne e]
/-- x = e -/
theorem sem_set {i : Nat} (hΓ : Γ[i]? = some r'.md) (he : SemE X.mg X.K E r' Γ te fe) : SemS X.mg X.K E r Γl Γ Γ (tAsg te (gName i)) (sSet i fe) := fun pot M0 H0 B M σ H ρ π D S p h => by
  refine PostS.seq (r' := r') (te := te σ H) h S (fun Q' hq => he pot M σ H ρ π S.env p Q' hq) fun d π1 v H1 _ g1 p1 q1 h1 => ?_
  obtain ⟨M1, S1, hd, _⟩ := S.hold g1 p1 q1
  have S2 := S1.put (i := i) (List.getElem?_eq_some_iff.mp hΓ).1 hd
  rw [set_same hΓ] at S2
  exact h1 M1 _ H1 S2 p1
theorem ds_set (i : Nat) {x : Str} {p : Pos} (o : XOk X E k) (he : DE X E r' Γ e te fe) (hΓ : Γ[i]? = some r'.md := by rfl) (hN : X.N[i]? = some x := by rfl) (hx : Loc X.env.scope x := by first | exact Or.inl rfl | exact Or.inr rfl)
    (hs : swapsWith e (some (.Name x p)) pos.line X.env = pure false := by rfl) (hf : X.fn x = true ∨ X.env.scope.names.lookup x = some .local := by first | exact .inl rfl | exact .inr rfl) : DS X E r Γl Γ Γ (.Assign [.Name x p] e pos) (tAsg te (gName i)) (sSet i fe) :=
  ⟨ps_set o.nd hN hx he.pe hs hf, sem_set hΓ he.sem⟩
/-- a, b = e1, e2 -/
theorem ds_par (i j : Nat) {x y : Str} {px py pt : Pos} {kt k2 : Nat} {pt2 : Pos} (o : XOk X E k) (ha : DE X E ra Γ a ta fa) (hb : DE X E rb Γ b tb fb) (hi : Γ[i]? = some ra.md := by rfl) (hj : Γ[j]? = some rb.md := by rfl) (hN : X.N[i]? = some x := by rfl) (hN2 : X.N[j]? = some y := by rfl) (hij : i ≠ j := by decide)
    (hx : X.env.scope.names.lookup x = some .local := by rfl) (hy : X.env.scope.names.lookup y = some .local := by rfl) (hw : swappedStores [.Tuple [.Name x px, .Name y py] kt pt] (.Tuple [a, b] k2 pt2) X.env = pure (some [x, y]) := by rfl)
    (hs : swapsWithSole [.Tuple [.Name x px, .Name y py] kt pt] (.Tuple [a, b] k2 pt2) pos.line X.env = pure false := by rfl) (s1 : starEach [a, b] X.env = (false, eval a X.env) :: starEach [b] X.env := by rfl) (s2 : starEach [b] X.env = (false, eval b X.env) :: starEach [] X.env := by rfl) :
    DS X E r Γl Γ Γ (.Assign [.Tuple [.Name x px, .Name y py] kt pt] (.Tuple [a, b] k2 pt2) pos) (tPar i j (tCons ta (tCons tb tNil))) (sPar i j fa fb) :=
  ⟨ps_par o.calm o.nd hN hN2 hij hx hy (pa_cons ha.pe (pa_cons hb.pe pa_nil s2) s1) hw hs, fun pot M0 H0 B M σ H ρ π D S p h => by
    refine PostS.seq (r' := ra) (te := ta σ H) h S (fun Q' hq => ha.sem pot M σ H ρ π S.env p Q' hq) fun d π1 v H1 _ g1 p1 q1 h1 => ?_
    obtain ⟨M1, S1, hd, _⟩ := S.hold g1 p1 q1
    refine PostS.seq (r' := rb) (te := tb σ H1) h1 S1 (fun Q' hq => hb.sem pot M1 σ H1 ρ π1 S1.env p1 Q' hq) fun e π2 w H2 _ g2 p2 q2 h2 => ?_
    obtain ⟨M2, S2, he, hc⟩ := S1.hold g2 p2 q2
    have hd2 := hd.carry S1.env.pm g2 hc
    have hne : rb = .o → ra = .o → w ≠ v := fun e1 e2 z => by
      subst e1
      subst e2
      obtain ⟨p', e3, m, _⟩ := hd
      obtain ⟨q', e4, hn, _⟩ := q2
      rw [e4, e3] at z
      cases z
      exact S1.env.al _ m hn
    have he2 := he.put hd2 hne (i := i)
    have S3 := S2.put (i := i) (List.getElem?_eq_some_iff.mp hi).1 hd2
    have S4 := S3.put (i := j) (by rw [List.length_set]; exact (List.getElem?_eq_some_iff.mp hj).1) he2
    rw [set_same hi, set_same hj] at S4
    exact ⟨v, w, rfl, h2 M2 _ H2 S4 p2⟩⟩
theorem apart {pot : Option Addr} {σ : L2.St} {ρ : Rho} {H0 : Hp} {M' : List Addr} {H' H'' : Hp} {r1 r2 : Rm} {v w : V} {d e : D} (al : ∀ a ∈ M', H' a ≠ none) (h1 : Held X.mg X.K r1 Γ pot H0 M' σ H' ρ v d) (h2 : RpR X.mg X.K r2 pot M' H' H'' w e) : r2 = .o → r1 = .o → w ≠ v := fun e1 e2 z => by
  subst e1
  subst e2
  obtain ⟨p', e3, m, _⟩ := h1
  obtain ⟨q', e4, hn, _⟩ := h2
  rw [e4, e3] at z
  cases z
  exact al _ m hn
theorem ds_par3 (i j l : Nat) {x y z : Str} {px py pz pt : Pos} {kt k2 : Nat} {pt2 : Pos} (o : XOk X E k) (ha : DE X E ra Γ a ta fa) (hb : DE X E rb Γ b tb fb) (hc : DE X E rc Γ c tc fc) (hi : Γ[i]? = some ra.md := by rfl) (hj : Γ[j]? = some rb.md := by rfl) (hl : Γ[l]? = some rc.md := by rfl)
    (hN : X.N[i]? = some x := by rfl) (hN2 : X.N[j]? = some y := by rfl) (hN3 : X.N[l]? = some z := by rfl) (hij : i ≠ j := by decide) (hil : i ≠ l := by decide) (hjl : j ≠ l := by decide)
    (hx : X.env.scope.names.lookup x = some .local := by rfl) (hy : X.env.scope.names.lookup y = some .local := by rfl) (hz : X.env.scope.names.lookup z = some .local := by rfl)
    (hw : swappedStores [.Tuple [.Name x px, .Name y py, .Name z pz] kt pt] (.Tuple [a, b, c] k2 pt2) X.env = pure (some [x, y, z]) := by rfl)
    (hs : swapsWithSole [.Tuple [.Name x px, .Name y py, .Name z pz] kt pt] (.Tuple [a, b, c] k2 pt2) pos.line X.env = pure false := by rfl) (s1 : starEach [a, b, c] X.env = (false, eval a X.env) :: starEach [b, c] X.env := by rfl) (s2 : starEach [b, c] X.env = (false, eval b X.env) :: starEach [c] X.env := by rfl)
    (s3 : starEach [c] X.env = (false, eval c X.env) :: starEach [] X.env := by rfl) :
    DS X E r Γl Γ Γ (.Assign [.Tuple [.Name x px, .Name y py, .Name z pz] kt pt] (.Tuple [a, b, c] k2 pt2) pos) (tPar3 i j l (tCons ta (tCons tb (tCons tc tNil)))) (sPar3 i j l fa fb fc) :=
  ⟨ps_par3 o.calm o.nd hN hN2 hN3 hij hil hjl hx hy hz (pa_cons ha.pe (pa_cons hb.pe (pa_cons hc.pe pa_nil s3) s2) s1) hw hs, fun pot M0 H0 B M σ H ρ π D S p h => by
    refine PostS.seq (r' := ra) (te := ta σ H) h S (fun Q' hq => ha.sem pot M σ H ρ π S.env p Q' hq) fun d π1 v H1 _ g1 p1 q1 h1 => ?_
    obtain ⟨M1, S1, hd, _⟩ := S.hold g1 p1 q1
    refine PostS.seq (r' := rb) (te := tb σ H1) h1 S1 (fun Q' hq => hb.sem pot M1 σ H1 ρ π1 S1.env p1 Q' hq) fun e π2 w H2 _ g2 p2 q2 h2 => ?_
    obtain ⟨M2, S2, he, hc2⟩ := S1.hold g2 p2 q2
    have hd2 := hd.carry S1.env.pm g2 hc2
    refine PostS.seq (r' := rc) (te := tc σ H2) h2 S2 (fun Q' hq => hc.sem pot M2 σ H2 ρ π2 S2.env p2 Q' hq) fun f π3 u H3 _ g3 p3 q3 h3 => ?_
    obtain ⟨M3, S3, hf, hc3⟩ := S2.hold g3 p3 q3
    have hd3 := hd2.carry S2.env.pm g3 hc3
    have he3 := he.carry S2.env.pm g3 hc3
    have n1 := apart S1.env.al hd q2
    have n2 := apart S2.env.al hd2 q3
    have n3 := apart S2.env.al he q3
    have S4 := S3.put (i := i) (List.getElem?_eq_some_iff.mp hi).1 hd3
    have he4 := he3.put hd3 n1 (i := i)
    have hf4 := hf.put hd3 n2 (i := i)
    have S5 := S4.put (i := j) (by rw [List.length_set]; exact (List.getElem?_eq_some_iff.mp hj).1) he4
    have hf5 := hf4.put he4 n3 (i := j)
    have S6 := S5.put (i := l) (by rw [List.length_set, List.length_set]; exact (List.getElem?_eq_some_iff.mp hl).1) hf5
    rw [set_same hi, set_same hj, set_same hl] at S6
    exact ⟨v, w, u, rfl, h3 M3 _ H3 S6 p3⟩⟩
/-- a, b = e: a tuple's items -/
theorem ds_unp {tg : Expr} {is : List Nat} {g : TG} {fg : D → Rho → Option Rho} (he : DE X E .f Γ e te fe) (hg : DG X Γ tg is g fg) (h1 : swapsWithSole [tg] e pos.line X.env = pure false := by rfl) (h2 : swappedStores [tg] e X.env = pure none := by rfl)
    (h3 : (assignEach [tg] X.env).map (·.2) = [assign tg X.env] := by rfl) : DS X E r Γl Γ Γ (.Assign [tg] e pos) (tAsg te g) (sUnp fe fg) :=
  ⟨ps_asg he.pe hg.pg h1 h2 h3, fun pot M0 H0 B M σ H ρ π D S p h => by
    refine PostS.seq (r' := .f) (te := te σ H) h S (fun Q' hq => he.sem pot M σ H ρ π S.env p Q' hq) fun d π1 v H1 _ g1 p1 q1 h1 => ?_
    have S1 := S.grow g1 p1
    cases e1 : fg d ρ with
    | none =>
      rw [e1] at h1
      exact h1.elim
    | some ρ1 =>
      rw [e1] at h1
      refine hg.sem pot M σ H1 ρ v d S1.env q1 ρ1 e1 _ fun σ1 I1 s1 s2 => h1 M σ1 H1 ⟨I1, S1.gr, S1.sub, fun j e a w1 w2 w3 => ?_, S1.m0, S1.bs⟩ p1
      have nj : j ∉ is := fun z => by
        rw [hg.fs j z] at w1
        cases w1
      rw [s1 j nj] at w3
      rw [s2 j nj] at w2
      exact S.ow j e a w1 w2 w3⟩
theorem ds_expr (he : DE X E r' Γ e te fe) (hs : swapsWith e none pos.line X.env = pure false := by rfl) : DS X E r Γl Γ Γ (.Expr e pos) (tDrop te) (sExpr fe) :=
  ⟨ps_expr he.pe hs, fun pot M0 H0 B M σ H ρ π D S p h => by
    refine PostS.seq (r' := r') (te := te σ H) h S (fun Q' hq => he.sem pot M σ H ρ π S.env p Q' hq) fun d π1 v H1 _ g1 p1 q1 h1 => ?_
    exact h1 M σ H1 (S.grow g1 p1) p1⟩
theorem RpR.out {pot : Option Addr} {M0 M : List Addr} {H0 H H1 B : Hp} {σ : L2.St} {ρ : Rho} {v : V} {d : D} (S : SOk X.mg X.K Γ pot M0 H0 B M σ H ρ) (hr : r = .f ∨ r = .o) (q : RpR X.mg X.K r pot M H H1 v d) : RpR X.mg X.K r pot M0 H0 H1 v d := by
  rcases hr with rfl | rfl
  · exact Rp.mono (less_sub S.sub) q
  · obtain ⟨p, e, hn, n, oo, h1, h2⟩ := q
    refine ⟨p, e, ?_, n, oo, h1, h2.mono (less_sub fun a ha => ?_)⟩
    · cases z : H0 p with
      | none => rfl
      | some o =>
        rw [S.gr p o n z] at hn
        cases hn
    · rcases List.mem_cons.mp ha with z | ha
      · rw [z]
        exact List.mem_cons_self ..
      · exact List.mem_cons_of_mem _ (S.sub a ha)
theorem ds_ret (he : DE X E r Γ e te fe) (hr : r = .f ∨ r = .o := by first | exact .inl rfl | exact .inr rfl) : DS X E r Γl Γ Γ' (.Return (some e) pos) (tRet te) (sRet fe) :=
  ⟨ps_ret he.pe, fun pot M0 H0 B M σ H ρ π D S p h => by
    refine PostS.seq (r' := r) (te := te σ H) h S (fun Q' hq => he.sem pot M σ H ρ π S.env p Q' hq) fun d π1 v H1 _ g1 p1 q1 h1 => ?_
    exact h1 v H1 (S.gr.trans g1) p1 (q1.out S hr)⟩
/-- an own list is handed back, as a new one -/
theorem ds_reto (i : Nat) {x : Str} {p : Pos} (hN : X.N[i]? = some x := by rfl) (hv : Vis X.env.scope x := by first | exact Or.inl rfl | exact Or.inr (Or.inl rfl) | exact Or.inr (Or.inr rfl)) (hΓ : Γ[i]? = some .o := by rfl)
    (hd : (x == ("__debug__" : Str)) = false := by decide) (hcd : (x == ("__classdict__" : Str)) = false := by decide) : DS X E .o Γl Γ Γ' (.Return (some (.Name x p)) pos) (tRet (tVar i)) (sRet (eVar i)) :=
  ⟨ps_ret (pe_var hN hv hd hcd), fun pot M0 H0 B M σ H ρ π D S p h => by
    unfold sRet eVar at h
    cases er : ρ[i]? with
    | none =>
      rw [er] at h
      exact h.elim
    | some od =>
      cases od with
      | none =>
        rw [er] at h
        exact h.elim
      | some d =>
        rw [er] at h
        obtain ⟨q, e1, m, n, oo, h1, h2⟩ := S.env.o i d hΓ er
        refine ⟨_, e1, h _ H S.gr p ⟨q, rfl, S.ow i d q hΓ er e1, n, oo, h1, h2.mono (less_sub fun a ha => ?_)⟩⟩
        rcases List.mem_cons.mp ha with z | ha
        · rw [z]
          exact List.mem_cons_self ..
        · exact List.mem_cons_of_mem _ (S.sub a ha)⟩
theorem ds_retN : DS X E .f Γl Γ Γ' (.Return none pos) tRetN sRetN := ⟨ps_retN, fun pot M0 H0 B M σ H ρ π D S p h => h _ H S.gr p .non⟩
theorem ds_if (hc : DT X E Γ c tt ft) (ha : DSs X E r Γl Γ Γ' body ts fs) (hb : DSs X E r Γl Γ Γ' sts us gs) : DS X E r Γl Γ Γ' (.If c body sts pos) (tIfS tt ts us) (sIf ft fs gs) :=
  ⟨ps_if hc.pt ha.pss hb.pss, fun pot M0 H0 B M σ H ρ π D S p h => by
    refine PostS.seqT (te := tt σ H) h S (fun Q' hq => hc.sem pot M σ H ρ π S.env p Q' hq) fun d π1 H1 _ g1 p1 h1 => ?_
    cases d with
    | true => exact ha.sem pot M0 H0 B M σ H1 ρ π1 D (S.grow g1 p1) p1 h1
    | false => exact hb.sem pot M0 H0 B M σ H1 ρ π1 D (S.grow g1 p1) p1 h1⟩
end
end DL

set_option maxHeartbeats 2000000
/-! Statements that change a list; loops; the pot. -/
namespace DL
open PySem PySem.Spec PyProof.Rows L2

section
variable {mg : Str → Option Value} {K : PySem.W.Frag} {pot : Option Addr} {M M0 M1 : List Addr} {H H0 H1 H2 B : Hp} {π π1 : Pot} {Γ Γl Γ' : List Md} {σ : L2.St} {ρ : Rho} {v : V} {d : D} {r : Rm} {E : XK}
theorem less_upd {p : Addr} {o : HO} (h : p ∈ M) : Same (less H M) (less (upd H p o) M) := fun a u e => by
  obtain ⟨e1, e2⟩ := less_some.mp e
  refine less_some.mpr ⟨e1, ?_⟩
  rw [upd_ne (fun z => e1 (by rw [z]; exact h))]
  exact e2
theorem SOk.mut (S : SOk mg K Γ pot M0 H0 B M σ H ρ) {i : Nat} {p : Addr} {o' : HO} {d' : D} (hi : Γ[i]? = some .o) (er : ρ[i]? = some (some d)) (es : σ[i]? = some (some (.ref p))) (q : HoR mg K (less H M) o' d') :
    SOk mg K Γ pot M0 H0 B M σ (upd H p o') (ρ.set i (some d')) := by
  have I := S.env
  obtain ⟨p', e1, m, n, oo, h1, h2⟩ := I.o i d hi er
  have ep : p' = p := by
    rw [es] at e1
    cases e1
    rfl
  subst ep
  have hr : i < ρ.length := (List.getElem?_eq_some_iff.mp er).1
  have hz := S.ow i d p' hi er es
  refine ⟨⟨I.ls, by simp [I.lr], fun j e g1 g2 => ?_, fun j e g1 g2 => ?_, I.p, fun j e g1 g2 => ?_, fun j k a b c g1 g2 g3 g4 g5 g6 => ?_, fun a ha => ?_, I.pm⟩, fun a o g1 g2 => ?_, S.sub, fun j e a g1 g2 g3 => ?_, S.m0, fun a o e => less_upd m a o (S.bs a o e)⟩
  · have nij : i ≠ j := fun z => by rw [← z, hi] at g1; cases g1
    rw [List.getElem?_set_ne nij] at g2
    obtain ⟨w, w1, w2⟩ := I.f j e g1 g2
    exact ⟨w, w1, w2.mono (less_upd m)⟩
  · rcases set_at g2 with ⟨rfl, e3, _⟩ | ⟨nij, e3⟩
    · cases e3
      exact ⟨p', es, m, n, o', upd_same, (q.mono (less_in m)).mono (less_upd (List.mem_cons_self ..))⟩
    · obtain ⟨a, w1, w2, w3, oj, w5, w6⟩ := I.o j e g1 e3
      have na : a ≠ p' := fun z => nij (I.ap i j p' d e hi g1 er e3 es (by rw [← z]; exact w1))
      exact ⟨a, w1, w2, w3, oj, by rw [upd_ne na]; exact w5, w6.mono (less_upd (List.mem_cons_of_mem _ m))⟩
  · have nij : i ≠ j := fun z => by rw [← z, hi] at g1; cases g1
    rw [List.getElem?_set_ne nij] at g2
    obtain ⟨a, ns, w1, w2, w3⟩ := I.s j e g1 g2
    exact ⟨a, ns, w1, w2, sqL_mono (less_upd m) w3⟩
  · have s3 : ∃ b', ρ[j]? = some (some b') := by
      rcases set_at g3 with ⟨z, _, _⟩ | ⟨_, z⟩
      · exact ⟨d, by rw [← z]; exact er⟩
      · exact ⟨b, z⟩
    have s4 : ∃ b', ρ[k]? = some (some b') := by
      rcases set_at g4 with ⟨z, _, _⟩ | ⟨_, z⟩
      · exact ⟨d, by rw [← z]; exact er⟩
      · exact ⟨c, z⟩
    obtain ⟨b1, s3⟩ := s3
    obtain ⟨b2, s4⟩ := s4
    exact I.ap j k a b1 b2 g1 g2 s3 s4 g5 g6
  · by_cases z : a = p'
    · rw [z, upd_same]
      simp
    · rw [upd_ne z]
      exact I.al a ha
  · have z : a ≠ p' := fun z => by
      rw [z, hz] at g2
      cases g2
    rw [upd_ne z]
    exact S.gr a o g1 g2
  · rcases set_at g2 with ⟨rfl, e3, _⟩ | ⟨nij, e3⟩
    · exact S.ow i d a hi er g3
    · exact S.ow j e a g1 e3 g3
theorem PotAt.mut {p : Addr} {o : HO} (h : PotAt pot H π) (n : pot ≠ some p) : PotAt pot (upd H p o) π := fun a e => by
  rw [upd_ne (fun z => n (by rw [e, z]))]
  exact h a e
/-- the pot turns -/
theorem SOk.potset (S : SOk mg K Γ pot M0 H0 B M σ H ρ) {p : Addr} (e : pot = some p) (a b : Int) : SOk mg K Γ pot M0 H0 B M σ (upd H p (.lst [.int a, .int b])) ρ :=
  S.grow (π := (a, b)) (fun x o n h => by
    rw [upd_ne (fun z => n (by rw [e, z]))]
    exact h) fun x h => by
    rw [e] at h
    cases h
    exact upd_same
end

/-! the meanings -/
def sMut (i : Nat) (fe : Ed) (f : D → List D → Option (List D)) : Fs := fun ρ π => match ρ[i]? with
  | some (some (.lst ds)) => (fe ρ π).bind fun x => (ofO (f x.1 ds)).bind fun es => .ok (.nx (ρ.set i (some (.lst es))), x.2)
  | _ => .stuck
def sMut2 (i : Nat) (fk fe : Ed) (f : D → D → List D → Option (List D)) : Fs := fun ρ π => match ρ[i]? with
  | some (some (.lst ds)) => (fk ρ π).bind fun y => (fe ρ y.2).bind fun x => (ofO (f y.1 x.1 ds)).bind fun es => .ok (.nx (ρ.set i (some (.lst es))), x.2)
  | _ => .stuck
def appD (e : D) (ds : List D) : Option (List D) := if ds.length < sizeLine then some (ds ++ [e]) else none
def extD (e : D) (ds : List D) : Option (List D) := match e with
  | .lst es => if ds.length + es.length ≤ sizeLine then some (ds ++ es) else none
  | _ => none
/-- the value, then the place -/
def setD (v k : D) (ds : List D) : Option (List D) := match k with
  | .int n => (ixN ds.length n).map fun j => ds.set j v
  | _ => none
def sApp (i : Nat) (fe : Ed) : Fs := sMut i fe appD
def sExt (i : Nat) (fe : Ed) : Fs := sMut i fe extD
def sSetIx (i : Nat) (fe fk : Ed) : Fs := sMut2 i fe fk setD
def intAt (ds : List D) (k : D) : Option (Nat × Int) := match k with
  | .int m => if 0 ≤ m ∧ m < 4611686018427387904 then (match ds[m.toNat]? with
    | some (.int x) => some (m.toNat, x)
    | _ => none) else none
  | _ => none
def sAugIx (i : Nat) (g : Int → Int → Int) (fk fe : Ed) : Fs := fun ρ π => match ρ[i]? with
  | some (some (.lst ds)) => (fk ρ π).bind fun y => (ofO (intAt ds y.1)).bind fun a => (fe ρ y.2).bind fun x => match x.1 with
    | .int b => .ok (.nx (ρ.set i (some (.lst (ds.set a.1 (.int (g a.2 b)))))), x.2)
    | _ => .stuck
  | _ => .stuck
def sAug (i : Nat) (g : Int → Int → Int) (fe : Ed) : Fs := fun ρ π => match ρ[i]? with
  | some (some (.int a)) => (fe ρ π).bind fun x => match x.1 with
    | .int b => .ok (.nx (ρ.set i (some (.int (g a b)))), x.2)
    | _ => .stuck
  | _ => .stuck
def ePot0 : Ed := fun _ π => .ok (.int π.1, π)
def ePot1 : Ed := fun _ π => .ok (.int π.2, π)
def sPot1 (fe : Ed) : Fs := fun ρ π => (fe ρ π).bind fun x => match x.1 with
  | .int n => .ok (.nx ρ, (x.2.1, n))
  | _ => .stuck
def divOk (i j : Int) : Bool := decide (0 < j) && !Builtin.divisionGoesByPylong i j
def sPotDm (j : Nat) (fe : Ed) : Fs := fun ρ π => (fe ρ π).bind fun x => match x.1 with
  | .int n => if divOk π.1 n then .ok (.nx (ρ.set j (some (.int (π.1 % n)))), (π.1 / n, x.2.2)) else .stuck
  | _ => .stuck

section
variable {X : Cx} {E : XK} {r r' ra rb rc : Rm} {Γl Γ Γ1 Γ' : List Md} {pos : Pos} {k : Nat} {e a b c : Expr} {te ta tb tc ti : TE} {fe fa fb fc fk : Ed} {st : Stmt} {sts body : List Stmt} {ts us : TS} {fs gs : Fs} {tt : TT} {ft : Et}
theorem own_at {pot : Option Addr} {M M0 : List Addr} {H H0 B : Hp} {σ : L2.St} {ρ : Rho} {i : Nat} {ds : List D} (S : SOk X.mg X.K Γ pot M0 H0 B M σ H ρ) (hΓ : Γ[i]? = some .o) (er : ρ[i]? = some (some (.lst ds))) :
    ∃ p xs, σ[i]? = some (some (.ref p)) ∧ pot ≠ some p ∧ H p = some (.lst xs) ∧ RpL X.mg X.K (less H M) xs ds := by
  obtain ⟨p, e1, m, n, oo, h1, h2⟩ := S.env.o i _ hΓ er
  cases h2 with
  | lst h2 => exact ⟨p, _, e1, n, h1, h2.mono (less_sub fun a q => List.mem_cons_of_mem _ q)⟩
/-- x.append(e), x.extend(e) -/
theorem sem_mut {i : Nat} {f : D → List D → Option (List D)} {rm : V → List V → Hp → VK → Prop} {ra : Rm} (hΓ : Γ[i]? = some .o) (he : SemE X.mg X.K E ra Γ te fe)
    (ho : ∀ (pot : Option Addr) (M : List Addr) (H : Hp) (p : Addr) (xs : List V) (y : V) (ds : List D) (d : D) (es : List D), H p = some (.lst xs) → RpL X.mg X.K (less H M) xs ds → (ra = .f → Rp X.mg X.K (less H M) y d) → Rb X.mg X.K pot M H y d → f d ds = some es →
      ∃ ys, RpL X.mg X.K (less H M) ys es ∧ ∀ Q : VK, Q .non (upd H p (.lst ys)) → rm (.ref p) [y] H Q) : SemS X.mg X.K E r Γl Γ Γ (tDrop (tBM X.K "list" rm (tVar i) (tCons te tNil))) (sMut i fe f) := fun pot M0 H0 B M σ H ρ π D' S p h => by
  unfold sMut at h
  split at h
  · rename_i ds er
    obtain ⟨c, xs, e1, n, h1, r1⟩ := own_at S hΓ er
    refine ⟨.ref c, e1, .inl ⟨rfl, xs, .inl (.inl h1)⟩, ?_⟩
    refine PostS.seq (r' := ra) (te := te σ H) h S (fun Q' hq => he pot M σ H ρ π S.env p Q' hq) fun d π1 v H1 _ g1 p1 q1 h2 => ?_
    have S1 := S.grow g1 p1
    cases ef : f d ds with
    | none =>
      rw [ef] at h2
      exact h2.elim
    | some es =>
      rw [ef] at h2
      obtain ⟨ys, r2, hQ⟩ := ho pot M H1 c xs v ds d es (g1 c _ n h1) (r1.mono (less_grow S.env.pm g1)) (fun z => by subst z; exact q1) q1.toB ef
      exact hQ _ (h2 M σ _ (S1.mut hΓ er e1 (.lst r2)) (p1.mut n))
  · exact h.elim
abbrev BmOk (X : Cx) (x : Str) (nm : Str) (e : Expr) (p apos cpos pos : Pos) : Prop :=
  attributeBase (.Name x p) nm X.env (eval (.Name x p) X.env) = eval (.Name x p) X.env ∧
  ((((backTo cpos (starEach [e] X.env)).all fun x => !x.fst) && (backToKw cpos (keywordEach [] X.env)).all fun x => x.fst.isSome) && decide (([e].length + ([] : List Expr).length + if ([] : List Expr).isEmpty = true then 0 else 1) < 30)) = true ∧
  (apos.endLine == cpos.line) = true ∧ starEach [e] X.env = (false, eval e X.env) :: starEach [] X.env ∧ ((backTo cpos (starEach [] X.env)).any fun x => x.fst) = false ∧
  swapsWith (.Call (.Attribute (.Name x p) nm apos) [e] [] cpos) none pos.line X.env = pure false
theorem ds_app (i : Nat) {x : Str} {p apos cpos : Pos} (he : DE X E .f Γ e te fe) (hΓ : Γ[i]? = some .o := by rfl) (hN : X.N[i]? = some x := by rfl) (hv : Vis X.env.scope x := by first | exact Or.inl rfl | exact Or.inr (Or.inl rfl) | exact Or.inr (Or.inr rfl))
    (hd : (x == ("__debug__" : Str)) = false := by decide) (hcd : (x == ("__classdict__" : Str)) = false := by decide) (hb : BmOk X x "append" e p apos cpos pos := by exact ⟨rfl, rfl, rfl, rfl, rfl, rfl⟩) :
    DS X E r Γl Γ Γ (.Expr (.Call (.Attribute (.Name x p) "append" apos) [e] [] cpos) pos) (tDrop (tBM X.K "list" rAppend (tVar i) (tCons te tNil))) (sApp i fe) :=
  ⟨ps_expr (pe_bm PySem.F.plainAttrs_list PySem.F.slot_list_append PySem.F.type_list_append mt_append (pe_var hN hv hd hcd) (pa_cons he.pe pa_nil hb.2.2.2.1) hb.1 hb.2.1 hb.2.2.1 hb.2.2.2.1 hb.2.2.2.2.1) hb.2.2.2.2.2,
    sem_mut (ra := .f) hΓ he.sem fun pot M H p xs y ds d es h1 r1 q1 _ ef => by
      unfold appD at ef
      split at ef
      · rename_i hl
        cases ef
        exact ⟨xs ++ [y], r1.append (.cons (q1 rfl) .nil), fun Q q => ⟨p, xs, y, rfl, rfl, h1, by rw [r1.length]; exact hl, q⟩⟩
      · cases ef⟩
theorem ds_ext (i : Nat) {x : Str} {p apos cpos : Pos} (he : DE X E r' Γ e te fe) (hΓ : Γ[i]? = some .o := by rfl) (hN : X.N[i]? = some x := by rfl) (hv : Vis X.env.scope x := by first | exact Or.inl rfl | exact Or.inr (Or.inl rfl) | exact Or.inr (Or.inr rfl))
    (hd : (x == ("__debug__" : Str)) = false := by decide) (hcd : (x == ("__classdict__" : Str)) = false := by decide) (hb : BmOk X x "extend" e p apos cpos pos := by exact ⟨rfl, rfl, rfl, rfl, rfl, rfl⟩) :
    DS X E r Γl Γ Γ (.Expr (.Call (.Attribute (.Name x p) "extend" apos) [e] [] cpos) pos) (tDrop (tBM X.K "list" rExtend (tVar i) (tCons te tNil))) (sExt i fe) :=
  ⟨ps_expr (pe_bm PySem.F.plainAttrs_list PySem.F.slot_list_extend PySem.F.type_list_extend mt_extend (pe_var hN hv hd hcd) (pa_cons he.pe pa_nil hb.2.2.2.1) hb.1 hb.2.1 hb.2.2.1 hb.2.2.2.1 hb.2.2.2.2.1) hb.2.2.2.2.2,
    sem_mut (ra := r') hΓ he.sem fun pot M H p xs y ds d es h1 r1 _ q1 ef => by
      unfold extD at ef
      split at ef
      · rename_i fs
        split at ef
        · rename_i hl
          cases ef
          obtain ⟨b, zs, rfl, hB, r2⟩ := rb_lst q1
          exact ⟨xs ++ zs, r1.append r2, fun Q q => ⟨p, b, xs, zs, rfl, rfl, h1, hB, by rw [r1.length, r2.length]; exact hl, q⟩⟩
        · cases ef
      · cases ef⟩
theorem RpL.setAt {mg : Str → Option Value} {K : PySem.W.Frag} {H : Hp} {vs : List V} {ds : List D} {j : Nat} {v : V} {d : D} (r : RpL mg K H vs ds) (q : Rp mg K H v d) : RpL mg K H (vs.set j v) (ds.set j d) := r.set j q
/-- x[k] = e -/
theorem ds_setix (i : Nat) {x : Str} {p p2 : Pos} {kx : Expr} (he : DE X E .f Γ e te fe) (hk : DE X E .f Γ kx ti fk) (hΓ : Γ[i]? = some .o := by rfl) (hN : X.N[i]? = some x := by rfl) (hv : Vis X.env.scope x := by first | exact Or.inl rfl | exact Or.inr (Or.inl rfl) | exact Or.inr (Or.inr rfl))
    (hd : (x == ("__debug__" : Str)) = false := by decide) (hcd : (x == ("__classdict__" : Str)) = false := by decide)
    (ha : ∀ v, assign (.Subscript (.Name x p) kx p2) X.env v = (do let ov ← holding [v] (eval (.Name x p) X.env); let iv ← holding [v, ov] (eval kx X.env); standAt p2; holding [v, ov, iv] (setItem ov iv v); release [v, ov, iv] []) := by intro _; rfl)
    (h1 : swapsWithSole [.Subscript (.Name x p) kx p2] e pos.line X.env = pure false := by rfl) (h2 : swappedStores [.Subscript (.Name x p) kx p2] e X.env = pure none := by rfl) (h3 : (assignEach [.Subscript (.Name x p) kx p2] X.env).map (·.2) = [assign (.Subscript (.Name x p) kx p2) X.env] := by rfl) :
    DS X E r Γl Γ Γ (.Assign [.Subscript (.Name x p) kx p2] e pos) (tAsg te (gSub (tVar i) ti rSetL)) (sSetIx i fe fk) :=
  ⟨ps_asg he.pe (pg_sub (pe_var hN hv hd hcd) hk.pe set_list ha) h1 h2 h3, fun pot M0 H0 B M σ H ρ π D' S p h => by
    unfold sSetIx sMut2 at h
    split at h
    · rename_i ds er
      obtain ⟨c, xs, e1, n, hc, r1⟩ := own_at S hΓ er
      refine PostS.seq (r' := .f) (te := te σ H) h S (fun Q' hq => he.sem pot M σ H ρ π S.env p Q' hq) fun d π1 v H1 _ g1 p1 q1 h1 => ?_
      have S1 := S.grow g1 p1
      refine ⟨.ref c, e1, ?_⟩
      refine PostS.seq (r' := .f) (te := ti σ H1) h1 S1 (fun Q' hq => hk.sem pot M σ H1 ρ π1 S1.env p1 Q' hq) fun kd π2 kv H2 _ g2 p2 q2 h2 => ?_
      have S2 := S1.grow g2 p2
      have g12 := g1.trans g2
      cases ef : setD d kd ds with
      | none =>
        rw [ef] at h2
        exact h2.elim
      | some es =>
        rw [ef] at h2
        cases kd with
        | int m =>
          simp only [setD, Option.map_eq_some_iff] at ef
          obtain ⟨j, hj, rfl⟩ := ef
          cases rb_int (.inl q2 : Rb X.mg X.K pot M H2 kv (.int m))
          have r2 : RpL X.mg X.K (less H2 M) (xs.set j v) (ds.set j d) := (r1.mono (less_grow S.env.pm g12)).set j (q1.mono (less_grow S.env.pm g2))
          exact ⟨c, xs, m, j, rfl, rfl, g12 c _ n hc, by rw [r1.length]; exact hj, h2 M σ _ (S2.mut hΓ er e1 (.lst r2)) (p2.mut n)⟩
        | _ => cases ef
    · exact h.elim⟩
/-- an item at a place from 0 on -/
def rGet0 : V → V → Hp → VK → Prop := fun o i H Q => ∃ p xs n v, o = .ref p ∧ i = .int n ∧ H p = some (.lst xs) ∧ 0 ≤ n ∧ n < 4611686018427387904 ∧ xs[n.toNat]? = some v ∧ Q v H
theorem pget_list : PGet X rGet0 := fun pins s σ H o i ov iv Q I ro ri h => by
  obtain ⟨p, xs, n, v, rfl, rfl, hq, h0, h1, hx, q⟩ := h
  cases ro
  obtain ⟨t, rfl⟩ := ri
  obtain ⟨its, rv, pl, hz⟩ := I.list (.inl (.inl hq))
  obtain ⟨u, hu, ru⟩ := rv.get hx
  exact wpAny_getItem_list pl.isList h0 (by omega) (by simpa using hu) ⟨v, H, I, ru, q⟩
/-- x[k] += e, of ints -/
theorem ds_augix (i : Nat) {x : Str} {p p2 : Pos} {kx : Expr} {op : Operator} {g : Int → Int → Int} (ho : PIp X op (ipI g)) (hk : DE X E .f Γ kx ti fk) (he : DE X E .f Γ e te fe) (hΓ : Γ[i]? = some .o := by rfl) (hN : X.N[i]? = some x := by rfl) (hv : Vis X.env.scope x := by first | exact Or.inl rfl | exact Or.inr (Or.inl rfl) | exact Or.inr (Or.inr rfl))
    (hd : (x == ("__debug__" : Str)) = false := by decide) (hcd : (x == ("__classdict__" : Str)) = false := by decide)
    (ha : ∀ ov iv new, augStore kx ov iv new = (do holding [new, ov, iv] (setItem ov iv new); release [new, ov, iv] []; pure .next) := by intro _ _ _; rfl) :
    DS X E r Γl Γ Γ (.AugAssign (.Subscript (.Name x p) kx p2) op e pos) (tAugS (tVar i) ti te rGet0 (ipI g) rSetL) (sAugIx i g fk fe) :=
  ⟨ps_augS (pe_var hN hv hd hcd) hk.pe pget_list he.pe ho set_list ha, fun pot M0 H0 B M σ H ρ π D' S p h => by
    unfold sAugIx at h
    split at h
    · rename_i ds er
      obtain ⟨c, xs, e1, n, hc, r1⟩ := own_at S hΓ er
      refine ⟨.ref c, e1, ?_⟩
      refine PostS.seq (r' := .f) (te := ti σ H) h S (fun Q' hq => hk.sem pot M σ H ρ π S.env p Q' hq) fun kd π1 kv H1 ek g1 p1 q1 h1 => ?_
      have S1 := S.grow g1 p1
      cases ei : intAt ds kd with
      | none =>
        rw [ei] at h1
        exact h1.elim
      | some a =>
        obtain ⟨j, a⟩ := a
        rw [ei] at h1
        unfold intAt at ei
        split at ei
        · rename_i m
          split at ei
          · rename_i hm
            split at ei
            · rename_i w ed
              cases ei
              cases rb_int (.inl q1 : Rb X.mg X.K pot M H1 kv (.int m))
              obtain ⟨v0, hv0, rv0⟩ := r1.get ed
              cases rb_int (.inl rv0 : Rb X.mg X.K pot M H v0 (.int a))
              refine ⟨c, xs, m, .int a, rfl, rfl, g1 c _ n hc, hm.1, hm.2, hv0, ?_⟩
              refine PostS.seq (r' := .f) (te := te σ H1) h1 S1 (fun Q' hq => he.sem pot M σ H1 ρ π1 S1.env p1 Q' hq) fun d π2 v H2 _ g2 p2 q2 h2 => ?_
              have S2 := S1.grow g2 p2
              have g12 := g1.trans g2
              cases d with
              | int b =>
                cases rb_int (.inl q2 : Rb X.mg X.K pot M H2 v (.int b))
                have r2 : RpL X.mg X.K (less H2 M) (xs.set m.toNat (.int (g a b))) (ds.set m.toNat (.int (g a b))) := (r1.mono (less_grow S.env.pm g12)).set _ (.int _)
                have hlt : m.toNat < xs.length := (List.getElem?_eq_some_iff.mp hv0).1
                exact ⟨a, b, rfl, rfl, c, xs, m, m.toNat, rfl, rfl, g12 c _ n hc, by unfold ixN; rw [if_pos hm.1, if_pos (by omega)], h2 M σ _ (S2.mut hΓ er e1 (.lst r2)) (p2.mut n)⟩
              | _ => exact h2.elim
            · cases ei
          · cases ei
        · cases ei
    · exact h.elim⟩
/-- x += e, of ints -/
theorem ds_aug (i : Nat) {x : Str} {p : Pos} {op : Operator} {g : Int → Int → Int} (o : XOk X E k) (ho : PIp X op (ipI g)) (he : DE X E .f Γ e te fe) (hΓ : Γ[i]? = some .f := by rfl) (hN : X.N[i]? = some x := by rfl) (hx : Loc X.env.scope x := by first | exact Or.inl rfl | exact Or.inr rfl)
    (hf : X.fn x = true ∨ X.env.scope.names.lookup x = some .local := by first | exact .inl rfl | exact .inr rfl) : DS X E r Γl Γ Γ (.AugAssign (.Name x p) op e pos) (tAug i te (ipI g)) (sAug i g fe) :=
  ⟨ps_aug o.nd hN hx he.pe ho hf, fun pot M0 H0 B M σ H ρ π D' S p h => by
    unfold sAug at h
    split at h
    · rename_i a er
      obtain ⟨v0, e1, r1⟩ := S.env.f i _ hΓ er
      cases rb_int (.inl r1 : Rb X.mg X.K pot M H v0 (.int a))
      refine ⟨_, e1, ?_⟩
      refine PostS.seq (r' := .f) (te := te σ H) h S (fun Q' hq => he.sem pot M σ H ρ π S.env p Q' hq) fun d π1 v H1 _ g1 p1 q1 h1 => ?_
      cases d with
      | int b =>
        cases rb_int (.inl q1 : Rb X.mg X.K pot M H1 v (.int b))
        have S1 := (S.grow g1 p1).put (r := .f) (i := i) (v := .int (g a b)) (d := .int (g a b)) (List.getElem?_eq_some_iff.mp hΓ).1 (.int _)
        rw [set_same (show Γ[i]? = some Rm.f.md from hΓ)] at S1
        exact ⟨a, b, rfl, rfl, h1 M _ H1 S1 p1⟩
      | _ => exact h1.elim
    · exact h.elim⟩

/-! ### loops -/
theorem ds_for {tg iter : Expr} {wi : TI} {fi : Ei} {is : List Nat} {g : TG} {fg : D → Rho → Option Rho} (o : XOk X E k) (hi : DI false X E Γ tg iter wi fi) (hg : DG X Γ tg is g fg) (hb : DSs X E r Γ Γ Γ body ts fs) (hs : ∀ x, foldedSetIterable iter X.env x = pure x := by intro _; rfl) :
    DS X E r Γl Γ Γ (.For tg iter body [] pos) (tFor wi g ts) (sFor fi fg fs) :=
  ⟨ps_for o.own o.calm hi.pi hg.pg hb.pss hs, fun pot M0 H0 B M σ H ρ π D' S p h => by
    refine PostS.seqI (w := false) (te := wi σ H) h S (fun Q' hq => hi.sem pot M σ H ρ π S.env p Q' hq) fun items π1 J H1 G Y _ g1 p1 W h1 => ?_
    have S1 := S.grow g1 p1
    refine for_it W.walk (fun i σ2 H2 => ∃ M2 ρ2 π2, SOk X.mg X.K Γ pot M0 H0 (less H1 M) M2 σ2 H2 ρ2 ∧ PotAt pot H2 π2 ∧ PostS X.mg X.K r Γl Γ pot M0 H0 B (forGo fg fs (items.drop i) ρ2 π2) D' E)
      ⟨M, ρ, π1, ⟨S1.env, S1.gr, S1.sub, S1.ow, S1.m0, Same.refl _⟩, p1, by rw [List.drop_zero]; exact h1⟩ (fun i σ2 H2 _ ⟨M2, ρ2, π2, S2, _, _⟩ => W.stay H2 M2 (fun z => by cases z) S2.bs) ?_ ?_
    · rintro i xv σ2 H2 H3 hlt ⟨M2, ρ2, π2, S2, p2, h2⟩ hy
      obtain ⟨sm, d, hd, rd⟩ := W.item i H2 xv H3 M2 (fun z => by cases z) S2.bs S2.env.al hlt hy
      have S3 := S2.grow (.of_same sm) (p2.same sm)
      have edr : items.drop i = d :: items.drop (i + 1) := by
        rw [List.drop_eq_getElem_cons hlt]
        congr 1
        have := List.getElem?_eq_getElem hlt
        rw [hd] at this
        exact (Option.some.inj this).symm
      rw [edr] at h2
      unfold forGo at h2
      cases e1 : fg d ρ2 with
      | none =>
        rw [e1] at h2
        exact h2.elim
      | some ρ3 =>
        rw [e1] at h2
        simp only [ofO_some, Res.bind_ok] at h2
        refine hg.sem pot M2 σ2 H3 ρ2 xv d S3.env rd ρ3 e1 _ fun σ3 I3 s1 s2 => ?_
        have S4 : SOk X.mg X.K Γ pot M0 H0 (less H1 M) M2 σ3 H3 ρ3 := ⟨I3, S3.gr, S3.sub, fun j e a w1 w2 w3 => by
          have nj : j ∉ is := fun z => by
            rw [hg.fs j z] at w1
            cases w1
          rw [s1 j nj] at w3
          rw [s2 j nj] at w2
          exact S3.ow j e a w1 w2 w3, S3.m0, S3.bs⟩
        refine hb.sem pot M0 H0 (less H1 M) M2 σ3 H3 ρ3 π2 _ S4 (p2.same sm) ?_
        cases e2 : fs ρ3 π2 with
        | err c ns xs π' =>
          rw [e2] at h2
          exact h2
        | stuck =>
          rw [e2] at h2
          exact h2
        | ok y =>
          obtain ⟨y, π3⟩ := y
          rw [e2] at h2
          simp only [Res.bind_ok] at h2
          cases y with
          | nx ρ4 => exact fun M4 σ4 H4 S5 p5 => ⟨M4, ρ4, π3, S5, p5, h2⟩
          | ct ρ4 => exact fun M4 σ4 H4 S5 p5 => ⟨M4, ρ4, π3, S5, p5, h2⟩
          | bk ρ4 => exact fun M4 σ4 H4 S5 p5 => h2 M4 σ4 H4 ⟨S5.env, S5.gr, S5.sub, S5.ow, S5.m0, fun a u e => S5.bs a u (S1.bs a u e)⟩ p5
          | rt d => exact h2
    · rintro σ2 H2 ⟨M2, ρ2, π2, S2, p2, h2⟩
      rw [List.drop_length] at h2
      exact h2 M2 σ2 H2 ⟨S2.env, S2.gr, S2.sub, S2.ow, S2.m0, fun a u e => S2.bs a u (S1.bs a u e)⟩ p2⟩
theorem ds_while (o : XOk X E k) (hc : DT X E Γ c tt ft) (hb : DSs X E r Γ Γ Γ body ts fs) : DS X E r Γl Γ Γ (.While c body [] pos) (tWhile tt ts) (sWhile ft fs) :=
  ⟨ps_while o.own hc.pt hb.pss, fun pot M0 H0 B M σ H ρ π D' S p h => by
    refine ⟨fun n σ2 H2 => ∃ M2 ρ2 π2, SOk X.mg X.K Γ pot M0 H0 B M2 σ2 H2 ρ2 ∧ PotAt pot H2 π2 ∧ PostS X.mg X.K r Γl Γ pot M0 H0 B (whileGo ft fs n ρ2 π2) D' E, ⟨lineW, M, ρ, π, S, p, h⟩, ?_⟩
    rintro n σ2 H2 ⟨M2, ρ2, π2, S2, p2, h2⟩
    cases n with
    | zero => exact h2.elim
    | succ n =>
      unfold whileGo at h2
      refine PostS.seqT (te := tt σ2 H2) h2 S2 (fun Q' hq => hc.sem pot M2 σ2 H2 ρ2 π2 S2.env p2 Q' hq) fun bb π3 H3 _ g3 p3 h3 => ?_
      have S3 := S2.grow g3 p3
      cases bb with
      | false =>
        rw [if_neg Bool.false_ne_true] at h3 ⊢
        exact h3 M2 σ2 H3 S3 p3
      | true =>
        rw [if_pos rfl] at h3 ⊢
        refine ⟨fun σ' H' => ∃ M2 ρ2 π2, SOk X.mg X.K Γ pot M0 H0 B M2 σ' H' ρ2 ∧ PotAt pot H' π2 ∧ PostS X.mg X.K r Γl Γ pot M0 H0 B (whileGo ft fs n ρ2 π2) D' E, fun σ' H' q => ⟨n, Nat.lt_succ_self n, q⟩, ?_⟩
        refine hb.sem pot M0 H0 B M2 σ2 H3 ρ2 π3 _ S3 p3 ?_
        cases e2 : fs ρ2 π3 with
        | err c ns xs π' =>
          rw [e2] at h3
          exact h3
        | stuck =>
          rw [e2] at h3
          exact h3
        | ok y =>
          obtain ⟨y, π4⟩ := y
          rw [e2] at h3
          simp only [Res.bind_ok] at h3
          cases y with
          | nx ρ4 => exact fun M4 σ4 H4 S5 p5 => ⟨M4, ρ4, π4, S5, p5, h3⟩
          | ct ρ4 => exact fun M4 σ4 H4 S5 p5 => ⟨M4, ρ4, π4, S5, p5, h3⟩
          | bk ρ4 => exact h3
          | rt d => exact h3⟩
end
end DL

set_option maxHeartbeats 2000000
/-! Defs and their calls. -/
namespace DL
open PySem PySem.Spec PyProof.Rows L2

/-- a def's promise, where no repr is running -/
structure FnG (P : Program) (w : World) (K : PySem.W.Frag) (mg : Str → Option Value) (base : Heap) (k : Nat) (f : Addr) (fd : FuncData) (ps : List Str) (sp : Sp) : Prop where
  len : ∀ vs H Q E, sp vs H Q E → vs.length = ps.length
  run : ∀ (A : Around) (outer : List Env) (s : Shared) (H : Hp) (args : PySem.Args) (us : List Value) (vs : List V) (Q : VK) (E : XK), Room k A → A.guards = some [] →
    Env0 P w K mg base A outer s H → BindsTo s fd args (ps.zip us) → Vals vs us → sp vs H Q E →
    codeAny (model P w) A (.call (.ref f) args) (CR (L2.CX P w) outer P w H s Q E) s
theorem FnG.mono {P : Program} {w : World} {K : PySem.W.Frag} {mg : Str → Option Value} {base : Heap} {j k : Nat} {f : Addr} {fd : FuncData} {ps : List Str} {sp : Sp} (F : FnG P w K mg base j f fd ps sp) (h : j ≤ k) : FnG P w K mg base k f fd ps sp :=
  ⟨F.len, fun A outer s H args us vs Q E hr => F.run A outer s H args us vs Q E (hr.mono h)⟩

/-- by its body -/
theorem fn_ofG {P : Program} {w : World} {K : PySem.W.Frag} {mg : Str → Option Value} {base : Heap} {k : Nat} {f : Addr} {name qual : Str} {params : Arguments} {body : List Stmt} {scope : Scope} {dV kV doc pm cdv ct oc : Value} {an od : Option Addr} {osl : Array (Option Value)} {N ps : List Str} {sp : Sp}
    (lk : K.lookup f = some ⟨oc, od, .func (PySem.W.fnOf name qual params body scope dV kV doc pm an cdv ct), osl⟩) (hcd : PySem.W.codeIn K cdv qual = true) (S : FnScope N ps scope) (len : ∀ vs H Q E, sp vs H Q E → vs.length = ps.length)
    (hbody : ∀ (A : Around) (outer : List Env) (s : Shared) (H : Hp) (vs : List V) (Q : VK) (E : XK), Room k (A.deeper (envOfC qual scope s.heap.objs.size f cdv)) → A.guards = some [] → sp vs H Q E →
      ∃ t, PSs (cxOf (L2.CX P w) P w K mg base N qual scope f cdv A outer s H E) body t ∧ t { nx := fun _ H' => Q .non H', rt := Q } (start N vs) H) :
    FnG P w K mg base (k + 1) f (PySem.W.fnOf name qual params body scope dV kV doc pm an cdv ct) ps sp := by
  refine ⟨len, ?_⟩
  intro A outer s H args us vs Q E room gd env0 bind rel want
  have inK : K.In s.heap := env0.mod.kin.keeps fun b o q => (env0.bs b o q).1
  have noLim : s.heap.NoLimit := env0.mod.nolimit.keeps fun b o q => (env0.bs b o q).1
  refine codeAny_call_function room.depth (inK _ _ lk) rfl S.co S.gen rfl (PySem.W.codeRec_of inK hcd) (bind _ _ _ _ ?_)
  refine wpAny_newFunctionEnv_cells S.kind (fun q hq => ?_) fun env he s1 x => ?_
  · obtain ⟨n, v⟩ := q
    exact (S.par n (List.of_mem_zip hq).1).elim .inl fun z => .inr ⟨z, PySem.W.cellsFrom_some _ _ _ (.inl z)⟩
  · subst he
    refine ⟨noLim.keeps x.toInCall.keep, codeAny_func ?_⟩
    obtain ⟨t, ht, hq⟩ := hbody A outer s H vs Q E (room.deeper _) gd want
    have I0 := inv_start (CX := L2.CX P w) (K := K) (mg := mg) (base := base) (N := N) (qual := qual) (f := f) (cd := cdv) (E := E) S room.hd env0 (len _ _ _ _ want) rel x
    refine wpAny_mono (ht.run [] s1 (start N vs) H _ I0 hq) (fun fl s' hs => ?_) fun e s' hs => hs
    cases fl with
    | ret u =>
      obtain ⟨v, σ', H', J, rv, q⟩ := hs
      exact ⟨v, H', J.os, J.bare, J.base, J.hok, rv, q⟩
    | next =>
      obtain ⟨σ', H', J, q⟩ := hs
      exact ⟨.non, H', J.os, J.bare, J.base, J.hok, rfl, q⟩
    | brk =>
      obtain ⟨_, _, _, q⟩ := hs
      exact q.elim
    | cont =>
      obtain ⟨_, _, _, q⟩ := hs
      exact q.elim

section
variable (mg : Str → Option Value) (K : PySem.W.Frag)
/-- what a def promises that gives m of its data -/
def SpD (ks : List Ak) (r : Rm) (m : Fd) : Sp := fun vs H Q E => vs.length = ks.length ∧ ∃ pot M ds π, Args mg K pot M H ks vs ds ∧ (∀ a ∈ M, H a ≠ none) ∧ (∀ a, pot = some a → a ∈ M) ∧ PotAt pot H π ∧ Post mg K r pot M H (m ds π) Q E
end
def startD (n : Nat) (ds : List D) : Rho := ds.map some ++ List.replicate (n - ds.length) none
def Ak.md : Ak → Md
  | .f => .f
  | .b => .u
  | .p => .p
  | .s => .s
/-- the body run as a def -/
def runD (n : Nat) (r : Rm) (fs : Fs) : Fd := fun ds π => (fs (startD n ds) π).bind fun x => match x.1 with
  | .rt d => .ok (d, x.2)
  | .nx _ => if r = .f then .ok (.non, x.2) else .stuck
  | _ => .stuck
/-- the modes at the entry -/
def modesOk (ks : List Ak) (Γ : List Md) : Bool := decide (Γ.take ks.length = ks.map Ak.md) && (Γ.drop ks.length).all fun m => m == .f || m == .o || m == .u
theorem start_at {N : List Str} {vs : List V} {i : Nat} (h : i < vs.length) : (start N vs)[i]? = some (vs[i]?) := by
  unfold L2.start
  rw [List.getElem?_append_left (by simpa using h), List.getElem?_map]
  simp [h]
theorem startD_at {n : Nat} {ds : List D} {i : Nat} {d : D} (h : (startD n ds)[i]? = some (some d)) : ds[i]? = some d := by
  unfold startD at h
  by_cases hi : i < ds.length
  · rw [List.getElem?_append_left (by simpa using hi), List.getElem?_map] at h
    simp [hi] at h
    rw [List.getElem?_eq_getElem hi, h]
  · rw [List.getElem?_append_right (by simpa using hi), List.getElem?_replicate] at h
    split at h <;> cases h
theorem Args.at {mg : Str → Option Value} {K : PySem.W.Frag} {pot : Option Addr} {M : List Addr} {H : Hp} : ∀ {ks : List Ak} {vs : List V} {ds : List D} {i : Nat} {d : D}, Args mg K pot M H ks vs ds → ds[i]? = some d → ∃ k v, ks[i]? = some k ∧ vs[i]? = some v ∧ ArgR mg K pot M H k v d
  | _, _, _, _, _, .nil, h => by simp at h
  | _, _, _, 0, _, .cons a _, h => by
    simp at h
    subst h
    exact ⟨_, _, rfl, rfl, a⟩
  | _, _, _, i + 1, _, .cons _ r, h => by
    obtain ⟨k, v, h1, h2, h3⟩ := r.at (i := i) (by simpa using h)
    exact ⟨k, v, by simpa using h1, by simpa using h2, h3⟩
theorem Args.atK {mg : Str → Option Value} {K : PySem.W.Frag} {pot : Option Addr} {M : List Addr} {H : Hp} : ∀ {ks : List Ak} {vs : List V} {ds : List D} {i : Nat} {k : Ak}, Args mg K pot M H ks vs ds → ks[i]? = some k → ∃ v d, vs[i]? = some v ∧ ds[i]? = some d ∧ ArgR mg K pot M H k v d
  | _, _, _, _, _, .nil, h => by simp at h
  | _, _, _, 0, _, .cons a _, h => by
    simp at h
    subst h
    exact ⟨_, _, rfl, rfl, a⟩
  | _, _, _, i + 1, _, .cons _ r, h => by
    obtain ⟨v, d, h1, h2, h3⟩ := r.atK (i := i) (by simpa using h)
    exact ⟨v, d, by simpa using h1, by simpa using h2, h3⟩
theorem Args.lenD {mg : Str → Option Value} {K : PySem.W.Frag} {pot : Option Addr} {M : List Addr} {H : Hp} {ks : List Ak} {vs : List V} {ds : List D} (h : Args mg K pot M H ks vs ds) : ds.length = ks.length := by
  induction h with
  | nil => rfl
  | cons _ _ ih => exact congrArg Nat.succ ih
theorem env_start {mg : Str → Option Value} {K : PySem.W.Frag} {pot : Option Addr} {M : List Addr} {H : Hp} {ks : List Ak} {Γ : List Md} {N : List Str} {vs : List V} {ds : List D} (hm : modesOk ks Γ = true) (hl : Γ.length = N.length) (hk : ks.length ≤ N.length)
    (a : Args mg K pot M H ks vs ds) (al : ∀ a ∈ M, H a ≠ none) (pm : ∀ a, pot = some a → a ∈ M) : EnvOk mg K Γ pot M (start N vs) H (startD N.length ds) := by
  obtain ⟨m1, m2⟩ := Bool.and_eq_true_iff.mp hm
  have m1 := of_decide_eq_true m1
  have lv := a.length
  have ld := a.lenD
  have gam : ∀ (i : Nat) (k : Ak), ks[i]? = some k → Γ[i]? = some k.md := fun i k h => by
    have hi := (List.getElem?_eq_some_iff.mp h).1
    have e : (Γ.take ks.length)[i]? = Γ[i]? := List.getElem?_take_of_lt hi
    rw [← e, m1, List.getElem?_map, h]
    rfl
  have beyond : ∀ (i : Nat) (m : Md), ks.length ≤ i → Γ[i]? = some m → m = .f ∨ m = .o ∨ m = .u := fun i m h1 h2 => by
    have e : (Γ.drop ks.length)[i - ks.length]? = some m := by
      rw [List.getElem?_drop, Nat.add_sub_cancel' h1]
      exact h2
    have q := List.all_eq_true.mp m2 m (List.mem_of_getElem? e)
    simpa [or_assoc] using q
  have dat : ∀ (i : Nat) (d : D), (startD N.length ds)[i]? = some (some d) → ∃ k v, ks[i]? = some k ∧ (start N vs)[i]? = some (some v) ∧ ArgR mg K pot M H k v d := fun i d h => by
    obtain ⟨k, v, h1, h2, h3⟩ := a.at (startD_at h)
    have hi := (List.getElem?_eq_some_iff.mp h2).1
    exact ⟨k, v, h1, by rw [start_at hi, h2], h3⟩
  refine ⟨?_, ?_, fun i d h1 h2 => ?_, fun i d h1 h2 => ?_, fun i h1 => ?_, fun i d h1 h2 => ?_, fun i j x d e h1 h2 h3 h4 h5 h6 => ?_, al, pm⟩
  · unfold L2.start
    rw [List.length_append, List.length_map, List.length_replicate]
    omega
  · unfold startD
    rw [List.length_append, List.length_map, List.length_replicate]
    omega
  · obtain ⟨k, v, q1, q2, q3⟩ := dat i d h2
    have q4 := gam i k q1
    rw [h1] at q4
    cases k with
    | f => exact ⟨v, q2, q3⟩
    | _ => cases q4
  · obtain ⟨k, v, q1, q2, q3⟩ := dat i d h2
    have q4 := gam i k q1
    rw [h1] at q4
    cases k <;> cases q4
  · by_cases hi : i < ks.length
    · obtain ⟨v, d, q1, q2, q3⟩ := a.atK (List.getElem?_eq_getElem hi)
      have q4 := gam i _ (List.getElem?_eq_getElem hi)
      rw [h1] at q4
      have hi2 := (List.getElem?_eq_some_iff.mp q1).1
      generalize ks[i] = k at q3 q4
      cases k with
      | p =>
        obtain ⟨p, e1, rfl⟩ := q3
        exact ⟨p, e1, by rw [start_at hi2, q1]⟩
      | _ => cases q4
    · rcases beyond i .p (by omega) h1 with z | z | z <;> cases z
  · obtain ⟨k, v, q1, q2, q3⟩ := dat i d h2
    have q4 := gam i k q1
    rw [h1] at q4
    cases k with
    | s =>
      obtain ⟨p, ns, e1, e2, e3⟩ := q3
      exact ⟨p, ns, by rw [q2, e1], e2, e3⟩
    | _ => cases q4
  · obtain ⟨k, v, q1, q2, q3⟩ := dat i d h3
    have q4 := gam i k q1
    rw [h1] at q4
    cases k <;> cases q4

/-- a def of the text with what it gives -/
structure DFn (P : Program) (w : World) (K : PySem.W.Frag) (mg : Str → Option Value) (base : Heap) (k : Nat) (x : Str) (st : Stmt) (ps : List Str) (ks : List Ak) (r : Rm) (m : Fd) : Prop where
  ex : ∃ f fd, mg x = some (.ref f) ∧ Fun K x x st f fd ∧ FnG P w K mg base k f fd ps (SpD mg K ks r m)
section
variable {P : Program} {w : World} {K : PySem.W.Frag} {mg : Str → Option Value} {base : Heap} {k : Nat} {x : Str} {st : Stmt} {ps N : List Str} {ks : List Ak} {r : Rm}
theorem DFn.mono {j : Nat} {m : Fd} (F : DFn P w K mg base j x st ps ks r m) (h : j ≤ k) : DFn P w K mg base k x st ps ks r m := by
  obtain ⟨f, fd, h1, h2, h3⟩ := F.ex
  exact ⟨f, fd, h1, h2, h3.mono h⟩
/-- THE RULE for a def -/
theorem dfn_of {fs : Fs} (Γ Γ' : List Md) (hf : ∃ f fd, mg x = some (.ref f) ∧ Fun K x x st f fd) (S : FnScope N ps (defScope st)) (hp : ks.length = ps.length) (hl : Γ.length = N.length) (hk : ks.length ≤ N.length) (hm : modesOk ks Γ = true)
    (hr : (r = .f ∨ r = .o) ∨ r = .t)
    (hb : ∀ (f : Addr) (cdv : Value) (A : Around) (outer : List Env) (s : Shared) (H : Hp) (E : XK), XOk (cxOf (L2.CX P w) P w K mg base N x (defScope st) f cdv A outer s H E) E k →
      ∃ ts, DSs (cxOf (L2.CX P w) P w K mg base N x (defScope st) f cdv A outer s H E) E r Γ Γ Γ' (defBody st) ts fs) :
    DFn P w K mg base (k + 1) x st ps ks r (runD N.length r fs) := by
  obtain ⟨f, fd, h1, h2⟩ := hf
  refine ⟨f, fd, h1, h2, ?_⟩
  obtain ⟨oc, od, kV, doc, pm, an, cdv, ct, osl, rfl, lk, hcd⟩ := h2.ex
  refine fn_ofG lk hcd S (fun vs H Q E h => by rw [h.1, hp]) fun A outer s H vs Q E room gd want => ?_
  obtain ⟨_, pot, M, ds, π, ar, al, pm, pt, post⟩ := want
  have o : XOk (cxOf (L2.CX P w) P w K mg base N x (defScope st) f cdv A outer s H E) E k :=
    ⟨room, gd, rfl, passes_call (takes_of rfl rfl rfl rfl) fun _ _ _ _ z => z, passes_of rfl, S.nd⟩
  obtain ⟨ts, B⟩ := hb f cdv A outer s H E o
  refine ⟨ts, B.pss, ?_⟩
  have I := env_start hm hl hk ar al pm
  refine B.sem pot M H (fun _ => none) M _ H _ π _ ⟨I, .refl, fun a h => h, fun i d a h1 h2 h3 => ?_, al, fun a u e => by cases e⟩ pt ?_
  · exfalso
    obtain ⟨k', v, q1, _⟩ := ar.at (startD_at h2)
    obtain ⟨m1, _⟩ := Bool.and_eq_true_iff.mp hm
    have m1 := of_decide_eq_true m1
    have hi := (List.getElem?_eq_some_iff.mp q1).1
    have e : (Γ.take ks.length)[i]? = Γ[i]? := List.getElem?_take_of_lt hi
    rw [h1, m1, List.getElem?_map, q1] at e
    cases k' <;> cases e
  · unfold runD at post
    cases ef : fs (startD N.length ds) π with
    | err c ns xs π' =>
      rw [ef] at post
      exact post
    | stuck =>
      rw [ef] at post
      exact post
    | ok y =>
      obtain ⟨y, π1⟩ := y
      rw [ef] at post
      cases y with
      | rt d => exact fun v H' g p q => post v H' g p q
      | nx ρ =>
        simp only [Res.bind_ok] at post
        split at post
        · rename_i hrf
          subst hrf
          exact fun M' σ' H' S' p' => post .non H' S'.gr p' .non
        · exact post.elim
      | bk ρ => exact post.elim
      | ct ρ => exact post.elim
end

section
variable {X : Cx} {E : XK} {Γ : List Md} {r : Rm} {e : Expr} {es : List Expr} {kws : List Keyword} {pos p kpos : Pos} {k j : Nat} {ks : List Ak} {tA tK : TA} {fA fK : Ea} {x : Str} {st : Stmt} {ps kn : List Str} {m : Fd} {nm : Option Str} {te : TE} {fe : Ed}
def tGo (mg : Str → Option Value) (K : PySem.W.Frag) (ks : List Ak) (r : Rm) (m : Fd) (E : XK) (t : TA) : TE := fun σ H Q => t σ H fun vs H1 => SpD mg K ks r m vs H1 Q E
def eGo (m : Fd) (a : Ea) : Ed := fun ρ π => (a ρ π).bind fun x => m x.1 x.2
theorem sem_go (hA : SemA X.mg X.K E ks Γ tA fA) : SemE X.mg X.K E r Γ (tGo X.mg X.K ks r m E tA) (eGo m fA) := fun pot M σ H ρ π I p Q h => by
  refine PostA.seq (ks := ks) (te := tA σ H) h p (fun Q' hq => hA pot M σ H ρ π I p Q' hq) fun ds π1 vs H1 _ g1 p1 r1 h1 => ?_
  exact ⟨r1.length, pot, M, ds, π1, r1, (I.grow g1 p1).al, I.pm, p1, h1⟩
theorem run_go {fd : FuncData} {f : Addr} {sp : Sp} {args : PySem.Args} {us ws : List Value} {vs : List V} {pins : List (Addr × Obj)} {σ : L2.St} {H : Hp} {s : Shared} {Q : VK} (F : FnG X.prog X.w X.K X.mg X.base j f fd ps sp) (o : XOk X E k) (hj : j ≤ k) (hb : BindsTo s fd ⟨us, kn.zip ws⟩ (ps.zip (us ++ ws)))
    (I : Inv X pins σ H s) (rl : Vals vs (us ++ ws)) (h : sp vs H Q E) : wpAny (model X.prog X.w) X.A (call (.ref f) us (kn.zip ws)) (EP X pins σ Q) X.xe s := by
  refine wpAny_call (codeAny_mono (F.run X.A X.stack s H _ (us ++ ws) vs Q E (o.room.mono hj) o.gd I.env0 hb rl h) fun res s' z => ?_)
  match res, z with
  | .error e, z => exact o.pass pins σ H s e s' I z
  | .ok (.ret u), z => exact I.after z
/-- f(e, ..) -/
theorem de_call (F : DFn X.prog X.w X.K X.mg X.base j x st ps ks r m) (o : XOk X E k)
    (hb : ∀ (kV doc pm : Value) (an : Option Addr) (cdv ct : Value) (us : List Value), us.length = ps.length → bindArgs (PySem.W.fnOf x x (defArgs st) (defBody st) (defScope st) .none kV doc pm an cdv ct) ⟨us, []⟩ = pure (ps.zip us))
    (hA : DA X E ks Γ (e :: es) tA fA) (hj : j ≤ k := by decide) (hg : Gl X x := by rfl) (hdb : (x == ("__debug__" : Str)) = false := by decide) (he : starEach (e :: es) X.env = (false, eval e X.env) :: starEach es X.env := by rfl) (hpl : (backTo pos (starEach es X.env)).any (·.1) = false := by rfl) :
    DE X E r Γ (.Call (.Name x p) (e :: es) [] pos) (tGo X.mg X.K ks r m E tA) (eGo m fA) :=
  ⟨⟨fun pins s σ H Q I h => by
    obtain ⟨f, fd, h1, h2, h3⟩ := F.ex
    refine wpAny_Call_Name_kw (ld_glob I hg h1 ?_ hdb)
    refine PySem.W.callWith_K (h₀ := X.base) I.ok.mod.kin h2.kp (thn (hA.pa.run pos pins s σ H _ I h) fun us s1 ⟨vs, H1, I1, rl, q⟩ => ⟨I1.kIn, ?_⟩) he hpl
    have hl : us.length = ps.length := by
      rw [← rl.length]
      exact h3.len _ _ _ _ q
    have bd : BindsTo s1 fd ⟨us, ([] : List Str).zip ([] : List Value)⟩ (ps.zip (us ++ [])) := by
      obtain ⟨oc, od, kV, doc, pm, an, cdv, ct, osl, rfl, lk, hcd⟩ := h2.ex
      rw [List.append_nil]
      exact .of_eq (hb kV doc pm an cdv ct us hl)
    exact run_go (args := ⟨us, []⟩) (kn := []) (ws := []) h3 o hj bd I1 (by rw [List.append_nil]; exact rl) q⟩, sem_go hA.sem⟩
theorem de_call0 (F : DFn X.prog X.w X.K X.mg X.base j x st [] [] r m) (o : XOk X E k)
    (hb : ∀ (kV doc pm : Value) (an : Option Addr) (cdv ct : Value), bindArgs (PySem.W.fnOf x x (defArgs st) (defBody st) (defScope st) .none kV doc pm an cdv ct) ⟨[], []⟩ = pure [])
    (hj : j ≤ k := by decide) (hg : Gl X x := by rfl) (hdb : (x == ("__debug__" : Str)) = false := by decide) :
    DE X E r Γ (.Call (.Name x p) [] [] pos) (tGo X.mg X.K [] r m E tNil) (eGo m aNil) :=
  ⟨⟨fun pins s σ H Q I h => by
    obtain ⟨f, fd, h1, h2, h3⟩ := F.ex
    refine wpAny_Call_Name_kw (ld_glob I hg h1 ?_ hdb)
    have bd : BindsTo s fd ⟨[], ([] : List Str).zip ([] : List Value)⟩ (([] : List Str).zip ([] ++ [])) := by
      obtain ⟨oc, od, kV, doc, pm, an, cdv, ct, osl, rfl, lk, hcd⟩ := h2.ex
      exact .of_eq (hb kV doc pm an cdv ct)
    exact PySem.W.callWith_K0 I.kIn h2.kp (run_go (args := ⟨[], []⟩) (us := []) (kn := []) (ws := []) h3 o hj bd I .nil h)⟩, sem_go da_nil.sem⟩
/-- the values of the keywords -/
structure DK (X : Cx) (E : XK) (ks : List Ak) (Γ : List Md) (kws : List Keyword) (tk : TA) (fk : Ea) : Prop where
  pk : PK X kws tk
  sem : SemA X.mg X.K E ks Γ tk fk
theorem dk_nil : DK X E [] Γ [] tNil aNil := ⟨pk_nil, da_nil.sem⟩
theorem dk_f (ha : DE X E .f Γ e te fe) (hK : DK X E ks Γ kws tK fK) : DK X E (.f :: ks) Γ (⟨nm, e, kpos⟩ :: kws) (tCons te tK) (aCons fe fK) := ⟨pk_cons ha.pe hK.pk, sem_cons (kk := .f) (ra := .f) (fun _ _ _ _ _ _ _ h => h) ha.sem hK.sem⟩
/-- f(k = e, ..): all by their names, in the parameters' sequence -/
theorem de_callK (F : DFn X.prog X.w X.K X.mg X.base j x st ps ks r m) (o : XOk X E k)
    (hb : ∀ (kV doc pm : Value) (an : Option Addr) (cdv ct : Value) (ws : List Value), ws.length = ps.length → bindArgs (PySem.W.fnOf x x (defArgs st) (defBody st) (defScope st) .none kV doc pm an cdv ct) ⟨[], ps.zip ws⟩ = pure (ps.zip ws))
    (hK : DK X E ks Γ kws tK fK) (hj : j ≤ k := by decide) (hg : Gl X x := by rfl) (hdb : (x == ("__debug__" : Str)) = false := by decide) (hall : (backToKw pos (keywordEach kws X.env)).all (·.1.isSome) = true := by rfl) (hks : (backToKw pos (keywordEach kws X.env)).filterMap (·.1) = ps := by rfl)
    (hpl : ((backTo pos (starEach [] X.env)).any (·.1) || (backToKw pos (keywordEach kws X.env)).any (·.1.isNone)) = false := by rfl) :
    DE X E r Γ (.Call (.Name x p) [] kws pos) (tGo X.mg X.K ks r m E tK) (eGo m fK) :=
  ⟨⟨fun pins s σ H Q I h => by
    obtain ⟨f, fd, h1, h2, h3⟩ := F.ex
    refine wpAny_Call_Name_kw (ld_glob I hg h1 ?_ hdb)
    refine PySem.W.callWith_KW0 (h₀ := X.base) I.ok.mod.kin h2.kp hall (thn (hK.pk.run pos pins s σ H _ I h) fun ws s1 ⟨vs, H1, I1, rl, q⟩ => ⟨I1.kIn, ?_⟩) hpl
    rw [hks]
    have hl : ws.length = ps.length := by
      rw [← rl.length]
      exact h3.len _ _ _ _ q
    have bd : BindsTo s1 fd ⟨[], ps.zip ws⟩ (ps.zip ([] ++ ws)) := by
      obtain ⟨oc, od, kV, doc, pm, an, cdv, ct, osl, rfl, lk, hcd⟩ := h2.ex
      exact .of_eq (hb kV doc pm an cdv ct ws hl)
    exact run_go (args := ⟨[], ps.zip ws⟩) (us := []) h3 o hj bd I1 rl q⟩, sem_go hK.sem⟩
end
end DL

set_option maxHeartbeats 2000000
/-! Built-in functions, places, isinstance, repr, the pot, the script. -/
namespace DL
open PySem PySem.Spec PyProof.Rows L2

def asInts : List D → Option (List Int)
  | [] => some []
  | .int i :: r => (asInts r).map (i :: ·)
  | _ :: _ => none
def asBls : List D → Option (List Bool)
  | [] => some []
  | .bl i :: r => (asBls r).map (i :: ·)
  | _ :: _ => none
@[simp] theorem asInts_iz : ∀ ns : List Int, asInts (ns.map D.int) = some ns
  | [] => rfl
  | n :: ns => by
    show (asInts (ns.map D.int)).map _ = _
    rw [asInts_iz ns]
    rfl
@[simp] theorem asBls_bl : ∀ bs : List Bool, asBls (bs.map D.bl) = some bs
  | [] => rfl
  | n :: ns => by
    show (asBls (ns.map D.bl)).map _ = _
    rw [asBls_bl ns]
    rfl
theorem asInts_eq : ∀ {ds : List D} {ns : List Int}, asInts ds = some ns → ds = ns.map D.int
  | [], ns, h => by
    cases h
    rfl
  | d :: ds, ns, h => by
    cases d with
    | int i =>
      simp only [asInts, Option.map_eq_some_iff] at h
      obtain ⟨ms, e, rfl⟩ := h
      rw [asInts_eq e]
      rfl
    | _ => cases h
theorem asBls_eq : ∀ {ds : List D} {ns : List Bool}, asBls ds = some ns → ds = ns.map D.bl
  | [], ns, h => by
    cases h
    rfl
  | d :: ds, ns, h => by
    cases d with
    | bl i =>
      simp only [asBls, Option.map_eq_some_iff] at h
      obtain ⟨ms, e, rfl⟩ := h
      rw [asBls_eq e]
      rfl
    | _ => cases h
theorem rpl_bls {mg : Str → Option Value} {K : PySem.W.Frag} {H : Hp} : ∀ {ns : List Bool} {vs : List V}, RpL mg K H vs (ns.map D.bl) → vs = ns.map V.bl
  | [], _, .nil => rfl
  | n :: ns, _, .cons h r => by
    cases h
    rw [rpl_bls r]
    rfl
/-- ints in ascending order -/
def sortI (ns : List Int) : List Int := ns.mergeSort fun a b => decide (a ≤ b)
theorem sorted_same : ∀ {xs ys : List Int}, xs.Perm ys → xs.Pairwise (· ≤ ·) → ys.Pairwise (· ≤ ·) → xs = ys
  | [], ys, p, _, _ => by
    have := p.length_eq
    cases ys with
    | nil => rfl
    | cons => simp at this
  | x :: xs, [], p, _, _ => by
    have := p.length_eq
    simp at this
  | x :: xs, y :: ys, p, h1, h2 => by
    obtain ⟨a1, b1⟩ := List.pairwise_cons.mp h1
    obtain ⟨a2, b2⟩ := List.pairwise_cons.mp h2
    have m1 : x ∈ y :: ys := p.mem_iff.mp (List.mem_cons_self ..)
    have m2 : y ∈ x :: xs := p.mem_iff.mpr (List.mem_cons_self ..)
    have e : x = y := by
      rcases List.mem_cons.mp m1 with e | m1
      · exact e
      · rcases List.mem_cons.mp m2 with e | m2
        · exact e.symm
        · exact Int.le_antisymm (a1 y m2) (a2 x m1)
    subst e
    rw [sorted_same ((List.perm_cons x).mp p) b1 b2]
theorem sortI_perm (ns : List Int) : (sortI ns).Perm ns := List.mergeSort_perm ns _
theorem sortI_sorted (ns : List Int) : (sortI ns).Pairwise (· ≤ ·) := by
  have h := List.pairwise_mergeSort (le := fun (a b : Int) => decide (a ≤ b)) (fun a b c h1 h2 => by simp at *; omega) (fun a b => by simp; omega) ns
  exact h.imp fun h => by simpa using h

/-! ### what they give -/
def fLen : List D → Option D
  | [.lst xs] => some (.int xs.length)
  | [.tup xs] => some (.int xs.length)
  | [.str z] => if z.length ≤ sizeLine then some (.int z.length) else none
  | _ => none
def fAbs : List D → Option D
  | [.int i] => some (.int (if i < 0 then -i else i))
  | _ => none
def fMax2 : List D → Option D
  | [.int i, .int j] => some (.int (if j > i then j else i))
  | _ => none
def fMin2 : List D → Option D
  | [.int i, .int j] => some (.int (if j < i then j else i))
  | _ => none
def maxI : List Int → Int
  | [] => 0
  | [x] => x
  | x :: xs => if x < maxI xs then maxI xs else x
def minI : List Int → Int
  | [] => 0
  | [x] => x
  | x :: xs => if minI xs < x then minI xs else x
theorem maxI_mem : ∀ {xs : List Int}, xs ≠ [] → maxI xs ∈ xs
  | [], h => absurd rfl h
  | [x], _ => by simp [maxI]
  | x :: y :: r, _ => by
    have ih := maxI_mem (xs := y :: r) (by simp)
    unfold maxI
    split
    · exact List.mem_cons_of_mem _ ih
    · exact List.mem_cons_self ..
theorem maxI_le : ∀ {xs : List Int} {x : Int}, x ∈ xs → x ≤ maxI xs
  | [x], y, h => by simp at h; simp [maxI, h]
  | x :: z :: r, y, h => by
    have ih := fun {w} => maxI_le (xs := z :: r) (x := w)
    unfold maxI
    rcases List.mem_cons.mp h with e | h
    · subst e
      split <;> omega
    · have := ih h
      split <;> omega
theorem minI_mem : ∀ {xs : List Int}, xs ≠ [] → minI xs ∈ xs
  | [], h => absurd rfl h
  | [x], _ => by simp [minI]
  | x :: y :: r, _ => by
    have ih := minI_mem (xs := y :: r) (by simp)
    unfold minI
    split
    · exact List.mem_cons_of_mem _ ih
    · exact List.mem_cons_self ..
theorem minI_le : ∀ {xs : List Int} {x : Int}, x ∈ xs → minI xs ≤ x
  | [x], y, h => by simp at h; simp [minI, h]
  | x :: z :: r, y, h => by
    have ih := fun {w} => minI_le (xs := z :: r) (x := w)
    unfold minI
    rcases List.mem_cons.mp h with e | h
    · subst e
      split <;> omega
    · have := ih h
      split <;> omega
def onInts (f : List Int → Option D) : List D → Option D
  | [.lst xs] => (asInts xs).bind f
  | _ => none
def fSum : List D → Option D := onInts fun ns => some (.int ns.sum)
def fMaxL : List D → Option D := onInts fun ns => if ns = [] then none else some (.int (maxI ns))
def fMinL : List D → Option D := onInts fun ns => if ns = [] then none else some (.int (minI ns))
def fSortI : List D → Option D := onInts fun ns => some (.lst ((sortI ns).map D.int))
def fAny : List D → Option D
  | [.lst xs] => (asBls xs).map fun bs => .bl (bs.any id)
  | _ => none
def fAll : List D → Option D
  | [.lst xs] => (asBls xs).map fun bs => .bl (bs.all id)
  | _ => none
def fInt : List D → Option D
  | [.int i] => some (.int i)
  | _ => none
def fList : List D → Option D
  | [.lst xs] => some (.lst xs)
  | [.tup xs] => some (.lst xs)
  | _ => none
def fTuple : List D → Option D
  | [.lst xs] => some (.tup xs)
  | [.tup xs] => some (.tup xs)
  | _ => none
def fGcd : List D → Option D
  | [.int a, .int b] => some (.int ((Nat.gcd a.natAbs b.natAbs : Nat) : Int))
  | _ => none

section
variable {X : Cx} {E : XK} {k : Nat}
theorem arg1 {mg : Str → Option Value} {K : PySem.W.Frag} {pot : Option Addr} {M : List Addr} {H : Hp} {vs : List V} {ds : List D} (h : Args mg K pot M H [.b] vs ds) : ∃ v d, vs = [v] ∧ ds = [d] ∧ Rb mg K pot M H v d := args1 h
theorem arg2 {mg : Str → Option Value} {K : PySem.W.Frag} {pot : Option Addr} {M : List Addr} {H : Hp} {vs : List V} {ds : List D} (h : Args mg K pot M H [.b, .b] vs ds) : ∃ v d w e, vs = [v, w] ∧ ds = [d, e] ∧ Rb mg K pot M H v d ∧ Rb mg K pot M H w e := args2 h
def rLenA (K : PySem.W.Frag) : List V → Hp → VK → Prop := fun xs H Q => (∃ p ys, xs = [.ref p] ∧ (SqL K H p ys ∨ SqT K H p ys) ∧ Q (.int ys.length) H) ∨ ∃ z, xs = [.str z] ∧ z.length ≤ sizeLine ∧ Q (.int z.length) H
theorem c_len : CallOk X (.builtin "len") (rLenA X.K) [.b] .f fLen := ⟨call_len_seq.or call_len_str, fun pot M H vs ds z al pm ph a hz Q q => by
  obtain ⟨v, d, rfl, rfl, h⟩ := arg1 a
  unfold fLen at hz
  split at hz
  · rename_i xs e
    cases e
    cases hz
    obtain ⟨p, ys, rfl, h1, r1⟩ := rb_lst h
    exact .inl ⟨p, ys, rfl, .inl (.inl (.inl h1)), by rw [r1.length]; exact q _ H (Same.refl H) (.int _)⟩
  · rename_i xs e
    cases e
    cases hz
    obtain ⟨p, ys, rfl, h1, r1⟩ := rb_tup h
    exact .inl ⟨p, ys, rfl, .inr (sqT_mono less_le h1), by rw [r1.length]; exact q _ H (Same.refl H) (.int _)⟩
  · rename_i z' e
    cases e
    split at hz
    · rename_i hl
      cases hz
      cases rb_str h
      exact .inr ⟨_, rfl, hl, q _ H (Same.refl H) (.int _)⟩
    · cases hz
  · cases hz⟩
/-- len of the script -/
theorem c_lenS : CallOk X (.builtin "len") (rLenA X.K) [.s] .f fLen := ⟨call_len_seq.or call_len_str, fun pot M H vs ds z al pm ph a hz Q q => by
  obtain ⟨v, d, rfl, rfl, p, ns, rfl, rfl, h⟩ := args1 a
  cases hz
  exact .inl ⟨p, _, rfl, .inl (sqL_mono less_le h), by
    simp only [List.length_map] at q ⊢
    exact q _ H (Same.refl H) (.int _)⟩⟩
theorem c_abs : CallOk X (.builtin "abs") (fun xs H Q => ∃ i, xs = [.int i] ∧ Q (.int (if i < 0 then -i else i)) H) [.b] .f fAbs := ⟨call_abs, fun pot M H vs ds z al pm ph a hz Q q => by
  obtain ⟨v, d, rfl, rfl, h⟩ := arg1 a
  cases d <;> simp [fAbs] at hz
  subst hz
  exact ⟨_, by rw [rb_int h], q _ H (Same.refl H) (.int _)⟩⟩
theorem c_max2 (x : XOk X E k) : CallOk X (.builtin "max") (fun xs H Q => ∃ i j, xs = [.int i, .int j] ∧ Q (.int (if j > i then j else i)) H) [.b, .b] .f fMax2 := ⟨call_max2 x.calm, fun pot M H vs ds z al pm ph a hz Q q => by
  obtain ⟨v, d, w, e, rfl, rfl, h, h'⟩ := arg2 a
  cases d <;> cases e <;> simp [fMax2] at hz
  subst hz
  exact ⟨_, _, by rw [rb_int h, rb_int h'], q _ H (Same.refl H) (.int _)⟩⟩
theorem c_min2 (x : XOk X E k) : CallOk X (.builtin "min") (fun xs H Q => ∃ i j, xs = [.int i, .int j] ∧ Q (.int (if j < i then j else i)) H) [.b, .b] .f fMin2 := ⟨call_min2 x.calm, fun pot M H vs ds z al pm ph a hz Q q => by
  obtain ⟨v, d, w, e, rfl, rfl, h, h'⟩ := arg2 a
  cases d <;> cases e <;> simp [fMin2] at hz
  subst hz
  exact ⟨_, _, by rw [rb_int h, rb_int h'], q _ H (Same.refl H) (.int _)⟩⟩
theorem on_ints {mg : Str → Option Value} {K : PySem.W.Frag} {pot : Option Addr} {M : List Addr} {H : Hp} {vs : List V} {ds : List D} {z : D} {f : List Int → Option D} (a : Args mg K pot M H [.b] vs ds) (hz : onInts f ds = some z) :
    ∃ p ns, vs = [.ref p] ∧ H p = some (.lst (ns.map V.int)) ∧ f ns = some z := by
  obtain ⟨v, d, rfl, rfl, h⟩ := arg1 a
  unfold onInts at hz
  split at hz
  · rename_i xs e
    cases e
    simp only [Option.bind_eq_some_iff] at hz
    obtain ⟨ns, e1, e2⟩ := hz
    rw [asInts_eq e1] at h
    obtain ⟨p, ys, rfl, h1, r1⟩ := rb_lst h
    rw [r1.iz] at h1
    exact ⟨p, ns, rfl, h1, e2⟩
  · cases hz
theorem c_sum (x : XOk X E k) : CallOk X (.builtin "sum") (rSum X.K) [.b] .f fSum := ⟨cr_sum x.calm, fun pot M H vs ds z al pm ph a hz Q q => by
  obtain ⟨p, ns, rfl, h1, e⟩ := on_ints a hz
  cases e
  exact ⟨p, ns, rfl, .inl (.inl h1), q _ H (Same.refl H) (.int _)⟩⟩
theorem c_maxL (x : XOk X E k) : CallOk X (.builtin "max") (rMax X.K) [.b] .f fMaxL := ⟨cr_max x.calm, fun pot M H vs ds z al pm ph a hz Q q => by
  obtain ⟨p, ns, rfl, h1, e⟩ := on_ints a hz
  split at e
  · cases e
  · rename_i hn
    cases e
    refine ⟨p, ns, rfl, .inl (.inl h1), List.length_pos_iff.mpr hn, fun m hm hle => ?_⟩
    have e : m = maxI ns := Int.le_antisymm (maxI_le hm) (hle _ (maxI_mem hn))
    rw [e]
    exact q _ H (Same.refl H) (.int _)⟩
theorem c_minL (x : XOk X E k) : CallOk X (.builtin "min") (rMin X.K) [.b] .f fMinL := ⟨cr_min x.calm, fun pot M H vs ds z al pm ph a hz Q q => by
  obtain ⟨p, ns, rfl, h1, e⟩ := on_ints a hz
  split at e
  · cases e
  · rename_i hn
    cases e
    refine ⟨p, ns, rfl, .inl (.inl h1), List.length_pos_iff.mpr hn, fun m hm hle => ?_⟩
    have e : m = minI ns := Int.le_antisymm (hle _ (minI_mem hn)) (minI_le hm)
    rw [e]
    exact q _ H (Same.refl H) (.int _)⟩
theorem c_sortI : CallOk X (.builtin "sorted") (rSortedI X.K) [.b] .o fSortI := ⟨cr_sortedI, fun pot M H vs ds z al pm ph a hz Q q => by
  obtain ⟨p, ns, rfl, h1, e⟩ := on_ints a hz
  cases e
  refine ⟨p, ns, rfl, .inl (.inl h1), fun ns' c hp hs hn => ?_⟩
  have e : ns' = sortI ns := sorted_same (hp.trans (sortI_perm ns).symm) hs (sortI_sorted ns)
  rw [e]
  exact q _ _ (same_upd hn) (new_lst ph hn (RpL.of_ints _))⟩
theorem c_any (x : XOk X E k) : CallOk X (.builtin "any") (rAny X.K) [.b] .f fAny := ⟨cr_any x.calm, fun pot M H vs ds z al pm ph a hz Q q => by
  obtain ⟨v, d, rfl, rfl, h⟩ := arg1 a
  unfold fAny at hz
  split at hz
  · rename_i xs e
    cases e
    simp only [Option.map_eq_some_iff] at hz
    obtain ⟨ns, e1, e2⟩ := hz
    rw [asBls_eq e1] at h
    obtain ⟨p, ys, rfl, h1, r1⟩ := rb_lst h
    rw [rpl_bls r1] at h1
    subst e2
    exact ⟨p, ns, rfl, .inl (.inl h1), q _ H (Same.refl H) (.bl _)⟩
  · cases hz⟩
theorem c_all (x : XOk X E k) : CallOk X (.builtin "all") (rAll X.K) [.b] .f fAll := ⟨cr_all x.calm, fun pot M H vs ds z al pm ph a hz Q q => by
  obtain ⟨v, d, rfl, rfl, h⟩ := arg1 a
  unfold fAll at hz
  split at hz
  · rename_i xs e
    cases e
    simp only [Option.map_eq_some_iff] at hz
    obtain ⟨ns, e1, e2⟩ := hz
    rw [asBls_eq e1] at h
    obtain ⟨p, ys, rfl, h1, r1⟩ := rb_lst h
    rw [rpl_bls r1] at h1
    subst e2
    exact ⟨p, ns, rfl, .inl (.inl h1), q _ H (Same.refl H) (.bl _)⟩
  · cases hz⟩
theorem c_int : CallOk X (.type "int") (fun xs H Q => (∃ i, xs = [.int i] ∧ Q (.int i) H) ∨ ∃ k, xs = [.bl k] ∧ Q (.int (if k then 1 else 0)) H) [.b] .f fInt := ⟨call_int1, fun pot M H vs ds z al pm ph a hz Q q => by
  obtain ⟨v, d, rfl, rfl, h⟩ := arg1 a
  cases d <;> simp [fInt] at hz
  subst hz
  exact .inl ⟨_, by rw [rb_int h], q _ H (Same.refl H) (.int _)⟩⟩
theorem c_list : CallOk X (.type "list") (fun xs H Q => ∃ p ys, xs = [.ref p] ∧ (SqL X.K H p ys ∨ SqT X.K H p ys) ∧ ∀ l, H l = none → Q (.ref l) (upd H l (.lst ys))) [.b] .o fList := ⟨call_list_of, fun pot M H vs ds z al pm ph a hz Q q => by
  obtain ⟨v, d, rfl, rfl, h⟩ := arg1 a
  cases d <;> simp [fList] at hz
  · subst hz
    obtain ⟨p, ys, rfl, h1, r1⟩ := rb_lst h
    exact ⟨p, ys, rfl, .inl (.inl (.inl h1)), fun l hn => q _ _ (same_upd hn) (new_lst ph hn r1)⟩
  · subst hz
    obtain ⟨p, ys, rfl, h1, r1⟩ := rb_tup h
    exact ⟨p, ys, rfl, .inr (sqT_mono less_le h1), fun l hn => q _ _ (same_upd hn) (new_lst ph hn r1)⟩⟩
theorem c_tuple : CallOk X (.type "tuple") (fun xs H Q => ∃ p ys, xs = [.ref p] ∧ ((SqL X.K H p ys ∧ ∀ l, H l = none → Q (.ref l) (upd H l (.tup ys))) ∨ (SqT X.K H p ys ∧ Q (.ref p) H))) [.b] .f fTuple := ⟨call_tuple_of, fun pot M H vs ds z al pm ph a hz Q q => by
  obtain ⟨v, d, rfl, rfl, h⟩ := arg1 a
  cases d <;> simp [fTuple] at hz
  · subst hz
    obtain ⟨p, ys, rfl, h1, r1⟩ := rb_lst h
    exact ⟨p, ys, rfl, .inl ⟨.inl (.inl h1), fun l hn => q _ _ (same_upd hn) (new_tup al hn r1)⟩⟩
  · subst hz
    obtain ⟨p, ys, rfl, h1, r1⟩ := rb_tup h
    exact ⟨p, ys, rfl, .inr ⟨sqT_mono less_le h1, q _ H (Same.refl H) (.tup h1 r1)⟩⟩⟩
theorem c_gcd : CallOk X (.builtin "math.gcd") rGcd [.b, .b] .f fGcd := ⟨cr_gcd, fun pot M H vs ds z al pm ph a hz Q q => by
  obtain ⟨v, d, w, e, rfl, rfl, h, h'⟩ := arg2 a
  cases d <;> cases e <;> simp [fGcd] at hz
  subst hz
  exact ⟨_, _, by rw [rb_int h, rb_int h'], q _ H (Same.refl H) (.int _)⟩⟩
end
end DL

set_option maxHeartbeats 2000000
/-! Places, slices, kinds, shown texts, dicts. -/
namespace DL
open PySem PySem.Spec PyProof.Rows L2

/-! ### places -/
theorem RpL.atI {mg : Str → Option Value} {K : PySem.W.Frag} {H : Hp} {vs : List V} {ds : List D} {i : Int} {d : D} (r : RpL mg K H vs ds) (e : L2.atI ds i = some d) : ∃ v, L2.atI vs i = some v ∧ Rp mg K H v d := by
  unfold L2.atI at e ⊢
  rw [r.length]
  simp only [Option.bind_eq_some_iff] at e ⊢
  obtain ⟨j, h1, h2⟩ := e
  obtain ⟨v, h3, h4⟩ := r.get h2
  exact ⟨v, ⟨j, h1, h3⟩, h4⟩
def opIx : D → D → Option D
  | .lst xs, .int i => L2.atI xs i
  | .tup xs, .int i => L2.atI xs i
  | .str z, .int i => if z.length ≤ sizeLine then (L2.atI z.cps.toList i).map fun c => .str ⟨#[c]⟩ else none
  | _, _ => none
section
variable {X : Cx} {E : XK} {Γ : List Md} {r ra rb rc : Rm} {e a b c : Expr} {ta tb te : TE} {fa fb fe : Ed} {pos p p2 : Pos} {k kk : Nat} {es : List Expr} {ks : List Ak} {tA : TA} {fA : Ea}
theorem sem_ix : SemOp X.mg X.K (rIx X.K) .f opIx := fun pot M H x y d e z al pm ph rx ry hz Q q => by
  unfold opIx at hz
  split at hz
  · obtain ⟨p, xs, rfl, h1, r1⟩ := rb_lst rx
    obtain ⟨v, hv, rv⟩ := r1.atI hz
    exact .inl ⟨p, xs, _, v, rfl, rb_int ry, .inl (.inl h1), hv, q _ H (Same.refl H) rv⟩
  · obtain ⟨p, xs, rfl, h1, r1⟩ := rb_tup rx
    obtain ⟨v, hv, rv⟩ := r1.atI hz
    exact .inr (.inl ⟨p, xs, _, v, rfl, rb_int ry, sqT_mono less_le h1, hv, q _ H (Same.refl H) rv⟩)
  · split at hz
    · rename_i hl
      simp only [Option.map_eq_some_iff] at hz
      obtain ⟨w, hw, rfl⟩ := hz
      exact .inr (.inr ⟨_, _, w, rb_str rx, rb_int ry, hl, hw, q _ H (Same.refl H) (.str _)⟩)
    · cases hz
  · cases hz
theorem de_ix (ha : DE X E ra Γ a ta fa) (hb : DE X E rb Γ b tb fb) (hs : PlainIx b := by intro _ _; rfl) : DE X E .f Γ (.Subscript a b pos) (tOp (rIx X.K) ta tb) (eBin opIx fa fb) :=
  ⟨pe_ix ix_seq ha.pe hb.pe hs, sem_bin sem_ix ha.sem hb.sem⟩

/-! ### slices -/
abbrev Eo := Rho → Pot → Res (Option Int × Pot)
def oNone : Eo := fun _ π => .ok (none, π)
def oSome (a : Ed) : Eo := fun ρ π => (a ρ π).bind fun x => match x.1 with
  | .int i => .ok (some i, x.2)
  | _ => .stuck
structure DO (X : Cx) (E : XK) (Γ : List Md) (e : Option Expr) (t : TO) (f : Eo) : Prop where
  po : PO X e t
  sem : ∀ pot M σ H ρ π, EnvOk X.mg X.K Γ pot M σ H ρ → PotAt pot H π → ∀ Q : Option Int → Hp → Prop, (match f ρ π with
    | .ok (o, π1) => ∀ H', Grow pot H H' → PotAt pot H' π1 → Q o H'
    | .err c ns xs π1 => PErr X.mg X.K pot M H c ns xs π1 E
    | .stuck => False) → t σ H Q
theorem do_none : DO X E Γ none tNoPart oNone := ⟨po_none, fun pot M σ H ρ π I p Q h => h H .refl p⟩
theorem do_some (ha : DE X E .f Γ a ta fa) : DO X E Γ (some a) (tPart ta) (oSome fa) := ⟨po_some ha.pe, fun pot M σ H ρ π I p Q h => by
  refine ha.sem pot M σ H ρ π I p _ ?_
  unfold oSome at h
  cases ea : fa ρ π with
  | ok x =>
    obtain ⟨d, π1⟩ := x
    rw [ea] at h
    cases d with
    | int i =>
      intro v H1 g1 p1 r1
      exact ⟨i, rb_int (RpR.toB (r := .f) r1), h H1 g1 p1⟩
    | _ => exact h.elim
  | err c ns xs π1 =>
    rw [ea] at h
    exact h
  | stuck =>
    rw [ea] at h
    exact h⟩
def cutD (xs : List D) (lo hi : Option Int) : List D := (xs.drop (HT.sIx xs.length 0 lo)).take (HT.sIx xs.length xs.length hi - HT.sIx xs.length 0 lo)
def fCut (d : D) (lo hi : Option Int) : Option D := match d with
  | .lst xs => some (.lst (cutD xs lo hi))
  | .tup xs => some (.tup (cutD xs lo hi))
  | _ => none
def eSl (a : Ed) (l u : Eo) : Ed := fun ρ π => (a ρ π).bind fun x => (l ρ x.2).bind fun y => (u ρ y.2).bind fun z => (ofO (fCut x.1 y.1 z.1)).bind fun w => .ok (w, z.2)
theorem RpL.cut {mg : Str → Option Value} {K : PySem.W.Frag} {H : Hp} {vs : List V} {ds : List D} (r : RpL mg K H vs ds) (lo hi : Option Int) : RpL mg K H (cutV vs lo hi) (cutD ds lo hi) := by
  unfold cutV cutD
  rw [r.length]
  exact (r.drop _).take _
theorem de_slice {lo hi : Option Expr} {tl th : TO} {fl fh : Eo} (ha : DE X E ra Γ a ta fa) (hl : DO X E Γ lo tl fl) (hu : DO X E Γ hi th fh) : DE X E .f Γ (.Subscript a (.Slice lo hi none p2) pos) (tSl (fun x l u H Q => rSlL X.K x l u H Q ∨ rSlA X.K x l u H Q) ta tl th) (eSl fa fl fh) :=
  ⟨pe_slice (sl_list.or sl_tupA) ha.pe hl.po hu.po, fun pot M σ H ρ π I p Q h => by
    refine Post.seq (r' := ra) (te := ta σ H) h p (fun Q' hq => ha.sem pot M σ H ρ π I p Q' hq) fun d π1 v H1 _ g1 p1 r1 h1 => ?_
    refine hl.sem pot M σ H1 ρ π1 (I.grow g1 p1) p1 _ ?_
    cases el : fl ρ π1 with
    | err c ns xs π2 =>
      rw [el] at h1
      exact h1
    | stuck =>
      rw [el] at h1
      exact h1
    | ok y =>
      obtain ⟨l, π2⟩ := y
      rw [el] at h1
      intro H2 g2 p2
      have h2 := Post.back g2 p1 h1
      refine hu.sem pot M σ H2 ρ π2 (I.grow (g1.trans g2) p2) p2 _ ?_
      simp only [Res.bind_ok] at h2
      cases eu : fh ρ π2 with
      | err c ns xs π3 =>
        rw [eu] at h2
        exact h2
      | stuck =>
        rw [eu] at h2
        exact h2
      | ok z =>
        obtain ⟨u, π3⟩ := z
        rw [eu] at h2
        simp only [Res.bind_ok] at h2
        intro H3 g3 p3
        have h3 := Post.back g3 p2 h2
        have g13 := g2.trans g3
        have I3 := I.grow (g1.trans g13) p3
        have rv := r1.toB.grow I.pm g13
        cases d with
        | lst xs =>
          obtain ⟨q, vs, rfl, hq, rq⟩ := rb_lst rv
          exact .inl ⟨q, vs, rfl, .inl (.inl hq), fun l hn => h3 _ _ (.new hn) (p3.new hn) (new_lstF I3.al hn (rq.cut _ _))⟩
        | tup xs =>
          obtain ⟨q, vs, rfl, hq, rq⟩ := rb_tup rv
          refine .inr ⟨q, vs, rfl, sqT_mono less_le hq, fun hw => ?_, fun hw l hn => h3 _ _ (.new hn) (p3.new hn) (new_tup I3.al hn (rq.cut _ _))⟩
          refine h3 _ H3 .refl p3 (.tup hq ?_)
          have ec : cutD xs l u = xs := by
            unfold cutD
            rw [← rq.length, hw.1, hw.2, List.drop_zero, Nat.sub_zero, rq.length, List.take_length]
          rw [ec]
          exact rq
        | _ => exact h3.elim⟩
def fRev (d : D) : Option D := match d with
  | .lst xs => some (.lst xs.reverse)
  | _ => none
theorem de_revL {j : Nat} {p1 p3 : Pos} (ha : DE X E ra Γ a ta fa) : DE X E .o Γ (.Subscript a (.Slice none none (some (.UnaryOp .USub (.Constant (.int 1) j p1) p2)) p3) pos) (tRevL X.K ta) (eUn fRev fa) :=
  ⟨pe_revL ha.pe, fun pot M σ H ρ π I p Q h => by
    refine Post.seq (r' := ra) (te := ta σ H) h p (fun Q' hq => ha.sem pot M σ H ρ π I p Q' hq) fun d π1 v H1 _ g1 p1 r1 h1 => ?_
    cases d with
    | lst xs =>
      obtain ⟨q, vs, rfl, hq, rq⟩ := rb_lst r1.toB
      exact ⟨q, vs, rfl, .inl (.inl hq), fun l hn => h1 _ _ (.new hn) (p1.new hn) (new_lst p1.has hn rq.reverse)⟩
    | _ => exact h1.elim⟩

/-! ### kinds -/
def tyName : D → Option String
  | .non => some "NoneType"
  | .bl _ => some "bool"
  | .int _ => some "int"
  | .str _ => some "str"
  | .lst _ => some "list"
  | .tup _ => some "tuple"
  | .dic _ _ => some "dict"
  | .ins _ _ _ => none
def isTyB (a b : String) : Bool := a == b || (a == "bool" && b == "int")
def fIs (ns : List String) (d : D) : Option D := (tyName d).map fun a => .bl (ns.any fun b => isTyB a b)
theorem rb_ty {mg : Str → Option Value} {K : PySem.W.Frag} {pot : Option Addr} {M : List Addr} {H : Hp} {x : V} {d : D} {n : String} (h : Rb mg K pot M H x d) (e : tyName d = some n) : TyX K H x (.type n) := by
  have h := rb_rp h
  cases h with
  | non => cases e; exact .base .non
  | bl b => cases e; exact .base (.bl _)
  | int i => cases e; exact .base (.int _)
  | str z => cases e; exact .base (.str _)
  | lst h1 h2 => cases e; exact .base (.lst h1)
  | tup h1 h2 =>
    cases e
    rcases h1 with (h1 | ⟨o, h1⟩) | h1
    · exact .base (.tup h1)
    · exact .fTuple h1
    · obtain ⟨o, its, nn, e1, e2, _⟩ := h1
      exact .kTuple e1 e2
  | dicK h1 h2 =>
    cases e
    rcases h1 with h1 | ⟨o, h1⟩
    · exact .base (.dK h1)
    · exact .fDict h1
  | dicT h1 h2 => cases e; exact .base (.dT h1)
  | ins => cases e
def tyNames : List String := ["NoneType", "bool", "int", "str", "list", "tuple", "dict"]
theorem tyName_mem {d : D} {n : String} (e : tyName d = some n) : n ∈ tyNames := by
  cases d <;> cases e <;> simp [tyNames]
def tyOkB (b : String) : Bool := tyNames.all fun a => kitB a b == some (isTyB a b)
theorem kit_name {K : PySem.W.Frag} {d : D} {n b : String} (e : tyName d = some n) (h : tyOkB b = true) : PySem.W.kitOne K (.type n) (.type b) = some (isTyB n b) := by
  have := List.all_eq_true.mp h n (tyName_mem e)
  exact kit_ty (by simpa using this)
theorem kit_names {K : PySem.W.Frag} {d : D} {n : String} (e : tyName d = some n) : ∀ {bs : List String}, bs.all tyOkB = true → PySem.W.kitAny K (.type n) (bs.map Value.type) = some (bs.any fun b => isTyB n b)
  | [], _ => kitAny_nil
  | b :: bs, h => by
    have h' : tyOkB b = true ∧ bs.all tyOkB = true := by simpa using h
    refine kitAny_cons (kit_name e h'.1) (fun e1 => ?_) fun e1 => ?_
    · rw [kit_names e h'.2]
      simp [e1]
    · simp [e1]
theorem cls_all : ∀ bs : List String, Paired ClsV (bs.map V.ty) (bs.map Value.type)
  | [] => .nil
  | b :: bs => .cons (.ty b) (cls_all bs)
/-- isinstance(e, T) -/
theorem de_isi {x : Str} {T : String} {px : Pos} (hm : X.mg "isinstance" = none) (hmT : X.mg x = none) (ha : DE X E ra Γ a ta fa) (hg : Gl X "isinstance" := by rfl) (hgT : Gl X x := by rfl) (hvT : bootBuiltins x = some (.type T) := by decide +kernel) (hT : tyOkB T = true := by decide +kernel)
    (hn : x ≠ "__name__" := by decide) (hdb : (x == ("__debug__" : Str)) = false := by decide) (hs : starEach [a, .Name x px] X.env = (false, eval a X.env) :: starEach [.Name x px] X.env := by rfl) (hs2 : starEach [.Name x px] X.env = (false, eval (.Name x px) X.env) :: starEach [] X.env := by rfl)
    (hpl : (backTo pos (starEach [.Name x px] X.env)).any (·.1) = false := by rfl) :
    DE X E .f Γ (.Call (.Name "isinstance" p) [a, .Name x px] [] pos) (tCB (rIsi X.K) (tCons ta (tCons (tC (.ty T)) tNil))) (eUn (fIs [T]) fa) :=
  ⟨pe_callB call_isi hg hm (by decide +kernel) (pa_cons ha.pe (pa_cons (pe_bltn hgT hmT hvT rfl hn hdb) pa_nil hs2) hs) (by decide) (by decide) hs hpl, fun pot M σ H ρ π I p Q h => by
    refine Post.seq (r' := ra) (te := ta σ H) h p (fun Q' hq => ha.sem pot M σ H ρ π I p Q' hq) fun d π1 v H1 _ g1 p1 r1 h1 => ?_
    cases et : tyName d with
    | none =>
      simp only [fIs, et, Option.map_none, ofO_none, Res.bind_stuck] at h1
      exact h1.elim
    | some n =>
      simp only [fIs, et, Option.map_some, ofO_some, Res.bind_ok] at h1
      refine ⟨v, .ty T, .type n, .type T, isTyB n T, rfl, .ty T, rb_ty r1.toB et, kit_name et hT, ?_⟩
      have e1 : ([T].any fun b => isTyB n b) = isTyB n T := by simp
      rw [e1] at h1
      exact h1 _ H1 .refl p1 (.bl _)⟩
/-- isinstance(e, (T, U)) -/
theorem de_isi2 {x y : Str} {T U : String} {px py pt : Pos} {j : Nat} (hm : X.mg "isinstance" = none) (hmT : X.mg x = none) (hmU : X.mg y = none) (ha : DE X E ra Γ a ta fa) (hg : Gl X "isinstance" := by rfl) (hgT : Gl X x := by rfl) (hgU : Gl X y := by rfl) (hvT : bootBuiltins x = some (.type T) := by decide +kernel) (hvU : bootBuiltins y = some (.type U) := by decide +kernel) (hT : [T, U].all tyOkB = true := by decide +kernel)
    (hn : x ≠ "__name__" := by decide) (hdb : (x == ("__debug__" : Str)) = false := by decide) (hnU : y ≠ "__name__" := by decide) (hdbU : (y == ("__debug__" : Str)) = false := by decide)
    (hs : starEach [a, .Tuple [.Name x px, .Name y py] j pt] X.env = (false, eval a X.env) :: starEach [.Tuple [.Name x px, .Name y py] j pt] X.env := by rfl) (hs2 : starEach [.Tuple [.Name x px, .Name y py] j pt] X.env = (false, eval (.Tuple [.Name x px, .Name y py] j pt) X.env) :: starEach [] X.env := by rfl)
    (hs3 : starEach [.Name x px, .Name y py] X.env = (false, eval (.Name x px) X.env) :: starEach [.Name y py] X.env := by rfl) (hs4 : starEach [.Name y py] X.env = (false, eval (.Name y py) X.env) :: starEach [] X.env := by rfl)
    (hpl : (backTo pos (starEach [.Tuple [.Name x px, .Name y py] j pt] X.env)).any (·.1) = false := by rfl) :
    DE X E .f Γ (.Call (.Name "isinstance" p) [a, .Tuple [.Name x px, .Name y py] j pt] [] pos) (tCB (rIsiT X.K) (tCons ta (tCons (tTup (tCons (tC (.ty T)) (tCons (tC (.ty U)) tNil))) tNil))) (eUn (fIs [T, U]) fa) :=
  ⟨pe_callB call_isiT hg hm (by decide +kernel) (pa_cons ha.pe (pa_cons (pe_tup (pa_cons (pe_bltn hgT hmT hvT rfl hn hdb) (pa_cons (pe_bltn hgU hmU hvU rfl hnU hdbU) pa_nil hs4) hs3)) pa_nil hs2) hs) (by decide) (by decide) hs hpl, fun pot M σ H ρ π I p Q h => by
    refine Post.seq (r' := ra) (te := ta σ H) h p (fun Q' hq => ha.sem pot M σ H ρ π I p Q' hq) fun d π1 v H1 _ g1 p1 r1 h1 => ?_
    cases et : tyName d with
    | none =>
      simp only [fIs, et, Option.map_none, ofO_none, Res.bind_stuck] at h1
      exact h1.elim
    | some n =>
      simp only [fIs, et, Option.map_some, ofO_some, Res.bind_ok] at h1
      refine ⟨by show 2 ≤ sizeLine; rw [sizeLine_eq]; omega, fun l hn => ?_⟩
      refine ⟨v, l, [T, U].map V.ty, .type n, [T, U].map Value.type, _, rfl, upd_same, cls_all _, ?_, kit_names et hT, h1 _ _ (.new hn) (p1.new hn) (.bl _)⟩
      exact rb_ty (r1.toB.grow I.pm (.new hn)) et⟩
end
end DL

set_option maxHeartbeats 2000000
/-! Shown texts, dicts, ranges as lists, the pot, the script. -/
namespace DL
open PySem PySem.Spec PyProof.Rows L2

/-! ### repr, str -/
def showD (d : D) : Option Str := match toPy d with
  | some p => if PyData.showable p && !PyData.hasDict p && decide (PyData.depth p ≤ 60) && decide (p.shown.length ≤ sizeLine) then some p.shown else none
  | none => none
def fRepr : List D → Option D
  | [d] => (showD d).map .str
  | _ => none
/-- str(x) of a list or a tuple -/
def fStrL : List D → Option D
  | [.lst xs] => (showD (.lst xs)).map .str
  | [.tup xs] => (showD (.tup xs)).map .str
  | [.str z] => some (.str z)
  | _ => none
theorem showD_eq {d : D} {z : Str} (h : showD d = some z) : ∃ p, toPy d = some p ∧ p.showable = true ∧ p.hasDict = false ∧ p.depth ≤ 60 ∧ p.shown.length ≤ sizeLine ∧ z = p.shown := by
  unfold showD at h
  split at h
  · rename_i p e
    split at h
    · rename_i c
      simp only [Bool.and_eq_true, Bool.not_eq_true', decide_eq_true_eq] at c
      cases h
      exact ⟨p, e, c.1.1.1, c.1.1.2, c.1.2, c.2, rfl⟩
    · cases h
  · cases h
section
variable {X : Cx} {E : XK} {k : Nat}
def rRepr (K : PySem.W.Frag) : List V → Hp → VK → Prop := fun vs H Q => ∃ v p, vs = [v] ∧ Dp K H v p ∧ p.showable = true ∧ p.hasDict = false ∧ p.depth ≤ 60 ∧ p.shown.length ≤ sizeLine ∧ Q (.str p.shown) H
theorem cr_repr (x : XOk X E k) : CallR X (.builtin "repr") (rRepr X.K) := by
  intro pins s σ H xs us Q I r h
  obtain ⟨v, p, rfl, hd, h1, h2, h3, h4, q⟩ := h
  obtain ⟨u, rfl, ru⟩ := r.one
  obtain ⟨as, rd⟩ := Dp.reads I p v u hd ru
  have hu : X.A.units + (p.depth + 1) < cLine := by
    have := x.u64
    omega
  cases hd with
  | non =>
    cases (show u = Value.none from ru)
    exact PySem.P.repr_of_none ⟨.str _, H, I.tok _, ⟨_, rfl⟩, q⟩
  | bl b =>
    cases (show u = Value.bool b from ru)
    refine PySem.P.repr_of_bool ⟨.str _, H, I.tok _, ⟨_, rfl⟩, ?_⟩
    cases b <;> exact q
  | int i =>
    obtain ⟨t, e⟩ := (show ∃ t, u = Value.int i t from ru)
    subst e
    refine PySem.P.repr_of_int (by simpa [PyData.showable] using h1) ⟨.str _, H, I.tok _, ⟨_, rfl⟩, q⟩
  | str z =>
    obtain ⟨t, e⟩ := (show ∃ t, u = Value.str z t from ru)
    subst e
    exact PySem.P.repr_of_str ⟨.str _, H, I.tok _, ⟨_, rfl⟩, q⟩ h4
  | lst a b =>
    cases ru
    exact repr_of_reads' rd h1 (PyData.noDict_hsm h2) x.gd hu (fun _ _ e => e) (fun h' u tk hk => ⟨.str _, H, I.kept (t' := tk) hk, ⟨_, rfl⟩, q⟩) h4
  | tup a b =>
    cases ru
    exact repr_of_reads' rd h1 (PyData.noDict_hsm h2) x.gd hu (fun _ _ e => e) (fun h' u tk hk => ⟨.str _, H, I.kept (t' := tk) hk, ⟨_, rfl⟩, q⟩) h4
theorem c_repr (x : XOk X E k) : CallOk X (.builtin "repr") (rRepr X.K) [.b] .f fRepr := ⟨cr_repr x, fun pot M H vs ds z al pm ph a hz Q q => by
  obtain ⟨v, d, rfl, rfl, h⟩ := arg1 a
  simp only [fRepr, Option.map_eq_some_iff] at hz
  obtain ⟨w, hw, rfl⟩ := hz
  obtain ⟨p, e, h1, h2, h3, h4, rfl⟩ := showD_eq hw
  exact ⟨v, p, rfl, (rb_rp h).dp e, h1, h2, h3, h4, q _ H (Same.refl H) (.str _)⟩⟩
def rStrL (K : PySem.W.Frag) : List V → Hp → VK → Prop := fun vs H Q => ∃ a p, vs = [.ref a] ∧ Dp K H (.ref a) p ∧ p.showable = true ∧ p.hasDict = false ∧ p.depth ≤ 60 ∧ p.shown.length ≤ sizeLine ∧ Q (.str p.shown) H
theorem cr_strL (x : XOk X E k) : CallR X (.type "str") (rStrL X.K) := by
  intro pins s σ H xs us Q I r h
  obtain ⟨a, p, rfl, hd, h1, h2, h3, h4, q⟩ := h
  obtain ⟨u, rfl, ru⟩ := r.one
  obtain ⟨as, rd⟩ := Dp.reads I p _ u hd ru
  have hu : X.A.units + (p.depth + 3) < cLine := by
    have := x.u64
    omega
  cases ru
  exact str_of_reads rd h1 (PyData.noDict_hsm h2) x.gd hu (fun _ _ e => e) (fun h' u tk hk => ⟨.str _, H, I.kept (t' := tk) hk, ⟨_, rfl⟩, q⟩) h4
def fStr : List D → Option D
  | [.lst xs] => (showD (.lst xs)).map .str
  | [.tup xs] => (showD (.tup xs)).map .str
  | _ => none
theorem c_strL (x : XOk X E k) : CallOk X (.type "str") (rStrL X.K) [.b] .f fStr := ⟨cr_strL x, fun pot M H vs ds z al pm ph a hz Q q => by
  obtain ⟨v, d, rfl, rfl, h⟩ := arg1 a
  cases d with
  | lst xs =>
    simp only [fStr, Option.map_eq_some_iff] at hz
    obtain ⟨w, hw, rfl⟩ := hz
    obtain ⟨p, e, h1, h2, h3, h4, rfl⟩ := showD_eq hw
    obtain ⟨b, ys, rfl, _⟩ := rb_lst h
    exact ⟨b, p, rfl, (rb_rp h).dp e, h1, h2, h3, h4, q _ H (Same.refl H) (.str _)⟩
  | tup xs =>
    simp only [fStr, Option.map_eq_some_iff] at hz
    obtain ⟨w, hw, rfl⟩ := hz
    obtain ⟨p, e, h1, h2, h3, h4, rfl⟩ := showD_eq hw
    obtain ⟨b, ys, rfl, _⟩ := rb_tup h
    exact ⟨b, p, rfl, (rb_rp h).dp e, h1, h2, h3, h4, q _ H (Same.refl H) (.str _)⟩
  | _ => cases hz⟩
end

/-! ### dicts with int keys, made at once -/
def keyOf : D → Option Key
  | .int i => some (.inl i)
  | .str x => some (.inr x)
  | _ => none
def pairsOf : List D → Option (List (Key × D))
  | [] => some []
  | .tup [a, b] :: r => match keyOf a, pairsOf r with
    | some k, some ps => some ((k, b) :: ps)
    | _, _ => none
  | _ :: _ => none
def putD (kvs : List (Key × D)) (k : Key) (v : D) : List (Key × D) :=
  if (kvs.any fun kv => decide (kv.1 = k)) = true then kvs.map (fun kv => if kv.1 = k then (kv.1, v) else kv) else kvs ++ [(k, v)]
def mergeD (kvs more : List (Key × D)) : List (Key × D) := more.foldl (fun acc kv => putD acc kv.1 kv.2) kvs
def dicOf (ps : List (Key × D)) : D := .dic (ps.map fun p => .inl p.1) (ps.map (·.2))
def fDict : List D → Option D
  | [.lst xs] => (pairsOf xs).map fun ps => dicOf (mergeD [] ps)
  | _ => none
section
variable {mg : Str → Option Value} {K : PySem.W.Frag} {H : Hp}
abbrev KvR (mg : Str → Option Value) (K : PySem.W.Frag) (H : Hp) := Paired fun (p : Key × V) (q : Key × D) => p.1 = q.1 ∧ Rp mg K H p.2 q.2
theorem kv_put {v : V} {d : D} {k : Key} (h : Rp mg K H v d) : ∀ {ps : List (Key × V)} {qs : List (Key × D)}, KvR mg K H ps qs → KvR mg K H (putK ps k v) (putD qs k d) := by
  have any_eq : ∀ {ps : List (Key × V)} {qs : List (Key × D)}, KvR mg K H ps qs → (ps.any fun kv => decide (kv.1 = k)) = (qs.any fun kv => decide (kv.1 = k)) := by
    intro ps qs r
    induction r with
    | nil => rfl
    | cons a t ih => simp only [List.any_cons, ih, a.1]
  have map_r : ∀ {ps : List (Key × V)} {qs : List (Key × D)}, KvR mg K H ps qs → KvR mg K H (ps.map (fun kv => if kv.1 = k then (kv.1, v) else kv)) (qs.map (fun kv => if kv.1 = k then (kv.1, d) else kv)) := by
    intro ps qs r
    induction r with
    | nil => exact .nil
    | @cons p q ps qs a t ih =>
      refine .cons ?_ ih
      show ((if p.1 = k then (p.1, v) else p) : Key × V).1 = ((if q.1 = k then (q.1, d) else q) : Key × D).1 ∧ Rp mg K H ((if p.1 = k then (p.1, v) else p) : Key × V).2 ((if q.1 = k then (q.1, d) else q) : Key × D).2
      by_cases e : q.1 = k
      · rw [if_pos e, if_pos (by rw [a.1]; exact e)]
        exact ⟨a.1, h⟩
      · rw [if_neg e, if_neg (by rw [a.1]; exact e)]
        exact a
  have app_r : ∀ {ps : List (Key × V)} {qs : List (Key × D)}, KvR mg K H ps qs → KvR mg K H (ps ++ [(k, v)]) (qs ++ [(k, d)]) := by
    intro ps qs r
    induction r with
    | nil => exact .cons ⟨rfl, h⟩ .nil
    | cons a t ih => exact .cons a ih
  intro ps qs r
  unfold putK putD
  rw [any_eq r]
  split
  · exact map_r r
  · exact app_r r
theorem kv_merge : ∀ {ms : List (Key × V)} {ns : List (Key × D)}, KvR mg K H ms ns → ∀ {ps : List (Key × V)} {qs : List (Key × D)}, KvR mg K H ps qs → KvR mg K H (mergeK ps ms) (mergeD qs ns) := by
  intro ms ns r
  induction r with
  | nil => exact fun q => q
  | @cons p q ms ns a t ih =>
    intro ps qs r
    have e := kv_put (k := q.1) a.2 r
    show KvR mg K H (mergeK (putK ps p.1 p.2) ms) (mergeD (putD qs q.1 q.2) ns)
    rw [a.1]
    exact ih e
theorem kv_rp : ∀ {ps : List (Key × V)} {qs : List (Key × D)}, KvR mg K H ps qs → RpL mg K H (ps.map (·.2)) (qs.map (·.2)) ∧ (ps.map fun p => (.inl p.1 : DKey)) = qs.map fun p => .inl p.1 := by
  intro ps qs r
  induction r with
  | nil => exact ⟨.nil, rfl⟩
  | cons a t ih => exact ⟨.cons a.2 ih.1, by simp only [List.map_cons, ih.2, a.1]⟩
theorem key_v {v : V} {d : D} {k : Key} (h : Rp mg K H v d) (e : keyOf d = some k) : v = kV k := by
  cases h <;> cases e <;> rfl
theorem pairs_at : ∀ {vs : List V} {ds : List D} {qs : List (Key × D)}, RpL mg K H vs ds → pairsOf ds = some qs → ∃ (as : List Addr) (ps : List (Key × V)), vs = as.map V.ref ∧ Paired (fun p kv => SqT K H p [kV kv.1, kv.2]) as ps ∧ KvR mg K H ps qs
  | _, _, qs, .nil, e => by
    cases e
    exact ⟨[], [], rfl, .nil, .nil⟩
  | _, _, qs, .cons (v := v) (vs := vs) (d := d) (ds := ds) h r, e => by
    cases d with
    | tup xs =>
      match xs, h, e with
      | [a, b], h, e =>
        simp only [pairsOf] at e
        split at e
        · rename_i k ps e1 e2
          cases e
          obtain ⟨as, ps', rfl, h3, h4⟩ := pairs_at r e2
          cases h with
          | tup h5 h6 =>
            cases h6 with
            | cons h7 h8 =>
              cases h8 with
              | cons h9 h10 =>
                cases h10
                have ek := key_v h7 e1
                subst ek
                exact ⟨_ :: as, (k, _) :: ps', rfl, .cons h5 h3, .cons ⟨rfl, h9⟩ h4⟩
        · cases e
      | [], h, e => cases e
      | [_], h, e => cases e
      | _ :: _ :: _ :: _, h, e => cases e
    | _ => cases e
end
section
variable {X : Cx} {E : XK} {Γ : List Md} {r ra rb rc : Rm} {e a b c : Expr} {ta tb te : TE} {fa fb fe : Ed} {pos p p2 : Pos} {k kk : Nat} {es : List Expr} {ks : List Ak} {tA : TA} {fA : Ea}
theorem Paired.mono' {α β : Type} {F G : α → β → Prop} (h : ∀ a b, F a b → G a b) : ∀ {l : List α} {m : List β}, Paired F l m → Paired G l m
  | _, _, .nil => .nil
  | _, _, .cons a t => .cons (h _ _ a) (Paired.mono' h t)
theorem c_dict (x : XOk X E k) : CallOk X (.type "dict") (fun xs H Q => ∃ (a : Addr) (ps : List Addr) (kvs : List (Key × V)), xs = [.ref a] ∧ SqL X.K H a (ps.map V.ref) ∧ Paired (fun p kv => SqT X.K H p [kV kv.1, kv.2]) ps kvs ∧
    ∀ p, H p = none → Q (.ref p) (upd H p (.dK (mergeK [] kvs)))) [.b] .f fDict := ⟨call_dictP x.calm, fun pot M H vs ds z al pm ph a hz Q q => by
  obtain ⟨v, d, rfl, rfl, h⟩ := arg1 a
  cases d with
  | lst xs =>
    simp only [fDict, Option.map_eq_some_iff] at hz
    obtain ⟨qs, hq, rfl⟩ := hz
    obtain ⟨b, ys, rfl, h1, r1⟩ := rb_lst h
    obtain ⟨as, ps, rfl, h2, h3⟩ := pairs_at r1 hq
    refine ⟨b, as, ps, rfl, .inl (.inl h1), Paired.mono' (fun _ _ z => sqT_mono less_le z) h2, fun l hn => q _ _ (same_upd hn) ?_⟩
    have h4 := kv_merge h3 (.nil : KvR X.mg X.K (less H M) [] [])
    obtain ⟨h5, h6⟩ := kv_rp h4
    unfold dicOf
    rw [← h6]
    exact .dicK (.inl (less_some.mpr ⟨fun m => al l m hn, upd_same⟩)) (h5.mono (less_new1 hn))
  | _ => cases hz⟩
/-- {} -/
theorem de_dict0 : DE X E .f Γ (.Dict [] [] pos) tDNewK (eC (.dic [] [])) := ⟨pe_dnewK, fun pot M σ H ρ π I p Q h q hn => h _ _ (.new hn) (p.new hn) (.dicK (kvs := []) (.inl (less_some.mpr ⟨fun m => I.al q m hn, upd_same⟩)) .nil)⟩

/-! ### list(range(..)) -/
def rgOk (a b : Int) : Bool := decide (-(2 ^ 62) ≤ a ∧ a < 2 ^ 62 ∧ -(2 ^ 62) ≤ b ∧ b < 2 ^ 62 ∧ (b - a).toNat ≤ 2 ^ 24)
def rgD (a b : Int) : List D := (List.range (b - a).toNat).map fun (i : Nat) => .int (a + (i : Int))
theorem rg_r {mg : Str → Option Value} {K : PySem.W.Frag} {H : Hp} (a b : Int) : RpL mg K H (rgV a b) (rgD a b) := by
  have e1 : rgV a b = ((List.range (b - a).toNat).map fun (i : Nat) => a + (i : Int)).map V.int := by
    unfold rgV
    rw [List.map_map]
    rfl
  have e2 : rgD a b = DL.iz ((List.range (b - a).toNat).map fun (i : Nat) => a + (i : Int)) := by
    unfold rgD DL.iz
    rw [List.map_map]
    rfl
  rw [e1, e2]
  exact RpL.of_ints _
def fRg1 (d : D) : Option D := match d with
  | .int j => if rgOk 0 j then some (.lst (rgD 0 j)) else none
  | _ => none
def fRg2 (d e : D) : Option D := match d, e with
  | .int i, .int j => if rgOk i j then some (.lst (rgD i j)) else none
  | _, _ => none
theorem rgOk_of {a b : Int} (h : rgOk a b = true) : RgOk a b := by
  unfold rgOk at h
  exact (decide_eq_true_iff.mp h : _ ∧ _)
theorem de_listRg1 {pr : Pos} (x : XOk X E k) (hm : X.mg "list" = none) (hm2 : X.mg "range" = none) (ha : DE X E .f Γ a ta fa) (hg : Gl X "list" := by rfl) (hg2 : Gl X "range" := by rfl) (n1 : starEach [a] X.env = (false, eval a X.env) :: starEach [] X.env := by rfl)
    (n2 : starEach [.Call (.Name "range" pr) [a] [] p2] X.env = (false, eval (.Call (.Name "range" pr) [a] [] p2) X.env) :: starEach [] X.env := by rfl) :
    DE X E .o Γ (.Call (.Name "list" p) [.Call (.Name "range" pr) [a] [] p2] [] pos) (tLstRg (tRg1 ta)) (eUn fRg1 fa) :=
  ⟨pe_listRg x.calm hg hm (prg_1 hg2 hm2 ha.pe n1) n2, fun pot M σ H ρ π I p Q h => by
    refine Post.seq (r' := .f) (te := ta σ H) h p (fun Q' hq => ha.sem pot M σ H ρ π I p Q' hq) fun d π1 v H1 _ g1 p1 r1 h1 => ?_
    cases d with
    | int j =>
      simp only [fRg1] at h1
      split at h1
      · rename_i hj
        exact ⟨j, rb_int (RpR.toB (r := .f) r1), rgOk_of hj, fun l hn => h1 _ _ (.new hn) (p1.new hn) (new_lst p1.has hn (rg_r _ _))⟩
      · exact h1.elim
    | _ => exact h1.elim⟩
theorem de_listRg2 {pr : Pos} (x : XOk X E k) (hm : X.mg "list" = none) (hm2 : X.mg "range" = none) (ha : DE X E .f Γ a ta fa) (hb : DE X E .f Γ b tb fb) (hg : Gl X "list" := by rfl) (hg2 : Gl X "range" := by rfl) (n1 : starEach [a, b] X.env = (false, eval a X.env) :: starEach [b] X.env := by rfl)
    (n3 : starEach [b] X.env = (false, eval b X.env) :: starEach [] X.env := by rfl) (n4 : (backTo p2 (starEach [b] X.env)).any (·.1) = false := by rfl)
    (n2 : starEach [.Call (.Name "range" pr) [a, b] [] p2] X.env = (false, eval (.Call (.Name "range" pr) [a, b] [] p2) X.env) :: starEach [] X.env := by rfl) :
    DE X E .o Γ (.Call (.Name "list" p) [.Call (.Name "range" pr) [a, b] [] p2] [] pos) (tLstRg (tRg2 ta tb)) (eBin fRg2 fa fb) :=
  ⟨pe_listRg x.calm hg hm (prg_2 hg2 hm2 ha.pe hb.pe n1 n3 n4) n2, fun pot M σ H ρ π I p Q h => by
    refine Post.seq (r' := .f) (te := ta σ H) h p (fun Q' hq => ha.sem pot M σ H ρ π I p Q' hq) fun d π1 v H1 _ g1 p1 r1 h1 => ?_
    refine Post.seq (r' := .f) (te := tb σ H1) h1 p1 (fun Q' hq => hb.sem pot M σ H1 ρ π1 (I.grow g1 p1) p1 Q' hq) fun d2 π2 v2 H2 _ g2 p2 r2 h2 => ?_
    cases d with
    | int i =>
      cases d2 with
      | int j =>
        simp only [fRg2] at h2
        split at h2
        · rename_i hj
          exact ⟨i, j, rb_int (RpR.toB (r := .f) r1), rb_int (RpR.toB (r := .f) r2), rgOk_of hj, fun l hn => h2 _ _ (.new hn) (p2.new hn) (new_lst p2.has hn (rg_r _ _))⟩
        · exact h2.elim
      | _ => exact h2.elim
    | _ => exact h2.elim⟩

/-! ### the script -/
def eSix (i : Nat) (fb : Ed) : Ed := fun ρ π => (fb ρ π).bind fun y => match ρ[i]? with
  | some (some d) => (ofO (opIx d y.1)).bind fun z => .ok (z, y.2)
  | _ => .stuck
theorem atI_map {α β : Type} (f : α → β) (xs : List α) (i : Int) : L2.atI (xs.map f) i = (L2.atI xs i).map f := by
  unfold L2.atI
  rw [List.length_map]
  cases ixN xs.length i <;> simp
theorem de_six (i : Nat) {x : Str} {px : Pos} (hb : DE X E .f Γ b tb fb) (hN : X.N[i]? = some x := by rfl) (hv : Vis X.env.scope x := by first | exact Or.inl rfl | exact Or.inr (Or.inl rfl) | exact Or.inr (Or.inr rfl)) (hΓ : Γ[i]? = some .s := by rfl)
    (hd : (x == ("__debug__" : Str)) = false := by decide) (hcd : (x == ("__classdict__" : Str)) = false := by decide) (hs : PlainIx b := by intro _ _; rfl) :
    DE X E .f Γ (.Subscript (.Name x px) b pos) (tOp (rIx X.K) (tVar i) tb) (eBin opIx (eVar i) fb) :=
  ⟨pe_ix ix_seq (pe_var hN hv hd hcd) hb.pe hs, fun pot M σ H ρ π I p Q h => by
    unfold eBin eVar at h
    split at h
    · rename_i d er
      obtain ⟨c, ns, e1, rfl, hq⟩ := I.s i d hΓ er
      refine ⟨_, e1, ?_⟩
      simp only [Res.bind_ok] at h
      refine Post.seq (r' := .f) (te := tb σ H) h p (fun Q' hq => hb.sem pot M σ H ρ π I p Q' hq) fun d π1 v H1 _ g1 p1 r1 h1 => ?_
      cases d with
      | int j =>
        cases ez : L2.atI ns j with
        | none =>
          simp only [opIx, DL.iz, atI_map, ez, Option.map_none, ofO_none, Res.bind_stuck] at h1
          exact h1.elim
        | some n =>
          simp only [opIx, DL.iz, atI_map, ez, Option.map_some, ofO_some, Res.bind_ok] at h1
          exact .inl ⟨c, _, j, .int n, rfl, rb_int (RpR.toB (r := .f) r1), sqL_mono less_le (sqL_mono (less_grow I.pm g1) hq), by rw [atI_map, ez]; rfl, h1 _ H1 .refl p1 (.int _)⟩
      | _ => exact h1.elim
    · exact h.elim⟩

/-! ### the pot -/
theorem de_pot0 (i : Nat) {x : Str} {px pc : Pos} {j : Nat} (hN : X.N[i]? = some x := by rfl) (hv : Vis X.env.scope x := by first | exact Or.inl rfl | exact Or.inr (Or.inl rfl) | exact Or.inr (Or.inr rfl)) (hΓ : Γ[i]? = some .p := by rfl)
    (hd : (x == ("__debug__" : Str)) = false := by decide) (hcd : (x == ("__classdict__" : Str)) = false := by decide) :
    DE X E .f Γ (.Subscript (.Name x px) (.Constant (.int 0) j pc) pos) (tOp (rIx X.K) (tVar i) (tC (.int 0))) ePot0 :=
  ⟨pe_ix ix_seq (pe_var hN hv hd hcd) pe_int (by intro _ _; rfl), fun pot M σ H ρ π I p Q h => by
    obtain ⟨c, e, e1⟩ := I.p i hΓ
    exact ⟨_, e1, .inl ⟨c, _, 0, .int π.1, rfl, rfl, .inl (.inl (p c e)), rfl, h _ H .refl p (.int _)⟩⟩⟩
theorem de_pot1 (i : Nat) {x : Str} {px pc : Pos} {j : Nat} (hN : X.N[i]? = some x := by rfl) (hv : Vis X.env.scope x := by first | exact Or.inl rfl | exact Or.inr (Or.inl rfl) | exact Or.inr (Or.inr rfl)) (hΓ : Γ[i]? = some .p := by rfl)
    (hd : (x == ("__debug__" : Str)) = false := by decide) (hcd : (x == ("__classdict__" : Str)) = false := by decide) :
    DE X E .f Γ (.Subscript (.Name x px) (.Constant (.int 1) j pc) pos) (tOp (rIx X.K) (tVar i) (tC (.int 1))) ePot1 :=
  ⟨pe_ix ix_seq (pe_var hN hv hd hcd) pe_int (by intro _ _; rfl), fun pot M σ H ρ π I p Q h => by
    obtain ⟨c, e, e1⟩ := I.p i hΓ
    exact ⟨_, e1, .inl ⟨c, _, 1, .int π.2, rfl, rfl, .inl (.inl (p c e)), rfl, h _ H .refl p (.int _)⟩⟩⟩
theorem ds_pot1 (i : Nat) {Γl : List Md} {x : Str} {px pc : Pos} {j : Nat} (he : DE X E .f Γ e te fe) (hN : X.N[i]? = some x := by rfl) (hv : Vis X.env.scope x := by first | exact Or.inl rfl | exact Or.inr (Or.inl rfl) | exact Or.inr (Or.inr rfl)) (hΓ : Γ[i]? = some .p := by rfl)
    (hd : (x == ("__debug__" : Str)) = false := by decide) (hcd : (x == ("__classdict__" : Str)) = false := by decide)
    (ha : ∀ v, assign (.Subscript (.Name x px) (.Constant (.int 1) j pc) p2) X.env v = (do let ov ← holding [v] (eval (.Name x px) X.env); let iv ← holding [v, ov] (eval (.Constant (.int 1) j pc) X.env); standAt p2; holding [v, ov, iv] (setItem ov iv v); release [v, ov, iv] []) := by intro _; rfl)
    (h1 : swapsWithSole [.Subscript (.Name x px) (.Constant (.int 1) j pc) p2] e pos.line X.env = pure false := by rfl) (h2 : swappedStores [.Subscript (.Name x px) (.Constant (.int 1) j pc) p2] e X.env = pure none := by rfl)
    (h3 : (assignEach [.Subscript (.Name x px) (.Constant (.int 1) j pc) p2] X.env).map (·.2) = [assign (.Subscript (.Name x px) (.Constant (.int 1) j pc) p2) X.env] := by rfl) :
    DS X E r Γl Γ Γ (.Assign [.Subscript (.Name x px) (.Constant (.int 1) j pc) p2] e pos) (tAsg te (gSub (tVar i) (tC (.int 1)) rSetL)) (sPot1 fe) :=
  ⟨ps_asg he.pe (pg_sub (pe_var hN hv hd hcd) pe_int set_list ha) h1 h2 h3, fun pot M0 H0 B M σ H ρ π D' S p h => by
    refine PostS.seq (r' := .f) (te := te σ H) h S (fun Q' hq => he.sem pot M σ H ρ π S.env p Q' hq) fun d π1 v H1 _ g1 p1 q1 h1 => ?_
    have S1 := S.grow g1 p1
    cases d with
    | int n =>
      cases rb_int (RpR.toB (r := .f) q1)
      obtain ⟨c, e, e1⟩ := S1.env.p i hΓ
      exact ⟨_, e1, c, _, 1, 1, rfl, rfl, p1 c e, rfl, h1 M σ _ (S1.potset e π1.1 n) fun a ea => by rw [e] at ea; cases ea; exact upd_same⟩
    | _ => exact h1.elim⟩
/-- pot[0], d = divmod(pot[0], n) -/
theorem ds_potdm (i j : Nat) {Γl : List Md} {x y : Str} {px pc py pt pd qx qc q2 qpos : Pos} {u u2 kt : Nat} (o : XOk X E k) (hm : X.mg "divmod" = none) (he : DE X E .f Γ e te fe) (hΓ : Γ[i]? = some .p := by rfl) (hΓ2 : Γ[j]? = some .f := by rfl) (hN : X.N[i]? = some x := by rfl) (hN2 : X.N[j]? = some y := by rfl) (hv : Vis X.env.scope x := by first | exact Or.inl rfl | exact Or.inr (Or.inl rfl) | exact Or.inr (Or.inr rfl))
    (hy : Loc X.env.scope y := by first | exact Or.inl rfl | exact Or.inr rfl) (hf : X.fn y = true ∨ X.env.scope.names.lookup y = some .local := by first | exact .inl rfl | exact .inr rfl)
    (hd : (x == ("__debug__" : Str)) = false := by decide) (hcd : (x == ("__classdict__" : Str)) = false := by decide) (hg : Gl X "divmod" := by rfl)
    (ha : ∀ v, assign (.Subscript (.Name x px) (.Constant (.int 0) u pc) p2) X.env v = (do let ov ← holding [v] (eval (.Name x px) X.env); let iv ← holding [v, ov] (eval (.Constant (.int 0) u pc) X.env); standAt p2; holding [v, ov, iv] (setItem ov iv v); release [v, ov, iv] []) := by intro _; rfl)
    (s1 : starEach [.Subscript (.Name x qx) (.Constant (.int 0) u2 qc) q2, e] X.env = (false, eval (.Subscript (.Name x qx) (.Constant (.int 0) u2 qc) q2) X.env) :: starEach [e] X.env := by rfl) (s2 : starEach [e] X.env = (false, eval e X.env) :: starEach [] X.env := by rfl) (hpl : (backTo qpos (starEach [e] X.env)).any (·.1) = false := by rfl)
    (m1 : (assignEach [.Subscript (.Name x px) (.Constant (.int 0) u pc) p2, .Name y py] X.env).map (·.2) = assign (.Subscript (.Name x px) (.Constant (.int 0) u pc) p2) X.env :: (assignEach [.Name y py] X.env).map (·.2) := by rfl) (m2 : (assignEach [.Name y py] X.env).map (·.2) = assign (.Name y py) X.env :: (assignEach [] X.env).map (·.2) := by rfl)
    (m3 : (assignEach [.Subscript (.Name x px) (.Constant (.int 0) u pc) p2, .Name y py] X.env).length = 2 := by rfl) (m4 : (assignEach [.Subscript (.Name x px) (.Constant (.int 0) u pc) p2, .Name y py] X.env).findIdx? (·.1) = none := by rfl)
    (h1 : swapsWithSole [.Tuple [.Subscript (.Name x px) (.Constant (.int 0) u pc) p2, .Name y py] kt pt] (.Call (.Name "divmod" pd) [.Subscript (.Name x qx) (.Constant (.int 0) u2 qc) q2, e] [] qpos) pos.line X.env = pure false := by rfl)
    (h2 : swappedStores [.Tuple [.Subscript (.Name x px) (.Constant (.int 0) u pc) p2, .Name y py] kt pt] (.Call (.Name "divmod" pd) [.Subscript (.Name x qx) (.Constant (.int 0) u2 qc) q2, e] [] qpos) X.env = pure none := by rfl)
    (h3 : (assignEach [.Tuple [.Subscript (.Name x px) (.Constant (.int 0) u pc) p2, .Name y py] kt pt] X.env).map (·.2) = [assign (.Tuple [.Subscript (.Name x px) (.Constant (.int 0) u pc) p2, .Name y py] kt pt) X.env] := by rfl) :
    DS X E r Γl Γ Γ (.Assign [.Tuple [.Subscript (.Name x px) (.Constant (.int 0) u pc) p2, .Name y py] kt pt] (.Call (.Name "divmod" pd) [.Subscript (.Name x qx) (.Constant (.int 0) u2 qc) q2, e] [] qpos) pos)
      (tAsg (tCB (fun xs H Q => ∃ i j, xs = [.int i, .int j] ∧ CDivP i j ∧ ∀ p, H p = none → Q (.ref p) (upd H p (.tup [.int (i / j), .int (i % j)]))) (tCons (tOp (rIx X.K) (tVar i) (tC (.int 0))) (tCons te tNil))) (gTup X.K 2 (gCons (gSub (tVar i) (tC (.int 0)) rSetL) (gCons (gName j) gNil)))) (sPotDm j fe) :=
  ⟨ps_asg (pe_callB call_divmodW hg hm (by decide +kernel) (pa_cons (pe_ix ix_seq (pe_var hN hv hd hcd) pe_int (by intro _ _; rfl)) (pa_cons he.pe pa_nil s2) s1) (by decide) (by decide) s1 hpl) (pg_tup o.calm (pgs_cons (pg_sub (pe_var hN hv hd hcd) pe_int set_list ha) (pgs_cons (pg_name o.nd hN2 hy hf) pgs_nil m2) m1) m3 m4) h1 h2 h3, fun pot M0 H0 B M σ H ρ π D' S p h => by
    obtain ⟨c, e, e1⟩ := S.env.p i hΓ
    refine ⟨_, e1, .inl ⟨c, _, 0, .int π.1, rfl, rfl, .inl (.inl (p c e)), rfl, ?_⟩⟩
    refine PostS.seq (r' := .f) (te := te σ H) h S (fun Q' hq => he.sem pot M σ H ρ π S.env p Q' hq) fun d π1 v H1 _ g1 p1 q1 h1 => ?_
    have S1 := S.grow g1 p1
    cases d with
    | int n =>
      cases rb_int (RpR.toB (r := .f) q1)
      simp only at h1
      split at h1
      · rename_i hdv
        unfold divOk at hdv
        simp only [Bool.and_eq_true, decide_eq_true_eq, Bool.not_eq_true'] at hdv
        refine ⟨π.1, n, rfl, hdv, fun T hT => ?_⟩
        have S2 := S1.grow (.new (o := .tup [.int (π.1 / n), .int (π.1 % n)]) hT) (p1.new hT)
        have hc : upd H1 T (.tup [.int (π.1 / n), .int (π.1 % n)]) c = some (.lst [.int π1.1, .int π1.2]) := p1.new hT c e
        refine ⟨T, _, rfl, .inl (.inl upd_same), rfl, .int (π.1 / n), [.int (π.1 % n)], rfl, .ref c, e1, c, _, 0, 0, rfl, rfl, hc, rfl, .int (π.1 % n), [], rfl, rfl, ?_⟩
        have S3 := (S2.potset e (π.1 / n) π1.2).put (r := .f) (i := j) (v := .int (π.1 % n)) (d := .int (π.1 % n)) (List.getElem?_eq_some_iff.mp hΓ2).1 (.int _)
        rw [set_same (show Γ[j]? = some Rm.f.md from hΓ2)] at S3
        exact h1 M _ _ S3 fun a ea => by
          rw [e] at ea
          cases ea
          exact upd_same
      · exact h1.elim
    | _ => exact h1.elim⟩

/-! ### a def that gets a pot of its own -/
def eGoPot (m : Fd) (a : Ed) : Ed := fun ρ π => (a ρ π).bind fun x => match x.1 with
  | .lst [.int u, .int v] => (safe (m [.non] (u, v))).bind fun y => .ok (y.1, x.2)
  | _ => .stuck
theorem de_callPot {j : Nat} {x : Str} {st : Stmt} {ps : List Str} {m : Fd} (F : DFn X.prog X.w X.K X.mg X.base j x st ps [.p] .f m) (o : XOk X E k)
    (hb : ∀ (kV doc pm : Value) (an : Option Addr) (cdv ct : Value) (us : List Value), us.length = ps.length → bindArgs (PySem.W.fnOf x x (defArgs st) (defBody st) (defScope st) .none kV doc pm an cdv ct) ⟨us, []⟩ = pure (ps.zip us))
    (ha : DE X E .o Γ e te fe) (hj : j ≤ k := by decide) (hg : Gl X x := by rfl) (hdb : (x == ("__debug__" : Str)) = false := by decide) (he : starEach [e] X.env = (false, eval e X.env) :: starEach [] X.env := by rfl) (hpl : (backTo pos (starEach [] X.env)).any (·.1) = false := by rfl) :
    DE X E .f Γ (.Call (.Name x p) [e] [] pos) (tGo X.mg X.K [.p] .f m E (tCons te tNil)) (eGoPot m fe) :=
  ⟨⟨fun pins s σ H Q I h => by
    obtain ⟨f, fd, h1, h2, h3⟩ := F.ex
    refine wpAny_Call_Name_kw (ld_glob I hg h1 ?_ hdb)
    refine PySem.W.callWith_K (h₀ := X.base) I.ok.mod.kin h2.kp (thn ((pa_cons ha.pe pa_nil he).run pos pins s σ H _ I h) fun us s1 ⟨vs, H1, I1, rl, q⟩ => ⟨I1.kIn, ?_⟩) he hpl
    have hl : us.length = ps.length := by
      rw [← rl.length]
      exact h3.len _ _ _ _ q
    have bd : BindsTo s1 fd ⟨us, ([] : List Str).zip ([] : List Value)⟩ (ps.zip (us ++ [])) := by
      obtain ⟨oc, od, kV, doc, pm, an, cdv, ct, osl, rfl, lk, hcd⟩ := h2.ex
      rw [List.append_nil]
      exact .of_eq (hb kV doc pm an cdv ct us hl)
    exact run_go (args := ⟨us, []⟩) (kn := []) (ws := []) h3 o hj bd I1 (by rw [List.append_nil]; exact rl) q⟩, fun pot M σ H ρ π I p Q h => by
    refine ha.sem pot M σ H ρ π I p _ ?_
    unfold eGoPot at h
    cases ef : fe ρ π with
    | err c ns xs π1 =>
      rw [ef] at h
      exact h
    | stuck =>
      rw [ef] at h
      exact h
    | ok y =>
      obtain ⟨d, π1⟩ := y
      rw [ef] at h
      simp only [Res.bind_ok] at h
      split at h
      · rename_i u v
        intro w H1 g1 p1 r1
        obtain ⟨q, rfl, hq, nq, oo, hx, rx⟩ := r1
        cases rx with
        | lst rx =>
        rename_i xs
        have ex : xs = [.int u, .int v] := RpL.iz (ns := [u, v]) rx
        subst ex
        have I1 := I.grow g1 p1
        refine ⟨rfl, some q, q :: M, [.non], (u, v), .cons ⟨q, rfl, rfl⟩ .nil, fun a ha => ?_, fun a ea => ?_, fun a ea => ?_, ?_⟩
        · rcases List.mem_cons.mp ha with z | z
          · rw [z, hx]
            simp
          · exact I1.al a z
        · cases ea
          exact List.mem_cons_self ..
        · cases ea
          exact hx
        · cases em : m [.non] (u, v) with
          | err c ns xs π' =>
            rw [em] at h
            exact h.elim
          | stuck =>
            rw [em] at h
            exact h.elim
          | ok z =>
            obtain ⟨z, π2⟩ := z
            rw [em] at h
            simp only [safe_ok, Res.bind_ok] at h
            intro b H2 g2 p2 r2
            have ne : ∀ a o, H a = some o → (some q : Option Addr) ≠ some a := fun a o ho e => by
              cases e
              rw [hq] at ho
              cases ho
            refine h b H2 (fun a o n ho => g2 a o (ne a o ho) (g1 a o n ho)) (fun a ea => ?_) (Rp.mono (less_sub fun a ha => List.mem_cons_of_mem _ ha) r2)
            exact g2 a _ (fun e => by cases e; exact nq ea) (p1 a ea)
      · exact h.elim⟩
end
end DL

set_option maxHeartbeats 2000000
/-! The law's own call. -/
namespace DL
open PySem PySem.Spec PyProof.Rows L2

theorem less_nil {H : Hp} : less H [] = H := funext fun a => by simp [less]
/-- the call of the law, from a promise that knows that no repr is running -/
theorem law_callG {P : Program} {w : World} {K : PySem.W.Frag} {mg mb : Str → Option Value} {k : Nat} {fa p : Addr} {fd : FuncData} {x : Str} {sp : Sp} {s0 : Shared} {us : List Value} {ns : List Int}
    (kin : K.In s0.heap) (nsm : s0.heap.Ns mainGlobals mg) (nsb : s0.heap.Ns builtinsNs mb) (bts : ∀ x : Str, x ≠ "__name__" → mb x = bootBuiltins x) (nolim : s0.heap.NoLimit) (gens : s0.gens = #[])
    (ob : s0.heap.get? p = some { cls := .type "list", data := .seq us.toArray }) (are : IntsAre us ns) (short : ns.length ≤ sizeLine) (room : Room k callerA)
    (F : ∀ base : Heap, K.In base → base.Ns mainGlobals mg → FnG P w K mg base k fa fd [x] sp) (bd : ∀ (s : Shared) (u : Value), BindsTo s fd ⟨[u], []⟩ [(x, u)])
    (goal : ∀ H : Hp, SqL K H p (ns.map V.int) → sp [.ref p] H (fun v _ => v = .bl true) fun _ _ _ => False) :
    codeAny (model P w) callerA (.call (.ref fa) ⟨[.ref p], []⟩) (fun r s' => r = .ok (.ret (.bool true)) ∧ PySem.OldK s0.heap s'.heap ∧ s'.os = s0.os ∧ AllBare s'.gens) s0 := by
  have rel := vals_ints are
  have llen := are.length
  have main : ∀ H : Hp, Only H → SqL K H p (ns.map V.int) → HOk P w H s0.heap → (∀ c, H c ≠ none → c = p) → (H p ≠ none → K.lookup p = none) →
      codeAny (model P w) callerA (.call (.ref fa) ⟨[.ref p], []⟩) (fun r s' => r = .ok (.ret (.bool true)) ∧ PySem.OldK s0.heap s'.heap ∧ s'.os = s0.os ∧ AllBare s'.gens) s0 := by
    intro H only seq okH at_p free_p
    have nop : ∀ {c : Addr}, c ≠ p → H c = none := fun {c} n => Classical.byContradiction fun z => n (at_p c z)
    have vis : ∀ {c : Addr} {o : Obj}, s0.heap.get? c = some o → H c = none → (hidT s0.heap H).get? c = some o := fun a b => hidT_get a b
    have dicts : ∀ {c : Addr} {o : Obj} {es : Array DictEntry} {ep : Nat}, s0.heap.get? c = some o → o.data = .dict es ep → H c = none := fun {c o es ep} e d => nop fun z => by
      rw [z, ob] at e
      cases e
      cases (show Data.seq us.toArray _ = Data.dict es ep from d)
    have names : ∀ {c : Addr} {m : Str → Option Value}, s0.heap.Ns c m → (hidT s0.heap H).Ns c m := fun {c m} h => by
      obtain ⟨o, es, ep, e, d, r⟩ := h
      exact ⟨o, es, ep, vis e (dicts e d), d, r⟩
    have kbase : K.In (hidT s0.heap H) := fun c o e => by
      refine vis (kin c o e) (Classical.byContradiction fun z => ?_)
      have ec := at_p c z
      rw [ec] at z e
      rw [free_p z] at e
      cases e
    have mo : Mod K mg (hidT s0.heap H) := ⟨kbase, names nsm, ⟨mb, names nsb, bts⟩, by obtain ⟨mc, h1, h2⟩ := nolim; exact ⟨mc, names h1, h2⟩⟩
    have env : Env0 P w K mg (hidT s0.heap H) callerA [] s0 H := ⟨rfl, mo, (fun c o e => of_hidT e), Nat.le_of_eq (hidT_size _ _), trivial, (fun c hc => by cases hc), okH, .of_eq gens⟩
    have run := (F _ kbase (names nsm)).run callerA [] s0 H ⟨[.ref p], []⟩ [.ref p] [.ref p] _ _ room rfl env (bd s0 (.ref p)) (.cons rfl .nil) (goal H seq)
    refine codeAny_mono run fun r s' h => ?_
    match r, h with
    | .error e, h =>
      obtain ⟨_, _, _, _, _, _, _, _, _, _, _, _, no⟩ := h
      exact no.elim
    | .ok .next, h => exact h.elim
    | .ok .brk, h => exact h.elim
    | .ok .cont, h => exact h.elim
    | .ok (.ret u), h =>
      obtain ⟨v, H', os, bare, un, okH', rv, q⟩ := h
      cases (show v = .bl true from q)
      cases (show u = Value.bool true from rv)
      refine ⟨rfl, OldK.of_keep fun c o e => ?_, os, bare⟩
      cases hc : H c with
      | none => exact un.keep c o e hc (by intro z; cases z) (by simp)
      | some u =>
        rcases only c with z | ⟨o', ys, z⟩
        · rw [hc] at z
          cases z
        · have w1 := (okH c _ z).1
          have w2 := (okH' c _ (un.frzs c o' _ z)).1
          rw [e] at w1
          cases w1
          exact w2
  by_cases hk : K.lookup p = none
  · have hat : ∀ c, c = p ∨ (fun c => if c = p then some (HO.frz { cls := .type "list", data := .seq us.toArray } (.lst (ns.map V.int))) else none : Hp) c = none := fun c => by
      by_cases z : c = p
      · exact .inl z
      · exact .inr (if_neg z)
    refine main (fun c => if c = p then some (.frz { cls := .type "list", data := .seq us.toArray } (.lst (ns.map V.int))) else none) (fun c => ?_) (.inl (.inr ⟨{ cls := .type "list", data := .seq us.toArray }, if_pos rfl⟩)) (fun c u z => ?_) (fun c z => (hat c).resolve_right z) fun _ => hk
    · rcases hat c with z | z
      · exact .inr ⟨_, _, if_pos z⟩
      · exact .inl z
    · rcases hat c with q | q
      · subst q
        have z' := (if_pos rfl).symm.trans z
        cases z'
        exact ⟨ob, by rw [List.length_map]; exact short, us, _, rel, ob⟩
      · rw [q] at z
        cases z
  · obtain ⟨o, ho⟩ := Option.ne_none_iff_exists'.mp hk
    have e := kin p o ho
    rw [ob] at e
    cases e
    have em : ∀ c, (fun _ => none : Hp) c = none := fun _ => rfl
    exact main (fun _ => none) (fun c => .inl rfl) (.inr ⟨_, us.toArray, _, ho, rfl, rfl, rfl, by rw [List.size_toArray, llen]; exact short, by simpa using rel⟩) (fun c u z => by rw [em c] at z; cases z) (fun c z => absurd (em c) z) fun z => absurd (em p) z
/-- THE END: what the head leaves, from what law gives of its data -/
theorem walk_D {l : PySem.W.OpenLaw} {n k : Nat} {q : Program} {loose : List Str} {XP : (Str → Option Value) → Heap → Prop} {YP : World → Heap → Prop} {d : DefRec} {K : Params → PySem.W.Frag} {x : Str} {m : Fd}
    (most : l.most = some n) (small : n ≤ sizeLine) (nodf : d.params.defaults = []) (room : Room k callerA) (hY : ∀ (w : World) (h : Heap), YP w h → (K w.params).In h)
    (good : ∀ ns : List Int, ns.length ≤ n → ∃ π, m [.lst (DL.iz ns)] (0, 0) = .ok (.bl true, π))
    (F : ∀ (w : World) (mg : Str → Option Value) (fa : Addr) (h : Heap), (K w.params).In h → h.Ns mainGlobals mg → mg d.name = some (.ref fa) →
      ∃ fd : FuncData, (∀ (s : Shared) (u : Value), BindsTo s fd ⟨[u], []⟩ [(x, u)]) ∧ ∀ base : Heap, (K w.params).In base → base.Ns mainGlobals mg → FnG l.prog w (K w.params) mg base k fa fd [x] (SpD mg (K w.params) [.s] .f m)) :
    PySem.W.WalkO q loose XP YP l.row.toRowW d [] (fun f vs => PySem.call f vs) := by
  refine Att.attach_call most nodf fun w s₀ s1 mg mb fa o pm cd doc a vs ns G Y ho hd hcd hmg hobj hints hlen hg => ?_
  have KX := hY w _ Y
  obtain ⟨fd, hb, hF⟩ := F w mg fa _ KX G.T.g hmg
  refine law_callG KX G.T.g G.T.b G.T.builtins G.T.nolimit hg hobj hints (Nat.le_trans hlen small) room hF hb fun H hS => ?_
  obtain ⟨π, hm⟩ := good ns hlen
  refine ⟨rfl, none, [], [.lst (DL.iz ns)], (0, 0), .cons ⟨a, ns, rfl, rfl, by rw [less_nil]; exact hS⟩ .nil, (fun a h => by cases h), (fun a e => by cases e), (fun a e => by cases e), ?_⟩
  rw [hm]
  exact fun v H' g p r => by
    cases r
    rfl
end DL

set_option maxHeartbeats 2000000
/-! What a printed walk uses besides. -/
namespace DL
open PySem PySem.Spec PyProof.Rows L2

theorem sizeLine_is : sizeLine = 16777216 := sizeLine_eq
section
variable {X : Cx} {E : XK} {r r' ra rb rc : Rm} {Γl Γ Γ1 Γ' : List Md} {pos : Pos} {k : Nat} {e a b c : Expr} {te ta tb tc : TE} {fe fa fb fc : Ed} {st : Stmt} {sts body : List Stmt} {ts us : TS} {fs gs : Fs} {tt : TT} {ft : Et}
/-- y = [.. for ..] on one line -/
theorem ds_setLcR (i : Nat) {y : Str} {py : Pos} {w : Bool} {elt tg iter : Expr} {ifs : List Expr} {scope : Scope} {own : List (Str × Nat)} {spos : Pos} {wi : TI} {fi : Ei} {is : List Nat} {fg : D → Rho → Option Rho} {ft : Et} {fe : Ed} (hr : r' = .f ∨ r' = .o) (x : XOk X E k) (hi : DI w X E Γ tg iter wi fi) (ok : BlkOk X.N X.env.scope scope own)
    (hg : ∀ (s : Shared) (H : Hp) (C : Addr) (cl : List (Str × Addr)) (fp : List Addr), ∃ g, DG (X.blk s H scope (compEnvC scope cl C X.env) fp) Γ tg is g fg)
    (ht : ∀ (s : Shared) (H : Hp) (C : Addr) (cl : List (Str × Addr)) (fp : List Addr), ∃ tt, DTs (X.blk s H scope (compEnvC scope cl C X.env) fp) E0 Γ ifs tt ft)
    (he : ∀ (s : Shared) (H : Hp) (C : Addr) (cl : List (Str × Addr)) (fp : List Addr), ∃ te, DE (X.blk s H scope (compEnvC scope cl C X.env) fp) E0 .f Γ elt te fe)
    (hv : ∀ i ∈ is, i ∈ own.map (·.2) := by decide) (hΓ : ∀ i ∈ own.map (·.2), Γ[i]? = some .f := by decide) (hΓi : Γ[i]? = some r'.md := by rfl) (hN : X.N[i]? = some y := by rfl) (hyl : X.env.scope.names.lookup y = some .local := by rfl)
    (hsw : swapsWith (.ListComp elt [⟨tg, iter, ifs, 0⟩] scope pos) (some (.Name y py)) spos.line X.env = pure true := by rfl) (hs : ∀ x, foldedSetIterable iter X.env x = pure x := by intro _; rfl) :
    DS X E r Γl Γ Γ (.Assign [.Name y py] (.ListComp elt [⟨tg, iter, ifs, 0⟩] scope pos) spos) (tAsg (tLc wi (canG X.mg X.K Γ is fg) (canT X.mg X.K E0 Γ ft) (canE X.mg X.K E0 .f Γ fe) (own.map (·.2))) (gName i)) (sSet i (eLC fi fg ft fe (own.map (·.2)))) := by
  have de : DE X E .o Γ (.ListComp elt [⟨tg, iter, ifs, 0⟩] scope pos) _ _ := de_lc x hi ok hg ht he hv hΓ hs
  have hg' : ∀ (s : Shared) (H : Hp) (C : Addr) (cl : List (Str × Addr)) (fp : List Addr), DG (X.blk s H scope (compEnvC scope cl C X.env) fp) Γ tg is (canG X.mg X.K Γ is fg) fg := fun s H C cl fp => by
    obtain ⟨g, h⟩ := hg s H C cl fp
    exact h.can
  have ht' : ∀ (s : Shared) (H : Hp) (C : Addr) (cl : List (Str × Addr)) (fp : List Addr), DTs (X.blk s H scope (compEnvC scope cl C X.env) fp) E0 Γ ifs (canT X.mg X.K E0 Γ ft) ft := fun s H C cl fp => by
    obtain ⟨g, h⟩ := ht s H C cl fp
    exact h.can
  have he' : ∀ (s : Shared) (H : Hp) (C : Addr) (cl : List (Str × Addr)) (fp : List Addr), DE (X.blk s H scope (compEnvC scope cl C X.env) fp) E0 .f Γ elt (canE X.mg X.K E0 .f Γ fe) fe := fun s H C cl fp => by
    obtain ⟨g, h⟩ := he s H C cl fp
    exact h.can
  refine ⟨ps_setLc x.calm x.nd hN hyl hsw hi.pi ok (fun s H C cl fp => (hg' s H C cl fp).pg) (fun s H C cl fp => (ht' s H C cl fp).pts) (fun s H C cl fp => (he' s H C cl fp).pe) hs, ?_⟩
  rcases hr with rfl | rfl
  · exact sem_set hΓi de.toF.sem
  · exact sem_set hΓi de.sem
/-- a slot is let go -/
theorem SOk.drop {mg : Str → Option Value} {K : PySem.W.Frag} {pot : Option Addr} {M M0 : List Addr} {H H0 B : Hp} {σ : L2.St} {ρ : Rho} (S : SOk mg K Γ pot M0 H0 B M σ H ρ) (i : Nat) : SOk mg K (Γ.set i .u) pot M0 H0 B M σ H ρ := by
  have I := S.env
  have old : ∀ (j : Nat) (m : Md), m ≠ .u → (Γ.set i .u)[j]? = some m → Γ[j]? = some m := fun j m hm h => by
    rcases set_at h with ⟨_, z, _⟩ | ⟨_, z⟩
    · exact absurd z hm
    · exact z
  exact ⟨⟨by simp [I.ls], by simp [I.lr], (fun j d h1 h2 => I.f j d (old j _ (by simp) h1) h2), (fun j d h1 h2 => I.o j d (old j _ (by simp) h1) h2), (fun j h1 => I.p j (old j _ (by simp) h1)), (fun j d h1 h2 => I.s j d (old j _ (by simp) h1) h2),
    (fun j l a d e h1 h2 h3 h4 h5 h6 => I.ap j l a d e (old j _ (by simp) h1) (old l _ (by simp) h2) h3 h4 h5 h6), I.al, I.pm⟩, S.gr, S.sub, (fun j d a h1 h2 h3 => S.ow j d a (old j _ (by simp) h1) h2 h3), S.m0, S.bs⟩
theorem dss_u (i : Nat) (h : DSs X E r Γl (Γ.set i .u) Γ' sts ts fs) : DSs X E r Γl Γ Γ' sts ts fs :=
  ⟨h.pss, fun pot M0 H0 B M σ H ρ π D S p q => h.sem pot M0 H0 B M σ H ρ π D (S.drop i) p q⟩
/-- x = e, whatever stood in the slot -/
theorem ds_setM (i : Nat) {x : Str} {p : Pos} (o : XOk X E k) (he : DE X E r' Γ e te fe) (hl : i < Γ.length := by decide) (hN : X.N[i]? = some x := by rfl) (hx : Loc X.env.scope x := by first | exact Or.inl rfl | exact Or.inr rfl)
    (hs : swapsWith e (some (.Name x p)) pos.line X.env = pure false := by rfl) (hf : X.fn x = true ∨ X.env.scope.names.lookup x = some .local := by first | exact .inl rfl | exact .inr rfl) : DS X E r Γl Γ (Γ.set i r'.md) (.Assign [.Name x p] e pos) (tAsg te (gName i)) (sSet i fe) :=
  ⟨ps_set o.nd hN hx he.pe hs hf, fun pot M0 H0 B M σ H ρ π D S p h => by
    refine PostS.seq (r' := r') (te := te σ H) h S (fun Q' hq => he.sem pot M σ H ρ π S.env p Q' hq) fun d π1 v H1 _ g1 p1 q1 h1 => ?_
    obtain ⟨M1, S1, hd, _⟩ := S.hold g1 p1 q1
    exact h1 M1 _ H1 (S1.put (i := i) hl hd) p1⟩
/-- ints of any size, or a list so many times -/
def opMulA : D → D → Option D
  | .int i, .int j => if small i || small j || decide (i.natAbs.log2 + j.natAbs.log2 < 1000000) then some (.int (i * j)) else none
  | _, _ => none
def rMulA : R2 := fun x y H Q => rI CMul (fun i j => .int (i * j)) x y H Q ∨ rI CMulW (fun i j => .int (i * j)) x y H Q
theorem o_mulA : OpOk X (binaryOp .Mult) rMulA .f opMulA := ⟨op_mul.or op_mulW, fun pot M H x y d e z al pm ph rx ry hz Q q => by
  cases d <;> cases e <;> simp only [opMulA] at hz <;> try cases hz
  rename_i i j
  split at hz
  · rename_i hc
    cases hz
    rcases Bool.or_eq_true_iff.mp hc with h | h
    · refine .inl ⟨i, j, rb_int rx, rb_int ry, ?_, q _ H (Same.refl H) (.int _)⟩
      simp only [small, Bool.or_eq_true, decide_eq_true_eq] at h
      unfold CMul
      omega
    · exact .inr ⟨i, j, rb_int rx, rb_int ry, (decide_eq_true_iff.mp h : _ < _), q _ H (Same.refl H) (.int _)⟩
  · cases hz⟩
/-- a comprehension's names, decided -/
def blkB (N : List Str) (sc scope : Scope) (own : List (Str × Nat)) : Bool :=
  (match scope.kind with | .function => true | _ => false) && scope.names.all (fun y => scope.names.lookup y.1 == some y.2) && own.all (fun p => N[p.2]? == some p.1) &&
  scope.names.all (fun y => !(y.2 == .free) || (sc.names.lookup y.1 == some .cell || sc.names.lookup y.1 == some .free)) && scope.names.all (fun y => !(y.2 == .local || y.2 == .cell) || (own.any (fun p => p.1 == y.1) || !N.contains y.1))
theorem blk_of {N : List Str} {sc scope : Scope} {own : List (Str × Nat)} (h : blkB N sc scope own = true) : BlkOk N sc scope own := by
  unfold blkB at h
  simp only [Bool.and_eq_true, List.all_eq_true] at h
  obtain ⟨⟨⟨⟨h1, h2⟩, h3⟩, h4⟩, h5⟩ := h
  refine ⟨?_, fun y hy => ?_, fun p hp => ?_, fun y hy e => ?_, fun y hy e => ?_⟩
  · split at h1
    · assumption
    · cases h1
  · simpa using h2 y hy
  · simpa using h3 p hp
  · have := h4 y hy
    rw [e] at this
    simpa using this
  · have := h5 y hy
    rcases e with e | e <;> rw [e] at this <;> simp at this <;> (rcases this with ⟨n, q⟩ | q) <;> simp_all
    all_goals exact .inl ⟨_, q⟩
/-- the law's own promise, for the end -/
theorem law_end {P : Program} {w : World} {K : PySem.W.Frag} {mg : Str → Option Value} {fa : Addr} {x : Str} {st : Stmt} {ps : List Str} {ks : List Ak} {r : Rm} {m : Fd} {k : Nat} {T : Prop} (hfa : mg x = some (.ref fa)) (t : T) (hf : T → ∃ f fd, mg x = some (.ref f) ∧ Fun K x x st f fd)
    (F : T → ∀ base : Heap, DFn P w K mg base k x st ps ks r m) {y : Str} (hp : ps = [y])
    (hb : ∀ (kV doc pm : Value) (an : Option Addr) (cdv ct : Value) (s : Shared) (u : Value), BindsTo s (PySem.W.fnOf x x (defArgs st) (defBody st) (defScope st) .none kV doc pm an cdv ct) ⟨[u], []⟩ [(y, u)]) :
    ∃ fd : FuncData, (∀ (s : Shared) (u : Value), BindsTo s fd ⟨[u], []⟩ [(y, u)]) ∧ ∀ base : Heap, K.In base → base.Ns mainGlobals mg → FnG P w K mg base k fa fd [y] (SpD mg K ks r m) := by
  obtain ⟨f, fd, h1, h2⟩ := hf t
  rw [hfa] at h1
  cases h1
  refine ⟨fd, fun s u => ?_, fun base _ _ => ?_⟩
  · obtain ⟨oc, od, kV, doc, pm, an, cdv, ct, osl, rfl, lk, hcd⟩ := h2.ex
    exact hb kV doc pm an cdv ct s u
  · obtain ⟨f', fd', g1, g2, g3⟩ := (F t base).ex
    rw [hfa] at g1
    cases g1
    obtain ⟨oc, od, kV, doc, pm, an, cdv, ct, osl, rfl, lk, hcd⟩ := h2.ex
    obtain ⟨oc', od', kV', doc', pm', an', cdv', ct', osl', rfl, lk', hcd'⟩ := g2.ex
    rw [lk] at lk'
    cases lk'
    rw [← hp]
    exact g3
end
end DL

set_option maxHeartbeats 2000000
/-! Two sequences side by side. -/
namespace DL
open PySem PySem.Spec PyProof.Rows L2

def ItZ (K : PySem.W.Frag) (S1 S2 : Src) : It :=
  ⟨fun i H => ∃ (xs ys : List V) (x y : V), S1.sq K H xs ∧ S2.sq K H ys ∧ xs[i]? = some x ∧ ys[i]? = some y,
    fun i H v H' => ∃ T x y, v = .ref T ∧ H T = none ∧ H' = upd H T (.tup [x, y]) ∧ (∀ xs, S1.sq K H xs → xs[i]? = some x) ∧ ∀ ys, S2.sq K H ys → ys[i]? = some y,
    fun i H => ∃ xs ys : List V, S1.sq K H xs ∧ S2.sq K H ys ∧ min xs.length ys.length = i⟩
theorem turn_zipS {P : Program} {w : World} {K : PySem.W.Frag} {elts : List Expr} {kk : Nat} {tpos : Pos} {z TI TO i1 i2 : Addr} (S1 S2 : Src) (D : ZipSep2 z TI TO i1 i2 [i1, S1.a] [i2, S2.a]) (n1 : S1.a ≠ i1) (n2 : S2.a ≠ i2) :
    Turn P w K (.Tuple elts kk tpos) (ItZ K S1 S2) [z, TI, TO, i1, i2] z (fun i h => IsZip h z TI TO .none ∧ IsTupOf2 h TI (.ref i1) (.ref i2) ∧ (∃ x y, IsTupOf2 h TO x y) ∧ S1.it h i1 i ∧ S2.it h i2 i) where
  mem := by simp
  obj := fun i h st c hc => by
    obtain ⟨hz, hTI, ⟨x, y, hTO⟩, h1, h2⟩ := st
    have e' : c = z ∨ c = TI ∨ c = TO ∨ c = i1 ∨ c = i2 := by simpa using hc
    rcases e' with q | q | q | q | q
    · rw [q]
      exact ⟨_, hz, fun v q => nomatch q⟩
    · rw [q]
      exact ⟨_, hTI, fun v q => nomatch q⟩
    · rw [q]
      exact ⟨_, hTO, fun v q => nomatch q⟩
    · rw [q]
      exact Src.it_obj h1
    · rw [q]
      exact Src.it_obj h2
  keep := fun i h h' st k => by
    obtain ⟨hz, hTI, ⟨x, y, hTO⟩, h1, h2⟩ := st
    exact ⟨k z (by simp) _ hz, k TI (by simp) _ hTI, ⟨x, y, k TO (by simp) _ hTO⟩, Src.it_at h1 fun o q => k i1 (by simp) o q, Src.it_at h2 fun o q => k i2 (by simp) o q⟩
  item := by
    intro X hP hw hK hc i pins s σ H E I hf st hg
    subst hP hw hK
    obtain ⟨hz, hTI, hTO, h1, h2⟩ := st
    obtain ⟨xs, ys, x, y, hqx, hqy, hx, hy⟩ := hg
    obtain ⟨its, rv, p⟩ := Src.lay I hqx
    obtain ⟨its2, rv2, p2⟩ := Src.lay I hqy
    obtain ⟨u, hu, ru⟩ := rv.get hx
    obtain ⟨u2, hu2, ru2⟩ := rv2.get hy
    have l1 : i < its.toArray.size := by simpa using (List.getElem?_eq_some_iff.mp hu).1
    have l2 : i < its2.toArray.size := by simpa using (List.getElem?_eq_some_iff.mp hu2).1
    have hz' := hz
    have lt_of : ∀ c, c ∈ [z, TI, TO, i1, i2] → c < s.heap.objs.size := fun c hc => by
      have e' : c = z ∨ c = TI ∨ c = TO ∨ c = i1 ∨ c = i2 := by simpa using hc
      rcases e' with q | q | q | q | q
      · rw [q]
        exact Heap.lt_size hz
      · rw [q]
        exact Heap.lt_size hTI
      · rw [q]
        obtain ⟨_, _, e⟩ := hTO
        exact Heap.lt_size e
      · rw [q]
        obtain ⟨_, e, _⟩ := Src.it_obj h1
        exact Heap.lt_size e
      · rw [q]
        obtain ⟨_, e, _⟩ := Src.it_obj h2
        exact Heap.lt_size e
    have G : GoesN X.prog X.w X.A (.Tuple elts kk tpos) z (z :: TI :: TO :: ([i1, S1.a] ++ [i2, S2.a])) [z, TO, i1, i2] (min its.toArray.size its2.toArray.size) _ _ :=
      GoesN.zip2 (elts := elts) (x1 := kk) (pos := tpos) D (Src.draws (S := S1) (A := X.A.in1) (I.ok.hd hc) i1 n1 its.toArray) (Src.draws (S := S2) (A := X.A.in1) (I.ok.hd hc) i2 n2 its2.toArray)
    refine thn (G.goes i s (fun v s2 => _) E (Nat.lt_min.mpr ⟨l1, l2⟩) ⟨hz, hTI, hTO, ⟨h1, p⟩, ⟨h2, p2⟩⟩ fun v h' tk hY st' hk _ => ?_) fun r s1 z => z
    obtain ⟨T, a, b, rfl, hT, ha, hb, hTup⟩ := hY
    obtain ⟨hz2, hTI2, hTO2, ⟨h1', _⟩, ⟨h2', _⟩⟩ := st'
    have ea : a = u := by
      have : its.toArray[i]? = some u := by simpa using hu
      exact Option.some.inj (ha.symm.trans this)
    have eb : b = u2 := by
      have : its2.toArray[i]? = some u2 := by simpa using hu2
      exact Option.some.inj (hb.symm.trans this)
    subst ea eb
    have new : ObjOk X.prog X.w (upd H T (.tup [x, y])) h' T (.tup [x, y]) := by
      refine ⟨by show 2 ≤ sizeLine; decide, [a, b], .cons ru (.cons ru2 .nil), hTup⟩
    have sub : ∀ c, c ∈ [z, TO, i1, i2] → c ∈ [z, TI, TO, i1, i2] := fun c hc => by
      simp only [List.mem_cons, List.not_mem_nil, or_false] at hc ⊢
      rcases hc with e | e | e | e <;> simp [e]
    have I1 : Inv X pins σ (upd H T (.tup [x, y])) { s with heap := h', toks := tk } := I.turnedNew (ch := [z, TO, i1, i2]) hk (fun c hc => hf c (sub c hc)) hT new
    refine ⟨.ref T, _, I1, rfl, ⟨T, x, y, rfl, I.hok.fresh hT, rfl, fun l hl => by rw [Src.inj I hl hqx]; exact hx, fun l hl => by rw [Src.inj I hl hqy]; exact hy⟩, ⟨hz2, hTI2, hTO2, h1', h2'⟩, fun c hc => ?_⟩
    rw [upd_ne (Nat.ne_of_lt (Nat.lt_of_lt_of_le (lt_of c hc) hT))]
    exact (hf c hc).1
  done := by
    intro X hP hw hK hc i pins s σ H E I hf st hg
    subst hP hw hK
    obtain ⟨hz, hTI, hTO, h1, h2⟩ := st
    obtain ⟨xs, ys, hqx, hqy, hend⟩ := hg
    obtain ⟨its, rv, p⟩ := Src.lay I hqx
    obtain ⟨its2, rv2, p2⟩ := Src.lay I hqy
    have e1 := rv.length
    have e2 := rv2.length
    have hi : i = min its.toArray.size its2.toArray.size := by simp; omega
    have G : GoesN X.prog X.w X.A (.Tuple elts kk tpos) z (z :: TI :: TO :: ([i1, S1.a] ++ [i2, S2.a])) [z, TO, i1, i2] (min its.toArray.size its2.toArray.size) _ _ :=
      GoesN.zip2 (elts := elts) (x1 := kk) (pos := tpos) D (Src.draws (S := S1) (A := X.A.in1) (I.ok.hd hc) i1 n1 its.toArray) (Src.draws (S := S2) (A := X.A.in1) (I.ok.hd hc) i2 n2 its2.toArray)
    have sub : ∀ c, c ∈ [z, TO, i1, i2] → c ∈ [z, TI, TO, i1, i2] := fun c hc => by
      simp only [List.mem_cons, List.not_mem_nil, or_false] at hc ⊢
      rcases hc with e | e | e | e <;> simp [e]
    subst hi
    exact G.stops s (fun s1 => Inv X pins σ H s1) E ⟨hz, hTI, hTO, ⟨h1, p⟩, ⟨h2, p2⟩⟩ fun h' tk hk _ => I.turnedL (ch := [z, TO, i1, i2]) hk fun c hc => hf c (sub c hc)
  self := fun A i s Q E st h => wpAny_pyIter_zip st.1 h
def iZipS (K : PySem.W.Frag) (ta : TA) : TI := fun σ H R => ta σ H fun vs H1 => ∃ S1 S2 : Src, vs = [.ref S1.a, .ref S2.a] ∧ (∃ xs, S1.sq K H1 xs) ∧ (∃ ys, S2.sq K H1 ys) ∧ R (ItZ K S1 S2) H1
theorem pi_zipS {X : Cx} {e e2 : Expr} {ta : TA} {p pos tpos : Pos} {elts : List Expr} {kk : Nat} (hg : Gl X "zip") (hm : X.mg "zip" = none) (ha : PA X [e, e2] ta)
    (hs : starEach [e, e2] X.env = (false, eval e X.env) :: starEach [e2] X.env := by rfl) (hpl : (backTo pos (starEach [e2] X.env)).any (·.1) = false := by rfl) :
    PI X (.Tuple elts kk tpos) (.Call (.Name "zip" p) [e, e2] [] pos) (iZipS X.K ta) := by
  refine ⟨fun pins s σ H R I h => ?_⟩
  refine Call_ (ld_blt I hg hm PyProof.Rows.boot_zip (PyProof.Rows.callWith_type1 (thn (ha.run pos pins s σ H _ I h) fun us s1 ⟨vs, H1, I1, r1, q1⟩ => ?_) hs hpl))
  obtain ⟨S1, S2, ex, ⟨xs, hqx⟩, ⟨ys, hqy⟩, q⟩ := q1
  subst ex
  cases r1 with
  | cons r rr =>
    cases rr with
    | cons r' rr =>
      cases rr
      cases r
      cases r'
      obtain ⟨its, rv, p1⟩ := Src.lay I1 hqx
      obtain ⟨its2, rv2, p2⟩ := Src.lay I1 hqy
      have la := Src.is_lt p1
      have lb := Src.is_lt p2
      refine zip_begins2 (Src.begins (S := S1) its.toArray) (Src.begins (S := S2) its2.toArray) p1 p2 fun h' hz hTI hTO h1 h2 hsz hk => wpAny_pyIter_zip hz ?_
      have I2 : Inv X pins σ H1 { s1 with heap := h' } := I1.kept (t' := s1.toks) hk
      have sep := zip_sep2 (N := s1.heap.objs.size) (fp1 := [S1.a]) (fp2 := [S2.a]) (fun b hb => by rw [List.mem_singleton.mp hb]; exact la) (fun b hb => by rw [List.mem_singleton.mp hb]; exact lb)
      refine ⟨s1.heap.objs.size + 4, [s1.heap.objs.size + 4, s1.heap.objs.size + 2, s1.heap.objs.size + 3, s1.heap.objs.size, s1.heap.objs.size + 1], _, _, H1, rfl, I2, turn_zipS S1 S2 sep (Nat.ne_of_lt la) (Nat.ne_of_lt (Nat.lt_succ_of_lt lb)), ⟨hz, hTI, ⟨_, _, hTO⟩, Src.it0 h1, Src.it0 h2⟩, fun c hcm => ?_, q⟩
      have e' : c = s1.heap.objs.size + 4 ∨ c = s1.heap.objs.size + 2 ∨ c = s1.heap.objs.size + 3 ∨ c = s1.heap.objs.size ∨ c = s1.heap.objs.size + 1 := by simpa using hcm
      have hle : s1.heap.objs.size ≤ c := by
        rcases e' with z | z | z | z | z <;> rw [z] <;> first | exact Nat.le_refl _ | exact Nat.le_add_right _ _
      exact I1.fpOk hle (I1.hok.fresh hle)
theorem walk_zipS {K : PySem.W.Frag} {S1 S2 : Src} {xs ys : List V} : Walk (ItZ K S1 S2) (min xs.length ys.length) (fun H => S1.sq K H xs ∧ S2.sq K H ys) (YPair (fun i => xs[i]?) (fun i => ys[i]?)) where
  goes := fun i H hi q => ⟨xs, ys, xs[i]'(by omega), ys[i]'(by omega), q.1, q.2, by simp, by simp⟩
  stops := fun H q => ⟨xs, ys, q.1, q.2, rfl⟩
  yields := fun i H x H' hi q y => by
    obtain ⟨T, a, b, e1, e2, e3, e4, e5⟩ := y
    exact ⟨T, a, b, e1, e2, e3, e4 xs q.1, e5 ys q.2⟩
end DL

set_option maxHeartbeats 2000000
/-! More that is walked, called. -/
namespace DL
open PySem PySem.Spec PyProof.Rows L2

def zipD : List D → List D → List D
  | d :: ds, e :: es => .tup [d, e] :: zipD ds es
  | _, _ => []
theorem zipD_get : ∀ {ds es : List D} {i : Nat} {d e : D}, ds[i]? = some d → es[i]? = some e → (zipD ds es)[i]? = some (.tup [d, e])
  | d :: ds, e :: es, 0, a, b, h1, h2 => by
    simp at h1 h2
    subst h1 h2
    rfl
  | d :: ds, e :: es, i + 1, a, b, h1, h2 => by
    have := zipD_get (ds := ds) (es := es) (i := i) (by simpa using h1) (by simpa using h2)
    simpa [zipD] using this
  | [], _, i, a, b, h1, h2 => by simp at h1
  | _ :: _, [], i, a, b, h1, h2 => by simp at h2
theorem zipD_len : ∀ (ds es : List D), (zipD ds es).length = min ds.length es.length
  | d :: ds, e :: es => by
    simp only [zipD, List.length_cons, zipD_len ds es]
    omega
  | [], es => by simp [zipD]
  | _ :: _, [] => by simp [zipD]
def iZipD (a : Ea) : Ei := fun ρ π => (a ρ π).bind fun x => match x.1 with
  | [d, e] => (ofO (seqOf d)).bind fun z => (ofO (seqOf e)).bind fun y => .ok (zipD z y, x.2)
  | _ => .stuck
section
variable {mg : Str → Option Value} {K : PySem.W.Frag} {pot : Option Addr} {M : List Addr} {H H1 H' : Hp} {ds es : List D}
theorem walkZ {w : Bool} {S1 S2 : Src} {xs ys : List V} (r1 : RpL mg K (less H1 M) xs ds) (r2 : RpL mg K (less H1 M) ys es) (st1 : ∀ H' M', (w = true → Grow pot H1 H') → Same (less H1 M) (less H' M') → S1.sq K H' xs) (st2 : ∀ H' M', (w = true → Grow pot H1 H') → Same (less H1 M) (less H' M') → S2.sq K H' ys) :
    WalkD mg K w pot M H1 (ItZ K S1 S2) (zipD ds es) (fun H => S1.sq K H xs ∧ S2.sq K H ys) (YPair (fun i => xs[i]?) (fun i => ys[i]?)) where
  walk := by
    rw [zipD_len, ← r1.length, ← r2.length]
    exact walk_zipS
  stay := fun H' M' g s => ⟨st1 H' M' g s, st2 H' M' g s⟩
  item := fun i H x H' M' _ s al hi y => by
    obtain ⟨T, a, b, rfl, hT, rfl, e1, e2⟩ := y
    obtain ⟨d, e3, q⟩ := r1.getV e1
    obtain ⟨e, e4, q2⟩ := r2.getV e2
    exact ⟨same_upd hT, .tup [d, e], zipD_get e3 e4, new_tup al hT (.cons (q.mono s) (.cons (q2.mono s) .nil))⟩
end
section
variable {X : Cx} {E : XK} {Γ : List Md} {pos p tpos : Pos} {k kk : Nat} {r : Rm} {e e2 e3 tg : Expr} {te : TE} {fe : Ed} {es elts : List Expr} {tA : TA} {fA : Ea} {ks : List Ak}
theorem di_zip (hm : X.mg "zip" = none) (ha : DA X E [.f, .f] Γ [e, e2] tA fA) (hg : Gl X "zip" := by rfl) (hs : starEach [e, e2] X.env = (false, eval e X.env) :: starEach [e2] X.env := by rfl) (hpl : (backTo pos (starEach [e2] X.env)).any (·.1) = false := by rfl) :
    DI false X E Γ (.Tuple elts kk tpos) (.Call (.Name "zip" p) [e, e2] [] pos) (iZipS X.K tA) (iZipD fA) :=
  ⟨pi_zipS hg hm ha.pa hs hpl, fun pot M σ H ρ π I p R h => by
    refine PostI.seqA (ks := [.f, .f]) (te := tA σ H) h (fun Q' hq => ha.sem pot M σ H ρ π I p Q' hq) fun ds π1 vs H1 _ g1 p1 r1 h1 => ?_
    obtain ⟨v, d, v2, d2, rfl, rfl, a, b⟩ := args2 r1
    simp only at h1
    cases e1 : seqOf d with
    | none =>
      rw [e1] at h1
      exact h1.elim
    | some zs =>
      cases e2 : seqOf d2 with
      | none =>
        rw [e1, e2] at h1
        exact h1.elim
      | some ys =>
        rw [e1, e2] at h1
        obtain ⟨S1, xs, rfl, q1, q2⟩ := seq_src (show Rp X.mg X.K (less H1 M) v d from a) e1
        obtain ⟨S2, us, rfl, q3, q4⟩ := seq_src (show Rp X.mg X.K (less H1 M) v2 d2 from b) e2
        exact ⟨S1, S2, rfl, ⟨xs, sq_mono less_le q1⟩, ⟨us, sq_mono less_le q3⟩, h1 _ H1 _ _ .refl p1 (walkZ q2 q4 (fun H' M' _ s => sq_mono less_le (sq_mono s q1)) (fun H' M' _ s => sq_mono less_le (sq_mono s q3)))⟩⟩
theorem di_zipB (hm : X.mg "zip" = none) (ha : DA X E [.b, .b] Γ [e, e2] tA fA) (hg : Gl X "zip" := by rfl) (hs : starEach [e, e2] X.env = (false, eval e X.env) :: starEach [e2] X.env := by rfl) (hpl : (backTo pos (starEach [e2] X.env)).any (·.1) = false := by rfl) :
    DI true X E Γ (.Tuple elts kk tpos) (.Call (.Name "zip" p) [e, e2] [] pos) (iZipS X.K tA) (iZipD fA) :=
  ⟨pi_zipS hg hm ha.pa hs hpl, fun pot M σ H ρ π I p R h => by
    refine PostI.seqA (ks := [.b, .b]) (te := tA σ H) h (fun Q' hq => ha.sem pot M σ H ρ π I p Q' hq) fun ds π1 vs H1 _ g1 p1 r1 h1 => ?_
    obtain ⟨v, d, v2, d2, rfl, rfl, a, b⟩ := args2 r1
    simp only at h1
    cases e1 : seqOf d with
    | none =>
      rw [e1] at h1
      exact h1.elim
    | some zs =>
      cases e2 : seqOf d2 with
      | none =>
        rw [e1, e2] at h1
        exact h1.elim
      | some ys =>
        rw [e1, e2] at h1
        obtain ⟨S1, xs, rfl, q2, q1⟩ := seq_srcB (show Rb X.mg X.K pot M H1 v d from a) e1
        obtain ⟨S2, us, rfl, q4, q3⟩ := seq_srcB (show Rb X.mg X.K pot M H1 v2 d2 from b) e2
        exact ⟨S1, S2, rfl, ⟨xs, q1 H1 M .refl (Same.refl _)⟩, ⟨us, q3 H1 M .refl (Same.refl _)⟩, h1 _ H1 _ _ .refl p1 (walkZ q2 q4 (fun H' M' g s => q1 H' M' (g rfl) s) (fun H' M' g s => q3 H' M' (g rfl) s))⟩⟩
/-- range(i, j, -1) -/
theorem walkRc {mg : Str → Option Value} {K : PySem.W.Frag} {pot : Option Addr} {M : List Addr} {H1 : Hp} {lo c : Int} {n : Nat} : WalkD mg K false pot M H1 (Itc lo c n) (rangeD lo c n) (fun _ => True) (fun i H x H' => H' = H ∧ x = .int (lo + (i : Nat) * c)) where
  walk := by
    have e : (rangeD lo c n).length = n := by simp [rangeD]
    rw [e]
    exact ⟨fun i H hi _ => hi, fun H _ => Nat.le_refl _, fun i H x H' hi _ y => y⟩
  stay := fun _ _ _ _ => trivial
  item := fun i H x H' M' _ s al hi y => by
    obtain ⟨rfl, rfl⟩ := y
    have e : i < n := by simpa [rangeD] using hi
    exact ⟨Same.refl _, .int (lo + (i : Int) * c), by simp [rangeD, e], .int _⟩
theorem di_rangeDn (hm : X.mg "range" = none) (ha : DA X E [.f, .f, .f] Γ [e, e2, e3] tA fA) (hg : Gl X "range" := by rfl) (hs : starEach [e, e2, e3] X.env = (false, eval e X.env) :: starEach [e2, e3] X.env := by rfl) (hpl : (backTo pos (starEach [e2, e3] X.env)).any (·.1) = false := by rfl) :
    DI false X E Γ tg (.Call (.Name "range" p) [e, e2, e3] [] pos) (iRng3 tA) (iRngDown fA) :=
  ⟨pi_range3 hg hm ha.pa hs hpl, fun pot M σ H ρ π I p R h => by
    refine PostI.seqA (ks := [.f, .f, .f]) (te := tA σ H) h (fun Q' hq => ha.sem pot M σ H ρ π I p Q' hq) fun ds π1 vs H1 _ g1 p1 r1 h1 => ?_
    obtain ⟨v, d, v2, d2, v3, d3, rfl, rfl, a, b, c⟩ := args3 r1
    unfold rngDown at h1
    simp only at h1
    split at h1
    · rename_i i j l e
      cases e
      split at h1
      · rename_i hj
        simp only [Bool.and_eq_true, decide_eq_true_eq] at hj
        obtain ⟨⟨q0, q9⟩, rfl⟩ := hj
        obtain ⟨q1, q2⟩ := mid_of q0
        obtain ⟨q3, q4⟩ := mid_of q9
        refine ⟨i, j, -1, (i - j).toNat, ?_, RgC.neg q1 q2 q3 q4, h1 _ H1 _ _ .refl p1 walkRc⟩
        rw [rb_int (.inl a : Rb X.mg X.K pot M H1 v (.int i)), rb_int (.inl b : Rb X.mg X.K pot M H1 v2 (.int j)), rb_int (.inl c : Rb X.mg X.K pot M H1 v3 (.int (-1)))]
      · exact h1.elim
    · exact h1.elim⟩
/-- a function of another module, called -/
theorem de_callG {id : String} {x : Str} {rc : List V → Hp → VK → Prop} {rz : Rm} {g : List D → Option D} (o : CallOk X (.builtin id) rc ks rz g) (hm : X.mg x = some (.builtin id)) (hA : DA X E ks Γ (e :: es) tA fA) (hg : Gl X x := by rfl) (hdb : (x == ("__debug__" : Str)) = false := by decide)
    (he : starEach (e :: es) X.env = (false, eval e X.env) :: starEach es X.env := by rfl) (hpl : (backTo pos (starEach es X.env)).any (·.1) = false := by rfl) :
    DE X E rz Γ (.Call (.Name x p) (e :: es) [] pos) (tCB rc tA) (eApp g fA) := ⟨pe_callBfun o.1 hg hm hA.pa hdb he hpl, sem_app o.2 hA.sem⟩
end
end DL

set_option maxHeartbeats 2000000
/-! Instances: attributes, the making of them, methods. -/
namespace DL
open PySem PySem.Spec PyProof.Rows L2

def fldD (c f : Str) : D → Option D
  | .ins c' ns xs => if c' = c then (ns.zip xs).lookup f else none
  | _ => none
/-- a class of the text whose instances have these attributes -/
def ClsF (K : PySem.W.Frag) (mg : Str → Option Value) (c : Str) (fs : List Str) : Prop := ∃ C, mg c = some (.ref C) ∧ Cls K C ∧ ∀ f ∈ fs, NoAttr K C f
section
variable {mg : Str → Option Value} {K : PySem.W.Frag} {pot : Option Addr} {M : List Addr} {H H' : Hp} {v x : V} {d : D}
theorem rb_ins {c : Str} {ns : List Str} {ds : List D} (h : Rb mg K pot M H x (.ins c ns ds)) : ∃ a C dx fs, x = .ref a ∧ mg c = some (.ref C) ∧ H a = some (.ins C dx fs) ∧ ns = fs.map (·.1) ∧ RpL mg K (less H M) (fs.map (·.2)) ds := by
  rcases h with h | ⟨p, e1, _, o, h1, h2⟩
  · cases h with
    | ins m h1 h2 => exact ⟨_, _, _, _, rfl, m, less_le _ _ h1, rfl, h2⟩
  · cases h2 with
    | ins m h2 => exact ⟨p, _, _, _, e1, m, h1, rfl, h2.mono (less_sub fun a q => List.mem_cons_of_mem _ q)⟩
theorem look_r {f : Str} {z : D} : ∀ {fs : List (Str × V)} {ds : List D}, RpL mg K H (fs.map (·.2)) ds → ((fs.map (·.1)).zip ds).lookup f = some z → ∃ v, fs.lookup f = some v ∧ Rp mg K H v z
  | [], _, _, e => by simp at e
  | p :: fs, _, .cons h r, e => by
    obtain ⟨g, v⟩ := p
    simp only [List.map_cons, List.zip_cons_cons, List.lookup_cons] at e ⊢
    split at e
    · rename_i hg
      cases e
      exact ⟨v, rfl, h⟩
    · exact look_r r e
end
section
variable {X : Cx} {E : XK} {Γ Γ1 Γ' : List Md} {r ra rb rc : Rm} {e a b : Expr} {ta tb te : TE} {fa fb fe : Ed} {pos p p2 apos : Pos} {k kk : Nat} {es : List Expr} {ks : List Ak} {tA : TA} {fA : Ea}
/-- e.f -/
theorem de_fld (c : Str) (fs : List Str) {f : Str} (h : ClsF X.K X.mg c fs) (ha : DE X E r Γ a ta fa) (hf : f ∈ fs := by decide) (hb : attributeBase a f X.env (eval a X.env) = eval a X.env := by rfl) : DE X E .f Γ (.Attribute a f pos) (tFld X.K ta f) (eUn (fldD c f) fa) :=
  ⟨pe_fld ha.pe hb, fun pot M σ H ρ π I p Q q => by
    refine Post.seq (r' := r) (te := ta σ H) q p (fun Q' hq => ha.sem pot M σ H ρ π I p Q' hq) fun d π1 v H1 _ g1 p1 r1 h1 => ?_
    cases hz : fldD c f d with
    | none =>
      simp only [hz, ofO_none, Res.bind_stuck] at h1
      exact h1.elim
    | some z =>
      simp only [hz, ofO_some, Res.bind_ok] at h1
      cases d with
      | ins c' ns xs =>
        simp only [fldD] at hz
        split at hz
        · rename_i hc
          subst hc
          obtain ⟨y, C, dx, gs, rfl, m, hy, rfl, rr⟩ := rb_ins r1.toB
          obtain ⟨C', m', cl, no⟩ := h
          rw [m] at m'
          cases m'
          obtain ⟨u, e1, e2⟩ := look_r rr hz
          exact ⟨y, C, dx, gs, u, rfl, hy, cl, no f hf, e1, h1 _ H1 .refl p1 e2⟩
        · cases hz
      | _ => cases hz⟩

/-! ### making -/
def putN (f : Str) (z : D) : List Str → List D → List Str × List D
  | g :: ns, x :: xs => if g = f then (g :: ns, z :: xs) else (g :: (putN f z ns xs).1, x :: (putN f z ns xs).2)
  | _, _ => ([f], [z])
theorem putN_r {mg : Str → Option Value} {K : PySem.W.Frag} {H : Hp} {f : Str} {v : V} {z : D} (h : Rp mg K H v z) : ∀ {fs : List (Str × V)} {ds : List D}, RpL mg K H (fs.map (·.2)) ds → (putF f v fs).map (·.1) = (putN f z (fs.map (·.1)) ds).1 ∧ RpL mg K H ((putF f v fs).map (·.2)) (putN f z (fs.map (·.1)) ds).2
  | [], _, .nil => ⟨rfl, .cons h .nil⟩
  | (g, x) :: fs, _, .cons h1 r => by
    obtain ⟨i1, i2⟩ := putN_r h r
    rw [show putF f v ((g, x) :: fs) = (if g = f then (g, v) :: fs else (g, x) :: putF f v fs) from rfl]
    simp only [List.map_cons, putN]
    by_cases e : g = f
    · rw [if_pos e, if_pos e]
      exact ⟨rfl, .cons h r⟩
    · rw [if_neg e, if_neg e]
      exact ⟨by rw [List.map_cons, i1], .cons h1 i2⟩
abbrev Fi := D → Rho → Pot → Res ((D × Rho) × Pot)
def SemIn (mg : Str → Option Value) (K : PySem.W.Frag) (E : XK) (Γ : List Md) (ts : TS) (fi : Fi) : Prop :=
  ∀ pot M0 H0 B M σ H ρ π x d D, SOk mg K Γ pot M0 H0 B M σ H ρ → σ[0]? = some (some (.ref x)) → Held mg K .o Γ pot H0 M σ H ρ (.ref x) d → PotAt pot H π →
    (match fi d ρ π with
      | .ok ((d', ρ'), π') => ∀ M' σ' H', SOk mg K Γ pot M0 H0 B M' σ' H' ρ' → σ'[0]? = some (some (.ref x)) → Held mg K .o Γ pot H0 M' σ' H' ρ' (.ref x) d' → PotAt pot H' π' → D.nx σ' H'
      | .err c ns xs π' => PErr mg K pot M0 H0 c ns xs π' E
      | .stuck => False) → ts D σ H
structure DIn (X : Cx) (E : XK) (Γ : List Md) (sts : List Stmt) (ts : TS) (fi : Fi) : Prop where
  pss : PSs X sts ts
  sem : SemIn X.mg X.K E Γ ts fi
def iNil : Fi := fun d ρ π => .ok ((d, ρ), π)
def iSet (j : Nat) (fe : Ed) (g : Fi) : Fi := fun d ρ π => (fe ρ π).bind fun x => g d (ρ.set j (some x.1)) x.2
def iFld (f : Str) (fe : Ed) (g : Fi) : Fi := fun d ρ π => (fe ρ π).bind fun x => match d with
  | .ins c ns xs => if ns.length < 1000 then g (.ins c (putN f x.1 ns xs).1 (putN f x.1 ns xs).2) ρ x.2 else .stuck
  | _ => .stuck
theorem din_nil : DIn X E Γ [] tNext iNil := ⟨pss_nil, fun pot M0 H0 B M σ H ρ π x d D S s0 hd p h => h M σ H S s0 hd p⟩
theorem din_set (j : Nat) {y : Str} {sts : List Stmt} {us : TS} {g : Fi} (o : XOk X E k) (he : DE X E .f Γ e te fe) (hn : DIn X E Γ sts us g) (h0 : j ≠ 0 := by decide) (hΓ : Γ[j]? = some .f := by rfl) (hN : X.N[j]? = some y := by rfl) (hx : Loc X.env.scope y := by first | exact Or.inl rfl | exact Or.inr rfl)
    (hs : swapsWith e (some (.Name y p)) pos.line X.env = pure false := by rfl) (hf : X.fn y = true ∨ X.env.scope.names.lookup y = some .local := by first | exact .inl rfl | exact .inr rfl) : DIn X E Γ (.Assign [.Name y p] e pos :: sts) (tSeq (tAsg te (gName j)) us) (iSet j fe g) :=
  ⟨pss_cons (ps_set o.nd hN hx he.pe hs hf) hn.pss, fun pot M0 H0 B M σ H ρ π x d D S s0 hd pp q => by
    unfold iSet at q
    refine he.sem pot M σ H ρ π S.env pp _ ?_
    cases ef : fe ρ π with
    | err c ns xs π' =>
      rw [ef] at q
      exact PErr.out q S
    | stuck =>
      rw [ef] at q
      exact q
    | ok z =>
      obtain ⟨z, π1⟩ := z
      rw [ef] at q
      simp only [Res.bind_ok] at q
      intro v H1 g1 p1 r1
      obtain ⟨M1, S1, hv, hc⟩ := S.hold (r := .f) g1 p1 r1
      have hd1 := hd.carry S.env.pm g1 hc
      have S2 := S1.put (r := .f) (i := j) (List.getElem?_eq_some_iff.mp hΓ).1 hv
      have hd2 := hd1.put hv (i := j) (fun _ z => by cases z)
      rw [show Γ.set j Rm.f.md = Γ from set_same hΓ] at S2 hd2
      exact hn.sem pot M0 H0 B M1 _ H1 _ π1 x d D S2 (by rw [List.getElem?_set_ne h0]; exact s0) hd2 p1 q⟩
/-- a held thing changes -/
theorem SOk.mutx {mg : Str → Option Value} {K : PySem.W.Frag} {pot : Option Addr} {M M0 : List Addr} {H H0 B : Hp} {σ : L2.St} {ρ : Rho} {x : Addr} {d d' : D} {o' : HO} (S : SOk mg K Γ pot M0 H0 B M σ H ρ) (hd : Held mg K .o Γ pot H0 M σ H ρ (.ref x) d) (q : HoR mg K (less H M) o' d') :
    SOk mg K Γ pot M0 H0 B M σ (upd H x o') ρ ∧ Held mg K .o Γ pot H0 M σ (upd H x o') ρ (.ref x) d' := by
  obtain ⟨x', ex, m, ⟨n, oo, h1, h2⟩, hz, no⟩ := hd
  cases ex
  have I := S.env
  have own' : Own mg K pot M (upd H x o') x d' := ⟨n, o', upd_same, (q.mono (less_in m)).mono (less_upd (List.mem_cons_self ..))⟩
  refine ⟨⟨⟨I.ls, I.lr, fun j e g1 g2 => ?_, fun j e g1 g2 => ?_, I.p, fun j e g1 g2 => ?_, I.ap, fun a ha => ?_, I.pm⟩, fun a o g1 g2 => ?_, S.sub, S.ow, S.m0, fun a o e => less_upd m a o (S.bs a o e)⟩, x, rfl, m, own', hz, no⟩
  · obtain ⟨w, w1, w2⟩ := I.f j e g1 g2
    exact ⟨w, w1, w2.mono (less_upd m)⟩
  · obtain ⟨a, w1, w2, w3, oj, w5, w6⟩ := I.o j e g1 g2
    have na : a ≠ x := fun z => no j e g1 g2 (by rw [← z]; exact w1)
    exact ⟨a, w1, w2, w3, oj, by rw [upd_ne na]; exact w5, w6.mono (less_upd (List.mem_cons_of_mem _ m))⟩
  · obtain ⟨a, ns, w1, w2, w3⟩ := I.s j e g1 g2
    exact ⟨a, ns, w1, w2, sqL_mono (less_upd m) w3⟩
  · by_cases z : a = x
    · rw [z, upd_same]
      simp
    · rw [upd_ne z]
      exact I.al a ha
  · have z : a ≠ x := fun z => by
      rw [z, hz] at g2
      cases g2
    rw [upd_ne z]
    exact S.gr a o g1 g2
theorem din_fld (c : Str) (fs : List Str) {f y : Str} {sts : List Stmt} {us : TS} {g : Fi} (hC : ClsF X.K X.mg c fs) (he : DE X E .f Γ e te fe) (hn : DIn X E Γ sts us g) (hf : f ∈ fs := by decide) (hN : X.N[0]? = some y := by rfl) (hv : Vis X.env.scope y := by first | exact Or.inl rfl | exact Or.inr (Or.inl rfl) | exact Or.inr (Or.inr rfl))
    (hd : (y == ("__debug__" : Str)) = false := by decide) (hcd : (y == ("__classdict__" : Str)) = false := by decide) (hs : swapsWith e (some (.Attribute (.Name y p) f p2)) pos.line X.env = pure false := by rfl) :
    DIn X E Γ (.Assign [.Attribute (.Name y p) f p2] e pos :: sts) (tSeq (sFld X.K (tVar 0) te f) us) (iFld f fe fun d ρ π => match d with | .ins c' _ _ => if c' = c then g d ρ π else .stuck | _ => .stuck) :=
  ⟨pss_cons (ps_fld (pe_var hN hv hd hcd) he.pe hs) hn.pss, fun pot M0 H0 B M σ H ρ π x d D S s0 hh pp q => by
    unfold iFld at q
    refine he.sem pot M σ H ρ π S.env pp _ ?_
    cases ef : fe ρ π with
    | err c ns xs π' =>
      rw [ef] at q
      exact PErr.out q S
    | stuck =>
      rw [ef] at q
      exact q
    | ok z =>
      obtain ⟨z, π1⟩ := z
      rw [ef] at q
      simp only [Res.bind_ok] at q
      intro v H1 g1 p1 r1
      have S1 := S.grow g1 p1
      have h1 := hh.carry S.env.pm g1 (.inl rfl)
      cases d with
      | ins c' ns xs =>
        by_cases hlen : ns.length < 1000
        · by_cases hcc : c' = c
          · subst hcc
            simp only [hlen, if_true] at q
            obtain ⟨x', ex, m, ⟨n, oo, k1, k2⟩, hz, no⟩ := id h1
            cases ex
            cases k2 with
            | @ins C dx fs' c ds mC rr =>
              obtain ⟨C', mC', cl, nos⟩ := hC
              rw [mC] at mC'
              cases mC'
              have rr' := rr.mono (less_sub (N := M) fun a q => List.mem_cons_of_mem _ q)
              obtain ⟨i1, i2⟩ := putN_r (f := f) (v := v) (z := z) r1 rr'
              obtain ⟨S2, h2⟩ := S1.mutx h1 (o' := .ins C dx (putF f v fs')) (d' := .ins c' (putN f z (fs'.map (·.1)) xs).1 (putN f z (fs'.map (·.1)) xs).2) (by
                rw [← i1]
                exact .ins mC i2)
              have p2 : PotAt pot (upd H1 x (.ins C dx (putF f v fs'))) π1 := p1.mut n
              exact ⟨_, s0, x, C, dx, fs', rfl, k1, cl, nos f hf, by simpa using hlen, hn.sem pot M0 H0 B M σ _ ρ π1 x _ D S2 s0 h2 p2 q⟩
          · simp only [hlen, if_true, hcc, if_false] at q
        · simp only [hlen, if_false] at q
      | _ => exact q.elim⟩
end
end DL

set_option maxHeartbeats 2000000
/-! Instances are made. -/
namespace DL
open PySem PySem.Spec PyProof.Rows L2

def but (H : Hp) (x : Addr) : Hp := fun a => if a = x then none else H a
theorem but_ne {H : Hp} {x a : Addr} (h : a ≠ x) : but H x a = H a := by
  unfold but
  rw [if_neg h]
theorem but_self {H : Hp} {x : Addr} : but H x x = none := by
  unfold but
  rw [if_pos rfl]
theorem but_some {H : Hp} {x a : Addr} {o : HO} (h : but H x a = some o) : a ≠ x ∧ H a = some o := by
  by_cases e : a = x
  · rw [e, but_self] at h
    cases h
  · rw [but_ne e] at h
    exact ⟨e, h⟩
section
variable (mg : Str → Option Value) (K : PySem.W.Frag)
/-- what a class's __init__ promises -/
def SpI (c : Str) (ks : List Ak) (m : Fd) : Sp := fun vs H Q E => vs.length = ks.length + 1 ∧ ∃ x C dx ws pot M ds π, vs = .ref x :: ws ∧ mg c = some (.ref C) ∧ H x = some (.ins C dx []) ∧ x ∉ M ∧ pot ≠ some x ∧
  Args mg K pot M (but H x) ks ws ds ∧ (∀ a ∈ M, but H x a ≠ none) ∧ (∀ a, pot = some a → a ∈ M) ∧ PotAt pot (but H x) π ∧
  (match m ds π with
    | .ok (d, π1) => ∀ H', Grow pot (but H x) H' → PotAt pot H' π1 → Own mg K pot M H' x d → Q .non H'
    | .err c ns xs π1 => PErr mg K pot M (but H x) c ns xs π1 E
    | .stuck => False)
end
/-- a class with what its making gives -/
structure DMk (P : Program) (w : World) (K : PySem.W.Frag) (mg : Str → Option Value) (base : Heap) (k : Nat) (c qual : Str) (st : Stmt) (ps : List Str) (ks : List Ak) (m : Fd) : Prop where
  ex : ∃ C fI fd, mg c = some (.ref C) ∧ Mk K C fI ∧ Fun K "__init__" qual st fI fd ∧ FnG P w K mg base k fI fd ps (SpI mg K c ks m)
def runI (n : Nat) (c : Str) (fi : Fi) : Fd := fun ds π => (fi (.ins c [] []) (startD n (.non :: ds)) π).bind fun x => .ok (x.1.1, x.2)
section
variable {P : Program} {w : World} {K : PySem.W.Frag} {mg : Str → Option Value} {base : Heap} {k : Nat}
theorem Args.of_rpl {pot : Option Addr} {M : List Addr} {H : Hp} : ∀ {ks : List Ak} {vs : List V} {ds : List D}, RpL mg K (less H M) vs ds → vs.length = ks.length → (∀ k ∈ ks, k = Ak.f) → Args mg K pot M H ks vs ds
  | [], _, _, .nil, _, _ => .nil
  | k :: ks, _, _, .cons h r, hl, hk => by
    have e : k = .f := hk k (List.mem_cons_self ..)
    subst e
    exact .cons h (Args.of_rpl r (by simpa using hl) fun k h => hk k (List.mem_cons_of_mem _ h))
theorem dmk_of {c qual : Str} {st : Stmt} {ps N : List Str} {ks : List Ak} {fi : Fi} (Γ : List Md) (hf : ∃ C fI fd, mg c = some (.ref C) ∧ Mk K C fI ∧ Fun K "__init__" qual st fI fd) (S : FnScope N ps (defScope st)) (hp : ps.length = ks.length + 1) (hl : Γ.length = N.length) (hk : ks.length + 1 ≤ N.length)
    (hm : modesOk (.b :: ks) Γ = true) (hks : ∀ k ∈ ks, k = Ak.f) (hno : ∀ m ∈ Γ, m ≠ Md.o)
    (hb : ∀ (f : Addr) (cdv : Value) (A : Around) (outer : List Env) (s : Shared) (H : Hp) (E : XK), XOk (cxOf (L2.CX P w) P w K mg base N qual (defScope st) f cdv A outer s H E) E k →
      ∃ ts, DIn (cxOf (L2.CX P w) P w K mg base N qual (defScope st) f cdv A outer s H E) E Γ (defBody st) ts fi) :
    DMk P w K mg base (k + 1) c qual st ps ks (runI N.length c fi) := by
  obtain ⟨C0, fI, fd, h0, hM, h2⟩ := hf
  refine ⟨C0, fI, fd, h0, hM, h2, ?_⟩
  obtain ⟨oc, od, kV, doc, pm, an, cdv, ct, osl, rfl, lk, hcd⟩ := h2.ex
  refine fn_ofG lk hcd S (fun vs H Q E h => by rw [h.1, hp]) fun A outer s H vs Q E room gd want => ?_
  obtain ⟨_, x, C, dx, ws, pot, M, ds, π, rfl, mC, hx, nx, npx, ar, al, pmm, pt, post⟩ := want
  have o : XOk (cxOf (L2.CX P w) P w K mg base N qual (defScope st) fI cdv A outer s H E) E k :=
    ⟨room, gd, rfl, passes_call (takes_of rfl rfl rfl rfl) fun _ _ _ _ z => z, passes_of rfl, S.nd⟩
  obtain ⟨ts, B⟩ := hb fI cdv A outer s H E o
  refine ⟨ts, B.pss, ?_⟩
  have own0 : Own mg K pot (x :: M) H x (.ins c [] []) := ⟨npx, _, hx, .ins (fs := []) mC .nil⟩
  have sm : Same (less (but H x) M) (less H (x :: M)) := fun a u e => by
    obtain ⟨e1, e2⟩ := less_some.mp e
    obtain ⟨e3, e4⟩ := but_some e2
    refine less_some.mpr ⟨fun m => ?_, e4⟩
    rcases List.mem_cons.mp m with z | m
    · exact e3 z
    · exact e1 m
  have ar2 : Args mg K pot (x :: M) H (.b :: ks) (.ref x :: ws) (.non :: ds) ∨ True := .inr trivial
  have rl := (ar.rpl hks).mono sm
  have I0 : EnvOk mg K Γ pot (x :: M) (L2.start N (.ref x :: ws)) H (startD N.length (.non :: ds)) := by
    have a1 : Args mg K pot (x :: M) H ks ws ds := .of_rpl rl ar.length hks
    have a2 : Args mg K pot (x :: M) H (.b :: ks) (.ref x :: ws) (.ins c [] [] :: ds) := .cons (.inr ⟨x, rfl, own0⟩) a1
    have I := env_start hm hl hk a2 (fun a ha => by
      rcases List.mem_cons.mp ha with z | ha
      · rw [z, hx]
        simp
      · have := al a ha
        intro e
        by_cases z : a = x
        · exact nx (by rw [← z]; exact ha)
        · rw [but_ne z] at this
          exact this e) (fun a e => List.mem_cons_of_mem _ (pmm a e))
    have g0 : Γ[0]? = some .u := by
      obtain ⟨m1, _⟩ := Bool.and_eq_true_iff.mp hm
      have m1 := of_decide_eq_true m1
      have e : (Γ.take (Ak.b :: ks).length)[0]? = Γ[0]? := List.getElem?_take_of_lt (by simp)
      rw [← e, m1]
      rfl
    have oth : ∀ (j : Nat) (m : Md), m ≠ .u → Γ[j]? = some m → j ≠ 0 := fun j m hm h z => by
      rw [z, g0] at h
      cases h
      exact hm rfl
    have at_ : ∀ j, j ≠ 0 → (startD N.length (.non :: ds))[j]? = (startD N.length (.ins c [] [] :: ds))[j]? := fun j hj => by
      unfold startD
      cases j with
      | zero => exact absurd rfl hj
      | succ j => simp
    refine ⟨I.ls, by rw [← I.lr]; simp [startD], fun j d h1 h2 => I.f j d h1 (by rw [← at_ j (oth j _ (by simp) h1)]; exact h2), fun j d h1 h2 => absurd rfl (hno _ (List.mem_of_getElem? h1)), I.p, fun j d h1 h2 => I.s j d h1 (by rw [← at_ j (oth j _ (by simp) h1)]; exact h2), fun i j a d e h1 => absurd rfl (hno _ (List.mem_of_getElem? h1)), I.al, I.pm⟩
  have S0 : SOk mg K Γ pot M (but H x) (fun _ => none) (x :: M) (L2.start N (.ref x :: ws)) H (startD N.length (.non :: ds)) :=
    ⟨I0, fun a u _ e => (but_some e).2, fun a h => List.mem_cons_of_mem _ h, fun i d a h1 => absurd rfl (hno _ (List.mem_of_getElem? h1)), al, fun a u e => by cases e⟩
  have hd : Held mg K .o Γ pot (but H x) (x :: M) (L2.start N (.ref x :: ws)) H (startD N.length (.non :: ds)) (.ref x) (.ins c [] []) :=
    ⟨x, rfl, List.mem_cons_self .., own0, but_self, fun i e h1 => absurd rfl (hno _ (List.mem_of_getElem? h1))⟩
  have pt2 : PotAt pot H π := fun a e => (but_some (pt a e)).2
  refine B.sem pot M (but H x) (fun _ => none) (x :: M) _ H _ π x _ _ S0 (by rw [start_at (by simp)]; rfl) hd pt2 ?_
  unfold runI at post
  cases ef : fi (.ins c [] []) (startD N.length (.non :: ds)) π with
  | err c ns xs π' =>
    rw [ef] at post
    exact post
  | stuck =>
    rw [ef] at post
    exact post
  | ok y =>
    obtain ⟨⟨d', ρ'⟩, π1⟩ := y
    rw [ef] at post
    intro M' σ' H' S' s0 h' p'
    obtain ⟨x', ex, _, ⟨n, oo, k1, k2⟩, _, _⟩ := h'
    cases ex
    refine post H' S'.gr p' ⟨n, oo, k1, k2.mono (less_sub fun a ha => ?_)⟩
    rcases List.mem_cons.mp ha with z | ha
    · rw [z]
      exact List.mem_cons_self ..
    · exact List.mem_cons_of_mem _ (S'.sub a ha)
theorem DMk.mono {j : Nat} {c qual : Str} {st : Stmt} {ps : List Str} {ks : List Ak} {m : Fd} (F : DMk P w K mg base j c qual st ps ks m) (h : j ≤ k) : DMk P w K mg base k c qual st ps ks m := by
  obtain ⟨C, f, fd, h0, h1, h2, h3⟩ := F.ex
  exact ⟨C, f, fd, h0, h1, h2, h3.mono h⟩
end
section
variable {X : Cx} {E : XK} {Γ : List Md} {pos p : Pos} {k j : Nat} {ks : List Ak} {tA : TA} {fA : Ea} {e : Expr} {es : List Expr}
theorem run_makeG {pins : List (Addr × Obj)} {σ : L2.St} {H : Hp} {s : Shared} {Q : VK} {us : List Value} {vs : List V} {C f : Addr} {fd : FuncData} {ps : List Str} {sp : Sp} (M : Mk X.K C f) (F : FnG X.prog X.w X.K X.mg X.base j f fd ps sp) (o : XOk X E k) (hj : j + 1 ≤ k)
    (hb : ∀ (s : Shared) (us : List Value), us.length = ps.length → BindsTo s fd ⟨us, []⟩ (ps.zip us)) (I : Inv X pins σ H s) (r : Vals vs us)
    (h : ∀ x dx, H x = none → H dx = none → dx ≠ x → sp (.ref x :: vs) (upd (upd H dx (.own x)) x (.ins C dx [])) (fun v H2 => v = .non ∧ Q (.ref x) H2) E) :
    wpAny (model X.prog X.w) X.A (call (.ref C) us) (EP X pins σ Q) X.xe s := by
  have want := h (s.heap.objs.size + 1) s.heap.objs.size (I.hok.fresh (Nat.le_succ _)) (I.hok.fresh (Nat.le_refl _)) (Nat.ne_of_lt (Nat.lt_succ_self _))
  have J := Inv.made (C := C) I
  have rel : Vals (V.ref (s.heap.objs.size + 1) :: vs) (Value.ref (s.heap.objs.size + 1) :: us) := .cons rfl r
  have len : (Value.ref (s.heap.objs.size + 1) :: us).length = ps.length := by
    rw [← F.len _ _ _ _ want]
    exact rel.length.symm
  have room := (o.room.mono hj).make C us []
  have run := F.run (X.A.under (.builtin "type.__call__" ⟨.ref C :: us, []⟩)) X.stack _ _ ⟨Value.ref (s.heap.objs.size + 1) :: us, []⟩ (Value.ref (s.heap.objs.size + 1) :: us) _ _ E room (by first | exact o.gd | (show (X.A.under _).guards = some []; simp [Around.under, o.gd])) (J.env0.make C us []) (hb _ _ len) rel want
  refine wpAny_call (make_map (f := f) I.kIn M.makes M.init (beq_iff_eq.mp M.fn) (codeAny_mono run fun r s' z => ?_))
  match r, z with
  | .error er, z => exact o.pass pins σ _ _ er s' J z
  | .ok .next, z => exact z.elim
  | .ok .brk, z => exact z.elim
  | .ok .cont, z => exact z.elim
  | .ok (.ret u), z =>
    obtain ⟨v, H', I3, rv, ev, q3⟩ := J.after z
    subst ev
    exact ⟨rv, V.ref (s.heap.objs.size + 1), H', I3, rfl, q3⟩
def tMkD (mg : Str → Option Value) (K : PySem.W.Frag) (c : Str) (ks : List Ak) (m : Fd) (E : XK) (t : TA) : TE := fun σ H Q => t σ H fun vs H1 => ∀ C, mg c = some (.ref C) → ∀ x dx, H1 x = none → H1 dx = none → dx ≠ x →
  SpI mg K c ks m (.ref x :: vs) (upd (upd H1 dx (.own x)) x (.ins C dx [])) (fun v H2 => v = .non ∧ Q (.ref x) H2) E
theorem sem_mk {c : Str} {m : Fd} (hA : SemA X.mg X.K E ks Γ tA fA) : SemE X.mg X.K E .o Γ (tMkD X.mg X.K c ks m E tA) (eGo m fA) := fun pot M σ H ρ π I p Q h => by
  refine PostA.seq (ks := ks) (te := tA σ H) h p (fun Q' hq => hA pot M σ H ρ π I p Q' hq) fun ds π1 vs H1 _ g1 p1 r1 h1 => ?_
  intro C mC x dx hx hdx hne
  have I1 := I.grow g1 p1
  have hb : but (upd (upd H1 dx (.own x)) x (.ins C dx [])) x = upd H1 dx (.own x) := funext fun a => by
    by_cases z : a = x
    · rw [z, but_self, upd_ne (Ne.symm hne)]
      exact hx.symm
    · rw [but_ne z, upd_ne z]
  have gr : Grow pot H1 (upd H1 dx (.own x)) := .new hdx
  refine ⟨by simp [r1.length], x, C, dx, vs, pot, M, ds, π1, rfl, mC, upd_same, fun m => I1.al x m hx, fun e => p1.has x e hx, ?_⟩
  rw [hb]
  refine ⟨r1.grow I.pm gr, fun a ha e => ?_, I.pm, p1.new hdx, ?_⟩
  · by_cases z : a = dx
    · rw [z, upd_same] at e
      cases e
    · rw [upd_ne z] at e
      exact I1.al a ha e
  · cases em : m ds π1 with
    | ok y =>
      obtain ⟨d, π2⟩ := y
      rw [em] at h1
      exact fun H' g' p' own => ⟨rfl, h1 (.ref x) H' (gr.trans g') p' ⟨x, rfl, hx, own⟩⟩
    | err c ns xs π' =>
      rw [em] at h1
      exact PErr.back h1 gr
    | stuck =>
      rw [em] at h1
      exact h1
/-- C(e, ..) -/
theorem de_new {c qual : Str} {st : Stmt} {ps : List Str} {m : Fd} (F : DMk X.prog X.w X.K X.mg X.base j c qual st ps ks m) (o : XOk X E k)
    (hb : ∀ (kV doc pm : Value) (an : Option Addr) (cdv ct : Value) (us : List Value), us.length = ps.length → bindArgs (PySem.W.fnOf "__init__" qual (defArgs st) (defBody st) (defScope st) .none kV doc pm an cdv ct) ⟨us, []⟩ = pure (ps.zip us))
    (hA : DA X E ks Γ (e :: es) tA fA) (hj : j + 1 ≤ k := by decide) (hg : Gl X c := by rfl) (hdb : (c == ("__debug__" : Str)) = false := by decide) (he : starEach (e :: es) X.env = (false, eval e X.env) :: starEach es X.env := by rfl) (hpl : (backTo pos (starEach es X.env)).any (·.1) = false := by rfl) :
    DE X E .o Γ (.Call (.Name c p) (e :: es) [] pos) (tMkD X.mg X.K c ks m E tA) (eGo m fA) :=
  ⟨⟨fun pins s σ H Q I h => by
    obtain ⟨C, f, fd, h0, hM, h2, h3⟩ := F.ex
    refine wpAny_Call_Name_kw (ld_glob I hg h0 ?_ hdb)
    refine PySem.W.callWith_K (h₀ := X.base) I.ok.mod.kin hM.kp (thn (hA.pa.run pos pins s σ H _ I h) fun us s1 ⟨vs, H1, I1, rl, q⟩ => ⟨I1.kIn, ?_⟩) he hpl
    refine run_makeG hM h3 o hj (fun s us hl => ?_) I1 rl (q C h0)
    obtain ⟨oc, od, kV, doc, pm, an, cdv, ct, osl, rfl, lk, hcd⟩ := h2.ex
    exact .of_eq (hb kV doc pm an cdv ct us hl)⟩, sem_mk hA.sem⟩
end
end DL

set_option maxHeartbeats 2000000
/-! Methods, properties. -/
namespace DL
open PySem PySem.Spec PyProof.Rows L2

section
variable {P : Program} {w : World} {K : PySem.W.Frag} {mg : Str → Option Value} {base : Heap} {k : Nat} {x qual : Str} {st : Stmt} {ps N : List Str} {ks : List Ak} {r : Rm}
/-- a def by its body, wherever it stands -/
theorem fnD_of {fs : Fs} {f : Addr} {fd : FuncData} (Γ Γ' : List Md) (h2 : Fun K x qual st f fd) (S : FnScope N ps (defScope st)) (hp : ks.length = ps.length) (hl : Γ.length = N.length) (hk : ks.length ≤ N.length) (hm : modesOk ks Γ = true)
    (hb : ∀ (f : Addr) (cdv : Value) (A : Around) (outer : List Env) (s : Shared) (H : Hp) (E : XK), XOk (cxOf (L2.CX P w) P w K mg base N qual (defScope st) f cdv A outer s H E) E k →
      ∃ ts, DSs (cxOf (L2.CX P w) P w K mg base N qual (defScope st) f cdv A outer s H E) E r Γ Γ Γ' (defBody st) ts fs) :
    FnG P w K mg base (k + 1) f fd ps (SpD mg K ks r (runD N.length r fs)) := by
  obtain ⟨oc, od, kV, doc, pm, an, cdv, ct, osl, rfl, lk, hcd⟩ := h2.ex
  refine fn_ofG lk hcd S (fun vs H Q E h => by rw [h.1, hp]) fun A outer s H vs Q E room gd want => ?_
  obtain ⟨_, pot, M, ds, π, ar, al, pm, pt, post⟩ := want
  have o : XOk (cxOf (L2.CX P w) P w K mg base N qual (defScope st) f cdv A outer s H E) E k :=
    ⟨room, gd, rfl, passes_call (takes_of rfl rfl rfl rfl) fun _ _ _ _ z => z, passes_of rfl, S.nd⟩
  obtain ⟨ts, B⟩ := hb f cdv A outer s H E o
  refine ⟨ts, B.pss, ?_⟩
  have I := env_start hm hl hk ar al pm
  refine B.sem pot M H (fun _ => none) M _ H _ π _ ⟨I, .refl, fun a h => h, fun i d a h1 h2 h3 => ?_, al, fun a u e => by cases e⟩ pt ?_
  · exfalso
    obtain ⟨k', v, q1, _⟩ := ar.at (startD_at h2)
    obtain ⟨m1, _⟩ := Bool.and_eq_true_iff.mp hm
    have m1 := of_decide_eq_true m1
    have hi := (List.getElem?_eq_some_iff.mp q1).1
    have e : (Γ.take ks.length)[i]? = Γ[i]? := List.getElem?_take_of_lt hi
    rw [h1, m1, List.getElem?_map, q1] at e
    cases k' <;> cases e
  · unfold runD at post
    cases ef : fs (startD N.length ds) π with
    | err c ns xs π' =>
      rw [ef] at post
      exact post
    | stuck =>
      rw [ef] at post
      exact post
    | ok y =>
      obtain ⟨y, π1⟩ := y
      rw [ef] at post
      cases y with
      | rt d => exact fun v H' g p q => post v H' g p q
      | nx ρ =>
        simp only [Res.bind_ok] at post
        split at post
        · rename_i hrf
          subst hrf
          exact fun M' σ' H' S' p' => post .non H' S'.gr p' .non
        · exact post.elim
      | bk ρ => exact post.elim
      | ct ρ => exact post.elim
/-- a method of a class with what it gives -/
structure DMe (P : Program) (w : World) (K : PySem.W.Frag) (mg : Str → Option Value) (base : Heap) (k : Nat) (c x qual : Str) (st : Stmt) (ps : List Str) (ks : List Ak) (r : Rm) (m : Fd) : Prop where
  ex : ∃ C f fd, mg c = some (.ref C) ∧ Cls K C ∧ Meth K C x f ∧ Fun K x qual st f fd ∧ FnG P w K mg base k f fd ps (SpD mg K (.f :: ks) r m)
theorem DMe.mono {j : Nat} {c : Str} {m : Fd} (F : DMe P w K mg base j c x qual st ps ks r m) (h : j ≤ k) : DMe P w K mg base k c x qual st ps ks r m := by
  obtain ⟨C, f, fd, h0, h1, h2, h3, h4⟩ := F.ex
  exact ⟨C, f, fd, h0, h1, h2, h3, h4.mono h⟩
theorem dme_of {c : Str} {fs : Fs} (Γ Γ' : List Md) (hf : ∃ C f fd, mg c = some (.ref C) ∧ Cls K C ∧ Meth K C x f ∧ Fun K x qual st f fd) (S : FnScope N ps (defScope st)) (hp : (Ak.f :: ks).length = ps.length) (hl : Γ.length = N.length) (hk : (Ak.f :: ks).length ≤ N.length) (hm : modesOk (.f :: ks) Γ = true)
    (hb : ∀ (f : Addr) (cdv : Value) (A : Around) (outer : List Env) (s : Shared) (H : Hp) (E : XK), XOk (cxOf (L2.CX P w) P w K mg base N qual (defScope st) f cdv A outer s H E) E k →
      ∃ ts, DSs (cxOf (L2.CX P w) P w K mg base N qual (defScope st) f cdv A outer s H E) E r Γ Γ Γ' (defBody st) ts fs) :
    DMe P w K mg base (k + 1) c x qual st ps ks r (runD N.length r fs) := by
  obtain ⟨C, f, fd, h0, h1, h2, h3⟩ := hf
  exact ⟨C, f, fd, h0, h1, h2, h3, fnD_of Γ Γ' h3 S hp hl hk hm hb⟩
end
def hasN (m : Str) (c : Str) : D → Bool
  | .ins c' ns _ => decide (c' = c) && !ns.contains m
  | _ => false
def eMeth (c x : Str) (m : Fd) (a : Ed) (b : Ea) : Ed := fun ρ π => (a ρ π).bind fun y => if hasN x c y.1 = true then (b ρ y.2).bind fun z => m (y.1 :: z.1) z.2 else .stuck
theorem look_none {f : Str} : ∀ {fs : List (Str × V)}, f ∉ fs.map (·.1) → fs.lookup f = none
  | [], _ => rfl
  | (g, v) :: r, h => by
    simp only [List.map_cons, List.mem_cons, not_or] at h
    rw [List.lookup_cons, beq_eq_false_iff_ne.mpr h.1]
    exact look_none h.2
section
variable {X : Cx} {E : XK} {Γ : List Md} {r ra : Rm} {pos p apos : Pos} {k j : Nat} {ks : List Ak} {tA : TA} {fA : Ea} {a e : Expr} {ta : TE} {fa : Ed} {es : List Expr} {c x qual : Str} {st : Stmt} {ps : List Str} {m : Fd}
def tMe (mg : Str → Option Value) (K : PySem.W.Frag) (c x : Str) (ks : List Ak) (r : Rm) (m : Fd) (E : XK) (ta : TE) (t : TA) : TE := fun σ H Q => ta σ H fun y H1 => ∃ b C dx fs, y = .ref b ∧ mg c = some (.ref C) ∧ H1 b = some (.ins C dx fs) ∧ fs.lookup x = none ∧ t σ H1 fun vs H2 => SpD mg K (.f :: ks) r m (y :: vs) H2 Q E
theorem sem_me (ha : SemE X.mg X.K E .f Γ ta fa) (hA : SemA X.mg X.K E ks Γ tA fA) : SemE X.mg X.K E r Γ (tMe X.mg X.K c x ks r m E ta tA) (eMeth c x m fa fA) := fun pot M σ H ρ π I p Q h => by
  refine Post.seq (r' := .f) (te := ta σ H) h p (fun Q' hq => ha pot M σ H ρ π I p Q' hq) fun d π1 v H1 _ g1 p1 r1 h1 => ?_
  simp only at h1
  split at h1
  · rename_i hn
    cases d with
    | ins c' ns xs =>
      simp only [hasN, Bool.and_eq_true, decide_eq_true_eq, Bool.not_eq_true'] at hn
      obtain ⟨rfl, hn⟩ := hn
      obtain ⟨b, C, dx, fs, rfl, mC, hb, rfl, rr⟩ := rb_ins (.inl r1 : Rb X.mg X.K pot M H1 v (.ins c' ns xs))
      refine ⟨b, C, dx, fs, rfl, mC, hb, look_none (by simpa using hn), ?_⟩
      have I1 := I.grow g1 p1
      refine PostA.seq (ks := ks) (te := tA σ H1) h1 p1 (fun Q' hq => hA pot M σ H1 ρ π1 I1 p1 Q' hq) fun ds π2 vs H2 _ g2 p2 r2 h2 => ?_
      exact ⟨by simp [r2.length], pot, M, _ :: ds, π2, .cons (show Rp X.mg X.K (less H2 M) (.ref b) _ from Rp.mono (less_grow I.pm g2) r1) r2, (I1.grow g2 p2).al, I.pm, p2, h2⟩
    | _ => cases hn
  · exact h1.elim
theorem de_meth {pl : Sem Bool} (F : DMe X.prog X.w X.K X.mg X.base j c x qual st ps ks r m) (o : XOk X E k)
    (hb : ∀ (kV doc pm : Value) (an : Option Addr) (cdv ct : Value) (us : List Value), us.length = ps.length → bindArgs (PySem.W.fnOf x qual (defArgs st) (defBody st) (defScope st) .none kV doc pm an cdv ct) ⟨us, []⟩ = pure (ps.zip us))
    (ha : DE X E .f Γ a ta fa) (hA : DA X E ks Γ (e :: es) tA fA) (hj : j ≤ k := by decide) (hst : starEach (e :: es) X.env = (false, eval e X.env) :: starEach es X.env := by rfl) (hpl : (backTo pos (starEach es X.env)).any (·.1) = false := by rfl)
    (ht : eval (.Call (.Attribute a x apos) (e :: es) [] pos) X.env = (do
      let ov ← eval a X.env
      standAt apos.atName
      let (f, first) ← holding [ov] (getMethod ov x pl)
      callWith pos f first (backTo pos (starEach (e :: es) X.env)) (backToKw pos (keywordEach [] X.env))) := by rfl) :
    DE X E r Γ (.Call (.Attribute a x apos) (e :: es) [] pos) (tMe X.mg X.K c x ks r m E ta tA) (eMeth c x m fa fA) :=
  ⟨⟨fun pins s σ H Q I h => by
    obtain ⟨C, f, fd, h0, h1, h2, h3, h4⟩ := F.ex
    refine PySem.W.methodCall_KW (pl := pl) (thn (ha.pe.run pins s σ H _ I h) fun u s1 ⟨y, H1, I1, ry, b, C', dx, fs, ey, mC, eb, l, q⟩ => ?_) ht
    subst ey
    rw [h0] at mC
    cases mC
    obtain rfl : u = Value.ref b := ry
    refine getmeth_ok I1 eb h1 h2 l ?_
    refine PySem.W.callWith_K (first := [.ref b]) (h₀ := X.base) I.ok.mod.kin h2.kp (thn (hA.pa.run pos pins s1 σ H1 _ I1 q) fun us s2 ⟨vs, H2, I2, rv, q2⟩ => ⟨I2.kIn, ?_⟩) hst hpl
    have hl : (Value.ref b :: us).length = ps.length := by
      have e := h4.len _ _ _ _ q2
      rw [← e, List.length_cons, List.length_cons, rv.length]
    have bd : BindsTo s2 fd ⟨Value.ref b :: us, ([] : List Str).zip ([] : List Value)⟩ (ps.zip ((Value.ref b :: us) ++ [])) := by
      obtain ⟨oc, od, kV, doc, pm, an, cdv, ct, osl, rfl, lk, hcd⟩ := h3.ex
      rw [List.append_nil]
      exact .of_eq (hb kV doc pm an cdv ct _ hl)
    exact run_go (args := ⟨Value.ref b :: us, []⟩) (kn := []) (ws := []) h4 o hj bd I2 (by rw [List.append_nil]; exact .cons rfl rv) q2⟩, sem_me ha.sem hA.sem⟩
theorem de_meth0 {pl : Sem Bool} (F : DMe X.prog X.w X.K X.mg X.base j c x qual st ps [] r m) (o : XOk X E k)
    (hb : ∀ (kV doc pm : Value) (an : Option Addr) (cdv ct : Value) (us : List Value), us.length = ps.length → bindArgs (PySem.W.fnOf x qual (defArgs st) (defBody st) (defScope st) .none kV doc pm an cdv ct) ⟨us, []⟩ = pure (ps.zip us))
    (ha : DE X E .f Γ a ta fa) (hj : j ≤ k := by decide)
    (ht : eval (.Call (.Attribute a x apos) [] [] pos) X.env = (do
      let ov ← eval a X.env
      standAt apos.atName
      let (f, first) ← holding [ov] (getMethod ov x pl)
      callWith pos f first (backTo pos (starEach [] X.env)) (backToKw pos (keywordEach [] X.env))) := by rfl) :
    DE X E r Γ (.Call (.Attribute a x apos) [] [] pos) (tMe X.mg X.K c x [] r m E ta tNil) (eMeth c x m fa aNil) :=
  ⟨⟨fun pins s σ H Q I h => by
    obtain ⟨C, f, fd, h0, h1, h2, h3, h4⟩ := F.ex
    refine PySem.W.methodCall_KW (pl := pl) (thn (ha.pe.run pins s σ H _ I h) fun u s1 ⟨y, H1, I1, ry, b, C', dx, fs, ey, mC, eb, l, q⟩ => ?_) ht
    subst ey
    rw [h0] at mC
    cases mC
    obtain rfl : u = Value.ref b := ry
    refine getmeth_ok I1 eb h1 h2 l ?_
    have q2 : SpD X.mg X.K [.f] r m [.ref b] H1 Q E := q
    have hl : [Value.ref b].length = ps.length := by
      have e := h4.len _ _ _ _ q2
      rw [← e]
      rfl
    have bd : BindsTo s1 fd ⟨[Value.ref b], ([] : List Str).zip ([] : List Value)⟩ (ps.zip ([Value.ref b] ++ [])) := by
      obtain ⟨oc, od, kV, doc, pm, an, cdv, ct, osl, rfl, lk, hcd⟩ := h3.ex
      exact .of_eq (hb kV doc pm an cdv ct _ hl)
    exact PySem.W.callWith_K0 (first := [.ref b]) I1.kIn h2.kp (run_go (args := ⟨[Value.ref b], []⟩) (vs := [V.ref b]) (us := [Value.ref b]) (kn := []) (ws := []) h4 o hj bd I1 (.cons rfl .nil) q2)⟩, sem_me ha.sem da_nil.sem⟩
end
end DL

set_option maxHeartbeats 2000000
/-! More operations: in a tuple, index, any of numbers. -/
namespace DL
open PySem PySem.Spec PyProof.Rows L2

section
variable {X : Cx} {E : XK} {k : Nat}
def rInT (K : PySem.W.Frag) : R2 := fun x y H Q => ∃ d ds, Dp K H x d ∧ Dp K H y (.tuple ds) ∧ SeqAt.shaped d = true ∧ SeqAt.shaped (.tuple ds) = true ∧ Q (.bl (ds.any fun z => PyData.eqv z d)) H
def rNotInT (K : PySem.W.Frag) : R2 := fun x y H Q => ∃ d ds, Dp K H x d ∧ Dp K H y (.tuple ds) ∧ SeqAt.shaped d = true ∧ SeqAt.shaped (.tuple ds) = true ∧ Q (.bl (!ds.any fun z => PyData.eqv z d)) H
theorem op_inT (hu : X.A.units + 65 < cLine) : OpR X (compareOp .In) (rInT X.K) := fun pins s σ H x y v u Q I rx ry h => by
  obtain ⟨d, ds, hd, he, sd, se, q⟩ := h
  obtain ⟨as, r1⟩ := Dp.reads I d x v hd rx
  obtain ⟨bs, r2⟩ := Dp.reads I (.tuple ds) y u he ry
  exact SeqAt.in_tuple_reads r2 r1 (SeqAt.canLay_of_shaped se) (SeqAt.canLay_of_shaped sd) (room_in_shaped sd hu) ⟨.bl _, H, I, rfl, q⟩
theorem op_notInT (hu : X.A.units + 65 < cLine) : OpR X (compareOp .NotIn) (rNotInT X.K) := fun pins s σ H x y v u Q I rx ry h => by
  obtain ⟨d, ds, hd, he, sd, se, q⟩ := h
  obtain ⟨as, r1⟩ := Dp.reads I d x v hd rx
  obtain ⟨bs, r2⟩ := Dp.reads I (.tuple ds) y u he ry
  exact SeqAt.notIn_tuple_reads r2 r1 (SeqAt.canLay_of_shaped se) (SeqAt.canLay_of_shaped sd) (room_in_shaped sd hu) ⟨.bl _, H, I, rfl, q⟩
def inDT (d : D) (e : D) : Option Bool := match toPy d, toPy e with
  | some p, some (.list qs) => if SeqAt.shaped p && SeqAt.shaped (.list qs) then some (qs.any fun z => PyData.eqv z p) else none
  | some p, some (.tuple qs) => if SeqAt.shaped p && SeqAt.shaped (.tuple qs) then some (qs.any fun z => PyData.eqv z p) else none
  | _, _ => none
def opInA (d e : D) : Option D := (inDT d e).map .bl
def opNotInA (d e : D) : Option D := (inDT d e).map fun b => .bl (!b)
theorem o_inA (x : XOk X E k) : OpOk X (compareOp .In) (fun x y H Q => rInD X.K x y H Q ∨ rInT X.K x y H Q) .f opInA := ⟨(op_inD x.u65).or (op_inT x.u65), fun pot M H x y d e z al pm ph rx ry hz Q q => by
  unfold opInA inDT at hz
  split at hz
  · rename_i p qs e1 e2
    split at hz
    · rename_i hs
      cases hz
      obtain ⟨s1, s2⟩ := Bool.and_eq_true_iff.mp hs
      exact .inl ⟨p, qs, (rb_rp rx).dp e1, (rb_rp ry).dp e2, s1, s2, q _ H (Same.refl H) (.bl _)⟩
    · cases hz
  · rename_i p qs e1 e2
    split at hz
    · rename_i hs
      cases hz
      obtain ⟨s1, s2⟩ := Bool.and_eq_true_iff.mp hs
      exact .inr ⟨p, qs, (rb_rp rx).dp e1, (rb_rp ry).dp e2, s1, s2, q _ H (Same.refl H) (.bl _)⟩
    · cases hz
  · cases hz⟩
theorem o_notInA (x : XOk X E k) : OpOk X (compareOp .NotIn) (fun x y H Q => rNotInD X.K x y H Q ∨ rNotInT X.K x y H Q) .f opNotInA := ⟨(op_notInD x.u65).or (op_notInT x.u65), fun pot M H x y d e z al pm ph rx ry hz Q q => by
  unfold opNotInA inDT at hz
  split at hz
  · rename_i p qs e1 e2
    split at hz
    · rename_i hs
      cases hz
      obtain ⟨s1, s2⟩ := Bool.and_eq_true_iff.mp hs
      exact .inl ⟨p, qs, (rb_rp rx).dp e1, (rb_rp ry).dp e2, s1, s2, q _ H (Same.refl H) (.bl _)⟩
    · cases hz
  · rename_i p qs e1 e2
    split at hz
    · rename_i hs
      cases hz
      obtain ⟨s1, s2⟩ := Bool.and_eq_true_iff.mp hs
      exact .inr ⟨p, qs, (rb_rp rx).dp e1, (rb_rp ry).dp e2, s1, s2, q _ H (Same.refl H) (.bl _)⟩
    · cases hz
  · cases hz⟩

/-! ### any of a list or a tuple of ints -/
theorem truth_numbers {prog : Program} {w : World} {A : Around} {ns : List Int} {its : List Value} (r : Vals (ns.map V.int) its) : TruthOf prog w A (fun i v => its.toArray[i]? = some v) (fun i => (ns.getD i 0) != 0) := fun i v s Q E hv hq => by
  have hv' : its[i]? = some v := by simpa using hv
  have hi : i < its.length := (List.getElem?_eq_some_iff.mp hv').1
  have hl := r.length
  rw [List.length_map] at hl
  have hn : ns[i]? = some (ns[i]'(by omega)) := List.getElem?_eq_getElem (by omega)
  obtain ⟨u, hu, t, e⟩ := r.get (i := i) (x := .int (ns[i]'(by omega))) (by rw [List.getElem?_map, hn]; rfl)
  rw [hv'] at hu
  cases hu
  subst e
  have hg : ns.getD i 0 = ns[i]'(by omega) := by rw [List.getD_eq_getElem?_getD, hn]; rfl
  have hq' : Q (ns.getD i 0 != 0) s := hq
  rw [hg] at hq'
  exact PySem.P.truthy_int hq'
theorem any_nat : ∀ ns : List Int, (List.range ns.length).any (fun i => (ns.getD i 0) != 0) = ns.any (fun n => n != 0)
  | [] => rfl
  | b :: bs => by
    rw [List.length_cons, List.range_succ_eq_map, List.any_cons, List.any_map, List.any_cons, ← any_nat bs]
    rfl
/-- any(xs), xs a list of ints or a tuple of them -/
def rAnyN (K : PySem.W.Frag) : List V → Hp → VK → Prop := fun vs H Q => ∃ (S : Src) (ns : List Int), vs = [V.ref S.a] ∧ S.sq K H (ns.map V.int) ∧ Q (.bl (ns.any fun n => n != 0)) H
theorem cr_anyN (x : XOk X E k) : CallR X (.builtin "any") (rAnyN X.K) := fun pins s σ H vs us Q I r h => by
  obtain ⟨⟨b, a⟩, ns, rfl, hs, q⟩ := h
  rw [Vals.ref1 r]
  cases b with
  | true =>
    obtain ⟨its, rv, hl, _⟩ := I.list (show SqL X.K H a _ from hs)
    have hlen := rv.length
    refine call_any_walk (iter_any hl.isList fun s₂ e2 st hne => ?_)
    subst e2
    refine ⟨_, _, _, _, _, _, _, rfl, Walks.list (A := X.A.in1) (I.ok.hd x.calm) _ a hne its.toArray, st, truth_numbers rv, fun h' tk hk => ?_⟩
    refine ⟨.bl _, H, I.kept fun b o eo => hk b o (fun hmem => ?_) (Heap.get?_push_of_some _ eo), ?_, q⟩
    · rcases List.mem_cons.mp hmem with e1 | hmem
      · exact absurd (e1 ▸ Heap.lt_size eo) (Nat.lt_irrefl _)
      · cases hmem
    · show Value.bool _ = Value.bool _
      rw [← any_nat, List.size_toArray, ← hlen, List.length_map]
  | false =>
    obtain ⟨its, rv, hl, _⟩ := I.tuple (show SqT X.K H a _ from hs)
    have hlen := rv.length
    have hlt : a < s.heap.objs.size := by obtain ⟨_, e, _⟩ := hl; exact Heap.lt_size e
    have hl' : s.heap.IsTuple a its.toArray := hl
    refine call_any_walk (wpAny_pyIter_tuple hl' ?_)
    refine ⟨_, _, _, _, _, _, _, rfl, Walks.tuple (A := X.A.in1) (I.ok.hd x.calm) _ a (Nat.ne_of_lt hlt) its.toArray, ⟨⟨_, Heap.get?_push_size _ rfl, rfl, rfl⟩, hl'.push _⟩, truth_numbers rv, fun h' tk hk => ?_⟩
    refine ⟨.bl _, H, I.kept fun b o eo => hk b o (fun hmem => ?_) (Heap.get?_push_of_some _ eo), ?_, q⟩
    · rcases List.mem_cons.mp hmem with e1 | hmem
      · exact absurd (e1 ▸ Heap.lt_size eo) (Nat.lt_irrefl _)
      · cases hmem
    · show Value.bool _ = Value.bool _
      rw [← any_nat, List.size_toArray, ← hlen, List.length_map]
def asIntsS : D → Option (List Int)
  | .lst xs => asInts xs
  | .tup xs => asInts xs
  | _ => none
/-- any: of bools in a list, or of ints -/
def fAnyA : List D → Option D
  | [d] => match asIntsS d with
    | some ns => some (.bl (ns.any fun n => n != 0))
    | none => fAny [d]
  | _ => none
theorem c_anyA (x : XOk X E k) : CallOk X (.builtin "any") (fun xs H Q => rAny X.K xs H Q ∨ rAnyN X.K xs H Q) [.b] .f fAnyA := ⟨(cr_any x.calm).or (cr_anyN x), fun pot M H vs ds z al pm ph a hz Q q => by
  obtain ⟨v, d, rfl, rfl, h⟩ := arg1 a
  unfold fAnyA at hz
  simp only at hz
  split at hz
  · rename_i ns e
    cases hz
    cases d with
    | lst xs =>
      rw [asInts_eq (show asInts xs = some ns from e)] at h
      obtain ⟨p, ys, rfl, h1, r1⟩ := rb_lst h
      rw [r1.iz] at h1
      exact .inr ⟨⟨true, p⟩, ns, rfl, .inl (.inl h1), q _ H (Same.refl H) (.bl _)⟩
    | tup xs =>
      rw [asInts_eq (show asInts xs = some ns from e)] at h
      obtain ⟨p, ys, rfl, h1, r1⟩ := rb_tup h
      rw [r1.iz] at h1
      exact .inr ⟨⟨false, p⟩, ns, rfl, sqT_mono less_le h1, q _ H (Same.refl H) (.bl _)⟩
    | _ => cases e
  · exact .inl ((c_any x).2 pot M H [v] [d] z al pm ph (.cons h .nil) hz Q q)⟩
end
end DL

set_option maxHeartbeats 2000000
/-! isinstance of a class of the text. -/
namespace DL
open PySem PySem.Spec PyProof.Rows L2 C8

/-- what the text says of a class that isinstance asks for: no builtin is below it, and of the classes cs only it -/
structure ClsI (K : PySem.W.Frag) (mg : Str → Option Value) (c : Str) (cs : List Str) : Prop where
  ex : ∃ C, mg c = some (.ref C) ∧ (∀ n ∈ tyNames, PySem.W.kitOne K (.type n) (.ref C) = some false) ∧
    ∀ c' ∈ cs, ∃ C', mg c' = some (.ref C') ∧ InsC K C' ∧ PySem.W.kitOne K (.ref C') (.ref C) = some (c' == c)
def fIsC (c : Str) (cs : List Str) : D → Option D
  | .ins c' _ _ => if c' ∈ cs then some (.bl (c' == c)) else none
  | _ => some (.bl false)
theorem fIsC_ty {c : Str} {cs : List Str} {d : D} {n : String} (h : tyName d = some n) : fIsC c cs d = some (.bl false) := by
  cases d <;> first | rfl | cases h
def tIsC (mg : Str → Option Value) (K : PySem.W.Frag) (c : Str) (ta : TE) : TE := fun σ H Q => ∃ C, mg c = some (.ref C) ∧ tCB (rIsi K) (tCons ta (tCons (tC (.ref C)) tNil)) σ H Q
section
variable {X : Cx} {E : XK} {Γ : List Md} {ra : Rm} {a : Expr} {ta : TE} {fa : Ed} {pos p px : Pos}
theorem de_isC {c : Str} (cs : List Str) (hC : ClsI X.K X.mg c cs) (hm : X.mg "isinstance" = none) (ha : DE X E ra Γ a ta fa) (hg : Gl X "isinstance" := by rfl) (hgT : Gl X c := by rfl)
    (hdb : (c == ("__debug__" : Str)) = false := by decide) (hs : starEach [a, .Name c px] X.env = (false, eval a X.env) :: starEach [.Name c px] X.env := by rfl) (hs2 : starEach [.Name c px] X.env = (false, eval (.Name c px) X.env) :: starEach [] X.env := by rfl)
    (hpl : (backTo pos (starEach [.Name c px] X.env)).any (·.1) = false := by rfl) :
    DE X E .f Γ (.Call (.Name "isinstance" p) [a, .Name c px] [] pos) (tIsC X.mg X.K c ta) (eUn (fIsC c cs) fa) :=
  ⟨⟨fun pins s σ H Q I h => by
    obtain ⟨C, hc, h⟩ := h
    exact (pe_callB call_isi hg hm (by decide +kernel) (pa_cons ha.pe (pa_cons (pe_gc (v := .ref C) hgT ⟨_, hc, (rfl : RelV (.ref C) (Value.ref C))⟩ hdb) pa_nil hs2) hs) (by decide) (by decide) hs hpl).run pins s σ H Q I h⟩,
  fun pot M σ H ρ π I p Q h => by
    obtain ⟨C, hc, hn, ho⟩ := hC.ex
    refine (show _ from ⟨C, hc, ?_⟩ : tIsC X.mg X.K c ta σ H Q)
    refine Post.seq (r' := ra) (te := ta σ H) h p (fun Q' hq => ha.sem pot M σ H ρ π I p Q' hq) fun d π1 v H1 _ g1 p1 r1 h1 => ?_
    cases et : tyName d with
    | some n =>
      rw [fIsC_ty et, ofO_some, Res.bind_ok] at h1
      exact ⟨v, .ref C, .type n, .ref C, false, rfl, .own C, rb_ty r1.toB et, hn n (tyName_mem et), h1 _ H1 .refl p1 (.bl _)⟩
    | none =>
      cases d with
      | ins c' ns xs =>
        simp only [fIsC] at h1
        split at h1
        · rename_i hin
          rw [ofO_some, Res.bind_ok] at h1
          obtain ⟨y, C1, dx, gs, rfl, m, hy, rfl, rr⟩ := rb_ins r1.toB
          obtain ⟨C', m', ic, k1⟩ := ho c' hin
          rw [m] at m'
          cases m'
          exact ⟨.ref y, .ref C, .ref C1, .ref C, _, rfl, .own C, .base (.ins hy ic.cl ic.ha ic.hn ic.htk ic.hm), k1, h1 _ H1 .refl p1 (.bl _)⟩
        · rw [ofO_none, Res.bind_stuck] at h1
          exact h1.elim
      | _ => cases et⟩
end
end DL

set_option maxHeartbeats 2000000
/-! Short forms for the printer. -/
namespace DL
open PySem PySem.Spec PyProof.Rows L2 C8

def iCk (c : Str) (g : Fi) : Fi := fun d ρ π => match d with
  | .ins c' _ _ => if c' = c then g d ρ π else .stuck
  | _ => .stuck
section
variable {X : Cx} {E : XK} {Γ : List Md} {e : Expr} {te : TE} {fe : Ed} {pos p p2 : Pos}
theorem din_fldC (c : Str) (fs : List Str) {f y : Str} {sts : List Stmt} {us : TS} {g : Fi} (hC : ClsF X.K X.mg c fs) (he : DE X E .f Γ e te fe) (hn : DIn X E Γ sts us g) (hf : f ∈ fs := by decide) (hN : X.N[0]? = some y := by rfl) (hv : Vis X.env.scope y := by first | exact Or.inl rfl | exact Or.inr (Or.inl rfl) | exact Or.inr (Or.inr rfl))
    (hd : (y == ("__debug__" : Str)) = false := by decide) (hcd : (y == ("__classdict__" : Str)) = false := by decide) (hs : swapsWith e (some (.Attribute (.Name y p) f p2)) pos.line X.env = pure false := by rfl) :
    DIn X E Γ (.Assign [.Attribute (.Name y p) f p2] e pos :: sts) (tSeq (sFld X.K (tVar 0) te f) us) (iFld f fe (iCk c g)) := din_fld c fs hC he hn hf hN hv hd hcd hs
end
theorem fa_cons {α : Type} {p : α → Prop} {a : α} {l : List α} (h : p a) (t : ∀ x ∈ l, p x) : ∀ x ∈ a :: l, p x := List.forall_mem_cons.mpr ⟨h, t⟩
theorem fa_nil {α : Type} {p : α → Prop} : ∀ x ∈ ([] : List α), p x := fun _ h => nomatch h
end DL

set_option maxHeartbeats 2000000
/-! The least of four ints; keywords in another sequence. -/
namespace DL
open PySem PySem.Spec PyProof.Rows L2 C8
open Sem (wp)

section
variable {prog : Program} {w : World} {A : Around} {E : Value → Shared → Prop} {s : Shared}
theorem args_min4 (a b c d : Value) : argsOk "min" ⟨[a, b, c, d], []⟩ := by unfold argsOk; kernel_rfl
theorem call_min_four {a b c d : Value} {Q : Value → Shared → Prop}
    (h : wpAny (model prog w) A.in1 (pyIter (.ref s.heap.objs.size)) (fun it s₂ => ∃ I fp wr n P St bt, it = .ref I ∧ Walks prog w A.in1 I fp wr n P St ∧ St 0 s₂.heap ∧ (∀ b ∈ fp, b < s₂.heap.objs.size) ∧ 0 < n ∧ CmpOf prog w A.in1 .Lt P bt ∧
      ∀ v h' tk, P (argBest bt (n - 1)) v → (∀ b o, b ∉ wr → s₂.heap.get? b = some o → h'.get? b = some o) → Q v { s₂ with heap := h', toks := tk }) E
      { s with heap := s.heap.push { cls := .type "tuple", data := .seq #[a, b, c, d] } }) :
    wpAny (model prog w) A (call (.builtin "min") [a, b, c, d]) Q E s := by
  have hname : (toString "min" ++ toString ".loop" : String) = "min.loop" := by decide
  refine call_function_tree PySem.F.kind_min PySem.F.plain_min PySem.F.entry_min (args_min4 _ _ _ _) ?_
  show wpAny _ A.in1 (Builtin.Builtins.bindParams "min" ["key", "default"] 0 ⟨[], []⟩ >>= _) _ _ s
  refine wpAny_bind (wpAny_of_eq (show Builtin.Builtins.bindParams "min" ["key", "default"] 0 ⟨[], []⟩ = pure [none, none] from rfl) ?_)
  show wpAny _ A.in1 (newTuple [a, b, c, d] >>= _) _ _ s
  refine wpAny_bind (wpAny_newObj_type ?_)
  refine wpAny_bind (wpAny_mono h (fun it s₂ h₂ => ?_) fun _ _ e => e)
  obtain ⟨I, fp, wr, n, P, St, bt, rfl, W, hst, hfp, hn, hcmp, hQ⟩ := h₂
  refine wpAny_bind (wpAny_newObj_type ?_)
  have hSf : s₂.heap.objs.size ∉ fp := fun hm => Nat.lt_irrefl _ (hfp _ hm)
  rw [hname]
  refine wpAny_pure ⟨plainId_quiet PySem.F.plain_min_loop _, codeAny_min_loop_first W bt hcmp s₂.heap.objs.size hSf hn (W.frame _ _ _ hst fun b _ o e => Heap.get?_push_of_some _ e) (Heap.get?_push_size _ rfl) fun v h' tk hP hk => ?_⟩
  exact hQ v h' tk hP fun b o hbw e => hk b o hbw (Nat.ne_of_lt (Heap.lt_size e)) (Heap.get?_push_of_some _ e)
theorem min_four_ints {a b c d : Int} {t u x y : Tok} {Q : Value → Shared → Prop} (hh : A.handled = none)
    (h : ∀ h' tk v, (∀ d o, s.heap.get? d = some o → h'.get? d = some o) → (∃ tv, v = .int (min (min (min a b) c) d) tv) → Q v { s with heap := h', toks := tk }) :
    wpAny (model prog w) A (call (.builtin "min") [.int a t, .int b u, .int c x, .int d y]) Q E s := by
  have hT : (s.heap.push { cls := .type "tuple", data := .seq #[.int a t, .int b u, .int c x, .int d y] }).IsTuple s.heap.objs.size (intItems #[(a, t), (b, u), (c, x), (d, y)]) := ⟨_, Heap.get?_push_size _ rfl, rfl, 0, by simp [intItems]⟩
  refine call_min_four (wpAny_pyIter_tuple hT ?_)
  have hsz : (s.heap.push { cls := .type "tuple", data := .seq #[.int a t, .int b u, .int c x, .int d y] }).objs.size = s.heap.objs.size + 1 := Heap.size_push ..
  refine ⟨_, [_, s.heap.objs.size], [_], _, _, _, _, rfl, Walks.tuple (A := A.in1) hh _ s.heap.objs.size (by rw [hsz]; exact Nat.ne_of_lt (Nat.lt_succ_self _)) (intItems #[(a, t), (b, u), (c, x), (d, y)]),
    ⟨⟨_, Heap.get?_push_size _ rfl, rfl, rfl⟩, hT.push _⟩, fun d hd => ?_, by simp [intItems], CmpOf.ints_lt (numAt #[(a, t), (b, u), (c, x), (d, y)]) (fun _ _ => intItems_at), fun v h' tk hP hk => ?_⟩
  · show d < ((s.heap.push _).push _).objs.size
    rw [Heap.size_push, hsz]
    rcases List.mem_cons.mp hd with rfl | hd
    · rw [hsz]; exact Nat.lt_succ_self _
    · rcases List.mem_cons.mp hd with rfl | hd
      · exact Nat.lt_succ_of_lt (Nat.lt_succ_self _)
      · cases hd
  · have hold : ∀ d o, s.heap.get? d = some o → h'.get? d = some o := fun d o e => by
      refine hk d o (fun hm => ?_) (Heap.get?_push_of_some _ (Heap.get?_push_of_some _ e))
      rcases List.mem_cons.mp hm with e1 | hm
      · have := Heap.lt_size e; rw [e1, hsz] at this; exact Nat.lt_irrefl _ (Nat.lt_of_succ_lt this)
      · cases hm
    refine h h' tk v hold ?_
    have hP' : (intItems #[(a, t), (b, u), (c, x), (d, y)])[argBest (fun i j => decide (numAt #[(a, t), (b, u), (c, x), (d, y)] i < numAt #[(a, t), (b, u), (c, x), (d, y)] j)) 3]? = some v := by
      have hsz2 : (intItems #[(a, t), (b, u), (c, x), (d, y)]).size - 1 = 3 := by simp [intItems]
      rw [← hsz2]; exact hP
    by_cases h1 : b < a <;> by_cases h2 : c < a <;> by_cases h3 : c < b <;> by_cases h4 : d < a <;> by_cases h5 : d < b <;> by_cases h6 : d < c <;>
      simp [argBest, numAt, intItems, h1, h2, h3, h4, h5, h6] at hP' <;> exact ⟨_, by rw [← hP']; congr 1; omega⟩
end
def fMin4 : List D → Option D
  | [.int a, .int b, .int c, .int d] => some (.int (min (min (min a b) c) d))
  | _ => none
section
variable {X : Cx} {E : XK} {k : Nat}
theorem vals4 {a b c d : V} {us : List Value} (r : Vals [a, b, c, d] us) : ∃ u1 u2 u3 u4, us = [u1, u2, u3, u4] ∧ RelV a u1 ∧ RelV b u2 ∧ RelV c u3 ∧ RelV d u4 := by
  cases r with
  | cons r1 r => cases r with
    | cons r2 r => cases r with
      | cons r3 r => cases r with
        | cons r4 r => cases r; exact ⟨_, _, _, _, rfl, r1, r2, r3, r4⟩
def rMin4 : List V → Hp → VK → Prop := fun xs H Q => ∃ a b c d, xs = [.int a, .int b, .int c, .int d] ∧ Q (.int (min (min (min a b) c) d)) H
theorem call_min4 (hc : X.calm = true) : CallR X (.builtin "min") rMin4 := by
  intro pins s σ H xs us Q I r h
  obtain ⟨a, b, c, d, rfl, q⟩ := h
  obtain ⟨u1, u2, u3, u4, rfl, ⟨t1, rfl⟩, ⟨t2, rfl⟩, ⟨t3, rfl⟩, ⟨t4, rfl⟩⟩ := vals4 r
  exact min_four_ints (I.ok.hd hc) fun h' tk v k ⟨tv, e⟩ => ⟨_, H, I.kept k, by rw [e]; exact ⟨_, rfl⟩, q⟩
theorem c_min4 (x : XOk X E k) : CallOk X (.builtin "min") rMin4 [.b, .b, .b, .b] .f fMin4 := ⟨call_min4 x.calm, fun pot M H vs ds z al pm ph a hz Q q => by
  cases a with
  | cons h1 a => cases a with
    | cons h2 a => cases a with
      | cons h3 a => cases a with
        | cons h4 a =>
          cases a
          unfold fMin4 at hz
          split at hz
          · rename_i e
            cases e
            cases hz
            exact ⟨_, _, _, _, by rw [rb_int h1, rb_int h2, rb_int h3, rb_int h4], q _ H (Same.refl H) (.int _)⟩
          · cases hz⟩
end

/-! ### keywords in another sequence -/
def pick {α : Type} (d : α) (ix : List Nat) (l : List α) : List α := ix.map fun i => l.getD i d
def eGoX (ix : List Nat) (m : Fd) (a : Ea) : Ed := fun ρ π => (a ρ π).bind fun x => m (pick .non ix x.1) x.2
def tGoX (mg : Str → Option Value) (K : PySem.W.Frag) (ix : List Nat) (ks : List Ak) (r : Rm) (m : Fd) (E : XK) (t : TA) : TE := fun σ H Q => t σ H fun vs H1 => SpD mg K ks r m (pick .non ix vs) H1 Q E
theorem vals_getD : ∀ {vs : List V} {us : List Value} (r : Vals vs us) (i : Nat), RelV (vs.getD i .non) (us.getD i .none)
  | _, _, .nil, i => rfl
  | _, _, .cons r t, 0 => r
  | _, _, .cons r t, i + 1 => by
    simp only [List.getD_cons_succ]
    exact vals_getD t i
theorem vals_pick {vs : List V} {us : List Value} (r : Vals vs us) : ∀ ix : List Nat, Vals (pick .non ix vs) (pick .none ix us)
  | [] => .nil
  | i :: ix => .cons (vals_getD r i) (vals_pick r ix)
section
variable {mg : Str → Option Value} {K : PySem.W.Frag} {pot : Option Addr} {M : List Addr} {H : Hp}
theorem args_getD : ∀ {ks : List Ak} {vs : List V} {ds : List D} (r : Args mg K pot M H ks vs ds) (hk : ∀ k ∈ ks, k = Ak.f) (i : Nat), Rp mg K (less H M) (vs.getD i .non) (ds.getD i .non)
  | _, _, _, .nil, _, i => .non
  | k :: ks, v :: vs, d :: ds, .cons r t, hk, 0 => by
    cases hk k (List.mem_cons_self ..)
    exact r
  | k :: ks, v :: vs, d :: ds, .cons r t, hk, i + 1 => by
    simp only [List.getD_cons_succ]
    exact args_getD t (fun k h => hk k (List.mem_cons_of_mem _ h)) i
theorem args_pick {ks : List Ak} {vs : List V} {ds : List D} (r : Args mg K pot M H ks vs ds) (hk : ∀ k ∈ ks, k = Ak.f) : ∀ {ix : List Nat} {ks' : List Ak}, (∀ k ∈ ks', k = Ak.f) → ks'.length = ix.length → Args mg K pot M H ks' (pick .non ix vs) (pick .non ix ds)
  | [], [], _, _ => .nil
  | i :: ix, k :: ks', h, e => by
    cases h k (List.mem_cons_self ..)
    exact .cons (show ArgR mg K pot M H .f _ _ from args_getD r hk i) (args_pick r hk (fun k q => h k (List.mem_cons_of_mem _ q)) (by simpa using e))
  | [], _ :: _, _, e => by cases e
  | _ :: _, [], _, e => by cases e
end
section
variable {X : Cx} {E : XK} {Γ : List Md} {r : Rm} {p pos : Pos} {k j : Nat} {ks kk : List Ak} {tK : TA} {fK : Ea} {kws : List Keyword} {x : Str} {st : Stmt} {ps kn : List Str} {m : Fd}
theorem de_callX (ix : List Nat) (F : DFn X.prog X.w X.K X.mg X.base j x st ps ks r m) (o : XOk X E k)
    (hb : ∀ (kV doc pm : Value) (an : Option Addr) (cdv ct : Value) (ws : List Value), ws.length = kn.length → bindArgs (PySem.W.fnOf x x (defArgs st) (defBody st) (defScope st) .none kV doc pm an cdv ct) ⟨[], kn.zip ws⟩ = pure (ps.zip (pick .none ix ws)))
    (hK : DK X E kk Γ kws tK fK) (hl0 : kk.length = kn.length := by rfl) (hkk : ∀ k ∈ kk, k = Ak.f := by decide) (hks : ∀ k ∈ ks, k = Ak.f := by decide) (hix : ks.length = ix.length := by rfl)
    (hj : j ≤ k := by decide) (hg : Gl X x := by rfl) (hdb : (x == ("__debug__" : Str)) = false := by decide) (hall : (backToKw pos (keywordEach kws X.env)).all (·.1.isSome) = true := by rfl) (hkn : (backToKw pos (keywordEach kws X.env)).filterMap (·.1) = kn := by rfl)
    (hpl : ((backTo pos (starEach [] X.env)).any (·.1) || (backToKw pos (keywordEach kws X.env)).any (·.1.isNone)) = false := by rfl) :
    DE X E r Γ (.Call (.Name x p) [] kws pos) (fun σ H Q => tK σ H fun vs H1 => vs.length = kn.length ∧ SpD X.mg X.K ks r m (pick .non ix vs) H1 Q E) (eGoX ix m fK) :=
  ⟨⟨fun pins s σ H Q I h => by
    obtain ⟨f, fd, h1, h2, h3⟩ := F.ex
    refine wpAny_Call_Name_kw (ld_glob I hg h1 ?_ hdb)
    refine PySem.W.callWith_KW0 (h₀ := X.base) I.ok.mod.kin h2.kp hall (thn (hK.pk.run pos pins s σ H _ I h) fun ws s1 ⟨vs, H1, I1, rl, hlv, q⟩ => ⟨I1.kIn, ?_⟩) hpl
    rw [hkn]
    have hl : ws.length = kn.length := by
      rw [← rl.length]
      exact hlv
    have bd : BindsTo s1 fd ⟨[], kn.zip ws⟩ (ps.zip (pick .none ix ws)) := by
      obtain ⟨oc, od, kV, doc, pm, an, cdv, ct, osl, rfl, lk, hcd⟩ := h2.ex
      exact .of_eq (hb kV doc pm an cdv ct ws hl)
    refine wpAny_call (codeAny_mono (h3.run X.A X.stack s1 H1 _ (pick .none ix ws) (pick .non ix vs) Q E (o.room.mono hj) o.gd I1.env0 bd (vals_pick rl ix) q) fun res s' z => ?_)
    match res, z with
    | .error e, z => exact o.pass pins σ H1 s1 e s' I1 z
    | .ok (.ret u), z => exact I1.after z⟩,
  fun pot M σ H ρ π I p Q h => by
    refine PostA.seq (ks := kk) (te := tK σ H) h p (fun Q' hq => hK.sem pot M σ H ρ π I p Q' hq) fun ds π1 vs H1 _ g1 p1 r1 h1 => ?_
    exact ⟨by rw [← hl0, r1.length], by simp [pick, hix], pot, M, _, π1, args_pick r1 hkk hks hix, (I.grow g1 p1).al, I.pm, p1, h1⟩⟩
end
end DL

set_option maxHeartbeats 2000000
/-! Own lists are lent to a def that only looks at them. -/
namespace DL
open PySem PySem.Spec PyProof.Rows L2

mutual
/-- no list in it -/
def noL : D → Bool
  | .lst _ => false
  | .tup ds => noLs ds
  | .dic _ ds => noLs ds
  | .ins _ _ ds => noLs ds
  | _ => true
def noLs : List D → Bool
  | [] => true
  | d :: ds => noL d && noLs ds
end
section
variable {mg : Str → Option Value} {K : PySem.W.Frag} {pot : Option Addr} {M M' : List Addr} {H : Hp}
def Lent (M M' : List Addr) (H : Hp) : Prop := ∀ a, a ∉ M' → a ∈ M → ∃ xs, H a = some (.lst xs)
theorem Lent.at (l : Lent M M' H) {a : Addr} {o : HO} (h : less H M' a = some o) (ho : ∀ xs, o ≠ .lst xs) : less H M a = some o := by
  obtain ⟨h1, h2⟩ := less_some.mp h
  refine less_some.mpr ⟨fun h3 => ?_, h2⟩
  obtain ⟨xs, e⟩ := l a h1 h3
  rw [h2] at e
  exact ho xs (Option.some.inj e)
theorem Lent.rd (l : Lent M M' H) {a : Addr} {o : HO} (h : Rd (less H M') a o) (ho : ∀ xs, o ≠ .lst xs) : Rd (less H M) a o := by
  rcases h with h | ⟨ob, h⟩
  · exact .inl (l.at h ho)
  · exact .inr ⟨ob, l.at h fun xs e => by cases e⟩
mutual
theorem Lent.rp (l : Lent M M' H) : ∀ {v : V} {d : D}, Rp mg K (less H M') v d → noL d = true → Rp mg K (less H M) v d
  | _, _, .non, _ => .non
  | _, _, .bl b, _ => .bl b
  | _, _, .int i, _ => .int i
  | _, _, .str x, _ => .str x
  | _, _, .lst h1 h2, e => by cases e
  | _, _, .tup h1 h2, e => by
    rw [noL] at e
    refine .tup ?_ (Lent.rpl l h2 e)
    rcases h1 with h1 | h1
    · exact .inl (l.rd h1 fun xs q => by cases q)
    · exact .inr h1
  | _, _, .dicK h1 h2, e => by
    rw [noL] at e
    exact .dicK (l.rd h1 fun xs q => by cases q) (Lent.rpl l h2 e)
  | _, _, .dicT h1 h2, e => by
    rw [noL] at e
    exact .dicT (l.at h1 fun xs q => by cases q) (Lent.rpl l h2 e)
  | _, _, .ins m h1 h2, e => by
    rw [noL] at e
    exact .ins m (l.at h1 fun xs q => by cases q) (Lent.rpl l h2 e)
theorem Lent.rpl (l : Lent M M' H) : ∀ {vs : List V} {ds : List D}, RpL mg K (less H M') vs ds → noLs ds = true → RpL mg K (less H M) vs ds
  | _, _, .nil, _ => .nil
  | _, _, .cons h t, e => by
    rw [noLs, Bool.and_eq_true] at e
    exact .cons (Lent.rp l h e.1) (Lent.rpl l t e.2)
end
theorem Lent.cons (l : Lent M M' H) (p : Addr) : Lent (p :: M) (p :: M') H := fun a h1 h2 => by
  rw [List.mem_cons, not_or] at h1
  rcases List.mem_cons.mp h2 with h2 | h2
  · exact absurd h2 h1.1
  · exact l a h1.2 h2
/-- what an own thing holds has no list -/
def noI : D → Bool
  | .lst ds => noLs ds
  | .dic _ ds => noLs ds
  | .ins _ _ ds => noLs ds
  | _ => false
theorem Lent.hor (l : Lent M M' H) {o : HO} {d : D} (h : HoR mg K (less H M') o d) (e : noI d = true) : HoR mg K (less H M) o d := by
  cases h with
  | lst h => exact .lst (l.rpl h e)
  | dicK h => exact .dicK (l.rpl h e)
  | dicT h => exact .dicT (l.rpl h e)
  | ins m h => exact .ins m (l.rpl h e)
end
def noR (r : Rm) (d : D) : Bool := match r with
  | .o => noI d
  | .t => false
  | _ => noL d
def chk (r : Rm) : Res (D × Pot) → Res (D × Pot)
  | .ok x => if noR r x.1 = true then .ok x else .stuck
  | .err c ns xs π => if noLs xs = true then .err c ns xs π else .stuck
  | .stuck => .stuck
def lentOk : List Ak → List D → Bool
  | .b :: ks, .lst _ :: ds => lentOk ks ds
  | .b :: _, _ => false
  | _ :: ks, _ :: ds => lentOk ks ds
  | _, _ => true
/-- the callee's kinds: what is lent is data there -/
def lendK : List Ak → List Ak
  | .b :: ks => .f :: lendK ks
  | k :: ks => k :: lendK ks
  | [] => []
def eGoL (r : Rm) (ks : List Ak) (m : Fd) (a : Ea) : Ed := fun ρ π => (a ρ π).bind fun x => if lentOk ks x.1 = true then chk r (m x.1 x.2) else .stuck
section
variable {mg : Str → Option Value} {K : PySem.W.Frag} {pot : Option Addr} {M : List Addr} {H : Hp}
/-- M without what is lent -/
theorem args_lend (pm : ∀ a, pot = some a → a ∈ M) : ∀ {ks : List Ak} {vs : List V} {ds : List D}, Args mg K pot M H ks vs ds → lentOk ks ds = true →
    ∀ M1 : List Addr, (∀ a ∈ M1, a ∈ M) → (∀ a, pot = some a → a ∈ M1) → Lent M M1 H → ∃ M', (∀ a ∈ M', a ∈ M1) ∧ (∀ a, pot = some a → a ∈ M') ∧ Lent M M' H ∧ Args mg K pot M' H (lendK ks) vs ds
  | _, _, _, .nil, _, M1, h1, h2, h3 => ⟨M1, fun a h => h, h2, h3, .nil⟩
  | .b :: ks, v :: vs, d :: ds, .cons r t, e, M1, h1, h2, h3 => by
    cases d with
    | lst xs =>
      simp only [lentOk] at e
      rcases (show Rb mg K pot M H v (.lst xs) from r) with r | ⟨p, rfl, np, o, ho, hr⟩
      · obtain ⟨M', a1, a2, a3, a4⟩ := args_lend pm t e M1 h1 h2 h3
        exact ⟨M', a1, a2, a3, .cons (show Rp mg K (less H M') v (.lst xs) from Rp.mono (less_sub fun a h => h1 a (a1 a h)) r) a4⟩
      · cases hr with
        | lst hr =>
          obtain ⟨M', a1, a2, a3, a4⟩ := args_lend pm t e (M1.filter (fun a => a ≠ p)) (fun a h => h1 a (List.mem_filter.mp h).1)
            (fun a q => List.mem_filter.mpr ⟨h2 a q, by simp only [ne_eq, decide_not, Bool.not_eq_eq_eq_not, Bool.not_true, decide_eq_false_iff_not]; exact fun z => np (by rw [q, z])⟩)
            (fun a n1 n2 => by
              by_cases q : a = p
              · exact ⟨_, by rw [q]; exact ho⟩
              · exact h3 a (fun z => n1 (List.mem_filter.mpr ⟨z, by simp [q]⟩)) n2)
          refine ⟨M', fun a h => (List.mem_filter.mp (a1 a h)).1, a2, a3, .cons (show Rp mg K (less H M') (.ref p) (.lst xs) from .lst (less_some.mpr ⟨fun z => ?_, ho⟩) (hr.mono (less_sub fun a h => List.mem_cons_of_mem _ (h1 a (List.mem_filter.mp (a1 a h)).1)))) a4⟩
          have := (List.mem_filter.mp (a1 p z)).2
          simp at this
    | _ => cases e
  | .f :: ks, v :: vs, d :: ds, .cons r t, e, M1, h1, h2, h3 => by
    have e' : lentOk ks ds = true := by cases d <;> exact e
    obtain ⟨M', a1, a2, a3, a4⟩ := args_lend pm t e' M1 h1 h2 h3
    exact ⟨M', a1, a2, a3, .cons (show Rp mg K (less H M') v d from Rp.mono (less_sub fun a h => h1 a (a1 a h)) (show Rp mg K (less H M) v d from r)) a4⟩
  | .p :: ks, v :: vs, d :: ds, .cons r t, e, M1, h1, h2, h3 => by
    have e' : lentOk ks ds = true := by cases d <;> exact e
    obtain ⟨M', a1, a2, a3, a4⟩ := args_lend pm t e' M1 h1 h2 h3
    exact ⟨M', a1, a2, a3, .cons (show ArgR mg K pot M' H .p v d from r) a4⟩
  | .s :: ks, v :: vs, d :: ds, .cons r t, e, M1, h1, h2, h3 => by
    have e' : lentOk ks ds = true := by cases d <;> exact e
    obtain ⟨M', a1, a2, a3, a4⟩ := args_lend pm t e' M1 h1 h2 h3
    obtain ⟨p, ns, z1, z2, z3⟩ := (show ArgR mg K pot M H .s v d from r)
    exact ⟨M', a1, a2, a3, .cons (show ArgR mg K pot M' H .s v d from ⟨p, ns, z1, z2, (less_sub fun a h => h1 a (a1 a h)).seq z3⟩) a4⟩
end
section
variable {mg : Str → Option Value} {K : PySem.W.Frag} {pot : Option Addr} {M M' : List Addr} {H : Hp} {Q : VK} {E : XK} {r : Rm}
theorem Lent.grow {H' : Hp} (l : Lent M M' H) (pm : ∀ a, pot = some a → a ∈ M') (g : Grow pot H H') : Lent M M' H' := fun a h1 h2 => by
  obtain ⟨xs, e⟩ := l a h1 h2
  exact ⟨xs, g a _ (fun q => h1 (pm a q)) e⟩
theorem post_lend {x : Res (D × Pot)} (l : Lent M M' H) (pm : ∀ a, pot = some a → a ∈ M') (h : Post mg K r pot M H (chk r x) Q E) : Post mg K r pot M' H x Q E := by
  cases x with
  | stuck => exact h
  | ok y =>
    obtain ⟨d, π⟩ := y
    simp only [chk] at h
    split at h
    · rename_i hn
      intro v H' g p rr
      have l' := l.grow pm g
      refine h v H' g p ?_
      cases r with
      | t => cases hn
      | f => exact l'.rp rr hn
      | b =>
        rcases (show Rb mg K pot M' H' v d from rr) with q | ⟨b, rfl, np, o, ho, hr⟩
        · exact .inl (l'.rp q hn)
        · cases hr with
          | lst hr => cases hn
          | dicK hr =>
            simp only [noR, noL] at hn
            exact .inr ⟨b, rfl, np, _, ho, .dicK ((l'.cons b).rpl hr hn)⟩
          | dicT hr =>
            simp only [noR, noL] at hn
            exact .inr ⟨b, rfl, np, _, ho, .dicT ((l'.cons b).rpl hr hn)⟩
          | ins m hr =>
            simp only [noR, noL] at hn
            exact .inr ⟨b, rfl, np, _, ho, .ins m ((l'.cons b).rpl hr hn)⟩
      | o =>
        obtain ⟨b, e1, e2, np, o, ho, hr⟩ := rr
        exact ⟨b, e1, e2, np, o, ho, (l'.cons b).hor hr hn⟩
    · exact h.elim
  | err c ns xs π =>
    simp only [chk] at h
    split at h
    · rename_i hn
      intro cv dd H' g p er
      have l' := l.grow pm g
      refine h cv dd H' g p ?_
      obtain ⟨C, m, e, q⟩ := er
      refine ⟨C, m, e, ?_⟩
      rcases q with q | ⟨a, fs, q1, q2, q3, q4, q5⟩
      · exact .inl q
      · refine .inr ⟨a, fs, q1, q2, fun z => ?_, q4, l'.rpl q5 hn⟩
        obtain ⟨xs', e'⟩ := l' a q3 z
        rw [q2] at e'
        cases e'
    · exact h.elim
end
section
variable {X : Cx} {E : XK} {Γ : List Md} {r : Rm} {p pos : Pos} {k j : Nat} {ks kl : List Ak} {tA : TA} {fA : Ea} {e : Expr} {es : List Expr} {x : Str} {st : Stmt} {ps kn : List Str} {m : Fd} {tK : TA} {fK : Ea} {kws : List Keyword}
theorem sem_goL (hk : lendK ks = kl) (hA : SemA X.mg X.K E ks Γ tA fA) : SemE X.mg X.K E r Γ (tGo X.mg X.K kl r m E tA) (eGoL r ks m fA) := fun pot M σ H ρ π I p Q h => by
  refine PostA.seq (ks := ks) (te := tA σ H) h p (fun Q' hq => hA pot M σ H ρ π I p Q' hq) fun ds π1 vs H1 _ g1 p1 r1 h1 => ?_
  simp only at h1
  split at h1
  · rename_i hl
    obtain ⟨M', a1, a2, a3, a4⟩ := args_lend I.pm r1 hl M (fun a h => h) I.pm (fun a n y => absurd y n)
    rw [hk] at a4
    exact ⟨a4.length, pot, M', ds, π1, a4, fun a h => (I.grow g1 p1).al a (a1 a h), a2, p1, post_lend a3 a2 h1⟩
  · exact h1.elim
theorem de_callL (F : DFn X.prog X.w X.K X.mg X.base j x st ps kl r m) (o : XOk X E k)
    (hb : ∀ (kV doc pm : Value) (an : Option Addr) (cdv ct : Value) (us : List Value), us.length = ps.length → bindArgs (PySem.W.fnOf x x (defArgs st) (defBody st) (defScope st) .none kV doc pm an cdv ct) ⟨us, []⟩ = pure (ps.zip us))
    (hA : DA X E ks Γ (e :: es) tA fA) (hk : lendK ks = kl := by rfl) (hj : j ≤ k := by decide) (hg : Gl X x := by rfl) (hdb : (x == ("__debug__" : Str)) = false := by decide) (he : starEach (e :: es) X.env = (false, eval e X.env) :: starEach es X.env := by rfl) (hpl : (backTo pos (starEach es X.env)).any (·.1) = false := by rfl) :
    DE X E r Γ (.Call (.Name x p) (e :: es) [] pos) (tGo X.mg X.K kl r m E tA) (eGoL r ks m fA) :=
  ⟨⟨fun pins s σ H Q I h => by
    obtain ⟨f, fd, h1, h2, h3⟩ := F.ex
    refine wpAny_Call_Name_kw (ld_glob I hg h1 ?_ hdb)
    refine PySem.W.callWith_K (h₀ := X.base) I.ok.mod.kin h2.kp (thn (hA.pa.run pos pins s σ H _ I h) fun us s1 ⟨vs, H1, I1, rl, q⟩ => ⟨I1.kIn, ?_⟩) he hpl
    have hl : us.length = ps.length := by
      rw [← rl.length]
      exact h3.len _ _ _ _ q
    have bd : BindsTo s1 fd ⟨us, ([] : List Str).zip ([] : List Value)⟩ (ps.zip (us ++ [])) := by
      obtain ⟨oc, od, kV, doc, pm, an, cdv, ct, osl, rfl, lk, hcd⟩ := h2.ex
      rw [List.append_nil]
      exact .of_eq (hb kV doc pm an cdv ct us hl)
    exact run_go (args := ⟨us, []⟩) (kn := []) (ws := []) h3 o hj bd I1 (by rw [List.append_nil]; exact rl) q⟩, sem_goL hk hA.sem⟩
theorem dk_b (ha : DE X E r Γ e te fe) (hK : DK X E ks Γ kws tK fK) : DK X E (.b :: ks) Γ (⟨nm, e, kpos⟩ :: kws) (tCons te tK) (aCons fe fK) := ⟨pk_cons ha.pe hK.pk, sem_cons (kk := .b) (ra := r) (fun _ _ _ _ _ _ _ h => h.toB) ha.sem hK.sem⟩
theorem de_callKL (F : DFn X.prog X.w X.K X.mg X.base j x st ps kl r m) (o : XOk X E k)
    (hb : ∀ (kV doc pm : Value) (an : Option Addr) (cdv ct : Value) (ws : List Value), ws.length = ps.length → bindArgs (PySem.W.fnOf x x (defArgs st) (defBody st) (defScope st) .none kV doc pm an cdv ct) ⟨[], ps.zip ws⟩ = pure (ps.zip ws))
    (hK : DK X E ks Γ kws tK fK) (hk : lendK ks = kl := by rfl) (hj : j ≤ k := by decide) (hg : Gl X x := by rfl) (hdb : (x == ("__debug__" : Str)) = false := by decide) (hall : (backToKw pos (keywordEach kws X.env)).all (·.1.isSome) = true := by rfl) (hks : (backToKw pos (keywordEach kws X.env)).filterMap (·.1) = ps := by rfl)
    (hpl : ((backTo pos (starEach [] X.env)).any (·.1) || (backToKw pos (keywordEach kws X.env)).any (·.1.isNone)) = false := by rfl) :
    DE X E r Γ (.Call (.Name x p) [] kws pos) (tGo X.mg X.K kl r m E tK) (eGoL r ks m fK) :=
  ⟨⟨fun pins s σ H Q I h => by
    obtain ⟨f, fd, h1, h2, h3⟩ := F.ex
    refine wpAny_Call_Name_kw (ld_glob I hg h1 ?_ hdb)
    refine PySem.W.callWith_KW0 (h₀ := X.base) I.ok.mod.kin h2.kp hall (thn (hK.pk.run pos pins s σ H _ I h) fun ws s1 ⟨vs, H1, I1, rl, q⟩ => ⟨I1.kIn, ?_⟩) hpl
    rw [hks]
    have hl : ws.length = ps.length := by
      rw [← rl.length]
      exact h3.len _ _ _ _ q
    have bd : BindsTo s1 fd ⟨[], ps.zip ws⟩ (ps.zip ([] ++ ws)) := by
      obtain ⟨oc, od, kV, doc, pm, an, cdv, ct, osl, rfl, lk, hcd⟩ := h2.ex
      exact .of_eq (hb kV doc pm an cdv ct ws hl)
    exact run_go (args := ⟨[], ps.zip ws⟩) (us := []) h3 o hj bd I1 rl q⟩, sem_goL hk hK.sem⟩
end
end DL

set_option maxHeartbeats 2000000
/-! Meanings that leave the pot alone: what they give does not hang on it. -/
namespace DL
open PySem PySem.Spec PyProof.Rows L2

def rp {α : Type} (π : Pot) : Res (α × Pot) → Res (α × Pot)
  | .ok a => .ok (a.1, π)
  | .err c ns xs _ => .err c ns xs π
  | .stuck => .stuck
def PA {α : Type} (m : Pot → Res (α × Pot)) : Prop := ∀ π π', m π' = rp π' (m π)
def PX {α : Type} (m : Rho → Pot → Res (α × Pot)) : Prop := ∀ ρ, PA (m ρ)
def PF (m : Fd) : Prop := ∀ ds, PA (m ds)
def PI (m : Fi) : Prop := ∀ d ρ, PA (m d ρ)
section
variable {α β : Type}
theorem pa_ok (a : α) : PA fun π => .ok (a, π) := fun _ _ => rfl
theorem pa_st : PA fun _ => (Res.stuck : Res (α × Pot)) := fun _ _ => rfl
theorem pa_bind {m : Pot → Res (α × Pot)} {k : α × Pot → Res (β × Pot)} (h : PA m) (hk : ∀ a, PA fun π => k (a, π)) : PA fun π => (m π).bind k := fun π π' => by
  show (m π').bind k = rp π' ((m π).bind k)
  rw [h π π']
  cases m π with
  | ok a => exact hk a.1 a.2 π'
  | err c ns xs q => rfl
  | stuck => rfl
theorem pa_ofO {γ : Type} {o : Option γ} {k : γ → Pot → Res (β × Pot)} (hk : ∀ a, PA (k a)) : PA fun π => (ofO o).bind fun a => k a π := by
  cases o with
  | none => exact pa_st
  | some a => exact hk a
theorem pa_ofO1 {γ : Type} {o : Option γ} {f : γ → β} : PA fun π => (ofO o).bind fun a => (.ok (f a, π) : Res (β × Pot)) := pa_ofO fun a => pa_ok _
theorem pa_if {c : Prop} {i : Pot → Decidable c} {m n : Pot → Res (α × Pot)} (h : PA m) (h2 : PA n) : PA fun π => @ite _ c (i π) (m π) (n π) := by
  by_cases q : c
  · simp only [if_pos q]
    exact h
  · simp only [if_neg q]
    exact h2
theorem pa_safe {m : Pot → Res (α × Pot)} (h : PA m) : PA fun π => safe (m π) := fun π π' => by
  show safe (m π') = rp π' (safe (m π))
  rw [h π π']
  cases m π <;> rfl
end
section
variable {a b c : Ed} {t t2 : Et} {x : Ea} {fi : Ei} {l u : Eo} {s s2 : Fs} {m : Fd} {g g' : D → D → Option D} {fg : D → Rho → Option Rho}
theorem pu_var {i : Nat} : PX (eVar i) := fun ρ => by
  unfold eVar
  split
  · exact pa_ok _
  · exact pa_st
theorem pu_c {d : D} : PX (eC d) := fun ρ => pa_ok _
theorem pu_bin (ha : PX a) (hb : PX b) : PX (eBin g a b) := by
  intro ρ
  unfold eBin
  repeat' first
    | exact pa_ok _
    | exact pa_st
    | exact pa_ofO1
    | refine pa_bind (ha _) fun x => ?_
    | exact ha _
    | refine pa_bind (pa_chk (ha _)) fun x => ?_
    | refine pa_bind (hb _) fun x => ?_
    | exact hb _
    | refine pa_bind (pa_chk (hb _)) fun x => ?_
    | (apply pa_if)
    | (apply pa_ofO; intro k)
    | (dsimp only)
    | split
theorem pu_un {g : D → Option D} (ha : PX a) : PX (eUn g a) := by
  intro ρ
  unfold eUn
  repeat' first
    | exact pa_ok _
    | exact pa_st
    | exact pa_ofO1
    | refine pa_bind (ha _) fun x => ?_
    | exact ha _
    | refine pa_bind (pa_chk (ha _)) fun x => ?_
    | (apply pa_if)
    | (apply pa_ofO; intro k)
    | (dsimp only)
    | split
theorem pu_and (ha : PX a) (hb : PX b) : PX (eAnd a b) := by
  intro ρ
  unfold eAnd
  repeat' first
    | exact pa_ok _
    | exact pa_st
    | exact pa_ofO1
    | refine pa_bind (ha _) fun x => ?_
    | exact ha _
    | refine pa_bind (pa_chk (ha _)) fun x => ?_
    | refine pa_bind (hb _) fun x => ?_
    | exact hb _
    | refine pa_bind (pa_chk (hb _)) fun x => ?_
    | (apply pa_if)
    | (apply pa_ofO; intro k)
    | (dsimp only)
    | split
theorem pu_or (ha : PX a) (hb : PX b) : PX (eOr a b) := by
  intro ρ
  unfold eOr
  repeat' first
    | exact pa_ok _
    | exact pa_st
    | exact pa_ofO1
    | refine pa_bind (ha _) fun x => ?_
    | exact ha _
    | refine pa_bind (pa_chk (ha _)) fun x => ?_
    | refine pa_bind (hb _) fun x => ?_
    | exact hb _
    | refine pa_bind (pa_chk (hb _)) fun x => ?_
    | (apply pa_if)
    | (apply pa_ofO; intro k)
    | (dsimp only)
    | split
theorem pu_not (ha : PX a) : PX (eNot a) := by
  intro ρ
  unfold eNot
  repeat' first
    | exact pa_ok _
    | exact pa_st
    | exact pa_ofO1
    | refine pa_bind (ha _) fun x => ?_
    | exact ha _
    | refine pa_bind (pa_chk (ha _)) fun x => ?_
    | (apply pa_if)
    | (apply pa_ofO; intro k)
    | (dsimp only)
    | split
theorem pu_eif (ht : PX t) (ha : PX a) (hb : PX b) : PX (eIf t a b) := by
  intro ρ
  unfold eIf
  repeat' first
    | exact pa_ok _
    | exact pa_st
    | exact pa_ofO1
    | refine pa_bind (ht _) fun x => ?_
    | exact ht _
    | refine pa_bind (pa_chk (ht _)) fun x => ?_
    | refine pa_bind (ha _) fun x => ?_
    | exact ha _
    | refine pa_bind (pa_chk (ha _)) fun x => ?_
    | refine pa_bind (hb _) fun x => ?_
    | exact hb _
    | refine pa_bind (pa_chk (hb _)) fun x => ?_
    | (apply pa_if)
    | (apply pa_ofO; intro k)
    | (dsimp only)
    | split
theorem pu_anil : PX aNil := by
  intro ρ
  unfold aNil
  repeat' first
    | exact pa_ok _
    | exact pa_st
    | exact pa_ofO1
    | (apply pa_if)
    | (apply pa_ofO; intro k)
    | (dsimp only)
    | split
theorem pu_acons (ha : PX a) (hx : PX x) : PX (aCons a x) := by
  intro ρ
  unfold aCons
  repeat' first
    | exact pa_ok _
    | exact pa_st
    | exact pa_ofO1
    | refine pa_bind (ha _) fun x => ?_
    | exact ha _
    | refine pa_bind (pa_chk (ha _)) fun x => ?_
    | refine pa_bind (hx _) fun x => ?_
    | exact hx _
    | refine pa_bind (pa_chk (hx _)) fun x => ?_
    | (apply pa_if)
    | (apply pa_ofO; intro k)
    | (dsimp only)
    | split
theorem pu_tup (hx : PX x) : PX (eTup x) := by
  intro ρ
  unfold eTup
  repeat' first
    | exact pa_ok _
    | exact pa_st
    | exact pa_ofO1
    | refine pa_bind (hx _) fun x => ?_
    | exact hx _
    | refine pa_bind (pa_chk (hx _)) fun x => ?_
    | (apply pa_if)
    | (apply pa_ofO; intro k)
    | (dsimp only)
    | split
theorem pu_lst (hx : PX x) : PX (eLst x) := by
  intro ρ
  unfold eLst
  repeat' first
    | exact pa_ok _
    | exact pa_st
    | exact pa_ofO1
    | refine pa_bind (hx _) fun x => ?_
    | exact hx _
    | refine pa_bind (pa_chk (hx _)) fun x => ?_
    | (apply pa_if)
    | (apply pa_ofO; intro k)
    | (dsimp only)
    | split
theorem pu_app {g : List D → Option D} (hx : PX x) : PX (eApp g x) := by
  intro ρ
  unfold eApp
  repeat' first
    | exact pa_ok _
    | exact pa_st
    | exact pa_ofO1
    | refine pa_bind (hx _) fun x => ?_
    | exact hx _
    | refine pa_bind (pa_chk (hx _)) fun x => ?_
    | (apply pa_if)
    | (apply pa_ofO; intro k)
    | (dsimp only)
    | split
theorem pu_tof (ha : PX a) : PX (tOf a) := by
  intro ρ
  unfold tOf
  repeat' first
    | exact pa_ok _
    | exact pa_st
    | exact pa_ofO1
    | refine pa_bind (ha _) fun x => ?_
    | exact ha _
    | refine pa_bind (pa_chk (ha _)) fun x => ?_
    | (apply pa_if)
    | (apply pa_ofO; intro k)
    | (dsimp only)
    | split
theorem pu_tbl (ha : PX a) : PX (tBl a) := by
  intro ρ
  unfold tBl
  repeat' first
    | exact pa_ok _
    | exact pa_st
    | exact pa_ofO1
    | refine pa_bind (ha _) fun x => ?_
    | exact ha _
    | refine pa_bind (pa_chk (ha _)) fun x => ?_
    | (apply pa_if)
    | (apply pa_ofO; intro k)
    | (dsimp only)
    | split
theorem pu_tand (ha : PX t) (hb : PX t2) : PX (tAndD t t2) := by
  intro ρ
  unfold tAndD
  repeat' first
    | exact pa_ok _
    | exact pa_st
    | exact pa_ofO1
    | refine pa_bind (ha _) fun x => ?_
    | exact ha _
    | refine pa_bind (pa_chk (ha _)) fun x => ?_
    | refine pa_bind (hb _) fun x => ?_
    | exact hb _
    | refine pa_bind (pa_chk (hb _)) fun x => ?_
    | (apply pa_if)
    | (apply pa_ofO; intro k)
    | (dsimp only)
    | split
theorem pu_tor (ha : PX t) (hb : PX t2) : PX (tOrD t t2) := by
  intro ρ
  unfold tOrD
  repeat' first
    | exact pa_ok _
    | exact pa_st
    | exact pa_ofO1
    | refine pa_bind (ha _) fun x => ?_
    | exact ha _
    | refine pa_bind (pa_chk (ha _)) fun x => ?_
    | refine pa_bind (hb _) fun x => ?_
    | exact hb _
    | refine pa_bind (pa_chk (hb _)) fun x => ?_
    | (apply pa_if)
    | (apply pa_ofO; intro k)
    | (dsimp only)
    | split
theorem pu_tnot (ha : PX t) : PX (tNotD t) := by
  intro ρ
  unfold tNotD
  repeat' first
    | exact pa_ok _
    | exact pa_st
    | exact pa_ofO1
    | refine pa_bind (ha _) fun x => ?_
    | exact ha _
    | refine pa_bind (pa_chk (ha _)) fun x => ?_
    | (apply pa_if)
    | (apply pa_ofO; intro k)
    | (dsimp only)
    | split
theorem pu_true : PX tTrue := by
  intro ρ
  unfold tTrue
  repeat' first
    | exact pa_ok _
    | exact pa_st
    | exact pa_ofO1
    | (apply pa_if)
    | (apply pa_ofO; intro k)
    | (dsimp only)
    | split
theorem pu_chain (ha : PX a) (hb : PX b) (hc : PX c) : PX (eChain g g' a b c) := by
  intro ρ
  unfold eChain
  repeat' first
    | exact pa_ok _
    | exact pa_st
    | exact pa_ofO1
    | refine pa_bind (ha _) fun x => ?_
    | exact ha _
    | refine pa_bind (pa_chk (ha _)) fun x => ?_
    | refine pa_bind (hb _) fun x => ?_
    | exact hb _
    | refine pa_bind (pa_chk (hb _)) fun x => ?_
    | refine pa_bind (hc _) fun x => ?_
    | exact hc _
    | refine pa_bind (pa_chk (hc _)) fun x => ?_
    | (apply pa_if)
    | (apply pa_ofO; intro k)
    | (dsimp only)
    | split
theorem pu_onone : PX oNone := by
  intro ρ
  unfold oNone
  repeat' first
    | exact pa_ok _
    | exact pa_st
    | exact pa_ofO1
    | (apply pa_if)
    | (apply pa_ofO; intro k)
    | (dsimp only)
    | split
theorem pu_osome (ha : PX a) : PX (oSome a) := by
  intro ρ
  unfold oSome
  repeat' first
    | exact pa_ok _
    | exact pa_st
    | exact pa_ofO1
    | refine pa_bind (ha _) fun x => ?_
    | exact ha _
    | refine pa_bind (pa_chk (ha _)) fun x => ?_
    | (apply pa_if)
    | (apply pa_ofO; intro k)
    | (dsimp only)
    | split
theorem pu_sl (ha : PX a) (hl : PX l) (hu : PX u) : PX (eSl a l u) := by
  intro ρ
  unfold eSl
  repeat' first
    | exact pa_ok _
    | exact pa_st
    | exact pa_ofO1
    | refine pa_bind (ha _) fun x => ?_
    | exact ha _
    | refine pa_bind (pa_chk (ha _)) fun x => ?_
    | refine pa_bind (hl _) fun x => ?_
    | exact hl _
    | refine pa_bind (pa_chk (hl _)) fun x => ?_
    | refine pa_bind (hu _) fun x => ?_
    | exact hu _
    | refine pa_bind (pa_chk (hu _)) fun x => ?_
    | (apply pa_if)
    | (apply pa_ofO; intro k)
    | (dsimp only)
    | split
theorem pu_six {i : Nat} (ha : PX a) : PX (eSix i a) := by
  intro ρ
  unfold eSix
  repeat' first
    | exact pa_ok _
    | exact pa_st
    | exact pa_ofO1
    | refine pa_bind (ha _) fun x => ?_
    | exact ha _
    | refine pa_bind (pa_chk (ha _)) fun x => ?_
    | (apply pa_if)
    | (apply pa_ofO; intro k)
    | (dsimp only)
    | split
theorem pu_ival (ha : PX a) : PX (iVal a) := by
  intro ρ
  unfold iVal
  repeat' first
    | exact pa_ok _
    | exact pa_st
    | exact pa_ofO1
    | refine pa_bind (ha _) fun x => ?_
    | exact ha _
    | refine pa_bind (pa_chk (ha _)) fun x => ?_
    | (apply pa_if)
    | (apply pa_ofO; intro k)
    | (dsimp only)
    | split
theorem pu_irng (hx : PX x) : PX (iRng x) := by
  intro ρ
  unfold iRng
  repeat' first
    | exact pa_ok _
    | exact pa_st
    | exact pa_ofO1
    | refine pa_bind (hx _) fun x => ?_
    | exact hx _
    | refine pa_bind (pa_chk (hx _)) fun x => ?_
    | (apply pa_if)
    | (apply pa_ofO; intro k)
    | (dsimp only)
    | split
theorem pu_irngdown (hx : PX x) : PX (iRngDown x) := by
  intro ρ
  unfold iRngDown
  repeat' first
    | exact pa_ok _
    | exact pa_st
    | exact pa_ofO1
    | refine pa_bind (hx _) fun x => ?_
    | exact hx _
    | refine pa_bind (pa_chk (hx _)) fun x => ?_
    | (apply pa_if)
    | (apply pa_ofO; intro k)
    | (dsimp only)
    | split
theorem pu_ienumd (hx : PX x) : PX (iEnumD x) := by
  intro ρ
  unfold iEnumD
  repeat' first
    | exact pa_ok _
    | exact pa_st
    | exact pa_ofO1
    | refine pa_bind (hx _) fun x => ?_
    | exact hx _
    | refine pa_bind (pa_chk (hx _)) fun x => ?_
    | (apply pa_if)
    | (apply pa_ofO; intro k)
    | (dsimp only)
    | split
theorem pu_izipd (hx : PX x) : PX (iZipD x) := by
  intro ρ
  unfold iZipD
  repeat' first
    | exact pa_ok _
    | exact pa_st
    | exact pa_ofO1
    | refine pa_bind (hx _) fun x => ?_
    | exact hx _
    | refine pa_bind (pa_chk (hx _)) fun x => ?_
    | (apply pa_if)
    | (apply pa_ofO; intro k)
    | (dsimp only)
    | split
theorem pa_lcgo (ht : PX t) (ha : PX a) (ρ : Rho) : ∀ ds, PA fun π => lcGo fg t a ρ ds π
  | [] => pa_ok _
  | d :: ds => by
    unfold lcGo
    apply pa_ofO
    intro ρ1
    refine pa_bind (pa_safe (ht ρ1)) fun b => ?_
    dsimp only
    apply pa_if
    · refine pa_bind (pa_safe (ha ρ1)) fun x => ?_
      dsimp only
      refine pa_bind (pa_lcgo ht ha ρ ds) fun r => ?_
      exact pa_ok (x :: r)
    · exact pa_lcgo ht ha ρ ds
theorem pu_lc {vs : List Nat} (hi : PX fi) (ht : PX t) (ha : PX a) : PX (eLC fi fg t a vs) := by
  intro ρ
  unfold eLC
  repeat' first
    | refine pa_bind (pa_lcgo ht ha _ _) fun x => ?_
    | exact pa_ok _
    | exact pa_st
    | exact pa_ofO1
    | refine pa_bind (hi _) fun x => ?_
    | exact hi _
    | refine pa_bind (pa_chk (hi _)) fun x => ?_
    | refine pa_bind (ht _) fun x => ?_
    | exact ht _
    | refine pa_bind (pa_chk (ht _)) fun x => ?_
    | refine pa_bind (ha _) fun x => ?_
    | exact ha _
    | refine pa_bind (pa_chk (ha _)) fun x => ?_
    | (apply pa_if)
    | (apply pa_ofO; intro k)
    | (dsimp only)
    | split
theorem pu_go (hm : PF m) (hx : PX x) : PX (eGo m x) := by
  intro ρ
  unfold eGo
  repeat' first
    | exact pa_ok _
    | exact pa_st
    | exact pa_ofO1
    | exact hm _
    | exact pa_chk (hm _)
    | refine pa_bind (hx _) fun x => ?_
    | exact hx _
    | refine pa_bind (pa_chk (hx _)) fun x => ?_
    | (apply pa_if)
    | (apply pa_ofO; intro k)
    | (dsimp only)
    | split
theorem pu_gox {ix : List Nat} (hm : PF m) (hx : PX x) : PX (eGoX ix m x) := by
  intro ρ
  unfold eGoX
  repeat' first
    | exact pa_ok _
    | exact pa_st
    | exact pa_ofO1
    | exact hm _
    | exact pa_chk (hm _)
    | refine pa_bind (hx _) fun x => ?_
    | exact hx _
    | refine pa_bind (pa_chk (hx _)) fun x => ?_
    | (apply pa_if)
    | (apply pa_ofO; intro k)
    | (dsimp only)
    | split
theorem pa_chk {r : Rm} {m : Pot → Res (D × Pot)} (h : PA m) : PA fun π => chk r (m π) := fun π π' => by
  show chk r (m π') = rp π' (chk r (m π))
  rw [h π π']
  cases m π with
  | ok a =>
    show (if noR r a.1 = true then _ else _) = rp π' (if noR r a.1 = true then _ else _)
    split <;> rfl
  | err c ns xs q =>
    show (if noLs xs = true then _ else _) = rp π' (if noLs xs = true then _ else _)
    split <;> rfl
  | stuck => rfl
theorem pu_gol {r : Rm} {ks : List Ak} (hm : PF m) (hx : PX x) : PX (eGoL r ks m x) := by
  intro ρ
  unfold eGoL
  repeat' first
    | exact pa_ok _
    | exact pa_st
    | exact pa_ofO1
    | exact hm _
    | exact pa_chk (hm _)
    | refine pa_bind (hx _) fun x => ?_
    | exact hx _
    | refine pa_bind (pa_chk (hx _)) fun x => ?_
    | (apply pa_if)
    | (apply pa_ofO; intro k)
    | (dsimp only)
    | split
theorem pu_meth {cn xn : Str} (hm : PF m) (ha : PX a) (hx : PX x) : PX (eMeth cn xn m a x) := by
  intro ρ
  unfold eMeth
  repeat' first
    | exact pa_ok _
    | exact pa_st
    | exact pa_ofO1
    | exact hm _
    | exact pa_chk (hm _)
    | refine pa_bind (ha _) fun x => ?_
    | exact ha _
    | refine pa_bind (pa_chk (ha _)) fun x => ?_
    | refine pa_bind (hx _) fun x => ?_
    | exact hx _
    | refine pa_bind (pa_chk (hx _)) fun x => ?_
    | (apply pa_if)
    | (apply pa_ofO; intro k)
    | (dsimp only)
    | split
theorem pu_next : PX sNext := by
  intro ρ
  unfold sNext
  repeat' first
    | exact pa_ok _
    | exact pa_st
    | exact pa_ofO1
    | (apply pa_if)
    | (apply pa_ofO; intro k)
    | (dsimp only)
    | split
theorem pu_break : PX sBreak := by
  intro ρ
  unfold sBreak
  repeat' first
    | exact pa_ok _
    | exact pa_st
    | exact pa_ofO1
    | (apply pa_if)
    | (apply pa_ofO; intro k)
    | (dsimp only)
    | split
theorem pu_cont : PX sCont := by
  intro ρ
  unfold sCont
  repeat' first
    | exact pa_ok _
    | exact pa_st
    | exact pa_ofO1
    | (apply pa_if)
    | (apply pa_ofO; intro k)
    | (dsimp only)
    | split
theorem pu_stuck : PX sStuck := by
  intro ρ
  unfold sStuck
  repeat' first
    | exact pa_ok _
    | exact pa_st
    | exact pa_ofO1
    | (apply pa_if)
    | (apply pa_ofO; intro k)
    | (dsimp only)
    | split
theorem pu_retn : PX sRetN := by
  intro ρ
  unfold sRetN
  repeat' first
    | exact pa_ok _
    | exact pa_st
    | exact pa_ofO1
    | (apply pa_if)
    | (apply pa_ofO; intro k)
    | (dsimp only)
    | split
theorem pu_ret (ha : PX a) : PX (sRet a) := by
  intro ρ
  unfold sRet
  repeat' first
    | exact pa_ok _
    | exact pa_st
    | exact pa_ofO1
    | refine pa_bind (ha _) fun x => ?_
    | exact ha _
    | refine pa_bind (pa_chk (ha _)) fun x => ?_
    | (apply pa_if)
    | (apply pa_ofO; intro k)
    | (dsimp only)
    | split
theorem pu_expr (ha : PX a) : PX (sExpr a) := by
  intro ρ
  unfold sExpr
  repeat' first
    | exact pa_ok _
    | exact pa_st
    | exact pa_ofO1
    | refine pa_bind (ha _) fun x => ?_
    | exact ha _
    | refine pa_bind (pa_chk (ha _)) fun x => ?_
    | (apply pa_if)
    | (apply pa_ofO; intro k)
    | (dsimp only)
    | split
theorem pu_set {i : Nat} (ha : PX a) : PX (sSet i a) := by
  intro ρ
  unfold sSet
  repeat' first
    | exact pa_ok _
    | exact pa_st
    | exact pa_ofO1
    | refine pa_bind (ha _) fun x => ?_
    | exact ha _
    | refine pa_bind (pa_chk (ha _)) fun x => ?_
    | (apply pa_if)
    | (apply pa_ofO; intro k)
    | (dsimp only)
    | split
theorem pu_par {i j : Nat} (ha : PX a) (hb : PX b) : PX (sPar i j a b) := by
  intro ρ
  unfold sPar
  repeat' first
    | exact pa_ok _
    | exact pa_st
    | exact pa_ofO1
    | refine pa_bind (ha _) fun x => ?_
    | exact ha _
    | refine pa_bind (pa_chk (ha _)) fun x => ?_
    | refine pa_bind (hb _) fun x => ?_
    | exact hb _
    | refine pa_bind (pa_chk (hb _)) fun x => ?_
    | (apply pa_if)
    | (apply pa_ofO; intro k)
    | (dsimp only)
    | split
theorem pu_par3 {i j k : Nat} (ha : PX a) (hb : PX b) (hc : PX c) : PX (sPar3 i j k a b c) := by
  intro ρ
  unfold sPar3
  repeat' first
    | exact pa_ok _
    | exact pa_st
    | exact pa_ofO1
    | refine pa_bind (ha _) fun x => ?_
    | exact ha _
    | refine pa_bind (pa_chk (ha _)) fun x => ?_
    | refine pa_bind (hb _) fun x => ?_
    | exact hb _
    | refine pa_bind (pa_chk (hb _)) fun x => ?_
    | refine pa_bind (hc _) fun x => ?_
    | exact hc _
    | refine pa_bind (pa_chk (hc _)) fun x => ?_
    | (apply pa_if)
    | (apply pa_ofO; intro k)
    | (dsimp only)
    | split
theorem pu_unp (ha : PX a) : PX (sUnp a fg) := by
  intro ρ
  unfold sUnp
  repeat' first
    | exact pa_ok _
    | exact pa_st
    | exact pa_ofO1
    | refine pa_bind (ha _) fun x => ?_
    | exact ha _
    | refine pa_bind (pa_chk (ha _)) fun x => ?_
    | (apply pa_if)
    | (apply pa_ofO; intro k)
    | (dsimp only)
    | split
theorem pu_if (ht : PX t) (hs : PX s) (hs2 : PX s2) : PX (sIf t s s2) := by
  intro ρ
  unfold sIf
  repeat' first
    | exact pa_ok _
    | exact pa_st
    | exact pa_ofO1
    | refine pa_bind (ht _) fun x => ?_
    | exact ht _
    | refine pa_bind (pa_chk (ht _)) fun x => ?_
    | refine pa_bind (hs _) fun x => ?_
    | exact hs _
    | refine pa_bind (pa_chk (hs _)) fun x => ?_
    | refine pa_bind (hs2 _) fun x => ?_
    | exact hs2 _
    | refine pa_bind (pa_chk (hs2 _)) fun x => ?_
    | (apply pa_if)
    | (apply pa_ofO; intro k)
    | (dsimp only)
    | split
theorem pu_seq (hs : PX s) (hs2 : PX s2) : PX (sSeq s s2) := by
  intro ρ
  unfold sSeq
  repeat' first
    | exact pa_ok _
    | exact pa_st
    | exact pa_ofO1
    | refine pa_bind (hs _) fun x => ?_
    | exact hs _
    | refine pa_bind (pa_chk (hs _)) fun x => ?_
    | refine pa_bind (hs2 _) fun x => ?_
    | exact hs2 _
    | refine pa_bind (pa_chk (hs2 _)) fun x => ?_
    | (apply pa_if)
    | (apply pa_ofO; intro k)
    | (dsimp only)
    | split
theorem pa_forgo (hs : PX s) : ∀ ds ρ, PA fun π => forGo fg s ds ρ π
  | [], ρ => pa_ok _
  | d :: ds, ρ => pa_ofO fun ρ1 => pa_bind (hs ρ1) fun y => by
    cases y with
    | nx ρ2 => exact pa_forgo hs ds ρ2
    | ct ρ2 => exact pa_forgo hs ds ρ2
    | bk ρ2 => exact pa_ok _
    | rt d => exact pa_ok _
theorem pu_for (hi : PX fi) (hs : PX s) : PX (sFor fi fg s) := by
  intro ρ
  unfold sFor
  repeat' first
    | exact pa_forgo hs _ _
    | exact pa_ok _
    | exact pa_st
    | exact pa_ofO1
    | refine pa_bind (hi _) fun x => ?_
    | exact hi _
    | refine pa_bind (pa_chk (hi _)) fun x => ?_
    | refine pa_bind (hs _) fun x => ?_
    | exact hs _
    | refine pa_bind (pa_chk (hs _)) fun x => ?_
    | (apply pa_if)
    | (apply pa_ofO; intro k)
    | (dsimp only)
    | split
theorem pa_whilego (ht : PX t) (hs : PX s) : ∀ n ρ, PA fun π => whileGo t s n ρ π
  | 0, ρ => pa_st
  | n + 1, ρ => by
    unfold whileGo
    refine pa_bind (ht ρ) fun x => ?_
    dsimp only
    apply pa_if
    · refine pa_bind (hs ρ) fun y => ?_
      cases y with
      | nx ρ2 => exact pa_whilego ht hs n ρ2
      | ct ρ2 => exact pa_whilego ht hs n ρ2
      | bk ρ2 => exact pa_ok _
      | rt d => exact pa_ok _
    · exact pa_ok _
theorem pu_while (ht : PX t) (hs : PX s) : PX (sWhile t s) := fun ρ => pa_whilego ht hs _ _
theorem pu_mut {i : Nat} {f : D → List D → Option (List D)} (ha : PX a) : PX (sMut i a f) := by
  intro ρ
  unfold sMut
  repeat' first
    | exact pa_ok _
    | exact pa_st
    | exact pa_ofO1
    | refine pa_bind (ha _) fun x => ?_
    | exact ha _
    | refine pa_bind (pa_chk (ha _)) fun x => ?_
    | (apply pa_if)
    | (apply pa_ofO; intro k)
    | (dsimp only)
    | split
theorem pu_mut2 {i : Nat} {f : D → D → List D → Option (List D)} (ha : PX a) (hb : PX b) : PX (sMut2 i a b f) := by
  intro ρ
  unfold sMut2
  repeat' first
    | exact pa_ok _
    | exact pa_st
    | exact pa_ofO1
    | refine pa_bind (ha _) fun x => ?_
    | exact ha _
    | refine pa_bind (pa_chk (ha _)) fun x => ?_
    | refine pa_bind (hb _) fun x => ?_
    | exact hb _
    | refine pa_bind (pa_chk (hb _)) fun x => ?_
    | (apply pa_if)
    | (apply pa_ofO; intro k)
    | (dsimp only)
    | split
theorem pu_sapp {i : Nat} (ha : PX a) : PX (sApp i a) := pu_mut ha
theorem pu_ext {i : Nat} (ha : PX a) : PX (sExt i a) := pu_mut ha
theorem pu_setix {i : Nat} (ha : PX a) (hb : PX b) : PX (sSetIx i a b) := pu_mut2 ha hb
theorem pu_augix {i : Nat} {g : Int → Int → Int} (ha : PX a) (hb : PX b) : PX (sAugIx i g a b) := by
  intro ρ
  unfold sAugIx
  repeat' first
    | exact pa_ok _
    | exact pa_st
    | exact pa_ofO1
    | refine pa_bind (ha _) fun x => ?_
    | exact ha _
    | refine pa_bind (pa_chk (ha _)) fun x => ?_
    | refine pa_bind (hb _) fun x => ?_
    | exact hb _
    | refine pa_bind (pa_chk (hb _)) fun x => ?_
    | (apply pa_if)
    | (apply pa_ofO; intro k)
    | (dsimp only)
    | split
theorem pu_aug {i : Nat} {g : Int → Int → Int} (ha : PX a) : PX (sAug i g a) := by
  intro ρ
  unfold sAug
  repeat' first
    | exact pa_ok _
    | exact pa_st
    | exact pa_ofO1
    | refine pa_bind (ha _) fun x => ?_
    | exact ha _
    | refine pa_bind (pa_chk (ha _)) fun x => ?_
    | (apply pa_if)
    | (apply pa_ofO; intro k)
    | (dsimp only)
    | split
theorem pu_runD {n : Nat} {r : Rm} (hs : PX s) : PF (runD n r s) := by
  intro ds
  unfold runD
  repeat' first
    | exact pa_ok _
    | exact pa_st
    | exact pa_ofO1
    | refine pa_bind (hs _) fun x => ?_
    | exact hs _
    | refine pa_bind (pa_chk (hs _)) fun x => ?_
    | (apply pa_if)
    | (apply pa_ofO; intro k)
    | (dsimp only)
    | split
theorem pu_inil : PI iNil := fun d ρ => pa_ok _
theorem pu_iset {j : Nat} {fi : Fi} (ha : PX a) (h : PI fi) : PI (iSet j a fi) := by
  intro d ρ
  unfold iSet
  repeat' first
    | exact pa_ok _
    | exact pa_st
    | exact pa_ofO1
    | refine pa_bind (ha _) fun x => ?_
    | exact ha _
    | refine pa_bind (pa_chk (ha _)) fun x => ?_
    | exact h _ _
    | refine pa_bind (h _ _) fun x => ?_
    | (apply pa_if)
    | (apply pa_ofO; intro k)
    | (dsimp only)
    | split
theorem pu_ifld {f : Str} {fi : Fi} (ha : PX a) (h : PI fi) : PI (iFld f a fi) := by
  intro d ρ
  unfold iFld
  repeat' first
    | exact pa_ok _
    | exact pa_st
    | exact pa_ofO1
    | refine pa_bind (ha _) fun x => ?_
    | exact ha _
    | refine pa_bind (pa_chk (ha _)) fun x => ?_
    | exact h _ _
    | refine pa_bind (h _ _) fun x => ?_
    | (apply pa_if)
    | (apply pa_ofO; intro k)
    | (dsimp only)
    | split
theorem pu_ick {c : Str} {fi : Fi} (h : PI fi) : PI (iCk c fi) := by
  intro d ρ
  unfold iCk
  repeat' first
    | exact pa_ok _
    | exact pa_st
    | exact pa_ofO1
    | exact h _ _
    | refine pa_bind (h _ _) fun x => ?_
    | (apply pa_if)
    | (apply pa_ofO; intro k)
    | (dsimp only)
    | split
theorem pu_runI {n : Nat} {c : Str} {fi : Fi} (h : PI fi) : PF (runI n c fi) := by
  intro ds
  unfold runI
  repeat' first
    | exact pa_ok _
    | exact pa_st
    | exact pa_ofO1
    | exact h _ _
    | refine pa_bind (h _ _) fun x => ?_
    | (apply pa_if)
    | (apply pa_ofO; intro k)
    | (dsimp only)
    | split
end
/-- what a pure meaning gives at some pot it gives at each one -/
theorem PF.ok {m : Fd} (h : PF m) {ds : List D} {π0 π1 : Pot} {d : D} (e : m ds π0 = .ok (d, π1)) (π : Pot) : m ds π = .ok (d, π) := by
  rw [h ds π0 π, e]
  rfl
def isT : Res (D × Pot) → Bool
  | .ok (.bl b, _) => b
  | _ => false
theorem isT_ok {r : Res (D × Pot)} (h : isT r = true) : ∃ π, r = .ok (.bl true, π) := by
  unfold isT at h
  split at h
  · subst h
    exact ⟨_, rfl⟩
  · cases h
theorem PF.t {m : Fd} (h : PF m) {ds : List D} {π0 : Pot} (e : isT (m ds π0) = true) (π : Pot) : m ds π = .ok (.bl true, π) := by
  obtain ⟨π1, e1⟩ := isT_ok e
  exact h.ok e1 π
end DL

set_option maxHeartbeats 2000000
/-! Data told equal or not by reckoning. -/
namespace DL
open PySem PySem.Spec PyProof.Rows L2
mutual
def beqD : D → D → Bool
  | .non, .non => true
  | .bl a, .bl b => a == b
  | .int a, .int b => decide (a = b)
  | .str a, .str b => decide (a = b)
  | .lst xs, .lst ys => beqL xs ys
  | .tup xs, .tup ys => beqL xs ys
  | .dic ks xs, .dic ls ys => decide (ks = ls) && beqL xs ys
  | .ins c ns xs, .ins d ms ys => decide (c = d) && decide (ns = ms) && beqL xs ys
  | _, _ => false
def beqL : List D → List D → Bool
  | [], [] => true
  | x :: xs, y :: ys => beqD x y && beqL xs ys
  | _, _ => false
end
mutual
theorem beqD_eq : ∀ {a b : D}, beqD a b = true → a = b
  | .non, b, h => by
    cases b <;> simp [beqD] at h
    rfl
  | .bl a, b, h => by
    cases b <;> simp [beqD] at h
    rw [h]
  | .int a, b, h => by
    cases b <;> simp [beqD] at h
    rw [h]
  | .str a, b, h => by
    cases b <;> simp [beqD] at h
    rw [h]
  | .lst xs, b, h => by
    cases b <;> simp [beqD] at h
    rw [beqL_eq h]
  | .tup xs, b, h => by
    cases b <;> simp [beqD] at h
    rw [beqL_eq h]
  | .dic ks xs, b, h => by
    cases b <;> simp [beqD] at h
    rw [h.1, beqL_eq h.2]
  | .ins c ns xs, b, h => by
    cases b <;> simp [beqD] at h
    rw [h.1.1, h.1.2, beqL_eq h.2]
theorem beqL_eq : ∀ {xs ys : List D}, beqL xs ys = true → xs = ys
  | [], ys, h => by
    cases ys <;> simp [beqL] at h
    rfl
  | x :: xs, ys, h => by
    cases ys <;> simp [beqL] at h
    rw [beqD_eq h.1, beqL_eq h.2]
end
def isR (r : Res (D × Pot)) (d : D) : Bool := match r with
  | .ok (e, _) => beqD e d
  | _ => false
theorem isR_ok {r : Res (D × Pot)} {d : D} (h : isR r d = true) : ∃ π, r = .ok (d, π) := by
  unfold isR at h
  split at h
  · rw [← beqD_eq h]
    exact ⟨_, rfl⟩
  · cases h
theorem PF.r {m : Fd} (h : PF m) {ds : List D} {π0 : Pot} {d : D} (e : isR (m ds π0) d = true) (π : Pot) : m ds π = .ok (d, π) := by
  obtain ⟨π1, e1⟩ := isR_ok e
  exact h.ok e1 π
/-- a piece that ends with a value -/
def isO (r : Res (Out × Pot)) (d : D) : Bool := match r with
  | .ok (.rt e, _) => beqD e d
  | _ => false
theorem PX.o {m : Fs} (h : PX m) {ρ : Rho} {π0 : Pot} {d : D} (e : isO (m ρ π0) d = true) (π : Pot) : m ρ π = .ok (.rt d, π) := by
  rw [h ρ π0 π]
  unfold isO at e
  split at e
  · rename_i q
    rw [q, beqD_eq e]
    rfl
  · cases e
theorem PX.r {m : Ed} (h : PX m) {ρ : Rho} {π0 : Pot} {d : D} (e : isR (m ρ π0) d = true) (π : Pot) : m ρ π = .ok (d, π) := by
  obtain ⟨π1, e1⟩ := isR_ok e
  rw [h ρ π0 π, e1]
  rfl
/-! classes told apart -/
theorem kit_ty {K : PySem.W.Frag} {C : Addr} {T : String} {b : Bool} (i : PySem.W.isClsIn K C = true) (t : PySem.W.typeIn K (.ref C) = some (.type "type")) (s : PySem.W.subIn K (.type T) (.ref C) = some b) : PySem.W.kitOne K (.type T) (.ref C) = some b := by
  unfold PySem.W.kitOne
  rw [if_neg (by intro h; cases h)]
  unfold PySem.W.kitCls
  unfold PySem.W.isClsIn at i
  simp only [i, t, Bool.true_and, beq_self_eq_true, if_true]
  exact s
theorem kit_self {K : PySem.W.Frag} {C : Addr} : PySem.W.kitOne K (.ref C) (.ref C) = some true := by
  unfold PySem.W.kitOne
  rw [if_pos (by simp)]
theorem kit_ref {K : PySem.W.Frag} {C D : Addr} {b : Bool} (n : (D == C) = false) (i : PySem.W.isClsIn K C = true) (t : PySem.W.typeIn K (.ref C) = some (.type "type")) (s : PySem.W.subIn K (.ref D) (.ref C) = some b) : PySem.W.kitOne K (.ref D) (.ref C) = some b := by
  unfold PySem.W.kitOne
  rw [if_neg (by
    intro h
    have h : (Value.ref D) = .ref C := by simpa using h
    cases h
    simp at n)]
  unfold PySem.W.kitCls
  unfold PySem.W.isClsIn at i
  simp only [i, t, Bool.true_and, beq_self_eq_true, if_true]
  exact s
end DL

set_option maxHeartbeats 2000000
/-! A list handed on to another name; pop. -/
namespace DL
open PySem PySem.Spec PyProof.Rows L2

section
variable {mg : Str → Option Value} {K : PySem.W.Frag} {pot : Option Addr} {M M0 M1 : List Addr} {H H0 H1 H2 B : Hp} {π π1 : Pot} {Γ Γl Γ' : List Md} {σ : L2.St} {ρ : Rho} {v : V} {d : D} {r : Rm} {E : XK}
/-- a slot is no longer looked at -/
theorem SOk.forget (S : SOk mg K Γ pot M0 H0 B M σ H ρ) (i : Nat) : SOk mg K (Γ.set i .u) pot M0 H0 B M σ H ρ := by
  have I := S.env
  have key : ∀ {j : Nat} {m : Md}, m ≠ .u → (Γ.set i .u)[j]? = some m → Γ[j]? = some m := fun {j m} n h => by
    rcases set_at h with ⟨_, e, _⟩ | ⟨_, e⟩
    · exact absurd e n
    · exact e
  exact ⟨⟨by simp [I.ls], by simp [I.lr], fun j e h => I.f j e (key (by decide) h), fun j e h => I.o j e (key (by decide) h), fun j h => I.p j (key (by decide) h), fun j e h => I.s j e (key (by decide) h), fun j k a b c h1 h2 => I.ap j k a b c (key (by decide) h1) (key (by decide) h2), I.al, I.pm⟩,
    S.gr, S.sub, fun j e a h => S.ow j e a (key (by decide) h), S.m0, S.bs⟩
end
section
variable {X : Cx} {E : XK} {r r' ra rb rc : Rm} {Γl Γ Γ1 Γ' : List Md} {pos : Pos} {k : Nat} {e a b c : Expr} {te ta tb tc ti : TE} {fe fa fb fc fk : Ed} {st : Stmt} {sts body : List Stmt} {ts us : TS} {fs gs : Fs} {tt : TT} {ft : Et}
/-- y = x, x an own list that is not named again -/
theorem ds_move (i j : Nat) {x y : Str} {p px : Pos} (o : XOk X E k) (hij : i ≠ j := by decide) (hi : Γ[i]? = some .o := by rfl) (hj : Γ[j]? = some .o := by rfl) (hNi : X.N[i]? = some x := by rfl) (hNj : X.N[j]? = some y := by rfl)
    (hv : Vis X.env.scope x := by first | exact Or.inl rfl | exact Or.inr (Or.inl rfl) | exact Or.inr (Or.inr rfl)) (hd : (x == ("__debug__" : Str)) = false := by decide) (hcd : (x == ("__classdict__" : Str)) = false := by decide)
    (hx : Loc X.env.scope y := by first | exact Or.inl rfl | exact Or.inr rfl)
    (hs : swapsWith (.Name x px) (some (.Name y p)) pos.line X.env = pure false := by rfl) (hf : X.fn y = true ∨ X.env.scope.names.lookup y = some .local := by first | exact .inl rfl | exact .inr rfl) :
    DS X E r Γl Γ (Γ.set i .u) (.Assign [.Name y p] (.Name x px) pos) (tAsg (tVar i) (gName j)) (sSet j (eVar i)) :=
  ⟨ps_set o.nd hNj hx (pe_var hNi hv hd hcd) hs hf, fun pot M0 H0 B M σ H ρ π D S p h => by
    unfold sSet eVar at h
    split at h
    · rename_i d er
      obtain ⟨q, e1, m, ow⟩ := S.env.o i d hi er
      refine ⟨.ref q, e1, ?_⟩
      have S1 := S.forget i
      have hj' : (Γ.set i .u)[j]? = some .o := by rw [List.getElem?_set_ne hij]; exact hj
      have hd1 : Held X.mg X.K .o (Γ.set i .u) pot H0 M σ H ρ (.ref q) d := ⟨q, rfl, m, ow, S.ow i d q hi er e1, fun l e g1 g2 g3 => by
        rcases set_at g1 with ⟨_, z, _⟩ | ⟨n, g1⟩
        · cases z
        · exact n (S.env.ap i l q d e hi g1 er g2 e1 g3)⟩
      have S2 := S1.put (r := .o) (i := j) (List.getElem?_eq_some_iff.mp hj').1 hd1
      rw [set_same (show (Γ.set i .u)[j]? = some Rm.o.md from hj')] at S2
      exact h M _ H S2 p
    · exact h.elim⟩

theorem Res.bind_assoc {α β γ : Type} (x : Res α) (f : α → Res β) (g : β → Res γ) : (x.bind f).bind g = x.bind fun a => (f a).bind g := by
  cases x <;> rfl
theorem SOk.swap {mg : Str → Option Value} {K : PySem.W.Frag} {pot : Option Addr} {M M0 : List Addr} {H H0 B : Hp} {Γ : List Md} {σ : L2.St} {ρ : Rho} {d : D} {i j : Nat} {q : Addr} (S : SOk mg K (Γ.set j .u) pot M0 H0 B M σ H ρ) (hij : i ≠ j) (hi : Γ[i]? = some .o) (hj : Γ[j]? = some .o) (er : ρ[i]? = some (some d)) (ej : ρ[j]? = some (some d)) (e1 : σ[i]? = some (some (.ref q))) (e2 : σ[j]? = some (some (.ref q))) :
    SOk mg K (Γ.set i .u) pot M0 H0 B M σ H ρ := by
  have hi' : (Γ.set j .u)[i]? = some .o := by rw [List.getElem?_set_ne hij.symm]; exact hi
  obtain ⟨q', e3, m, ow⟩ := S.env.o i d hi' er
  rw [e1] at e3
  cases e3
  have S1 := S.forget i
  have hd1 : Held mg K .o ((Γ.set j .u).set i .u) pot H0 M σ H ρ (.ref q) d := ⟨q, rfl, m, ow, S.ow i d q hi' er e1, fun l e g1 g2 g3 => by
    rcases set_at g1 with ⟨_, z, _⟩ | ⟨n, g1⟩
    · cases z
    · exact n (S.env.ap i l q d e hi' g1 er g2 e1 g3)⟩
  have hjl : j < ((Γ.set j .u).set i .u).length := by
    simp only [List.length_set]
    exact (List.getElem?_eq_some_iff.mp hj).1
  have S2 := S1.put (r := .o) (i := j) hjl hd1
  have eΓ : (((Γ.set j .u).set i .u).set j Rm.o.md) = Γ.set i .u := by
    rw [List.set_comm _ _ hij.symm, List.set_set, List.set_comm _ _ hij]
    congr 1
    exact set_same hj
  have eσ : σ.set j (some (.ref q)) = σ := by
    apply List.ext_getElem?
    intro l
    by_cases e : j = l
    · subst e
      rw [List.getElem?_set_self (List.getElem?_eq_some_iff.mp e2).1, e2]
    · rw [List.getElem?_set_ne e]
  have eρ : ρ.set j (some d) = ρ := by
    apply List.ext_getElem?
    intro l
    by_cases e : j = l
    · subst e
      rw [List.getElem?_set_self (List.getElem?_eq_some_iff.mp ej).1, ej]
    · rw [List.getElem?_set_ne e]
  rw [eΓ, eσ, eρ] at S2
  exact S2
/-- the loop, once what is walked is there -/
theorem for_run {tg : Expr} {is : List Nat} {g : TG} {fg : D → Rho → Option Rho} (hg : DG X Γ tg is g fg) (hb : DSs X E r Γ Γ Γ body ts fs) {pot : Option Addr} {M0 M : List Addr} {H0 B H1 : Hp} {σ : L2.St} {ρ : Rho} {π1 : Pot} {D' : Ends} {J : It} {items : List D} {G : Hp → Prop} {Y : Nat → Hp → V → Hp → Prop}
    (S1 : SOk X.mg X.K Γ pot M0 H0 B M σ H1 ρ) (p1 : PotAt pot H1 π1) (W : WalkD X.mg X.K false pot M H1 J items G Y) (h1 : PostS X.mg X.K r Γl Γ pot M0 H0 B (forGo fg fs items ρ π1) D' E) :
    ∃ W : Nat → Nat → L2.St → Hp → Prop, (∃ m, W 0 m σ H1) ∧ ∀ i m σ H, W i m σ H →
      (J.stop i H ∧ D'.nx σ H) ∨ (J.go i H ∧ ∃ N : L2.St → Hp → Prop, (∀ σ' H', N σ' H' → ∃ m', m' < m ∧ W (i + 1) m' σ' H') ∧ ∀ x H', J.yld i H x H' → g x σ H' fun σ2 H2 => ts { D' with nx := N, ct := N, bk := D'.nx } σ2 H2) := by
  refine for_it W.walk (fun i σ2 H2 => ∃ M2 ρ2 π2, SOk X.mg X.K Γ pot M0 H0 (less H1 M) M2 σ2 H2 ρ2 ∧ PotAt pot H2 π2 ∧ PostS X.mg X.K r Γl Γ pot M0 H0 B (forGo fg fs (items.drop i) ρ2 π2) D' E)
    ⟨M, ρ, π1, ⟨S1.env, S1.gr, S1.sub, S1.ow, S1.m0, Same.refl _⟩, p1, by rw [List.drop_zero]; exact h1⟩ (fun i σ2 H2 _ ⟨M2, ρ2, π2, S2, _, _⟩ => W.stay H2 M2 (fun z => by cases z) S2.bs) ?_ ?_
  · rintro i xv σ2 H2 H3 hlt ⟨M2, ρ2, π2, S2, p2, h2⟩ hy
    obtain ⟨sm, d, hd, rd⟩ := W.item i H2 xv H3 M2 (fun z => by cases z) S2.bs S2.env.al hlt hy
    have S3 := S2.grow (.of_same sm) (p2.same sm)
    have edr : items.drop i = d :: items.drop (i + 1) := by
      rw [List.drop_eq_getElem_cons hlt]
      congr 1
      have := List.getElem?_eq_getElem hlt
      rw [hd] at this
      exact (Option.some.inj this).symm
    rw [edr] at h2
    unfold forGo at h2
    cases e1 : fg d ρ2 with
    | none =>
      rw [e1] at h2
      exact h2.elim
    | some ρ3 =>
      rw [e1] at h2
      simp only [ofO_some, Res.bind_ok] at h2
      refine hg.sem pot M2 σ2 H3 ρ2 xv d S3.env rd ρ3 e1 _ fun σ3 I3 s1 s2 => ?_
      have S4 : SOk X.mg X.K Γ pot M0 H0 (less H1 M) M2 σ3 H3 ρ3 := ⟨I3, S3.gr, S3.sub, fun j e a w1 w2 w3 => by
        have nj : j ∉ is := fun z => by
          rw [hg.fs j z] at w1
          cases w1
        rw [s1 j nj] at w3
        rw [s2 j nj] at w2
        exact S3.ow j e a w1 w2 w3, S3.m0, S3.bs⟩
      refine hb.sem pot M0 H0 (less H1 M) M2 σ3 H3 ρ3 π2 _ S4 (p2.same sm) ?_
      cases e2 : fs ρ3 π2 with
      | err c ns xs π' =>
        rw [e2] at h2
        exact h2
      | stuck =>
        rw [e2] at h2
        exact h2
      | ok y =>
        obtain ⟨y, π3⟩ := y
        rw [e2] at h2
        simp only [Res.bind_ok] at h2
        cases y with
        | nx ρ4 => exact fun M4 σ4 H4 S5 p5 => ⟨M4, ρ4, π3, S5, p5, h2⟩
        | ct ρ4 => exact fun M4 σ4 H4 S5 p5 => ⟨M4, ρ4, π3, S5, p5, h2⟩
        | bk ρ4 => exact fun M4 σ4 H4 S5 p5 => h2 M4 σ4 H4 ⟨S5.env, S5.gr, S5.sub, S5.ow, S5.m0, fun a u e => S5.bs a u (S1.bs a u e)⟩ p5
        | rt d => exact h2
  · rintro σ2 H2 ⟨M2, ρ2, π2, S2, p2, h2⟩
    rw [List.drop_length] at h2
    exact h2 M2 σ2 H2 ⟨S2.env, S2.gr, S2.sub, S2.ow, S2.m0, fun a u e => S2.bs a u (S1.bs a u e)⟩ p2
/-- y = x; for .. in (what looks at x): .. -/
theorem dss_moveFor (i j : Nat) {x y : Str} {p px : Pos} {pos2 : Pos} {tg iter : Expr} {wi : TI} {fi : Ei} {is : List Nat} {g : TG} {fg : D → Rho → Option Rho} (o : XOk X E k)
    (hit : DI false X E (Γ.set j .u) tg iter wi fi) (hg : DG X (Γ.set i .u) tg is g fg) (hb : DSs X E r (Γ.set i .u) (Γ.set i .u) (Γ.set i .u) body ts fs) (hr : DSs X E r Γl (Γ.set i .u) Γ' sts us gs) (hij : i ≠ j := by decide) (hi : Γ[i]? = some .o := by rfl) (hj : Γ[j]? = some .o := by rfl) (hNi : X.N[i]? = some x := by rfl) (hNj : X.N[j]? = some y := by rfl)
    (hv : Vis X.env.scope x := by first | exact Or.inl rfl | exact Or.inr (Or.inl rfl) | exact Or.inr (Or.inr rfl)) (hd : (x == ("__debug__" : Str)) = false := by decide) (hcd : (x == ("__classdict__" : Str)) = false := by decide)
    (hx : Loc X.env.scope y := by first | exact Or.inl rfl | exact Or.inr rfl)
    (hs : swapsWith (.Name x px) (some (.Name y p)) pos.line X.env = pure false := by rfl) (hf : X.fn y = true ∨ X.env.scope.names.lookup y = some .local := by first | exact .inl rfl | exact .inr rfl) (hfs : ∀ x, foldedSetIterable iter X.env x = pure x := by intro _; rfl) :
    DSs X E r Γl Γ Γ' (.Assign [.Name y p] (.Name x px) pos :: .For tg iter body [] pos2 :: sts) (tSeq (tAsg (tVar i) (gName j)) (tSeq (tFor wi g ts) us)) (sSeq (sSet j (eVar i)) (sSeq (sFor fi fg fs) gs)) :=
  ⟨pss_cons (ps_set o.nd hNj hx (pe_var hNi hv hd hcd) hs hf) (pss_cons (ps_for o.own o.calm hit.pi hg.pg hb.pss hfs) hr.pss), fun pot M0 H0 B M σ H ρ π D S p h => by
    cases er : ρ[i]? with
    | none =>
      simp only [sSeq, sSet, eVar, er] at h
      exact h.elim
    | some od => cases od with
      | none =>
        simp only [sSeq, sSet, eVar, er] at h
        exact h.elim
      | some d =>
        have h : PostS X.mg X.K r Γl Γ' pot M0 H0 B ((fi (ρ.set j (some d)) π).bind fun z => (forGo fg fs z.1 (ρ.set j (some d)) z.2).bind fun x => match x.1 with
            | .nx ρ1 => gs ρ1 x.2
            | .bk ρ1 => .ok (.bk ρ1, x.2)
            | .ct ρ1 => .ok (.ct ρ1, x.2)
            | .rt d => .ok (.rt d, x.2)) D E := by
          simp only [sSeq, sSet, eVar, er, Res.bind_ok, sFor, Res.bind_assoc] at h
          exact h
        obtain ⟨q, e1, m, ow⟩ := S.env.o i d hi er
        refine ⟨.ref q, e1, ?_⟩
        have hjl : j < (Γ.set j .u).length := by
          rw [List.length_set]
          exact (List.getElem?_eq_some_iff.mp hj).1
        have S0 := (S.forget j).put (r := .b) (i := j) (v := .ref q) (d := d) hjl trivial
        rw [List.set_set] at S0
        have s1 : (σ.set j (some (.ref q)))[i]? = some (some (.ref q)) := by rw [List.getElem?_set_ne hij.symm]; exact e1
        have s2 : (σ.set j (some (.ref q)))[j]? = some (some (.ref q)) := List.getElem?_set_self (by rw [S.env.ls]; exact (List.getElem?_eq_some_iff.mp hj).1)
        have s3 : (ρ.set j (some d))[i]? = some (some d) := by rw [List.getElem?_set_ne hij.symm]; exact er
        have s4 : (ρ.set j (some d))[j]? = some (some d) := List.getElem?_set_self (by rw [S.env.lr]; exact (List.getElem?_eq_some_iff.mp hj).1)
        refine PostS.seqI (Γ := Γ.set j .u) (w := false) (te := wi (σ.set j (some (.ref q))) H) h S0 (fun Q' hq => hit.sem pot M _ H _ π S0.env p Q' hq) fun items π1 J H1 G Y _ g1 p1 W h1 => ?_
        have S1 := (S0.grow g1 p1).swap hij hi hj s3 s4 s1 s2
        refine for_run (Γl := Γl) hg hb S1 p1 W ?_
        cases ex : forGo fg fs items (ρ.set j (some d)) π1 with
        | err c ns xs π' =>
          simp only [ex] at h1
          exact h1
        | stuck =>
          simp only [ex] at h1
          exact h1
        | ok z =>
          obtain ⟨z, π2⟩ := z
          simp only [ex, Res.bind_ok] at h1
          cases z with
          | nx ρ1 => exact fun M1 σ1 H1 S1 p1 => hr.sem pot M0 H0 B M1 σ1 H1 ρ1 π2 D S1 p1 h1
          | bk ρ1 => exact h1
          | ct ρ1 => exact h1
          | rt d => exact h1⟩

/-! ### pop -/
def popD (ds : List D) (i : Option Int) : Option (D × List D) := match i with
  | none => (ds[ds.length - 1]?).map fun x => (x, ds.dropLast)
  | some i => if -9223372036854775808 ≤ i ∧ i < 9223372036854775808 then (seqIndex? i ds.length).bind fun k => (ds[k]?).map fun x => (x, ds.eraseIdx k) else none
def sPopK (i : Nat) (fx : Eo) (kk : D → Fs) : Fs := fun ρ π => match ρ[i]? with
  | some (some (.lst ds)) => (fx ρ π).bind fun x => (ofO (popD ds x.1)).bind fun y => kk y.1 (ρ.set i (some (.lst y.2))) x.2
  | _ => .stuck
def kDrop : D → Fs := fun _ ρ π => .ok (.nx ρ, π)
def kSet (j : Nat) : D → Fs := fun d ρ π => .ok (.nx (ρ.set j (some d)), π)
def kApp (j : Nat) : D → Fs := fun d ρ π => match ρ[j]? with
  | some (some (.lst ds)) => (ofO (appD d ds)).bind fun es => .ok (.nx (ρ.set j (some (.lst es))), π)
  | _ => .stuck
/-- what is popped goes to another list -/
def sPopApp (i : Nat) (fx : Eo) (j : Nat) : Fs := fun ρ π => match ρ[j]? with
  | some (some (.lst _)) => sPopK i fx (kApp j) ρ π
  | _ => .stuck
def kPar (j l : Nat) (fb : Ed) : D → Fs := fun d ρ π => (fb ρ π).bind fun y => .ok (.nx ((ρ.set j (some d)).set l (some y.1)), y.2)

/-- what follows a pop, seen from what popped gives -/
def PopQ (X : Cx) (Γ : List Md) (pot : Option Addr) (M0 : List Addr) (H0 B : Hp) (σ : L2.St) (ρ : Rho) (d : D) (π : Pot) (Q : VK) : Prop :=
  ∀ v M H, SOk X.mg X.K Γ pot M0 H0 B M σ H ρ → PotAt pot H π → Rp X.mg X.K (less H M) v d → Q v H
/-- a term that pops -/
def SemPop (X : Cx) (E : XK) (r : Rm) (Γl Γ Γ' : List Md) (i : Nat) (tp : TE) (fx : Eo) : Prop :=
  ∀ pot M0 H0 B M σ H ρ π D' kk Q, SOk X.mg X.K Γ pot M0 H0 B M σ H ρ → PotAt pot H π → PostS X.mg X.K r Γl Γ' pot M0 H0 B (sPopK i fx kk ρ π) D' E →
    (∀ d ds π1 M1 H1, PostS X.mg X.K r Γl Γ' pot M0 H0 B (kk d (ρ.set i (some (.lst ds))) π1) D' E → Grow pot H H1 → (∀ v c oo, σ[i]? = some (some (.ref c)) → pot ≠ some c → SOk X.mg X.K Γ pot M0 H0 B M1 σ (upd H1 c oo) (ρ.set i (some (.lst ds))) → PotAt pot (upd H1 c oo) π1 → Rp X.mg X.K (less (upd H1 c oo) M1) v d → Q v (upd H1 c oo))) → tp σ H Q
theorem seqIndex_lt {i : Int} {n k : Nat} (h : seqIndex? i n = some k) : k < n := by
  unfold seqIndex? at h
  obtain ⟨j, hj⟩ : ∃ j, j = (if i < 0 then i + (n : Int) else i) := ⟨_, rfl⟩
  simp only [← hj] at h
  split at h
  · rename_i q
    cases h
    simp only [Bool.and_eq_true, decide_eq_true_eq] at q
    omega
  · cases h
theorem rpl_erase {mg : Str → Option Value} {K : PySem.W.Frag} {H : Hp} : ∀ {vs : List V} {ds : List D} (k : Nat), RpL mg K H vs ds → RpL mg K H (vs.eraseIdx k) (ds.eraseIdx k)
  | _, _, _, .nil => .nil
  | _, _, 0, .cons _ r => r
  | _, _, k + 1, .cons h r => .cons h (rpl_erase k r)
theorem rpl_dropLast {mg : Str → Option Value} {K : PySem.W.Frag} {H : Hp} {vs : List V} {ds : List D} (r : RpL mg K H vs ds) : RpL mg K H vs.dropLast ds.dropLast := by
  rw [List.dropLast_eq_take, List.dropLast_eq_take, r.length]
  exact r.take _
theorem pop_at {i : Nat} (hΓ : Γ[i]? = some .o) (he : SemE X.mg X.K E .f Γ te fe) : SemPop X E r Γl Γ Γ' i (tBM X.K "list" rPopAt (tVar i) (tCons te tNil)) (oSome fe) := fun pot M0 H0 B M σ H ρ π D' kk Q S p h hq => by
  unfold sPopK at h
  split at h
  · rename_i ds er
    obtain ⟨c, xs, e1, n, h1, r1⟩ := own_at S hΓ er
    refine ⟨.ref c, e1, .inl ⟨rfl, xs, .inl (.inl h1)⟩, ?_⟩
    unfold oSome at h
    cases ef : fe ρ π with
    | err c ns xs π' =>
      rw [ef] at h
      refine he pot M σ H ρ π S.env p _ ?_
      rw [ef]
      exact PErr.out h S
    | stuck =>
      rw [ef] at h
      exact h.elim
    | ok a =>
      obtain ⟨d, π1⟩ := a
      rw [ef] at h
      refine he pot M σ H ρ π S.env p _ ?_
      rw [ef]
      intro v H1 g1 p1 q1
      cases d with
      | int z =>
        simp only [Res.bind_ok, popD] at h
        split at h
        · rename_i hz
          cases e2 : seqIndex? z ds.length with
          | none =>
            rw [e2] at h
            exact h.elim
          | some kx =>
            rw [e2] at h
            simp only [Option.bind_some] at h
            have hk := seqIndex_lt e2
            obtain ⟨x, ex⟩ : ∃ x, ds[kx]? = some x := ⟨_, List.getElem?_eq_getElem hk⟩
            rw [ex] at h
            simp only [Option.map_some, ofO_some, Res.bind_ok] at h
            cases rb_int (.inl q1 : Rb X.mg X.K pot M H1 v (.int z))
            have S1 := S.grow g1 p1
            have r2 := r1.mono (less_grow S.env.pm g1)
            obtain ⟨y, ey, ry⟩ := r2.get ex
            have m : c ∈ M := by
              obtain ⟨c', e3, m, _⟩ := S.env.o i _ hΓ er
              rw [e1] at e3
              cases e3
              exact m
            refine ⟨c, xs, z, kx, y, rfl, rfl, g1 c _ n h1, by omega, by omega, by rw [r2.length]; exact e2, ey, ?_⟩
            have S2 := S1.mut hΓ er e1 (.lst (rpl_erase kx r2))
            exact hq x (ds.eraseIdx kx) π1 M H1 h g1 y c (.lst (xs.eraseIdx kx)) e1 n S2 (p1.mut n) (ry.mono (less_upd m))
        · exact h.elim
      | _ => exact h.elim
  · exact h.elim
theorem pop_0 {i : Nat} (hΓ : Γ[i]? = some .o) : SemPop X E r Γl Γ Γ' i (tBM0 X.K "list" rPop (tVar i)) oNone := fun pot M0 H0 B M σ H ρ π D' kk Q S p h hq => by
  unfold sPopK at h
  split at h
  · rename_i ds er
    obtain ⟨c, xs, e1, n, h1, r1⟩ := own_at S hΓ er
    refine ⟨.ref c, e1, .inl ⟨rfl, xs, .inl (.inl h1)⟩, ?_⟩
    simp only [oNone, Res.bind_ok, popD] at h
    cases ex : ds[ds.length - 1]? with
    | none =>
      rw [ex] at h
      exact h.elim
    | some x =>
      rw [ex] at h
      simp only [Option.map_some, ofO_some, Res.bind_ok] at h
      obtain ⟨y, ey, ry⟩ := r1.get ex
      have m : c ∈ M := by
        obtain ⟨c', e3, m, _⟩ := S.env.o i _ hΓ er
        rw [e1] at e3
        cases e3
        exact m
      refine ⟨c, xs, y, rfl, rfl, h1, by rw [r1.length]; exact ey, ?_⟩
      have S2 := S.mut hΓ er e1 (.lst (rpl_dropLast r1))
      exact hq x ds.dropLast π M H h .refl y c (.lst xs.dropLast) e1 n S2 (p.mut n) (ry.mono (less_upd m))
  · exact h.elim
/-- the text of a pop -/
structure DP (X : Cx) (E : XK) (r : Rm) (Γl Γ Γ' : List Md) (i : Nat) (e : Expr) (tp : TE) (fx : Eo) : Prop where
  pe : PE X e tp
  sem : SemPop X E r Γl Γ Γ' i tp fx
theorem dp_at (i : Nat) {x : Str} {p apos cpos : Pos} (he : DE X E .f Γ e te fe) (hΓ : Γ[i]? = some .o := by rfl) (hN : X.N[i]? = some x := by rfl) (hv : Vis X.env.scope x := by first | exact Or.inl rfl | exact Or.inr (Or.inl rfl) | exact Or.inr (Or.inr rfl))
    (hd : (x == ("__debug__" : Str)) = false := by decide) (hcd : (x == ("__classdict__" : Str)) = false := by decide)
    (hbase : attributeBase (.Name x p) "pop" X.env (eval (.Name x p) X.env) = eval (.Name x p) X.env := by rfl)
    (hfew : ((backTo cpos (starEach [e] X.env)).all (fun x => !x.1) && (backToKw cpos (keywordEach [] X.env)).all (fun x => x.1.isSome) && decide (([e]).length + ([] : List Keyword).length + (if ([] : List Keyword).isEmpty then 0 else 1) < 30)) = true := by rfl)
    (hline : (apos.endLine == cpos.line) = true := by rfl) (hs : starEach [e] X.env = (false, eval e X.env) :: starEach [] X.env := by rfl) (hplain : (backTo cpos (starEach [] X.env)).any (·.1) = false := by rfl) :
    DP X E r Γl Γ Γ' i (.Call (.Attribute (.Name x p) "pop" apos) [e] [] cpos) (tBM X.K "list" rPopAt (tVar i) (tCons te tNil)) (oSome fe) :=
  ⟨pe_bm PySem.F.plainAttrs_list PySem.F.slot_list_pop PySem.F.type_list_pop mt_popAt (pe_var hN hv hd hcd) (pa_cons he.pe pa_nil hs) hbase hfew hline hs hplain, pop_at hΓ he.sem⟩
theorem dp_0 (i : Nat) {x : Str} {p apos cpos : Pos} (hΓ : Γ[i]? = some .o := by rfl) (hN : X.N[i]? = some x := by rfl) (hv : Vis X.env.scope x := by first | exact Or.inl rfl | exact Or.inr (Or.inl rfl) | exact Or.inr (Or.inr rfl))
    (hd : (x == ("__debug__" : Str)) = false := by decide) (hcd : (x == ("__classdict__" : Str)) = false := by decide)
    (hbase : attributeBase (.Name x p) "pop" X.env (eval (.Name x p) X.env) = eval (.Name x p) X.env := by rfl) (hline : (apos.endLine == cpos.line) = true := by rfl) :
    DP X E r Γl Γ Γ' i (.Call (.Attribute (.Name x p) "pop" apos) [] [] cpos) (tBM0 X.K "list" rPop (tVar i)) oNone :=
  ⟨pe_bm0 PySem.F.plainAttrs_list PySem.F.slot_list_pop PySem.F.type_list_pop mt_pop (pe_var hN hv hd hcd) hbase hline, pop_0 hΓ⟩
section
variable {i : Nat} {tp : TE} {fx : Eo}
/-- x.pop(..) -/
theorem ds_pop (hp : DP X E r Γl Γ Γ i e tp fx) (hs : swapsWith e none pos.line X.env = pure false := by rfl) : DS X E r Γl Γ Γ (.Expr e pos) (tDrop tp) (sPopK i fx kDrop) :=
  ⟨ps_expr hp.pe hs, fun pot M0 H0 B M σ H ρ π D' S p h => hp.sem pot M0 H0 B M σ H ρ π D' kDrop _ S p h fun d ds π1 M1 H1 h2 g1 v c oo e1 n S2 p2 rv => h2 M1 σ _ S2 p2⟩
/-- y = x.pop(..) -/
theorem ds_popset (j : Nat) {y : Str} {p : Pos} (o : XOk X E k) (hp : DP X E r Γl Γ Γ i e tp fx) (hΓ : Γ[j]? = some .f := by rfl) (hN : X.N[j]? = some y := by rfl) (hx : Loc X.env.scope y := by first | exact Or.inl rfl | exact Or.inr rfl)
    (hs : swapsWith e (some (.Name y p)) pos.line X.env = pure false := by rfl) (hf : X.fn y = true ∨ X.env.scope.names.lookup y = some .local := by first | exact .inl rfl | exact .inr rfl) : DS X E r Γl Γ Γ (.Assign [.Name y p] e pos) (tAsg tp (gName j)) (sPopK i fx (kSet j)) :=
  ⟨ps_set o.nd hN hx hp.pe hs hf, fun pot M0 H0 B M σ H ρ π D' S p h => hp.sem pot M0 H0 B M σ H ρ π D' (kSet j) _ S p h fun d ds π1 M1 H1 h2 g1 v c oo e1 n S2 p2 rv => by
    have S3 := S2.put (r := .f) (i := j) (v := v) (d := d) (List.getElem?_eq_some_iff.mp hΓ).1 rv
    rw [set_same (show Γ[j]? = some Rm.f.md from hΓ)] at S3
    exact h2 M1 _ _ S3 p2⟩
/-- z.append(x.pop(..)) -/
theorem ds_popapp (j : Nat) {x : Str} {p apos cpos : Pos} (hp : DP X E r Γl Γ Γ i e tp fx) (hij : i ≠ j := by decide) (hi : Γ[i]? = some .o := by rfl) (hΓ : Γ[j]? = some .o := by rfl) (hN : X.N[j]? = some x := by rfl) (hv : Vis X.env.scope x := by first | exact Or.inl rfl | exact Or.inr (Or.inl rfl) | exact Or.inr (Or.inr rfl))
    (hd : (x == ("__debug__" : Str)) = false := by decide) (hcd : (x == ("__classdict__" : Str)) = false := by decide) (hb : BmOk X x "append" e p apos cpos pos := by exact ⟨rfl, rfl, rfl, rfl, rfl, rfl⟩) :
    DS X E r Γl Γ Γ (.Expr (.Call (.Attribute (.Name x p) "append" apos) [e] [] cpos) pos) (tDrop (tBM X.K "list" rAppend (tVar j) (tCons tp tNil))) (sPopApp i fx j) :=
  ⟨ps_expr (pe_bm PySem.F.plainAttrs_list PySem.F.slot_list_append PySem.F.type_list_append mt_append (pe_var hN hv hd hcd) (pa_cons hp.pe pa_nil hb.2.2.2.1) hb.1 hb.2.1 hb.2.2.1 hb.2.2.2.1 hb.2.2.2.2.1) hb.2.2.2.2.2,
    fun pot M0 H0 B M σ H ρ π D' S p h => by
      unfold sPopApp at h
      split at h
      · rename_i es key
        obtain ⟨c2, ys, e2, n2, h2', r2'⟩ := own_at S hΓ key
        refine ⟨.ref c2, e2, .inl ⟨rfl, ys, .inl (.inl h2')⟩, ?_⟩
        refine hp.sem pot M0 H0 B M σ H ρ π D' (kApp j) _ S p h fun d ds π1 M1 H1 h2 g1 v c oo e1 n S2 p2 rv => ?_
        have ej : (ρ.set i (some (.lst ds)))[j]? = some (some (.lst es)) := by rw [List.getElem?_set_ne hij]; exact key
        unfold kApp at h2
        rw [ej] at h2
        obtain ⟨c3, zs, e3, n3, h3, r3⟩ := own_at S2 hΓ ej
        rw [e2] at e3
        cases e3
        simp only [appD] at h2
        split at h2
        · rename_i hl
          refine ⟨c2, zs, v, rfl, rfl, h3, by rw [r3.length]; exact hl, ?_⟩
          exact h2 M1 σ _ (S2.mut hΓ ej e2 (.lst (r3.append (.cons rv .nil)))) (p2.mut n2)
        · exact h2.elim
      · exact h.elim⟩
end
end

/-! ### properties -/
section
variable {X : Cx} {E : XK} {Γ : List Md} {pos : Pos} {k j : Nat} {a dx : Addr} {C p g : Addr} {fs : List (Str × V)} {f : Str} {fd : FuncData} {ps : List Str} {sp : Sp} {e : Expr} {ta : TE} {fa : Ed} {c x qual : Str} {st : Stmt} {r : Rm} {m : Fd}
theorem getpropG_ok {pins : List (Addr × Obj)} {σ : L2.St} {H : Hp} {s : Shared} {Q : VK} {b : Bool} {E' : Value → Shared → Prop} (I : Inv X pins σ H s) (ea : H a = some (.ins C dx fs)) (c : Cls X.K C) (hp : PropOf X.K C f p g)
    (F : FnG X.prog X.w X.K X.mg X.base j g fd ps sp) (hr : Room (j + 1) X.A) (gd : X.A.guards = some []) (hb : ∀ s, BindsTo s fd ⟨[.ref a], []⟩ (ps.zip [.ref a])) (h : sp [.ref a] H Q (fun _ _ _ => False)) :
    wpAny (model X.prog X.w) X.A (getAttr (.ref a) f b) (EP X pins σ Q) E' s := by
  obtain ⟨mA, O, _, _, _, _⟩ := ins_get I.hok ea
  obtain ⟨od, J, _⟩ := O.look
  obtain ⟨rest, hrec⟩ := hp.rec_
  have I1 := I.tok (s.toks + 1)
  have hc : (PySem.W.clsIn X.K C).isSome = true := by
    obtain ⟨cd, hc, _⟩ := PySem.W.any_some c.hd
    rw [hc]
    rfl
  refine PySem.W.get_bind I.kIn J (PySem.W.plainGet_of (c.get f)).1 (PySem.W.findObj_data hc hp.at_ hp.get hp.tak) (PySem.W.plainGet_of (c.get f)).2 (wpAny_call (PySem.W.prop_get (s := { s with toks := s.toks + 1 }) I.kIn hrec ?_))
  refine codeAny_mono (F.run X.A.in1 X.stack { s with toks := s.toks + 1 } H ⟨[.ref a], []⟩ [.ref a] [.ref a] Q _ hr.in1 gd I1.env0.in1 (hb _) (.cons rfl .nil) h) fun r s' hq => ?_
  cases r with
  | error er =>
    obtain ⟨_, _, _, _, _, _, _, _, _, _, _, _, z⟩ := hq
    exact False.elim z
  | ok fl =>
    cases fl with
    | ret u =>
      obtain ⟨v, H', I3, rv, q3⟩ := I1.after hq
      show wpAny _ _ (handedOut u) _ _ _
      rw [PySem.W.handedOut_of (handed_of rv)]
      exact wpAny_pure ⟨v, H', I3, rv, q3⟩
    | next => exact False.elim hq
    | brk => exact False.elim hq
    | cont => exact False.elim hq
/-- a property of a class with what it gives -/
structure DPr (P : Program) (w : World) (K : PySem.W.Frag) (mg : Str → Option Value) (base : Heap) (k : Nat) (c x qual : Str) (st : Stmt) (ps : List Str) (r : Rm) (m : Fd) : Prop where
  ex : ∃ C p f fd, mg c = some (.ref C) ∧ Cls K C ∧ PropOf K C x p f ∧ Fun K x qual st f fd ∧ FnG P w K mg base k f fd ps (SpD mg K [.f] r m)
theorem dpr_of {P : Program} {w : World} {K : PySem.W.Frag} {mg : Str → Option Value} {base : Heap} {N : List Str} {fs : Fs} (Γ Γ' : List Md) (hf : ∃ C p f fd, mg c = some (.ref C) ∧ Cls K C ∧ PropOf K C x p f ∧ Fun K x qual st f fd) (S : FnScope N ps (defScope st)) (hp : [Ak.f].length = ps.length) (hl : Γ.length = N.length) (hk : [Ak.f].length ≤ N.length) (hm : modesOk [.f] Γ = true)
    (hb : ∀ (f : Addr) (cdv : Value) (A : Around) (outer : List Env) (s : Shared) (H : Hp) (E : XK), XOk (cxOf (L2.CX P w) P w K mg base N qual (defScope st) f cdv A outer s H E) E k →
      ∃ ts, DSs (cxOf (L2.CX P w) P w K mg base N qual (defScope st) f cdv A outer s H E) E r Γ Γ Γ' (defBody st) ts fs) :
    DPr P w K mg base (k + 1) c x qual st ps r (runD N.length r fs) := by
  obtain ⟨C, p, f, fd, h0, h1, h2, h3⟩ := hf
  exact ⟨C, p, f, fd, h0, h1, h2, h3, fnD_of Γ Γ' h3 S hp hl hk hm hb⟩
def isCls (c : Str) : D → Bool
  | .ins c' _ _ => decide (c' = c)
  | _ => false
def ePrp (c : Str) (m : Fd) (a : Ed) : Ed := fun ρ π => (a ρ π).bind fun y => if isCls c y.1 = true then safe (m [y.1] y.2) else .stuck
def tPrp (mg : Str → Option Value) (K : PySem.W.Frag) (c : Str) (r : Rm) (m : Fd) (ta : TE) : TE := fun σ H Q => ta σ H fun y H1 => ∃ b C dx fs, y = .ref b ∧ mg c = some (.ref C) ∧ H1 b = some (.ins C dx fs) ∧ SpD mg K [.f] r m [.ref b] H1 Q (fun _ _ _ => False)
theorem de_prop (F : DPr X.prog X.w X.K X.mg X.base j c x qual st ps r m) (o : XOk X E k)
    (hb : ∀ (kV doc pm : Value) (an : Option Addr) (cdv ct : Value) (us : List Value), us.length = ps.length → bindArgs (PySem.W.fnOf x qual (defArgs st) (defBody st) (defScope st) .none kV doc pm an cdv ct) ⟨us, []⟩ = pure (ps.zip us))
    {a' : Expr} (ha : DE X E .f Γ a' ta fa) (hj : j + 1 ≤ k := by decide) (hl : ps.length = 1 := by decide) (hab : attributeBase a' x X.env (eval a' X.env) = eval a' X.env := by rfl) : DE X E r Γ (.Attribute a' x pos) (tPrp X.mg X.K c r m ta) (ePrp c m fa) :=
  ⟨⟨fun pins s σ H Q I h => by
    obtain ⟨C, p, f, fd, h0, h1, h2, h3, h4⟩ := F.ex
    refine attr_of hab (thn (ha.pe.run pins s σ H _ I h) fun u s1 ⟨y, H1, I1, ry, b, C', dx, fs, ey, mC, eb, q⟩ => ?_)
    subst ey
    rw [h0] at mC
    cases mC
    obtain rfl : u = Value.ref b := ry
    refine getpropG_ok I1 eb h1 h2 h4 (o.room.mono hj) o.gd (fun s => ?_) q
    obtain ⟨oc, od, kV, doc, pm, an, cdv, ct, osl, rfl, lk, hcd⟩ := h3.ex
    exact .of_eq (hb kV doc pm an cdv ct [.ref b] (by rw [hl]; rfl))⟩, fun pot M σ H ρ π I p Q h => by
    refine Post.seq (r' := .f) (te := ta σ H) h p (fun Q' hq => ha.sem pot M σ H ρ π I p Q' hq) fun d π1 v H1 _ g1 p1 r1 h1 => ?_
    simp only at h1
    split at h1
    · rename_i hn
      cases d with
      | ins c' ns xs =>
        simp only [isCls, decide_eq_true_eq] at hn
        subst hn
        obtain ⟨b, C, dx, fs, rfl, mC, hb, rfl, rr⟩ := rb_ins (.inl r1 : Rb X.mg X.K pot M H1 v (.ins c' ns xs))
        refine ⟨b, C, dx, fs, rfl, mC, hb, rfl, pot, M, [_], π1, .cons (show Rp X.mg X.K (less H1 M) (.ref b) _ from r1) .nil, (I.grow g1 p1).al, I.pm, p1, ?_⟩
        cases em : m [.ins c' (fs.map (·.1)) xs] π1 with
        | ok z =>
          rw [em] at h1
          exact h1
        | err c ns xs π' =>
          rw [em] at h1
          exact h1.elim
        | stuck =>
          rw [em] at h1
          exact h1.elim
      | _ => cases hn
    · exact h1.elim⟩
end
section
variable {i j : Nat} {fx : Eo} {kk : D → Fs} {a : Ed} {m : Fd} {c : Str}
theorem pu_kdrop : ∀ d, PX (kDrop d) := fun d ρ => pa_ok _
theorem pu_kset : ∀ d, PX (kSet j d) := fun d ρ => pa_ok _
theorem pu_kapp : ∀ d, PX (kApp j d) := fun d ρ => by
  unfold kApp
  split
  · exact pa_ofO1
  · exact pa_st
theorem pu_popk (hx : PX fx) (hk : ∀ d, PX (kk d)) : PX (sPopK i fx kk) := fun ρ => by
  unfold sPopK
  split
  · refine pa_bind (hx _) fun x => ?_
    dsimp only
    apply pa_ofO
    intro y
    exact hk _ _
  · exact pa_st
theorem pu_popapp (hx : PX fx) : PX (sPopApp i fx j) := fun ρ => by
  unfold sPopApp
  split
  · exact pu_popk hx pu_kapp ρ
  · exact pa_st
theorem pu_prp (hm : PF m) (ha : PX a) : PX (ePrp c m a) := fun ρ => by
  unfold ePrp
  refine pa_bind (ha _) fun x => ?_
  dsimp only
  apply pa_if
  · exact pa_safe (hm _)
  · exact pa_st
end
end DL

set_option maxHeartbeats 2000000
/-! Defs with defaults. -/
namespace DL
open PySem PySem.Spec PyProof.Rows L2

/-- a default's worth: None or a number -/
def dv1 : D → V
  | .int i => .int i
  | _ => .non
def dOk : D → Bool
  | .int _ => true
  | .non => true
  | _ => false
/-- a def with defaults, as it stands behind the top -/
structure FunDd (K : PySem.W.Frag) (x : Str) (st : Stmt) (dd : List D) (f : Addr) (fd : FuncData) : Prop where
  ex : ∃ (oc : Value) (od : Option Addr) (T : Addr) (kV doc pm : Value) (an : Option Addr) (cdv ct : Value) (osl : Array (Option Value)) (its : List Value),
    fd = PySem.W.fnOf x x (defArgs st) (defBody st) (defScope st) (.ref T) kV doc pm an cdv ct ∧ K.lookup f = some ⟨oc, od, .func fd, osl⟩ ∧ PySem.W.codeIn K cdv x = true ∧ ∃ (o : Obj) (n : Nat), K.lookup T = some o ∧ o.data = .seq its.toArray n ∧ Vals (dd.map dv1) its
  kp : PySem.W.keepIn K (.ref f) = true
theorem fund_mk {K : PySem.W.Frag} {x : Str} {st : Stmt} {dd : List D} {f T : Addr} {oc : Value} {od : Option Addr} {kV doc pm : Value} {an : Option Addr} {cdv ct : Value} {osl : Array (Option Value)} {its : List Value} {ot : Value} {odt : Option Addr} {n : Nat} {slt : Array (Option Value)}
    (l : K.lookup f = some ⟨oc, od, .func (PySem.W.fnOf x x (defArgs st) (defBody st) (defScope st) (.ref T) kV doc pm an cdv ct), osl⟩) (c : PySem.W.codeIn K cdv x = true) (k : PySem.W.keepIn K (.ref f) = true)
    (t : K.lookup T = some ⟨ot, odt, .seq its.toArray n, slt⟩) (v : Vals (dd.map dv1) its) : FunDd K x st dd f (PySem.W.fnOf x x (defArgs st) (defBody st) (defScope st) (.ref T) kV doc pm an cdv ct) :=
  ⟨⟨oc, od, T, kV, doc, pm, an, cdv, ct, osl, its, rfl, l, c, _, n, t, rfl, v⟩, k⟩
structure DFnD (P : Program) (w : World) (K : PySem.W.Frag) (mg : Str → Option Value) (base : Heap) (k : Nat) (x : Str) (st : Stmt) (ps : List Str) (ks : List Ak) (r : Rm) (dd : List D) (m : Fd) : Prop where
  ex : ∃ f fd, mg x = some (.ref f) ∧ FunDd K x st dd f fd ∧ FnG P w K mg base k f fd ps (SpD mg K ks r m)
section
variable {P : Program} {w : World} {K : PySem.W.Frag} {mg : Str → Option Value} {base : Heap} {k : Nat} {x : Str} {st : Stmt} {ps N : List Str} {ks : List Ak} {r : Rm}
theorem dfn_ofD {fs : Fs} {dd : List D} (Γ Γ' : List Md) (hf : ∃ f fd, mg x = some (.ref f) ∧ FunDd K x st dd f fd) (S : FnScope N ps (defScope st)) (hp : ks.length = ps.length) (hl : Γ.length = N.length) (hk : ks.length ≤ N.length) (hm : modesOk ks Γ = true)
    (hr : (r = .f ∨ r = .o) ∨ r = .t)
    (hb : ∀ (f : Addr) (cdv : Value) (A : Around) (outer : List Env) (s : Shared) (H : Hp) (E : XK), XOk (cxOf (L2.CX P w) P w K mg base N x (defScope st) f cdv A outer s H E) E k →
      ∃ ts, DSs (cxOf (L2.CX P w) P w K mg base N x (defScope st) f cdv A outer s H E) E r Γ Γ Γ' (defBody st) ts fs) :
    DFnD P w K mg base (k + 1) x st ps ks r dd (runD N.length r fs) := by
  obtain ⟨f, fd, h1, h2⟩ := hf
  refine ⟨f, fd, h1, h2, ?_⟩
  obtain ⟨oc, od, T, kV, doc, pm, an, cdv, ct, osl, its, rfl, lk, hcd, _⟩ := h2.ex
  refine fn_ofG lk hcd S (fun vs H Q E h => by rw [h.1, hp]) fun A outer s H vs Q E room gd want => ?_
  obtain ⟨_, pot, M, ds, π, ar, al, pm, pt, post⟩ := want
  have o : XOk (cxOf (L2.CX P w) P w K mg base N x (defScope st) f cdv A outer s H E) E k :=
    ⟨room, gd, rfl, passes_call (takes_of rfl rfl rfl rfl) fun _ _ _ _ z => z, passes_of rfl, S.nd⟩
  obtain ⟨ts, B⟩ := hb f cdv A outer s H E o
  refine ⟨ts, B.pss, ?_⟩
  have I := env_start hm hl hk ar al pm
  refine B.sem pot M H (fun _ => none) M _ H _ π _ ⟨I, .refl, fun a h => h, fun i d a h1 h2 h3 => ?_, al, fun a u e => by cases e⟩ pt ?_
  · exfalso
    obtain ⟨k', v, q1, _⟩ := ar.at (startD_at h2)
    obtain ⟨m1, _⟩ := Bool.and_eq_true_iff.mp hm
    have m1 := of_decide_eq_true m1
    have hi := (List.getElem?_eq_some_iff.mp q1).1
    have e : (Γ.take ks.length)[i]? = Γ[i]? := List.getElem?_take_of_lt hi
    rw [h1, m1, List.getElem?_map, q1] at e
    cases k' <;> cases e
  · unfold runD at post
    cases ef : fs (startD N.length ds) π with
    | err c ns xs π' =>
      rw [ef] at post
      exact post
    | stuck =>
      rw [ef] at post
      exact post
    | ok y =>
      obtain ⟨y, π1⟩ := y
      rw [ef] at post
      cases y with
      | rt d => exact fun v H' g p q => post v H' g p q
      | nx ρ =>
        simp only [Res.bind_ok] at post
        split at post
        · rename_i hrf
          subst hrf
          exact fun M' σ' H' S' p' => post .non H' S'.gr p' .non
        · exact post.elim
      | bk ρ => exact post.elim
      | ct ρ => exact post.elim
end
section
variable {X : Cx} {E : XK} {Γ : List Md} {r : Rm} {e : Expr} {es : List Expr} {pos p : Pos} {k j : Nat} {ks ks' : List Ak} {tA : TA} {fA : Ea} {x : Str} {st : Stmt} {ps : List Str} {m : Fd} {dd : List D}
def tGoD (mg : Str → Option Value) (K : PySem.W.Frag) (dd : List D) (ks : List Ak) (r : Rm) (m : Fd) (E : XK) (t : TA) : TE := fun σ H Q => t σ H fun vs H1 => SpD mg K ks r m (vs ++ dd.map dv1) H1 Q E
def eGoD (dd : List D) (m : Fd) (a : Ea) : Ed := fun ρ π => (a ρ π).bind fun x => m (x.1 ++ dd) x.2
theorem args_dd {mg : Str → Option Value} {K : PySem.W.Frag} {pot : Option Addr} {M : List Addr} {H : Hp} : ∀ {dd : List D}, dd.all dOk = true → Args mg K pot M H (dd.map fun _ => Ak.f) (dd.map dv1) dd
  | [], _ => .nil
  | d :: dd, h => by
    simp only [List.all_cons, Bool.and_eq_true] at h
    refine .cons ?_ (args_dd h.2)
    cases d <;> simp [dOk] at h
    · exact Rp.non
    · exact Rp.int _
theorem args_app {mg : Str → Option Value} {K : PySem.W.Frag} {pot : Option Addr} {M : List Addr} {H : Hp} : ∀ {ks ks' : List Ak} {vs vs' : List V} {ds ds' : List D}, Args mg K pot M H ks vs ds → Args mg K pot M H ks' vs' ds' → Args mg K pot M H (ks ++ ks') (vs ++ vs') (ds ++ ds')
  | _, _, _, _, _, _, .nil, b => b
  | _, _, _, _, _, _, .cons a as, b => .cons a (args_app as b)
theorem sem_goD (hd : dd.all dOk = true) (hA : SemA X.mg X.K E ks Γ tA fA) : SemE X.mg X.K E r Γ (tGoD X.mg X.K dd (ks ++ dd.map fun _ => Ak.f) r m E tA) (eGoD dd m fA) := fun pot M σ H ρ π I p Q h => by
  refine PostA.seq (ks := ks) (te := tA σ H) h p (fun Q' hq => hA pot M σ H ρ π I p Q' hq) fun ds π1 vs H1 _ g1 p1 r1 h1 => ?_
  have a := args_app r1 (args_dd (mg := X.mg) (K := X.K) (pot := pot) (M := M) (H := H1) hd)
  exact ⟨a.length, pot, M, _, π1, a, (I.grow g1 p1).al, I.pm, p1, h1⟩
/-- f(e, ..): the last ones by their defaults -/
theorem de_callD (n j' : Nat) (F : DFnD X.prog X.w X.K X.mg X.base j x st ps (ks ++ (dd.drop j').map fun _ => Ak.f) r dd m) (o : XOk X E k)
    (hb : ∀ (T : Addr) (kV doc pm : Value) (an : Option Addr) (cdv ct : Value) (us its : List Value), us.length = n → its.length = dd.length →
      ∃ k, bindArgs (PySem.W.fnOf x x (defArgs st) (defBody st) (defScope st) (.ref T) kV doc pm an cdv ct) ⟨us, []⟩ = seqItems? (.ref T) >>= k ∧ k (some its.toArray) = pure (ps.zip (us ++ its.drop j')))
    (hA : DA X E ks Γ (e :: es) tA fA) (hd : (dd.drop j').all dOk = true := by rfl) (hn : n + (dd.drop j').length = ps.length := by rfl) (hj : j ≤ k := by decide) (hg : Gl X x := by rfl) (hdb : (x == ("__debug__" : Str)) = false := by decide) (he : starEach (e :: es) X.env = (false, eval e X.env) :: starEach es X.env := by rfl) (hpl : (backTo pos (starEach es X.env)).any (·.1) = false := by rfl) :
    DE X E r Γ (.Call (.Name x p) (e :: es) [] pos) (tGoD X.mg X.K (dd.drop j') (ks ++ (dd.drop j').map fun _ => Ak.f) r m E tA) (eGoD (dd.drop j') m fA) :=
  ⟨⟨fun pins s σ H Q I h => by
    obtain ⟨f, fd, h1, h2, h3⟩ := F.ex
    refine wpAny_Call_Name_kw (ld_glob I hg h1 ?_ hdb)
    refine PySem.W.callWith_K (h₀ := X.base) I.ok.mod.kin h2.kp (thn (hA.pa.run pos pins s σ H _ I h) fun us s1 ⟨vs, H1, I1, rl, q⟩ => ⟨I1.kIn, ?_⟩) he hpl
    have hl := h3.len _ _ _ _ q
    rw [List.length_append, List.length_map, rl.length] at hl
    have hl' : us.length = n := by omega
    obtain ⟨oc, od, T, kV, doc, pm, an, cdv, ct, osl, its, rfl, lk, hcd, ob, nn, lT, oT, rT⟩ := h2.ex
    have l1 : its.length = dd.length := by rw [← rT.length, List.length_map]
    have bd : BindsTo s1 (PySem.W.fnOf x x (defArgs st) (defBody st) (defScope st) (.ref T) kV doc pm an cdv ct) ⟨us, []⟩ (ps.zip (us ++ its.drop j')) := by
      obtain ⟨kk, e1, e2⟩ := hb T kV doc pm an cdv ct us its hl' l1
      refine BindsTo.of_looks fun M => ?_
      rw [e1]
      exact looks_items I1.kIn lT oT (.of_pure e2)
    have rl' : Vals (vs ++ (dd.drop j').map dv1) (us ++ its.drop j') := by
      rw [List.map_drop]; exact rl.append (rT.drop j')
    refine wpAny_call (codeAny_mono (h3.run X.A X.stack s1 H1 _ (us ++ its.drop j') _ Q E (o.room.mono hj) o.gd I1.env0 bd rl' q) fun res s' z => ?_)
    match res, z with
    | .error e, z => exact o.pass pins σ H1 s1 e s' I1 z
    | .ok (.ret u), z => exact I1.after z⟩, sem_goD hd hA.sem⟩
variable {hm : Fd}
theorem pu_goD (hm : PF m) (hx : PX fA) : PX (eGoD dd m fA) := by
  intro ρ
  unfold eGoD
  refine pa_bind (hx _) fun x => ?_
  exact hm (x ++ dd)
end
end DL

set_option maxHeartbeats 2000000
/-! Lists unpacked. -/
namespace DL
open PySem PySem.Spec PyProof.Rows L2

def gL (n : Nat) (b : List D → Rho → Option Rho) : D → Rho → Option Rho := fun d ρ => match d with
  | .lst ds => if ds.length = n then b ds ρ else none
  | _ => none
section
variable {X : Cx} {E : XK} {Γ : List Md} {pos : Pos} {k : Nat}
theorem dg_lst {es : List Expr} {is : List Nat} {gs : TGs} {fgs : List D → Rho → Option Rho} {kk : Nat} (hc : X.calm = true) (b : DGs X Γ es is gs fgs)
    (hn : (assignEach es X.env).length = es.length := by rfl) (hst : (assignEach es X.env).findIdx? (·.1) = none := by rfl) : DG X Γ (.Tuple es kk pos) is (gLst X.K es.length gs) (gL es.length fgs) :=
  ⟨pg_lst hc b.pgs hn hst, b.fs, fun pot M σ H ρ v d I r ρ' h Q q => by
    cases d with
    | lst ds =>
      unfold gL at h
      simp only at h
      split at h
      · rename_i hl
        cases r with
        | lst h1 h2 =>
          exact ⟨_, _, rfl, .inl (.inl (less_le _ _ h1)), by rw [h2.length]; exact hl, b.sem pot M σ H ρ _ ds I h2 ρ' h Q q⟩
      · cases h
    | _ => cases h⟩
@[simp] theorem gL_ap (n : Nat) (b : List D → Rho → Option Rho) (ds : List D) (ρ : Rho) : gL n b (.lst ds) ρ = if ds.length = n then b ds ρ else none := rfl
end
end DL

set_option maxHeartbeats 2000000
/-! More builtins. -/
namespace DL
open PySem PySem.Spec PyProof.Rows L2

def fBool : List D → Option D
  | [.int i] => some (.bl (i != 0))
  | [.bl k] => some (.bl k)
  | _ => none
def fIntA : List D → Option D
  | [.int i] => some (.int i)
  | [.bl k] => some (.int (if k then 1 else 0))
  | _ => none
section
variable {X : Cx} {E : XK} {k : Nat}
theorem rb_bl' {mg : Str → Option Value} {K : PySem.W.Frag} {pot : Option Addr} {M : List Addr} {H : Hp} {v : V} {b : Bool} (h : Rb mg K pot M H v (.bl b)) : v = .bl b := by
  rcases h with h | ⟨p, e, _, o, h1, h2⟩
  · cases h; rfl
  · cases h2
theorem c_bool : CallOk X (.type "bool") (fun xs H Q => (∃ i, xs = [.int i] ∧ Q (.bl (i != 0)) H) ∨ ∃ k, xs = [.bl k] ∧ Q (.bl k) H) [.b] .f fBool := ⟨call_bool1, fun pot M H vs ds z al pm ph a hz Q q => by
  obtain ⟨v, d, rfl, rfl, h⟩ := arg1 a
  cases d <;> simp [fBool] at hz
  · subst hz
    exact .inr ⟨_, by rw [rb_bl' h], q _ H (Same.refl H) (.bl _)⟩
  · subst hz
    exact .inl ⟨_, by rw [rb_int h], q _ H (Same.refl H) (.bl _)⟩⟩
theorem c_intA : CallOk X (.type "int") (fun xs H Q => (∃ i, xs = [.int i] ∧ Q (.int i) H) ∨ ∃ k, xs = [.bl k] ∧ Q (.int (if k then 1 else 0)) H) [.b] .f fIntA := ⟨call_int1, fun pot M H vs ds z al pm ph a hz Q q => by
  obtain ⟨v, d, rfl, rfl, h⟩ := arg1 a
  cases d <;> simp [fIntA] at hz
  · subst hz
    exact .inr ⟨_, by rw [rb_bl' h], q _ H (Same.refl H) (.int _)⟩
  · subst hz
    exact .inl ⟨_, by rw [rb_int h], q _ H (Same.refl H) (.int _)⟩⟩
end
end DL

set_option maxHeartbeats 2000000
/-! isinstance of builtins, asked of own objects, too. -/
namespace DL
open PySem PySem.Spec PyProof.Rows L2 C8

theorem kit_own {K : PySem.W.Frag} {C : Addr} {T : String} {b : Bool} (m : PySem.W.kitMeta T = true) (s : PySem.W.subIn K (.ref C) (.type T) = some b) : PySem.W.kitOne K (.ref C) (.type T) = some b := by
  unfold PySem.W.kitOne
  rw [if_neg (by intro h; cases h)]
  unfold PySem.W.kitCls
  simp only [m, if_true]
  exact s
/-- own classes that are below none of these builtins -/
structure ClsT (K : PySem.W.Frag) (mg : Str → Option Value) (cs : List Str) : Prop where
  ex : ∀ c' ∈ cs, ∃ C', mg c' = some (.ref C') ∧ InsC K C' ∧ ∀ n ∈ tyNames, PySem.W.kitOne K (.ref C') (.type n) = some false
def fIsA (cs : List Str) (ns : List String) (d : D) : Option D := match d with
  | .ins c' _ _ => if c' ∈ cs then some (.bl false) else none
  | _ => fIs ns d
theorem fIsA_ty {cs : List Str} {ns : List String} {d : D} {n : String} (h : tyName d = some n) : fIsA cs ns d = fIs ns d := by
  cases d <;> first | rfl | cases h
theorem kitAny_false {K : PySem.W.Frag} {C : Addr} (h : ∀ n ∈ tyNames, PySem.W.kitOne K (.ref C) (.type n) = some false) : ∀ {bs : List String}, (∀ b ∈ bs, b ∈ tyNames) → PySem.W.kitAny K (.ref C) (bs.map Value.type) = some false
  | [], _ => kitAny_nil
  | b :: bs, hb => kitAny_cons (h b (hb b (by simp))) (fun _ => kitAny_false h fun x hx => hb x (by simp [hx])) fun e => by cases e
section
variable {X : Cx} {E : XK} {Γ : List Md} {ra : Rm} {a : Expr} {ta : TE} {fa : Ed} {pos p : Pos}
theorem de_isiA {x : Str} {T : String} {px : Pos} (cs : List Str) (hC : ClsT X.K X.mg cs) (hm : X.mg "isinstance" = none) (hmT : X.mg x = none) (ha : DE X E ra Γ a ta fa) (hg : Gl X "isinstance" := by rfl) (hgT : Gl X x := by rfl) (hvT : bootBuiltins x = some (.type T) := by decide +kernel) (hT : tyOkB T = true := by decide +kernel) (hTn : T ∈ tyNames := by decide +kernel)
    (hn : x ≠ "__name__" := by decide) (hdb : (x == ("__debug__" : Str)) = false := by decide) (hs : starEach [a, .Name x px] X.env = (false, eval a X.env) :: starEach [.Name x px] X.env := by rfl) (hs2 : starEach [.Name x px] X.env = (false, eval (.Name x px) X.env) :: starEach [] X.env := by rfl)
    (hpl : (backTo pos (starEach [.Name x px] X.env)).any (·.1) = false := by rfl) :
    DE X E .f Γ (.Call (.Name "isinstance" p) [a, .Name x px] [] pos) (tCB (rIsi X.K) (tCons ta (tCons (tC (.ty T)) tNil))) (eUn (fIsA cs [T]) fa) :=
  ⟨pe_callB call_isi hg hm (by decide +kernel) (pa_cons ha.pe (pa_cons (pe_bltn hgT hmT hvT rfl hn hdb) pa_nil hs2) hs) (by decide) (by decide) hs hpl, fun pot M σ H ρ π I p Q h => by
    refine Post.seq (r' := ra) (te := ta σ H) h p (fun Q' hq => ha.sem pot M σ H ρ π I p Q' hq) fun d π1 v H1 _ g1 p1 r1 h1 => ?_
    cases et : tyName d with
    | none =>
      cases d with
      | ins c' ns xs =>
        simp only [fIsA] at h1
        split at h1
        · rename_i hin
          rw [ofO_some, Res.bind_ok] at h1
          obtain ⟨y, C1, dx, gs, rfl, m, hy, rfl, rr⟩ := rb_ins r1.toB
          obtain ⟨C', m', ic, k1⟩ := hC.ex c' hin
          rw [m] at m'
          cases m'
          exact ⟨.ref y, .ty T, .ref C1, .type T, _, rfl, .ty T, .base (.ins hy ic.cl ic.ha ic.hn ic.htk ic.hm), k1 T hTn, h1 _ H1 .refl p1 (.bl _)⟩
        · rw [ofO_none, Res.bind_stuck] at h1
          exact h1.elim
      | _ => cases et
    | some n =>
      rw [fIsA_ty et] at h1
      simp only [fIs, et, Option.map_some, ofO_some, Res.bind_ok] at h1
      refine ⟨v, .ty T, .type n, .type T, isTyB n T, rfl, .ty T, rb_ty r1.toB et, kit_name et hT, ?_⟩
      have e1 : ([T].any fun b => isTyB n b) = isTyB n T := by simp
      rw [e1] at h1
      exact h1 _ H1 .refl p1 (.bl _)⟩
theorem de_isi2A {x y : Str} {T U : String} {px py pt : Pos} {j : Nat} (cs : List Str) (hC : ClsT X.K X.mg cs) (hm : X.mg "isinstance" = none) (hmT : X.mg x = none) (hmU : X.mg y = none) (ha : DE X E ra Γ a ta fa) (hg : Gl X "isinstance" := by rfl) (hgT : Gl X x := by rfl) (hgU : Gl X y := by rfl) (hvT : bootBuiltins x = some (.type T) := by decide +kernel) (hvU : bootBuiltins y = some (.type U) := by decide +kernel) (hT : [T, U].all tyOkB = true := by decide +kernel) (hTn : ∀ b ∈ [T, U], b ∈ tyNames := by decide +kernel)
    (hn : x ≠ "__name__" := by decide) (hdb : (x == ("__debug__" : Str)) = false := by decide) (hnU : y ≠ "__name__" := by decide) (hdbU : (y == ("__debug__" : Str)) = false := by decide)
    (hs : starEach [a, .Tuple [.Name x px, .Name y py] j pt] X.env = (false, eval a X.env) :: starEach [.Tuple [.Name x px, .Name y py] j pt] X.env := by rfl) (hs2 : starEach [.Tuple [.Name x px, .Name y py] j pt] X.env = (false, eval (.Tuple [.Name x px, .Name y py] j pt) X.env) :: starEach [] X.env := by rfl)
    (hs3 : starEach [.Name x px, .Name y py] X.env = (false, eval (.Name x px) X.env) :: starEach [.Name y py] X.env := by rfl) (hs4 : starEach [.Name y py] X.env = (false, eval (.Name y py) X.env) :: starEach [] X.env := by rfl)
    (hpl : (backTo pos (starEach [.Tuple [.Name x px, .Name y py] j pt] X.env)).any (·.1) = false := by rfl) :
    DE X E .f Γ (.Call (.Name "isinstance" p) [a, .Tuple [.Name x px, .Name y py] j pt] [] pos) (tCB (rIsiT X.K) (tCons ta (tCons (tTup (tCons (tC (.ty T)) (tCons (tC (.ty U)) tNil))) tNil))) (eUn (fIsA cs [T, U]) fa) :=
  ⟨pe_callB call_isiT hg hm (by decide +kernel) (pa_cons ha.pe (pa_cons (pe_tup (pa_cons (pe_bltn hgT hmT hvT rfl hn hdb) (pa_cons (pe_bltn hgU hmU hvU rfl hnU hdbU) pa_nil hs4) hs3)) pa_nil hs2) hs) (by decide) (by decide) hs hpl, fun pot M σ H ρ π I p Q h => by
    refine Post.seq (r' := ra) (te := ta σ H) h p (fun Q' hq => ha.sem pot M σ H ρ π I p Q' hq) fun d π1 v H1 _ g1 p1 r1 h1 => ?_
    cases et : tyName d with
    | none =>
      cases d with
      | ins c' ns xs =>
        simp only [fIsA] at h1
        split at h1
        · rename_i hin
          rw [ofO_some, Res.bind_ok] at h1
          refine ⟨by show 2 ≤ sizeLine; rw [sizeLine_eq]; omega, fun l hn => ?_⟩
          obtain ⟨y, C1, dx, gs, rfl, m, hy, rfl, rr⟩ := rb_ins r1.toB
          obtain ⟨C', m', ic, k1⟩ := hC.ex c' hin
          rw [m] at m'
          cases m'
          have hy' : upd H1 l (.tup ([T, U].map V.ty)) y = some (.ins C1 dx gs) := by
            rw [upd_ne (ne_of_none hy hn)]
            exact hy
          exact ⟨.ref y, l, [T, U].map V.ty, .ref C1, [T, U].map Value.type, _, rfl, upd_same, cls_all _, .base (.ins hy' ic.cl ic.ha ic.hn ic.htk ic.hm), kitAny_false k1 hTn, h1 _ _ (.new hn) (p1.new hn) (.bl _)⟩
        · rw [ofO_none, Res.bind_stuck] at h1
          exact h1.elim
      | _ => cases et
    | some n =>
      rw [fIsA_ty et] at h1
      simp only [fIs, et, Option.map_some, ofO_some, Res.bind_ok] at h1
      refine ⟨by show 2 ≤ sizeLine; rw [sizeLine_eq]; omega, fun l hn => ?_⟩
      refine ⟨v, l, [T, U].map V.ty, .type n, [T, U].map Value.type, _, rfl, upd_same, cls_all _, ?_, kit_names et hT, h1 _ _ (.new hn) (p1.new hn) (.bl _)⟩
      exact rb_ty (r1.toB.grow I.pm (.new hn)) et⟩
end
@[simp] theorem fIsA_non (cs : List Str) (ns : List String) : fIsA cs ns .non = some (.bl (ns.any fun b => isTyB "NoneType" b)) := rfl
@[simp] theorem fIsA_bl (cs : List Str) (ns : List String) (i : Bool) : fIsA cs ns (.bl i) = some (.bl (ns.any fun b => isTyB "bool" b)) := rfl
@[simp] theorem fIsA_int (cs : List Str) (ns : List String) (i : Int) : fIsA cs ns (.int i) = some (.bl (ns.any fun b => isTyB "int" b)) := rfl
@[simp] theorem fIsA_str (cs : List Str) (ns : List String) (i : Str) : fIsA cs ns (.str i) = some (.bl (ns.any fun b => isTyB "str" b)) := rfl
@[simp] theorem fIsA_lst (cs : List Str) (ns : List String) (i : List D) : fIsA cs ns (.lst i) = some (.bl (ns.any fun b => isTyB "list" b)) := rfl
@[simp] theorem fIsA_tup (cs : List Str) (ns : List String) (i : List D) : fIsA cs ns (.tup i) = some (.bl (ns.any fun b => isTyB "tuple" b)) := rfl
@[simp] theorem fIsA_dic (cs : List Str) (ns : List String) (a : List DKey) (i : List D) : fIsA cs ns (.dic a i) = some (.bl (ns.any fun b => isTyB "dict" b)) := rfl
@[simp] theorem fIsA_ins (cs : List Str) (ns : List String) (c : Str) (a : List Str) (i : List D) : fIsA cs ns (.ins c a i) = if c ∈ cs then some (.bl false) else none := rfl
end DL

set_option maxHeartbeats 2000000
/-! str of ints, too. -/
namespace DL
open PySem PySem.Spec PyProof.Rows L2

def fStrA : List D → Option D
  | [.int i] => if i.natAbs.log2 < 1920 then some (.str (Str.ofString (toString i))) else none
  | ds => fStr ds
section
variable {X : Cx} {E : XK} {k : Nat}
theorem c_strA (x : XOk X E k) : CallOk X (.type "str") (fun xs H Q => rStrL X.K xs H Q ∨ ∃ i, xs = [.int i] ∧ i.natAbs.log2 < 1920 ∧ Q (.str (toString i)) H) [.b] .f fStrA := ⟨(cr_strL x).or call_str_int, fun pot M H vs ds z al pm ph a hz Q q => by
  obtain ⟨v, d, rfl, rfl, h⟩ := arg1 a
  cases d with
  | int i =>
    simp only [fStrA] at hz
    split at hz
    · rename_i hi
      cases hz
      exact .inr ⟨i, by rw [rb_int h], hi, q _ H (Same.refl H) (.str _)⟩
    · cases hz
  | lst xs => exact .inl ((c_strL x).2 pot M H [v] _ z al pm ph a hz Q q)
  | tup xs => exact .inl ((c_strL x).2 pot M H [v] _ z al pm ph a hz Q q)
  | _ => cases hz⟩
end
@[simp] theorem fStrA_lst (xs : List D) : fStrA [.lst xs] = fStr [.lst xs] := rfl
@[simp] theorem fStrA_tup (xs : List D) : fStrA [.tup xs] = fStr [.tup xs] := rfl
end DL

set_option maxHeartbeats 2000000
/-! New tuples of new lists. -/
namespace DL
open PySem PySem.Spec PyProof.Rows L2
section
variable {X : Cx} {E : XK} {Γ Γl Γ' : List Md} {r : Rm} {a b : Expr} {ta tb : TE} {fa fb : Ed} {pos p : Pos}
theorem DE.tF (h : DE X E .t Γ a ta fa) : DE X E .f Γ a ta fa := ⟨h.pe, fun pot M σ H ρ π I p Q q => by
  refine h.sem pot M σ H ρ π I p Q ?_
  cases e : fa ρ π with
  | ok y =>
    rw [e] at q
    exact fun v H' g p' y => q v H' g p' (ownT_f y)
  | err c ns xs π' =>
    rw [e] at q
    exact q
  | stuck =>
    rw [e] at q
    exact q⟩
/-- a new list out of a new tuple -/
theorem de_ixT (k : Int) (ha : DE X E .t Γ a ta fa) (hb : DE X E .f Γ b tb (eC (.int k))) (hs : PlainIx b := by intro _ _; rfl) : DE X E .o Γ (.Subscript a b pos) (tOp (rIx X.K) ta tb) (eBin opIx fa (eC (.int k))) :=
  ⟨pe_ix ix_seq ha.pe hb.pe hs, fun pot M σ H ρ π I p Q h => by
    refine (show ta σ H (fun x H1 => tb σ H1 fun y H2 => rIx X.K x y H2 Q) from ?_)
    refine ha.sem pot M σ H ρ π I p _ ?_
    unfold eBin at h
    cases e : fa ρ π with
    | err c ns xs π' =>
      rw [e] at h
      exact h
    | stuck =>
      rw [e] at h
      exact h
    | ok y =>
      obtain ⟨d, π1⟩ := y
      rw [e] at h
      intro v H1 g1 p1 ow
      obtain ⟨q, ps, ds, rfl, rfl, h1, h2, h3, h4, h5, h7, h6⟩ := ow
      refine hb.sem pot M σ H1 ρ π1 (I.grow g1 p1) p1 _ ?_
      intro y H2 g2 p2 ry
      have hy := rb_int (RpR.toB (r := .f) ry)
      subst hy
      have h' : Post X.mg X.K .o pot M H ((ofO (L2.atI ds k)).bind fun z => .ok (z, π1)) Q E := h
      cases ez : L2.atI ds k with
      | none =>
        rw [ez] at h'
        exact h'.elim
      | some z =>
        rw [ez] at h'
        unfold L2.atI at ez
        simp only [Option.bind_eq_some_iff] at ez
        obtain ⟨j, j1, j2⟩ := ez
        have hj : j < ps.length := by
          have := (List.getElem?_eq_some_iff.mp j2).1
          omega
        have jp := List.getElem?_eq_getElem hj
        obtain ⟨a1, a2, a3, o, a4, a5⟩ := h6 j _ z jp j2
        have hq2 : H2 q = some (.tup (ps.map V.ref)) := g2 q _ h7 h1
        refine .inr (.inl ⟨q, ps.map V.ref, k, .ref ps[j], rfl, rfl, .inl (.inl hq2), ?_, ?_⟩)
        · unfold L2.atI
          rw [List.length_map, ← h5, j1]
          show (ps.map V.ref)[j]? = _
          rw [List.getElem?_map, jp]; rfl
        · refine h' _ H2 (g1.trans g2) p2 ⟨_, rfl, a2, a1, o, g2 _ _ a1 a4, ?_⟩
          refine (a5.mono (less_sub fun x hx => ?_)).mono (less_grow (fun x hx => List.mem_cons_of_mem _ (I.pm x hx)) g2)
          rcases List.mem_cons.mp hx with z | hx
          · rw [z]; exact List.mem_append_left _ (List.getElem_mem hj)
          · exact List.mem_append_right _ hx⟩
/-- two own lists are handed back in a tuple -/
theorem ds_rett (i j : Nat) {x y : Str} {px py pt : Pos} {kk : Nat} (hij : i ≠ j := by decide) (hNi : X.N[i]? = some x := by rfl) (hNj : X.N[j]? = some y := by rfl) (hi : Γ[i]? = some .o := by rfl) (hj : Γ[j]? = some .o := by rfl)
    (hvx : Vis X.env.scope x := by first | exact Or.inl rfl | exact Or.inr (Or.inl rfl) | exact Or.inr (Or.inr rfl)) (hvy : Vis X.env.scope y := by first | exact Or.inl rfl | exact Or.inr (Or.inl rfl) | exact Or.inr (Or.inr rfl))
    (hd : (x == ("__debug__" : Str)) = false := by decide) (hcd : (x == ("__classdict__" : Str)) = false := by decide) (hdy : (y == ("__debug__" : Str)) = false := by decide) (hcdy : (y == ("__classdict__" : Str)) = false := by decide)
    (hs : starEach [.Name x px, .Name y py] X.env = (false, eval (.Name x px) X.env) :: starEach [.Name y py] X.env := by rfl) (hs2 : starEach [.Name y py] X.env = (false, eval (.Name y py) X.env) :: starEach [] X.env := by rfl) :
    DS X E .t Γl Γ Γ' (.Return (some (.Tuple [.Name x px, .Name y py] kk pt)) pos) (tRet (tTup (tCons (tVar i) (tCons (tVar j) tNil)))) (sRet (eTup (aCons (eVar i) (aCons (eVar j) aNil)))) :=
  ⟨ps_ret (pe_tup (pa_cons (pe_var hNi hvx hd hcd) (pa_cons (pe_var hNj hvy hdy hcdy) pa_nil hs2) hs)), fun pot M0 H0 B M σ H ρ π DD S p h => by
    unfold sRet eTup at h
    simp only [aCons, aNil, eVar] at h
    cases eri : ρ[i]? with
    | none =>
      rw [eri] at h
      exact h.elim
    | some od =>
      cases od with
      | none =>
        rw [eri] at h
        exact h.elim
      | some d =>
        cases erj : ρ[j]? with
        | none =>
          rw [eri, erj] at h
          exact h.elim
        | some oe =>
          cases oe with
          | none =>
            rw [eri, erj] at h
            exact h.elim
          | some e =>
            rw [eri, erj] at h
            obtain ⟨a, ea, ma, na, oa, a1, a2⟩ := S.env.o i d hi eri
            obtain ⟨b, eb, mb, nb, ob, b1, b2⟩ := S.env.o j e hj erj
            have hz : ([d, e] : List D).length ≤ sizeLine := by rw [sizeLine_eq]; simp
            have h' : ∀ v H', Grow pot H0 H' → PotAt pot H' π → RpR X.mg X.K .t pot M0 H0 H' v (.tup [d, e]) → DD.rt v H' := by
              have : PostS X.mg X.K .t Γl Γ' pot M0 H0 B (((if ([d, e] : List D).length ≤ sizeLine then (.ok (D.tup [d, e], π) : Res (D × Pot)) else .stuck)).bind fun x => .ok (.rt x.1, x.2)) DD E := h
              rw [if_pos hz] at this
              exact this
            have hab : a ≠ b := fun z => hij (S.env.ap i j a d e hi hj eri erj ea (by rw [z]; exact eb))
            refine ⟨_, ea, _, eb, hz, fun q hn => h' _ _ (S.gr.trans (.new hn)) (p.new hn) ?_⟩
            have hqM : q ∉ M := fun z => S.env.al q z hn
            have n1 : a ≠ q := fun z => hqM (z ▸ ma)
            have n2 : b ≠ q := fun z => hqM (z ▸ mb)
            have hq0 : H0 q = none := by
              cases z : H0 q with
              | none => rfl
              | some o =>
                by_cases hpq : pot = some q
                · exact absurd (S.env.pm q hpq) hqM
                · rw [S.gr q o hpq z] at hn; cases hn
            have sub : Same (less H M) (less (upd H q (.tup [V.ref a, V.ref b])) ([a, b] ++ M0)) := fun c o hc => by
              obtain ⟨c1, c2⟩ := less_some.mp hc
              refine less_some.mpr ⟨fun z => ?_, ?_⟩
              · rcases List.mem_append.mp z with z | z
                · simp at z
                  rcases z with z | z
                  · exact c1 (z ▸ ma)
                  · exact c1 (z ▸ mb)
                · exact c1 (S.sub c z)
              · rw [upd_ne (fun z => by rw [z, hn] at c2; cases c2)]; exact c2
            have self : ∀ x, x ∈ M → Same (less H (x :: M)) (less H M) := fun x hx => less_sub fun c hc => List.mem_cons_of_mem _ hc
            refine ⟨q, [a, b], [d, e], rfl, rfl, upd_same, hq0, fun z => hqM (S.sub q z), ?_, rfl, fun z => hqM (S.env.pm q z), fun i' p' e' g1 g2 => ?_⟩
            · simp; exact ⟨fun z => n1 z.symm, fun z => n2 z.symm⟩
            · match i' with
              | 0 =>
                simp at g1 g2
                subst g1 g2
                exact ⟨na, S.ow i d a hi eri ea, fun z => S.m0 a z (S.ow i d a hi eri ea), oa, by rw [upd_ne n1]; exact a1, (a2.mono (self a ma)).mono sub⟩
              | 1 =>
                simp at g1 g2
                subst g1 g2
                exact ⟨nb, S.ow j e b hj erj eb, fun z => S.m0 b z (S.ow j e b hj erj eb), ob, by rw [upd_ne n2]; exact b1, (b2.mono (self b mb)).mono sub⟩
              | i' + 2 => simp at g1⟩
end
end DL

set_option maxHeartbeats 2000000
/-! Own lists looked at: what comes is an atom. -/
namespace DL
open PySem PySem.Spec PyProof.Rows L2

def atomD : D → Bool
  | .non | .bl _ | .int _ | .str _ => true
  | _ => false
def lookM : Md → Md
  | .o => .f
  | m => m
def eAtom (fe : Ed) : Ed := fun ρ π => match fe ρ π with
  | .ok x => if atomD x.1 = true then .ok x else .stuck
  | _ => .stuck
theorem rp_atom {mg : Str → Option Value} {K : PySem.W.Frag} {H H' : Hp} {v : V} {d : D} (ha : atomD d = true) (h : Rp mg K H v d) : Rp mg K H' v d := by
  cases h with
  | non => exact .non
  | bl b => exact .bl b
  | int i => exact .int i
  | str x => exact .str x
  | lst => cases ha
  | tup => cases ha
  | dicK => cases ha
  | dicT => cases ha
  | ins => cases ha
theorem env_look {mg : Str → Option Value} {K : PySem.W.Frag} {Γ : List Md} {pot : Option Addr} {M : List Addr} {σ : L2.St} {H : Hp} {ρ : Rho} (I : EnvOk mg K Γ pot M σ H ρ) : EnvOk mg K (Γ.map lookM) pot pot.toList σ H ρ := by
  have sub : ∀ a ∈ pot.toList, a ∈ M := fun a ha => I.pm a (by simpa using ha)
  have get : ∀ (i : Nat) (m : Md), (Γ.map lookM)[i]? = some m → ∃ m0, Γ[i]? = some m0 ∧ lookM m0 = m := fun i m h => by
    rw [List.getElem?_map] at h
    simpa using h
  refine ⟨by simp [I.ls], by simp [I.lr], fun i d h1 h2 => ?_, fun i d h1 h2 => ?_, fun i h1 => ?_, fun i d h1 h2 => ?_, fun i j a d e h1 h2 h3 h4 h5 h6 => ?_, fun a ha => I.al a (sub a ha), fun a ha => by simpa using ha⟩
  · obtain ⟨m, e1, e2⟩ := get i _ h1
    cases m with
    | f =>
      obtain ⟨v, e, r⟩ := I.f i d e1 h2
      exact ⟨v, e, r.mono (less_sub sub)⟩
    | o =>
      obtain ⟨p, e, m, np, o, a1, a2⟩ := I.o i d e1 h2
      refine ⟨_, e, HoR.rp (less_some.mpr ⟨fun z => np (by simpa using z), a1⟩) (a2.mono (less_sub fun a ha => List.mem_cons_of_mem _ (sub a ha)))⟩
    | _ => cases e2
  · obtain ⟨m, e1, e2⟩ := get i _ h1
    cases m <;> cases e2
  · obtain ⟨m, e1, e2⟩ := get i _ h1
    cases m with
    | p => exact I.p i e1
    | _ => cases e2
  · obtain ⟨m, e1, e2⟩ := get i _ h1
    cases m with
    | s =>
      obtain ⟨p, ns, a1, a2, a3⟩ := I.s i d e1 h2
      exact ⟨p, ns, a1, a2, sqL_mono (less_sub sub) a3⟩
    | _ => cases e2
  · obtain ⟨m, e1, e2⟩ := get i _ h1
    cases m <;> cases e2
section
variable {X : Cx} {E : XK} {Γ : List Md} {e : Expr} {te : TE} {fe : Ed}
theorem de_look (h : DE X E .f (Γ.map lookM) e te fe) : DE X E .f Γ e te (eAtom fe) := ⟨h.pe, fun pot M σ H ρ π I p Q q => by
  refine h.sem pot pot.toList σ H ρ π (env_look I) p Q ?_
  unfold eAtom at q
  cases ef : fe ρ π with
  | ok y =>
    obtain ⟨d, π1⟩ := y
    rw [ef] at q
    simp only at q
    split at q
    · rename_i ha
      exact fun v H' g p' r => q v H' g p' (rp_atom ha r)
    · exact q.elim
  | err c ns xs π' =>
    rw [ef] at q
    exact q.elim
  | stuck =>
    rw [ef] at q
    exact q.elim⟩
end
@[simp] theorem eAtom_ap (fe : Ed) (ρ : Rho) (π : Pot) : eAtom fe ρ π = match fe ρ π with
  | .ok x => if atomD x.1 = true then .ok x else .stuck
  | _ => .stuck := rfl
@[simp] theorem atomD_bl (b : Bool) : atomD (.bl b) = true := rfl
@[simp] theorem atomD_int (b : Int) : atomD (.int b) = true := rfl
@[simp] theorem atomD_str (b : Str) : atomD (.str b) = true := rfl
@[simp] theorem atomD_non : atomD .non = true := rfl
section
variable {a : Ed}
theorem pu_atom (ha : PX a) : PX (eAtom a) := fun ρ π π' => by
  show eAtom a ρ π' = rp π' (eAtom a ρ π)
  unfold eAtom
  rw [ha ρ π π']
  cases a ρ π with
  | ok x =>
    simp only [rp]
    split <;> rfl
  | err c ns xs q => rfl
  | stuck => rfl
end
end DL

set_option maxHeartbeats 2000000
/-! List comprehensions with two fors. -/
namespace DL
open PySem PySem.Spec PyProof.Rows L2

def lcGo2 (fg : D → Rho → Option Rho) (ft : Et) (fi1 : Ei) (fg1 : D → Rho → Option Rho) (ft1 : Et) (fe : Ed) (vs1 : List Nat) (ρ : Rho) : List D → Pot → Res (List D × Pot)
  | [], π => .ok ([], π)
  | d :: ds, π => (ofO (fg d ρ)).bind fun ρ1 => (safe (ft ρ1 π)).bind fun b => if b.1 = true then (safe (fi1 ρ1 b.2)).bind fun x => (lcGo fg1 ft1 fe (wipeD ρ1 vs1) x.1 x.2).bind fun r => (lcGo2 fg ft fi1 fg1 ft1 fe vs1 ρ ds r.2).bind fun z => .ok (r.1 ++ z.1, z.2) else lcGo2 fg ft fi1 fg1 ft1 fe vs1 ρ ds b.2
def eLC2 (fi : Ei) (fg : D → Rho → Option Rho) (ft : Et) (fi1 : Ei) (fg1 : D → Rho → Option Rho) (ft1 : Et) (fe : Ed) (vs vs1 : List Nat) : Ed := fun ρ π => (fi ρ π).bind fun x => (safe (lcGo2 fg ft fi1 fg1 ft1 fe vs1 (wipeD ρ vs) x.1 x.2)).bind fun r => if r.1.length < sizeLine then .ok (.lst r.1, r.2) else .stuck

section
variable {mg : Str → Option Value} {K : PySem.W.Frag} {pot : Option Addr} {M : List Addr} {H H1 H' : Hp} {v : V} {d : D} {Γ : List Md} {σ : L2.St} {ρ : Rho} {π : Pot} {E : XK}
def canI (mg : Str → Option Value) (K : PySem.W.Frag) (w : Bool) (E : XK) (Γ : List Md) (fi : Ei) : TI := fun σ H R => ∃ pot M ρ π, EnvOk mg K Γ pot M σ H ρ ∧ PotAt pot H π ∧ PostI mg K w pot M H (fi ρ π) R E
theorem DI.can {w : Bool} {X : Cx} {tg iter : Expr} {wi : TI} {fi : Ei} (h : DI w X E Γ tg iter wi fi) : DI w X E Γ tg iter (canI X.mg X.K w E Γ fi) fi :=
  ⟨⟨fun pins s σ H R I q => by
    obtain ⟨pot, M, ρ, π, h1, h2, h3⟩ := q
    exact h.pi.run pins s σ H R I (h.sem pot M σ H ρ π h1 h2 R h3)⟩, fun pot M σ H ρ π I p Q q => ⟨pot, M, ρ, π, I, p, q⟩⟩
theorem EnvOk.thr {q : Addr} (I : EnvOk mg K Γ pot (q :: M) σ H ρ) (nd : ∀ (i : Nat) (d : D) (a : Addr), Γ[i]? = some .o → ρ[i]? = some (some d) → σ[i]? = some (some (.ref a)) → a ≠ q)
    (k : ∀ a o, a ≠ q → pot ≠ some a → H a = some o → H' a = some o) (p : PotAt pot H' π) (hq : H' q ≠ none) : EnvOk mg K Γ pot (q :: M) σ H' ρ := by
  have sm : ∀ L : List Addr, (∀ a ∈ q :: M, a ∈ L) → Same (less H L) (less H' L) := fun L hL a o h => by
    obtain ⟨h1, h2⟩ := less_some.mp h
    exact less_some.mpr ⟨h1, k a o (fun e => h1 (hL a (by rw [e]; exact List.mem_cons_self ..))) (fun e => h1 (hL a (I.pm a e))) h2⟩
  refine ⟨I.ls, I.lr, fun i d h1 h2 => ?_, fun i d h1 h2 => ?_, I.p, fun i d h1 h2 => ?_, I.ap, fun a ha => ?_, I.pm⟩
  · obtain ⟨v, e, r⟩ := I.f i d h1 h2
    exact ⟨v, e, r.mono (sm _ fun _ h => h)⟩
  · obtain ⟨a, e, m, n, oo, h3, h4⟩ := I.o i d h1 h2
    exact ⟨a, e, m, n, oo, k a _ (nd i d a h1 h2 e) n h3, h4.mono (sm _ fun _ h => List.mem_cons_of_mem _ h)⟩
  · obtain ⟨a, ns, e1, e2, e3⟩ := I.s i d h1 h2
    exact ⟨a, ns, e1, e2, sqL_mono (sm _ fun _ h => h) e3⟩
  · by_cases e : a = q
    · rw [e]; exact hq
    · by_cases e2 : pot = some a
      · exact p.has a e2
      · cases e3 : H a with
        | none => exact absurd e3 (I.al a ha)
        | some o => rw [k a o e e2 e3]; simp
theorem lc_it2 {J : It} {n : Nat} {G : Hp → Prop} {Y : Nat → Hp → V → Hp → Prop} (w : Walk J n G Y) {g : TG} {tt : TT} {wi1 : TI} {g1 : TG} {tt1 : TT} {te : TE} {vs vs1 : List Nat} {σ : L2.St} {H1 : Hp} {D : Addr} {Qd : Hp → Prop} (Pv : Nat → Hp → Prop) (h0 : Pv 0 (upd H1 D (.lst []))) (hG : ∀ i H, i ≤ n → Pv i H → G H)
    (hs : ∀ i x H H', i < n → Pv i H → Y i H x H' → g x (wipe σ vs) H' fun σ2 H2 => wipe σ2 vs = wipe σ vs ∧ tt σ2 H2 fun b H3 =>
      if b = true then wi1 σ2 H3 fun J1 H4 => ∃ W1 : Nat → Nat → Hp → Prop, (∃ m, W1 0 m H4) ∧ ∀ j k H, W1 j k H →
        (J1.stop j H ∧ Pv (i + 1) H) ∨ (J1.go j H ∧ ∃ Nx1 : Hp → Prop, (∀ H', Nx1 H' → ∃ k', k' < k ∧ W1 (j + 1) k' H') ∧ ∀ x H', J1.yld j H x H' → g1 x (wipe σ2 vs1) H' fun σ3 H5 => wipe σ3 vs1 = wipe σ2 vs1 ∧ tt1 σ3 H5 fun b H6 =>
          if b = true then te σ3 H6 fun y H7 => ∃ acc, H7 D = some (.lst acc) ∧ acc.length < sizeLine ∧ Nx1 (upd H7 D (.lst (acc ++ [y]))) else Nx1 H6)
      else Pv (i + 1) H3) (hd : ∀ H, Pv n H → Qd H) :
    ∃ W : Nat → Nat → Hp → Prop, (∃ m, W 0 m (upd H1 D (.lst []))) ∧ ∀ i m H, W i m H →
      (J.stop i H ∧ Qd H) ∨ (J.go i H ∧ ∃ Nx : Hp → Prop, (∀ H', Nx H' → ∃ m', m' < m ∧ W (i + 1) m' H') ∧ ∀ x H', J.yld i H x H' → g x (wipe σ vs) H' fun σ2 H2 => wipe σ2 vs = wipe σ vs ∧ tt σ2 H2 fun b H3 =>
      if b = true then wi1 σ2 H3 fun J1 H4 => ∃ W1 : Nat → Nat → Hp → Prop, (∃ m, W1 0 m H4) ∧ ∀ j k H, W1 j k H →
        (J1.stop j H ∧ Nx H) ∨ (J1.go j H ∧ ∃ Nx1 : Hp → Prop, (∀ H', Nx1 H' → ∃ k', k' < k ∧ W1 (j + 1) k' H') ∧ ∀ x H', J1.yld j H x H' → g1 x (wipe σ2 vs1) H' fun σ3 H5 => wipe σ3 vs1 = wipe σ2 vs1 ∧ tt1 σ3 H5 fun b H6 =>
          if b = true then te σ3 H6 fun y H7 => ∃ acc, H7 D = some (.lst acc) ∧ acc.length < sizeLine ∧ Nx1 (upd H7 D (.lst (acc ++ [y]))) else Nx1 H6)
      else Nx H3) := by
  refine ⟨fun i m H => m = n - i ∧ i ≤ n ∧ Pv i H, ⟨n, by simp, Nat.zero_le _, h0⟩, ?_⟩
  rintro i m H ⟨rfl, hi, p⟩
  have q := hG i H hi p
  by_cases hlt : i < n
  · refine .inr ⟨w.goes i H hlt q, Pv (i + 1), fun H' p' => ⟨n - (i + 1), by omega, rfl, hlt, p'⟩, fun x H' y => hs i x H H' hlt p (w.yields i H x H' hlt q y)⟩
  · have e : i = n := by omega
    subst e
    exact .inl ⟨w.stops H q, hd H p⟩
theorem lc_itN {J : It} {n : Nat} {G : Hp → Prop} {Y : Nat → Hp → V → Hp → Prop} (w : Walk J n G Y) {g : TG} {tt : TT} {te : TE} {vs : List Nat} {σ : L2.St} {H1 : Hp} {D : Addr} {Qd : Hp → Prop} (Pv : Nat → Hp → Prop) (h0 : Pv 0 H1) (hG : ∀ i H, i ≤ n → Pv i H → G H)
    (hs : ∀ i x H H', i < n → Pv i H → Y i H x H' → g x (wipe σ vs) H' fun σ2 H2 => wipe σ2 vs = wipe σ vs ∧ tt σ2 H2 fun b H3 =>
      if b = true then te σ2 H3 fun y H4 => ∃ acc, H4 D = some (.lst acc) ∧ acc.length < sizeLine ∧ Pv (i + 1) (upd H4 D (.lst (acc ++ [y]))) else Pv (i + 1) H3) (hd : ∀ H, Pv n H → Qd H) :
    ∃ W : Nat → Nat → Hp → Prop, (∃ m, W 0 m H1) ∧ ∀ i m H, W i m H →
      (J.stop i H ∧ Qd H) ∨ (J.go i H ∧ ∃ Nx : Hp → Prop, (∀ H', Nx H' → ∃ m', m' < m ∧ W (i + 1) m' H') ∧ ∀ x H', J.yld i H x H' → g x (wipe σ vs) H' fun σ2 H2 => wipe σ2 vs = wipe σ vs ∧ tt σ2 H2 fun b H3 =>
        if b = true then te σ2 H3 fun y H4 => ∃ acc, H4 D = some (.lst acc) ∧ acc.length < sizeLine ∧ Nx (upd H4 D (.lst (acc ++ [y]))) else Nx H3) := by
  refine ⟨fun i m H => m = n - i ∧ i ≤ n ∧ Pv i H, ⟨n, by simp, Nat.zero_le _, h0⟩, ?_⟩
  rintro i m H ⟨rfl, hi, p⟩
  have q := hG i H hi p
  by_cases hlt : i < n
  · refine .inr ⟨w.goes i H hlt q, Pv (i + 1), fun H' p' => ⟨n - (i + 1), by omega, rfl, hlt, p'⟩, fun x H' y => hs i x H H' hlt p (w.yields i H x H' hlt q y)⟩
  · have e : i = n := by omega
    subst e
    exact .inl ⟨w.stops H q, hd H p⟩
theorem sem_lc2 {w : Bool} {wi : TI} {fi : Ei} {is is1 vs vs1 : List Nat} {g : TG} {fg : D → Rho → Option Rho} {tt : TT} {ft : Et} {wi1 : TI} {fi1 : Ei} {g1 : TG} {fg1 : D → Rho → Option Rho} {tt1 : TT} {ft1 : Et} {te : TE} {fe : Ed}
    (hi : SemI mg K w E Γ wi fi) (hg : SemG mg K Γ is g fg) (hv : ∀ i ∈ is, i ∈ vs) (hv1 : ∀ i ∈ is1, i ∈ vs1) (hvs : ∀ i ∈ vs1, i ∈ vs) (hΓ : ∀ i ∈ vs, Γ[i]? = some .f)
    (ht : SemT mg K E0 Γ tt ft) (hi1 : SemI mg K false E0 Γ wi1 fi1) (hg1 : SemG mg K Γ is1 g1 fg1) (ht1 : SemT mg K E0 Γ tt1 ft1) (he : SemE mg K E0 .f Γ te fe) :
    SemE mg K E .o Γ (tLc2 wi g tt wi1 g1 tt1 te vs vs1) (eLC2 fi fg ft fi1 fg1 ft1 fe vs vs1) := fun pot M σ H ρ π I p Q h => by
  refine hi pot M σ H ρ π I p _ ?_
  unfold eLC2 at h
  cases ei : fi ρ π with
  | err c ns xs π' =>
    rw [ei] at h
    exact h
  | stuck =>
    rw [ei] at h
    exact h
  | ok x =>
    obtain ⟨items, π0⟩ := x
    rw [ei] at h
    simp only [Res.bind_ok] at h
    intro J H1 G Y gw p1 W D hD
    have I1 := I.grow gw p1
    cases et : lcGo2 fg ft fi1 fg1 ft1 fe vs1 (wipeD ρ vs) items π0 with
    | err c ns xs π' => rw [et] at h; exact h.elim
    | stuck => rw [et] at h; exact h.elim
    | ok r =>
      obtain ⟨ds, π9⟩ := r
      rw [et] at h
      simp only [safe_ok, Res.bind_ok] at h
      by_cases hz : ds.length < sizeLine
      · rw [if_pos hz] at h
        have nD : pot ≠ some D := fun e => p1.has D e hD
        have gD : ∀ {H2 : Hp} {o : HO}, Grow pot H1 H2 → Grow pot H1 (upd H2 D o) := fun gr a o n e => by
          rw [upd_ne (ne_of_none e hD)]
          exact gr a o n e
        have pD : ∀ {H2 : Hp} {o : HO} {π : Pot}, PotAt pot H2 π → PotAt pot (upd H2 D o) π := fun q a e => by
          rw [upd_ne (fun z => nD (by rw [e, z]))]
          exact q a e
        have lD : ∀ {H2 : Hp} {o : HO}, Same (less H2 (D :: M)) (less (upd H2 D o) (D :: M)) := fun a o e => by
          obtain ⟨e1, e2⟩ := less_some.mp e
          refine less_some.mpr ⟨e1, ?_⟩
          rw [upd_ne (fun z => e1 (by rw [z]; exact List.mem_cons_self ..))]
          exact e2
        have sD : ∀ {H2 : Hp}, Grow pot H1 H2 → Same (less H1 M) (less H2 (D :: M)) := fun gr a o e => by
          obtain ⟨e1, e2⟩ := less_some.mp e
          refine less_some.mpr ⟨fun m => ?_, gr a o (fun z => e1 (I.pm a z)) e2⟩
          rcases List.mem_cons.mp m with z | m
          · exact ne_of_none e2 hD z
          · exact e1 m
        refine lc_it2 W.walk (fun i H2 => ∃ π2 vsa dsa z, Grow pot H1 H2 ∧ PotAt pot H2 π2 ∧ H2 D = some (.lst vsa) ∧ RpL mg K (less H2 (D :: M)) vsa dsa ∧
            lcGo2 fg ft fi1 fg1 ft1 fe vs1 (wipeD ρ vs) (items.drop i) π2 = .ok (z, π9) ∧ ds = dsa ++ z)
          ⟨π0, [], [], ds, gD .refl, pD p1, upd_same, .nil, by rw [List.drop_zero, et], rfl⟩ (fun i H2 _ ⟨_, _, _, _, gr, _⟩ => W.stay H2 (D :: M) (fun _ => gr) (sD gr)) ?_ ?_
        · rintro i xv H2 H3 hlt ⟨π2, vsa, dsa, z, gr, pr, hDv, rr, hgo, hds⟩ hy
          have I2 := I1.under hD gr pr (by rw [hDv]; simp)
          obtain ⟨sm, d, hd, rd⟩ := W.item i H2 xv H3 (D :: M) (fun _ => gr) (sD gr) I2.al hlt hy
          have gr3 : Grow pot H1 H3 := gr.trans (.of_same sm)
          have pr3 := pr.same sm
          have hDv3 := sm _ _ hDv
          have I3 := (I1.under hD gr3 pr3 (by rw [hDv3]; simp)).wipe hΓ
          have rr3 : RpL mg K (less H3 (D :: M)) vsa dsa := rr.mono (less_grow I2.pm (.of_same sm))
          have edr : items.drop i = d :: items.drop (i + 1) := by
            rw [List.drop_eq_getElem_cons hlt]
            congr 1
            have := List.getElem?_eq_getElem hlt
            rw [hd] at this
            exact (Option.some.inj this).symm
          rw [edr] at hgo
          unfold lcGo2 at hgo
          cases e1 : fg d (wipeD ρ vs) with
          | none => rw [e1] at hgo; cases hgo
          | some ρ1 =>
            rw [e1] at hgo
            simp only [ofO_some, Res.bind_ok] at hgo
            refine hg pot (D :: M) _ H3 _ xv d I3 rd ρ1 e1 _ fun σ2 I4 so so2 => ⟨wipe_of (by rw [I4.ls, I1.ls]) hv so, ?_⟩
            have nq : ∀ (i : Nat) (d : DL.D) (a : Addr), Γ[i]? = some .o → ρ1[i]? = some (some d) → σ2[i]? = some (some (.ref a)) → a ≠ D := fun i d a k1 k2 k3 => by
              have ni : i ∉ is := fun m => by rw [hΓ i (hv i m)] at k1; cases k1
              rw [so2 i ni] at k2
              rw [so i ni] at k3
              obtain ⟨a2, q1, q2, -⟩ := (I1.wipe hΓ).o i d k1 k2
              rw [q1] at k3
              cases k3
              exact fun e => I1.al a q2 (by rw [e]; exact hD)
            refine ht pot (D :: M) σ2 H3 ρ1 π2 I4 pr3 _ ?_
            cases e2 : ft ρ1 π2 with
            | err c ns xs p => rw [e2] at hgo; cases hgo
            | stuck => rw [e2] at hgo; cases hgo
            | ok b =>
              obtain ⟨b, π3⟩ := b
              rw [e2] at hgo
              simp only [safe_ok, Res.bind_ok] at hgo
              intro H4 g4 p4
              have gr4 := gr3.trans g4
              have hDv4 := g4 D _ nD hDv3
              have rr4 := rr3.mono (less_grow I4.pm g4)
              have I5 := I4.grow g4 p4
              cases b with
              | false =>
                rw [if_neg Bool.false_ne_true] at hgo ⊢
                exact ⟨π3, vsa, dsa, z, gr4, p4, hDv4, rr4, hgo, hds⟩
              | true =>
                rw [if_pos rfl] at hgo ⊢
                refine hi1 pot (D :: M) σ2 H4 ρ1 π3 I5 p4 _ ?_
                cases e3 : fi1 ρ1 π3 with
                | err c ns xs p => rw [e3] at hgo; cases hgo
                | stuck => rw [e3] at hgo; cases hgo
                | ok x1 =>
                  obtain ⟨items1, π4⟩ := x1
                  rw [e3] at hgo
                  simp only [safe_ok, Res.bind_ok] at hgo
                  intro J1 H5 G1 Y1 g5 p5 W1
                  have gr5 := gr4.trans g5
                  have hDv5 := g5 D _ nD hDv4
                  have rr5 := rr4.mono (less_grow I4.pm g5)
                  have I6 := I5.grow g5 p5
                  cases e4 : lcGo fg1 ft1 fe (wipeD ρ1 vs1) items1 π4 with
                  | err c ns xs p => rw [e4] at hgo; cases hgo
                  | stuck => rw [e4] at hgo; cases hgo
                  | ok r1 =>
                    obtain ⟨r1, π5⟩ := r1
                    rw [e4] at hgo
                    simp only [Res.bind_ok] at hgo
                    cases e5 : lcGo2 fg ft fi1 fg1 ft1 fe vs1 (wipeD ρ vs) (items.drop (i + 1)) π5 with
                    | err c ns xs p => rw [e5] at hgo; cases hgo
                    | stuck => rw [e5] at hgo; cases hgo
                    | ok z1 =>
                      obtain ⟨z1, π8⟩ := z1
                      rw [e5] at hgo
                      simp only [Res.bind_ok, Res.ok.injEq, Prod.mk.injEq] at hgo
                      obtain ⟨rfl, rfl⟩ := hgo
                      have s5 : ∀ {H6 : Hp}, (∀ a o, a ≠ D → pot ≠ some a → H5 a = some o → H6 a = some o) → Same (less H5 (D :: M)) (less H6 (D :: M)) := fun k a o e => by
                        obtain ⟨e1, e2⟩ := less_some.mp e
                        exact less_some.mpr ⟨e1, k a o (fun z => e1 (by rw [z]; exact List.mem_cons_self ..)) (fun z => e1 (List.mem_cons_of_mem _ (I.pm a z))) e2⟩
                      refine lc_itN W1.walk (fun j H6 => ∃ π6 vsb dsb r2, (∀ a o, a ≠ D → pot ≠ some a → H5 a = some o → H6 a = some o) ∧ Grow pot H1 H6 ∧ PotAt pot H6 π6 ∧ H6 D = some (.lst vsb) ∧ RpL mg K (less H6 (D :: M)) vsb dsb ∧
                          lcGo fg1 ft1 fe (wipeD ρ1 vs1) (items1.drop j) π6 = .ok (r2, π5) ∧ ds = dsb ++ (r2 ++ z1))
                        ⟨π4, vsa, dsa, r1, fun _ _ _ _ e => e, gr5, p5, hDv5, rr5, by rw [List.drop_zero, e4], hds⟩
                        (fun j H6 _ ⟨_, _, _, _, k6, _⟩ => W1.stay H6 (D :: M) (fun e => by cases e) (s5 k6)) ?_ ?_
                      · rintro j yv H6 H7 hlt1 ⟨π6, vsb, dsb, r2, k6, gr6, p6, hDv6, rr6, hgo1, hds1⟩ hy1
                        have I7 : EnvOk mg K Γ pot (D :: M) σ2 H6 ρ1 := I6.thr nq k6 p6 (by rw [hDv6]; simp)
                        obtain ⟨sm1, d1, hd1, rd1⟩ := W1.item j H6 yv H7 (D :: M) (fun e => by cases e) (s5 k6) I7.al hlt1 hy1
                        have p7 := p6.same sm1
                        have hDv7 := sm1 _ _ hDv6
                        have gr7 : Grow pot H1 H7 := gr6.trans (.of_same sm1)
                        have I8 : EnvOk mg K Γ pot (D :: M) (L2.wipe σ2 vs1) H7 (wipeD ρ1 vs1) := (I7.grow (.of_same sm1) p7).wipe fun i hi => hΓ i (hvs i hi)
                        have rr7 : RpL mg K (less H7 (D :: M)) vsb dsb := rr6.mono (less_grow I7.pm (.of_same sm1))
                        have edr1 : items1.drop j = d1 :: items1.drop (j + 1) := by
                          rw [List.drop_eq_getElem_cons hlt1]
                          congr 1
                          have := List.getElem?_eq_getElem hlt1
                          rw [hd1] at this
                          exact (Option.some.inj this).symm
                        rw [edr1] at hgo1
                        unfold lcGo at hgo1
                        cases f1 : fg1 d1 (wipeD ρ1 vs1) with
                        | none => rw [f1] at hgo1; cases hgo1
                        | some ρ2 =>
                          rw [f1] at hgo1
                          simp only [ofO_some, Res.bind_ok] at hgo1
                          refine hg1 pot (D :: M) _ H7 _ yv d1 I8 rd1 ρ2 f1 _ fun σ3 I9 so _ => ⟨wipe_of (by rw [I9.ls, I7.ls]) hv1 so, ?_⟩
                          refine ht1 pot (D :: M) σ3 H7 ρ2 π6 I9 p7 _ ?_
                          cases f2 : ft1 ρ2 π6 with
                          | err c ns xs p => rw [f2] at hgo1; cases hgo1
                          | stuck => rw [f2] at hgo1; cases hgo1
                          | ok b =>
                            obtain ⟨b, π7⟩ := b
                            rw [f2] at hgo1
                            simp only [safe_ok, Res.bind_ok] at hgo1
                            intro H8 g8 p8
                            have gr8 := gr7.trans g8
                            have hDv8 := g8 D _ nD hDv7
                            have rr8 := rr7.mono (less_grow I9.pm g8)
                            have k8 : ∀ a o, a ≠ D → pot ≠ some a → H5 a = some o → H8 a = some o := fun a o n1 n2 e => g8 a o n2 (sm1 a o (k6 a o n1 n2 e))
                            cases b with
                            | false =>
                              rw [if_neg Bool.false_ne_true] at hgo1 ⊢
                              exact ⟨π7, vsb, dsb, r2, k8, gr8, p8, hDv8, rr8, hgo1, hds1⟩
                            | true =>
                              rw [if_pos rfl] at hgo1 ⊢
                              refine he pot (D :: M) σ3 H8 ρ2 π7 (I9.grow g8 p8) p8 _ ?_
                              cases f3 : fe ρ2 π7 with
                              | err c ns xs p => rw [f3] at hgo1; cases hgo1
                              | stuck => rw [f3] at hgo1; cases hgo1
                              | ok y =>
                                obtain ⟨y, πa⟩ := y
                                rw [f3] at hgo1
                                simp only [safe_ok, Res.bind_ok] at hgo1
                                intro yw H9 g9 p9 ry
                                have gr9 := gr8.trans g9
                                have hDv9 := g9 D _ nD hDv8
                                have rr9 := rr8.mono (less_grow I9.pm g9)
                                cases f4 : lcGo fg1 ft1 fe (wipeD ρ1 vs1) (items1.drop (j + 1)) πa with
                                | err c ns xs p => rw [f4] at hgo1; cases hgo1
                                | stuck => rw [f4] at hgo1; cases hgo1
                                | ok r3 =>
                                  obtain ⟨r3, πb⟩ := r3
                                  rw [f4] at hgo1
                                  simp only [Res.bind_ok, Res.ok.injEq, Prod.mk.injEq] at hgo1
                                  obtain ⟨rfl, rfl⟩ := hgo1
                                  refine ⟨vsb, hDv9, by rw [rr9.length]; rw [hds1] at hz; simp at hz; omega, πa, vsb ++ [yw], dsb ++ [y], r3, ?_, gD gr9, pD p9, upd_same, (rr9.append (.cons ry .nil)).mono lD, f4, by rw [hds1]; simp⟩
                                  intro a o n1 n2 e
                                  rw [upd_ne n1]
                                  exact g9 a o n2 (k8 a o n1 n2 e)
                      · rintro H6 ⟨π6, vsb, dsb, r2, k6, gr6, p6, hDv6, rr6, hgo1, hds1⟩
                        rw [List.drop_length] at hgo1
                        simp only [lcGo, Res.ok.injEq, Prod.mk.injEq] at hgo1
                        obtain ⟨rfl, rfl⟩ := hgo1
                        exact ⟨π6, vsb, dsb, z1, gr6, p6, hDv6, rr6, e5, by rw [hds1]; rfl⟩
        · rintro H2 ⟨π2, vsa, dsa, z, gr, pr, hDv, rr, hgo, hds⟩
          rw [List.drop_length] at hgo
          simp only [lcGo2, Res.ok.injEq, Prod.mk.injEq] at hgo
          obtain ⟨rfl, rfl⟩ := hgo
          rw [List.append_nil] at hds
          subst hds
          refine h (.ref D) H2 (gw.trans gr) pr ⟨D, rfl, ?_, nD, _, hDv, .lst rr⟩
          cases e : H D with
          | none => rfl
          | some o =>
            rw [gw D o nD e] at hD
            cases hD
      · rw [if_neg hz] at h
        exact h.elim
end
section
variable {X : Cx} {E : XK} {Γ : List Md} {pos : Pos} {k : Nat}
theorem de_lc2 {w : Bool} {elt tg iter tg1 iter1 : Expr} {ifs ifs1 : List Expr} {scope : Scope} {own : List (Str × Nat)} (vs1 : List Nat) {wi : TI} {fi fi1 : Ei} {is is1 : List Nat} {fg fg1 : D → Rho → Option Rho} {ft ft1 : Et} {fe : Ed} (x : XOk X E k) (hi : DI w X E Γ tg iter wi fi) (ok : BlkOk X.N X.env.scope scope own)
    (hg : ∀ (s : Shared) (H : Hp) (C : Addr) (cl : List (Str × Addr)) (fp : List Addr), ∃ g, DG (X.blk s H scope (compEnvC scope cl C X.env) fp) Γ tg is g fg)
    (ht : ∀ (s : Shared) (H : Hp) (C : Addr) (cl : List (Str × Addr)) (fp : List Addr), ∃ tt, DTs (X.blk s H scope (compEnvC scope cl C X.env) fp) E0 Γ ifs tt ft)
    (hi1 : ∀ (s : Shared) (H : Hp) (C : Addr) (cl : List (Str × Addr)) (fp : List Addr), ∃ wi1, DI false (X.blk s H scope (compEnvC scope cl C X.env) fp) E0 Γ tg1 iter1 wi1 fi1)
    (hg1 : ∀ (s : Shared) (H : Hp) (C : Addr) (cl : List (Str × Addr)) (fp : List Addr), ∃ g, DG (X.blk s H scope (compEnvC scope cl C X.env) fp) Γ tg1 is1 g fg1)
    (ht1 : ∀ (s : Shared) (H : Hp) (C : Addr) (cl : List (Str × Addr)) (fp : List Addr), ∃ tt, DTs (X.blk s H scope (compEnvC scope cl C X.env) fp) E0 Γ ifs1 tt ft1)
    (he : ∀ (s : Shared) (H : Hp) (C : Addr) (cl : List (Str × Addr)) (fp : List Addr), ∃ te, DE (X.blk s H scope (compEnvC scope cl C X.env) fp) E0 .f Γ elt te fe)
    (hv : ∀ i ∈ is, i ∈ own.map (·.2) := by decide) (hv1 : ∀ i ∈ is1, i ∈ vs1 := by decide) (hvs : ∀ i ∈ vs1, i ∈ own.map (·.2) := by decide) (hΓ : ∀ i ∈ own.map (·.2), Γ[i]? = some .f := by decide)
    (hs : ∀ x, foldedSetIterable iter X.env x = pure x := by intro _; rfl) (hs1 : ∀ env x, foldedSetIterable iter1 env x = pure x := by intro _ _; rfl) :
    DE X E .o Γ (.ListComp elt [⟨tg, iter, ifs, 0⟩, ⟨tg1, iter1, ifs1, 0⟩] scope pos) (tLc2 wi (canG X.mg X.K Γ is fg) (canT X.mg X.K E0 Γ ft) (canI X.mg X.K false E0 Γ fi1) (canG X.mg X.K Γ is1 fg1) (canT X.mg X.K E0 Γ ft1) (canE X.mg X.K E0 .f Γ fe) (own.map (·.2)) vs1) (eLC2 fi fg ft fi1 fg1 ft1 fe (own.map (·.2)) vs1) := by
  have hg' : ∀ (s : Shared) (H : Hp) (C : Addr) (cl : List (Str × Addr)) (fp : List Addr), DG (X.blk s H scope (compEnvC scope cl C X.env) fp) Γ tg is (canG X.mg X.K Γ is fg) fg := fun s H C cl fp => by
    obtain ⟨g, h⟩ := hg s H C cl fp
    exact h.can
  have ht' : ∀ (s : Shared) (H : Hp) (C : Addr) (cl : List (Str × Addr)) (fp : List Addr), DTs (X.blk s H scope (compEnvC scope cl C X.env) fp) E0 Γ ifs (canT X.mg X.K E0 Γ ft) ft := fun s H C cl fp => by
    obtain ⟨g, h⟩ := ht s H C cl fp
    exact h.can
  have hi1' : ∀ (s : Shared) (H : Hp) (C : Addr) (cl : List (Str × Addr)) (fp : List Addr), DI false (X.blk s H scope (compEnvC scope cl C X.env) fp) E0 Γ tg1 iter1 (canI X.mg X.K false E0 Γ fi1) fi1 := fun s H C cl fp => by
    obtain ⟨g, h⟩ := hi1 s H C cl fp
    exact h.can
  have hg1' : ∀ (s : Shared) (H : Hp) (C : Addr) (cl : List (Str × Addr)) (fp : List Addr), DG (X.blk s H scope (compEnvC scope cl C X.env) fp) Γ tg1 is1 (canG X.mg X.K Γ is1 fg1) fg1 := fun s H C cl fp => by
    obtain ⟨g, h⟩ := hg1 s H C cl fp
    exact h.can
  have ht1' : ∀ (s : Shared) (H : Hp) (C : Addr) (cl : List (Str × Addr)) (fp : List Addr), DTs (X.blk s H scope (compEnvC scope cl C X.env) fp) E0 Γ ifs1 (canT X.mg X.K E0 Γ ft1) ft1 := fun s H C cl fp => by
    obtain ⟨g, h⟩ := ht1 s H C cl fp
    exact h.can
  have he' : ∀ (s : Shared) (H : Hp) (C : Addr) (cl : List (Str × Addr)) (fp : List Addr), DE (X.blk s H scope (compEnvC scope cl C X.env) fp) E0 .f Γ elt (canE X.mg X.K E0 .f Γ fe) fe := fun s H C cl fp => by
    obtain ⟨g, h⟩ := he s H C cl fp
    exact h.can
  exact ⟨pe_lc2 x.calm x.nd hi.pi ok hvs (fun s H C cl fp => (hg' s H C cl fp).pg) (fun s H C cl fp => (ht' s H C cl fp).pts)
      (fun s H C cl fp => (hi1' s H C cl fp).pi) (fun s H C cl fp => (hg1' s H C cl fp).pg) (fun s H C cl fp => (ht1' s H C cl fp).pts) (fun s H C cl fp => (he' s H C cl fp).pe) hs hs1,
    sem_lc2 hi.sem (hg' X.s_0 X.H_0 0 [] []).sem hv hv1 hvs hΓ (ht' X.s_0 X.H_0 0 [] []).sem (hi1' X.s_0 X.H_0 0 [] []).sem (hg1' X.s_0 X.H_0 0 [] []).sem (ht1' X.s_0 X.H_0 0 [] []).sem (he' X.s_0 X.H_0 0 [] []).sem⟩
theorem ds_setLc2R (i : Nat) {r r' : Rm} (hr : r' = .f ∨ r' = .o) {Γl : List Md} {y : Str} {py spos : Pos} {w : Bool} {elt tg iter tg1 iter1 : Expr} {ifs ifs1 : List Expr} {scope : Scope} {own : List (Str × Nat)} (vs1 : List Nat) {wi : TI} {fi fi1 : Ei} {is is1 : List Nat} {fg fg1 : D → Rho → Option Rho} {ft ft1 : Et} {fe : Ed} (x : XOk X E k) (hi : DI w X E Γ tg iter wi fi) (ok : BlkOk X.N X.env.scope scope own)
    (hg : ∀ (s : Shared) (H : Hp) (C : Addr) (cl : List (Str × Addr)) (fp : List Addr), ∃ g, DG (X.blk s H scope (compEnvC scope cl C X.env) fp) Γ tg is g fg)
    (ht : ∀ (s : Shared) (H : Hp) (C : Addr) (cl : List (Str × Addr)) (fp : List Addr), ∃ tt, DTs (X.blk s H scope (compEnvC scope cl C X.env) fp) E0 Γ ifs tt ft)
    (hi1 : ∀ (s : Shared) (H : Hp) (C : Addr) (cl : List (Str × Addr)) (fp : List Addr), ∃ wi1, DI false (X.blk s H scope (compEnvC scope cl C X.env) fp) E0 Γ tg1 iter1 wi1 fi1)
    (hg1 : ∀ (s : Shared) (H : Hp) (C : Addr) (cl : List (Str × Addr)) (fp : List Addr), ∃ g, DG (X.blk s H scope (compEnvC scope cl C X.env) fp) Γ tg1 is1 g fg1)
    (ht1 : ∀ (s : Shared) (H : Hp) (C : Addr) (cl : List (Str × Addr)) (fp : List Addr), ∃ tt, DTs (X.blk s H scope (compEnvC scope cl C X.env) fp) E0 Γ ifs1 tt ft1)
    (he : ∀ (s : Shared) (H : Hp) (C : Addr) (cl : List (Str × Addr)) (fp : List Addr), ∃ te, DE (X.blk s H scope (compEnvC scope cl C X.env) fp) E0 .f Γ elt te fe)
    (hv : ∀ i ∈ is, i ∈ own.map (·.2) := by decide) (hv1 : ∀ i ∈ is1, i ∈ vs1 := by decide) (hvs : ∀ i ∈ vs1, i ∈ own.map (·.2) := by decide) (hΓ : ∀ i ∈ own.map (·.2), Γ[i]? = some .f := by decide)
    (hΓi : Γ[i]? = some r'.md := by rfl) (hN : X.N[i]? = some y := by rfl) (hyl : X.env.scope.names.lookup y = some .local := by rfl)
    (hsw : swapsWith (.ListComp elt [⟨tg, iter, ifs, 0⟩, ⟨tg1, iter1, ifs1, 0⟩] scope pos) (some (.Name y py)) spos.line X.env = pure true := by rfl)
    (hs : ∀ x, foldedSetIterable iter X.env x = pure x := by intro _; rfl) (hs1 : ∀ env x, foldedSetIterable iter1 env x = pure x := by intro _ _; rfl) :
    DS X E r Γl Γ Γ (.Assign [.Name y py] (.ListComp elt [⟨tg, iter, ifs, 0⟩, ⟨tg1, iter1, ifs1, 0⟩] scope pos) spos) (tAsg (tLc2 wi (canG X.mg X.K Γ is fg) (canT X.mg X.K E0 Γ ft) (canI X.mg X.K false E0 Γ fi1) (canG X.mg X.K Γ is1 fg1) (canT X.mg X.K E0 Γ ft1) (canE X.mg X.K E0 .f Γ fe) (own.map (·.2)) vs1) (gName i)) (sSet i (eLC2 fi fg ft fi1 fg1 ft1 fe (own.map (·.2)) vs1)) := by
  have de : DE X E .o Γ (.ListComp elt [⟨tg, iter, ifs, 0⟩, ⟨tg1, iter1, ifs1, 0⟩] scope pos) _ _ := de_lc2 vs1 x hi ok hg ht hi1 hg1 ht1 he hv hv1 hvs hΓ hs hs1
  have hg' : ∀ (s : Shared) (H : Hp) (C : Addr) (cl : List (Str × Addr)) (fp : List Addr), DG (X.blk s H scope (compEnvC scope cl C X.env) fp) Γ tg is (canG X.mg X.K Γ is fg) fg := fun s H C cl fp => by
    obtain ⟨g, h⟩ := hg s H C cl fp
    exact h.can
  have ht' : ∀ (s : Shared) (H : Hp) (C : Addr) (cl : List (Str × Addr)) (fp : List Addr), DTs (X.blk s H scope (compEnvC scope cl C X.env) fp) E0 Γ ifs (canT X.mg X.K E0 Γ ft) ft := fun s H C cl fp => by
    obtain ⟨g, h⟩ := ht s H C cl fp
    exact h.can
  have hi1' : ∀ (s : Shared) (H : Hp) (C : Addr) (cl : List (Str × Addr)) (fp : List Addr), DI false (X.blk s H scope (compEnvC scope cl C X.env) fp) E0 Γ tg1 iter1 (canI X.mg X.K false E0 Γ fi1) fi1 := fun s H C cl fp => by
    obtain ⟨g, h⟩ := hi1 s H C cl fp
    exact h.can
  have hg1' : ∀ (s : Shared) (H : Hp) (C : Addr) (cl : List (Str × Addr)) (fp : List Addr), DG (X.blk s H scope (compEnvC scope cl C X.env) fp) Γ tg1 is1 (canG X.mg X.K Γ is1 fg1) fg1 := fun s H C cl fp => by
    obtain ⟨g, h⟩ := hg1 s H C cl fp
    exact h.can
  have ht1' : ∀ (s : Shared) (H : Hp) (C : Addr) (cl : List (Str × Addr)) (fp : List Addr), DTs (X.blk s H scope (compEnvC scope cl C X.env) fp) E0 Γ ifs1 (canT X.mg X.K E0 Γ ft1) ft1 := fun s H C cl fp => by
    obtain ⟨g, h⟩ := ht1 s H C cl fp
    exact h.can
  have he' : ∀ (s : Shared) (H : Hp) (C : Addr) (cl : List (Str × Addr)) (fp : List Addr), DE (X.blk s H scope (compEnvC scope cl C X.env) fp) E0 .f Γ elt (canE X.mg X.K E0 .f Γ fe) fe := fun s H C cl fp => by
    obtain ⟨g, h⟩ := he s H C cl fp
    exact h.can
  refine ⟨ps_setLc2 x.calm x.nd hN hyl hsw hi.pi ok hvs (fun s H C cl fp => (hg' s H C cl fp).pg) (fun s H C cl fp => (ht' s H C cl fp).pts)
      (fun s H C cl fp => (hi1' s H C cl fp).pi) (fun s H C cl fp => (hg1' s H C cl fp).pg) (fun s H C cl fp => (ht1' s H C cl fp).pts) (fun s H C cl fp => (he' s H C cl fp).pe) hs hs1, ?_⟩
  rcases hr with rfl | rfl
  · exact sem_set hΓi de.toF.sem
  · exact sem_set hΓi de.sem
end
end DL

set_option maxHeartbeats 2000000
/-! Own objects held against one another by their own __eq__. -/
namespace DL
open PySem PySem.Spec PyProof.Rows L2
section
variable {prog : Program} {w : World} {A : Around} {E : Value → Shared → Prop} {s : Shared} {K : PySem.W.Frag} {x C L f : Addr} {h₀ : Heap} {m : Str → Option Value} {ox : Obj} {od : Option Obj} {name : Str} {b tb : Value}
theorem ifBound_KB {M : Model} {id : String} {args : List Value} {Q : Option Value → Shared → Prop} (X : K.In s.heap) (I : PySem.W.InstAt s.heap x ox C od) (hs : PySem.W.findIn K (.ref C) name = some (some (.builtin id))) (S : ∀ self, bindSpecial (.builtin id) self = pure (.builtin id, [self]))
    (h : wpAny M A (call (.builtin id) (.ref x :: args)) (fun v => Q (some v)) E s) : wpAny M A (callSpecialIfBound? (.ref x) name args) Q E s := by
  simp only [callSpecialIfBound?, bindSpecialIfBound?]
  refine wpAny_holding (wpAny_bind (wpAny_bind (wpAny_bind (I.type.here ((PySem.W.looks_findIn X hs).here ?_)))))
  simp only [S]
  refine wpAny_bind (wpAny_askSetting (wpAny_ite ?_))
  have fin : wpAny M A (call (.builtin id) ([.ref x] ++ args) >>= fun v => pure (some v)) Q E s := wpAny_bind (wpAny_mono h (fun v s' h' => wpAny_pure h') fun _ _ h' => h')
  split
  · exact wpAny_bind (wpAny_pure (wpAny_pure (by exact fin)))
  · exact wpAny_tryCatch (wpAny_bind (wpAny_pure (wpAny_pure (by exact fin))))
theorem check_slot_K {M : Model} {id owner n : String} {rest : List Value} {Q : Unit → Shared → Prop} (hk : builtinKind id = some .slot) (hs : splitId id = some (owner, n))
    (ha : argsOk id ⟨.ref x :: rest, []⟩) (X : K.In s.heap) (I : PySem.W.InstAt s.heap x ox C od) (hsub : PySem.W.subIn K (.ref C) (.type owner) = some true) (hq : Q () s) :
    wpAny M A (checkBuiltinCall id ⟨.ref x :: rest, []⟩) Q E s := by
  simp only [checkBuiltinCall, hk, hs]
  refine wpAny_bind ?_
  unfold isInstance
  refine wpAny_bind (I.type.here ?_)
  refine (PySem.W.looks_subIn X hsub).here ?_
  simp only [Bool.not_true, Bool.false_eq_true, if_false]
  refine wpAny_bind (wpAny_pure ?_)
  cases hsig : Manifest.signature? id with
  | none => exact wpAny_pure hq
  | some sig =>
    simp only [argsOk, hsig] at ha
    have h2 : Bind.checkArgs id sig ⟨.ref x :: rest, []⟩ = pure () := ha
    show wpAny M A (Bind.checkArgs id sig ⟨.ref x :: rest, []⟩) Q E _
    rw [h2]; exact wpAny_pure hq
theorem objNe_K (X : K.In s.heap) (I : PySem.W.InstAt s.heap x ox C od) (he : PySem.W.findIn K (.ref C) "__eq__" = some (some (.ref f))) (hf : PySem.W.isFn K (.ref f) = true) (hu : A.units < cLine) {Q : Fin → Shared → Prop}
    (hcall : wpAny (model prog w) A (call (.ref f) [.ref x, b]) (fun v s' => ∃ t, v = .bool t ∧ Q (.done (.ret (.bool (!t)))) s') E s) :
    wpAny (model prog w) A (Builtin.«object.__ne__» ⟨[.ref x, b], []⟩) Q E s := by
  unfold Builtin.«object.__ne__»
  repeat (first
    | with_reducible refine wpAny_cRoomFor hu ?_
    | (refine wpAny_bind (m := callSpecialIfBound? (.ref x) (Str.ofString "__eq__") [b])
        (PySem.W.ifBound_K X I he hf (wpAny_mono hcall (fun r s' hr => by
          obtain ⟨b, rfl, hq⟩ := hr
          repeat (first | exact hq | exact wpAny_pure hq | exact wpAny_truthy_bool hq | (refine wpAny_bind (m := truthy (.bool _)) (wpAny_truthy_bool ?_)) | wp_step)) fun _ _ e => e)))
    | wp_step)
theorem tryNe_K (X : K.In s.heap) (I : PySem.W.InstAt s.heap x ox C od) (he : PySem.W.findIn K (.ref C) "__eq__" = some (some (.ref f))) (hf : PySem.W.isFn K (.ref f) = true)
    (hs : PySem.W.findIn K (.ref C) "__ne__" = some (some (.builtin "object.__ne__"))) (hsub : PySem.W.subIn K (.ref C) (.type "object") = some true) (hu : A.units + 1 < cLine) {Q : Option Value → Shared → Prop}
    (hcall : wpAny (model prog w) A.in1 (call (.ref f) [.ref x, b]) (fun v s' => ∃ t, v = .bool t ∧ Q (some (.bool (!t))) s') E s) :
    wpAny (model prog w) A (tryCompare (.ref x) "__ne__" b) Q E s := by
  unfold tryCompare
  refine wpAny_bind (ifBound_KB X I hs PySem.F.cmp_object.ne.bind (wpAny_call (codeAny_call_builtin PySem.F.cmp_object.ne.plain PySem.F.cmpEntry_ne
    (check_slot_K PySem.F.cmpKind_ne PySem.F.cmpSplit_ne (PySem.F.cmpArgs_ne _ _) X I hsub
      (objNe_K (A := A.in1) X I he hf hu (wpAny_mono hcall (fun v s' hv => ?_) fun _ _ e => e))))))
  obtain ⟨t, rfl, hq⟩ := hv
  first | exact ⟨t, rfl, wpAny_pure hq⟩ | exact ⟨t, rfl, wpAny_pure (wpAny_pure hq)⟩ | exact ⟨t, rfl, hq⟩
theorem ne_K {Q : Value → Shared → Prop} (hu : A.units + 1 < cLine) (F : Fr h₀ L s.heap m) (X₀ : K.In h₀) (I : PySem.W.InstAt s.heap x ox C od) (hb : PySem.W.Looks (model prog w) s.heap (typeOf b) tb) (hn : PySem.W.notFirst K C tb = true)
    (he : PySem.W.findIn K (.ref C) "__eq__" = some (some (.ref f))) (hf : PySem.W.isFn K (.ref f) = true)
    (hs : PySem.W.findIn K (.ref C) "__ne__" = some (some (.builtin "object.__ne__"))) (hsub : PySem.W.subIn K (.ref C) (.type "object") = some true)
    (h : wpAny (model prog w) A.in1 (call (.ref f) [.ref x, b]) (fun v s' => ∃ t, v = .bool t ∧ Q (.bool (!t)) s') E s) : wpAny (model prog w) A (richCompare .NotEq (.ref x) b) Q E s := by
  have X := X₀.keeps F.keep
  have one : wpAny (model prog w) A (tryCompare (.ref x) (cmpInfo .NotEq).2.1 b) (fun r s' => ∃ v, r = some v ∧ Q v s') E s :=
    tryNe_K X I he hf hs hsub hu (wpAny_mono h (fun v s' ⟨t, e, q⟩ => ⟨t, e, _, rfl, q⟩) fun _ _ e => e)
  unfold richCompare
  simp only [oneThing_ref]
  refine wpAny_holding (wpAny_bind (wpAny_cRoomFor (Nat.lt_of_succ_lt hu) ?_))
  refine wpAny_bind (I.type.here (wpAny_bind (hb.here ?_)))
  split
  · rename_i q
    have e : PySem.W.subIn K tb (.ref C) = some false := by
      rcases Bool.or_eq_true_iff.mp hn with e | e
      · rw [beq_iff_eq.mp e] at q; simp at q
      · exact beq_iff_eq.mp e
    refine wpAny_bind ((PySem.W.looks_subIn X e).here ?_)
    simp only [Bool.false_eq_true, if_false]
    refine wpAny_bind (wpAny_mono one (fun r s' z => ?_) fun _ _ e => e)
    obtain ⟨v, rfl, hq⟩ := z
    exact wpAny_pure hq
  · refine wpAny_bind (wpAny_pure ?_)
    simp only [Bool.false_eq_true, if_false]
    refine wpAny_bind (wpAny_mono one (fun r s' z => ?_) fun _ _ e => e)
    obtain ⟨v, rfl, hq⟩ := z
    exact wpAny_pure hq
end

/-- an own object of a class -/
def isInO (c : Str) : D → Bool
  | .ins c' _ _ => decide (c' = c)
  | _ => false
def cmpO (neg : Bool) (g : D → D → Option D) : List (Str × Fd) → D → D → Pot → Res (D × Pot)
  | [], d, e, π => (ofO (g d e)).bind fun z => .ok (z, π)
  | (c, m) :: cs, d, e, π => if (isInO c d && isInO c e) = true then (m [d, e] π).bind fun z => match z.1 with
    | .bl t => .ok (.bl (if neg then !t else t), z.2)
    | _ => .stuck else cmpO neg g cs d e π
def eCmpO (neg : Bool) (g : D → D → Option D) (cs : List (Str × Fd)) (a b : Ed) : Ed := fun ρ π => (a ρ π).bind fun x => (b ρ x.2).bind fun y => cmpO neg g cs x.1 y.1 y.2
def rOwn (mg : Str → Option Value) (K : PySem.W.Frag) (E : XK) (neg : Bool) (c : Str) (m : Fd) : R2 := fun x y H Q =>
  ∃ C a b da db fa fb, x = .ref a ∧ y = .ref b ∧ mg c = some (.ref C) ∧ H a = some (.ins C da fa) ∧ H b = some (.ins C db fb) ∧ SpD mg K [.f, .f] .f m [x, y] H (fun v H' => ∃ t, v = .bl t ∧ Q (.bl (if neg then !t else t)) H') E
def rOwns (mg : Str → Option Value) (K : PySem.W.Frag) (E : XK) (neg : Bool) (r0 : R2) : List (Str × Fd) → R2
  | [] => r0
  | (c, m) :: cs => fun x y H Q => rOwn mg K E neg c m x y H Q ∨ rOwns mg K E neg r0 cs x y H Q
/-- what a class with an own __eq__ alone has -/
structure EqC (K : PySem.W.Frag) (mg : Str → Option Value) (c : Str) : Prop where
  ex : ∃ C, mg c = some (.ref C) ∧ PySem.W.findIn K (.ref C) "__ne__" = some (some (.builtin "object.__ne__")) ∧ PySem.W.subIn K (.ref C) (.type "object") = some true
def cmpN (neg : Bool) : CmpOp := if neg then .NotEq else .Eq
section
variable {X : Cx} {E : XK} {Γ : List Md} {pos : Pos} {k j : Nat} {a b : Expr} {ta tb : TE} {fa fb : Ed} {c qual : Str} {st : Stmt} {ps : List Str} {m : Fd}
theorem op_own {neg : Bool} (F : DMe X.prog X.w X.K X.mg X.base j c "__eq__" qual st ps [.f] .f m) (q : EqC X.K X.mg c) (o : XOk X E k)
    (hb : ∀ (kV doc pm : Value) (an : Option Addr) (cdv ct : Value) (us : List Value), us.length = ps.length → bindArgs (PySem.W.fnOf "__eq__" qual (defArgs st) (defBody st) (defScope st) .none kV doc pm an cdv ct) ⟨us, []⟩ = pure (ps.zip us))
    (hj : j + 1 ≤ k := by decide) : OpR X (compareOp (cmpN neg)) (rOwn X.mg X.K E neg c m) := by
  intro pins s σ H x y v u Q I rx ry hq
  obtain ⟨C, a, b, da, db, fa, fb, rfl, rfl, mC, ha, hb', hsp⟩ := hq
  obtain ⟨C', f, fd, h0, h1, h2, h3, h4⟩ := F.ex
  obtain ⟨C'', e0, hne, hsub⟩ := q.ex
  rw [mC] at h0 e0
  cases h0
  cases e0
  cases rx
  cases ry
  obtain ⟨mA, J, _⟩ := ins_get I.hok ha
  obtain ⟨mB, J', _⟩ := ins_get I.hok hb'
  obtain ⟨od, J, _⟩ := J.look
  obtain ⟨od', J', _⟩ := J'.look
  obtain ⟨mm, hF⟩ := I.fr
  have hn : PySem.W.notFirst X.K C (.ref C) = true := by simp [PySem.W.notFirst]
  have hl : [Value.ref a, Value.ref b].length = ps.length := by
    have e := h4.len _ _ _ _ hsp
    simpa using e
  have bd : BindsTo s fd ⟨[.ref a, .ref b], ([] : List Str).zip ([] : List Value)⟩ (ps.zip ([.ref a, .ref b] ++ [])) := by
    obtain ⟨oc, od, kV, doc, pm, an, cdv, ct, osl, rfl, lk, hcd⟩ := h3.ex
    rw [List.append_nil]
    exact .of_eq (hb kV doc pm an cdv ct _ hl)
  have r2 : Vals [V.ref a, V.ref b] ([Value.ref a, Value.ref b] ++ []) := .cons rfl (.cons rfl .nil)
  cases neg with
  | false =>
    show wpAny _ X.A (richCompare .Eq (.ref a) (.ref b)) _ _ _
    refine PySem.W.cmp_K (op := .Eq) (tb := .ref C) o.u0 hF I.ok.mod.kin J J'.type hn h2.at_ h2.fn ?_
    refine wpAny_mono (run_go (args := ⟨[.ref a, .ref b], []⟩) (kn := []) (ws := []) h4 o (Nat.le_of_succ_le hj) bd I r2 hsp) (fun w s' z => ?_) fun _ _ z => z
    obtain ⟨z, H', I', rz, t, rfl, ez⟩ := z
    cases rz
    exact ⟨.bl t, H', I', rfl, ez⟩
  | true =>
    show wpAny _ X.A (richCompare .NotEq (.ref a) (.ref b)) _ _ _
    refine ne_K (tb := .ref C) o.u1 hF I.ok.mod.kin J J'.type hn h2.at_ h2.fn hne hsub ?_
    have e0 : Env0 X.prog X.w X.K X.mg X.base X.A.in1 X.stack s H := by
      have e := I.env0
      exact ⟨e.frames, e.mod, e.bs, e.bsz, e.funs, e.frf, e.hok, e.bare⟩
    refine wpAny_call (codeAny_mono (h4.run X.A.in1 X.stack s H _ _ _ _ E ((o.room.mono hj).in1) o.gd e0 bd r2 hsp) fun res s' z => ?_)
    match res, z with
    | .error e, z => exact o.pass pins σ H s e s' I z
    | .ok (.ret w), z =>
      obtain ⟨z, H', I', rz, t, rfl, ez⟩ := I.after z
      cases rz
      exact ⟨t, rfl, .bl (!t), H', I', rfl, ez⟩
/-- all the classes, with what comes besides -/
inductive Owns (X : Cx) (E : XK) (neg : Bool) : List (Str × Fd) → Prop where
  | nil : Owns X E neg []
  | cons {c : Str} {m : Fd} {cs : List (Str × Fd)} : OpR X (compareOp (cmpN neg)) (rOwn X.mg X.K E neg c m) → Owns X E neg cs → Owns X E neg ((c, m) :: cs)
theorem op_owns {neg : Bool} {r0 : R2} (h0 : OpR X (compareOp (cmpN neg)) r0) : ∀ {cs : List (Str × Fd)}, Owns X E neg cs → OpR X (compareOp (cmpN neg)) (rOwns X.mg X.K E neg r0 cs)
  | _, .nil => h0
  | _, .cons h t => h.or (op_owns h0 t)
theorem sem_cmpO {neg : Bool} {r0 : R2} {g : D → D → Option D} (hg : SemOp X.mg X.K r0 .f g) (cs : List (Str × Fd)) (ha : SemE X.mg X.K E .f Γ ta fa) (hb : SemE X.mg X.K E .f Γ tb fb) :
    SemE X.mg X.K E .f Γ (tOp (rOwns X.mg X.K E neg r0 cs) ta tb) (eCmpO neg g cs fa fb) := by
  intro pot M σ H ρ π I p Q h
  refine Post.seq (r' := .f) (te := ta σ H) h p (fun Q' hq => ha pot M σ H ρ π I p Q' hq) fun d π1 v H1 _ g1 p1 r1 h1 => ?_
  refine Post.seq (r' := .f) (te := tb σ H1) h1 p1 (fun Q' hq => hb pot M σ H1 ρ π1 (I.grow g1 p1) p1 Q' hq) fun e π2 w H2 _ g2 p2 r2' h2 => ?_
  have I1 := I.grow g1 p1
  have I2 := I1.grow g2 p2
  have r1' : Rp X.mg X.K (less H2 M) v d := Rp.mono (less_grow I.pm g2) r1
  have r2 : Rp X.mg X.K (less H2 M) w e := r2'
  dsimp only at h2
  clear h h1
  induction cs with
  | nil =>
    unfold cmpO at h2
    cases hz : g d e with
    | none => rw [hz] at h2; exact h2.elim
    | some z =>
      rw [hz] at h2
      simp only [ofO_some, Res.bind_ok] at h2
      exact hg pot M H2 v w d e z I2.al I.pm (fun a e => p2.has a e) (.inl r1') (.inl r2) hz Q fun x H' sm rr => h2 x H' (.of_same sm) (p2.same sm) rr
  | cons q cs ih =>
    obtain ⟨c, m⟩ := q
    unfold cmpO at h2
    by_cases hc : (isInO c d && isInO c e) = true
    · rw [if_pos hc] at h2
      refine .inl ?_
      obtain ⟨hd, he⟩ := Bool.and_eq_true_iff.mp hc
      cases d with
      | ins c1 n1 x1 =>
        cases e with
        | ins c2 n2 x2 =>
          simp only [isInO, decide_eq_true_eq] at hd he
          subst hd
          subst he
          obtain ⟨a, C, da, fa, rfl, mC, hA, _, _⟩ := rb_ins (.inl r1' : Rb X.mg X.K pot M H2 v _)
          obtain ⟨b, C', db, fb, rfl, mC', hB, _, _⟩ := rb_ins (.inl r2 : Rb X.mg X.K pot M H2 w _)
          rw [mC] at mC'
          cases mC'
          refine ⟨C, a, b, da, db, fa, fb, rfl, rfl, mC, hA, hB, rfl, pot, M, _, π2, .cons r1' (.cons r2 .nil), I2.al, I.pm, p2, ?_⟩
          cases hz : m [D.ins _ n1 x1, D.ins _ n2 x2] π2 with
          | err c ns xs π' => rw [hz] at h2; exact h2
          | stuck => rw [hz] at h2; exact h2.elim
          | ok z =>
            obtain ⟨z, π3⟩ := z
            rw [hz] at h2
            simp only [Res.bind_ok] at h2
            intro x H' gr pp rr
            cases z with
            | bl t =>
              have ex : x = .bl t := rb_bl' (pot := pot) (M := M) (.inl rr)
              subst ex
              exact ⟨t, rfl, h2 (.bl (if neg then !t else t)) H' gr pp (.bl _)⟩
            | _ => exact h2.elim
        | _ => cases he
      | _ => cases hd
    · rw [if_neg hc] at h2
      exact .inr (ih h2)
theorem de_cmpO {neg : Bool} {r0 : R2} {g : D → D → Option D} (cs : List (Str × Fd)) (o : OpR X (compareOp (cmpN neg)) r0 ∧ SemOp X.mg X.K r0 .f g) (hs : Owns X E neg cs) (ha : DE X E .f Γ a ta fa) (hb : DE X E .f Γ b tb fb) (hm : behindInMarks (cmpN neg) b = false := by rfl) :
    DE X E .f Γ (.Compare a [cmpN neg] [b] pos) (tOp (rOwns X.mg X.K E neg r0 cs) ta tb) (eCmpO neg g cs fa fb) :=
  ⟨pe_cmpR (op_owns o.1 hs) ha.pe hb.pe hm, sem_cmpO o.2 cs ha.sem hb.sem⟩
theorem dt_eqO {r0 : R2} {g : D → D → Option D} (cs : List (Str × Fd)) (o : OpR X (compareOp .Eq) r0 ∧ SemOp X.mg X.K r0 .f g) (hs : Owns X E false cs) (ha : DE X E .f Γ a ta fa) (hb : DE X E .f Γ b tb fb) (hm : behindInMarks .Eq b = false := by rfl) :
    DT X E Γ (.Compare a [.Eq] [b] pos) (tTest (tOp (rOwns X.mg X.K E false r0 cs) ta tb)) (tBl (eCmpO false g cs fa fb)) := ⟨pt_cmpR (op_owns (neg := false) o.1 hs) ha.pe hb.pe hm, sem_bl (sem_cmpO o.2 cs ha.sem hb.sem)⟩
theorem dt_neO {r0 : R2} {g : D → D → Option D} (cs : List (Str × Fd)) (o : OpR X (compareOp .NotEq) r0 ∧ SemOp X.mg X.K r0 .f g) (hs : Owns X E true cs) (ha : DE X E .f Γ a ta fa) (hb : DE X E .f Γ b tb fb) (hm : behindInMarks .NotEq b = false := by rfl) :
    DT X E Γ (.Compare a [.NotEq] [b] pos) (tTest (tOp (rOwns X.mg X.K E true r0 cs) ta tb)) (tBl (eCmpO true g cs fa fb)) := ⟨pt_cmpR (op_owns (neg := true) o.1 hs) ha.pe hb.pe hm, sem_bl (sem_cmpO o.2 cs ha.sem hb.sem)⟩
theorem de_eqO {r0 : R2} {g : D → D → Option D} (cs : List (Str × Fd)) (o : OpR X (compareOp .Eq) r0 ∧ SemOp X.mg X.K r0 .f g) (hs : Owns X E false cs) (ha : DE X E .f Γ a ta fa) (hb : DE X E .f Γ b tb fb) (hm : behindInMarks .Eq b = false := by rfl) :
    DE X E .f Γ (.Compare a [.Eq] [b] pos) (tOp (rOwns X.mg X.K E false r0 cs) ta tb) (eCmpO false g cs fa fb) := de_cmpO (neg := false) cs o hs ha hb hm
theorem de_neO {r0 : R2} {g : D → D → Option D} (cs : List (Str × Fd)) (o : OpR X (compareOp .NotEq) r0 ∧ SemOp X.mg X.K r0 .f g) (hs : Owns X E true cs) (ha : DE X E .f Γ a ta fa) (hb : DE X E .f Γ b tb fb) (hm : behindInMarks .NotEq b = false := by rfl) :
    DE X E .f Γ (.Compare a [.NotEq] [b] pos) (tOp (rOwns X.mg X.K E true r0 cs) ta tb) (eCmpO true g cs fa fb) := de_cmpO (neg := true) cs o hs ha hb hm
end
@[simp] theorem eCmpO_ap (neg : Bool) (g : D → D → Option D) (cs : List (Str × Fd)) (a b : Ed) (ρ : Rho) (π : Pot) : eCmpO neg g cs a b ρ π = (a ρ π).bind fun x => (b ρ x.2).bind fun y => cmpO neg g cs x.1 y.1 y.2 := rfl
theorem cmpO_ins {neg : Bool} {g : D → D → Option D} {c : Str} {m : Fd} {cs : List (Str × Fd)} {d e : D} {π π' : Pot} {t : Bool} (hd : isInO c d = true) (he : isInO c e = true) (h : m [d, e] π = .ok (.bl t, π')) : cmpO neg g ((c, m) :: cs) d e π = .ok (.bl (if neg then !t else t), π') := by
  unfold cmpO
  rw [hd, he, h]
  rfl
end DL

set_option maxHeartbeats 2000000
/-! sorted of lists of int tuples. -/
namespace DL
open PySem PySem.Spec PyProof.Rows L2
def tupZ (ns : List Int) : D := .tup (ns.map D.int)
def asTs : List D → Option (List (List Int))
  | [] => some []
  | .tup xs :: r => (asInts xs).bind fun ns => (asTs r).map (ns :: ·)
  | _ => none
theorem asTs_eq : ∀ {ds : List D} {L : List (List Int)}, asTs ds = some L → ds = L.map tupZ
  | [], L, h => by cases h; rfl
  | d :: r, L, h => by
    cases d with
    | tup xs =>
      simp only [asTs, Option.bind_eq_some_iff, Option.map_eq_some_iff] at h
      obtain ⟨ns, h1, L', h2, rfl⟩ := h
      rw [List.map_cons, ← asTs_eq h2, tupZ, ← asInts_eq h1]
    | _ => cases h
def insT (x : List Int) : List (List Int) → List (List Int)
  | [] => [x]
  | y :: r => if TS.code 1024 x ≤ TS.code 1024 y then x :: y :: r else y :: insT x r
def sortT : List (List Int) → List (List Int)
  | [] => []
  | x :: r => insT x (sortT r)
theorem insT_perm (x : List Int) : ∀ L, (insT x L).Perm (x :: L)
  | [] => .refl _
  | y :: r => by
    unfold insT
    split
    · exact .refl _
    · exact ((insT_perm x r).cons y).trans (.swap x y r)
theorem sortT_perm : ∀ L, (sortT L).Perm L
  | [] => .refl _
  | x :: r => (insT_perm x _).trans ((sortT_perm r).cons x)
def leT (x y : List Int) : Prop := TS.code 1024 x ≤ TS.code 1024 y
theorem insT_sorted (x : List Int) : ∀ L, L.Pairwise leT → (insT x L).Pairwise leT
  | [], _ => List.pairwise_singleton ..
  | y :: r, h => by
    rw [List.pairwise_cons] at h
    unfold insT
    split
    · rename_i q
      rw [List.pairwise_cons, List.pairwise_cons]
      refine ⟨fun z hz => ?_, h⟩
      rcases List.mem_cons.mp hz with rfl | hz
      · exact q
      · exact Int.le_trans q (h.1 z hz)
    · rename_i q
      rw [List.pairwise_cons]
      refine ⟨fun z hz => ?_, insT_sorted x r h.2⟩
      rcases List.mem_cons.mp ((insT_perm x r).mem_iff.mp hz) with rfl | hz
      · exact Int.le_of_lt (Int.not_le.mp q)
      · exact h.1 z hz
theorem sortT_sorted : ∀ L, (sortT L).Pairwise leT
  | [] => .nil
  | x :: r => insT_sorted x _ (sortT_sorted r)
theorem code_inj {B : Int} : ∀ {ns ms : List Int}, ns.length = ms.length → TS.Bd B ns → TS.Bd B ms → TS.code B ns = TS.code B ms → ns = ms
  | [], [], _, _, _, _ => rfl
  | x :: ns, y :: ms, hl, h1, h2, h => by
    have hl' : ns.length = ms.length := by simpa using hl
    have e : x = y := by
      apply Classical.byContradiction
      intro hn
      rcases Int.lt_or_gt_of_ne hn with q | q
      · have := TS.code_lt hl' h1.tail h2.tail q; omega
      · have := TS.code_lt hl'.symm h2.tail h1.tail q; omega
    subst e
    have : TS.code B ns = TS.code B ms := by
      have h' : x * B ^ ns.length + TS.code B ns = x * B ^ ms.length + TS.code B ms := h
      rw [hl'] at h'
      omega
    rw [code_inj hl' h1.tail h2.tail this]
def fitT (d : Nat) (ns : List Int) : Bool := decide (ns.length = d) && ns.all fun n => decide (0 ≤ n) && decide (n < 1024)
theorem fitT_bd {d : Nat} {ns : List Int} (h : fitT d ns = true) : ns.length = d ∧ TS.Bd 1024 ns := by
  unfold fitT at h
  simp only [Bool.and_eq_true, decide_eq_true_eq, List.all_eq_true] at h
  exact ⟨h.1, fun m hm => h.2 m hm⟩
theorem sorted_T {d : Nat} : ∀ {L Z : List (List Int)}, L.Perm Z → L.Pairwise leT → Z.Pairwise leT → (∀ x ∈ Z, fitT d x = true) → L = Z
  | [], Z, hp, _, _, _ => (List.nil_perm.mp hp).symm
  | x :: L, [], hp, _, _, _ => absurd hp (by simp)
  | x :: L, z :: Z, hp, h1, h2, hb => by
    rw [List.pairwise_cons] at h1 h2
    have hx : x ∈ z :: Z := hp.mem_iff.mp (List.mem_cons_self ..)
    have hz : z ∈ x :: L := hp.mem_iff.mpr (List.mem_cons_self ..)
    have a : leT z x := by
      rcases List.mem_cons.mp hx with rfl | m
      · exact Int.le_refl _
      · exact h2.1 x m
    have b : leT x z := by
      rcases List.mem_cons.mp hz with rfl | m
      · exact Int.le_refl _
      · exact h1.1 z m
    obtain ⟨l1, d1⟩ := fitT_bd (hb x hx)
    obtain ⟨l2, d2⟩ := fitT_bd (hb z (List.mem_cons_self ..))
    have e : x = z := code_inj (l1.trans l2.symm) d1 d2 (Int.le_antisymm b a)
    subst e
    rw [sorted_T (List.Perm.cons_inv hp) h1.2 h2.2 fun y hy => hb y (List.mem_cons_of_mem _ hy)]
def fSortA : List D → Option D
  | [.lst xs] => match asInts xs with
    | some ns => some (.lst ((sortI ns).map D.int))
    | none => match asTs xs with
      | some L => if L.length < 64 then (if L.all (fitT 2) = true then some (.lst ((sortT L).map tupZ)) else if L.all (fitT 3) = true then some (.lst ((sortT L).map tupZ)) else none) else none
      | none => none
  | _ => none
section
variable {X : Cx} {mg : Str → Option Value} {K : PySem.W.Frag} {H : Hp} {M : List Addr} {pot : Option Addr}
theorem rpL_perm {H : Hp} {xs ys : List V} (p : ys.Perm xs) : ∀ {ds : List D}, RpL mg K H xs ds → ∃ es, es.Perm ds ∧ RpL mg K H ys es := by
  induction p with
  | nil => intro ds r; exact ⟨ds, .refl _, r⟩
  | cons x _ ih =>
    intro ds r
    cases r with
    | cons a t =>
      obtain ⟨es, h1, h2⟩ := ih t
      exact ⟨_, h1.cons _, .cons a h2⟩
  | swap x y l =>
    intro ds r
    cases r with
    | cons a t => cases t with
      | cons b t => exact ⟨_, .swap _ _ _, .cons b (.cons a t)⟩
  | trans _ _ ih1 ih2 =>
    intro ds r
    obtain ⟨es, h1, h2⟩ := ih2 r
    obtain ⟨fs, h3, h4⟩ := ih1 h2
    exact ⟨fs, h3.trans h1, h4⟩
/-- data that are tuples of ints, as the heap has them -/
theorem rp_tupZ {v : V} {ns : List Int} (r : Rp mg K H v (tupZ ns)) : TupI K H v ns := by
  obtain ⟨p, xs, rfl, h1, h2⟩ := rb_tup (pot := none) (M := []) (H := H) (.inl (r.mono fun a o h => less_some.mpr ⟨by simp, h⟩))
  exact ⟨p, rfl, sqT_mono (H := less H []) less_le (by rw [← h2.iz]; exact h1)⟩
theorem sq_le {a : Addr} {xs : List V} (h : SqT K (less H M) a xs) : SqT K H a xs := sqT_mono less_le h
theorem tupI_le {v : V} {ns : List Int} (h : TupI K (less H M) v ns) : TupI K H v ns := by
  obtain ⟨t, e, h⟩ := h
  exact ⟨t, e, sq_le h⟩
theorem pair_codes : ∀ {ys : List V} {L : List (List Int)}, RpL mg K (less H M) ys (L.map tupZ) → ys.Pairwise (fun x y => ∀ n m, TupI K H x n → TupI K H y m → TS.code 1024 n ≤ TS.code 1024 m) → L.Pairwise leT
  | [], [], _, _ => .nil
  | y :: ys, n :: L, r, h => by
    cases r with
    | cons a t =>
      rw [List.pairwise_cons] at h ⊢
      refine ⟨fun m hm => ?_, pair_codes t h.2⟩
      obtain ⟨i, hi⟩ := List.getElem?_of_mem hm
      obtain ⟨w, e1, e2⟩ := t.get (i := i) (d := tupZ m) (by rw [List.getElem?_map, hi]; rfl)
      exact h.1 w (List.mem_of_getElem? e1) n m (tupI_le (rp_tupZ a)) (tupI_le (rp_tupZ e2))
theorem perm_unmap {es : List D} {L : List (List Int)} (h : es.Perm (L.map tupZ)) : ∃ L' : List (List Int), es = L'.map tupZ ∧ L'.Perm L := by
  have hinj : ∀ es : List D, (∀ e ∈ es, ∃ n, e = tupZ n) → ∃ L' : List (List Int), es = L'.map tupZ := fun es => by
    induction es with
    | nil => intro _; exact ⟨[], rfl⟩
    | cons e es ih =>
      intro he
      obtain ⟨n, rfl⟩ := he e (List.mem_cons_self ..)
      obtain ⟨L', rfl⟩ := ih fun x hx => he x (List.mem_cons_of_mem _ hx)
      exact ⟨n :: L', rfl⟩
  obtain ⟨L', rfl⟩ := hinj es fun e he => by
    obtain ⟨n, _, rfl⟩ := List.mem_map.mp (h.mem_iff.mp he)
    exact ⟨n, rfl⟩
  refine ⟨L', rfl, ?_⟩
  have hi : Function.Injective tupZ := fun a b e => by
    have e' : a.map D.int = b.map D.int := by simpa [tupZ] using e
    exact (List.map_inj_right (fun x y h => by cases h; rfl)).mp e'
  have back : ∀ l : List (List Int), (l.map tupZ).map (fun d => ((match d with | .tup xs => (asInts xs).getD [] | _ => []) : List Int)) = l := fun l => by
    rw [List.map_map]
    conv => rhs; rw [← List.map_id l]
    apply List.map_congr_left
    intro ns _
    have : asInts (ns.map D.int) = some ns := by
      induction ns with
      | nil => rfl
      | cons x ns ih => simp [asInts, ih]
    simp [tupZ, this]
  have := h.map (fun d => ((match d with | .tup xs => (asInts xs).getD [] | _ => []) : List Int))
  rwa [back, back] at this
theorem sortU_ok {d : Nat} {v : V} {L : List (List Int)} (hL : L.length < 64) (hf : L.all (fitT d) = true) (ph : ∀ a, pot = some a → H a ≠ none) (h : Rb mg K pot M H v (.lst (L.map tupZ))) {Q : VK}
    (q : ∀ w H', Same H H' → RpR mg K .o pot M H H' w (.lst ((sortT L).map tupZ)) → Q w H') : rSortU K d 1024 [v] H Q := by
  obtain ⟨p, xs, rfl, h1, r1⟩ := rb_lst h
  have hf' : ∀ x ∈ L, fitT d x = true := List.all_eq_true.mp hf
  refine ⟨p, xs, rfl, .inl (.inl h1), by rw [r1.length, List.length_map]; exact hL, fun x hx => ?_, fun ys c hp hs hn => ?_⟩
  · obtain ⟨i, hi⟩ := List.getElem?_of_mem hx
    obtain ⟨e, e1, e2⟩ := r1.getV hi
    rw [List.getElem?_map, Option.map_eq_some_iff] at e1
    obtain ⟨ns, e3, rfl⟩ := e1
    obtain ⟨l1, l2⟩ := fitT_bd (hf' ns (List.mem_of_getElem? e3))
    exact ⟨ns, tupI_le (rp_tupZ e2), l1, l2⟩
  · obtain ⟨es, p1, r2⟩ := rpL_perm hp r1
    obtain ⟨L', rfl, p2⟩ := perm_unmap p1
    have e : L' = sortT L := sorted_T (d := d) (p2.trans (sortT_perm L).symm) (pair_codes r2 hs) (sortT_sorted L) fun x hx => hf' x ((sortT_perm L).mem_iff.mp hx)
    subst e
    exact q _ _ (same_upd hn) (new_lst ph hn r2)
theorem c_sortA : CallOk X (.builtin "sorted") (fun vs H Q => rSortedI X.K vs H Q ∨ rSortU X.K 2 1024 vs H Q ∨ rSortU X.K 3 1024 vs H Q) [.b] .o fSortA := ⟨cr_sortedI.or ((cr_sortT (by decide)).or (cr_sortT (by decide))), fun pot M H vs ds z al pm ph a hz Q q => by
  obtain ⟨v, d, rfl, rfl, h⟩ := arg1 a
  unfold fSortA at hz
  split at hz
  · rename_i xs e
    cases e
    split at hz
    · rename_i ns en
      cases hz
      have hz' : fSortI [.lst xs] = some (.lst ((sortI ns).map D.int)) := by simp [fSortI, onInts, en]
      exact .inl (c_sortI.2 pot M H _ _ _ al pm ph (.cons h .nil) hz' Q q)
    · split at hz
      · rename_i L eL
        rw [asTs_eq eL] at h
        split at hz
        · rename_i hl
          split at hz
          · rename_i h2
            cases hz
            exact .inr (.inl (sortU_ok hl h2 ph h q))
          · split at hz
            · rename_i h3
              cases hz
              exact .inr (.inr (sortU_ok hl h3 ph h q))
            · cases hz
        · cases hz
      · cases hz
  · cases hz⟩
end
@[simp] theorem fSortA_iz (ns : List Int) : fSortA [.lst (ns.map D.int)] = some (.lst ((sortI ns).map D.int)) := by
  simp [fSortA, asInts_iz]
end DL

set_option maxHeartbeats 4000000
namespace LW
open PySem PySem.Spec PyProof.Rows L2 DL
def topS (i : Nat) : Stmt := PySem.Challenge.pw_pointrows_k52_whole_stairs_have_their_ro.main.body.getD i (.Pass ⟨0, 0, 0, 0⟩)
abbrev s_l_draw : Stmt := topS 78
def f_l_draw : Fs := (sSeq (sIf (tBl (eBin (cmpI fun i j => decide (j < i)) ePot0 (eC (.int 0)))) (sSeq (sPotDm 2 (eVar 1)) (sRet (eVar 2))) sNext) (sSeq (sPot1 (eBin opMod (eApp fInt (aCons (eBin opAdd (eBin opMulA ePot1
    (eC (.int 39373))) (eC (.int 7027))) aNil)) (eC (.int 2147483587)))) (sRet (eBin opMod (eApp fInt (aCons (eBin opFdivW (eBin opMod (eApp fInt (aCons (eBin opMulA ePot1 ePot1) aNil)) (eC (.int
    2147483563))) (eC (.int 17))) aNil)) (eVar 1)))))
def m_l_draw : Fd := runD 3 .f f_l_draw
abbrev s_l_row : Stmt := topS 80
def f_l_row_b1 : Fs := (sIf (tBl (eBin (cmpI fun i j => decide (j < i)) (eBin opFdivW (eBin opMulA (eVar 2) (eBin opAdd (eVar 2) (eC (.int 1)))) (eC (.int 2))) (eVar 1))) (sSet 2 (eBin opSub (eVar 2) (eC (.int 1)))) sNext)
theorem f_l_row_b1_ap (ρ : Rho) (π : Pot) : f_l_row_b1 ρ π = (sIf (tBl (eBin (cmpI fun i j => decide (j < i)) (eBin opFdivW (eBin opMulA (eVar 2) (eBin opAdd (eVar 2) (eC (.int 1)))) (eC (.int 2))) (eVar 1))) (sSet 2 (eBin opSub (eVar 2) (eC (.int 1)))) sNext) ρ π := rfl
theorem pu_f_l_row_b1 : PX f_l_row_b1 := (pu_if (pu_tbl (pu_bin (pu_bin (pu_bin pu_var (pu_bin pu_var pu_c)) pu_c) pu_var)) (pu_set (pu_bin pu_var pu_c)) pu_next)
def f_l_row_b2 : Fs := (sSeq (sSet 5 (eApp fMin2 (aCons (eBin opIx (eVar 4) (eUn opNeg (eC (.int 1)))) (aCons (eBin opSub (eVar 1) (eApp fSum (aCons (eVar 4) aNil))) aNil)))) (sSeq (sIf (tOrD (tBl (eBin (cmpI fun i j =>
    decide (i < j)) (eVar 5) (eC (.int 1)))) (tBl (eBin opEq (eApp fLen (aCons (eVar 4) aNil)) (eC (.int 9))))) (sRet (eVar 4)) sNext) (sApp 4 (eBin opAdd (eC (.int 1)) (eGo m_l_draw (aCons (eC .non)
    (aCons (eVar 5) aNil)))))))
theorem f_l_row_b2_ap (ρ : Rho) (π : Pot) : f_l_row_b2 ρ π = (sSeq (sSet 5 (eApp fMin2 (aCons (eBin opIx (eVar 4) (eUn opNeg (eC (.int 1)))) (aCons (eBin opSub (eVar 1) (eApp fSum (aCons (eVar 4) aNil))) aNil)))) (sSeq (sIf (tOrD (tBl (eBin (cmpI fun i j =>
    decide (i < j)) (eVar 5) (eC (.int 1)))) (tBl (eBin opEq (eApp fLen (aCons (eVar 4) aNil)) (eC (.int 9))))) (sRet (eVar 4)) sNext) (sApp 4 (eBin opAdd (eC (.int 1)) (eGo m_l_draw (aCons (eC .non)
    (aCons (eVar 5) aNil))))))) ρ π := rfl
def f_l_row : Fs := (sSeq (sSet 2 (eBin opAdd (eC (.int 1)) (eGo m_l_draw (aCons (eC .non) (aCons (eC (.int 6)) aNil))))) (sSeq (sFor (iRng (aCons (eC (.int 6)) aNil)) (gN 3) f_l_row_b1) (sSeq (sSet 4 (eBin fRg2 (eC (.int
    1)) (eBin opAdd (eVar 2) (eC (.int 1))))) (sSeq (sFor (iRng (aCons (eGo m_l_draw (aCons (eC .non) (aCons (eC (.int 8)) aNil))) aNil)) (gN 3) f_l_row_b2) (sRet (eVar 4))))))
def m_l_row : Fd := runD 6 .o f_l_row
abbrev s_l_passed : Stmt := topS 81
def f_l_passed : Fs := (sRet (eIf (tBl (eBin opEq (eGo m_l_draw (aCons (eC .non) (aCons (eC (.int 2)) aNil))) (eC (.int 0)))) (eApp fTuple (aCons (eVar 1) aNil)) (eApp fList (aCons (eVar 1) aNil))))
def m_l_passed : Fd := runD 2 .f f_l_passed
abbrev s_l_points : Stmt := topS 82
def f_l_points_b1 : Fs := (sIf (tAndD (tBl (eBin (cmpI fun i j => decide (i < j)) (eBin opAdd (eVar 2) (eVar 3)) (eApp fLen (aCons (eVar 0) aNil)))) (tBl (eBin (cmpI fun i j => decide (i < j)) (eVar 3) (eBin opIx (eVar 0) (eBin
    opAdd (eVar 2) (eVar 3)))))) (sApp 1 (eTup (aCons (eBin opAdd (eVar 2) (eVar 3)) (aCons (eVar 3) (aCons (eVar 2) aNil))))) sNext)
theorem f_l_points_b1_ap (ρ : Rho) (π : Pot) : f_l_points_b1 ρ π = (sIf (tAndD (tBl (eBin (cmpI fun i j => decide (i < j)) (eBin opAdd (eVar 2) (eVar 3)) (eApp fLen (aCons (eVar 0) aNil)))) (tBl (eBin (cmpI fun i j => decide (i < j)) (eVar 3) (eBin opIx (eVar 0) (eBin
    opAdd (eVar 2) (eVar 3)))))) (sApp 1 (eTup (aCons (eBin opAdd (eVar 2) (eVar 3)) (aCons (eVar 3) (aCons (eVar 2) aNil))))) sNext) ρ π := rfl
theorem pu_f_l_points_b1 : PX f_l_points_b1 := (pu_if (pu_tand (pu_tbl (pu_bin (pu_bin pu_var pu_var) (pu_app (pu_acons pu_var pu_anil)))) (pu_tbl (pu_bin pu_var (pu_bin pu_var (pu_bin pu_var pu_var))))) (pu_sapp (pu_tup (pu_acons (pu_bin pu_var
    pu_var) (pu_acons pu_var (pu_acons pu_var pu_anil))))) pu_next)
def f_l_points_b2 : Fs := (sFor (iRng (aCons (eC (.int 9)) aNil)) (gN 3) f_l_points_b1)
theorem f_l_points_b2_ap (ρ : Rho) (π : Pot) : f_l_points_b2 ρ π = (sFor (iRng (aCons (eC (.int 9)) aNil)) (gN 3) f_l_points_b1) ρ π := rfl
theorem pu_f_l_points_b2 : PX f_l_points_b2 := (pu_for (pu_irng (pu_acons pu_c pu_anil)) pu_f_l_points_b1)
def f_l_points_e1 : Ed := (eTup (aCons (eVar 2) (aCons (eVar 3) (aCons (eC (.int 1)) aNil))))
theorem f_l_points_e1_ap (ρ : Rho) (π : Pot) : f_l_points_e1 ρ π = (eTup (aCons (eVar 2) (aCons (eVar 3) (aCons (eC (.int 1)) aNil)))) ρ π := rfl
theorem pu_f_l_points_e1 : PX f_l_points_e1 := (pu_tup (pu_acons pu_var (pu_acons pu_var (pu_acons pu_c pu_anil))))
def f_l_points : Fs := (sSeq (sSet 1 (eLst aNil)) (sSeq (sFor (iRng (aCons (eC (.int 9)) aNil)) (gN 2) f_l_points_b2) (sRet (eLC (iVal (eApp fSortA (aCons (eVar 1) aNil))) (gT 3 (gsCons (gN 4) (gsCons (gN 3) (gsCons (gN 2)
    gsNil)))) tTrue f_l_points_e1 [4, 3, 2]))))
def m_l_points : Fd := runD 5 .o f_l_points
theorem pu_f_l_points : PX f_l_points := (pu_seq (pu_set (pu_lst pu_anil)) (pu_seq (pu_for (pu_irng (pu_acons pu_c pu_anil)) pu_f_l_points_b2) (pu_ret (pu_lc (pu_ival (pu_app (pu_acons pu_var pu_anil))) pu_true pu_f_l_points_e1))))
theorem pu_m_l_points : PF m_l_points := pu_runD pu_f_l_points
abbrev s_c_Spots___eq__ : Stmt := inClass (topS 38) 2
def f_c_Spots___eq__ : Fs := (sRet (eAnd (eUn (fIsC "Spots" ["Spots", "Told"]) (eVar 1)) (eBin opEq (eUn (fldD "Spots" "own_points") (eVar 0)) (eUn (fldD "Spots" "own_points") (eVar 1)))))
def m_c_Spots___eq__ : Fd := runD 2 .f f_c_Spots___eq__
theorem pu_f_c_Spots___eq__ : PX f_c_Spots___eq__ := (pu_ret (pu_and (pu_un pu_var) (pu_bin (pu_un pu_var) (pu_un pu_var))))
theorem pu_m_c_Spots___eq__ : PF m_c_Spots___eq__ := pu_runD pu_f_c_Spots___eq__
abbrev s_l_pick : Stmt := topS 79
def f_l_pick : Fs := (sRet (eBin opIx (eVar 1) (eGo m_l_draw (aCons (eC .non) (aCons (eApp fLen (aCons (eVar 1) aNil)) aNil)))))
def m_l_pick : Fd := runD 2 .f f_l_pick
abbrev s_p_is_list : Stmt := topS 18
def f_p_is_list : Fs := (sRet (eUn (fIsA ["Spots", "Told"] ["list", "tuple"]) (eVar 0)))
def m_p_is_list : Fd := runD 1 .f f_p_is_list
theorem pu_f_p_is_list : PX f_p_is_list := (pu_ret (pu_un pu_var))
theorem pu_m_p_is_list : PF m_p_is_list := pu_runD pu_f_p_is_list
abbrev s_p_divisor_of : Stmt := topS 21
def f_p_divisor_of_b1 : Fs := (sSeq (sSet 1 (eApp fGcd (aCons (eVar 1) (aCons (eVar 2) aNil)))) (sIf (tBl (eBin opEq (eVar 1) (eC (.int 1)))) (sRet (eC (.int 1))) sNext))
theorem f_p_divisor_of_b1_ap (ρ : Rho) (π : Pot) : f_p_divisor_of_b1 ρ π = (sSeq (sSet 1 (eApp fGcd (aCons (eVar 1) (aCons (eVar 2) aNil)))) (sIf (tBl (eBin opEq (eVar 1) (eC (.int 1)))) (sRet (eC (.int 1))) sNext)) ρ π := rfl
theorem pu_f_p_divisor_of_b1 : PX f_p_divisor_of_b1 := (pu_seq (pu_set (pu_app (pu_acons pu_var (pu_acons pu_var pu_anil)))) (pu_if (pu_tbl (pu_bin pu_var pu_c)) (pu_ret pu_c) pu_next))
def f_p_divisor_of : Fs := (sSeq (sSet 1 (eC (.int 0))) (sSeq (sFor (iVal (eVar 0)) (gN 2) f_p_divisor_of_b1) (sRet (eVar 1))))
def m_p_divisor_of : Fd := runD 3 .f f_p_divisor_of
theorem pu_f_p_divisor_of : PX f_p_divisor_of := (pu_seq (pu_set pu_c) (pu_seq (pu_for (pu_ival pu_var) pu_f_p_divisor_of_b1) (pu_ret pu_var)))
theorem pu_m_p_divisor_of : PF m_p_divisor_of := pu_runD pu_f_p_divisor_of
abbrev s_p_plain : Stmt := topS 22
def f_p_plain_e1 : Ed := (eBin opFdivW (eVar 2) (eVar 1))
theorem f_p_plain_e1_ap (ρ : Rho) (π : Pot) : f_p_plain_e1 ρ π = (eBin opFdivW (eVar 2) (eVar 1)) ρ π := rfl
theorem pu_f_p_plain_e1 : PX f_p_plain_e1 := (pu_bin pu_var pu_var)
def f_p_plain : Fs := (sSeq (sSet 1 (eGo m_p_divisor_of (aCons (eVar 0) aNil))) (sRet (eIf (tBl (eBin (cmpI fun i j => decide (j < i)) (eVar 1) (eC (.int 1)))) (eLC (iVal (eVar 0)) (gN 2) tTrue f_p_plain_e1 [2]) (eApp fList
    (aCons (eVar 0) aNil)))))
def m_p_plain : Fd := runD 3 .o f_p_plain
theorem pu_f_p_plain : PX f_p_plain := (pu_seq (pu_set (pu_go pu_m_p_divisor_of (pu_acons pu_var pu_anil))) (pu_ret (pu_eif (pu_tbl (pu_bin pu_var pu_c)) (pu_lc (pu_ival pu_var) pu_true pu_f_p_plain_e1) (pu_app (pu_acons pu_var pu_anil)))))
theorem pu_m_p_plain : PF m_p_plain := pu_runD pu_f_p_plain
abbrev s_p_lead_place : Stmt := topS 23
def f_p_lead_place_b1 : Fs := (sIf (tBl (eBin opNe (eVar 2) (eC (.int 0)))) (sRet (eVar 1)) sNext)
theorem f_p_lead_place_b1_ap (ρ : Rho) (π : Pot) : f_p_lead_place_b1 ρ π = (sIf (tBl (eBin opNe (eVar 2) (eC (.int 0)))) (sRet (eVar 1)) sNext) ρ π := rfl
theorem pu_f_p_lead_place_b1 : PX f_p_lead_place_b1 := (pu_if (pu_tbl (pu_bin pu_var pu_c)) (pu_ret pu_var) pu_next)
def f_p_lead_place : Fs := (sSeq (sFor (iEnumD (aCons (eVar 0) aNil)) (gT 2 (gsCons (gN 1) (gsCons (gN 2) gsNil))) f_p_lead_place_b1) (sRet (eC .non)))
def m_p_lead_place : Fd := runD 3 .f f_p_lead_place
theorem pu_f_p_lead_place : PX f_p_lead_place := (pu_seq (pu_for (pu_ienumd (pu_acons pu_var pu_anil)) pu_f_p_lead_place_b1) (pu_ret pu_c))
theorem pu_m_p_lead_place : PF m_p_lead_place := pu_runD pu_f_p_lead_place
abbrev s_p_signed : Stmt := topS 24
def f_p_signed_e1 : Ed := (eBin opSub (eC (.int 0)) (eVar 3))
theorem f_p_signed_e1_ap (ρ : Rho) (π : Pot) : f_p_signed_e1 ρ π = (eBin opSub (eC (.int 0)) (eVar 3)) ρ π := rfl
theorem pu_f_p_signed_e1 : PX f_p_signed_e1 := (pu_bin pu_c pu_var)
def f_p_signed : Fs := (sSeq (sSet 1 (eGo m_p_plain (aCons (eVar 0) aNil))) (sSeq (sSet 2 (eGo m_p_lead_place (aCons (eVar 1) aNil))) (sRet (eIf (tOrD (tBl (eBin opIsN (eVar 2) (eC .non))) (tBl (eBin (cmpI fun i j => decide
    (j < i)) (eBin opIx (eVar 1) (eVar 2)) (eC (.int 0))))) (eVar 1) (eLC (iVal (eVar 1)) (gN 3) tTrue f_p_signed_e1 [3])))))
def m_p_signed : Fd := runD 4 .f f_p_signed
theorem pu_f_p_signed : PX f_p_signed := (pu_seq (pu_set (pu_go pu_m_p_plain (pu_acons pu_var pu_anil))) (pu_seq (pu_set (pu_go pu_m_p_lead_place (pu_acons pu_var pu_anil))) (pu_ret (pu_eif (pu_tor (pu_tbl (pu_bin pu_var pu_c)) (pu_tbl
    (pu_bin (pu_bin pu_var pu_var) pu_c))) pu_var (pu_lc (pu_ival pu_var) pu_true pu_f_p_signed_e1)))))
theorem pu_m_p_signed : PF m_p_signed := pu_runD pu_f_p_signed
abbrev s_p_told_of : Stmt := topS 31
def f_p_told_of : Fs := (sRet (eApp fTuple (aCons (eGo m_p_signed (aCons (eVar 0) aNil)) aNil)))
def m_p_told_of : Fd := runD 1 .f f_p_told_of
theorem pu_f_p_told_of : PX f_p_told_of := (pu_ret (pu_app (pu_acons (pu_go pu_m_p_signed (pu_acons pu_var pu_anil)) pu_anil)))
theorem pu_m_p_told_of : PF m_p_told_of := pu_runD pu_f_p_told_of
abbrev s_p_is_integer : Stmt := topS 16
def f_p_is_integer : Fs := (sRet (eAnd (eUn (fIsA ["Spots", "Told"] ["int"]) (eVar 0)) (eNot (eUn (fIsA ["Spots", "Told"] ["bool"]) (eVar 0)))))
def m_p_is_integer : Fd := runD 1 .f f_p_is_integer
theorem pu_f_p_is_integer : PX f_p_is_integer := (pu_ret (pu_and (pu_un pu_var) (pu_not (pu_un pu_var))))
theorem pu_m_p_is_integer : PF m_p_is_integer := pu_runD pu_f_p_is_integer
abbrev s_p_are_point : Stmt := topS 30
def f_p_are_point_e1 : Ed := (eGo m_p_is_integer (aCons (eVar 1) aNil))
theorem f_p_are_point_e1_ap (ρ : Rho) (π : Pot) : f_p_are_point_e1 ρ π = (eGo m_p_is_integer (aCons (eVar 1) aNil)) ρ π := rfl
theorem pu_f_p_are_point_e1 : PX f_p_are_point_e1 := (pu_go pu_m_p_is_integer (pu_acons pu_var pu_anil))
def f_p_are_point_e2 : Ed := (eBin opNe (eVar 1) (eC (.int 0)))
theorem f_p_are_point_e2_ap (ρ : Rho) (π : Pot) : f_p_are_point_e2 ρ π = (eBin opNe (eVar 1) (eC (.int 0))) ρ π := rfl
theorem pu_f_p_are_point_e2 : PX f_p_are_point_e2 := (pu_bin pu_var pu_c)
def f_p_are_point : Fs := (sSeq (sIf (tOrD (tNotD (tOf (eGo m_p_is_list (aCons (eVar 0) aNil)))) (tOrD (tBl (eBin opNe (eApp fLen (aCons (eVar 0) aNil)) (eC (.int 3)))) (tNotD (tOf (eApp fAll (aCons (eLC (iVal (eVar 0)) (gN 1)
    tTrue f_p_are_point_e1 [1]) aNil)))))) (sRet (eC (.bl false))) sNext) (sRet (eApp fAnyA (aCons (eLC (iVal (eVar 0)) (gN 1) tTrue f_p_are_point_e2 [1]) aNil))))
def m_p_are_point : Fd := runD 2 .f f_p_are_point
theorem pu_f_p_are_point : PX f_p_are_point := (pu_seq (pu_if (pu_tor (pu_tnot (pu_tof (pu_go pu_m_p_is_list (pu_acons pu_var pu_anil)))) (pu_tor (pu_tbl (pu_bin (pu_app (pu_acons pu_var pu_anil)) pu_c)) (pu_tnot (pu_tof (pu_app (pu_acons (pu_lc
    (pu_ival pu_var) pu_true pu_f_p_are_point_e1) pu_anil)))))) (pu_ret pu_c) pu_next) (pu_ret (pu_app (pu_acons (pu_lc (pu_ival pu_var) pu_true pu_f_p_are_point_e2) pu_anil))))
theorem pu_m_p_are_point : PF m_p_are_point := pu_runD pu_f_p_are_point
abbrev s_p_told_points : Stmt := topS 37
def f_p_told_points_b1 : Fs := (sSeq (sIf (tOrD (tNotD (tOf (eGo m_p_are_point (aCons (eVar 3) aNil)))) (tBl (eBin opInA (eGo m_p_told_of (aCons (eVar 3) aNil)) (eVar 1)))) sStuck sNext) (sApp 1 (eGo m_p_told_of (aCons (eVar 3)
    aNil))))
theorem f_p_told_points_b1_ap (ρ : Rho) (π : Pot) : f_p_told_points_b1 ρ π = (sSeq (sIf (tOrD (tNotD (tOf (eGo m_p_are_point (aCons (eVar 3) aNil)))) (tBl (eBin opInA (eGo m_p_told_of (aCons (eVar 3) aNil)) (eVar 1)))) sStuck sNext) (sApp 1 (eGo m_p_told_of (aCons (eVar 3)
    aNil)))) ρ π := rfl
theorem pu_f_p_told_points_b1 : PX f_p_told_points_b1 := (pu_seq (pu_if (pu_tor (pu_tnot (pu_tof (pu_go pu_m_p_are_point (pu_acons pu_var pu_anil)))) (pu_tbl (pu_bin (pu_go pu_m_p_told_of (pu_acons pu_var pu_anil)) pu_var))) pu_stuck pu_next) (pu_sapp (pu_go
    pu_m_p_told_of (pu_acons pu_var pu_anil))))
def f_p_told_points : Fs := (sSeq (sIf (tOf (eUn (fIsC "Told" ["Spots", "Told"]) (eVar 0))) (sRet (eUn (fldD "Told" "told_points") (eVar 0))) sNext) (sSeq (sIf (tOrD (tNotD (tOf (eGo m_p_is_list (aCons (eVar 0) aNil)))) (tNotD
    (tBl (eChain (cmpI fun i j => decide (i ≤ j)) (cmpI fun i j => decide (i ≤ j)) (eC (.int 1)) (eApp fLen (aCons (eVar 0) aNil)) (eC (.int 24)))))) sStuck sNext) (sSeq (sSet 1 (eLst aNil)) (sSeq (sFor
    (iEnumD (aCons (eVar 0) aNil)) (gT 2 (gsCons (gN 2) (gsCons (gN 3) gsNil))) f_p_told_points_b1) (sRet (eApp fTuple (aCons (eVar 1) aNil)))))))
def m_p_told_points : Fd := runD 4 .f f_p_told_points
theorem pu_f_p_told_points : PX f_p_told_points := (pu_seq (pu_if (pu_tof (pu_un pu_var)) (pu_ret (pu_un pu_var)) pu_next) (pu_seq (pu_if (pu_tor (pu_tnot (pu_tof (pu_go pu_m_p_is_list (pu_acons pu_var pu_anil)))) (pu_tnot (pu_tbl (pu_chain pu_c
    (pu_app (pu_acons pu_var pu_anil)) pu_c)))) pu_stuck pu_next) (pu_seq (pu_set (pu_lst pu_anil)) (pu_seq (pu_for (pu_ienumd (pu_acons pu_var pu_anil)) pu_f_p_told_points_b1) (pu_ret (pu_app (pu_acons
    pu_var pu_anil)))))))
theorem pu_m_p_told_points : PF m_p_told_points := pu_runD pu_f_p_told_points
abbrev s_i_Spots : Stmt := inClass (topS 38) 0
def f_i_Spots : Fi := (iFld "own_points" (eGo m_p_told_points (aCons (eVar 1) aNil)) (iCk "Spots" iNil))
def m_i_Spots : Fd := runI 2 "Spots" f_i_Spots
theorem pu_f_i_Spots : PI f_i_Spots := (pu_ifld (pu_go pu_m_p_told_points (pu_acons pu_var pu_anil)) (pu_ick pu_inil))
theorem pu_m_i_Spots : PF m_i_Spots := pu_runI pu_f_i_Spots
abbrev s_p_stair_points : Stmt := topS 51
def f_p_stair_points_e1 : Ed := (eTup (aCons (eBin opSub (eVar 2) (eVar 4)) (aCons (eVar 4) (aCons (eC (.int 1)) aNil))))
theorem f_p_stair_points_e1_ap (ρ : Rho) (π : Pot) : f_p_stair_points_e1 ρ π = (eTup (aCons (eBin opSub (eVar 2) (eVar 4)) (aCons (eVar 4) (aCons (eC (.int 1)) aNil)))) ρ π := rfl
theorem pu_f_p_stair_points_e1 : PX f_p_stair_points_e1 := (pu_tup (pu_acons (pu_bin pu_var pu_var) (pu_acons pu_var (pu_acons pu_c pu_anil))))
def f_p_stair_points_b1 : Fs := (sExt 1 (eLC (iRng (aCons (eVar 3) aNil)) (gN 4) tTrue f_p_stair_points_e1 [4]))
theorem f_p_stair_points_b1_ap (ρ : Rho) (π : Pot) : f_p_stair_points_b1 ρ π = (sExt 1 (eLC (iRng (aCons (eVar 3) aNil)) (gN 4) tTrue f_p_stair_points_e1 [4])) ρ π := rfl
theorem pu_f_p_stair_points_b1 : PX f_p_stair_points_b1 := (pu_ext (pu_lc (pu_irng (pu_acons pu_var pu_anil)) pu_true pu_f_p_stair_points_e1))
def f_p_stair_points : Fs := (sSeq (sSet 1 (eLst aNil)) (sSeq (sFor (iEnumD (aCons (eVar 0) aNil)) (gT 2 (gsCons (gN 2) (gsCons (gN 3) gsNil))) f_p_stair_points_b1) (sRet (eVar 1))))
def m_p_stair_points : Fd := runD 5 .o f_p_stair_points
theorem pu_f_p_stair_points : PX f_p_stair_points := (pu_seq (pu_set (pu_lst pu_anil)) (pu_seq (pu_for (pu_ienumd (pu_acons pu_var pu_anil)) pu_f_p_stair_points_b1) (pu_ret pu_var)))
theorem pu_m_p_stair_points : PF m_p_stair_points := pu_runD pu_f_p_stair_points
abbrev s_p_is_count : Stmt := topS 17
def f_p_is_count : Fs := (sRet (eAnd (eGo m_p_is_integer (aCons (eVar 0) aNil)) (eBin (cmpI fun i j => decide (j ≤ i)) (eVar 0) (eC (.int 0)))))
def m_p_is_count : Fd := runD 1 .f f_p_is_count
theorem pu_f_p_is_count : PX f_p_is_count := (pu_ret (pu_and (pu_go pu_m_p_is_integer (pu_acons pu_var pu_anil)) (pu_bin pu_var pu_c)))
theorem pu_m_p_is_count : PF m_p_is_count := pu_runD pu_f_p_is_count
abbrev s_p_is_counts : Stmt := topS 45
def f_p_is_counts_e1 : Ed := (eGo m_p_is_count (aCons (eVar 1) aNil))
theorem f_p_is_counts_e1_ap (ρ : Rho) (π : Pot) : f_p_is_counts_e1 ρ π = (eGo m_p_is_count (aCons (eVar 1) aNil)) ρ π := rfl
theorem pu_f_p_is_counts_e1 : PX f_p_is_counts_e1 := (pu_go pu_m_p_is_count (pu_acons pu_var pu_anil))
def f_p_is_counts : Fs := (sRet (eAnd (eGo m_p_is_list (aCons (eVar 0) aNil)) (eAnd (eBin (cmpI fun i j => decide (j < i)) (eApp fLen (aCons (eVar 0) aNil)) (eC (.int 0))) (eApp fAll (aCons (eLC (iVal (eVar 0)) (gN 1) tTrue
    f_p_is_counts_e1 [1]) aNil)))))
def m_p_is_counts : Fd := runD 2 .f f_p_is_counts
theorem pu_f_p_is_counts : PX f_p_is_counts := (pu_ret (pu_and (pu_go pu_m_p_is_list (pu_acons pu_var pu_anil)) (pu_and (pu_bin (pu_app (pu_acons pu_var pu_anil)) pu_c) (pu_app (pu_acons (pu_lc (pu_ival pu_var) pu_true pu_f_p_is_counts_e1)
    pu_anil)))))
theorem pu_m_p_is_counts : PF m_p_is_counts := pu_runD pu_f_p_is_counts
abbrev s_p_goes_on : Stmt := topS 46
def f_p_goes_on : Fs := (sRet (eOr (eChain (cmpI fun i j => decide (i < j)) (cmpI fun i j => decide (i ≤ j)) (eC (.int 0)) (eVar 0) (eVar 1)) (eAnd (eVar 2) (eBin opEq (eVar 0) (eBin opAdd (eVar 1) (eC (.int 1)))))))
def m_p_goes_on : Fd := runD 3 .f f_p_goes_on
theorem pu_f_p_goes_on : PX f_p_goes_on := (pu_ret (pu_or (pu_chain pu_c pu_var pu_var) (pu_and pu_var (pu_bin pu_var (pu_bin pu_var pu_c)))))
theorem pu_m_p_goes_on : PF m_p_goes_on := pu_runD pu_f_p_goes_on
abbrev s_p_fault_of : Stmt := topS 47
def f_p_fault_of_b1 : Fs := (sSeq (sAug 1 (fun i j => i + j) (eVar 5)) (sSeq (sIf (tOrD (tNotD (tOf (eGo m_p_goes_on (aCons (eVar 5) (aCons (eVar 2) (aCons (eVar 3) aNil)))))) (tOrD (tBl (eBin (cmpI fun i j => decide (j < i))
    (eVar 1) (eC (.int 24)))) (tBl (eBin (cmpI fun i j => decide (j ≤ i)) (eVar 4) (eC (.int 9)))))) (sRet (eVar 4)) sNext) (sSeq (sSet 3 (eAnd (eVar 3) (eBin (cmpI fun i j => decide (j < i)) (eVar 5)
    (eVar 2)))) (sSet 2 (eVar 5)))))
theorem f_p_fault_of_b1_ap (ρ : Rho) (π : Pot) : f_p_fault_of_b1 ρ π = (sSeq (sAug 1 (fun i j => i + j) (eVar 5)) (sSeq (sIf (tOrD (tNotD (tOf (eGo m_p_goes_on (aCons (eVar 5) (aCons (eVar 2) (aCons (eVar 3) aNil)))))) (tOrD (tBl (eBin (cmpI fun i j => decide (j < i))
    (eVar 1) (eC (.int 24)))) (tBl (eBin (cmpI fun i j => decide (j ≤ i)) (eVar 4) (eC (.int 9)))))) (sRet (eVar 4)) sNext) (sSeq (sSet 3 (eAnd (eVar 3) (eBin (cmpI fun i j => decide (j < i)) (eVar 5)
    (eVar 2)))) (sSet 2 (eVar 5))))) ρ π := rfl
theorem pu_f_p_fault_of_b1 : PX f_p_fault_of_b1 := (pu_seq (pu_aug pu_var) (pu_seq (pu_if (pu_tor (pu_tnot (pu_tof (pu_go pu_m_p_goes_on (pu_acons pu_var (pu_acons pu_var (pu_acons pu_var pu_anil)))))) (pu_tor (pu_tbl (pu_bin pu_var pu_c)) (pu_tbl
    (pu_bin pu_var pu_c)))) (pu_ret pu_var) pu_next) (pu_seq (pu_set (pu_and pu_var (pu_bin pu_var pu_var))) (pu_set pu_var))))
def f_p_fault_of : Fs := (sSeq (sUnp (eTup (aCons (eC (.int 0)) (aCons (eC (.int 0)) (aCons (eC (.bl true)) aNil)))) (gT 3 (gsCons (gN 1) (gsCons (gN 2) (gsCons (gN 3) gsNil))))) (sSeq (sFor (iEnumD (aCons (eVar 0) aNil)) (gT
    2 (gsCons (gN 4) (gsCons (gN 5) gsNil))) f_p_fault_of_b1) (sRet (eC .non))))
def m_p_fault_of : Fd := runD 6 .f f_p_fault_of
theorem pu_f_p_fault_of : PX f_p_fault_of := (pu_seq (pu_unp (pu_tup (pu_acons pu_c (pu_acons pu_c (pu_acons pu_c pu_anil))))) (pu_seq (pu_for (pu_ienumd (pu_acons pu_var pu_anil)) pu_f_p_fault_of_b1) (pu_ret pu_c)))
theorem pu_m_p_fault_of : PF m_p_fault_of := pu_runD pu_f_p_fault_of
abbrev s_p_is_row : Stmt := topS 48
def f_p_is_row : Fs := (sRet (eAnd (eGo m_p_is_counts (aCons (eVar 0) aNil)) (eBin opIsN (eGo m_p_fault_of (aCons (eVar 0) aNil)) (eC .non))))
def m_p_is_row : Fd := runD 1 .f f_p_is_row
theorem pu_f_p_is_row : PX f_p_is_row := (pu_ret (pu_and (pu_go pu_m_p_is_counts (pu_acons pu_var pu_anil)) (pu_bin (pu_go pu_m_p_fault_of (pu_acons pu_var pu_anil)) pu_c)))
theorem pu_m_p_is_row : PF m_p_is_row := pu_runD pu_f_p_is_row
abbrev s_p_want_row : Stmt := topS 49
def f_p_want_row : Fs := (sSeq (sIf (tNotD (tOf (eGo m_p_is_row (aCons (eVar 0) aNil)))) sStuck sNext) (sRet (eApp fList (aCons (eVar 0) aNil))))
def m_p_want_row : Fd := runD 1 .o f_p_want_row
theorem pu_f_p_want_row : PX f_p_want_row := (pu_seq (pu_if (pu_tnot (pu_tof (pu_go pu_m_p_is_row (pu_acons pu_var pu_anil)))) pu_stuck pu_next) (pu_ret (pu_app (pu_acons pu_var pu_anil))))
theorem pu_m_p_want_row : PF m_p_want_row := pu_runD pu_f_p_want_row
abbrev s_p_stair : Stmt := topS 52
def f_p_stair : Fs := (sRet (eGo m_i_Spots (aCons (eGo m_p_stair_points (aCons (eGo m_p_want_row (aCons (eVar 0) aNil)) aNil)) aNil)))
def m_p_stair : Fd := runD 1 .o f_p_stair
theorem pu_f_p_stair : PX f_p_stair := (pu_ret (pu_go pu_m_i_Spots (pu_acons (pu_go pu_m_p_stair_points (pu_acons (pu_go pu_m_p_want_row (pu_acons pu_var pu_anil)) pu_anil)) pu_anil)))
theorem pu_m_p_stair : PF m_p_stair := pu_runD pu_f_p_stair
abbrev s_c_Spots_points : Stmt := inClass (topS 38) 4
def f_c_Spots_points : Fs := (sRet (eApp fList (aCons (eUn (fldD "Spots" "own_points") (eVar 0)) aNil)))
def m_c_Spots_points : Fd := runD 1 .o f_c_Spots_points
theorem pu_f_c_Spots_points : PX f_c_Spots_points := (pu_ret (pu_app (pu_acons (pu_un pu_var) pu_anil)))
theorem pu_m_c_Spots_points : PF m_c_Spots_points := pu_runD pu_f_c_Spots_points
abbrev s_c_Spots_size : Stmt := inClass (topS 38) 1
def f_c_Spots_size : Fs := (sRet (eApp fLen (aCons (eUn (fldD "Spots" "own_points") (eVar 0)) aNil)))
def m_c_Spots_size : Fd := runD 1 .f f_c_Spots_size
theorem pu_f_c_Spots_size : PX f_c_Spots_size := (pu_ret (pu_app (pu_acons (pu_un pu_var) pu_anil)))
theorem pu_m_c_Spots_size : PF m_c_Spots_size := pu_runD pu_f_c_Spots_size
abbrev s_p_want_spots : Stmt := topS 40
def f_p_want_spots : Fs := (sIf (tNotD (tOf (eUn (fIsC "Spots" ["Spots", "Told"]) (eVar 0)))) sStuck sNext)
def m_p_want_spots : Fd := runD 1 .f f_p_want_spots
theorem pu_f_p_want_spots : PX f_p_want_spots := (pu_if (pu_tnot (pu_tof (pu_un pu_var))) pu_stuck pu_next)
theorem pu_m_p_want_spots : PF m_p_want_spots := pu_runD pu_f_p_want_spots
abbrev s_p_less : Stmt := topS 25
def f_p_less_e1 : Ed := (eBin opSub (eBin opMulA (eVar 4) (eVar 6)) (eBin opMulA (eVar 5) (eVar 7)))
theorem f_p_less_e1_ap (ρ : Rho) (π : Pot) : f_p_less_e1 ρ π = (eBin opSub (eBin opMulA (eVar 4) (eVar 6)) (eBin opMulA (eVar 5) (eVar 7))) ρ π := rfl
theorem pu_f_p_less_e1 : PX f_p_less_e1 := (pu_bin (pu_bin pu_var pu_var) (pu_bin pu_var pu_var))
def f_p_less : Fs := (sSeq (sSet 3 (eApp fGcd (aCons (eBin opIx (eVar 1) (eVar 2)) (aCons (eBin opIx (eVar 0) (eVar 2)) aNil)))) (sSeq (sUnp (eTup (aCons (eBin opFdivW (eBin opIx (eVar 1) (eVar 2)) (eVar 3)) (aCons (eBin
    opFdivW (eBin opIx (eVar 0) (eVar 2)) (eVar 3)) aNil))) (gT 2 (gsCons (gN 4) (gsCons (gN 5) gsNil)))) (sRet (eLC (iZipD (aCons (eVar 0) (aCons (eVar 1) aNil))) (gT 2 (gsCons (gN 6) (gsCons (gN 7)
    gsNil))) tTrue f_p_less_e1 [6, 7]))))
def m_p_less : Fd := runD 8 .o f_p_less
theorem pu_f_p_less : PX f_p_less := (pu_seq (pu_set (pu_app (pu_acons (pu_bin pu_var pu_var) (pu_acons (pu_bin pu_var pu_var) pu_anil)))) (pu_seq (pu_unp (pu_tup (pu_acons (pu_bin (pu_bin pu_var pu_var) pu_var) (pu_acons (pu_bin (pu_bin
    pu_var pu_var) pu_var) pu_anil)))) (pu_ret (pu_lc (pu_izipd (pu_acons pu_var (pu_acons pu_var pu_anil))) pu_true pu_f_p_less_e1))))
theorem pu_m_p_less : PF m_p_less := pu_runD pu_f_p_less
abbrev s_p_cleared : Stmt := topS 26
def f_p_cleared_b1 : Fs := (sIf (tBl (eBin opNe (eBin opIx (eVar 2) (eVar 3)) (eC (.int 0)))) (sSet 2 (eGo m_p_less (aCons (eVar 2) (aCons (eVar 4) (aCons (eVar 3) aNil))))) sNext)
theorem f_p_cleared_b1_ap (ρ : Rho) (π : Pot) : f_p_cleared_b1 ρ π = (sIf (tBl (eBin opNe (eBin opIx (eVar 2) (eVar 3)) (eC (.int 0)))) (sSet 2 (eGo m_p_less (aCons (eVar 2) (aCons (eVar 4) (aCons (eVar 3) aNil))))) sNext) ρ π := rfl
theorem pu_f_p_cleared_b1 : PX f_p_cleared_b1 := (pu_if (pu_tbl (pu_bin (pu_bin pu_var pu_var) pu_c)) (pu_set (pu_go pu_m_p_less (pu_acons pu_var (pu_acons pu_var (pu_acons pu_var pu_anil))))) pu_next)
def f_p_cleared : Fs := (sSeq (sSet 2 (eVar 1)) (sSeq (sFor (iVal (eVar 0)) (gT 2 (gsCons (gN 3) (gsCons (gN 4) gsNil))) f_p_cleared_b1) (sRet (eGo m_p_plain (aCons (eVar 2) aNil)))))
def m_p_cleared : Fd := runD 5 .o f_p_cleared
theorem pu_f_p_cleared : PX f_p_cleared := (pu_seq (pu_set pu_var) (pu_seq (pu_for (pu_ival pu_var) pu_f_p_cleared_b1) (pu_ret (pu_go pu_m_p_plain (pu_acons pu_var pu_anil)))))
theorem pu_m_p_cleared : PF m_p_cleared := pu_runD pu_f_p_cleared
abbrev s_p_echelon : Stmt := topS 27
def f_p_echelon_b1 : Fs := (sSeq (sSet 5 (eGoL .o [.b, .f] m_p_cleared (aCons (eVar 1) (aCons (eVar 4) aNil)))) (sSeq (sSet 6 (eGo m_p_lead_place (aCons (eVar 5) aNil))) (sIf (tBl (eBin opNotN (eVar 6) (eC .non))) (sSeq (sApp 1
    (eTup (aCons (eVar 6) (aCons (eVar 5) aNil)))) (sApp 2 (eVar 3))) sNext)))
theorem f_p_echelon_b1_ap (ρ : Rho) (π : Pot) : f_p_echelon_b1 ρ π = (sSeq (sSet 5 (eGoL .o [.b, .f] m_p_cleared (aCons (eVar 1) (aCons (eVar 4) aNil)))) (sSeq (sSet 6 (eGo m_p_lead_place (aCons (eVar 5) aNil))) (sIf (tBl (eBin opNotN (eVar 6) (eC .non))) (sSeq (sApp 1
    (eTup (aCons (eVar 6) (aCons (eVar 5) aNil)))) (sApp 2 (eVar 3))) sNext))) ρ π := rfl
theorem pu_f_p_echelon_b1 : PX f_p_echelon_b1 := (pu_seq (pu_set (pu_gol pu_m_p_cleared (pu_acons pu_var (pu_acons pu_var pu_anil)))) (pu_seq (pu_set (pu_go pu_m_p_lead_place (pu_acons pu_var pu_anil))) (pu_if (pu_tbl (pu_bin pu_var pu_c)) (pu_seq
    (pu_sapp (pu_tup (pu_acons pu_var (pu_acons pu_var pu_anil)))) (pu_sapp pu_var)) pu_next)))
def f_p_echelon : Fs := (sSeq (sPar 1 2 (eLst aNil) (eLst aNil)) (sSeq (sFor (iEnumD (aCons (eVar 0) aNil)) (gT 2 (gsCons (gN 3) (gsCons (gN 4) gsNil))) f_p_echelon_b1) (sRet (eTup (aCons (eVar 1) (aCons (eVar 2) aNil))))))
def m_p_echelon : Fd := runD 7 .t f_p_echelon
theorem pu_f_p_echelon : PX f_p_echelon := (pu_seq (pu_par (pu_lst pu_anil) (pu_lst pu_anil)) (pu_seq (pu_for (pu_ienumd (pu_acons pu_var pu_anil)) pu_f_p_echelon_b1) (pu_ret (pu_tup (pu_acons pu_var (pu_acons pu_var pu_anil))))))
theorem pu_m_p_echelon : PF m_p_echelon := pu_runD pu_f_p_echelon
abbrev s_p_rank_of : Stmt := topS 28
def f_p_rank_of : Fs := (sRet (eApp fLen (aCons (eBin opIx (eGo m_p_echelon (aCons (eVar 0) aNil)) (eC (.int 0))) aNil)))
def m_p_rank_of : Fd := runD 1 .f f_p_rank_of
theorem pu_f_p_rank_of : PX f_p_rank_of := (pu_ret (pu_app (pu_acons (pu_bin (pu_go pu_m_p_echelon (pu_acons pu_var pu_anil)) pu_c) pu_anil)))
theorem pu_m_p_rank_of : PF m_p_rank_of := pu_runD pu_f_p_rank_of
abbrev s_p_are_table : Stmt := topS 56
def f_p_are_table_e1 : Ed := (eGo m_p_is_integer (aCons (eVar 2) aNil))
theorem f_p_are_table_e1_ap (ρ : Rho) (π : Pot) : f_p_are_table_e1 ρ π = (eGo m_p_is_integer (aCons (eVar 2) aNil)) ρ π := rfl
theorem pu_f_p_are_table_e1 : PX f_p_are_table_e1 := (pu_go pu_m_p_is_integer (pu_acons pu_var pu_anil))
def f_p_are_table_b1 : Fs := (sIf (tOrD (tNotD (tOf (eGo m_p_is_list (aCons (eVar 1) aNil)))) (tOrD (tBl (eBin opNe (eApp fLen (aCons (eVar 1) aNil)) (eC (.int 3)))) (tNotD (tOf (eApp fAll (aCons (eLC (iVal (eVar 1)) (gN 2) tTrue
    f_p_are_table_e1 [2]) aNil)))))) (sRet (eC (.bl false))) sNext)
theorem f_p_are_table_b1_ap (ρ : Rho) (π : Pot) : f_p_are_table_b1 ρ π = (sIf (tOrD (tNotD (tOf (eGo m_p_is_list (aCons (eVar 1) aNil)))) (tOrD (tBl (eBin opNe (eApp fLen (aCons (eVar 1) aNil)) (eC (.int 3)))) (tNotD (tOf (eApp fAll (aCons (eLC (iVal (eVar 1)) (gN 2) tTrue
    f_p_are_table_e1 [2]) aNil)))))) (sRet (eC (.bl false))) sNext) ρ π := rfl
theorem pu_f_p_are_table_b1 : PX f_p_are_table_b1 := (pu_if (pu_tor (pu_tnot (pu_tof (pu_go pu_m_p_is_list (pu_acons pu_var pu_anil)))) (pu_tor (pu_tbl (pu_bin (pu_app (pu_acons pu_var pu_anil)) pu_c)) (pu_tnot (pu_tof (pu_app (pu_acons (pu_lc (pu_ival
    pu_var) pu_true pu_f_p_are_table_e1) pu_anil)))))) (pu_ret pu_c) pu_next)
def f_p_are_table : Fs := (sSeq (sIf (tOrD (tNotD (tOf (eGo m_p_is_list (aCons (eVar 0) aNil)))) (tBl (eBin opNe (eApp fLen (aCons (eVar 0) aNil)) (eC (.int 3))))) (sRet (eC (.bl false))) sNext) (sSeq (sFor (iVal (eVar 0)) (gN
    1) f_p_are_table_b1) (sRet (eBin opEq (eGo m_p_rank_of (aCons (eVar 0) aNil)) (eC (.int 3))))))
def m_p_are_table : Fd := runD 3 .f f_p_are_table
theorem pu_f_p_are_table : PX f_p_are_table := (pu_seq (pu_if (pu_tor (pu_tnot (pu_tof (pu_go pu_m_p_is_list (pu_acons pu_var pu_anil)))) (pu_tbl (pu_bin (pu_app (pu_acons pu_var pu_anil)) pu_c))) (pu_ret pu_c) pu_next) (pu_seq (pu_for (pu_ival
    pu_var) pu_f_p_are_table_b1) (pu_ret (pu_bin (pu_go pu_m_p_rank_of (pu_acons pu_var pu_anil)) pu_c))))
theorem pu_m_p_are_table : PF m_p_are_table := pu_runD pu_f_p_are_table
abbrev s_p_want_table : Stmt := topS 72
def f_p_want_table_e1 : Ed := (eApp fTuple (aCons (eVar 1) aNil))
theorem f_p_want_table_e1_ap (ρ : Rho) (π : Pot) : f_p_want_table_e1 ρ π = (eApp fTuple (aCons (eVar 1) aNil)) ρ π := rfl
theorem pu_f_p_want_table_e1 : PX f_p_want_table_e1 := (pu_app (pu_acons pu_var pu_anil))
def f_p_want_table : Fs := (sSeq (sIf (tNotD (tOf (eGo m_p_are_table (aCons (eVar 0) aNil)))) sStuck sNext) (sRet (eApp fTuple (aCons (eLC (iVal (eVar 0)) (gN 1) tTrue f_p_want_table_e1 [1]) aNil))))
def m_p_want_table : Fd := runD 2 .f f_p_want_table
theorem pu_f_p_want_table : PX f_p_want_table := (pu_seq (pu_if (pu_tnot (pu_tof (pu_go pu_m_p_are_table (pu_acons pu_var pu_anil)))) pu_stuck pu_next) (pu_ret (pu_app (pu_acons (pu_lc (pu_ival pu_var) pu_true pu_f_p_want_table_e1) pu_anil))))
theorem pu_m_p_want_table : PF m_p_want_table := pu_runD pu_f_p_want_table
abbrev s_i_Told : Stmt := inClass (topS 36) 0
def f_i_Told : Fi := (iFld "told_points" (eVar 1) (iCk "Told" iNil))
def m_i_Told : Fd := runI 2 "Told" f_i_Told
theorem pu_f_i_Told : PI f_i_Told := (pu_ifld pu_var (pu_ick pu_inil))
theorem pu_m_i_Told : PF m_i_Told := pu_runI pu_f_i_Told
abbrev s_p_spots_by : Stmt := topS 39
def f_p_spots_by : Fs := (sRet (eGo m_i_Spots (aCons (eGo m_i_Told (aCons (eVar 0) aNil)) aNil)))
def m_p_spots_by : Fd := runD 1 .o f_p_spots_by
theorem pu_f_p_spots_by : PX f_p_spots_by := (pu_ret (pu_go pu_m_i_Spots (pu_acons (pu_go pu_m_i_Told (pu_acons pu_var pu_anil)) pu_anil)))
theorem pu_m_p_spots_by : PF m_p_spots_by := pu_runD pu_f_p_spots_by
abbrev s_p_sum_of : Stmt := topS 73
def f_p_sum_of_e1 : Ed := (eBin opMulA (eVar 2) (eVar 3))
theorem f_p_sum_of_e1_ap (ρ : Rho) (π : Pot) : f_p_sum_of_e1 ρ π = (eBin opMulA (eVar 2) (eVar 3)) ρ π := rfl
theorem pu_f_p_sum_of_e1 : PX f_p_sum_of_e1 := (pu_bin pu_var pu_var)
def f_p_sum_of : Fs := (sRet (eApp fSum (aCons (eLC (iZipD (aCons (eVar 0) (aCons (eVar 1) aNil))) (gT 2 (gsCons (gN 2) (gsCons (gN 3) gsNil))) tTrue f_p_sum_of_e1 [2, 3]) aNil)))
def m_p_sum_of : Fd := runD 4 .f f_p_sum_of
theorem pu_f_p_sum_of : PX f_p_sum_of := (pu_ret (pu_app (pu_acons (pu_lc (pu_izipd (pu_acons pu_var (pu_acons pu_var pu_anil))) pu_true pu_f_p_sum_of_e1) pu_anil)))
theorem pu_m_p_sum_of : PF m_p_sum_of := pu_runD pu_f_p_sum_of
abbrev s_p_led_by : Stmt := topS 74
def f_p_led_by_e1 : Ed := (eGo m_p_sum_of (aCons (eVar 2) (aCons (eVar 1) aNil)))
theorem f_p_led_by_e1_ap (ρ : Rho) (π : Pot) : f_p_led_by_e1 ρ π = (eGo m_p_sum_of (aCons (eVar 2) (aCons (eVar 1) aNil))) ρ π := rfl
theorem pu_f_p_led_by_e1 : PX f_p_led_by_e1 := (pu_go pu_m_p_sum_of (pu_acons pu_var (pu_acons pu_var pu_anil)))
def f_p_led_by : Fs := (sRet (eGo m_p_told_of (aCons (eLC (iVal (eVar 0)) (gN 2) tTrue f_p_led_by_e1 [2]) aNil)))
def m_p_led_by : Fd := runD 3 .f f_p_led_by
theorem pu_f_p_led_by : PX f_p_led_by := (pu_ret (pu_go pu_m_p_told_of (pu_acons (pu_lc (pu_ival pu_var) pu_true pu_f_p_led_by_e1) pu_anil)))
theorem pu_m_p_led_by : PF m_p_led_by := pu_runD pu_f_p_led_by
abbrev s_p_moved : Stmt := topS 75
def f_p_moved_e1 : Ed := (eGo m_p_led_by (aCons (eVar 2) (aCons (eVar 3) aNil)))
theorem f_p_moved_e1_ap (ρ : Rho) (π : Pot) : f_p_moved_e1 ρ π = (eGo m_p_led_by (aCons (eVar 2) (aCons (eVar 3) aNil))) ρ π := rfl
theorem pu_f_p_moved_e1 : PX f_p_moved_e1 := (pu_go pu_m_p_led_by (pu_acons pu_var (pu_acons pu_var pu_anil)))
def f_p_moved : Fs := (sSeq (sExpr (eGo m_p_want_spots (aCons (eVar 0) aNil))) (sSeq (sSet 2 (eGo m_p_want_table (aCons (eVar 1) aNil))) (sRet (eGo m_p_spots_by (aCons (eApp fTuple (aCons (eLC (iVal (eUn (fldD "Spots"
    "own_points") (eVar 0))) (gN 3) tTrue f_p_moved_e1 [3]) aNil)) aNil)))))
def m_p_moved : Fd := runD 4 .o f_p_moved
theorem pu_f_p_moved : PX f_p_moved := (pu_seq (pu_expr (pu_go pu_m_p_want_spots (pu_acons pu_var pu_anil))) (pu_seq (pu_set (pu_go pu_m_p_want_table (pu_acons pu_var pu_anil))) (pu_ret (pu_go pu_m_p_spots_by (pu_acons (pu_app (pu_acons
    (pu_lc (pu_ival (pu_un pu_var)) pu_true pu_f_p_moved_e1) pu_anil)) pu_anil)))))
theorem pu_m_p_moved : PF m_p_moved := pu_runD pu_f_p_moved
abbrev s_p_powers_of : Stmt := topS 33
def f_p_powers_of_b1 : Fs := (sApp 5 (eBin opMulA (eBin opIx (eVar 5) (eUn opNeg (eC (.int 1)))) (eVar 0)))
theorem f_p_powers_of_b1_ap (ρ : Rho) (π : Pot) : f_p_powers_of_b1 ρ π = (sApp 5 (eBin opMulA (eBin opIx (eVar 5) (eUn opNeg (eC (.int 1)))) (eVar 0))) ρ π := rfl
theorem pu_f_p_powers_of_b1 : PX f_p_powers_of_b1 := (pu_sapp (pu_bin (pu_bin pu_var (pu_un pu_c)) pu_var))
def f_p_powers_of : Fs := (sSeq (sPar 2 3 (eBin opMulA (eVar 0) (eVar 0)) (eBin opMulA (eBin opMulA (eVar 0) (eVar 0)) (eVar 0))) (sSeq (sSet 4 (eLst (aCons (eC (.int 1)) (aCons (eVar 0) (aCons (eVar 2) (aCons (eVar 3) (aCons
    (eBin opMulA (eVar 2) (eVar 2)) (aCons (eBin opMulA (eVar 2) (eVar 3)) (aCons (eBin opMulA (eVar 3) (eVar 3)) aNil))))))))) (sSeq (sIf (tBl (eBin (cmpI fun i j => decide (i < j)) (eVar 1) (eApp fLen
    (aCons (eVar 4) aNil)))) (sRet (eSl (eVar 4) oNone (oSome (eBin opAdd (eVar 1) (eC (.int 1)))))) sNext) (sSeq (sSet 5 (eVar 4)) (sSeq (sFor (iRng (aCons (eBin opSub (eBin opAdd (eVar 1) (eC (.int
    1))) (eApp fLen (aCons (eVar 4) aNil))) aNil)) (gN 6) f_p_powers_of_b1) (sRet (eVar 5)))))))
def m_p_powers_of : Fd := runD 7 .f f_p_powers_of
theorem pu_f_p_powers_of : PX f_p_powers_of := (pu_seq (pu_par (pu_bin pu_var pu_var) (pu_bin (pu_bin pu_var pu_var) pu_var)) (pu_seq (pu_set (pu_lst (pu_acons pu_c (pu_acons pu_var (pu_acons pu_var (pu_acons pu_var (pu_acons (pu_bin pu_var pu_var)
    (pu_acons (pu_bin pu_var pu_var) (pu_acons (pu_bin pu_var pu_var) pu_anil))))))))) (pu_seq (pu_if (pu_tbl (pu_bin pu_var (pu_app (pu_acons pu_var pu_anil)))) (pu_ret (pu_sl pu_var pu_onone (pu_osome
    (pu_bin pu_var pu_c)))) pu_next) (pu_seq (pu_set pu_var) (pu_seq (pu_for (pu_irng (pu_acons (pu_bin (pu_bin pu_var pu_c) (pu_app (pu_acons pu_var pu_anil))) pu_anil)) pu_f_p_powers_of_b1) (pu_ret
    pu_var))))))
theorem pu_m_p_powers_of : PF m_p_powers_of := pu_runD pu_f_p_powers_of
abbrev s_p_triples_of : Stmt := topS 54
def f_p_triples_of_e1 : Ed := (eTup (aCons (eVar 2) (aCons (eVar 3) (aCons (eBin opSub (eBin opSub (eVar 0) (eVar 2)) (eVar 3)) aNil))))
theorem f_p_triples_of_e1_ap (ρ : Rho) (π : Pot) : f_p_triples_of_e1 ρ π = (eTup (aCons (eVar 2) (aCons (eVar 3) (aCons (eBin opSub (eBin opSub (eVar 0) (eVar 2)) (eVar 3)) aNil)))) ρ π := rfl
theorem pu_f_p_triples_of_e1 : PX f_p_triples_of_e1 := (pu_tup (pu_acons pu_var (pu_acons pu_var (pu_acons (pu_bin (pu_bin pu_var pu_var) pu_var) pu_anil))))
def f_p_triples_of_b1 : Fs := (sExt 1 (eLC (iRngDown (aCons (eBin opSub (eVar 0) (eVar 2)) (aCons (eUn opNeg (eC (.int 1))) (aCons (eUn opNeg (eC (.int 1))) aNil)))) (gN 3) tTrue f_p_triples_of_e1 [3]))
theorem f_p_triples_of_b1_ap (ρ : Rho) (π : Pot) : f_p_triples_of_b1 ρ π = (sExt 1 (eLC (iRngDown (aCons (eBin opSub (eVar 0) (eVar 2)) (aCons (eUn opNeg (eC (.int 1))) (aCons (eUn opNeg (eC (.int 1))) aNil)))) (gN 3) tTrue f_p_triples_of_e1 [3])) ρ π := rfl
theorem pu_f_p_triples_of_b1 : PX f_p_triples_of_b1 := (pu_ext (pu_lc (pu_irngdown (pu_acons (pu_bin pu_var pu_var) (pu_acons (pu_un pu_c) (pu_acons (pu_un pu_c) pu_anil)))) pu_true pu_f_p_triples_of_e1))
def f_p_triples_of : Fs := (sSeq (sSet 1 (eLst aNil)) (sSeq (sFor (iRngDown (aCons (eVar 0) (aCons (eUn opNeg (eC (.int 1))) (aCons (eUn opNeg (eC (.int 1))) aNil)))) (gN 2) f_p_triples_of_b1) (sRet (eApp fTuple (aCons (eVar 1)
    aNil)))))
def m_p_triples_of : Fd := runD 4 .f f_p_triples_of
theorem pu_f_p_triples_of : PX f_p_triples_of := (pu_seq (pu_set (pu_lst pu_anil)) (pu_seq (pu_for (pu_irngdown (pu_acons pu_var (pu_acons (pu_un pu_c) (pu_acons (pu_un pu_c) pu_anil)))) pu_f_p_triples_of_b1) (pu_ret (pu_app (pu_acons pu_var
    pu_anil)))))
theorem pu_m_p_triples_of : PF m_p_triples_of := pu_runD pu_f_p_triples_of
abbrev s_p_letters_at : Stmt := topS 55
def f_p_letters_at_e1 : Ed := (eGo m_p_powers_of (aCons (eVar 5) (aCons (eVar 1) aNil)))
theorem f_p_letters_at_e1_ap (ρ : Rho) (π : Pot) : f_p_letters_at_e1 ρ π = (eGo m_p_powers_of (aCons (eVar 5) (aCons (eVar 1) aNil))) ρ π := rfl
theorem pu_f_p_letters_at_e1 : PX f_p_letters_at_e1 := (pu_go pu_m_p_powers_of (pu_acons pu_var (pu_acons pu_var pu_anil)))
def f_p_letters_at_e2 : Ed := (eBin opMulA (eBin opMulA (eBin opIx (eVar 2) (eVar 6)) (eBin opIx (eVar 3) (eVar 7))) (eBin opIx (eVar 4) (eVar 8)))
theorem f_p_letters_at_e2_ap (ρ : Rho) (π : Pot) : f_p_letters_at_e2 ρ π = (eBin opMulA (eBin opMulA (eBin opIx (eVar 2) (eVar 6)) (eBin opIx (eVar 3) (eVar 7))) (eBin opIx (eVar 4) (eVar 8))) ρ π := rfl
theorem pu_f_p_letters_at_e2 : PX f_p_letters_at_e2 := (pu_bin (pu_bin (pu_bin pu_var pu_var) (pu_bin pu_var pu_var)) (pu_bin pu_var pu_var))
def f_p_letters_at : Fs := (sSeq (sUnp (eLC (iVal (eVar 0)) (gN 5) tTrue f_p_letters_at_e1 [5]) (gL 3 (gsCons (gN 2) (gsCons (gN 3) (gsCons (gN 4) gsNil))))) (sRet (eLC (iVal (eGo m_p_triples_of (aCons (eVar 1) aNil))) (gT 3
    (gsCons (gN 6) (gsCons (gN 7) (gsCons (gN 8) gsNil)))) tTrue f_p_letters_at_e2 [6, 7, 8])))
def m_p_letters_at : Fd := runD 9 .o f_p_letters_at
theorem pu_f_p_letters_at : PX f_p_letters_at := (pu_seq (pu_unp (pu_lc (pu_ival pu_var) pu_true pu_f_p_letters_at_e1)) (pu_ret (pu_lc (pu_ival (pu_go pu_m_p_triples_of (pu_acons pu_var pu_anil))) pu_true pu_f_p_letters_at_e2)))
theorem pu_m_p_letters_at : PF m_p_letters_at := pu_runD pu_f_p_letters_at
abbrev s_p_condition_rows : Stmt := topS 60
def f_p_condition_rows_e1 : Ed := (eGo m_p_letters_at (aCons (eVar 2) (aCons (eVar 1) aNil)))
theorem f_p_condition_rows_e1_ap (ρ : Rho) (π : Pot) : f_p_condition_rows_e1 ρ π = (eGo m_p_letters_at (aCons (eVar 2) (aCons (eVar 1) aNil))) ρ π := rfl
theorem pu_f_p_condition_rows_e1 : PX f_p_condition_rows_e1 := (pu_go pu_m_p_letters_at (pu_acons pu_var (pu_acons pu_var pu_anil)))
def f_p_condition_rows : Fs := (sRet (eLC (iVal (eVar 0)) (gN 2) tTrue f_p_condition_rows_e1 [2]))
def m_p_condition_rows : Fd := runD 3 .o f_p_condition_rows
theorem pu_f_p_condition_rows : PX f_p_condition_rows := (pu_ret (pu_lc (pu_ival pu_var) pu_true pu_f_p_condition_rows_e1))
theorem pu_m_p_condition_rows : PF m_p_condition_rows := pu_runD pu_f_p_condition_rows
abbrev s_p_rank_at : Stmt := topS 61
def f_p_rank_at : Fs := (sRet (eGo m_p_rank_of (aCons (eGo m_p_condition_rows (aCons (eVar 0) (aCons (eVar 1) aNil))) aNil)))
def m_p_rank_at : Fd := runD 2 .f f_p_rank_at
theorem pu_f_p_rank_at : PX f_p_rank_at := (pu_ret (pu_go pu_m_p_rank_of (pu_acons (pu_go pu_m_p_condition_rows (pu_acons pu_var (pu_acons pu_var pu_anil))) pu_anil)))
theorem pu_m_p_rank_at : PF m_p_rank_at := pu_runD pu_f_p_rank_at
abbrev s_p_row_by : Stmt := topS 66
def f_p_row_by_b1 : Fs := (sSeq (sSet 4 (eGo m_p_rank_at (aCons (eVar 0) (aCons (eVar 3) aNil)))) (sSeq (sApp 1 (eBin opSub (eVar 4) (eVar 2))) (sSeq (sIf (tBl (eBin opEq (eVar 4) (eApp fLen (aCons (eVar 0) aNil)))) (sRet (eVar
    1)) sNext) (sSet 2 (eVar 4)))))
theorem f_p_row_by_b1_ap (ρ : Rho) (π : Pot) : f_p_row_by_b1 ρ π = (sSeq (sSet 4 (eGo m_p_rank_at (aCons (eVar 0) (aCons (eVar 3) aNil)))) (sSeq (sApp 1 (eBin opSub (eVar 4) (eVar 2))) (sSeq (sIf (tBl (eBin opEq (eVar 4) (eApp fLen (aCons (eVar 0) aNil)))) (sRet (eVar
    1)) sNext) (sSet 2 (eVar 4))))) ρ π := rfl
theorem pu_f_p_row_by_b1 : PX f_p_row_by_b1 := (pu_seq (pu_set (pu_go pu_m_p_rank_at (pu_acons pu_var (pu_acons pu_var pu_anil)))) (pu_seq (pu_sapp (pu_bin pu_var pu_var)) (pu_seq (pu_if (pu_tbl (pu_bin pu_var (pu_app (pu_acons pu_var pu_anil))))
    (pu_ret pu_var) pu_next) (pu_set pu_var))))
def f_p_row_by : Fs := (sSeq (sPar 1 2 (eLst aNil) (eC (.int 0))) (sSeq (sFor (iRng (aCons (eBin opAdd (eC (.int 8)) (eC (.int 1))) aNil)) (gN 3) f_p_row_by_b1) sStuck))
def m_p_row_by : Fd := runD 5 .o f_p_row_by
theorem pu_f_p_row_by : PX f_p_row_by := (pu_seq (pu_par (pu_lst pu_anil) pu_c) (pu_seq (pu_for (pu_irng (pu_acons (pu_bin pu_c pu_c) pu_anil)) pu_f_p_row_by_b1) pu_stuck))
theorem pu_m_p_row_by : PF m_p_row_by := pu_runD pu_f_p_row_by
abbrev s_p_row : Stmt := topS 68
def f_p_row : Fs := (sSeq (sExpr (eGo m_p_want_spots (aCons (eVar 0) aNil))) (sRet (eGo m_p_row_by (aCons (eUn (fldD "Spots" "own_points") (eVar 0)) aNil))))
def m_p_row : Fd := runD 1 .o f_p_row
theorem pu_f_p_row : PX f_p_row := (pu_seq (pu_expr (pu_go pu_m_p_want_spots (pu_acons pu_var pu_anil))) (pu_ret (pu_go pu_m_p_row_by (pu_acons (pu_un pu_var) pu_anil))))
theorem pu_m_p_row : PF m_p_row := pu_runD pu_f_p_row
abbrev s_p_end : Stmt := topS 70
def f_p_end : Fs := (sSeq (sExpr (eGo m_p_want_spots (aCons (eVar 0) aNil))) (sRet (eBin opSub (eApp fLen (aCons (eGo m_p_row_by (aCons (eUn (fldD "Spots" "own_points") (eVar 0)) aNil)) aNil)) (eC (.int 1)))))
def m_p_end : Fd := runD 1 .f f_p_end
theorem pu_f_p_end : PX f_p_end := (pu_seq (pu_expr (pu_go pu_m_p_want_spots (pu_acons pu_var pu_anil))) (pu_ret (pu_bin (pu_app (pu_acons (pu_go pu_m_p_row_by (pu_acons (pu_un pu_var) pu_anil)) pu_anil)) pu_c)))
theorem pu_m_p_end : PF m_p_end := pu_runD pu_f_p_end
abbrev s_p_want_degree : Stmt := topS 19
def f_p_want_degree : Fs := (sIf (tOrD (tNotD (tOf (eGo m_p_is_count (aCons (eVar 0) aNil)))) (tOrD (tBl (eBin (cmpI fun i j => decide (i < j)) (eVar 0) (eVar 2))) (tBl (eBin (cmpI fun i j => decide (j < i)) (eVar 0) (eVar 1)))))
    sStuck sNext)
def m_p_want_degree : Fd := runD 3 .f f_p_want_degree
theorem pu_f_p_want_degree : PX f_p_want_degree := (pu_if (pu_tor (pu_tnot (pu_tof (pu_go pu_m_p_is_count (pu_acons pu_var pu_anil)))) (pu_tor (pu_tbl (pu_bin pu_var pu_var)) (pu_tbl (pu_bin pu_var pu_var)))) pu_stuck pu_next)
theorem pu_m_p_want_degree : PF m_p_want_degree := pu_runD pu_f_p_want_degree
abbrev s_p_want_both : Stmt := topS 59
def f_p_want_both : Fs := (sSeq (sExpr (eGo m_p_want_spots (aCons (eVar 0) aNil))) (sExpr (eGoD (List.drop 0 [.int 0]) m_p_want_degree (aCons (eVar 1) (aCons (eC (.int 9)) aNil)))))
def m_p_want_both : Fd := runD 2 .f f_p_want_both
theorem pu_f_p_want_both : PX f_p_want_both := (pu_seq (pu_expr (pu_go pu_m_p_want_spots (pu_acons pu_var pu_anil))) (pu_expr (pu_goD pu_m_p_want_degree (pu_acons pu_var (pu_acons pu_c pu_anil)))))
theorem pu_m_p_want_both : PF m_p_want_both := pu_runD pu_f_p_want_both
abbrev s_p_conditions : Stmt := topS 63
def f_p_conditions : Fs := (sSeq (sExpr (eGo m_p_want_both (aCons (eVar 0) (aCons (eVar 1) aNil)))) (sRet (eGo m_p_rank_at (aCons (eUn (fldD "Spots" "own_points") (eVar 0)) (aCons (eVar 1) aNil)))))
def m_p_conditions : Fd := runD 2 .f f_p_conditions
theorem pu_f_p_conditions : PX f_p_conditions := (pu_seq (pu_expr (pu_go pu_m_p_want_both (pu_acons pu_var (pu_acons pu_var pu_anil)))) (pu_ret (pu_go pu_m_p_rank_at (pu_acons (pu_un pu_var) (pu_acons pu_var pu_anil)))))
theorem pu_m_p_conditions : PF m_p_conditions := pu_runD pu_f_p_conditions
abbrev s_p_many_through : Stmt := topS 62
def f_p_many_through : Fs := (sRet (eBin opSub (eApp fLen (aCons (eGo m_p_triples_of (aCons (eVar 1) aNil)) aNil)) (eGo m_p_rank_at (aCons (eVar 0) (aCons (eVar 1) aNil)))))
def m_p_many_through : Fd := runD 2 .f f_p_many_through
theorem pu_f_p_many_through : PX f_p_many_through := (pu_ret (pu_bin (pu_app (pu_acons (pu_go pu_m_p_triples_of (pu_acons pu_var pu_anil)) pu_anil)) (pu_go pu_m_p_rank_at (pu_acons pu_var (pu_acons pu_var pu_anil)))))
theorem pu_m_p_many_through : PF m_p_many_through := pu_runD pu_f_p_many_through
abbrev s_p_top_of : Stmt := topS 67
def f_p_top_of_b1 : Fs := (sSet 1 (eBin opAdd (eVar 1) (eC (.int 1))))
theorem f_p_top_of_b1_ap (ρ : Rho) (π : Pot) : f_p_top_of_b1 ρ π = (sSet 1 (eBin opAdd (eVar 1) (eC (.int 1)))) ρ π := rfl
theorem pu_f_p_top_of_b1 : PX f_p_top_of_b1 := (pu_set (pu_bin pu_var pu_c))
def f_p_top_of : Fs := (sSeq (sSet 1 (eC (.int 0))) (sSeq (sWhile (tBl (eBin opEq (eGo m_p_many_through (aCons (eVar 0) (aCons (eVar 1) aNil))) (eC (.int 0)))) f_p_top_of_b1) (sRet (eVar 1))))
def m_p_top_of : Fd := runD 2 .f f_p_top_of
theorem pu_f_p_top_of : PX f_p_top_of := (pu_seq (pu_set pu_c) (pu_seq (pu_while (pu_tbl (pu_bin (pu_go pu_m_p_many_through (pu_acons pu_var (pu_acons pu_var pu_anil))) pu_c)) pu_f_p_top_of_b1) (pu_ret pu_var)))
theorem pu_m_p_top_of : PF m_p_top_of := pu_runD pu_f_p_top_of
abbrev s_p_top : Stmt := topS 69
def f_p_top : Fs := (sSeq (sExpr (eGo m_p_want_spots (aCons (eVar 0) aNil))) (sRet (eGo m_p_top_of (aCons (eUn (fldD "Spots" "own_points") (eVar 0)) aNil))))
def m_p_top : Fd := runD 1 .f f_p_top
theorem pu_f_p_top : PX f_p_top := (pu_seq (pu_expr (pu_go pu_m_p_want_spots (pu_acons pu_var pu_anil))) (pu_ret (pu_go pu_m_p_top_of (pu_acons (pu_un pu_var) pu_anil))))
theorem pu_m_p_top : PF m_p_top := pu_runD pu_f_p_top
abbrev s_l_top : Stmt := topS 83
def f_l_top_b1 : Fs := (sIf (tBl (eBin opNe (eVar 2) (eBin opAdd (eVar 1) (eC (.int 1))))) (sRet (eVar 1)) sNext)
theorem f_l_top_b1_ap (ρ : Rho) (π : Pot) : f_l_top_b1 ρ π = (sIf (tBl (eBin opNe (eVar 2) (eBin opAdd (eVar 1) (eC (.int 1))))) (sRet (eVar 1)) sNext) ρ π := rfl
theorem pu_f_l_top_b1 : PX f_l_top_b1 := (pu_if (pu_tbl (pu_bin pu_var (pu_bin pu_var pu_c))) (pu_ret pu_var) pu_next)
def f_l_top : Fs := (sSeq (sFor (iEnumD (aCons (eVar 0) aNil)) (gT 2 (gsCons (gN 1) (gsCons (gN 2) gsNil))) f_l_top_b1) (sRet (eApp fLen (aCons (eVar 0) aNil))))
def m_l_top : Fd := runD 3 .f f_l_top
theorem pu_f_l_top : PX f_l_top := (pu_seq (pu_for (pu_ienumd (pu_acons pu_var pu_anil)) pu_f_l_top_b1) (pu_ret (pu_app (pu_acons pu_var pu_anil))))
theorem pu_m_l_top : PF m_l_top := pu_runD pu_f_l_top
abbrev s_l_right : Stmt := topS 84
def f_l_right_b1 : Fs := (sIf (tOrD (tAndD (tBl (eBin (cmpI fun i j => decide (j < i)) (eVar 6) (eC (.int 0)))) (tBl (eBin opNotInA (eTup (aCons (eBin opSub (eVar 6) (eC (.int 1))) (aCons (eVar 7) (aCons (eC (.int 1)) aNil))))
    (eVar 5)))) (tAndD (tBl (eBin (cmpI fun i j => decide (j < i)) (eVar 7) (eC (.int 0)))) (tBl (eBin opNotInA (eTup (aCons (eVar 6) (aCons (eBin opSub (eVar 7) (eC (.int 1))) (aCons (eC (.int 1))
    aNil)))) (eVar 5))))) (sRet (eC (.bl false))) sNext)
theorem f_l_right_b1_ap (ρ : Rho) (π : Pot) : f_l_right_b1 ρ π = (sIf (tOrD (tAndD (tBl (eBin (cmpI fun i j => decide (j < i)) (eVar 6) (eC (.int 0)))) (tBl (eBin opNotInA (eTup (aCons (eBin opSub (eVar 6) (eC (.int 1))) (aCons (eVar 7) (aCons (eC (.int 1)) aNil))))
    (eVar 5)))) (tAndD (tBl (eBin (cmpI fun i j => decide (j < i)) (eVar 7) (eC (.int 0)))) (tBl (eBin opNotInA (eTup (aCons (eVar 6) (aCons (eBin opSub (eVar 7) (eC (.int 1))) (aCons (eC (.int 1))
    aNil)))) (eVar 5))))) (sRet (eC (.bl false))) sNext) ρ π := rfl
theorem pu_f_l_right_b1 : PX f_l_right_b1 := (pu_if (pu_tor (pu_tand (pu_tbl (pu_bin pu_var pu_c)) (pu_tbl (pu_bin (pu_tup (pu_acons (pu_bin pu_var pu_c) (pu_acons pu_var (pu_acons pu_c pu_anil)))) pu_var))) (pu_tand (pu_tbl (pu_bin pu_var pu_c))
    (pu_tbl (pu_bin (pu_tup (pu_acons pu_var (pu_acons (pu_bin pu_var pu_c) (pu_acons pu_c pu_anil)))) pu_var)))) (pu_ret pu_c) pu_next)
def f_l_right_b2 : Fs := (sSeq (sSet 12 (eGo m_p_row (aCons (eVar 10) aNil))) (sIf (tOrD (tBl (eBin opNe (eVar 12) (eVar 1))) (tOrD (tBl (eBin opNotB (eGo m_p_is_row (aCons (eVar 12) aNil)) (eC (.bl true)))) (tBl (eBin opNe
    (eGo m_p_top (aCons (eVar 10) aNil)) (eGo m_l_top (aCons (eVar 1) aNil)))))) (sRet (eC (.bl false))) sNext))
theorem f_l_right_b2_ap (ρ : Rho) (π : Pot) : f_l_right_b2 ρ π = (sSeq (sSet 12 (eGo m_p_row (aCons (eVar 10) aNil))) (sIf (tOrD (tBl (eBin opNe (eVar 12) (eVar 1))) (tOrD (tBl (eBin opNotB (eGo m_p_is_row (aCons (eVar 12) aNil)) (eC (.bl true)))) (tBl (eBin opNe
    (eGo m_p_top (aCons (eVar 10) aNil)) (eGo m_l_top (aCons (eVar 1) aNil)))))) (sRet (eC (.bl false))) sNext)) ρ π := rfl
theorem pu_f_l_right_b2 : PX f_l_right_b2 := (pu_seq (pu_set (pu_go pu_m_p_row (pu_acons pu_var pu_anil))) (pu_if (pu_tor (pu_tbl (pu_bin pu_var pu_var)) (pu_tor (pu_tbl (pu_bin (pu_go pu_m_p_is_row (pu_acons pu_var pu_anil)) pu_c)) (pu_tbl
    (pu_bin (pu_go pu_m_p_top (pu_acons pu_var pu_anil)) (pu_go pu_m_l_top (pu_acons pu_var pu_anil)))))) (pu_ret pu_c) pu_next))
def f_l_right_r1 : Fs := (sSeq (sIf (tOrD (tBl (eBin opNe (eGo m_p_end (aCons (eVar 4) aNil)) (eBin opSub (eApp fLen (aCons (eVar 1) aNil)) (eC (.int 1))))) (tBl (eBin opNe (eGo m_p_conditions (aCons (eVar 4) (aCons (eVar 11)
    aNil))) (eApp fSum (aCons (eSl (eVar 1) oNone (oSome (eBin opAdd (eVar 11) (eC (.int 1))))) aNil))))) (sRet (eC (.bl false))) sNext) (sRet (eBin opEq (eApp fRepr (aCons (eVar 2) aNil)) (eVar 3))))
theorem f_l_right_r1_ap (ρ : Rho) (π : Pot) : f_l_right_r1 ρ π = (sSeq (sIf (tOrD (tBl (eBin opNe (eGo m_p_end (aCons (eVar 4) aNil)) (eBin opSub (eApp fLen (aCons (eVar 1) aNil)) (eC (.int 1))))) (tBl (eBin opNe (eGo m_p_conditions (aCons (eVar 4) (aCons (eVar 11)
    aNil))) (eApp fSum (aCons (eSl (eVar 1) oNone (oSome (eBin opAdd (eVar 11) (eC (.int 1))))) aNil))))) (sRet (eC (.bl false))) sNext) (sRet (eBin opEq (eApp fRepr (aCons (eVar 2) aNil)) (eVar 3)))) ρ π := rfl
theorem pu_f_l_right_r1 : PX f_l_right_r1 := (pu_seq (pu_if (pu_tor (pu_tbl (pu_bin (pu_go pu_m_p_end (pu_acons pu_var pu_anil)) (pu_bin (pu_app (pu_acons pu_var pu_anil)) pu_c))) (pu_tbl (pu_bin (pu_go pu_m_p_conditions (pu_acons pu_var
    (pu_acons pu_var pu_anil))) (pu_app (pu_acons (pu_sl pu_var pu_onone (pu_osome (pu_bin pu_var pu_c))) pu_anil))))) (pu_ret pu_c) pu_next) (pu_ret (pu_bin (pu_app (pu_acons pu_var pu_anil)) pu_var)))
def f_l_right : Fs := (sSeq (sSet 1 (eGo m_l_row (aCons (eC .non) (aCons (eC (.int 12)) aNil)))) (sSeq (sSet 2 (eGo m_l_passed (aCons (eC .non) (aCons (eVar 1) aNil)))) (sSeq (sPar 3 4 (eApp fRepr (aCons (eVar 2) aNil))
    (eGo m_p_stair (aCons (eVar 2) aNil))) (sSeq (sSet 5 (eGo m_l_points (aCons (eVar 1) aNil))) (sSeq (sIf (tOrD (tNotD (tOf (eUn (fIsC "Spots" ["Spots", "Told"]) (eVar 4)))) (tOrD (tBl (eBin opNe
    (eMeth "Spots" "points" m_c_Spots_points (eVar 4) aNil) (eVar 5))) (tOrD (tBl (eBin opNe (ePrp "Spots" m_c_Spots_size (eVar 4)) (eApp fSum (aCons (eVar 1) aNil)))) (tBl (eCmpO true opNe [("Spots",
    m_c_Spots___eq__)] (eGo m_p_stair (aCons (eVar 2) aNil)) (eVar 4)))))) (sRet (eC (.bl false))) sNext) (sSeq (sFor (iVal (eVar 5)) (gT 3 (gsCons (gN 6) (gsCons (gN 7) (gsCons (gN 8) gsNil))))
    f_l_right_b1) (sSeq (sSet 9 (eGo m_l_pick (aCons (eC .non) (aCons (eLst (aCons (eTup (aCons (eTup (aCons (eC (.int 1)) (aCons (eC (.int 0)) (aCons (eC (.int 0)) aNil)))) (aCons (eTup (aCons (eC (.int
    0)) (aCons (eC (.int 1)) (aCons (eC (.int 0)) aNil)))) (aCons (eTup (aCons (eC (.int 0)) (aCons (eC (.int 0)) (aCons (eC (.int 1)) aNil)))) aNil)))) (aCons (eTup (aCons (eTup (aCons (eC (.int 0))
    (aCons (eC (.int 1)) (aCons (eC (.int 1)) aNil)))) (aCons (eTup (aCons (eC (.int 1)) (aCons (eC (.int 0)) (aCons (eC (.int 1)) aNil)))) (aCons (eTup (aCons (eC (.int 0)) (aCons (eC (.int 0)) (aCons
    (eC (.int 1)) aNil)))) aNil)))) (aCons (eTup (aCons (eTup (aCons (eC (.int 1)) (aCons (eC (.int 1)) (aCons (eC (.int 0)) aNil)))) (aCons (eTup (aCons (eC (.int 0)) (aCons (eC (.int 1)) (aCons (eC
    (.int 2)) aNil)))) (aCons (eTup (aCons (eC (.int 1)) (aCons (eC (.int 0)) (aCons (eC (.int 1)) aNil)))) aNil)))) aNil)))) aNil)))) (sSeq (sFor (iVal (eLst (aCons (eVar 4) (aCons (eGo m_p_moved (aCons
    (eVar 4) (aCons (eVar 9) aNil))) aNil)))) (gN 10) f_l_right_b2) (sSeq (sSet 11 (eGo m_l_draw (aCons (eC .non) (aCons (eApp fLen (aCons (eVar 1) aNil)) aNil)))) f_l_right_r1)))))))))
def m_l_right : Fd := runD 13 .f f_l_right
abbrev s_l_pot : Stmt := topS 77
def f_l_pot : Fs := (sSeq (sSet 2 (eBin opAdd (eBin opMulA (eC (.int 313)) (eVar 1)) (eC (.int 71)))) (sSeq (sIf (tBl (eBin (cmpI fun i j => decide (i < j)) (eVar 1) (eApp fLen (aCons (eVar 0) aNil)))) (sSet 2 (eApp fAbs
    (aCons (eBin opIx (eVar 0) (eVar 1)) aNil))) sNext) (sRet (eLst (aCons (eApp fMax2 (aCons (eC (.int 0)) (aCons (eBin opSub (eVar 2) (eBin opPow (eC (.int 10)) (eC (.int 18)))) aNil))) (aCons (eBin
    opAdd (eBin opMod (eApp fInt (aCons (eBin opAdd (eBin opAdd (eBin opMulA (eBin opMod (eApp fInt (aCons (eVar 2) aNil)) (eC (.int 2147483549))) (eC (.int 40014))) (eBin opMulA (eC (.int 7027)) (eVar
    1))) (eC (.int 31))) aNil)) (eC (.int 2147483563))) (eC (.int 1))) aNil))))))
def m_l_pot : Fd := runD 3 .o f_l_pot
theorem pu_f_l_pot : PX f_l_pot := (pu_seq (pu_set (pu_bin (pu_bin pu_c pu_var) pu_c)) (pu_seq (pu_if (pu_tbl (pu_bin pu_var (pu_app (pu_acons pu_var pu_anil)))) (pu_set (pu_app (pu_acons (pu_bin pu_var pu_var) pu_anil))) pu_next)
    (pu_ret (pu_lst (pu_acons (pu_app (pu_acons pu_c (pu_acons (pu_bin pu_var (pu_bin pu_c pu_c)) pu_anil))) (pu_acons (pu_bin (pu_bin (pu_app (pu_acons (pu_bin (pu_bin (pu_bin (pu_bin (pu_app (pu_acons
    pu_var pu_anil)) pu_c) pu_c) (pu_bin pu_c pu_var)) pu_c) pu_anil)) pu_c) pu_c) pu_anil))))))
theorem pu_m_l_pot : PF m_l_pot := pu_runD pu_f_l_pot
abbrev s_law_ : Stmt := topS 85
def f_law_ : Fs := (sRet (eGoPot m_l_right (eGo m_l_pot (aCons (eVar 0) (aCons (eC (.int 0)) aNil)))))
def m_law_ : Fd := runD 1 .f f_law_
structure Top (K : PySem.W.Frag) (mg : Str → Option Value) : Prop where
  cl_Spots : ClsF K mg "Spots" ["own_points"]
  cl_Told : ClsF K mg "Told" ["told_points"]
  ci_Spots : ClsI K mg "Spots" ["Spots", "Told"]
  ci_Told : ClsI K mg "Told" ["Spots", "Told"]
  eq_Spots : EqC K mg "Spots"
  cT : ClsT K mg ["Spots", "Told"]
  g_gcd : mg "gcd" = some (.builtin "math.gcd")
  f_l_draw : ∃ f fd, mg "_law_draw" = some (.ref f) ∧ Fun K "_law_draw" "_law_draw" s_l_draw f fd
  f_l_row : ∃ f fd, mg "_law_row" = some (.ref f) ∧ Fun K "_law_row" "_law_row" s_l_row f fd
  f_l_passed : ∃ f fd, mg "_law_passed" = some (.ref f) ∧ Fun K "_law_passed" "_law_passed" s_l_passed f fd
  f_l_points : ∃ f fd, mg "_law_points" = some (.ref f) ∧ Fun K "_law_points" "_law_points" s_l_points f fd
  f_c_Spots___eq__ : ∃ C f fd, mg "Spots" = some (.ref C) ∧ Cls K C ∧ Meth K C "__eq__" f ∧ Fun K "__eq__" "Spots.__eq__" s_c_Spots___eq__ f fd
  f_l_pick : ∃ f fd, mg "_law_pick" = some (.ref f) ∧ Fun K "_law_pick" "_law_pick" s_l_pick f fd
  f_p_is_list : ∃ f fd, mg "is_list" = some (.ref f) ∧ Fun K "is_list" "is_list" s_p_is_list f fd
  f_p_divisor_of : ∃ f fd, mg "divisor_of" = some (.ref f) ∧ Fun K "divisor_of" "divisor_of" s_p_divisor_of f fd
  f_p_plain : ∃ f fd, mg "plain" = some (.ref f) ∧ Fun K "plain" "plain" s_p_plain f fd
  f_p_lead_place : ∃ f fd, mg "lead_place" = some (.ref f) ∧ Fun K "lead_place" "lead_place" s_p_lead_place f fd
  f_p_signed : ∃ f fd, mg "signed" = some (.ref f) ∧ Fun K "signed" "signed" s_p_signed f fd
  f_p_told_of : ∃ f fd, mg "told_of" = some (.ref f) ∧ Fun K "told_of" "told_of" s_p_told_of f fd
  f_p_is_integer : ∃ f fd, mg "is_integer" = some (.ref f) ∧ Fun K "is_integer" "is_integer" s_p_is_integer f fd
  f_p_are_point : ∃ f fd, mg "are_point" = some (.ref f) ∧ Fun K "are_point" "are_point" s_p_are_point f fd
  f_p_told_points : ∃ f fd, mg "told_points" = some (.ref f) ∧ Fun K "told_points" "told_points" s_p_told_points f fd
  f_i_Spots : ∃ C f fd, mg "Spots" = some (.ref C) ∧ Mk K C f ∧ Fun K "__init__" "Spots.__init__" s_i_Spots f fd
  f_p_stair_points : ∃ f fd, mg "stair_points" = some (.ref f) ∧ Fun K "stair_points" "stair_points" s_p_stair_points f fd
  f_p_is_count : ∃ f fd, mg "is_count" = some (.ref f) ∧ Fun K "is_count" "is_count" s_p_is_count f fd
  f_p_is_counts : ∃ f fd, mg "is_counts" = some (.ref f) ∧ Fun K "is_counts" "is_counts" s_p_is_counts f fd
  f_p_goes_on : ∃ f fd, mg "goes_on" = some (.ref f) ∧ Fun K "goes_on" "goes_on" s_p_goes_on f fd
  f_p_fault_of : ∃ f fd, mg "fault_of" = some (.ref f) ∧ Fun K "fault_of" "fault_of" s_p_fault_of f fd
  f_p_is_row : ∃ f fd, mg "is_row" = some (.ref f) ∧ Fun K "is_row" "is_row" s_p_is_row f fd
  f_p_want_row : ∃ f fd, mg "want_row" = some (.ref f) ∧ Fun K "want_row" "want_row" s_p_want_row f fd
  f_p_stair : ∃ f fd, mg "stair" = some (.ref f) ∧ Fun K "stair" "stair" s_p_stair f fd
  f_c_Spots_points : ∃ C f fd, mg "Spots" = some (.ref C) ∧ Cls K C ∧ Meth K C "points" f ∧ Fun K "points" "Spots.points" s_c_Spots_points f fd
  f_c_Spots_size : ∃ C p f fd, mg "Spots" = some (.ref C) ∧ Cls K C ∧ PropOf K C "size" p f ∧ Fun K "size" "Spots.size" s_c_Spots_size f fd
  f_p_want_spots : ∃ f fd, mg "want_spots" = some (.ref f) ∧ Fun K "want_spots" "want_spots" s_p_want_spots f fd
  f_p_less : ∃ f fd, mg "less" = some (.ref f) ∧ Fun K "less" "less" s_p_less f fd
  f_p_cleared : ∃ f fd, mg "cleared" = some (.ref f) ∧ Fun K "cleared" "cleared" s_p_cleared f fd
  f_p_echelon : ∃ f fd, mg "echelon" = some (.ref f) ∧ Fun K "echelon" "echelon" s_p_echelon f fd
  f_p_rank_of : ∃ f fd, mg "rank_of" = some (.ref f) ∧ Fun K "rank_of" "rank_of" s_p_rank_of f fd
  f_p_are_table : ∃ f fd, mg "are_table" = some (.ref f) ∧ Fun K "are_table" "are_table" s_p_are_table f fd
  f_p_want_table : ∃ f fd, mg "want_table" = some (.ref f) ∧ Fun K "want_table" "want_table" s_p_want_table f fd
  f_i_Told : ∃ C f fd, mg "Told" = some (.ref C) ∧ Mk K C f ∧ Fun K "__init__" "Told.__init__" s_i_Told f fd
  f_p_spots_by : ∃ f fd, mg "spots_by" = some (.ref f) ∧ Fun K "spots_by" "spots_by" s_p_spots_by f fd
  f_p_sum_of : ∃ f fd, mg "sum_of" = some (.ref f) ∧ Fun K "sum_of" "sum_of" s_p_sum_of f fd
  f_p_led_by : ∃ f fd, mg "led_by" = some (.ref f) ∧ Fun K "led_by" "led_by" s_p_led_by f fd
  f_p_moved : ∃ f fd, mg "moved" = some (.ref f) ∧ Fun K "moved" "moved" s_p_moved f fd
  f_p_powers_of : ∃ f fd, mg "powers_of" = some (.ref f) ∧ Fun K "powers_of" "powers_of" s_p_powers_of f fd
  f_p_triples_of : ∃ f fd, mg "triples_of" = some (.ref f) ∧ Fun K "triples_of" "triples_of" s_p_triples_of f fd
  f_p_letters_at : ∃ f fd, mg "letters_at" = some (.ref f) ∧ Fun K "letters_at" "letters_at" s_p_letters_at f fd
  f_p_condition_rows : ∃ f fd, mg "condition_rows" = some (.ref f) ∧ Fun K "condition_rows" "condition_rows" s_p_condition_rows f fd
  f_p_rank_at : ∃ f fd, mg "rank_at" = some (.ref f) ∧ Fun K "rank_at" "rank_at" s_p_rank_at f fd
  f_p_row_by : ∃ f fd, mg "row_by" = some (.ref f) ∧ Fun K "row_by" "row_by" s_p_row_by f fd
  f_p_row : ∃ f fd, mg "row" = some (.ref f) ∧ Fun K "row" "row" s_p_row f fd
  f_p_end : ∃ f fd, mg "end" = some (.ref f) ∧ Fun K "end" "end" s_p_end f fd
  f_p_want_degree : ∃ f fd, mg "want_degree" = some (.ref f) ∧ FunDd K "want_degree" s_p_want_degree [.int 0] f fd
  f_p_want_both : ∃ f fd, mg "want_both" = some (.ref f) ∧ Fun K "want_both" "want_both" s_p_want_both f fd
  f_p_conditions : ∃ f fd, mg "conditions" = some (.ref f) ∧ Fun K "conditions" "conditions" s_p_conditions f fd
  f_p_many_through : ∃ f fd, mg "many_through" = some (.ref f) ∧ Fun K "many_through" "many_through" s_p_many_through f fd
  f_p_top_of : ∃ f fd, mg "top_of" = some (.ref f) ∧ Fun K "top_of" "top_of" s_p_top_of f fd
  f_p_top : ∃ f fd, mg "top" = some (.ref f) ∧ Fun K "top" "top" s_p_top f fd
  f_l_top : ∃ f fd, mg "_law_top" = some (.ref f) ∧ Fun K "_law_top" "_law_top" s_l_top f fd
  f_l_right : ∃ f fd, mg "_law_right" = some (.ref f) ∧ Fun K "_law_right" "_law_right" s_l_right f fd
  f_l_pot : ∃ f fd, mg "_law_pot" = some (.ref f) ∧ Fun K "_law_pot" "_law_pot" s_l_pot f fd
  f_law_ : ∃ f fd, mg "law" = some (.ref f) ∧ Fun K "law" "law" s_law_ f fd
  b_abs : mg "abs" = none
  b_all : mg "all" = none
  b_any : mg "any" = none
  b_bool : mg "bool" = none
  b_divmod : mg "divmod" = none
  b_enumerate : mg "enumerate" = none
  b_int : mg "int" = none
  b_isinstance : mg "isinstance" = none
  b_len : mg "len" = none
  b_list : mg "list" = none
  b_max : mg "max" = none
  b_min : mg "min" = none
  b_range : mg "range" = none
  b_repr : mg "repr" = none
  b_sorted : mg "sorted" = none
  b_sum : mg "sum" = none
  b_tuple : mg "tuple" = none
  b_zip : mg "zip" = none
  c_MOST_DEGREE : ∃ u, mg "MOST_DEGREE" = some u ∧ RelV (.int 9) u
  c_MOST_END : ∃ u, mg "MOST_END" = some u ∧ RelV (.int 8) u
  c_MOST_PLACES : ∃ u, mg "MOST_PLACES" = some u ∧ RelV (.int 9) u
  c_MOST_POINTS : ∃ u, mg "MOST_POINTS" = some u ∧ RelV (.int 24) u
  c_MOST_SUM : ∃ u, mg "MOST_SUM" = some u ∧ RelV (.int 24) u
theorem top_mk {K : PySem.W.Frag} {h : Heap} {mg : Str → Option Value} (X : K.In h) (G : h.Ns mainGlobals mg)
    (oN : PySem.W.specialIn K (.builtin "object.__class__") "__get__" = some (some (.builtin "getset_descriptor.__get__"))) (oT : PySem.W.takesIn K (.builtin "object.__class__") = some true)
    {C_Spots : Addr} (aC_Spots : PySem.W.nsIn K mainGlobals "Spots" = some (some (.ref C_Spots)))
    (pg_Spots : PySem.W.plainGet K C_Spots Str.empty = true) (hd_Spots : PySem.W.hasDictIn K C_Spots = true) (po_Spots : PySem.W.plainOver K C_Spots = true) (sa_Spots : PySem.W.findIn K (.ref C_Spots) "__setattr__" = some (some (.builtin "object.__setattr__")))
    (mk_Spots : PySem.W.makesIn K C_Spots = true) (kc_Spots : PySem.W.keepIn K (.ref C_Spots) = true)
    (ha_Spots : PySem.W.findIn K (.ref C_Spots) "__class__" = some (some (.builtin "object.__class__"))) (hm_Spots : PySem.W.mroIn K C_Spots (.type "object") = some true)
    {C_Told : Addr} (aC_Told : PySem.W.nsIn K mainGlobals "Told" = some (some (.ref C_Told)))
    (pg_Told : PySem.W.plainGet K C_Told Str.empty = true) (hd_Told : PySem.W.hasDictIn K C_Told = true) (po_Told : PySem.W.plainOver K C_Told = true) (sa_Told : PySem.W.findIn K (.ref C_Told) "__setattr__" = some (some (.builtin "object.__setattr__")))
    (mk_Told : PySem.W.makesIn K C_Told = true) (kc_Told : PySem.W.keepIn K (.ref C_Told) = true)
    (ha_Told : PySem.W.findIn K (.ref C_Told) "__class__" = some (some (.builtin "object.__class__"))) (hm_Told : PySem.W.mroIn K C_Told (.type "object") = some true)
    (nf_Spots_own_points : PySem.W.findIn K (.ref C_Spots) "own_points" = some none)
    (nf_Told_told_points : PySem.W.findIn K (.ref C_Told) "told_points" = some none)
    (ic_Spots : PySem.W.isClsIn K C_Spots = true) (ty_Spots : PySem.W.typeIn K (.ref C_Spots) = some (.type "type"))
    (kt_Spots_NoneType : PySem.W.subIn K (.type "NoneType") (.ref C_Spots) = some false)
    (kt_Spots_bool : PySem.W.subIn K (.type "bool") (.ref C_Spots) = some false)
    (kt_Spots_int : PySem.W.subIn K (.type "int") (.ref C_Spots) = some false)
    (kt_Spots_str : PySem.W.subIn K (.type "str") (.ref C_Spots) = some false)
    (kt_Spots_list : PySem.W.subIn K (.type "list") (.ref C_Spots) = some false)
    (kt_Spots_tuple : PySem.W.subIn K (.type "tuple") (.ref C_Spots) = some false)
    (kt_Spots_dict : PySem.W.subIn K (.type "dict") (.ref C_Spots) = some false)
    (ne_Spots_Told : (C_Told == C_Spots) = false) (ks_Spots_Told : PySem.W.subIn K (.ref C_Told) (.ref C_Spots) = some false)
    (ic_Told : PySem.W.isClsIn K C_Told = true) (ty_Told : PySem.W.typeIn K (.ref C_Told) = some (.type "type"))
    (kt_Told_NoneType : PySem.W.subIn K (.type "NoneType") (.ref C_Told) = some false)
    (kt_Told_bool : PySem.W.subIn K (.type "bool") (.ref C_Told) = some false)
    (kt_Told_int : PySem.W.subIn K (.type "int") (.ref C_Told) = some false)
    (kt_Told_str : PySem.W.subIn K (.type "str") (.ref C_Told) = some false)
    (kt_Told_list : PySem.W.subIn K (.type "list") (.ref C_Told) = some false)
    (kt_Told_tuple : PySem.W.subIn K (.type "tuple") (.ref C_Told) = some false)
    (kt_Told_dict : PySem.W.subIn K (.type "dict") (.ref C_Told) = some false)
    (ne_Told_Spots : (C_Spots == C_Told) = false) (ks_Told_Spots : PySem.W.subIn K (.ref C_Spots) (.ref C_Told) = some false)
    (en_Spots : PySem.W.findIn K (.ref C_Spots) "__ne__" = some (some (.builtin "object.__ne__"))) (eo_Spots : PySem.W.subIn K (.ref C_Spots) (.type "object") = some true)
    (st_Spots_NoneType : PySem.W.subIn K (.ref C_Spots) (.type "NoneType") = some false)
    (st_Spots_bool : PySem.W.subIn K (.ref C_Spots) (.type "bool") = some false)
    (st_Spots_int : PySem.W.subIn K (.ref C_Spots) (.type "int") = some false)
    (st_Spots_str : PySem.W.subIn K (.ref C_Spots) (.type "str") = some false)
    (st_Spots_list : PySem.W.subIn K (.ref C_Spots) (.type "list") = some false)
    (st_Spots_tuple : PySem.W.subIn K (.ref C_Spots) (.type "tuple") = some false)
    (st_Spots_dict : PySem.W.subIn K (.ref C_Spots) (.type "dict") = some false)
    (st_Told_NoneType : PySem.W.subIn K (.ref C_Told) (.type "NoneType") = some false)
    (st_Told_bool : PySem.W.subIn K (.ref C_Told) (.type "bool") = some false)
    (st_Told_int : PySem.W.subIn K (.ref C_Told) (.type "int") = some false)
    (st_Told_str : PySem.W.subIn K (.ref C_Told) (.type "str") = some false)
    (st_Told_list : PySem.W.subIn K (.ref C_Told) (.type "list") = some false)
    (st_Told_tuple : PySem.W.subIn K (.ref C_Told) (.type "tuple") = some false)
    (st_Told_dict : PySem.W.subIn K (.ref C_Told) (.type "dict") = some false)
    (hg_gcd : PySem.W.nsIn K mainGlobals "gcd" = some (some (.builtin "math.gcd")))
    {f0 : Addr} {od0 an0 : Option Addr} {sl0 : Array (Option Value)} {oc0 kV0 dc0 pm0 cd0 ct0 : Value}
    (a0 : PySem.W.nsIn K mainGlobals "_law_draw" = some (some (.ref f0)))
    (l0 : K.lookup f0 = some ⟨oc0, od0, .func (PySem.W.fnOf "_law_draw" "_law_draw" (defArgs s_l_draw) (defBody s_l_draw) (defScope s_l_draw) .none kV0 dc0 pm0 an0 cd0 ct0), sl0⟩) (c0 : PySem.W.codeIn K cd0 "_law_draw" = true) (k0 : PySem.W.keepIn K (.ref f0) = true)
    {f1 : Addr} {od1 an1 : Option Addr} {sl1 : Array (Option Value)} {oc1 kV1 dc1 pm1 cd1 ct1 : Value}
    (a1 : PySem.W.nsIn K mainGlobals "_law_row" = some (some (.ref f1)))
    (l1 : K.lookup f1 = some ⟨oc1, od1, .func (PySem.W.fnOf "_law_row" "_law_row" (defArgs s_l_row) (defBody s_l_row) (defScope s_l_row) .none kV1 dc1 pm1 an1 cd1 ct1), sl1⟩) (c1 : PySem.W.codeIn K cd1 "_law_row" = true) (k1 : PySem.W.keepIn K (.ref f1) = true)
    {f2 : Addr} {od2 an2 : Option Addr} {sl2 : Array (Option Value)} {oc2 kV2 dc2 pm2 cd2 ct2 : Value}
    (a2 : PySem.W.nsIn K mainGlobals "_law_passed" = some (some (.ref f2)))
    (l2 : K.lookup f2 = some ⟨oc2, od2, .func (PySem.W.fnOf "_law_passed" "_law_passed" (defArgs s_l_passed) (defBody s_l_passed) (defScope s_l_passed) .none kV2 dc2 pm2 an2 cd2 ct2), sl2⟩) (c2 : PySem.W.codeIn K cd2 "_law_passed" = true) (k2 : PySem.W.keepIn K (.ref f2) = true)
    {f3 : Addr} {od3 an3 : Option Addr} {sl3 : Array (Option Value)} {oc3 kV3 dc3 pm3 cd3 ct3 : Value}
    (a3 : PySem.W.nsIn K mainGlobals "_law_points" = some (some (.ref f3)))
    (l3 : K.lookup f3 = some ⟨oc3, od3, .func (PySem.W.fnOf "_law_points" "_law_points" (defArgs s_l_points) (defBody s_l_points) (defScope s_l_points) .none kV3 dc3 pm3 an3 cd3 ct3), sl3⟩) (c3 : PySem.W.codeIn K cd3 "_law_points" = true) (k3 : PySem.W.keepIn K (.ref f3) = true)
    {f4 : Addr} {od4 an4 : Option Addr} {sl4 : Array (Option Value)} {oc4 kV4 dc4 pm4 cd4 ct4 : Value}
    (a4 : PySem.W.findIn K (.ref C_Spots) "__eq__" = some (some (.ref f4))) (i4 : PySem.W.isFn K (.ref f4) = true)
    (l4 : K.lookup f4 = some ⟨oc4, od4, .func (PySem.W.fnOf "__eq__" "Spots.__eq__" (defArgs s_c_Spots___eq__) (defBody s_c_Spots___eq__) (defScope s_c_Spots___eq__) .none kV4 dc4 pm4 an4 cd4 ct4), sl4⟩) (c4 : PySem.W.codeIn K cd4 "Spots.__eq__" = true) (k4 : PySem.W.keepIn K (.ref f4) = true)
    {f5 : Addr} {od5 an5 : Option Addr} {sl5 : Array (Option Value)} {oc5 kV5 dc5 pm5 cd5 ct5 : Value}
    (a5 : PySem.W.nsIn K mainGlobals "_law_pick" = some (some (.ref f5)))
    (l5 : K.lookup f5 = some ⟨oc5, od5, .func (PySem.W.fnOf "_law_pick" "_law_pick" (defArgs s_l_pick) (defBody s_l_pick) (defScope s_l_pick) .none kV5 dc5 pm5 an5 cd5 ct5), sl5⟩) (c5 : PySem.W.codeIn K cd5 "_law_pick" = true) (k5 : PySem.W.keepIn K (.ref f5) = true)
    {f6 : Addr} {od6 an6 : Option Addr} {sl6 : Array (Option Value)} {oc6 kV6 dc6 pm6 cd6 ct6 : Value}
    (a6 : PySem.W.nsIn K mainGlobals "is_list" = some (some (.ref f6)))
    (l6 : K.lookup f6 = some ⟨oc6, od6, .func (PySem.W.fnOf "is_list" "is_list" (defArgs s_p_is_list) (defBody s_p_is_list) (defScope s_p_is_list) .none kV6 dc6 pm6 an6 cd6 ct6), sl6⟩) (c6 : PySem.W.codeIn K cd6 "is_list" = true) (k6 : PySem.W.keepIn K (.ref f6) = true)
    {f7 : Addr} {od7 an7 : Option Addr} {sl7 : Array (Option Value)} {oc7 kV7 dc7 pm7 cd7 ct7 : Value}
    (a7 : PySem.W.nsIn K mainGlobals "divisor_of" = some (some (.ref f7)))
    (l7 : K.lookup f7 = some ⟨oc7, od7, .func (PySem.W.fnOf "divisor_of" "divisor_of" (defArgs s_p_divisor_of) (defBody s_p_divisor_of) (defScope s_p_divisor_of) .none kV7 dc7 pm7 an7 cd7 ct7), sl7⟩) (c7 : PySem.W.codeIn K cd7 "divisor_of" = true) (k7 : PySem.W.keepIn K (.ref f7) = true)
    {f8 : Addr} {od8 an8 : Option Addr} {sl8 : Array (Option Value)} {oc8 kV8 dc8 pm8 cd8 ct8 : Value}
    (a8 : PySem.W.nsIn K mainGlobals "plain" = some (some (.ref f8)))
    (l8 : K.lookup f8 = some ⟨oc8, od8, .func (PySem.W.fnOf "plain" "plain" (defArgs s_p_plain) (defBody s_p_plain) (defScope s_p_plain) .none kV8 dc8 pm8 an8 cd8 ct8), sl8⟩) (c8 : PySem.W.codeIn K cd8 "plain" = true) (k8 : PySem.W.keepIn K (.ref f8) = true)
    {f9 : Addr} {od9 an9 : Option Addr} {sl9 : Array (Option Value)} {oc9 kV9 dc9 pm9 cd9 ct9 : Value}
    (a9 : PySem.W.nsIn K mainGlobals "lead_place" = some (some (.ref f9)))
    (l9 : K.lookup f9 = some ⟨oc9, od9, .func (PySem.W.fnOf "lead_place" "lead_place" (defArgs s_p_lead_place) (defBody s_p_lead_place) (defScope s_p_lead_place) .none kV9 dc9 pm9 an9 cd9 ct9), sl9⟩) (c9 : PySem.W.codeIn K cd9 "lead_place" = true) (k9 : PySem.W.keepIn K (.ref f9) = true)
    {f10 : Addr} {od10 an10 : Option Addr} {sl10 : Array (Option Value)} {oc10 kV10 dc10 pm10 cd10 ct10 : Value}
    (a10 : PySem.W.nsIn K mainGlobals "signed" = some (some (.ref f10)))
    (l10 : K.lookup f10 = some ⟨oc10, od10, .func (PySem.W.fnOf "signed" "signed" (defArgs s_p_signed) (defBody s_p_signed) (defScope s_p_signed) .none kV10 dc10 pm10 an10 cd10 ct10), sl10⟩) (c10 : PySem.W.codeIn K cd10 "signed" = true) (k10 : PySem.W.keepIn K (.ref f10) = true)
    {f11 : Addr} {od11 an11 : Option Addr} {sl11 : Array (Option Value)} {oc11 kV11 dc11 pm11 cd11 ct11 : Value}
    (a11 : PySem.W.nsIn K mainGlobals "told_of" = some (some (.ref f11)))
    (l11 : K.lookup f11 = some ⟨oc11, od11, .func (PySem.W.fnOf "told_of" "told_of" (defArgs s_p_told_of) (defBody s_p_told_of) (defScope s_p_told_of) .none kV11 dc11 pm11 an11 cd11 ct11), sl11⟩) (c11 : PySem.W.codeIn K cd11 "told_of" = true) (k11 : PySem.W.keepIn K (.ref f11) = true)
    {f12 : Addr} {od12 an12 : Option Addr} {sl12 : Array (Option Value)} {oc12 kV12 dc12 pm12 cd12 ct12 : Value}
    (a12 : PySem.W.nsIn K mainGlobals "is_integer" = some (some (.ref f12)))
    (l12 : K.lookup f12 = some ⟨oc12, od12, .func (PySem.W.fnOf "is_integer" "is_integer" (defArgs s_p_is_integer) (defBody s_p_is_integer) (defScope s_p_is_integer) .none kV12 dc12 pm12 an12 cd12 ct12), sl12⟩) (c12 : PySem.W.codeIn K cd12 "is_integer" = true) (k12 : PySem.W.keepIn K (.ref f12) = true)
    {f13 : Addr} {od13 an13 : Option Addr} {sl13 : Array (Option Value)} {oc13 kV13 dc13 pm13 cd13 ct13 : Value}
    (a13 : PySem.W.nsIn K mainGlobals "are_point" = some (some (.ref f13)))
    (l13 : K.lookup f13 = some ⟨oc13, od13, .func (PySem.W.fnOf "are_point" "are_point" (defArgs s_p_are_point) (defBody s_p_are_point) (defScope s_p_are_point) .none kV13 dc13 pm13 an13 cd13 ct13), sl13⟩) (c13 : PySem.W.codeIn K cd13 "are_point" = true) (k13 : PySem.W.keepIn K (.ref f13) = true)
    {f14 : Addr} {od14 an14 : Option Addr} {sl14 : Array (Option Value)} {oc14 kV14 dc14 pm14 cd14 ct14 : Value}
    (a14 : PySem.W.nsIn K mainGlobals "told_points" = some (some (.ref f14)))
    (l14 : K.lookup f14 = some ⟨oc14, od14, .func (PySem.W.fnOf "told_points" "told_points" (defArgs s_p_told_points) (defBody s_p_told_points) (defScope s_p_told_points) .none kV14 dc14 pm14 an14 cd14 ct14), sl14⟩) (c14 : PySem.W.codeIn K cd14 "told_points" = true) (k14 : PySem.W.keepIn K (.ref f14) = true)
    {f15 : Addr} {od15 an15 : Option Addr} {sl15 : Array (Option Value)} {oc15 kV15 dc15 pm15 cd15 ct15 : Value}
    (a15 : PySem.W.findIn K (.ref C_Spots) "__init__" = some (some (.ref f15))) (i15 : PySem.W.isFn K (.ref f15) = true)
    (l15 : K.lookup f15 = some ⟨oc15, od15, .func (PySem.W.fnOf "__init__" "Spots.__init__" (defArgs s_i_Spots) (defBody s_i_Spots) (defScope s_i_Spots) .none kV15 dc15 pm15 an15 cd15 ct15), sl15⟩) (c15 : PySem.W.codeIn K cd15 "Spots.__init__" = true) (k15 : PySem.W.keepIn K (.ref f15) = true)
    {f16 : Addr} {od16 an16 : Option Addr} {sl16 : Array (Option Value)} {oc16 kV16 dc16 pm16 cd16 ct16 : Value}
    (a16 : PySem.W.nsIn K mainGlobals "stair_points" = some (some (.ref f16)))
    (l16 : K.lookup f16 = some ⟨oc16, od16, .func (PySem.W.fnOf "stair_points" "stair_points" (defArgs s_p_stair_points) (defBody s_p_stair_points) (defScope s_p_stair_points) .none kV16 dc16 pm16 an16 cd16 ct16), sl16⟩) (c16 : PySem.W.codeIn K cd16 "stair_points" = true) (k16 : PySem.W.keepIn K (.ref f16) = true)
    {f17 : Addr} {od17 an17 : Option Addr} {sl17 : Array (Option Value)} {oc17 kV17 dc17 pm17 cd17 ct17 : Value}
    (a17 : PySem.W.nsIn K mainGlobals "is_count" = some (some (.ref f17)))
    (l17 : K.lookup f17 = some ⟨oc17, od17, .func (PySem.W.fnOf "is_count" "is_count" (defArgs s_p_is_count) (defBody s_p_is_count) (defScope s_p_is_count) .none kV17 dc17 pm17 an17 cd17 ct17), sl17⟩) (c17 : PySem.W.codeIn K cd17 "is_count" = true) (k17 : PySem.W.keepIn K (.ref f17) = true)
    {f18 : Addr} {od18 an18 : Option Addr} {sl18 : Array (Option Value)} {oc18 kV18 dc18 pm18 cd18 ct18 : Value}
    (a18 : PySem.W.nsIn K mainGlobals "is_counts" = some (some (.ref f18)))
    (l18 : K.lookup f18 = some ⟨oc18, od18, .func (PySem.W.fnOf "is_counts" "is_counts" (defArgs s_p_is_counts) (defBody s_p_is_counts) (defScope s_p_is_counts) .none kV18 dc18 pm18 an18 cd18 ct18), sl18⟩) (c18 : PySem.W.codeIn K cd18 "is_counts" = true) (k18 : PySem.W.keepIn K (.ref f18) = true)
    {f19 : Addr} {od19 an19 : Option Addr} {sl19 : Array (Option Value)} {oc19 kV19 dc19 pm19 cd19 ct19 : Value}
    (a19 : PySem.W.nsIn K mainGlobals "goes_on" = some (some (.ref f19)))
    (l19 : K.lookup f19 = some ⟨oc19, od19, .func (PySem.W.fnOf "goes_on" "goes_on" (defArgs s_p_goes_on) (defBody s_p_goes_on) (defScope s_p_goes_on) .none kV19 dc19 pm19 an19 cd19 ct19), sl19⟩) (c19 : PySem.W.codeIn K cd19 "goes_on" = true) (k19 : PySem.W.keepIn K (.ref f19) = true)
    {f20 : Addr} {od20 an20 : Option Addr} {sl20 : Array (Option Value)} {oc20 kV20 dc20 pm20 cd20 ct20 : Value}
    (a20 : PySem.W.nsIn K mainGlobals "fault_of" = some (some (.ref f20)))
    (l20 : K.lookup f20 = some ⟨oc20, od20, .func (PySem.W.fnOf "fault_of" "fault_of" (defArgs s_p_fault_of) (defBody s_p_fault_of) (defScope s_p_fault_of) .none kV20 dc20 pm20 an20 cd20 ct20), sl20⟩) (c20 : PySem.W.codeIn K cd20 "fault_of" = true) (k20 : PySem.W.keepIn K (.ref f20) = true)
    {f21 : Addr} {od21 an21 : Option Addr} {sl21 : Array (Option Value)} {oc21 kV21 dc21 pm21 cd21 ct21 : Value}
    (a21 : PySem.W.nsIn K mainGlobals "is_row" = some (some (.ref f21)))
    (l21 : K.lookup f21 = some ⟨oc21, od21, .func (PySem.W.fnOf "is_row" "is_row" (defArgs s_p_is_row) (defBody s_p_is_row) (defScope s_p_is_row) .none kV21 dc21 pm21 an21 cd21 ct21), sl21⟩) (c21 : PySem.W.codeIn K cd21 "is_row" = true) (k21 : PySem.W.keepIn K (.ref f21) = true)
    {f22 : Addr} {od22 an22 : Option Addr} {sl22 : Array (Option Value)} {oc22 kV22 dc22 pm22 cd22 ct22 : Value}
    (a22 : PySem.W.nsIn K mainGlobals "want_row" = some (some (.ref f22)))
    (l22 : K.lookup f22 = some ⟨oc22, od22, .func (PySem.W.fnOf "want_row" "want_row" (defArgs s_p_want_row) (defBody s_p_want_row) (defScope s_p_want_row) .none kV22 dc22 pm22 an22 cd22 ct22), sl22⟩) (c22 : PySem.W.codeIn K cd22 "want_row" = true) (k22 : PySem.W.keepIn K (.ref f22) = true)
    {f23 : Addr} {od23 an23 : Option Addr} {sl23 : Array (Option Value)} {oc23 kV23 dc23 pm23 cd23 ct23 : Value}
    (a23 : PySem.W.nsIn K mainGlobals "stair" = some (some (.ref f23)))
    (l23 : K.lookup f23 = some ⟨oc23, od23, .func (PySem.W.fnOf "stair" "stair" (defArgs s_p_stair) (defBody s_p_stair) (defScope s_p_stair) .none kV23 dc23 pm23 an23 cd23 ct23), sl23⟩) (c23 : PySem.W.codeIn K cd23 "stair" = true) (k23 : PySem.W.keepIn K (.ref f23) = true)
    {f24 : Addr} {od24 an24 : Option Addr} {sl24 : Array (Option Value)} {oc24 kV24 dc24 pm24 cd24 ct24 : Value}
    (a24 : PySem.W.findIn K (.ref C_Spots) "points" = some (some (.ref f24))) (i24 : PySem.W.isFn K (.ref f24) = true)
    (l24 : K.lookup f24 = some ⟨oc24, od24, .func (PySem.W.fnOf "points" "Spots.points" (defArgs s_c_Spots_points) (defBody s_c_Spots_points) (defScope s_c_Spots_points) .none kV24 dc24 pm24 an24 cd24 ct24), sl24⟩) (c24 : PySem.W.codeIn K cd24 "Spots.points" = true) (k24 : PySem.W.keepIn K (.ref f24) = true)
    {f25 : Addr} {od25 an25 : Option Addr} {sl25 : Array (Option Value)} {oc25 kV25 dc25 pm25 cd25 ct25 : Value}
    {pp25 : Addr} {pr25 : List Value} (a25 : PySem.W.findIn K (.ref C_Spots) "size" = some (some (.ref pp25))) (pa25 : PySem.W.specialIn K (.ref pp25) "__get__" = some (some (.builtin "property.__get__"))) (pb25 : PySem.W.takesIn K (.ref pp25) = some true) (pc25 : PySem.W.recIn K pp25 "property" = some (.ref f25 :: pr25))
    (l25 : K.lookup f25 = some ⟨oc25, od25, .func (PySem.W.fnOf "size" "Spots.size" (defArgs s_c_Spots_size) (defBody s_c_Spots_size) (defScope s_c_Spots_size) .none kV25 dc25 pm25 an25 cd25 ct25), sl25⟩) (c25 : PySem.W.codeIn K cd25 "Spots.size" = true) (k25 : PySem.W.keepIn K (.ref f25) = true)
    {f26 : Addr} {od26 an26 : Option Addr} {sl26 : Array (Option Value)} {oc26 kV26 dc26 pm26 cd26 ct26 : Value}
    (a26 : PySem.W.nsIn K mainGlobals "want_spots" = some (some (.ref f26)))
    (l26 : K.lookup f26 = some ⟨oc26, od26, .func (PySem.W.fnOf "want_spots" "want_spots" (defArgs s_p_want_spots) (defBody s_p_want_spots) (defScope s_p_want_spots) .none kV26 dc26 pm26 an26 cd26 ct26), sl26⟩) (c26 : PySem.W.codeIn K cd26 "want_spots" = true) (k26 : PySem.W.keepIn K (.ref f26) = true)
    {f27 : Addr} {od27 an27 : Option Addr} {sl27 : Array (Option Value)} {oc27 kV27 dc27 pm27 cd27 ct27 : Value}
    (a27 : PySem.W.nsIn K mainGlobals "less" = some (some (.ref f27)))
    (l27 : K.lookup f27 = some ⟨oc27, od27, .func (PySem.W.fnOf "less" "less" (defArgs s_p_less) (defBody s_p_less) (defScope s_p_less) .none kV27 dc27 pm27 an27 cd27 ct27), sl27⟩) (c27 : PySem.W.codeIn K cd27 "less" = true) (k27 : PySem.W.keepIn K (.ref f27) = true)
    {f28 : Addr} {od28 an28 : Option Addr} {sl28 : Array (Option Value)} {oc28 kV28 dc28 pm28 cd28 ct28 : Value}
    (a28 : PySem.W.nsIn K mainGlobals "cleared" = some (some (.ref f28)))
    (l28 : K.lookup f28 = some ⟨oc28, od28, .func (PySem.W.fnOf "cleared" "cleared" (defArgs s_p_cleared) (defBody s_p_cleared) (defScope s_p_cleared) .none kV28 dc28 pm28 an28 cd28 ct28), sl28⟩) (c28 : PySem.W.codeIn K cd28 "cleared" = true) (k28 : PySem.W.keepIn K (.ref f28) = true)
    {f29 : Addr} {od29 an29 : Option Addr} {sl29 : Array (Option Value)} {oc29 kV29 dc29 pm29 cd29 ct29 : Value}
    (a29 : PySem.W.nsIn K mainGlobals "echelon" = some (some (.ref f29)))
    (l29 : K.lookup f29 = some ⟨oc29, od29, .func (PySem.W.fnOf "echelon" "echelon" (defArgs s_p_echelon) (defBody s_p_echelon) (defScope s_p_echelon) .none kV29 dc29 pm29 an29 cd29 ct29), sl29⟩) (c29 : PySem.W.codeIn K cd29 "echelon" = true) (k29 : PySem.W.keepIn K (.ref f29) = true)
    {f30 : Addr} {od30 an30 : Option Addr} {sl30 : Array (Option Value)} {oc30 kV30 dc30 pm30 cd30 ct30 : Value}
    (a30 : PySem.W.nsIn K mainGlobals "rank_of" = some (some (.ref f30)))
    (l30 : K.lookup f30 = some ⟨oc30, od30, .func (PySem.W.fnOf "rank_of" "rank_of" (defArgs s_p_rank_of) (defBody s_p_rank_of) (defScope s_p_rank_of) .none kV30 dc30 pm30 an30 cd30 ct30), sl30⟩) (c30 : PySem.W.codeIn K cd30 "rank_of" = true) (k30 : PySem.W.keepIn K (.ref f30) = true)
    {f31 : Addr} {od31 an31 : Option Addr} {sl31 : Array (Option Value)} {oc31 kV31 dc31 pm31 cd31 ct31 : Value}
    (a31 : PySem.W.nsIn K mainGlobals "are_table" = some (some (.ref f31)))
    (l31 : K.lookup f31 = some ⟨oc31, od31, .func (PySem.W.fnOf "are_table" "are_table" (defArgs s_p_are_table) (defBody s_p_are_table) (defScope s_p_are_table) .none kV31 dc31 pm31 an31 cd31 ct31), sl31⟩) (c31 : PySem.W.codeIn K cd31 "are_table" = true) (k31 : PySem.W.keepIn K (.ref f31) = true)
    {f32 : Addr} {od32 an32 : Option Addr} {sl32 : Array (Option Value)} {oc32 kV32 dc32 pm32 cd32 ct32 : Value}
    (a32 : PySem.W.nsIn K mainGlobals "want_table" = some (some (.ref f32)))
    (l32 : K.lookup f32 = some ⟨oc32, od32, .func (PySem.W.fnOf "want_table" "want_table" (defArgs s_p_want_table) (defBody s_p_want_table) (defScope s_p_want_table) .none kV32 dc32 pm32 an32 cd32 ct32), sl32⟩) (c32 : PySem.W.codeIn K cd32 "want_table" = true) (k32 : PySem.W.keepIn K (.ref f32) = true)
    {f33 : Addr} {od33 an33 : Option Addr} {sl33 : Array (Option Value)} {oc33 kV33 dc33 pm33 cd33 ct33 : Value}
    (a33 : PySem.W.findIn K (.ref C_Told) "__init__" = some (some (.ref f33))) (i33 : PySem.W.isFn K (.ref f33) = true)
    (l33 : K.lookup f33 = some ⟨oc33, od33, .func (PySem.W.fnOf "__init__" "Told.__init__" (defArgs s_i_Told) (defBody s_i_Told) (defScope s_i_Told) .none kV33 dc33 pm33 an33 cd33 ct33), sl33⟩) (c33 : PySem.W.codeIn K cd33 "Told.__init__" = true) (k33 : PySem.W.keepIn K (.ref f33) = true)
    {f34 : Addr} {od34 an34 : Option Addr} {sl34 : Array (Option Value)} {oc34 kV34 dc34 pm34 cd34 ct34 : Value}
    (a34 : PySem.W.nsIn K mainGlobals "spots_by" = some (some (.ref f34)))
    (l34 : K.lookup f34 = some ⟨oc34, od34, .func (PySem.W.fnOf "spots_by" "spots_by" (defArgs s_p_spots_by) (defBody s_p_spots_by) (defScope s_p_spots_by) .none kV34 dc34 pm34 an34 cd34 ct34), sl34⟩) (c34 : PySem.W.codeIn K cd34 "spots_by" = true) (k34 : PySem.W.keepIn K (.ref f34) = true)
    {f35 : Addr} {od35 an35 : Option Addr} {sl35 : Array (Option Value)} {oc35 kV35 dc35 pm35 cd35 ct35 : Value}
    (a35 : PySem.W.nsIn K mainGlobals "sum_of" = some (some (.ref f35)))
    (l35 : K.lookup f35 = some ⟨oc35, od35, .func (PySem.W.fnOf "sum_of" "sum_of" (defArgs s_p_sum_of) (defBody s_p_sum_of) (defScope s_p_sum_of) .none kV35 dc35 pm35 an35 cd35 ct35), sl35⟩) (c35 : PySem.W.codeIn K cd35 "sum_of" = true) (k35 : PySem.W.keepIn K (.ref f35) = true)
    {f36 : Addr} {od36 an36 : Option Addr} {sl36 : Array (Option Value)} {oc36 kV36 dc36 pm36 cd36 ct36 : Value}
    (a36 : PySem.W.nsIn K mainGlobals "led_by" = some (some (.ref f36)))
    (l36 : K.lookup f36 = some ⟨oc36, od36, .func (PySem.W.fnOf "led_by" "led_by" (defArgs s_p_led_by) (defBody s_p_led_by) (defScope s_p_led_by) .none kV36 dc36 pm36 an36 cd36 ct36), sl36⟩) (c36 : PySem.W.codeIn K cd36 "led_by" = true) (k36 : PySem.W.keepIn K (.ref f36) = true)
    {f37 : Addr} {od37 an37 : Option Addr} {sl37 : Array (Option Value)} {oc37 kV37 dc37 pm37 cd37 ct37 : Value}
    (a37 : PySem.W.nsIn K mainGlobals "moved" = some (some (.ref f37)))
    (l37 : K.lookup f37 = some ⟨oc37, od37, .func (PySem.W.fnOf "moved" "moved" (defArgs s_p_moved) (defBody s_p_moved) (defScope s_p_moved) .none kV37 dc37 pm37 an37 cd37 ct37), sl37⟩) (c37 : PySem.W.codeIn K cd37 "moved" = true) (k37 : PySem.W.keepIn K (.ref f37) = true)
    {f38 : Addr} {od38 an38 : Option Addr} {sl38 : Array (Option Value)} {oc38 kV38 dc38 pm38 cd38 ct38 : Value}
    (a38 : PySem.W.nsIn K mainGlobals "powers_of" = some (some (.ref f38)))
    (l38 : K.lookup f38 = some ⟨oc38, od38, .func (PySem.W.fnOf "powers_of" "powers_of" (defArgs s_p_powers_of) (defBody s_p_powers_of) (defScope s_p_powers_of) .none kV38 dc38 pm38 an38 cd38 ct38), sl38⟩) (c38 : PySem.W.codeIn K cd38 "powers_of" = true) (k38 : PySem.W.keepIn K (.ref f38) = true)
    {f39 : Addr} {od39 an39 : Option Addr} {sl39 : Array (Option Value)} {oc39 kV39 dc39 pm39 cd39 ct39 : Value}
    (a39 : PySem.W.nsIn K mainGlobals "triples_of" = some (some (.ref f39)))
    (l39 : K.lookup f39 = some ⟨oc39, od39, .func (PySem.W.fnOf "triples_of" "triples_of" (defArgs s_p_triples_of) (defBody s_p_triples_of) (defScope s_p_triples_of) .none kV39 dc39 pm39 an39 cd39 ct39), sl39⟩) (c39 : PySem.W.codeIn K cd39 "triples_of" = true) (k39 : PySem.W.keepIn K (.ref f39) = true)
    {f40 : Addr} {od40 an40 : Option Addr} {sl40 : Array (Option Value)} {oc40 kV40 dc40 pm40 cd40 ct40 : Value}
    (a40 : PySem.W.nsIn K mainGlobals "letters_at" = some (some (.ref f40)))
    (l40 : K.lookup f40 = some ⟨oc40, od40, .func (PySem.W.fnOf "letters_at" "letters_at" (defArgs s_p_letters_at) (defBody s_p_letters_at) (defScope s_p_letters_at) .none kV40 dc40 pm40 an40 cd40 ct40), sl40⟩) (c40 : PySem.W.codeIn K cd40 "letters_at" = true) (k40 : PySem.W.keepIn K (.ref f40) = true)
    {f41 : Addr} {od41 an41 : Option Addr} {sl41 : Array (Option Value)} {oc41 kV41 dc41 pm41 cd41 ct41 : Value}
    (a41 : PySem.W.nsIn K mainGlobals "condition_rows" = some (some (.ref f41)))
    (l41 : K.lookup f41 = some ⟨oc41, od41, .func (PySem.W.fnOf "condition_rows" "condition_rows" (defArgs s_p_condition_rows) (defBody s_p_condition_rows) (defScope s_p_condition_rows) .none kV41 dc41 pm41 an41 cd41 ct41), sl41⟩) (c41 : PySem.W.codeIn K cd41 "condition_rows" = true) (k41 : PySem.W.keepIn K (.ref f41) = true)
    {f42 : Addr} {od42 an42 : Option Addr} {sl42 : Array (Option Value)} {oc42 kV42 dc42 pm42 cd42 ct42 : Value}
    (a42 : PySem.W.nsIn K mainGlobals "rank_at" = some (some (.ref f42)))
    (l42 : K.lookup f42 = some ⟨oc42, od42, .func (PySem.W.fnOf "rank_at" "rank_at" (defArgs s_p_rank_at) (defBody s_p_rank_at) (defScope s_p_rank_at) .none kV42 dc42 pm42 an42 cd42 ct42), sl42⟩) (c42 : PySem.W.codeIn K cd42 "rank_at" = true) (k42 : PySem.W.keepIn K (.ref f42) = true)
    {f43 : Addr} {od43 an43 : Option Addr} {sl43 : Array (Option Value)} {oc43 kV43 dc43 pm43 cd43 ct43 : Value}
    (a43 : PySem.W.nsIn K mainGlobals "row_by" = some (some (.ref f43)))
    (l43 : K.lookup f43 = some ⟨oc43, od43, .func (PySem.W.fnOf "row_by" "row_by" (defArgs s_p_row_by) (defBody s_p_row_by) (defScope s_p_row_by) .none kV43 dc43 pm43 an43 cd43 ct43), sl43⟩) (c43 : PySem.W.codeIn K cd43 "row_by" = true) (k43 : PySem.W.keepIn K (.ref f43) = true)
    {f44 : Addr} {od44 an44 : Option Addr} {sl44 : Array (Option Value)} {oc44 kV44 dc44 pm44 cd44 ct44 : Value}
    (a44 : PySem.W.nsIn K mainGlobals "row" = some (some (.ref f44)))
    (l44 : K.lookup f44 = some ⟨oc44, od44, .func (PySem.W.fnOf "row" "row" (defArgs s_p_row) (defBody s_p_row) (defScope s_p_row) .none kV44 dc44 pm44 an44 cd44 ct44), sl44⟩) (c44 : PySem.W.codeIn K cd44 "row" = true) (k44 : PySem.W.keepIn K (.ref f44) = true)
    {f45 : Addr} {od45 an45 : Option Addr} {sl45 : Array (Option Value)} {oc45 kV45 dc45 pm45 cd45 ct45 : Value}
    (a45 : PySem.W.nsIn K mainGlobals "end" = some (some (.ref f45)))
    (l45 : K.lookup f45 = some ⟨oc45, od45, .func (PySem.W.fnOf "end" "end" (defArgs s_p_end) (defBody s_p_end) (defScope s_p_end) .none kV45 dc45 pm45 an45 cd45 ct45), sl45⟩) (c45 : PySem.W.codeIn K cd45 "end" = true) (k45 : PySem.W.keepIn K (.ref f45) = true)
    {f46 : Addr} {od46 an46 : Option Addr} {sl46 : Array (Option Value)} {oc46 kV46 dc46 pm46 cd46 ct46 : Value}
    (a46 : PySem.W.nsIn K mainGlobals "want_degree" = some (some (.ref f46)))
    {T46 : Addr} {ot46 : Value} {odt46 : Option Addr} {nt46 : Nat} {slt46 : Array (Option Value)} {tk46_0 : Tok}(l46 : K.lookup f46 = some ⟨oc46, od46, .func (PySem.W.fnOf "want_degree" "want_degree" (defArgs s_p_want_degree) (defBody s_p_want_degree) (defScope s_p_want_degree) (.ref T46) kV46 dc46 pm46 an46 cd46 ct46), sl46⟩) (c46 : PySem.W.codeIn K cd46 "want_degree" = true) (k46 : PySem.W.keepIn K (.ref f46) = true)
    (t46 : K.lookup T46 = some ⟨ot46, odt46, .seq #[.int 0 tk46_0] nt46, slt46⟩)
    {f47 : Addr} {od47 an47 : Option Addr} {sl47 : Array (Option Value)} {oc47 kV47 dc47 pm47 cd47 ct47 : Value}
    (a47 : PySem.W.nsIn K mainGlobals "want_both" = some (some (.ref f47)))
    (l47 : K.lookup f47 = some ⟨oc47, od47, .func (PySem.W.fnOf "want_both" "want_both" (defArgs s_p_want_both) (defBody s_p_want_both) (defScope s_p_want_both) .none kV47 dc47 pm47 an47 cd47 ct47), sl47⟩) (c47 : PySem.W.codeIn K cd47 "want_both" = true) (k47 : PySem.W.keepIn K (.ref f47) = true)
    {f48 : Addr} {od48 an48 : Option Addr} {sl48 : Array (Option Value)} {oc48 kV48 dc48 pm48 cd48 ct48 : Value}
    (a48 : PySem.W.nsIn K mainGlobals "conditions" = some (some (.ref f48)))
    (l48 : K.lookup f48 = some ⟨oc48, od48, .func (PySem.W.fnOf "conditions" "conditions" (defArgs s_p_conditions) (defBody s_p_conditions) (defScope s_p_conditions) .none kV48 dc48 pm48 an48 cd48 ct48), sl48⟩) (c48 : PySem.W.codeIn K cd48 "conditions" = true) (k48 : PySem.W.keepIn K (.ref f48) = true)
    {f49 : Addr} {od49 an49 : Option Addr} {sl49 : Array (Option Value)} {oc49 kV49 dc49 pm49 cd49 ct49 : Value}
    (a49 : PySem.W.nsIn K mainGlobals "many_through" = some (some (.ref f49)))
    (l49 : K.lookup f49 = some ⟨oc49, od49, .func (PySem.W.fnOf "many_through" "many_through" (defArgs s_p_many_through) (defBody s_p_many_through) (defScope s_p_many_through) .none kV49 dc49 pm49 an49 cd49 ct49), sl49⟩) (c49 : PySem.W.codeIn K cd49 "many_through" = true) (k49 : PySem.W.keepIn K (.ref f49) = true)
    {f50 : Addr} {od50 an50 : Option Addr} {sl50 : Array (Option Value)} {oc50 kV50 dc50 pm50 cd50 ct50 : Value}
    (a50 : PySem.W.nsIn K mainGlobals "top_of" = some (some (.ref f50)))
    (l50 : K.lookup f50 = some ⟨oc50, od50, .func (PySem.W.fnOf "top_of" "top_of" (defArgs s_p_top_of) (defBody s_p_top_of) (defScope s_p_top_of) .none kV50 dc50 pm50 an50 cd50 ct50), sl50⟩) (c50 : PySem.W.codeIn K cd50 "top_of" = true) (k50 : PySem.W.keepIn K (.ref f50) = true)
    {f51 : Addr} {od51 an51 : Option Addr} {sl51 : Array (Option Value)} {oc51 kV51 dc51 pm51 cd51 ct51 : Value}
    (a51 : PySem.W.nsIn K mainGlobals "top" = some (some (.ref f51)))
    (l51 : K.lookup f51 = some ⟨oc51, od51, .func (PySem.W.fnOf "top" "top" (defArgs s_p_top) (defBody s_p_top) (defScope s_p_top) .none kV51 dc51 pm51 an51 cd51 ct51), sl51⟩) (c51 : PySem.W.codeIn K cd51 "top" = true) (k51 : PySem.W.keepIn K (.ref f51) = true)
    {f52 : Addr} {od52 an52 : Option Addr} {sl52 : Array (Option Value)} {oc52 kV52 dc52 pm52 cd52 ct52 : Value}
    (a52 : PySem.W.nsIn K mainGlobals "_law_top" = some (some (.ref f52)))
    (l52 : K.lookup f52 = some ⟨oc52, od52, .func (PySem.W.fnOf "_law_top" "_law_top" (defArgs s_l_top) (defBody s_l_top) (defScope s_l_top) .none kV52 dc52 pm52 an52 cd52 ct52), sl52⟩) (c52 : PySem.W.codeIn K cd52 "_law_top" = true) (k52 : PySem.W.keepIn K (.ref f52) = true)
    {f53 : Addr} {od53 an53 : Option Addr} {sl53 : Array (Option Value)} {oc53 kV53 dc53 pm53 cd53 ct53 : Value}
    (a53 : PySem.W.nsIn K mainGlobals "_law_right" = some (some (.ref f53)))
    (l53 : K.lookup f53 = some ⟨oc53, od53, .func (PySem.W.fnOf "_law_right" "_law_right" (defArgs s_l_right) (defBody s_l_right) (defScope s_l_right) .none kV53 dc53 pm53 an53 cd53 ct53), sl53⟩) (c53 : PySem.W.codeIn K cd53 "_law_right" = true) (k53 : PySem.W.keepIn K (.ref f53) = true)
    {f54 : Addr} {od54 an54 : Option Addr} {sl54 : Array (Option Value)} {oc54 kV54 dc54 pm54 cd54 ct54 : Value}
    (a54 : PySem.W.nsIn K mainGlobals "_law_pot" = some (some (.ref f54)))
    (l54 : K.lookup f54 = some ⟨oc54, od54, .func (PySem.W.fnOf "_law_pot" "_law_pot" (defArgs s_l_pot) (defBody s_l_pot) (defScope s_l_pot) .none kV54 dc54 pm54 an54 cd54 ct54), sl54⟩) (c54 : PySem.W.codeIn K cd54 "_law_pot" = true) (k54 : PySem.W.keepIn K (.ref f54) = true)
    {f55 : Addr} {od55 an55 : Option Addr} {sl55 : Array (Option Value)} {oc55 kV55 dc55 pm55 cd55 ct55 : Value}
    (a55 : PySem.W.nsIn K mainGlobals "law" = some (some (.ref f55)))
    (l55 : K.lookup f55 = some ⟨oc55, od55, .func (PySem.W.fnOf "law" "law" (defArgs s_law_) (defBody s_law_) (defScope s_law_) .none kV55 dc55 pm55 an55 cd55 ct55), sl55⟩) (c55 : PySem.W.codeIn K cd55 "law" = true) (k55 : PySem.W.keepIn K (.ref f55) = true)
    (hb_abs : PySem.W.nsIn K mainGlobals "abs" = some none)
    (hb_all : PySem.W.nsIn K mainGlobals "all" = some none)
    (hb_any : PySem.W.nsIn K mainGlobals "any" = some none)
    (hb_bool : PySem.W.nsIn K mainGlobals "bool" = some none)
    (hb_divmod : PySem.W.nsIn K mainGlobals "divmod" = some none)
    (hb_enumerate : PySem.W.nsIn K mainGlobals "enumerate" = some none)
    (hb_int : PySem.W.nsIn K mainGlobals "int" = some none)
    (hb_isinstance : PySem.W.nsIn K mainGlobals "isinstance" = some none)
    (hb_len : PySem.W.nsIn K mainGlobals "len" = some none)
    (hb_list : PySem.W.nsIn K mainGlobals "list" = some none)
    (hb_max : PySem.W.nsIn K mainGlobals "max" = some none)
    (hb_min : PySem.W.nsIn K mainGlobals "min" = some none)
    (hb_range : PySem.W.nsIn K mainGlobals "range" = some none)
    (hb_repr : PySem.W.nsIn K mainGlobals "repr" = some none)
    (hb_sorted : PySem.W.nsIn K mainGlobals "sorted" = some none)
    (hb_sum : PySem.W.nsIn K mainGlobals "sum" = some none)
    (hb_tuple : PySem.W.nsIn K mainGlobals "tuple" = some none)
    (hb_zip : PySem.W.nsIn K mainGlobals "zip" = some none)
    {tk_MOST_DEGREE : Tok} (hc_MOST_DEGREE : PySem.W.nsIn K mainGlobals "MOST_DEGREE" = some (some (.int 9 tk_MOST_DEGREE)))
    {tk_MOST_END : Tok} (hc_MOST_END : PySem.W.nsIn K mainGlobals "MOST_END" = some (some (.int 8 tk_MOST_END)))
    {tk_MOST_PLACES : Tok} (hc_MOST_PLACES : PySem.W.nsIn K mainGlobals "MOST_PLACES" = some (some (.int 9 tk_MOST_PLACES)))
    {tk_MOST_POINTS : Tok} (hc_MOST_POINTS : PySem.W.nsIn K mainGlobals "MOST_POINTS" = some (some (.int 24 tk_MOST_POINTS)))
    {tk_MOST_SUM : Tok} (hc_MOST_SUM : PySem.W.nsIn K mainGlobals "MOST_SUM" = some (some (.int 24 tk_MOST_SUM))) : Top K mg :=
  { cl_Spots := ⟨C_Spots, PySem.W.mg_of X G aC_Spots, ⟨pg_Spots, hd_Spots, po_Spots, sa_Spots⟩, (fa_cons nf_Spots_own_points fa_nil)⟩,
    cl_Told := ⟨C_Told, PySem.W.mg_of X G aC_Told, ⟨pg_Told, hd_Told, po_Told, sa_Told⟩, (fa_cons nf_Told_told_points fa_nil)⟩,
    ci_Spots := ⟨C_Spots, PySem.W.mg_of X G aC_Spots, (fa_cons (kit_ty ic_Spots ty_Spots kt_Spots_NoneType) (fa_cons (kit_ty ic_Spots ty_Spots kt_Spots_bool) (fa_cons (kit_ty ic_Spots ty_Spots kt_Spots_int) (fa_cons (kit_ty ic_Spots ty_Spots kt_Spots_str) (fa_cons (kit_ty ic_Spots ty_Spots kt_Spots_list) (fa_cons (kit_ty ic_Spots ty_Spots kt_Spots_tuple) (fa_cons (kit_ty ic_Spots ty_Spots kt_Spots_dict) fa_nil))))))), (fa_cons ⟨C_Spots, PySem.W.mg_of X G aC_Spots, ⟨⟨pg_Spots, hd_Spots, po_Spots, sa_Spots⟩, ha_Spots, oN, oT, hm_Spots, kit_self⟩, kit_self⟩ (fa_cons ⟨C_Told, PySem.W.mg_of X G aC_Told, ⟨⟨pg_Told, hd_Told, po_Told, sa_Told⟩, ha_Told, oN, oT, hm_Told, kit_self⟩, (kit_ref ne_Spots_Told ic_Spots ty_Spots ks_Spots_Told)⟩ fa_nil))⟩,
    ci_Told := ⟨C_Told, PySem.W.mg_of X G aC_Told, (fa_cons (kit_ty ic_Told ty_Told kt_Told_NoneType) (fa_cons (kit_ty ic_Told ty_Told kt_Told_bool) (fa_cons (kit_ty ic_Told ty_Told kt_Told_int) (fa_cons (kit_ty ic_Told ty_Told kt_Told_str) (fa_cons (kit_ty ic_Told ty_Told kt_Told_list) (fa_cons (kit_ty ic_Told ty_Told kt_Told_tuple) (fa_cons (kit_ty ic_Told ty_Told kt_Told_dict) fa_nil))))))), (fa_cons ⟨C_Spots, PySem.W.mg_of X G aC_Spots, ⟨⟨pg_Spots, hd_Spots, po_Spots, sa_Spots⟩, ha_Spots, oN, oT, hm_Spots, kit_self⟩, (kit_ref ne_Told_Spots ic_Told ty_Told ks_Told_Spots)⟩ (fa_cons ⟨C_Told, PySem.W.mg_of X G aC_Told, ⟨⟨pg_Told, hd_Told, po_Told, sa_Told⟩, ha_Told, oN, oT, hm_Told, kit_self⟩, kit_self⟩ fa_nil))⟩,
    eq_Spots := ⟨C_Spots, PySem.W.mg_of X G aC_Spots, en_Spots, eo_Spots⟩,
    cT := ⟨(fa_cons ⟨C_Spots, PySem.W.mg_of X G aC_Spots, ⟨⟨pg_Spots, hd_Spots, po_Spots, sa_Spots⟩, ha_Spots, oN, oT, hm_Spots, kit_self⟩, (fa_cons (kit_own (by decide +kernel) st_Spots_NoneType) (fa_cons (kit_own (by decide +kernel) st_Spots_bool) (fa_cons (kit_own (by decide +kernel) st_Spots_int) (fa_cons (kit_own (by decide +kernel) st_Spots_str) (fa_cons (kit_own (by decide +kernel) st_Spots_list) (fa_cons (kit_own (by decide +kernel) st_Spots_tuple) (fa_cons (kit_own (by decide +kernel) st_Spots_dict) fa_nil)))))))⟩ (fa_cons ⟨C_Told, PySem.W.mg_of X G aC_Told, ⟨⟨pg_Told, hd_Told, po_Told, sa_Told⟩, ha_Told, oN, oT, hm_Told, kit_self⟩, (fa_cons (kit_own (by decide +kernel) st_Told_NoneType) (fa_cons (kit_own (by decide +kernel) st_Told_bool) (fa_cons (kit_own (by decide +kernel) st_Told_int) (fa_cons (kit_own (by decide +kernel) st_Told_str) (fa_cons (kit_own (by decide +kernel) st_Told_list) (fa_cons (kit_own (by decide +kernel) st_Told_tuple) (fa_cons (kit_own (by decide +kernel) st_Told_dict) fa_nil)))))))⟩ fa_nil))⟩,
    g_gcd := PySem.W.mg_of X G hg_gcd,
    f_l_draw := ⟨f0, _, PySem.W.mg_of X G a0, fun_mk (st := s_l_draw) l0 c0 k0⟩,
    f_l_row := ⟨f1, _, PySem.W.mg_of X G a1, fun_mk (st := s_l_row) l1 c1 k1⟩,
    f_l_passed := ⟨f2, _, PySem.W.mg_of X G a2, fun_mk (st := s_l_passed) l2 c2 k2⟩,
    f_l_points := ⟨f3, _, PySem.W.mg_of X G a3, fun_mk (st := s_l_points) l3 c3 k3⟩,
    f_c_Spots___eq__ := ⟨C_Spots, f4, _, PySem.W.mg_of X G aC_Spots, ⟨pg_Spots, hd_Spots, po_Spots, sa_Spots⟩, ⟨a4, i4, k4⟩, fun_mk (st := s_c_Spots___eq__) l4 c4 k4⟩,
    f_l_pick := ⟨f5, _, PySem.W.mg_of X G a5, fun_mk (st := s_l_pick) l5 c5 k5⟩,
    f_p_is_list := ⟨f6, _, PySem.W.mg_of X G a6, fun_mk (st := s_p_is_list) l6 c6 k6⟩,
    f_p_divisor_of := ⟨f7, _, PySem.W.mg_of X G a7, fun_mk (st := s_p_divisor_of) l7 c7 k7⟩,
    f_p_plain := ⟨f8, _, PySem.W.mg_of X G a8, fun_mk (st := s_p_plain) l8 c8 k8⟩,
    f_p_lead_place := ⟨f9, _, PySem.W.mg_of X G a9, fun_mk (st := s_p_lead_place) l9 c9 k9⟩,
    f_p_signed := ⟨f10, _, PySem.W.mg_of X G a10, fun_mk (st := s_p_signed) l10 c10 k10⟩,
    f_p_told_of := ⟨f11, _, PySem.W.mg_of X G a11, fun_mk (st := s_p_told_of) l11 c11 k11⟩,
    f_p_is_integer := ⟨f12, _, PySem.W.mg_of X G a12, fun_mk (st := s_p_is_integer) l12 c12 k12⟩,
    f_p_are_point := ⟨f13, _, PySem.W.mg_of X G a13, fun_mk (st := s_p_are_point) l13 c13 k13⟩,
    f_p_told_points := ⟨f14, _, PySem.W.mg_of X G a14, fun_mk (st := s_p_told_points) l14 c14 k14⟩,
    f_i_Spots := ⟨C_Spots, f15, _, PySem.W.mg_of X G aC_Spots, ⟨mk_Spots, a15, i15, kc_Spots⟩, fun_mk (st := s_i_Spots) l15 c15 k15⟩,
    f_p_stair_points := ⟨f16, _, PySem.W.mg_of X G a16, fun_mk (st := s_p_stair_points) l16 c16 k16⟩,
    f_p_is_count := ⟨f17, _, PySem.W.mg_of X G a17, fun_mk (st := s_p_is_count) l17 c17 k17⟩,
    f_p_is_counts := ⟨f18, _, PySem.W.mg_of X G a18, fun_mk (st := s_p_is_counts) l18 c18 k18⟩,
    f_p_goes_on := ⟨f19, _, PySem.W.mg_of X G a19, fun_mk (st := s_p_goes_on) l19 c19 k19⟩,
    f_p_fault_of := ⟨f20, _, PySem.W.mg_of X G a20, fun_mk (st := s_p_fault_of) l20 c20 k20⟩,
    f_p_is_row := ⟨f21, _, PySem.W.mg_of X G a21, fun_mk (st := s_p_is_row) l21 c21 k21⟩,
    f_p_want_row := ⟨f22, _, PySem.W.mg_of X G a22, fun_mk (st := s_p_want_row) l22 c22 k22⟩,
    f_p_stair := ⟨f23, _, PySem.W.mg_of X G a23, fun_mk (st := s_p_stair) l23 c23 k23⟩,
    f_c_Spots_points := ⟨C_Spots, f24, _, PySem.W.mg_of X G aC_Spots, ⟨pg_Spots, hd_Spots, po_Spots, sa_Spots⟩, ⟨a24, i24, k24⟩, fun_mk (st := s_c_Spots_points) l24 c24 k24⟩,
    f_c_Spots_size := ⟨C_Spots, pp25, f25, _, PySem.W.mg_of X G aC_Spots, ⟨pg_Spots, hd_Spots, po_Spots, sa_Spots⟩, ⟨a25, pa25, pb25, _, pc25⟩, fun_mk (st := s_c_Spots_size) l25 c25 k25⟩,
    f_p_want_spots := ⟨f26, _, PySem.W.mg_of X G a26, fun_mk (st := s_p_want_spots) l26 c26 k26⟩,
    f_p_less := ⟨f27, _, PySem.W.mg_of X G a27, fun_mk (st := s_p_less) l27 c27 k27⟩,
    f_p_cleared := ⟨f28, _, PySem.W.mg_of X G a28, fun_mk (st := s_p_cleared) l28 c28 k28⟩,
    f_p_echelon := ⟨f29, _, PySem.W.mg_of X G a29, fun_mk (st := s_p_echelon) l29 c29 k29⟩,
    f_p_rank_of := ⟨f30, _, PySem.W.mg_of X G a30, fun_mk (st := s_p_rank_of) l30 c30 k30⟩,
    f_p_are_table := ⟨f31, _, PySem.W.mg_of X G a31, fun_mk (st := s_p_are_table) l31 c31 k31⟩,
    f_p_want_table := ⟨f32, _, PySem.W.mg_of X G a32, fun_mk (st := s_p_want_table) l32 c32 k32⟩,
    f_i_Told := ⟨C_Told, f33, _, PySem.W.mg_of X G aC_Told, ⟨mk_Told, a33, i33, kc_Told⟩, fun_mk (st := s_i_Told) l33 c33 k33⟩,
    f_p_spots_by := ⟨f34, _, PySem.W.mg_of X G a34, fun_mk (st := s_p_spots_by) l34 c34 k34⟩,
    f_p_sum_of := ⟨f35, _, PySem.W.mg_of X G a35, fun_mk (st := s_p_sum_of) l35 c35 k35⟩,
    f_p_led_by := ⟨f36, _, PySem.W.mg_of X G a36, fun_mk (st := s_p_led_by) l36 c36 k36⟩,
    f_p_moved := ⟨f37, _, PySem.W.mg_of X G a37, fun_mk (st := s_p_moved) l37 c37 k37⟩,
    f_p_powers_of := ⟨f38, _, PySem.W.mg_of X G a38, fun_mk (st := s_p_powers_of) l38 c38 k38⟩,
    f_p_triples_of := ⟨f39, _, PySem.W.mg_of X G a39, fun_mk (st := s_p_triples_of) l39 c39 k39⟩,
    f_p_letters_at := ⟨f40, _, PySem.W.mg_of X G a40, fun_mk (st := s_p_letters_at) l40 c40 k40⟩,
    f_p_condition_rows := ⟨f41, _, PySem.W.mg_of X G a41, fun_mk (st := s_p_condition_rows) l41 c41 k41⟩,
    f_p_rank_at := ⟨f42, _, PySem.W.mg_of X G a42, fun_mk (st := s_p_rank_at) l42 c42 k42⟩,
    f_p_row_by := ⟨f43, _, PySem.W.mg_of X G a43, fun_mk (st := s_p_row_by) l43 c43 k43⟩,
    f_p_row := ⟨f44, _, PySem.W.mg_of X G a44, fun_mk (st := s_p_row) l44 c44 k44⟩,
    f_p_end := ⟨f45, _, PySem.W.mg_of X G a45, fun_mk (st := s_p_end) l45 c45 k45⟩,
    f_p_want_degree := ⟨f46, _, PySem.W.mg_of X G a46, fund_mk (st := s_p_want_degree) (its := [.int 0 tk46_0]) l46 c46 k46 t46 (.cons ⟨_, rfl⟩ .nil)⟩,
    f_p_want_both := ⟨f47, _, PySem.W.mg_of X G a47, fun_mk (st := s_p_want_both) l47 c47 k47⟩,
    f_p_conditions := ⟨f48, _, PySem.W.mg_of X G a48, fun_mk (st := s_p_conditions) l48 c48 k48⟩,
    f_p_many_through := ⟨f49, _, PySem.W.mg_of X G a49, fun_mk (st := s_p_many_through) l49 c49 k49⟩,
    f_p_top_of := ⟨f50, _, PySem.W.mg_of X G a50, fun_mk (st := s_p_top_of) l50 c50 k50⟩,
    f_p_top := ⟨f51, _, PySem.W.mg_of X G a51, fun_mk (st := s_p_top) l51 c51 k51⟩,
    f_l_top := ⟨f52, _, PySem.W.mg_of X G a52, fun_mk (st := s_l_top) l52 c52 k52⟩,
    f_l_right := ⟨f53, _, PySem.W.mg_of X G a53, fun_mk (st := s_l_right) l53 c53 k53⟩,
    f_l_pot := ⟨f54, _, PySem.W.mg_of X G a54, fun_mk (st := s_l_pot) l54 c54 k54⟩,
    f_law_ := ⟨f55, _, PySem.W.mg_of X G a55, fun_mk (st := s_law_) l55 c55 k55⟩,
    b_abs := PySem.W.mg_none_of X G hb_abs,
    b_all := PySem.W.mg_none_of X G hb_all,
    b_any := PySem.W.mg_none_of X G hb_any,
    b_bool := PySem.W.mg_none_of X G hb_bool,
    b_divmod := PySem.W.mg_none_of X G hb_divmod,
    b_enumerate := PySem.W.mg_none_of X G hb_enumerate,
    b_int := PySem.W.mg_none_of X G hb_int,
    b_isinstance := PySem.W.mg_none_of X G hb_isinstance,
    b_len := PySem.W.mg_none_of X G hb_len,
    b_list := PySem.W.mg_none_of X G hb_list,
    b_max := PySem.W.mg_none_of X G hb_max,
    b_min := PySem.W.mg_none_of X G hb_min,
    b_range := PySem.W.mg_none_of X G hb_range,
    b_repr := PySem.W.mg_none_of X G hb_repr,
    b_sorted := PySem.W.mg_none_of X G hb_sorted,
    b_sum := PySem.W.mg_none_of X G hb_sum,
    b_tuple := PySem.W.mg_none_of X G hb_tuple,
    b_zip := PySem.W.mg_none_of X G hb_zip,
    c_MOST_DEGREE := ⟨_, PySem.W.mg_of X G hc_MOST_DEGREE, _, rfl⟩,
    c_MOST_END := ⟨_, PySem.W.mg_of X G hc_MOST_END, _, rfl⟩,
    c_MOST_PLACES := ⟨_, PySem.W.mg_of X G hc_MOST_PLACES, _, rfl⟩,
    c_MOST_POINTS := ⟨_, PySem.W.mg_of X G hc_MOST_POINTS, _, rfl⟩,
    c_MOST_SUM := ⟨_, PySem.W.mg_of X G hc_MOST_SUM, _, rfl⟩ }
section
variable {P : Program} {w : World} {K : PySem.W.Frag} {mg : Str → Option Value} {base : Heap}
theorem d_l_draw (T : Top K mg) : DFn P w K mg base 1 "_law_draw" s_l_draw ["_law_pot_here", "_law_size"] [.p, .f] .f m_l_draw :=
  dfn_of (N := ["_law_pot_here", "_law_size", "_law_digit"]) [.p, .f, .f] [.p, .f, .f] T.f_l_draw ⟨rfl, rfl, rfl, by decide, rfl, by decide, by decide⟩ rfl rfl (by decide) rfl (by first | exact .inl (.inl rfl) | exact .inl (.inr rfl) | exact .inr rfl) fun f cdv A outer s H E o =>
  ⟨_, (dss_cons (ds_if (dt_cmp o_gt (de_pot0 0) de_int) (dss_cons (ds_potdm 0 2 o T.b_divmod (de_var 1)) (dss_one (ds_ret (de_var 2)))) dss_nil) (dss_cons (ds_pot1 0 (de_bin o_mod (de_callTy c_int T.b_int
    (da_b (de_bin o_add (de_bin o_mulA (de_pot1 0) de_int) de_int) da_nil)) de_int)) (dss_one (ds_ret (de_bin o_mod (de_callTy c_int T.b_int (da_b (de_bin o_fdivW (de_bin o_mod (de_callTy c_int T.b_int
    (da_b (de_bin o_mulA (de_pot1 0) (de_pot1 0)) da_nil)) de_int) de_int) da_nil)) (de_var 1))))))⟩
theorem b_l_draw : ∀ (kV doc pm : Value) (an : Option Addr) (cdv ct : Value) (us : List Value), us.length = 2 → bindArgs (PySem.W.fnOf "_law_draw" "_law_draw" (defArgs s_l_draw) (defBody s_l_draw) (defScope s_l_draw) .none kV doc pm an cdv ct) ⟨us, []⟩ = pure ((["_law_pot_here", "_law_size"] : List Str).zip us) := fun _ _ _ _ _ _ us hl => match us, hl with | [_, _], _ => rfl
theorem b_l_draw_k : ∀ (kV doc pm : Value) (an : Option Addr) (cdv ct : Value) (us : List Value), us.length = 2 → bindArgs (PySem.W.fnOf "_law_draw" "_law_draw" (defArgs s_l_draw) (defBody s_l_draw) (defScope s_l_draw) .none kV doc pm an cdv ct) ⟨[], (["_law_pot_here", "_law_size"] : List Str).zip us⟩ = pure ((["_law_pot_here", "_law_size"] : List Str).zip us) := fun _ _ _ _ _ _ us hl => match us, hl with | [_, _], _ => rfl
theorem d_l_row (T : Top K mg) : DFn P w K mg base 2 "_law_row" s_l_row ["_law_pot_here", "_law_most"] [.p, .f] .o m_l_row :=
  dfn_of (N := ["_law_pot_here", "_law_most", "_law_rise", "_law_turn", "_law_found", "_law_room"]) [.p, .f, .f, .f, .o, .f] [.p, .f, .f, .f, .o, .f] T.f_l_row ⟨rfl, rfl, rfl, by decide, rfl, by decide, by decide⟩ rfl rfl (by decide) rfl (by first | exact .inl (.inl rfl) | exact .inl (.inr rfl) | exact .inr rfl) fun f cdv A outer s H E o =>
  ⟨_, (dss_cons (ds_set 2 o (de_bin o_add de_int (de_call (d_l_draw T) o b_l_draw (da_p 0 (da_f de_int da_nil))))) (dss_cons (ds_for o (di_range1 T.b_range (da_f de_int da_nil)) (dg_name 3 o.nd) (dss_one
    (ds_if (dt_cmp o_gt (de_bin o_fdivW (de_bin o_mulA (de_var 2) (de_bin o_add (de_var 2) de_int)) de_int) (de_var 1)) (dss_one (ds_set 2 o (de_bin o_sub (de_var 2) de_int))) dss_nil))) (dss_cons
    (ds_set 4 o (de_listRg2 o T.b_list T.b_range de_int (de_bin o_add (de_var 2) de_int))) (dss_cons (ds_for o (di_range1 T.b_range (da_f (de_call (d_l_draw T) o b_l_draw (da_p 0 (da_f de_int da_nil)))
    da_nil)) (dg_name 3 o.nd) (dss_cons (ds_set 5 o (de_callB (c_min2 o) T.b_min (da_b (de_ix (de_varo 4) (de_un o_neg de_int)) (da_b (de_bin o_sub (de_var 1) (de_callB (c_sum o) T.b_sum (da_b (de_varo
    4) da_nil))) da_nil)))) (dss_cons (ds_if (DW.dt (dw_or (dt_cmp o_lt (de_var 5) de_int) (dw_or1 (dt_cmp (o_eq o) (de_callB c_len T.b_len (da_b (de_varo 4) da_nil)) de_int)))) (dss_one (ds_reto 4))
    dss_nil) (dss_one (ds_app 4 (de_bin o_add de_int (de_call (d_l_draw T) o b_l_draw (da_p 0 (da_f (de_var 5) da_nil))))))))) (dss_one (ds_reto 4))))))⟩
theorem b_l_row : ∀ (kV doc pm : Value) (an : Option Addr) (cdv ct : Value) (us : List Value), us.length = 2 → bindArgs (PySem.W.fnOf "_law_row" "_law_row" (defArgs s_l_row) (defBody s_l_row) (defScope s_l_row) .none kV doc pm an cdv ct) ⟨us, []⟩ = pure ((["_law_pot_here", "_law_most"] : List Str).zip us) := fun _ _ _ _ _ _ us hl => match us, hl with | [_, _], _ => rfl
theorem b_l_row_k : ∀ (kV doc pm : Value) (an : Option Addr) (cdv ct : Value) (us : List Value), us.length = 2 → bindArgs (PySem.W.fnOf "_law_row" "_law_row" (defArgs s_l_row) (defBody s_l_row) (defScope s_l_row) .none kV doc pm an cdv ct) ⟨[], (["_law_pot_here", "_law_most"] : List Str).zip us⟩ = pure ((["_law_pot_here", "_law_most"] : List Str).zip us) := fun _ _ _ _ _ _ us hl => match us, hl with | [_, _], _ => rfl
theorem d_l_passed (T : Top K mg) : DFn P w K mg base 2 "_law_passed" s_l_passed ["_law_pot_here", "_law_numbers"] [.p, .f] .f m_l_passed :=
  dfn_of (N := ["_law_pot_here", "_law_numbers"]) [.p, .f] [.p, .f] T.f_l_passed ⟨rfl, rfl, rfl, by decide, rfl, by decide, by decide⟩ rfl rfl (by decide) rfl (by first | exact .inl (.inl rfl) | exact .inl (.inr rfl) | exact .inr rfl) fun f cdv A outer s H E o =>
  ⟨_, (dss_one (ds_ret (de_if (dt_cmp (o_eq o) (de_call (d_l_draw T) o b_l_draw (da_p 0 (da_f de_int da_nil))) de_int) (de_callTy c_tuple T.b_tuple (da_b (de_var 1) da_nil)) ((de_callTy c_list T.b_list (da_b
    (de_var 1) da_nil))).toF)))⟩
theorem b_l_passed : ∀ (kV doc pm : Value) (an : Option Addr) (cdv ct : Value) (us : List Value), us.length = 2 → bindArgs (PySem.W.fnOf "_law_passed" "_law_passed" (defArgs s_l_passed) (defBody s_l_passed) (defScope s_l_passed) .none kV doc pm an cdv ct) ⟨us, []⟩ = pure ((["_law_pot_here", "_law_numbers"] : List Str).zip us) := fun _ _ _ _ _ _ us hl => match us, hl with | [_, _], _ => rfl
theorem b_l_passed_k : ∀ (kV doc pm : Value) (an : Option Addr) (cdv ct : Value) (us : List Value), us.length = 2 → bindArgs (PySem.W.fnOf "_law_passed" "_law_passed" (defArgs s_l_passed) (defBody s_l_passed) (defScope s_l_passed) .none kV doc pm an cdv ct) ⟨[], (["_law_pot_here", "_law_numbers"] : List Str).zip us⟩ = pure ((["_law_pot_here", "_law_numbers"] : List Str).zip us) := fun _ _ _ _ _ _ us hl => match us, hl with | [_, _], _ => rfl
theorem d_l_points (T : Top K mg) : DFn P w K mg base 1 "_law_points" s_l_points ["_law_numbers"] [.f] .o m_l_points :=
  dfn_of (N := ["_law_numbers", "_law_found", "_law_first", "_law_second", "_law_both"]) [.f, .o, .f, .f, .f] [.f, .o, .f, .f, .f] T.f_l_points ⟨rfl, rfl, rfl, by decide, rfl, by decide, by decide⟩ rfl rfl (by decide) rfl (by first | exact .inl (.inl rfl) | exact .inl (.inr rfl) | exact .inr rfl) fun f cdv A outer s H E o =>
  ⟨_, (dss_cons (ds_set 1 o (de_lst da_nil)) (dss_cons (ds_for o (di_range1 T.b_range (da_f de_int da_nil)) (dg_name 2 o.nd) (dss_one (ds_for o (di_range1 T.b_range (da_f de_int da_nil)) (dg_name 3 o.nd)
    (dss_one (ds_if (DW.dt (dw_and (dt_cmp o_lt (de_bin o_add (de_var 2) (de_var 3)) (de_callB c_len T.b_len (da_b (de_var 0) da_nil))) (dw_and1 (dt_cmp o_lt (de_var 3) (de_ix (de_var 0) (de_bin o_add
    (de_var 2) (de_var 3))))))) (dss_one (ds_app 1 (de_tup (da_f (de_bin o_add (de_var 2) (de_var 3)) (da_f (de_var 3) (da_f (de_var 2) da_nil)))))) dss_nil))))) (dss_one (ds_ret (de_lc (own :=
    [("_law_both", 4), ("_law_second", 3), ("_law_first", 2)]) o (di_seq ((de_callB c_sortA T.b_sorted (da_b (de_varo 1) da_nil))).toF) (blk_of (by rfl)) (fun _ _ _ _ _ => ⟨_, (dg_tup (XOk.blk o).calm
    (dgs_cons (dg_name 4 (XOk.blk o).nd) (dgs_cons (dg_name 3 (XOk.blk o).nd) (dgs_cons (dg_name 2 (XOk.blk o).nd) dgs_nil))))⟩) (fun _ _ _ _ _ => ⟨_, dts_nil⟩) (fun _ _ _ _ _ => ⟨_, (de_tup (da_f
    (de_var 2) (da_f (de_var 3) (da_f de_int da_nil))))⟩))))))⟩
theorem b_l_points : ∀ (kV doc pm : Value) (an : Option Addr) (cdv ct : Value) (us : List Value), us.length = 1 → bindArgs (PySem.W.fnOf "_law_points" "_law_points" (defArgs s_l_points) (defBody s_l_points) (defScope s_l_points) .none kV doc pm an cdv ct) ⟨us, []⟩ = pure ((["_law_numbers"] : List Str).zip us) := fun _ _ _ _ _ _ us hl => match us, hl with | [_], _ => rfl
theorem b_l_points_k : ∀ (kV doc pm : Value) (an : Option Addr) (cdv ct : Value) (us : List Value), us.length = 1 → bindArgs (PySem.W.fnOf "_law_points" "_law_points" (defArgs s_l_points) (defBody s_l_points) (defScope s_l_points) .none kV doc pm an cdv ct) ⟨[], (["_law_numbers"] : List Str).zip us⟩ = pure ((["_law_numbers"] : List Str).zip us) := fun _ _ _ _ _ _ us hl => match us, hl with | [_], _ => rfl
theorem d_c_Spots___eq__ (T : Top K mg) : DMe P w K mg base 1 "Spots" "__eq__" "Spots.__eq__" s_c_Spots___eq__ ["self", "other"] [.f] .f m_c_Spots___eq__ :=
  dme_of (N := ["self", "other"]) [.f, .f] [.f, .f] T.f_c_Spots___eq__ ⟨rfl, rfl, rfl, by decide, rfl, by decide, by decide⟩ rfl rfl (by decide) rfl fun f cdv A outer s H E o =>
  ⟨_, (dss_one (ds_ret (de_and (de_isC ["Spots", "Told"] T.ci_Spots T.b_isinstance (de_var 1)) (de_one (de_cmp (o_eq o) (de_fld "Spots" ["own_points"] T.cl_Spots (de_var 0)) (de_fld "Spots" ["own_points"]
    T.cl_Spots (de_var 1)))))))⟩
theorem b_c_Spots___eq__ : ∀ (kV doc pm : Value) (an : Option Addr) (cdv ct : Value) (us : List Value), us.length = 2 → bindArgs (PySem.W.fnOf "__eq__" "Spots.__eq__" (defArgs s_c_Spots___eq__) (defBody s_c_Spots___eq__) (defScope s_c_Spots___eq__) .none kV doc pm an cdv ct) ⟨us, []⟩ = pure ((["self", "other"] : List Str).zip us) := fun _ _ _ _ _ _ us hl => match us, hl with | [_, _], _ => rfl
theorem b_c_Spots___eq___k : ∀ (kV doc pm : Value) (an : Option Addr) (cdv ct : Value) (us : List Value), us.length = 2 → bindArgs (PySem.W.fnOf "__eq__" "Spots.__eq__" (defArgs s_c_Spots___eq__) (defBody s_c_Spots___eq__) (defScope s_c_Spots___eq__) .none kV doc pm an cdv ct) ⟨[], (["self", "other"] : List Str).zip us⟩ = pure ((["self", "other"] : List Str).zip us) := fun _ _ _ _ _ _ us hl => match us, hl with | [_, _], _ => rfl
theorem d_l_pick (T : Top K mg) : DFn P w K mg base 2 "_law_pick" s_l_pick ["_law_pot_here", "_law_some"] [.p, .f] .f m_l_pick :=
  dfn_of (N := ["_law_pot_here", "_law_some"]) [.p, .f] [.p, .f] T.f_l_pick ⟨rfl, rfl, rfl, by decide, rfl, by decide, by decide⟩ rfl rfl (by decide) rfl (by first | exact .inl (.inl rfl) | exact .inl (.inr rfl) | exact .inr rfl) fun f cdv A outer s H E o =>
  ⟨_, (dss_one (ds_ret (de_ix (de_var 1) (de_call (d_l_draw T) o b_l_draw (da_p 0 (da_f (de_callB c_len T.b_len (da_b (de_var 1) da_nil)) da_nil))))))⟩
theorem b_l_pick : ∀ (kV doc pm : Value) (an : Option Addr) (cdv ct : Value) (us : List Value), us.length = 2 → bindArgs (PySem.W.fnOf "_law_pick" "_law_pick" (defArgs s_l_pick) (defBody s_l_pick) (defScope s_l_pick) .none kV doc pm an cdv ct) ⟨us, []⟩ = pure ((["_law_pot_here", "_law_some"] : List Str).zip us) := fun _ _ _ _ _ _ us hl => match us, hl with | [_, _], _ => rfl
theorem b_l_pick_k : ∀ (kV doc pm : Value) (an : Option Addr) (cdv ct : Value) (us : List Value), us.length = 2 → bindArgs (PySem.W.fnOf "_law_pick" "_law_pick" (defArgs s_l_pick) (defBody s_l_pick) (defScope s_l_pick) .none kV doc pm an cdv ct) ⟨[], (["_law_pot_here", "_law_some"] : List Str).zip us⟩ = pure ((["_law_pot_here", "_law_some"] : List Str).zip us) := fun _ _ _ _ _ _ us hl => match us, hl with | [_, _], _ => rfl
theorem d_p_is_list (T : Top K mg) : DFn P w K mg base 1 "is_list" s_p_is_list ["value"] [.f] .f m_p_is_list :=
  dfn_of (N := ["value"]) [.f] [.f] T.f_p_is_list ⟨rfl, rfl, rfl, by decide, rfl, by decide, by decide⟩ rfl rfl (by decide) rfl (by first | exact .inl (.inl rfl) | exact .inl (.inr rfl) | exact .inr rfl) fun f cdv A outer s H E o =>
  ⟨_, (dss_one (ds_ret (de_isi2A (T := "list") (U := "tuple") ["Spots", "Told"] T.cT T.b_isinstance T.b_list T.b_tuple (de_var 0))))⟩
theorem b_p_is_list : ∀ (kV doc pm : Value) (an : Option Addr) (cdv ct : Value) (us : List Value), us.length = 1 → bindArgs (PySem.W.fnOf "is_list" "is_list" (defArgs s_p_is_list) (defBody s_p_is_list) (defScope s_p_is_list) .none kV doc pm an cdv ct) ⟨us, []⟩ = pure ((["value"] : List Str).zip us) := fun _ _ _ _ _ _ us hl => match us, hl with | [_], _ => rfl
theorem b_p_is_list_k : ∀ (kV doc pm : Value) (an : Option Addr) (cdv ct : Value) (us : List Value), us.length = 1 → bindArgs (PySem.W.fnOf "is_list" "is_list" (defArgs s_p_is_list) (defBody s_p_is_list) (defScope s_p_is_list) .none kV doc pm an cdv ct) ⟨[], (["value"] : List Str).zip us⟩ = pure ((["value"] : List Str).zip us) := fun _ _ _ _ _ _ us hl => match us, hl with | [_], _ => rfl
theorem d_p_divisor_of (T : Top K mg) : DFn P w K mg base 1 "divisor_of" s_p_divisor_of ["row"] [.f] .f m_p_divisor_of :=
  dfn_of (N := ["row", "found", "number"]) [.f, .f, .f] [.f, .f, .f] T.f_p_divisor_of ⟨rfl, rfl, rfl, by decide, rfl, by decide, by decide⟩ rfl rfl (by decide) rfl (by first | exact .inl (.inl rfl) | exact .inl (.inr rfl) | exact .inr rfl) fun f cdv A outer s H E o =>
  ⟨_, (dss_cons (ds_set 1 o de_int) (dss_cons (ds_for o (di_seq (de_var 0)) (dg_name 2 o.nd) (dss_cons (ds_set 1 o (de_callG c_gcd T.g_gcd (da_b (de_var 1) (da_b (de_var 2) da_nil)))) (dss_one (ds_if (dt_cmp
    (o_eq o) (de_var 1) de_int) (dss_one (ds_ret de_int)) dss_nil)))) (dss_one (ds_ret (de_var 1)))))⟩
theorem b_p_divisor_of : ∀ (kV doc pm : Value) (an : Option Addr) (cdv ct : Value) (us : List Value), us.length = 1 → bindArgs (PySem.W.fnOf "divisor_of" "divisor_of" (defArgs s_p_divisor_of) (defBody s_p_divisor_of) (defScope s_p_divisor_of) .none kV doc pm an cdv ct) ⟨us, []⟩ = pure ((["row"] : List Str).zip us) := fun _ _ _ _ _ _ us hl => match us, hl with | [_], _ => rfl
theorem b_p_divisor_of_k : ∀ (kV doc pm : Value) (an : Option Addr) (cdv ct : Value) (us : List Value), us.length = 1 → bindArgs (PySem.W.fnOf "divisor_of" "divisor_of" (defArgs s_p_divisor_of) (defBody s_p_divisor_of) (defScope s_p_divisor_of) .none kV doc pm an cdv ct) ⟨[], (["row"] : List Str).zip us⟩ = pure ((["row"] : List Str).zip us) := fun _ _ _ _ _ _ us hl => match us, hl with | [_], _ => rfl
theorem d_p_plain (T : Top K mg) : DFn P w K mg base 2 "plain" s_p_plain ["row"] [.f] .o m_p_plain :=
  dfn_of (N := ["row", "divisor", "number"]) [.f, .f, .f] [.f, .f, .f] T.f_p_plain ⟨rfl, rfl, rfl, by decide, rfl, by decide, by decide⟩ rfl rfl (by decide) rfl (by first | exact .inl (.inl rfl) | exact .inl (.inr rfl) | exact .inr rfl) fun f cdv A outer s H E o =>
  ⟨_, (dss_cons (ds_set 1 o (de_call (d_p_divisor_of T) o b_p_divisor_of (da_f (de_var 0) da_nil))) (dss_one (ds_ret (de_if (dt_cmp o_gt (de_var 1) de_int) (de_lc (own := [("number", 2)]) o (di_seq (de_var
    0)) (blk_of (by rfl)) (fun _ _ _ _ _ => ⟨_, (dg_name 2 (XOk.blk o).nd)⟩) (fun _ _ _ _ _ => ⟨_, dts_nil⟩) (fun _ _ _ _ _ => ⟨_, (de_bin o_fdivW (de_var 2) (de_var 1))⟩)) (de_callTy c_list T.b_list
    (da_b (de_var 0) da_nil))))))⟩
theorem b_p_plain : ∀ (kV doc pm : Value) (an : Option Addr) (cdv ct : Value) (us : List Value), us.length = 1 → bindArgs (PySem.W.fnOf "plain" "plain" (defArgs s_p_plain) (defBody s_p_plain) (defScope s_p_plain) .none kV doc pm an cdv ct) ⟨us, []⟩ = pure ((["row"] : List Str).zip us) := fun _ _ _ _ _ _ us hl => match us, hl with | [_], _ => rfl
theorem b_p_plain_k : ∀ (kV doc pm : Value) (an : Option Addr) (cdv ct : Value) (us : List Value), us.length = 1 → bindArgs (PySem.W.fnOf "plain" "plain" (defArgs s_p_plain) (defBody s_p_plain) (defScope s_p_plain) .none kV doc pm an cdv ct) ⟨[], (["row"] : List Str).zip us⟩ = pure ((["row"] : List Str).zip us) := fun _ _ _ _ _ _ us hl => match us, hl with | [_], _ => rfl
theorem d_p_lead_place (T : Top K mg) : DFn P w K mg base 1 "lead_place" s_p_lead_place ["row"] [.f] .f m_p_lead_place :=
  dfn_of (N := ["row", "place", "number"]) [.f, .f, .f] [.f, .f, .f] T.f_p_lead_place ⟨rfl, rfl, rfl, by decide, rfl, by decide, by decide⟩ rfl rfl (by decide) rfl (by first | exact .inl (.inl rfl) | exact .inl (.inr rfl) | exact .inr rfl) fun f cdv A outer s H E o =>
  ⟨_, (dss_cons (ds_for o (di_enum T.b_enumerate (da_f (de_var 0) da_nil)) (dg_tup o.calm (dgs_cons (dg_name 1 o.nd) (dgs_cons (dg_name 2 o.nd) dgs_nil))) (dss_one (ds_if (dt_cmp (o_ne o) (de_var 2) de_int)
    (dss_one (ds_ret (de_var 1))) dss_nil))) (dss_one (ds_ret de_non)))⟩
theorem b_p_lead_place : ∀ (kV doc pm : Value) (an : Option Addr) (cdv ct : Value) (us : List Value), us.length = 1 → bindArgs (PySem.W.fnOf "lead_place" "lead_place" (defArgs s_p_lead_place) (defBody s_p_lead_place) (defScope s_p_lead_place) .none kV doc pm an cdv ct) ⟨us, []⟩ = pure ((["row"] : List Str).zip us) := fun _ _ _ _ _ _ us hl => match us, hl with | [_], _ => rfl
theorem b_p_lead_place_k : ∀ (kV doc pm : Value) (an : Option Addr) (cdv ct : Value) (us : List Value), us.length = 1 → bindArgs (PySem.W.fnOf "lead_place" "lead_place" (defArgs s_p_lead_place) (defBody s_p_lead_place) (defScope s_p_lead_place) .none kV doc pm an cdv ct) ⟨[], (["row"] : List Str).zip us⟩ = pure ((["row"] : List Str).zip us) := fun _ _ _ _ _ _ us hl => match us, hl with | [_], _ => rfl
theorem d_p_signed (T : Top K mg) : DFn P w K mg base 3 "signed" s_p_signed ["row"] [.f] .f m_p_signed :=
  dfn_of (N := ["row", "found", "place", "number"]) [.f, .f, .f, .f] [.f, .f, .f, .f] T.f_p_signed ⟨rfl, rfl, rfl, by decide, rfl, by decide, by decide⟩ rfl rfl (by decide) rfl (by first | exact .inl (.inl rfl) | exact .inl (.inr rfl) | exact .inr rfl) fun f cdv A outer s H E o =>
  ⟨_, (dss_cons (ds_set 1 o ((de_call (d_p_plain T) o b_p_plain (da_f (de_var 0) da_nil))).toF) (dss_cons (ds_set 2 o (de_call (d_p_lead_place T) o b_p_lead_place (da_f (de_var 1) da_nil))) (dss_one (ds_ret
    (de_if (DW.dt (dw_or (dt_cmp o_isN (de_var 2) de_non) (dw_or1 (dt_cmp o_gt (de_ix (de_var 1) (de_var 2)) de_int)))) (de_var 1) ((de_lc (own := [("number", 3)]) o (di_seq (de_var 1)) (blk_of (by rfl))
    (fun _ _ _ _ _ => ⟨_, (dg_name 3 (XOk.blk o).nd)⟩) (fun _ _ _ _ _ => ⟨_, dts_nil⟩) (fun _ _ _ _ _ => ⟨_, (de_bin o_sub de_int (de_var 3))⟩))).toF)))))⟩
theorem b_p_signed : ∀ (kV doc pm : Value) (an : Option Addr) (cdv ct : Value) (us : List Value), us.length = 1 → bindArgs (PySem.W.fnOf "signed" "signed" (defArgs s_p_signed) (defBody s_p_signed) (defScope s_p_signed) .none kV doc pm an cdv ct) ⟨us, []⟩ = pure ((["row"] : List Str).zip us) := fun _ _ _ _ _ _ us hl => match us, hl with | [_], _ => rfl
theorem b_p_signed_k : ∀ (kV doc pm : Value) (an : Option Addr) (cdv ct : Value) (us : List Value), us.length = 1 → bindArgs (PySem.W.fnOf "signed" "signed" (defArgs s_p_signed) (defBody s_p_signed) (defScope s_p_signed) .none kV doc pm an cdv ct) ⟨[], (["row"] : List Str).zip us⟩ = pure ((["row"] : List Str).zip us) := fun _ _ _ _ _ _ us hl => match us, hl with | [_], _ => rfl
theorem d_p_told_of (T : Top K mg) : DFn P w K mg base 4 "told_of" s_p_told_of ["point"] [.f] .f m_p_told_of :=
  dfn_of (N := ["point"]) [.f] [.f] T.f_p_told_of ⟨rfl, rfl, rfl, by decide, rfl, by decide, by decide⟩ rfl rfl (by decide) rfl (by first | exact .inl (.inl rfl) | exact .inl (.inr rfl) | exact .inr rfl) fun f cdv A outer s H E o =>
  ⟨_, (dss_one (ds_ret (de_callTy c_tuple T.b_tuple (da_b (de_call (d_p_signed T) o b_p_signed (da_f (de_var 0) da_nil)) da_nil))))⟩
theorem b_p_told_of : ∀ (kV doc pm : Value) (an : Option Addr) (cdv ct : Value) (us : List Value), us.length = 1 → bindArgs (PySem.W.fnOf "told_of" "told_of" (defArgs s_p_told_of) (defBody s_p_told_of) (defScope s_p_told_of) .none kV doc pm an cdv ct) ⟨us, []⟩ = pure ((["point"] : List Str).zip us) := fun _ _ _ _ _ _ us hl => match us, hl with | [_], _ => rfl
theorem b_p_told_of_k : ∀ (kV doc pm : Value) (an : Option Addr) (cdv ct : Value) (us : List Value), us.length = 1 → bindArgs (PySem.W.fnOf "told_of" "told_of" (defArgs s_p_told_of) (defBody s_p_told_of) (defScope s_p_told_of) .none kV doc pm an cdv ct) ⟨[], (["point"] : List Str).zip us⟩ = pure ((["point"] : List Str).zip us) := fun _ _ _ _ _ _ us hl => match us, hl with | [_], _ => rfl
theorem d_p_is_integer (T : Top K mg) : DFn P w K mg base 1 "is_integer" s_p_is_integer ["value"] [.f] .f m_p_is_integer :=
  dfn_of (N := ["value"]) [.f] [.f] T.f_p_is_integer ⟨rfl, rfl, rfl, by decide, rfl, by decide, by decide⟩ rfl rfl (by decide) rfl (by first | exact .inl (.inl rfl) | exact .inl (.inr rfl) | exact .inr rfl) fun f cdv A outer s H E o =>
  ⟨_, (dss_one (ds_ret (de_and (de_isiA (T := "int") ["Spots", "Told"] T.cT T.b_isinstance T.b_int (de_var 0)) (de_one (de_not (de_isiA (T := "bool") ["Spots", "Told"] T.cT T.b_isinstance T.b_bool (de_var
    0)))))))⟩
theorem b_p_is_integer : ∀ (kV doc pm : Value) (an : Option Addr) (cdv ct : Value) (us : List Value), us.length = 1 → bindArgs (PySem.W.fnOf "is_integer" "is_integer" (defArgs s_p_is_integer) (defBody s_p_is_integer) (defScope s_p_is_integer) .none kV doc pm an cdv ct) ⟨us, []⟩ = pure ((["value"] : List Str).zip us) := fun _ _ _ _ _ _ us hl => match us, hl with | [_], _ => rfl
theorem b_p_is_integer_k : ∀ (kV doc pm : Value) (an : Option Addr) (cdv ct : Value) (us : List Value), us.length = 1 → bindArgs (PySem.W.fnOf "is_integer" "is_integer" (defArgs s_p_is_integer) (defBody s_p_is_integer) (defScope s_p_is_integer) .none kV doc pm an cdv ct) ⟨[], (["value"] : List Str).zip us⟩ = pure ((["value"] : List Str).zip us) := fun _ _ _ _ _ _ us hl => match us, hl with | [_], _ => rfl
theorem d_p_are_point (T : Top K mg) : DFn P w K mg base 2 "are_point" s_p_are_point ["value"] [.f] .f m_p_are_point :=
  dfn_of (N := ["value", "number"]) [.f, .f] [.f, .f] T.f_p_are_point ⟨rfl, rfl, rfl, by decide, rfl, by decide, by decide⟩ rfl rfl (by decide) rfl (by first | exact .inl (.inl rfl) | exact .inl (.inr rfl) | exact .inr rfl) fun f cdv A outer s H E o =>
  ⟨_, (dss_cons (ds_if (DW.dt (dw_or (dt_not (dt_of (de_call (d_p_is_list T) o b_p_is_list (da_f (de_var 0) da_nil)))) (dw_or (dt_cmp (o_ne o) (de_callB c_len T.b_len (da_b (de_var 0) da_nil)) de_int)
    (dw_or1 (dt_not (dt_of (de_callB (c_all o) T.b_all (da_b (de_lc (own := [("number", 1)]) o (di_seq (de_var 0)) (blk_of (by rfl)) (fun _ _ _ _ _ => ⟨_, (dg_name 1 (XOk.blk o).nd)⟩) (fun _ _ _ _ _ =>
    ⟨_, dts_nil⟩) (fun _ _ _ _ _ => ⟨_, (de_call (d_p_is_integer T) (XOk.blk o) b_p_is_integer (da_f (de_var 1) da_nil))⟩)) da_nil)))))))) (dss_one (ds_ret de_bl)) dss_nil) (dss_one (ds_ret (de_callB
    (c_anyA o) T.b_any (da_b (de_lc (own := [("number", 1)]) o (di_seq (de_var 0)) (blk_of (by rfl)) (fun _ _ _ _ _ => ⟨_, (dg_name 1 (XOk.blk o).nd)⟩) (fun _ _ _ _ _ => ⟨_, dts_nil⟩) (fun _ _ _ _ _ =>
    ⟨_, (de_cmp (o_ne (XOk.blk o)) (de_var 1) de_int)⟩)) da_nil)))))⟩
theorem b_p_are_point : ∀ (kV doc pm : Value) (an : Option Addr) (cdv ct : Value) (us : List Value), us.length = 1 → bindArgs (PySem.W.fnOf "are_point" "are_point" (defArgs s_p_are_point) (defBody s_p_are_point) (defScope s_p_are_point) .none kV doc pm an cdv ct) ⟨us, []⟩ = pure ((["value"] : List Str).zip us) := fun _ _ _ _ _ _ us hl => match us, hl with | [_], _ => rfl
theorem b_p_are_point_k : ∀ (kV doc pm : Value) (an : Option Addr) (cdv ct : Value) (us : List Value), us.length = 1 → bindArgs (PySem.W.fnOf "are_point" "are_point" (defArgs s_p_are_point) (defBody s_p_are_point) (defScope s_p_are_point) .none kV doc pm an cdv ct) ⟨[], (["value"] : List Str).zip us⟩ = pure ((["value"] : List Str).zip us) := fun _ _ _ _ _ _ us hl => match us, hl with | [_], _ => rfl
theorem d_p_told_points (T : Top K mg) : DFn P w K mg base 5 "told_points" s_p_told_points ["value"] [.f] .f m_p_told_points :=
  dfn_of (N := ["value", "found", "position", "point"]) [.f, .o, .f, .f] [.f, .o, .f, .f] T.f_p_told_points ⟨rfl, rfl, rfl, by decide, rfl, by decide, by decide⟩ rfl rfl (by decide) rfl (by first | exact .inl (.inl rfl) | exact .inl (.inr rfl) | exact .inr rfl) fun f cdv A outer s H E o =>
  ⟨_, (dss_cons (ds_if (dt_of (de_isC ["Spots", "Told"] T.ci_Told T.b_isinstance (de_var 0))) (dss_one (ds_ret (de_fld "Told" ["told_points"] T.cl_Told (de_var 0)))) dss_nil) (dss_cons (ds_if (DW.dt (dw_or
    (dt_not (dt_of (de_call (d_p_is_list T) o b_p_is_list (da_f (de_var 0) da_nil)))) (dw_or1 (dt_not (dt_chain o_le o_le de_int (de_callB c_len T.b_len (da_b (de_var 0) da_nil)) (de_glob T.c_MOST_POINTS
    fun _ => .int _)))))) (dss_one ds_never) dss_nil) (dss_cons (ds_set 1 o (de_lst da_nil)) (dss_cons (ds_for o (di_enum T.b_enumerate (da_f (de_var 0) da_nil)) (dg_tup o.calm (dgs_cons (dg_name 2 o.nd)
    (dgs_cons (dg_name 3 o.nd) dgs_nil))) (dss_cons (ds_if (DW.dt (dw_or (dt_not (dt_of (de_call (d_p_are_point T) o b_p_are_point (da_f (de_var 3) da_nil)))) (dw_or1 (dt_cmp (o_inA o) (de_call
    (d_p_told_of T) o b_p_told_of (da_f (de_var 3) da_nil)) (de_varo 1))))) (dss_one ds_never) dss_nil) (dss_one (ds_app 1 (de_call (d_p_told_of T) o b_p_told_of (da_f (de_var 3) da_nil)))))) (dss_one
    (ds_ret (de_callTy c_tuple T.b_tuple (da_b (de_varo 1) da_nil))))))))⟩
theorem b_p_told_points : ∀ (kV doc pm : Value) (an : Option Addr) (cdv ct : Value) (us : List Value), us.length = 1 → bindArgs (PySem.W.fnOf "told_points" "told_points" (defArgs s_p_told_points) (defBody s_p_told_points) (defScope s_p_told_points) .none kV doc pm an cdv ct) ⟨us, []⟩ = pure ((["value"] : List Str).zip us) := fun _ _ _ _ _ _ us hl => match us, hl with | [_], _ => rfl
theorem b_p_told_points_k : ∀ (kV doc pm : Value) (an : Option Addr) (cdv ct : Value) (us : List Value), us.length = 1 → bindArgs (PySem.W.fnOf "told_points" "told_points" (defArgs s_p_told_points) (defBody s_p_told_points) (defScope s_p_told_points) .none kV doc pm an cdv ct) ⟨[], (["value"] : List Str).zip us⟩ = pure ((["value"] : List Str).zip us) := fun _ _ _ _ _ _ us hl => match us, hl with | [_], _ => rfl
theorem d_i_Spots (T : Top K mg) : DMk P w K mg base 6 "Spots" "Spots.__init__" s_i_Spots ["self", "points"] [.f] m_i_Spots :=
  dmk_of (N := ["self", "points"]) [.u, .f] T.f_i_Spots ⟨rfl, rfl, rfl, by decide, rfl, by decide, by decide⟩ rfl rfl (by decide) rfl (by decide) (by decide) fun f cdv A outer s H E o =>
  ⟨_, (din_fldC "Spots" ["own_points"] T.cl_Spots (de_call (d_p_told_points T) o b_p_told_points (da_f (de_var 1) da_nil)) din_nil)⟩
theorem b_i_Spots : ∀ (kV doc pm : Value) (an : Option Addr) (cdv ct : Value) (us : List Value), us.length = 2 → bindArgs (PySem.W.fnOf "__init__" "Spots.__init__" (defArgs s_i_Spots) (defBody s_i_Spots) (defScope s_i_Spots) .none kV doc pm an cdv ct) ⟨us, []⟩ = pure ((["self", "points"] : List Str).zip us) := fun _ _ _ _ _ _ us hl => match us, hl with | [_, _], _ => rfl
theorem b_i_Spots_k : ∀ (kV doc pm : Value) (an : Option Addr) (cdv ct : Value) (us : List Value), us.length = 2 → bindArgs (PySem.W.fnOf "__init__" "Spots.__init__" (defArgs s_i_Spots) (defBody s_i_Spots) (defScope s_i_Spots) .none kV doc pm an cdv ct) ⟨[], (["self", "points"] : List Str).zip us⟩ = pure ((["self", "points"] : List Str).zip us) := fun _ _ _ _ _ _ us hl => match us, hl with | [_, _], _ => rfl
theorem d_p_stair_points (T : Top K mg) : DFn P w K mg base 1 "stair_points" s_p_stair_points ["row"] [.f] .o m_p_stair_points :=
  dfn_of (N := ["row", "found", "place", "number", "second"]) [.f, .o, .f, .f, .f] [.f, .o, .f, .f, .f] T.f_p_stair_points ⟨rfl, rfl, rfl, by decide, rfl, by decide, by decide⟩ rfl rfl (by decide) rfl (by first | exact .inl (.inl rfl) | exact .inl (.inr rfl) | exact .inr rfl) fun f cdv A outer s H E o =>
  ⟨_, (dss_cons (ds_set 1 o (de_lst da_nil)) (dss_cons (ds_for o (di_enum T.b_enumerate (da_f (de_var 0) da_nil)) (dg_tup o.calm (dgs_cons (dg_name 2 o.nd) (dgs_cons (dg_name 3 o.nd) dgs_nil))) (dss_one
    (ds_ext 1 (de_lc (own := [("second", 4)]) o (di_range1 T.b_range (da_f (de_var 3) da_nil)) (blk_of (by rfl)) (fun _ _ _ _ _ => ⟨_, (dg_name 4 (XOk.blk o).nd)⟩) (fun _ _ _ _ _ => ⟨_, dts_nil⟩) (fun _
    _ _ _ _ => ⟨_, (de_tup (da_f (de_bin o_sub (de_var 2) (de_var 4)) (da_f (de_var 4) (da_f de_int da_nil))))⟩))))) (dss_one (ds_reto 1))))⟩
theorem b_p_stair_points : ∀ (kV doc pm : Value) (an : Option Addr) (cdv ct : Value) (us : List Value), us.length = 1 → bindArgs (PySem.W.fnOf "stair_points" "stair_points" (defArgs s_p_stair_points) (defBody s_p_stair_points) (defScope s_p_stair_points) .none kV doc pm an cdv ct) ⟨us, []⟩ = pure ((["row"] : List Str).zip us) := fun _ _ _ _ _ _ us hl => match us, hl with | [_], _ => rfl
theorem b_p_stair_points_k : ∀ (kV doc pm : Value) (an : Option Addr) (cdv ct : Value) (us : List Value), us.length = 1 → bindArgs (PySem.W.fnOf "stair_points" "stair_points" (defArgs s_p_stair_points) (defBody s_p_stair_points) (defScope s_p_stair_points) .none kV doc pm an cdv ct) ⟨[], (["row"] : List Str).zip us⟩ = pure ((["row"] : List Str).zip us) := fun _ _ _ _ _ _ us hl => match us, hl with | [_], _ => rfl
theorem d_p_is_count (T : Top K mg) : DFn P w K mg base 2 "is_count" s_p_is_count ["value"] [.f] .f m_p_is_count :=
  dfn_of (N := ["value"]) [.f] [.f] T.f_p_is_count ⟨rfl, rfl, rfl, by decide, rfl, by decide, by decide⟩ rfl rfl (by decide) rfl (by first | exact .inl (.inl rfl) | exact .inl (.inr rfl) | exact .inr rfl) fun f cdv A outer s H E o =>
  ⟨_, (dss_one (ds_ret (de_and (de_call (d_p_is_integer T) o b_p_is_integer (da_f (de_var 0) da_nil)) (de_one (de_cmp o_ge (de_var 0) de_int)))))⟩
theorem b_p_is_count : ∀ (kV doc pm : Value) (an : Option Addr) (cdv ct : Value) (us : List Value), us.length = 1 → bindArgs (PySem.W.fnOf "is_count" "is_count" (defArgs s_p_is_count) (defBody s_p_is_count) (defScope s_p_is_count) .none kV doc pm an cdv ct) ⟨us, []⟩ = pure ((["value"] : List Str).zip us) := fun _ _ _ _ _ _ us hl => match us, hl with | [_], _ => rfl
theorem b_p_is_count_k : ∀ (kV doc pm : Value) (an : Option Addr) (cdv ct : Value) (us : List Value), us.length = 1 → bindArgs (PySem.W.fnOf "is_count" "is_count" (defArgs s_p_is_count) (defBody s_p_is_count) (defScope s_p_is_count) .none kV doc pm an cdv ct) ⟨[], (["value"] : List Str).zip us⟩ = pure ((["value"] : List Str).zip us) := fun _ _ _ _ _ _ us hl => match us, hl with | [_], _ => rfl
theorem d_p_is_counts (T : Top K mg) : DFn P w K mg base 3 "is_counts" s_p_is_counts ["value"] [.f] .f m_p_is_counts :=
  dfn_of (N := ["value", "number"]) [.f, .f] [.f, .f] T.f_p_is_counts ⟨rfl, rfl, rfl, by decide, rfl, by decide, by decide⟩ rfl rfl (by decide) rfl (by first | exact .inl (.inl rfl) | exact .inl (.inr rfl) | exact .inr rfl) fun f cdv A outer s H E o =>
  ⟨_, (dss_one (ds_ret (de_and (de_call (d_p_is_list T) o b_p_is_list (da_f (de_var 0) da_nil)) (de_and (de_cmp o_gt (de_callB c_len T.b_len (da_b (de_var 0) da_nil)) de_int) (de_one (de_callB (c_all o)
    T.b_all (da_b (de_lc (own := [("number", 1)]) o (di_seq (de_var 0)) (blk_of (by rfl)) (fun _ _ _ _ _ => ⟨_, (dg_name 1 (XOk.blk o).nd)⟩) (fun _ _ _ _ _ => ⟨_, dts_nil⟩) (fun _ _ _ _ _ => ⟨_, (de_call
    (d_p_is_count T) (XOk.blk o) b_p_is_count (da_f (de_var 1) da_nil))⟩)) da_nil)))))))⟩
theorem b_p_is_counts : ∀ (kV doc pm : Value) (an : Option Addr) (cdv ct : Value) (us : List Value), us.length = 1 → bindArgs (PySem.W.fnOf "is_counts" "is_counts" (defArgs s_p_is_counts) (defBody s_p_is_counts) (defScope s_p_is_counts) .none kV doc pm an cdv ct) ⟨us, []⟩ = pure ((["value"] : List Str).zip us) := fun _ _ _ _ _ _ us hl => match us, hl with | [_], _ => rfl
theorem b_p_is_counts_k : ∀ (kV doc pm : Value) (an : Option Addr) (cdv ct : Value) (us : List Value), us.length = 1 → bindArgs (PySem.W.fnOf "is_counts" "is_counts" (defArgs s_p_is_counts) (defBody s_p_is_counts) (defScope s_p_is_counts) .none kV doc pm an cdv ct) ⟨[], (["value"] : List Str).zip us⟩ = pure ((["value"] : List Str).zip us) := fun _ _ _ _ _ _ us hl => match us, hl with | [_], _ => rfl
theorem d_p_goes_on (T : Top K mg) : DFn P w K mg base 1 "goes_on" s_p_goes_on ["number", "ahead", "is_rising"] [.f, .f, .f] .f m_p_goes_on :=
  dfn_of (N := ["number", "ahead", "is_rising"]) [.f, .f, .f] [.f, .f, .f] T.f_p_goes_on ⟨rfl, rfl, rfl, by decide, rfl, by decide, by decide⟩ rfl rfl (by decide) rfl (by first | exact .inl (.inl rfl) | exact .inl (.inr rfl) | exact .inr rfl) fun f cdv A outer s H E o =>
  ⟨_, (dss_one (ds_ret (de_or (de_chain o_lt o_le de_int (de_var 0) (de_var 1)) (de_one (de_and (de_var 2) (de_one (de_cmp (o_eq o) (de_var 0) (de_bin o_add (de_var 1) de_int))))))))⟩
theorem b_p_goes_on : ∀ (kV doc pm : Value) (an : Option Addr) (cdv ct : Value) (us : List Value), us.length = 3 → bindArgs (PySem.W.fnOf "goes_on" "goes_on" (defArgs s_p_goes_on) (defBody s_p_goes_on) (defScope s_p_goes_on) .none kV doc pm an cdv ct) ⟨us, []⟩ = pure ((["number", "ahead", "is_rising"] : List Str).zip us) := fun _ _ _ _ _ _ us hl => match us, hl with | [_, _, _], _ => rfl
theorem b_p_goes_on_k : ∀ (kV doc pm : Value) (an : Option Addr) (cdv ct : Value) (us : List Value), us.length = 3 → bindArgs (PySem.W.fnOf "goes_on" "goes_on" (defArgs s_p_goes_on) (defBody s_p_goes_on) (defScope s_p_goes_on) .none kV doc pm an cdv ct) ⟨[], (["number", "ahead", "is_rising"] : List Str).zip us⟩ = pure ((["number", "ahead", "is_rising"] : List Str).zip us) := fun _ _ _ _ _ _ us hl => match us, hl with | [_, _, _], _ => rfl
theorem d_p_fault_of (T : Top K mg) : DFn P w K mg base 2 "fault_of" s_p_fault_of ["numbers"] [.f] .f m_p_fault_of :=
  dfn_of (N := ["numbers", "total", "ahead", "is_rising", "place", "number"]) [.f, .f, .f, .f, .f, .f] [.f, .f, .f, .f, .f, .f] T.f_p_fault_of ⟨rfl, rfl, rfl, by decide, rfl, by decide, by decide⟩ rfl rfl (by decide) rfl (by first | exact .inl (.inl rfl) | exact .inl (.inr rfl) | exact .inr rfl) fun f cdv A outer s H E o =>
  ⟨_, (dss_cons (ds_unp (de_tup (da_f de_int (da_f de_int (da_f de_bl da_nil)))) (dg_tup o.calm (dgs_cons (dg_name 1 o.nd) (dgs_cons (dg_name 2 o.nd) (dgs_cons (dg_name 3 o.nd) dgs_nil))))) (dss_cons (ds_for
    o (di_enum T.b_enumerate (da_f (de_var 0) da_nil)) (dg_tup o.calm (dgs_cons (dg_name 4 o.nd) (dgs_cons (dg_name 5 o.nd) dgs_nil))) (dss_cons (ds_aug 1 (g := fun i j => i + j) o ip_add (de_var 5))
    (dss_cons (ds_if (DW.dt (dw_or (dt_not (dt_of (de_call (d_p_goes_on T) o b_p_goes_on (da_f (de_var 5) (da_f (de_var 2) (da_f (de_var 3) da_nil)))))) (dw_or (dt_cmp o_gt (de_var 1) (de_glob
    T.c_MOST_SUM fun _ => .int _)) (dw_or1 (dt_cmp o_ge (de_var 4) (de_glob T.c_MOST_PLACES fun _ => .int _)))))) (dss_one (ds_ret (de_var 4))) dss_nil) (dss_cons (ds_set 3 o (de_and (de_var 3) (de_one
    (de_cmp o_gt (de_var 5) (de_var 2))))) (dss_one (ds_set 2 o (de_var 5))))))) (dss_one (ds_ret de_non))))⟩
theorem b_p_fault_of : ∀ (kV doc pm : Value) (an : Option Addr) (cdv ct : Value) (us : List Value), us.length = 1 → bindArgs (PySem.W.fnOf "fault_of" "fault_of" (defArgs s_p_fault_of) (defBody s_p_fault_of) (defScope s_p_fault_of) .none kV doc pm an cdv ct) ⟨us, []⟩ = pure ((["numbers"] : List Str).zip us) := fun _ _ _ _ _ _ us hl => match us, hl with | [_], _ => rfl
theorem b_p_fault_of_k : ∀ (kV doc pm : Value) (an : Option Addr) (cdv ct : Value) (us : List Value), us.length = 1 → bindArgs (PySem.W.fnOf "fault_of" "fault_of" (defArgs s_p_fault_of) (defBody s_p_fault_of) (defScope s_p_fault_of) .none kV doc pm an cdv ct) ⟨[], (["numbers"] : List Str).zip us⟩ = pure ((["numbers"] : List Str).zip us) := fun _ _ _ _ _ _ us hl => match us, hl with | [_], _ => rfl
theorem d_p_is_row (T : Top K mg) : DFn P w K mg base 4 "is_row" s_p_is_row ["value"] [.f] .f m_p_is_row :=
  dfn_of (N := ["value"]) [.f] [.f] T.f_p_is_row ⟨rfl, rfl, rfl, by decide, rfl, by decide, by decide⟩ rfl rfl (by decide) rfl (by first | exact .inl (.inl rfl) | exact .inl (.inr rfl) | exact .inr rfl) fun f cdv A outer s H E o =>
  ⟨_, (dss_one (ds_ret (de_and (de_call (d_p_is_counts T) o b_p_is_counts (da_f (de_var 0) da_nil)) (de_one (de_cmp o_isN (de_call (d_p_fault_of T) o b_p_fault_of (da_f (de_var 0) da_nil)) de_non)))))⟩
theorem b_p_is_row : ∀ (kV doc pm : Value) (an : Option Addr) (cdv ct : Value) (us : List Value), us.length = 1 → bindArgs (PySem.W.fnOf "is_row" "is_row" (defArgs s_p_is_row) (defBody s_p_is_row) (defScope s_p_is_row) .none kV doc pm an cdv ct) ⟨us, []⟩ = pure ((["value"] : List Str).zip us) := fun _ _ _ _ _ _ us hl => match us, hl with | [_], _ => rfl
theorem b_p_is_row_k : ∀ (kV doc pm : Value) (an : Option Addr) (cdv ct : Value) (us : List Value), us.length = 1 → bindArgs (PySem.W.fnOf "is_row" "is_row" (defArgs s_p_is_row) (defBody s_p_is_row) (defScope s_p_is_row) .none kV doc pm an cdv ct) ⟨[], (["value"] : List Str).zip us⟩ = pure ((["value"] : List Str).zip us) := fun _ _ _ _ _ _ us hl => match us, hl with | [_], _ => rfl
theorem d_p_want_row (T : Top K mg) : DFn P w K mg base 5 "want_row" s_p_want_row ["value"] [.f] .o m_p_want_row :=
  dfn_of (N := ["value"]) [.f] [.f] T.f_p_want_row ⟨rfl, rfl, rfl, by decide, rfl, by decide, by decide⟩ rfl rfl (by decide) rfl (by first | exact .inl (.inl rfl) | exact .inl (.inr rfl) | exact .inr rfl) fun f cdv A outer s H E o =>
  ⟨_, (dss_cons (ds_if (dt_not (dt_of (de_call (d_p_is_row T) o b_p_is_row (da_f (de_var 0) da_nil)))) (dss_one ds_never) dss_nil) (dss_one (ds_ret (de_callTy c_list T.b_list (da_b (de_var 0) da_nil)))))⟩
theorem b_p_want_row : ∀ (kV doc pm : Value) (an : Option Addr) (cdv ct : Value) (us : List Value), us.length = 1 → bindArgs (PySem.W.fnOf "want_row" "want_row" (defArgs s_p_want_row) (defBody s_p_want_row) (defScope s_p_want_row) .none kV doc pm an cdv ct) ⟨us, []⟩ = pure ((["value"] : List Str).zip us) := fun _ _ _ _ _ _ us hl => match us, hl with | [_], _ => rfl
theorem b_p_want_row_k : ∀ (kV doc pm : Value) (an : Option Addr) (cdv ct : Value) (us : List Value), us.length = 1 → bindArgs (PySem.W.fnOf "want_row" "want_row" (defArgs s_p_want_row) (defBody s_p_want_row) (defScope s_p_want_row) .none kV doc pm an cdv ct) ⟨[], (["value"] : List Str).zip us⟩ = pure ((["value"] : List Str).zip us) := fun _ _ _ _ _ _ us hl => match us, hl with | [_], _ => rfl
theorem d_p_stair (T : Top K mg) : DFn P w K mg base 8 "stair" s_p_stair ["row"] [.f] .o m_p_stair :=
  dfn_of (N := ["row"]) [.f] [.f] T.f_p_stair ⟨rfl, rfl, rfl, by decide, rfl, by decide, by decide⟩ rfl rfl (by decide) rfl (by first | exact .inl (.inl rfl) | exact .inl (.inr rfl) | exact .inr rfl) fun f cdv A outer s H E o =>
  ⟨_, (dss_one (ds_ret (de_new (d_i_Spots T) o b_i_Spots (da_f ((de_call (d_p_stair_points T) o b_p_stair_points (da_f ((de_call (d_p_want_row T) o b_p_want_row (da_f (de_var 0) da_nil))).toF da_nil))).toF
    da_nil))))⟩
theorem b_p_stair : ∀ (kV doc pm : Value) (an : Option Addr) (cdv ct : Value) (us : List Value), us.length = 1 → bindArgs (PySem.W.fnOf "stair" "stair" (defArgs s_p_stair) (defBody s_p_stair) (defScope s_p_stair) .none kV doc pm an cdv ct) ⟨us, []⟩ = pure ((["row"] : List Str).zip us) := fun _ _ _ _ _ _ us hl => match us, hl with | [_], _ => rfl
theorem b_p_stair_k : ∀ (kV doc pm : Value) (an : Option Addr) (cdv ct : Value) (us : List Value), us.length = 1 → bindArgs (PySem.W.fnOf "stair" "stair" (defArgs s_p_stair) (defBody s_p_stair) (defScope s_p_stair) .none kV doc pm an cdv ct) ⟨[], (["row"] : List Str).zip us⟩ = pure ((["row"] : List Str).zip us) := fun _ _ _ _ _ _ us hl => match us, hl with | [_], _ => rfl
theorem d_c_Spots_points (T : Top K mg) : DMe P w K mg base 1 "Spots" "points" "Spots.points" s_c_Spots_points ["self"] [] .o m_c_Spots_points :=
  dme_of (N := ["self"]) [.f] [.f] T.f_c_Spots_points ⟨rfl, rfl, rfl, by decide, rfl, by decide, by decide⟩ rfl rfl (by decide) rfl fun f cdv A outer s H E o =>
  ⟨_, (dss_one (ds_ret (de_callTy c_list T.b_list (da_b (de_fld "Spots" ["own_points"] T.cl_Spots (de_var 0)) da_nil))))⟩
theorem b_c_Spots_points : ∀ (kV doc pm : Value) (an : Option Addr) (cdv ct : Value) (us : List Value), us.length = 1 → bindArgs (PySem.W.fnOf "points" "Spots.points" (defArgs s_c_Spots_points) (defBody s_c_Spots_points) (defScope s_c_Spots_points) .none kV doc pm an cdv ct) ⟨us, []⟩ = pure ((["self"] : List Str).zip us) := fun _ _ _ _ _ _ us hl => match us, hl with | [_], _ => rfl
theorem b_c_Spots_points_k : ∀ (kV doc pm : Value) (an : Option Addr) (cdv ct : Value) (us : List Value), us.length = 1 → bindArgs (PySem.W.fnOf "points" "Spots.points" (defArgs s_c_Spots_points) (defBody s_c_Spots_points) (defScope s_c_Spots_points) .none kV doc pm an cdv ct) ⟨[], (["self"] : List Str).zip us⟩ = pure ((["self"] : List Str).zip us) := fun _ _ _ _ _ _ us hl => match us, hl with | [_], _ => rfl
theorem d_c_Spots_size (T : Top K mg) : DPr P w K mg base 1 "Spots" "size" "Spots.size" s_c_Spots_size ["self"] .f m_c_Spots_size :=
  dpr_of (N := ["self"]) [.f] [.f] T.f_c_Spots_size ⟨rfl, rfl, rfl, by decide, rfl, by decide, by decide⟩ rfl rfl (by decide) rfl fun f cdv A outer s H E o =>
  ⟨_, (dss_one (ds_ret (de_callB c_len T.b_len (da_b (de_fld "Spots" ["own_points"] T.cl_Spots (de_var 0)) da_nil))))⟩
theorem b_c_Spots_size : ∀ (kV doc pm : Value) (an : Option Addr) (cdv ct : Value) (us : List Value), us.length = 1 → bindArgs (PySem.W.fnOf "size" "Spots.size" (defArgs s_c_Spots_size) (defBody s_c_Spots_size) (defScope s_c_Spots_size) .none kV doc pm an cdv ct) ⟨us, []⟩ = pure ((["self"] : List Str).zip us) := fun _ _ _ _ _ _ us hl => match us, hl with | [_], _ => rfl
theorem b_c_Spots_size_k : ∀ (kV doc pm : Value) (an : Option Addr) (cdv ct : Value) (us : List Value), us.length = 1 → bindArgs (PySem.W.fnOf "size" "Spots.size" (defArgs s_c_Spots_size) (defBody s_c_Spots_size) (defScope s_c_Spots_size) .none kV doc pm an cdv ct) ⟨[], (["self"] : List Str).zip us⟩ = pure ((["self"] : List Str).zip us) := fun _ _ _ _ _ _ us hl => match us, hl with | [_], _ => rfl
theorem d_p_want_spots (T : Top K mg) : DFn P w K mg base 1 "want_spots" s_p_want_spots ["value"] [.f] .f m_p_want_spots :=
  dfn_of (N := ["value"]) [.f] [.f] T.f_p_want_spots ⟨rfl, rfl, rfl, by decide, rfl, by decide, by decide⟩ rfl rfl (by decide) rfl (by first | exact .inl (.inl rfl) | exact .inl (.inr rfl) | exact .inr rfl) fun f cdv A outer s H E o =>
  ⟨_, (dss_one (ds_if (dt_not (dt_of (de_isC ["Spots", "Told"] T.ci_Spots T.b_isinstance (de_var 0)))) (dss_one ds_never) dss_nil))⟩
theorem b_p_want_spots : ∀ (kV doc pm : Value) (an : Option Addr) (cdv ct : Value) (us : List Value), us.length = 1 → bindArgs (PySem.W.fnOf "want_spots" "want_spots" (defArgs s_p_want_spots) (defBody s_p_want_spots) (defScope s_p_want_spots) .none kV doc pm an cdv ct) ⟨us, []⟩ = pure ((["value"] : List Str).zip us) := fun _ _ _ _ _ _ us hl => match us, hl with | [_], _ => rfl
theorem b_p_want_spots_k : ∀ (kV doc pm : Value) (an : Option Addr) (cdv ct : Value) (us : List Value), us.length = 1 → bindArgs (PySem.W.fnOf "want_spots" "want_spots" (defArgs s_p_want_spots) (defBody s_p_want_spots) (defScope s_p_want_spots) .none kV doc pm an cdv ct) ⟨[], (["value"] : List Str).zip us⟩ = pure ((["value"] : List Str).zip us) := fun _ _ _ _ _ _ us hl => match us, hl with | [_], _ => rfl
theorem d_p_less (T : Top K mg) : DFn P w K mg base 1 "less" s_p_less ["row", "pivot", "place"] [.f, .f, .f] .o m_p_less :=
  dfn_of (N := ["row", "pivot", "place", "shared", "near", "far", "number", "taken"]) [.f, .f, .f, .f, .f, .f, .f, .f] [.f, .f, .f, .f, .f, .f, .f, .f] T.f_p_less ⟨rfl, rfl, rfl, by decide, rfl, by decide, by decide⟩ rfl rfl (by decide) rfl (by first | exact .inl (.inl rfl) | exact .inl (.inr rfl) | exact .inr rfl) fun f cdv A outer s H E o =>
  ⟨_, (dss_cons (ds_set 3 o (de_callG c_gcd T.g_gcd (da_b (de_ix (de_var 1) (de_var 2)) (da_b (de_ix (de_var 0) (de_var 2)) da_nil)))) (dss_cons (ds_unp (de_tup (da_f (de_bin o_fdivW (de_ix (de_var 1)
    (de_var 2)) (de_var 3)) (da_f (de_bin o_fdivW (de_ix (de_var 0) (de_var 2)) (de_var 3)) da_nil))) (dg_tup o.calm (dgs_cons (dg_name 4 o.nd) (dgs_cons (dg_name 5 o.nd) dgs_nil)))) (dss_one (ds_ret
    (de_lc (own := [("number", 6), ("taken", 7)]) o (di_zip T.b_zip (da_f (de_var 0) (da_f (de_var 1) da_nil))) (blk_of (by rfl)) (fun _ _ _ _ _ => ⟨_, (dg_tup (XOk.blk o).calm (dgs_cons (dg_name 6
    (XOk.blk o).nd) (dgs_cons (dg_name 7 (XOk.blk o).nd) dgs_nil)))⟩) (fun _ _ _ _ _ => ⟨_, dts_nil⟩) (fun _ _ _ _ _ => ⟨_, (de_bin o_sub (de_bin o_mulA (de_var 4) (de_var 6)) (de_bin o_mulA (de_var 5)
    (de_var 7)))⟩))))))⟩
theorem b_p_less : ∀ (kV doc pm : Value) (an : Option Addr) (cdv ct : Value) (us : List Value), us.length = 3 → bindArgs (PySem.W.fnOf "less" "less" (defArgs s_p_less) (defBody s_p_less) (defScope s_p_less) .none kV doc pm an cdv ct) ⟨us, []⟩ = pure ((["row", "pivot", "place"] : List Str).zip us) := fun _ _ _ _ _ _ us hl => match us, hl with | [_, _, _], _ => rfl
theorem b_p_less_k : ∀ (kV doc pm : Value) (an : Option Addr) (cdv ct : Value) (us : List Value), us.length = 3 → bindArgs (PySem.W.fnOf "less" "less" (defArgs s_p_less) (defBody s_p_less) (defScope s_p_less) .none kV doc pm an cdv ct) ⟨[], (["row", "pivot", "place"] : List Str).zip us⟩ = pure ((["row", "pivot", "place"] : List Str).zip us) := fun _ _ _ _ _ _ us hl => match us, hl with | [_, _, _], _ => rfl
theorem d_p_cleared (T : Top K mg) : DFn P w K mg base 3 "cleared" s_p_cleared ["found", "row"] [.f, .f] .o m_p_cleared :=
  dfn_of (N := ["found", "row", "here", "place", "pivot"]) [.f, .f, .f, .f, .f] [.f, .f, .f, .f, .f] T.f_p_cleared ⟨rfl, rfl, rfl, by decide, rfl, by decide, by decide⟩ rfl rfl (by decide) rfl (by first | exact .inl (.inl rfl) | exact .inl (.inr rfl) | exact .inr rfl) fun f cdv A outer s H E o =>
  ⟨_, (dss_cons (ds_set 2 o (de_var 1)) (dss_cons (ds_for o (di_seq (de_var 0)) (dg_tup o.calm (dgs_cons (dg_name 3 o.nd) (dgs_cons (dg_name 4 o.nd) dgs_nil))) (dss_one (ds_if (dt_cmp (o_ne o) (de_ix (de_var
    2) (de_var 3)) de_int) (dss_one (ds_set 2 o ((de_call (d_p_less T) o b_p_less (da_f (de_var 2) (da_f (de_var 4) (da_f (de_var 3) da_nil))))).toF)) dss_nil))) (dss_one (ds_ret (de_call (d_p_plain T) o
    b_p_plain (da_f (de_var 2) da_nil))))))⟩
theorem b_p_cleared : ∀ (kV doc pm : Value) (an : Option Addr) (cdv ct : Value) (us : List Value), us.length = 2 → bindArgs (PySem.W.fnOf "cleared" "cleared" (defArgs s_p_cleared) (defBody s_p_cleared) (defScope s_p_cleared) .none kV doc pm an cdv ct) ⟨us, []⟩ = pure ((["found", "row"] : List Str).zip us) := fun _ _ _ _ _ _ us hl => match us, hl with | [_, _], _ => rfl
theorem b_p_cleared_k : ∀ (kV doc pm : Value) (an : Option Addr) (cdv ct : Value) (us : List Value), us.length = 2 → bindArgs (PySem.W.fnOf "cleared" "cleared" (defArgs s_p_cleared) (defBody s_p_cleared) (defScope s_p_cleared) .none kV doc pm an cdv ct) ⟨[], (["found", "row"] : List Str).zip us⟩ = pure ((["found", "row"] : List Str).zip us) := fun _ _ _ _ _ _ us hl => match us, hl with | [_, _], _ => rfl
theorem d_p_echelon (T : Top K mg) : DFn P w K mg base 4 "echelon" s_p_echelon ["rows"] [.f] .t m_p_echelon :=
  dfn_of (N := ["rows", "found", "positions", "position", "row", "here", "place"]) [.f, .o, .o, .f, .f, .f, .f] [.f, .o, .o, .f, .f, .f, .f] T.f_p_echelon ⟨rfl, rfl, rfl, by decide, rfl, by decide, by decide⟩ rfl rfl (by decide) rfl (by first | exact .inl (.inl rfl) | exact .inl (.inr rfl) | exact .inr rfl) fun f cdv A outer s H E o =>
  ⟨_, (dss_cons (ds_par 1 2 o (de_lst da_nil) (de_lst da_nil)) (dss_cons (ds_for o (di_enum T.b_enumerate (da_f (de_var 0) da_nil)) (dg_tup o.calm (dgs_cons (dg_name 3 o.nd) (dgs_cons (dg_name 4 o.nd)
    dgs_nil))) (dss_cons (ds_set 5 o ((de_callL (d_p_cleared T) o b_p_cleared (da_b (de_varo 1) (da_f (de_var 4) da_nil)))).toF) (dss_cons (ds_set 6 o (de_call (d_p_lead_place T) o b_p_lead_place (da_f
    (de_var 5) da_nil))) (dss_one (ds_if (dt_cmp o_notN (de_var 6) de_non) (dss_cons (ds_app 1 (de_tup (da_f (de_var 6) (da_f (de_var 5) da_nil)))) (dss_one (ds_app 2 (de_var 3)))) dss_nil))))) (dss_one
    (ds_rett 1 2))))⟩
theorem b_p_echelon : ∀ (kV doc pm : Value) (an : Option Addr) (cdv ct : Value) (us : List Value), us.length = 1 → bindArgs (PySem.W.fnOf "echelon" "echelon" (defArgs s_p_echelon) (defBody s_p_echelon) (defScope s_p_echelon) .none kV doc pm an cdv ct) ⟨us, []⟩ = pure ((["rows"] : List Str).zip us) := fun _ _ _ _ _ _ us hl => match us, hl with | [_], _ => rfl
theorem b_p_echelon_k : ∀ (kV doc pm : Value) (an : Option Addr) (cdv ct : Value) (us : List Value), us.length = 1 → bindArgs (PySem.W.fnOf "echelon" "echelon" (defArgs s_p_echelon) (defBody s_p_echelon) (defScope s_p_echelon) .none kV doc pm an cdv ct) ⟨[], (["rows"] : List Str).zip us⟩ = pure ((["rows"] : List Str).zip us) := fun _ _ _ _ _ _ us hl => match us, hl with | [_], _ => rfl
theorem d_p_rank_of (T : Top K mg) : DFn P w K mg base 5 "rank_of" s_p_rank_of ["rows"] [.f] .f m_p_rank_of :=
  dfn_of (N := ["rows"]) [.f] [.f] T.f_p_rank_of ⟨rfl, rfl, rfl, by decide, rfl, by decide, by decide⟩ rfl rfl (by decide) rfl (by first | exact .inl (.inl rfl) | exact .inl (.inr rfl) | exact .inr rfl) fun f cdv A outer s H E o =>
  ⟨_, (dss_one (ds_ret (de_callB c_len T.b_len (da_b (de_ixT 0 (de_call (d_p_echelon T) o b_p_echelon (da_f (de_var 0) da_nil)) de_int) da_nil))))⟩
theorem b_p_rank_of : ∀ (kV doc pm : Value) (an : Option Addr) (cdv ct : Value) (us : List Value), us.length = 1 → bindArgs (PySem.W.fnOf "rank_of" "rank_of" (defArgs s_p_rank_of) (defBody s_p_rank_of) (defScope s_p_rank_of) .none kV doc pm an cdv ct) ⟨us, []⟩ = pure ((["rows"] : List Str).zip us) := fun _ _ _ _ _ _ us hl => match us, hl with | [_], _ => rfl
theorem b_p_rank_of_k : ∀ (kV doc pm : Value) (an : Option Addr) (cdv ct : Value) (us : List Value), us.length = 1 → bindArgs (PySem.W.fnOf "rank_of" "rank_of" (defArgs s_p_rank_of) (defBody s_p_rank_of) (defScope s_p_rank_of) .none kV doc pm an cdv ct) ⟨[], (["rows"] : List Str).zip us⟩ = pure ((["rows"] : List Str).zip us) := fun _ _ _ _ _ _ us hl => match us, hl with | [_], _ => rfl
theorem d_p_are_table (T : Top K mg) : DFn P w K mg base 6 "are_table" s_p_are_table ["value"] [.f] .f m_p_are_table :=
  dfn_of (N := ["value", "row", "number"]) [.f, .f, .f] [.f, .f, .f] T.f_p_are_table ⟨rfl, rfl, rfl, by decide, rfl, by decide, by decide⟩ rfl rfl (by decide) rfl (by first | exact .inl (.inl rfl) | exact .inl (.inr rfl) | exact .inr rfl) fun f cdv A outer s H E o =>
  ⟨_, (dss_cons (ds_if (DW.dt (dw_or (dt_not (dt_of (de_call (d_p_is_list T) o b_p_is_list (da_f (de_var 0) da_nil)))) (dw_or1 (dt_cmp (o_ne o) (de_callB c_len T.b_len (da_b (de_var 0) da_nil)) de_int))))
    (dss_one (ds_ret de_bl)) dss_nil) (dss_cons (ds_for o (di_seq (de_var 0)) (dg_name 1 o.nd) (dss_one (ds_if (DW.dt (dw_or (dt_not (dt_of (de_call (d_p_is_list T) o b_p_is_list (da_f (de_var 1)
    da_nil)))) (dw_or (dt_cmp (o_ne o) (de_callB c_len T.b_len (da_b (de_var 1) da_nil)) de_int) (dw_or1 (dt_not (dt_of (de_callB (c_all o) T.b_all (da_b (de_lc (own := [("number", 2)]) o (di_seq (de_var
    1)) (blk_of (by rfl)) (fun _ _ _ _ _ => ⟨_, (dg_name 2 (XOk.blk o).nd)⟩) (fun _ _ _ _ _ => ⟨_, dts_nil⟩) (fun _ _ _ _ _ => ⟨_, (de_call (d_p_is_integer T) (XOk.blk o) b_p_is_integer (da_f (de_var 2)
    da_nil))⟩)) da_nil)))))))) (dss_one (ds_ret de_bl)) dss_nil))) (dss_one (ds_ret (de_cmp (o_eq o) (de_call (d_p_rank_of T) o b_p_rank_of (da_f (de_var 0) da_nil)) de_int)))))⟩
theorem b_p_are_table : ∀ (kV doc pm : Value) (an : Option Addr) (cdv ct : Value) (us : List Value), us.length = 1 → bindArgs (PySem.W.fnOf "are_table" "are_table" (defArgs s_p_are_table) (defBody s_p_are_table) (defScope s_p_are_table) .none kV doc pm an cdv ct) ⟨us, []⟩ = pure ((["value"] : List Str).zip us) := fun _ _ _ _ _ _ us hl => match us, hl with | [_], _ => rfl
theorem b_p_are_table_k : ∀ (kV doc pm : Value) (an : Option Addr) (cdv ct : Value) (us : List Value), us.length = 1 → bindArgs (PySem.W.fnOf "are_table" "are_table" (defArgs s_p_are_table) (defBody s_p_are_table) (defScope s_p_are_table) .none kV doc pm an cdv ct) ⟨[], (["value"] : List Str).zip us⟩ = pure ((["value"] : List Str).zip us) := fun _ _ _ _ _ _ us hl => match us, hl with | [_], _ => rfl
theorem d_p_want_table (T : Top K mg) : DFn P w K mg base 7 "want_table" s_p_want_table ["value"] [.f] .f m_p_want_table :=
  dfn_of (N := ["value", "row"]) [.f, .f] [.f, .f] T.f_p_want_table ⟨rfl, rfl, rfl, by decide, rfl, by decide, by decide⟩ rfl rfl (by decide) rfl (by first | exact .inl (.inl rfl) | exact .inl (.inr rfl) | exact .inr rfl) fun f cdv A outer s H E o =>
  ⟨_, (dss_cons (ds_if (dt_not (dt_of (de_call (d_p_are_table T) o b_p_are_table (da_f (de_var 0) da_nil)))) (dss_one ds_never) dss_nil) (dss_one (ds_ret (de_callTy c_tuple T.b_tuple (da_b (de_lc (own :=
    [("row", 1)]) o (di_seq (de_var 0)) (blk_of (by rfl)) (fun _ _ _ _ _ => ⟨_, (dg_name 1 (XOk.blk o).nd)⟩) (fun _ _ _ _ _ => ⟨_, dts_nil⟩) (fun _ _ _ _ _ => ⟨_, (de_callTy c_tuple T.b_tuple (da_b
    (de_var 1) da_nil))⟩)) da_nil)))))⟩
theorem b_p_want_table : ∀ (kV doc pm : Value) (an : Option Addr) (cdv ct : Value) (us : List Value), us.length = 1 → bindArgs (PySem.W.fnOf "want_table" "want_table" (defArgs s_p_want_table) (defBody s_p_want_table) (defScope s_p_want_table) .none kV doc pm an cdv ct) ⟨us, []⟩ = pure ((["value"] : List Str).zip us) := fun _ _ _ _ _ _ us hl => match us, hl with | [_], _ => rfl
theorem b_p_want_table_k : ∀ (kV doc pm : Value) (an : Option Addr) (cdv ct : Value) (us : List Value), us.length = 1 → bindArgs (PySem.W.fnOf "want_table" "want_table" (defArgs s_p_want_table) (defBody s_p_want_table) (defScope s_p_want_table) .none kV doc pm an cdv ct) ⟨[], (["value"] : List Str).zip us⟩ = pure ((["value"] : List Str).zip us) := fun _ _ _ _ _ _ us hl => match us, hl with | [_], _ => rfl
theorem d_i_Told (T : Top K mg) : DMk P w K mg base 1 "Told" "Told.__init__" s_i_Told ["self", "points"] [.f] m_i_Told :=
  dmk_of (N := ["self", "points"]) [.u, .f] T.f_i_Told ⟨rfl, rfl, rfl, by decide, rfl, by decide, by decide⟩ rfl rfl (by decide) rfl (by decide) (by decide) fun f cdv A outer s H E o =>
  ⟨_, (din_fldC "Told" ["told_points"] T.cl_Told (de_var 1) din_nil)⟩
theorem b_i_Told : ∀ (kV doc pm : Value) (an : Option Addr) (cdv ct : Value) (us : List Value), us.length = 2 → bindArgs (PySem.W.fnOf "__init__" "Told.__init__" (defArgs s_i_Told) (defBody s_i_Told) (defScope s_i_Told) .none kV doc pm an cdv ct) ⟨us, []⟩ = pure ((["self", "points"] : List Str).zip us) := fun _ _ _ _ _ _ us hl => match us, hl with | [_, _], _ => rfl
theorem b_i_Told_k : ∀ (kV doc pm : Value) (an : Option Addr) (cdv ct : Value) (us : List Value), us.length = 2 → bindArgs (PySem.W.fnOf "__init__" "Told.__init__" (defArgs s_i_Told) (defBody s_i_Told) (defScope s_i_Told) .none kV doc pm an cdv ct) ⟨[], (["self", "points"] : List Str).zip us⟩ = pure ((["self", "points"] : List Str).zip us) := fun _ _ _ _ _ _ us hl => match us, hl with | [_, _], _ => rfl
theorem d_p_spots_by (T : Top K mg) : DFn P w K mg base 8 "spots_by" s_p_spots_by ["points"] [.f] .o m_p_spots_by :=
  dfn_of (N := ["points"]) [.f] [.f] T.f_p_spots_by ⟨rfl, rfl, rfl, by decide, rfl, by decide, by decide⟩ rfl rfl (by decide) rfl (by first | exact .inl (.inl rfl) | exact .inl (.inr rfl) | exact .inr rfl) fun f cdv A outer s H E o =>
  ⟨_, (dss_one (ds_ret (de_new (d_i_Spots T) o b_i_Spots (da_f ((de_new (d_i_Told T) o b_i_Told (da_f (de_var 0) da_nil))).toF da_nil))))⟩
theorem b_p_spots_by : ∀ (kV doc pm : Value) (an : Option Addr) (cdv ct : Value) (us : List Value), us.length = 1 → bindArgs (PySem.W.fnOf "spots_by" "spots_by" (defArgs s_p_spots_by) (defBody s_p_spots_by) (defScope s_p_spots_by) .none kV doc pm an cdv ct) ⟨us, []⟩ = pure ((["points"] : List Str).zip us) := fun _ _ _ _ _ _ us hl => match us, hl with | [_], _ => rfl
theorem b_p_spots_by_k : ∀ (kV doc pm : Value) (an : Option Addr) (cdv ct : Value) (us : List Value), us.length = 1 → bindArgs (PySem.W.fnOf "spots_by" "spots_by" (defArgs s_p_spots_by) (defBody s_p_spots_by) (defScope s_p_spots_by) .none kV doc pm an cdv ct) ⟨[], (["points"] : List Str).zip us⟩ = pure ((["points"] : List Str).zip us) := fun _ _ _ _ _ _ us hl => match us, hl with | [_], _ => rfl
theorem d_p_sum_of (T : Top K mg) : DFn P w K mg base 1 "sum_of" s_p_sum_of ["row", "other"] [.f, .f] .f m_p_sum_of :=
  dfn_of (N := ["row", "other", "near", "far"]) [.f, .f, .f, .f] [.f, .f, .f, .f] T.f_p_sum_of ⟨rfl, rfl, rfl, by decide, rfl, by decide, by decide⟩ rfl rfl (by decide) rfl (by first | exact .inl (.inl rfl) | exact .inl (.inr rfl) | exact .inr rfl) fun f cdv A outer s H E o =>
  ⟨_, (dss_one (ds_ret (de_callB (c_sum o) T.b_sum (da_b (de_lc (own := [("near", 2), ("far", 3)]) o (di_zip T.b_zip (da_f (de_var 0) (da_f (de_var 1) da_nil))) (blk_of (by rfl)) (fun _ _ _ _ _ => ⟨_,
    (dg_tup (XOk.blk o).calm (dgs_cons (dg_name 2 (XOk.blk o).nd) (dgs_cons (dg_name 3 (XOk.blk o).nd) dgs_nil)))⟩) (fun _ _ _ _ _ => ⟨_, dts_nil⟩) (fun _ _ _ _ _ => ⟨_, (de_bin o_mulA (de_var 2) (de_var
    3))⟩)) da_nil))))⟩
theorem b_p_sum_of : ∀ (kV doc pm : Value) (an : Option Addr) (cdv ct : Value) (us : List Value), us.length = 2 → bindArgs (PySem.W.fnOf "sum_of" "sum_of" (defArgs s_p_sum_of) (defBody s_p_sum_of) (defScope s_p_sum_of) .none kV doc pm an cdv ct) ⟨us, []⟩ = pure ((["row", "other"] : List Str).zip us) := fun _ _ _ _ _ _ us hl => match us, hl with | [_, _], _ => rfl
theorem b_p_sum_of_k : ∀ (kV doc pm : Value) (an : Option Addr) (cdv ct : Value) (us : List Value), us.length = 2 → bindArgs (PySem.W.fnOf "sum_of" "sum_of" (defArgs s_p_sum_of) (defBody s_p_sum_of) (defScope s_p_sum_of) .none kV doc pm an cdv ct) ⟨[], (["row", "other"] : List Str).zip us⟩ = pure ((["row", "other"] : List Str).zip us) := fun _ _ _ _ _ _ us hl => match us, hl with | [_, _], _ => rfl
theorem d_p_led_by (T : Top K mg) : DFn P w K mg base 5 "led_by" s_p_led_by ["rows", "point"] [.f, .f] .f m_p_led_by :=
  dfn_of (N := ["rows", "point", "row"]) [.f, .f, .f] [.f, .f, .f] T.f_p_led_by ⟨rfl, rfl, rfl, by decide, rfl, by decide, by decide⟩ rfl rfl (by decide) rfl (by first | exact .inl (.inl rfl) | exact .inl (.inr rfl) | exact .inr rfl) fun f cdv A outer s H E o =>
  ⟨_, (dss_one (ds_ret (de_call (d_p_told_of T) o b_p_told_of (da_f ((de_lc (own := [("row", 2)]) o (di_seq (de_var 0)) (blk_of (by rfl)) (fun _ _ _ _ _ => ⟨_, (dg_name 2 (XOk.blk o).nd)⟩) (fun _ _ _ _ _ =>
    ⟨_, dts_nil⟩) (fun _ _ _ _ _ => ⟨_, (de_call (d_p_sum_of T) (XOk.blk o) b_p_sum_of (da_f (de_var 2) (da_f (de_var 1) da_nil)))⟩))).toF da_nil))))⟩
theorem b_p_led_by : ∀ (kV doc pm : Value) (an : Option Addr) (cdv ct : Value) (us : List Value), us.length = 2 → bindArgs (PySem.W.fnOf "led_by" "led_by" (defArgs s_p_led_by) (defBody s_p_led_by) (defScope s_p_led_by) .none kV doc pm an cdv ct) ⟨us, []⟩ = pure ((["rows", "point"] : List Str).zip us) := fun _ _ _ _ _ _ us hl => match us, hl with | [_, _], _ => rfl
theorem b_p_led_by_k : ∀ (kV doc pm : Value) (an : Option Addr) (cdv ct : Value) (us : List Value), us.length = 2 → bindArgs (PySem.W.fnOf "led_by" "led_by" (defArgs s_p_led_by) (defBody s_p_led_by) (defScope s_p_led_by) .none kV doc pm an cdv ct) ⟨[], (["rows", "point"] : List Str).zip us⟩ = pure ((["rows", "point"] : List Str).zip us) := fun _ _ _ _ _ _ us hl => match us, hl with | [_, _], _ => rfl
theorem d_p_moved (T : Top K mg) : DFn P w K mg base 9 "moved" s_p_moved ["spots", "table"] [.f, .f] .o m_p_moved :=
  dfn_of (N := ["spots", "table", "rows", "point"]) [.f, .f, .f, .f] [.f, .f, .f, .f] T.f_p_moved ⟨rfl, rfl, rfl, by decide, rfl, by decide, by decide⟩ rfl rfl (by decide) rfl (by first | exact .inl (.inl rfl) | exact .inl (.inr rfl) | exact .inr rfl) fun f cdv A outer s H E o =>
  ⟨_, (dss_cons (ds_expr (de_call (d_p_want_spots T) o b_p_want_spots (da_f (de_var 0) da_nil))) (dss_cons (ds_set 2 o (de_call (d_p_want_table T) o b_p_want_table (da_f (de_var 1) da_nil))) (dss_one (ds_ret
    (de_call (d_p_spots_by T) o b_p_spots_by (da_f (de_callTy c_tuple T.b_tuple (da_b (de_lc (own := [("point", 3)]) o (di_seq (de_fld "Spots" ["own_points"] T.cl_Spots (de_var 0))) (blk_of (by rfl))
    (fun _ _ _ _ _ => ⟨_, (dg_name 3 (XOk.blk o).nd)⟩) (fun _ _ _ _ _ => ⟨_, dts_nil⟩) (fun _ _ _ _ _ => ⟨_, (de_call (d_p_led_by T) (XOk.blk o) b_p_led_by (da_f (de_var 2) (da_f (de_var 3) da_nil)))⟩))
    da_nil)) da_nil))))))⟩
theorem b_p_moved : ∀ (kV doc pm : Value) (an : Option Addr) (cdv ct : Value) (us : List Value), us.length = 2 → bindArgs (PySem.W.fnOf "moved" "moved" (defArgs s_p_moved) (defBody s_p_moved) (defScope s_p_moved) .none kV doc pm an cdv ct) ⟨us, []⟩ = pure ((["spots", "table"] : List Str).zip us) := fun _ _ _ _ _ _ us hl => match us, hl with | [_, _], _ => rfl
theorem b_p_moved_k : ∀ (kV doc pm : Value) (an : Option Addr) (cdv ct : Value) (us : List Value), us.length = 2 → bindArgs (PySem.W.fnOf "moved" "moved" (defArgs s_p_moved) (defBody s_p_moved) (defScope s_p_moved) .none kV doc pm an cdv ct) ⟨[], (["spots", "table"] : List Str).zip us⟩ = pure ((["spots", "table"] : List Str).zip us) := fun _ _ _ _ _ _ us hl => match us, hl with | [_, _], _ => rfl
theorem d_p_powers_of (T : Top K mg) : DFn P w K mg base 1 "powers_of" s_p_powers_of ["number", "most"] [.f, .f] .f m_p_powers_of :=
  dfn_of (N := ["number", "most", "two", "three", "low", "found", "turn"]) [.f, .f, .f, .f, .o, .o, .f] [.f, .f, .f, .f, .u, .f, .f] T.f_p_powers_of ⟨rfl, rfl, rfl, by decide, rfl, by decide, by decide⟩ rfl rfl (by decide) rfl (by first | exact .inl (.inl rfl) | exact .inl (.inr rfl) | exact .inr rfl) fun f cdv A outer s H E o =>
  ⟨_, (dss_cons (ds_par 2 3 o (de_bin o_mulA (de_var 0) (de_var 0)) (de_bin o_mulA (de_bin o_mulA (de_var 0) (de_var 0)) (de_var 0))) (dss_cons (ds_set 4 o (de_lst (da_f de_int (da_f (de_var 0) (da_f (de_var
    2) (da_f (de_var 3) (da_f (de_bin o_mulA (de_var 2) (de_var 2)) (da_f (de_bin o_mulA (de_var 2) (de_var 3)) (da_f (de_bin o_mulA (de_var 3) (de_var 3)) da_nil))))))))) (dss_cons (ds_if (dt_cmp o_lt
    (de_var 1) (de_callB c_len T.b_len (da_b (de_varo 4) da_nil))) (dss_one (ds_ret (de_slice (de_varo 4) do_none (do_some (de_bin o_add (de_var 1) de_int))))) dss_nil) (dss_moveFor 4 5 o (di_range1
    T.b_range (da_f (de_bin o_sub (de_bin o_add (de_var 1) de_int) (de_callB c_len T.b_len (da_b (de_varo 4) da_nil))) da_nil)) (dg_name 6 o.nd) (dss_one (ds_app 5 (de_bin o_mulA (de_ix (de_varo 5)
    (de_un o_neg de_int)) (de_var 0)))) (dss_frz 5 (dss_one (ds_ret (de_var 5))))))))⟩
theorem b_p_powers_of : ∀ (kV doc pm : Value) (an : Option Addr) (cdv ct : Value) (us : List Value), us.length = 2 → bindArgs (PySem.W.fnOf "powers_of" "powers_of" (defArgs s_p_powers_of) (defBody s_p_powers_of) (defScope s_p_powers_of) .none kV doc pm an cdv ct) ⟨us, []⟩ = pure ((["number", "most"] : List Str).zip us) := fun _ _ _ _ _ _ us hl => match us, hl with | [_, _], _ => rfl
theorem b_p_powers_of_k : ∀ (kV doc pm : Value) (an : Option Addr) (cdv ct : Value) (us : List Value), us.length = 2 → bindArgs (PySem.W.fnOf "powers_of" "powers_of" (defArgs s_p_powers_of) (defBody s_p_powers_of) (defScope s_p_powers_of) .none kV doc pm an cdv ct) ⟨[], (["number", "most"] : List Str).zip us⟩ = pure ((["number", "most"] : List Str).zip us) := fun _ _ _ _ _ _ us hl => match us, hl with | [_, _], _ => rfl
theorem d_p_triples_of (T : Top K mg) : DFn P w K mg base 1 "triples_of" s_p_triples_of ["degree"] [.f] .f m_p_triples_of :=
  dfn_of (N := ["degree", "found", "first", "second"]) [.f, .o, .f, .f] [.f, .o, .f, .f] T.f_p_triples_of ⟨rfl, rfl, rfl, by decide, rfl, by decide, by decide⟩ rfl rfl (by decide) rfl (by first | exact .inl (.inl rfl) | exact .inl (.inr rfl) | exact .inr rfl) fun f cdv A outer s H E o =>
  ⟨_, (dss_cons (ds_set 1 o (de_lst da_nil)) (dss_cons (ds_for o (di_rangeDn T.b_range (da_f (de_var 0) (da_f (de_un o_neg de_int) (da_f (de_un o_neg de_int) da_nil)))) (dg_name 2 o.nd) (dss_one (ds_ext 1
    (de_lc (own := [("second", 3)]) o (di_rangeDn T.b_range (da_f (de_bin o_sub (de_var 0) (de_var 2)) (da_f (de_un o_neg de_int) (da_f (de_un o_neg de_int) da_nil)))) (blk_of (by rfl)) (fun _ _ _ _ _ =>
    ⟨_, (dg_name 3 (XOk.blk o).nd)⟩) (fun _ _ _ _ _ => ⟨_, dts_nil⟩) (fun _ _ _ _ _ => ⟨_, (de_tup (da_f (de_var 2) (da_f (de_var 3) (da_f (de_bin o_sub (de_bin o_sub (de_var 0) (de_var 2)) (de_var 3))
    da_nil))))⟩))))) (dss_one (ds_ret (de_callTy c_tuple T.b_tuple (da_b (de_varo 1) da_nil))))))⟩
theorem b_p_triples_of : ∀ (kV doc pm : Value) (an : Option Addr) (cdv ct : Value) (us : List Value), us.length = 1 → bindArgs (PySem.W.fnOf "triples_of" "triples_of" (defArgs s_p_triples_of) (defBody s_p_triples_of) (defScope s_p_triples_of) .none kV doc pm an cdv ct) ⟨us, []⟩ = pure ((["degree"] : List Str).zip us) := fun _ _ _ _ _ _ us hl => match us, hl with | [_], _ => rfl
theorem b_p_triples_of_k : ∀ (kV doc pm : Value) (an : Option Addr) (cdv ct : Value) (us : List Value), us.length = 1 → bindArgs (PySem.W.fnOf "triples_of" "triples_of" (defArgs s_p_triples_of) (defBody s_p_triples_of) (defScope s_p_triples_of) .none kV doc pm an cdv ct) ⟨[], (["degree"] : List Str).zip us⟩ = pure ((["degree"] : List Str).zip us) := fun _ _ _ _ _ _ us hl => match us, hl with | [_], _ => rfl
theorem d_p_letters_at (T : Top K mg) : DFn P w K mg base 2 "letters_at" s_p_letters_at ["point", "degree"] [.f, .f] .o m_p_letters_at :=
  dfn_of (N := ["point", "degree", "first", "second", "third", "number", "i", "j", "k"]) [.f, .f, .f, .f, .f, .f, .f, .f, .f] [.f, .f, .f, .f, .f, .f, .f, .f, .f] T.f_p_letters_at ⟨rfl, rfl, rfl, by decide, rfl, by decide, by decide⟩ rfl rfl (by decide) rfl (by first | exact .inl (.inl rfl) | exact .inl (.inr rfl) | exact .inr rfl) fun f cdv A outer s H E o =>
  ⟨_, (dss_cons (ds_unp ((de_lc (own := [("number", 5)]) o (di_seq (de_var 0)) (blk_of (by rfl)) (fun _ _ _ _ _ => ⟨_, (dg_name 5 (XOk.blk o).nd)⟩) (fun _ _ _ _ _ => ⟨_, dts_nil⟩) (fun _ _ _ _ _ => ⟨_,
    (de_call (d_p_powers_of T) (XOk.blk o) b_p_powers_of (da_f (de_var 5) (da_f (de_var 1) da_nil)))⟩))).toF (dg_lst o.calm (dgs_cons (dg_name 2 o.nd) (dgs_cons (dg_name 3 o.nd) (dgs_cons (dg_name 4
    o.nd) dgs_nil))))) (dss_one (ds_ret (de_lc (own := [("i", 6), ("j", 7), ("k", 8)]) o (di_seq (de_call (d_p_triples_of T) o b_p_triples_of (da_f (de_var 1) da_nil))) (blk_of (by rfl)) (fun _ _ _ _ _
    => ⟨_, (dg_tup (XOk.blk o).calm (dgs_cons (dg_name 6 (XOk.blk o).nd) (dgs_cons (dg_name 7 (XOk.blk o).nd) (dgs_cons (dg_name 8 (XOk.blk o).nd) dgs_nil))))⟩) (fun _ _ _ _ _ => ⟨_, dts_nil⟩) (fun _ _ _
    _ _ => ⟨_, (de_bin o_mulA (de_bin o_mulA (de_ix (de_var 2) (de_var 6)) (de_ix (de_var 3) (de_var 7))) (de_ix (de_var 4) (de_var 8)))⟩)))))⟩
theorem b_p_letters_at : ∀ (kV doc pm : Value) (an : Option Addr) (cdv ct : Value) (us : List Value), us.length = 2 → bindArgs (PySem.W.fnOf "letters_at" "letters_at" (defArgs s_p_letters_at) (defBody s_p_letters_at) (defScope s_p_letters_at) .none kV doc pm an cdv ct) ⟨us, []⟩ = pure ((["point", "degree"] : List Str).zip us) := fun _ _ _ _ _ _ us hl => match us, hl with | [_, _], _ => rfl
theorem b_p_letters_at_k : ∀ (kV doc pm : Value) (an : Option Addr) (cdv ct : Value) (us : List Value), us.length = 2 → bindArgs (PySem.W.fnOf "letters_at" "letters_at" (defArgs s_p_letters_at) (defBody s_p_letters_at) (defScope s_p_letters_at) .none kV doc pm an cdv ct) ⟨[], (["point", "degree"] : List Str).zip us⟩ = pure ((["point", "degree"] : List Str).zip us) := fun _ _ _ _ _ _ us hl => match us, hl with | [_, _], _ => rfl
theorem d_p_condition_rows (T : Top K mg) : DFn P w K mg base 3 "condition_rows" s_p_condition_rows ["points", "degree"] [.f, .f] .o m_p_condition_rows :=
  dfn_of (N := ["points", "degree", "point"]) [.f, .f, .f] [.f, .f, .f] T.f_p_condition_rows ⟨rfl, rfl, rfl, by decide, rfl, by decide, by decide⟩ rfl rfl (by decide) rfl (by first | exact .inl (.inl rfl) | exact .inl (.inr rfl) | exact .inr rfl) fun f cdv A outer s H E o =>
  ⟨_, (dss_one (ds_ret (de_lc (own := [("point", 2)]) o (di_seq (de_var 0)) (blk_of (by rfl)) (fun _ _ _ _ _ => ⟨_, (dg_name 2 (XOk.blk o).nd)⟩) (fun _ _ _ _ _ => ⟨_, dts_nil⟩) (fun _ _ _ _ _ => ⟨_,
    ((de_call (d_p_letters_at T) (XOk.blk o) b_p_letters_at (da_f (de_var 2) (da_f (de_var 1) da_nil)))).toF⟩))))⟩
theorem b_p_condition_rows : ∀ (kV doc pm : Value) (an : Option Addr) (cdv ct : Value) (us : List Value), us.length = 2 → bindArgs (PySem.W.fnOf "condition_rows" "condition_rows" (defArgs s_p_condition_rows) (defBody s_p_condition_rows) (defScope s_p_condition_rows) .none kV doc pm an cdv ct) ⟨us, []⟩ = pure ((["points", "degree"] : List Str).zip us) := fun _ _ _ _ _ _ us hl => match us, hl with | [_, _], _ => rfl
theorem b_p_condition_rows_k : ∀ (kV doc pm : Value) (an : Option Addr) (cdv ct : Value) (us : List Value), us.length = 2 → bindArgs (PySem.W.fnOf "condition_rows" "condition_rows" (defArgs s_p_condition_rows) (defBody s_p_condition_rows) (defScope s_p_condition_rows) .none kV doc pm an cdv ct) ⟨[], (["points", "degree"] : List Str).zip us⟩ = pure ((["points", "degree"] : List Str).zip us) := fun _ _ _ _ _ _ us hl => match us, hl with | [_, _], _ => rfl
theorem d_p_rank_at (T : Top K mg) : DFn P w K mg base 6 "rank_at" s_p_rank_at ["points", "degree"] [.f, .f] .f m_p_rank_at :=
  dfn_of (N := ["points", "degree"]) [.f, .f] [.f, .f] T.f_p_rank_at ⟨rfl, rfl, rfl, by decide, rfl, by decide, by decide⟩ rfl rfl (by decide) rfl (by first | exact .inl (.inl rfl) | exact .inl (.inr rfl) | exact .inr rfl) fun f cdv A outer s H E o =>
  ⟨_, (dss_one (ds_ret (de_call (d_p_rank_of T) o b_p_rank_of (da_f ((de_call (d_p_condition_rows T) o b_p_condition_rows (da_f (de_var 0) (da_f (de_var 1) da_nil)))).toF da_nil))))⟩
theorem b_p_rank_at : ∀ (kV doc pm : Value) (an : Option Addr) (cdv ct : Value) (us : List Value), us.length = 2 → bindArgs (PySem.W.fnOf "rank_at" "rank_at" (defArgs s_p_rank_at) (defBody s_p_rank_at) (defScope s_p_rank_at) .none kV doc pm an cdv ct) ⟨us, []⟩ = pure ((["points", "degree"] : List Str).zip us) := fun _ _ _ _ _ _ us hl => match us, hl with | [_, _], _ => rfl
theorem b_p_rank_at_k : ∀ (kV doc pm : Value) (an : Option Addr) (cdv ct : Value) (us : List Value), us.length = 2 → bindArgs (PySem.W.fnOf "rank_at" "rank_at" (defArgs s_p_rank_at) (defBody s_p_rank_at) (defScope s_p_rank_at) .none kV doc pm an cdv ct) ⟨[], (["points", "degree"] : List Str).zip us⟩ = pure ((["points", "degree"] : List Str).zip us) := fun _ _ _ _ _ _ us hl => match us, hl with | [_, _], _ => rfl
theorem d_p_row_by (T : Top K mg) : DFn P w K mg base 7 "row_by" s_p_row_by ["points"] [.f] .o m_p_row_by :=
  dfn_of (N := ["points", "found", "last", "degree", "here"]) [.f, .o, .f, .f, .f] [.f, .o, .f, .f, .f] T.f_p_row_by ⟨rfl, rfl, rfl, by decide, rfl, by decide, by decide⟩ rfl rfl (by decide) rfl (by first | exact .inl (.inl rfl) | exact .inl (.inr rfl) | exact .inr rfl) fun f cdv A outer s H E o =>
  ⟨_, (dss_cons (ds_par 1 2 o (de_lst da_nil) de_int) (dss_cons (ds_for o (di_range1 T.b_range (da_f (de_bin o_add (de_glob T.c_MOST_END fun _ => .int _) de_int) da_nil)) (dg_name 3 o.nd) (dss_cons (ds_set 4
    o (de_call (d_p_rank_at T) o b_p_rank_at (da_f (de_var 0) (da_f (de_var 3) da_nil)))) (dss_cons (ds_app 1 (de_bin o_sub (de_var 4) (de_var 2))) (dss_cons (ds_if (dt_cmp (o_eq o) (de_var 4) (de_callB
    c_len T.b_len (da_b (de_var 0) da_nil))) (dss_one (ds_reto 1)) dss_nil) (dss_one (ds_set 2 o (de_var 4))))))) (dss_one ds_never)))⟩
theorem b_p_row_by : ∀ (kV doc pm : Value) (an : Option Addr) (cdv ct : Value) (us : List Value), us.length = 1 → bindArgs (PySem.W.fnOf "row_by" "row_by" (defArgs s_p_row_by) (defBody s_p_row_by) (defScope s_p_row_by) .none kV doc pm an cdv ct) ⟨us, []⟩ = pure ((["points"] : List Str).zip us) := fun _ _ _ _ _ _ us hl => match us, hl with | [_], _ => rfl
theorem b_p_row_by_k : ∀ (kV doc pm : Value) (an : Option Addr) (cdv ct : Value) (us : List Value), us.length = 1 → bindArgs (PySem.W.fnOf "row_by" "row_by" (defArgs s_p_row_by) (defBody s_p_row_by) (defScope s_p_row_by) .none kV doc pm an cdv ct) ⟨[], (["points"] : List Str).zip us⟩ = pure ((["points"] : List Str).zip us) := fun _ _ _ _ _ _ us hl => match us, hl with | [_], _ => rfl
theorem d_p_row (T : Top K mg) : DFn P w K mg base 8 "row" s_p_row ["spots"] [.f] .o m_p_row :=
  dfn_of (N := ["spots"]) [.f] [.f] T.f_p_row ⟨rfl, rfl, rfl, by decide, rfl, by decide, by decide⟩ rfl rfl (by decide) rfl (by first | exact .inl (.inl rfl) | exact .inl (.inr rfl) | exact .inr rfl) fun f cdv A outer s H E o =>
  ⟨_, (dss_cons (ds_expr (de_call (d_p_want_spots T) o b_p_want_spots (da_f (de_var 0) da_nil))) (dss_one (ds_ret (de_call (d_p_row_by T) o b_p_row_by (da_f (de_fld "Spots" ["own_points"] T.cl_Spots (de_var
    0)) da_nil)))))⟩
theorem b_p_row : ∀ (kV doc pm : Value) (an : Option Addr) (cdv ct : Value) (us : List Value), us.length = 1 → bindArgs (PySem.W.fnOf "row" "row" (defArgs s_p_row) (defBody s_p_row) (defScope s_p_row) .none kV doc pm an cdv ct) ⟨us, []⟩ = pure ((["spots"] : List Str).zip us) := fun _ _ _ _ _ _ us hl => match us, hl with | [_], _ => rfl
theorem b_p_row_k : ∀ (kV doc pm : Value) (an : Option Addr) (cdv ct : Value) (us : List Value), us.length = 1 → bindArgs (PySem.W.fnOf "row" "row" (defArgs s_p_row) (defBody s_p_row) (defScope s_p_row) .none kV doc pm an cdv ct) ⟨[], (["spots"] : List Str).zip us⟩ = pure ((["spots"] : List Str).zip us) := fun _ _ _ _ _ _ us hl => match us, hl with | [_], _ => rfl
theorem d_p_end (T : Top K mg) : DFn P w K mg base 8 "end" s_p_end ["spots"] [.f] .f m_p_end :=
  dfn_of (N := ["spots"]) [.f] [.f] T.f_p_end ⟨rfl, rfl, rfl, by decide, rfl, by decide, by decide⟩ rfl rfl (by decide) rfl (by first | exact .inl (.inl rfl) | exact .inl (.inr rfl) | exact .inr rfl) fun f cdv A outer s H E o =>
  ⟨_, (dss_cons (ds_expr (de_call (d_p_want_spots T) o b_p_want_spots (da_f (de_var 0) da_nil))) (dss_one (ds_ret (de_bin o_sub (de_callB c_len T.b_len (da_b (de_call (d_p_row_by T) o b_p_row_by (da_f
    (de_fld "Spots" ["own_points"] T.cl_Spots (de_var 0)) da_nil)) da_nil)) de_int))))⟩
theorem b_p_end : ∀ (kV doc pm : Value) (an : Option Addr) (cdv ct : Value) (us : List Value), us.length = 1 → bindArgs (PySem.W.fnOf "end" "end" (defArgs s_p_end) (defBody s_p_end) (defScope s_p_end) .none kV doc pm an cdv ct) ⟨us, []⟩ = pure ((["spots"] : List Str).zip us) := fun _ _ _ _ _ _ us hl => match us, hl with | [_], _ => rfl
theorem b_p_end_k : ∀ (kV doc pm : Value) (an : Option Addr) (cdv ct : Value) (us : List Value), us.length = 1 → bindArgs (PySem.W.fnOf "end" "end" (defArgs s_p_end) (defBody s_p_end) (defScope s_p_end) .none kV doc pm an cdv ct) ⟨[], (["spots"] : List Str).zip us⟩ = pure ((["spots"] : List Str).zip us) := fun _ _ _ _ _ _ us hl => match us, hl with | [_], _ => rfl
theorem d_p_want_degree (T : Top K mg) : DFnD P w K mg base 3 "want_degree" s_p_want_degree ["value", "most", "least"] [.f, .f, .f] .f [.int 0] m_p_want_degree :=
  dfn_ofD (N := ["value", "most", "least"]) [.f, .f, .f] [.f, .f, .f] T.f_p_want_degree ⟨rfl, rfl, rfl, by decide, rfl, by decide, by decide⟩ rfl rfl (by decide) rfl (by first | exact .inl (.inl rfl) | exact .inl (.inr rfl) | exact .inr rfl) fun f cdv A outer s H E o =>
  ⟨_, (dss_one (ds_if (DW.dt (dw_or (dt_not (dt_of (de_call (d_p_is_count T) o b_p_is_count (da_f (de_var 0) da_nil)))) (dw_or (dt_cmp o_lt (de_var 0) (de_var 2)) (dw_or1 (dt_cmp o_gt (de_var 0) (de_var
    1)))))) (dss_one ds_never) dss_nil))⟩
theorem d_p_want_both (T : Top K mg) : DFn P w K mg base 4 "want_both" s_p_want_both ["spots", "degree"] [.f, .f] .f m_p_want_both :=
  dfn_of (N := ["spots", "degree"]) [.f, .f] [.f, .f] T.f_p_want_both ⟨rfl, rfl, rfl, by decide, rfl, by decide, by decide⟩ rfl rfl (by decide) rfl (by first | exact .inl (.inl rfl) | exact .inl (.inr rfl) | exact .inr rfl) fun f cdv A outer s H E o =>
  ⟨_, (dss_cons (ds_expr (de_call (d_p_want_spots T) o b_p_want_spots (da_f (de_var 0) da_nil))) (dss_one (ds_expr (de_callD (ks := [.f, .f]) 2 0 (d_p_want_degree T) o (fun _ _ _ _ _ _ _ us its h1 h2 =>
    match us, its, h1, h2 with | [_, _], [_], _, _ => ⟨_, rfl, rfl⟩) (da_f (de_var 1) (da_f (de_glob T.c_MOST_DEGREE fun _ => .int _) da_nil))))))⟩
theorem b_p_want_both : ∀ (kV doc pm : Value) (an : Option Addr) (cdv ct : Value) (us : List Value), us.length = 2 → bindArgs (PySem.W.fnOf "want_both" "want_both" (defArgs s_p_want_both) (defBody s_p_want_both) (defScope s_p_want_both) .none kV doc pm an cdv ct) ⟨us, []⟩ = pure ((["spots", "degree"] : List Str).zip us) := fun _ _ _ _ _ _ us hl => match us, hl with | [_, _], _ => rfl
theorem b_p_want_both_k : ∀ (kV doc pm : Value) (an : Option Addr) (cdv ct : Value) (us : List Value), us.length = 2 → bindArgs (PySem.W.fnOf "want_both" "want_both" (defArgs s_p_want_both) (defBody s_p_want_both) (defScope s_p_want_both) .none kV doc pm an cdv ct) ⟨[], (["spots", "degree"] : List Str).zip us⟩ = pure ((["spots", "degree"] : List Str).zip us) := fun _ _ _ _ _ _ us hl => match us, hl with | [_, _], _ => rfl
theorem d_p_conditions (T : Top K mg) : DFn P w K mg base 7 "conditions" s_p_conditions ["spots", "degree"] [.f, .f] .f m_p_conditions :=
  dfn_of (N := ["spots", "degree"]) [.f, .f] [.f, .f] T.f_p_conditions ⟨rfl, rfl, rfl, by decide, rfl, by decide, by decide⟩ rfl rfl (by decide) rfl (by first | exact .inl (.inl rfl) | exact .inl (.inr rfl) | exact .inr rfl) fun f cdv A outer s H E o =>
  ⟨_, (dss_cons (ds_expr (de_call (d_p_want_both T) o b_p_want_both (da_f (de_var 0) (da_f (de_var 1) da_nil)))) (dss_one (ds_ret (de_call (d_p_rank_at T) o b_p_rank_at (da_f (de_fld "Spots" ["own_points"]
    T.cl_Spots (de_var 0)) (da_f (de_var 1) da_nil))))))⟩
theorem b_p_conditions : ∀ (kV doc pm : Value) (an : Option Addr) (cdv ct : Value) (us : List Value), us.length = 2 → bindArgs (PySem.W.fnOf "conditions" "conditions" (defArgs s_p_conditions) (defBody s_p_conditions) (defScope s_p_conditions) .none kV doc pm an cdv ct) ⟨us, []⟩ = pure ((["spots", "degree"] : List Str).zip us) := fun _ _ _ _ _ _ us hl => match us, hl with | [_, _], _ => rfl
theorem b_p_conditions_k : ∀ (kV doc pm : Value) (an : Option Addr) (cdv ct : Value) (us : List Value), us.length = 2 → bindArgs (PySem.W.fnOf "conditions" "conditions" (defArgs s_p_conditions) (defBody s_p_conditions) (defScope s_p_conditions) .none kV doc pm an cdv ct) ⟨[], (["spots", "degree"] : List Str).zip us⟩ = pure ((["spots", "degree"] : List Str).zip us) := fun _ _ _ _ _ _ us hl => match us, hl with | [_, _], _ => rfl
theorem d_p_many_through (T : Top K mg) : DFn P w K mg base 7 "many_through" s_p_many_through ["points", "degree"] [.f, .f] .f m_p_many_through :=
  dfn_of (N := ["points", "degree"]) [.f, .f] [.f, .f] T.f_p_many_through ⟨rfl, rfl, rfl, by decide, rfl, by decide, by decide⟩ rfl rfl (by decide) rfl (by first | exact .inl (.inl rfl) | exact .inl (.inr rfl) | exact .inr rfl) fun f cdv A outer s H E o =>
  ⟨_, (dss_one (ds_ret (de_bin o_sub (de_callB c_len T.b_len (da_b (de_call (d_p_triples_of T) o b_p_triples_of (da_f (de_var 1) da_nil)) da_nil)) (de_call (d_p_rank_at T) o b_p_rank_at (da_f (de_var 0)
    (da_f (de_var 1) da_nil))))))⟩
theorem b_p_many_through : ∀ (kV doc pm : Value) (an : Option Addr) (cdv ct : Value) (us : List Value), us.length = 2 → bindArgs (PySem.W.fnOf "many_through" "many_through" (defArgs s_p_many_through) (defBody s_p_many_through) (defScope s_p_many_through) .none kV doc pm an cdv ct) ⟨us, []⟩ = pure ((["points", "degree"] : List Str).zip us) := fun _ _ _ _ _ _ us hl => match us, hl with | [_, _], _ => rfl
theorem b_p_many_through_k : ∀ (kV doc pm : Value) (an : Option Addr) (cdv ct : Value) (us : List Value), us.length = 2 → bindArgs (PySem.W.fnOf "many_through" "many_through" (defArgs s_p_many_through) (defBody s_p_many_through) (defScope s_p_many_through) .none kV doc pm an cdv ct) ⟨[], (["points", "degree"] : List Str).zip us⟩ = pure ((["points", "degree"] : List Str).zip us) := fun _ _ _ _ _ _ us hl => match us, hl with | [_, _], _ => rfl
theorem d_p_top_of (T : Top K mg) : DFn P w K mg base 8 "top_of" s_p_top_of ["points"] [.f] .f m_p_top_of :=
  dfn_of (N := ["points", "degree"]) [.f, .f] [.f, .f] T.f_p_top_of ⟨rfl, rfl, rfl, by decide, rfl, by decide, by decide⟩ rfl rfl (by decide) rfl (by first | exact .inl (.inl rfl) | exact .inl (.inr rfl) | exact .inr rfl) fun f cdv A outer s H E o =>
  ⟨_, (dss_cons (ds_set 1 o de_int) (dss_cons (ds_while o (dt_cmp (o_eq o) (de_call (d_p_many_through T) o b_p_many_through (da_f (de_var 0) (da_f (de_var 1) da_nil))) de_int) (dss_one (ds_set 1 o (de_bin
    o_add (de_var 1) de_int)))) (dss_one (ds_ret (de_var 1)))))⟩
theorem b_p_top_of : ∀ (kV doc pm : Value) (an : Option Addr) (cdv ct : Value) (us : List Value), us.length = 1 → bindArgs (PySem.W.fnOf "top_of" "top_of" (defArgs s_p_top_of) (defBody s_p_top_of) (defScope s_p_top_of) .none kV doc pm an cdv ct) ⟨us, []⟩ = pure ((["points"] : List Str).zip us) := fun _ _ _ _ _ _ us hl => match us, hl with | [_], _ => rfl
theorem b_p_top_of_k : ∀ (kV doc pm : Value) (an : Option Addr) (cdv ct : Value) (us : List Value), us.length = 1 → bindArgs (PySem.W.fnOf "top_of" "top_of" (defArgs s_p_top_of) (defBody s_p_top_of) (defScope s_p_top_of) .none kV doc pm an cdv ct) ⟨[], (["points"] : List Str).zip us⟩ = pure ((["points"] : List Str).zip us) := fun _ _ _ _ _ _ us hl => match us, hl with | [_], _ => rfl
theorem d_p_top (T : Top K mg) : DFn P w K mg base 9 "top" s_p_top ["spots"] [.f] .f m_p_top :=
  dfn_of (N := ["spots"]) [.f] [.f] T.f_p_top ⟨rfl, rfl, rfl, by decide, rfl, by decide, by decide⟩ rfl rfl (by decide) rfl (by first | exact .inl (.inl rfl) | exact .inl (.inr rfl) | exact .inr rfl) fun f cdv A outer s H E o =>
  ⟨_, (dss_cons (ds_expr (de_call (d_p_want_spots T) o b_p_want_spots (da_f (de_var 0) da_nil))) (dss_one (ds_ret (de_call (d_p_top_of T) o b_p_top_of (da_f (de_fld "Spots" ["own_points"] T.cl_Spots (de_var
    0)) da_nil)))))⟩
theorem b_p_top : ∀ (kV doc pm : Value) (an : Option Addr) (cdv ct : Value) (us : List Value), us.length = 1 → bindArgs (PySem.W.fnOf "top" "top" (defArgs s_p_top) (defBody s_p_top) (defScope s_p_top) .none kV doc pm an cdv ct) ⟨us, []⟩ = pure ((["spots"] : List Str).zip us) := fun _ _ _ _ _ _ us hl => match us, hl with | [_], _ => rfl
theorem b_p_top_k : ∀ (kV doc pm : Value) (an : Option Addr) (cdv ct : Value) (us : List Value), us.length = 1 → bindArgs (PySem.W.fnOf "top" "top" (defArgs s_p_top) (defBody s_p_top) (defScope s_p_top) .none kV doc pm an cdv ct) ⟨[], (["spots"] : List Str).zip us⟩ = pure ((["spots"] : List Str).zip us) := fun _ _ _ _ _ _ us hl => match us, hl with | [_], _ => rfl
theorem d_l_top (T : Top K mg) : DFn P w K mg base 1 "_law_top" s_l_top ["_law_numbers"] [.f] .f m_l_top :=
  dfn_of (N := ["_law_numbers", "_law_at", "_law_number"]) [.f, .f, .f] [.f, .f, .f] T.f_l_top ⟨rfl, rfl, rfl, by decide, rfl, by decide, by decide⟩ rfl rfl (by decide) rfl (by first | exact .inl (.inl rfl) | exact .inl (.inr rfl) | exact .inr rfl) fun f cdv A outer s H E o =>
  ⟨_, (dss_cons (ds_for o (di_enum T.b_enumerate (da_f (de_var 0) da_nil)) (dg_tup o.calm (dgs_cons (dg_name 1 o.nd) (dgs_cons (dg_name 2 o.nd) dgs_nil))) (dss_one (ds_if (dt_cmp (o_ne o) (de_var 2) (de_bin
    o_add (de_var 1) de_int)) (dss_one (ds_ret (de_var 1))) dss_nil))) (dss_one (ds_ret (de_callB c_len T.b_len (da_b (de_var 0) da_nil)))))⟩
theorem b_l_top : ∀ (kV doc pm : Value) (an : Option Addr) (cdv ct : Value) (us : List Value), us.length = 1 → bindArgs (PySem.W.fnOf "_law_top" "_law_top" (defArgs s_l_top) (defBody s_l_top) (defScope s_l_top) .none kV doc pm an cdv ct) ⟨us, []⟩ = pure ((["_law_numbers"] : List Str).zip us) := fun _ _ _ _ _ _ us hl => match us, hl with | [_], _ => rfl
theorem b_l_top_k : ∀ (kV doc pm : Value) (an : Option Addr) (cdv ct : Value) (us : List Value), us.length = 1 → bindArgs (PySem.W.fnOf "_law_top" "_law_top" (defArgs s_l_top) (defBody s_l_top) (defScope s_l_top) .none kV doc pm an cdv ct) ⟨[], (["_law_numbers"] : List Str).zip us⟩ = pure ((["_law_numbers"] : List Str).zip us) := fun _ _ _ _ _ _ us hl => match us, hl with | [_], _ => rfl
theorem d_l_right (T : Top K mg) : DFn P w K mg base 10 "_law_right" s_l_right ["_law_pot_here"] [.p] .f m_l_right :=
  dfn_of (N := ["_law_pot_here", "_law_numbers", "_law_given", "_law_kept", "_law_spots", "_law_points_here", "_law_first", "_law_second", "_law_last", "_law_table", "_law_some", "_law_degree", "_law_told"]) [.p, .f, .f, .f, .f, .f, .f, .f, .f, .f, .f, .f, .f] [.p, .f, .f, .f, .f, .f, .f, .f, .f, .f, .f, .f, .f] T.f_l_right ⟨rfl, rfl, rfl, by decide, rfl, by decide, by decide⟩ rfl rfl (by decide) rfl (by first | exact .inl (.inl rfl) | exact .inl (.inr rfl) | exact .inr rfl) fun f cdv A outer s H E o =>
  ⟨_, (dss_cons (ds_set 1 o ((de_call (d_l_row T) o b_l_row (da_p 0 (da_f de_int da_nil)))).toF) (dss_cons (ds_set 2 o (de_call (d_l_passed T) o b_l_passed (da_p 0 (da_f (de_var 1) da_nil)))) (dss_cons
    (ds_par 3 4 o (de_callB (c_repr o) T.b_repr (da_b (de_var 2) da_nil)) ((de_call (d_p_stair T) o b_p_stair (da_f (de_var 2) da_nil))).toF) (dss_cons (ds_set 5 o ((de_call (d_l_points T) o b_l_points
    (da_f (de_var 1) da_nil))).toF) (dss_cons (ds_if (DW.dt (dw_or (dt_not (dt_of (de_isC ["Spots", "Told"] T.ci_Spots T.b_isinstance (de_var 4)))) (dw_or (dt_cmp (o_ne o) (de_meth0 (d_c_Spots_points T)
    o b_c_Spots_points (de_var 4)) (de_var 5)) (dw_or (dt_cmp (o_ne o) (de_prop (d_c_Spots_size T) o b_c_Spots_size (de_var 4)) (de_callB (c_sum o) T.b_sum (da_b (de_var 1) da_nil))) (dw_or1 (dt_neO
    [("Spots", m_c_Spots___eq__)] (o_ne o) (.cons (op_own (d_c_Spots___eq__ T) T.eq_Spots o b_c_Spots___eq__) .nil) ((de_callK (d_p_stair T) o b_p_stair_k (dk_f (de_var 2) dk_nil))).toF (de_var 4)))))))
    (dss_one (ds_ret de_bl)) dss_nil) (dss_cons (ds_for o (di_seq (de_var 5)) (dg_tup o.calm (dgs_cons (dg_name 6 o.nd) (dgs_cons (dg_name 7 o.nd) (dgs_cons (dg_name 8 o.nd) dgs_nil)))) (dss_one (ds_if
    (DW.dt (dw_or (DW.dt (dw_and (dt_cmp o_gt (de_var 6) de_int) (dw_and1 (dt_cmp (o_notInA o) (de_tup (da_f (de_bin o_sub (de_var 6) de_int) (da_f (de_var 7) (da_f de_int da_nil)))) (de_var 5)))))
    (dw_or1 (DW.dt (dw_and (dt_cmp o_gt (de_var 7) de_int) (dw_and1 (dt_cmp (o_notInA o) (de_tup (da_f (de_var 6) (da_f (de_bin o_sub (de_var 7) de_int) (da_f de_int da_nil)))) (de_var 5)))))))) (dss_one
    (ds_ret de_bl)) dss_nil))) (dss_cons (ds_set 9 o (de_call (d_l_pick T) o b_l_pick (da_p 0 (da_f ((de_lst (da_f (de_tup (da_f (de_tup (da_f de_int (da_f de_int (da_f de_int da_nil)))) (da_f (de_tup
    (da_f de_int (da_f de_int (da_f de_int da_nil)))) (da_f (de_tup (da_f de_int (da_f de_int (da_f de_int da_nil)))) da_nil)))) (da_f (de_tup (da_f (de_tup (da_f de_int (da_f de_int (da_f de_int
    da_nil)))) (da_f (de_tup (da_f de_int (da_f de_int (da_f de_int da_nil)))) (da_f (de_tup (da_f de_int (da_f de_int (da_f de_int da_nil)))) da_nil)))) (da_f (de_tup (da_f (de_tup (da_f de_int (da_f
    de_int (da_f de_int da_nil)))) (da_f (de_tup (da_f de_int (da_f de_int (da_f de_int da_nil)))) (da_f (de_tup (da_f de_int (da_f de_int (da_f de_int da_nil)))) da_nil)))) da_nil))))).toF da_nil))))
    (dss_cons (ds_for o (di_seq ((de_lst (da_f (de_var 4) (da_f ((de_call (d_p_moved T) o b_p_moved (da_f (de_var 4) (da_f (de_var 9) da_nil)))).toF da_nil)))).toF) (dg_name 10 o.nd) (dss_cons (ds_set 12
    o ((de_call (d_p_row T) o b_p_row (da_f (de_var 10) da_nil))).toF) (dss_one (ds_if (DW.dt (dw_or (dt_cmp (o_ne o) (de_var 12) (de_var 1)) (dw_or (dt_cmp o_notB (de_call (d_p_is_row T) o b_p_is_row
    (da_f (de_var 12) da_nil)) de_bl) (dw_or1 (dt_cmp (o_ne o) (de_call (d_p_top T) o b_p_top (da_f (de_var 10) da_nil)) (de_call (d_l_top T) o b_l_top (da_f (de_var 1) da_nil))))))) (dss_one (ds_ret
    de_bl)) dss_nil)))) (dss_cons (ds_set 11 o (de_call (d_l_draw T) o b_l_draw (da_p 0 (da_f (de_callB c_len T.b_len (da_b (de_var 1) da_nil)) da_nil)))) (dss_cons (ds_if (DW.dt (dw_or (dt_cmp (o_ne o)
    (de_call (d_p_end T) o b_p_end (da_f (de_var 4) da_nil)) (de_bin o_sub (de_callB c_len T.b_len (da_b (de_var 1) da_nil)) de_int)) (dw_or1 (dt_cmp (o_ne o) (de_call (d_p_conditions T) o b_p_conditions
    (da_f (de_var 4) (da_f (de_var 11) da_nil))) (de_callB (c_sum o) T.b_sum (da_b (de_slice (de_var 1) do_none (do_some (de_bin o_add (de_var 11) de_int))) da_nil)))))) (dss_one (ds_ret de_bl)) dss_nil)
    (dss_one (ds_ret (de_cmp (o_eq o) (de_callB (c_repr o) T.b_repr (da_b (de_var 2) da_nil)) (de_var 3))))))))))))))⟩
theorem b_l_right : ∀ (kV doc pm : Value) (an : Option Addr) (cdv ct : Value) (us : List Value), us.length = 1 → bindArgs (PySem.W.fnOf "_law_right" "_law_right" (defArgs s_l_right) (defBody s_l_right) (defScope s_l_right) .none kV doc pm an cdv ct) ⟨us, []⟩ = pure ((["_law_pot_here"] : List Str).zip us) := fun _ _ _ _ _ _ us hl => match us, hl with | [_], _ => rfl
theorem b_l_right_k : ∀ (kV doc pm : Value) (an : Option Addr) (cdv ct : Value) (us : List Value), us.length = 1 → bindArgs (PySem.W.fnOf "_law_right" "_law_right" (defArgs s_l_right) (defBody s_l_right) (defScope s_l_right) .none kV doc pm an cdv ct) ⟨[], (["_law_pot_here"] : List Str).zip us⟩ = pure ((["_law_pot_here"] : List Str).zip us) := fun _ _ _ _ _ _ us hl => match us, hl with | [_], _ => rfl
theorem d_l_pot (T : Top K mg) : DFn P w K mg base 1 "_law_pot" s_l_pot ["_law_script", "_law_k"] [.s, .f] .o m_l_pot :=
  dfn_of (N := ["_law_script", "_law_k", "_law_cell"]) [.s, .f, .f] [.s, .f, .f] T.f_l_pot ⟨rfl, rfl, rfl, by decide, rfl, by decide, by decide⟩ rfl rfl (by decide) rfl (by first | exact .inl (.inl rfl) | exact .inl (.inr rfl) | exact .inr rfl) fun f cdv A outer s H E o =>
  ⟨_, (dss_cons (ds_set 2 o (de_bin o_add (de_bin o_mulA de_int (de_var 1)) de_int)) (dss_cons (ds_if (dt_cmp o_lt (de_var 1) (de_callB c_lenS T.b_len (da_s 0 da_nil))) (dss_one (ds_set 2 o (de_callB c_abs
    T.b_abs (da_b (de_six 0 (de_var 1)) da_nil)))) dss_nil) (dss_one (ds_ret (de_lst (da_f (de_callB (c_max2 o) T.b_max (da_b de_int (da_b (de_bin o_sub (de_var 2) (de_bin o_pow de_int de_int)) da_nil)))
    (da_f (de_bin o_add (de_bin o_mod (de_callTy c_int T.b_int (da_b (de_bin o_add (de_bin o_add (de_bin o_mulA (de_bin o_mod (de_callTy c_int T.b_int (da_b (de_var 2) da_nil)) de_int) de_int) (de_bin
    o_mulA de_int (de_var 1))) de_int) da_nil)) de_int) de_int) da_nil)))))))⟩
theorem b_l_pot : ∀ (kV doc pm : Value) (an : Option Addr) (cdv ct : Value) (us : List Value), us.length = 2 → bindArgs (PySem.W.fnOf "_law_pot" "_law_pot" (defArgs s_l_pot) (defBody s_l_pot) (defScope s_l_pot) .none kV doc pm an cdv ct) ⟨us, []⟩ = pure ((["_law_script", "_law_k"] : List Str).zip us) := fun _ _ _ _ _ _ us hl => match us, hl with | [_, _], _ => rfl
theorem b_l_pot_k : ∀ (kV doc pm : Value) (an : Option Addr) (cdv ct : Value) (us : List Value), us.length = 2 → bindArgs (PySem.W.fnOf "_law_pot" "_law_pot" (defArgs s_l_pot) (defBody s_l_pot) (defScope s_l_pot) .none kV doc pm an cdv ct) ⟨[], (["_law_script", "_law_k"] : List Str).zip us⟩ = pure ((["_law_script", "_law_k"] : List Str).zip us) := fun _ _ _ _ _ _ us hl => match us, hl with | [_, _], _ => rfl
theorem d_law_ (T : Top K mg) : DFn P w K mg base 11 "law" s_law_ ["_law_script"] [.s] .f m_law_ :=
  dfn_of (N := ["_law_script"]) [.s] [.s] T.f_law_ ⟨rfl, rfl, rfl, by decide, rfl, by decide, by decide⟩ rfl rfl (by decide) rfl (by first | exact .inl (.inl rfl) | exact .inl (.inr rfl) | exact .inr rfl) fun f cdv A outer s H E o =>
  ⟨_, (dss_one (ds_ret (de_callPot (d_l_right T) o b_l_right (de_call (d_l_pot T) o b_l_pot (da_s 0 (da_f de_int da_nil))))))⟩
theorem b_law_ : ∀ (kV doc pm : Value) (an : Option Addr) (cdv ct : Value) (us : List Value), us.length = 1 → bindArgs (PySem.W.fnOf "law" "law" (defArgs s_law_) (defBody s_law_) (defScope s_law_) .none kV doc pm an cdv ct) ⟨us, []⟩ = pure ((["_law_script"] : List Str).zip us) := fun _ _ _ _ _ _ us hl => match us, hl with | [_], _ => rfl
theorem b_law__k : ∀ (kV doc pm : Value) (an : Option Addr) (cdv ct : Value) (us : List Value), us.length = 1 → bindArgs (PySem.W.fnOf "law" "law" (defArgs s_law_) (defBody s_law_) (defScope s_law_) .none kV doc pm an cdv ct) ⟨[], (["_law_script"] : List Str).zip us⟩ = pure ((["_law_script"] : List Str).zip us) := fun _ _ _ _ _ _ us hl => match us, hl with | [_], _ => rfl
end
end LW

set_option maxHeartbeats 2000000
/-! Reckoning with data functions. -/
namespace DL
open PySem PySem.Spec PyProof.Rows L2

/-! ### all that unfolds -/
theorem runD_ok {n : Nat} {r : Rm} {fs : Fs} {ds : List D} {π π' : Pot} {d : D} (h : fs (startD n ds) π = .ok (.rt d, π')) : runD n r fs ds π = .ok (d, π') := by
  unfold runD
  rw [h]
  rfl
theorem sl_is : sizeLine = 16777216 := sizeLine_eq
theorem sSeq_nx {a b : Fs} {ρ ρ' : Rho} {π π' : Pot} (h : a ρ π = .ok (.nx ρ', π')) : sSeq a b ρ π = b ρ' π' := by
  unfold sSeq
  rw [h]
  rfl
theorem sSeq_rt {a b : Fs} {ρ : Rho} {d : D} {π π' : Pot} (h : a ρ π = .ok (.rt d, π')) : sSeq a b ρ π = .ok (.rt d, π') := by
  unfold sSeq
  rw [h]
  rfl
/-! ### comprehensions, pure -/
theorem lcGo_filter {α : Type} {enc : α → D} {fg : D → Rho → Option Rho} {ft : Et} {fe : Ed} {ρ : Rho} {π : Pot} {ρ1 : α → Rho} {p : α → Bool} {g : α → D} : ∀ {xs : List α}, (∀ x ∈ xs, fg (enc x) ρ = some (ρ1 x)) → (∀ x ∈ xs, ft (ρ1 x) π = .ok (p x, π)) → (∀ x ∈ xs, p x = true → fe (ρ1 x) π = .ok (g x, π)) →
    lcGo fg ft fe ρ (xs.map enc) π = .ok ((xs.filter p).map g, π)
  | [], _, _, _ => rfl
  | x :: xs, h1, h2, h3 => by
    have ih := lcGo_filter (xs := xs) (fun y hy => h1 y (List.mem_cons_of_mem _ hy)) (fun y hy => h2 y (List.mem_cons_of_mem _ hy)) (fun y hy => h3 y (List.mem_cons_of_mem _ hy))
    simp only [List.map_cons, lcGo, h1 x (List.mem_cons_self ..), ofO_some, Res.bind_ok, h2 x (List.mem_cons_self ..), safe_ok]
    cases hp : p x with
    | true =>
      rw [List.filter_cons, if_pos hp, List.map_cons]
      simp only [if_true, h3 x (List.mem_cons_self ..) hp, safe_ok, Res.bind_ok, ih]
    | false =>
      simp only [Bool.false_eq_true, if_false, ih, List.filter_cons, hp]
theorem lcGo_map {α : Type} {enc : α → D} {fg : D → Rho → Option Rho} {fe : Ed} {ρ : Rho} {π : Pot} {ρ1 : α → Rho} {g : α → D} {xs : List α} (h1 : ∀ x ∈ xs, fg (enc x) ρ = some (ρ1 x)) (h3 : ∀ x ∈ xs, fe (ρ1 x) π = .ok (g x, π)) :
    lcGo fg tTrue fe ρ (xs.map enc) π = .ok (xs.map g, π) := by
  have := lcGo_filter (ft := tTrue) (p := fun _ => true) h1 (fun x hx => rfl) (fun x hx _ => h3 x hx)
  rwa [List.filter_eq_self.mpr (fun _ _ => rfl)] at this
/-- with a pot that turns -/
theorem lcGo_pot {α : Type} {enc : α → D} {fg : D → Rho → Option Rho} {fe : Ed} {ρ : Rho} {ρ1 : α → Rho} {P : α → D → Prop} : ∀ {xs : List α} {π : Pot}, (∀ x ∈ xs, fg (enc x) ρ = some (ρ1 x)) → (∀ x ∈ xs, ∀ π, ∃ d π', fe (ρ1 x) π = .ok (d, π') ∧ P x d) →
    ∃ (ds : List D) (π' : Pot), lcGo fg tTrue fe ρ (xs.map enc) π = .ok (ds, π') ∧ ds.length = xs.length ∧ ∀ (i : Nat) (x : α) (d : D), xs[i]? = some x → ds[i]? = some d → P x d
  | [], π, _, _ => ⟨[], π, rfl, rfl, fun i x d h => by simp at h⟩
  | x :: xs, π, h1, h2 => by
    obtain ⟨d, π1, e1, p1⟩ := h2 x (List.mem_cons_self ..) π
    obtain ⟨ds, π2, e2, l2, p2⟩ := lcGo_pot (xs := xs) (π := π1) (fun y hy => h1 y (List.mem_cons_of_mem _ hy)) (fun y hy => h2 y (List.mem_cons_of_mem _ hy))
    refine ⟨d :: ds, π2, ?_, by simp [l2], fun i y z hy hz => ?_⟩
    · simp only [List.map_cons, lcGo, h1 x (List.mem_cons_self ..), ofO_some, Res.bind_ok, tTrue, safe_ok, if_true, e1, e2]
    · cases i with
      | zero =>
        simp at hy hz
        subst hy hz
        exact p1
      | succ i => exact p2 i y z (by simpa using hy) (by simpa using hz)
/-! ### draws -/
def step1 (b : Int) : Int := (b * 39373 + 7013) % 2147483587
/-- what is drawn below n -/
def drawV (n : Int) (π : Pot) : Int := if 0 < π.1 then π.1 % n else (step1 π.2 * step1 π.2 % 2147483563 / 17) % n
def drawP (n : Int) (π : Pot) : Pot := if 0 < π.1 then (π.1 / n, π.2) else (π.1, step1 π.2)
theorem drawV_range {n : Int} (π : Pot) (h : 0 < n) : 0 ≤ drawV n π ∧ drawV n π < n := by
  unfold drawV
  split
  · exact ⟨Int.emod_nonneg _ (by omega), Int.emod_lt_of_pos _ h⟩
  · exact ⟨Int.emod_nonneg _ (by omega), Int.emod_lt_of_pos _ h⟩
theorem divOk_small {i j : Int} (h : 0 < j) (h2 : j < 1073741824) : divOk i j = true := by
  unfold divOk Builtin.divisionGoesByPylong
  have e : j.natAbs.log2 < 30 := by
    rw [Nat.log2_lt (by omega)]
    omega
  have e2 : (if (j == 0) = true then 0 else j.natAbs.log2 / 30 + 1) ≤ 300 := by
    split <;> omega
  simp only [Bool.and_eq_true, decide_eq_true_eq, Bool.not_eq_true', Bool.and_eq_false_imp]
  refine ⟨h, fun q => ?_⟩
  omega
theorem opFdivW_s {i j : Int} (h : 0 < j) (h2 : j < 1152921504606846976) : opFdivW (.int i) (.int j) = some (.int (i / j)) := by
  unfold opFdivW
  have e : j.natAbs.log2 < 9000 := by
    have : j.natAbs.log2 < 60 := by
      rw [Nat.log2_lt (by omega)]
      omega
    omega
  simp [h, e]
theorem opMod_s {i j : Int} (h : 0 < j) : opMod (.int i) (.int j) = some (.int (i % j)) := by
  simp [opMod, h]
theorem opMulA_l {i j : Int} (h : -18446744073709551616 < i) (h2 : i < 18446744073709551616) : opMulA (.int i) (.int j) = some (.int (i * j)) := by
  simp [opMulA, small, h, h2]
theorem opMulA_r {i j : Int} (h : -18446744073709551616 < j) (h2 : j < 18446744073709551616) : opMulA (.int i) (.int j) = some (.int (i * j)) := by
  simp [opMulA, small, h, h2]
theorem step1_range (b : Int) : 0 ≤ step1 b ∧ step1 b < 2147483587 := ⟨Int.emod_nonneg _ (by decide), Int.emod_lt_of_pos _ (by decide)⟩
theorem small_of {i : Int} (h : -18446744073709551616 < i) (h2 : i < 18446744073709551616) : small i = true := by
  unfold small
  simp [h, h2]

/-! ### equality -/
mutual
def plainD : D → Bool
  | .non | .bl _ | .int _ => true
  | .str x => PyData.strOk x
  | .lst xs | .tup xs => plainL xs
  | _ => false
def plainL : List D → Bool
  | [] => true
  | x :: xs => plainD x && plainL xs
def deepD : D → Nat
  | .lst xs | .tup xs => deepL xs + 1
  | _ => 0
def deepL : List D → Nat
  | [] => 0
  | x :: xs => max (deepD x) (deepL xs)
end
mutual
theorem plain_py : ∀ {d : D}, plainD d = true → ∃ p, toPy d = some p ∧ p.canLay0 = true ∧ p.depth = deepD d
  | .non, _ => ⟨_, rfl, rfl, rfl⟩
  | .bl _, _ => ⟨_, rfl, rfl, rfl⟩
  | .int _, _ => ⟨_, rfl, rfl, rfl⟩
  | .str x, h => ⟨_, rfl, (by simpa [PyData.canLay0, plainD] using h), rfl⟩
  | .lst xs, h => by
    obtain ⟨ps, h1, h2, h3⟩ := plain_pyL (xs := xs) (by simpa [plainD] using h)
    exact ⟨.list ps, by simp [toPy, h1], by simpa [PyData.canLay0] using h2, by simp [PyData.depth, deepD, h3]⟩
  | .tup xs, h => by
    obtain ⟨ps, h1, h2, h3⟩ := plain_pyL (xs := xs) (by simpa [plainD] using h)
    exact ⟨.tuple ps, by simp [toPy, h1], by simpa [PyData.canLay0] using h2, by simp [PyData.depth, deepD, h3]⟩
  | .dic _ _, h => by cases h
  | .ins _ _ _, h => by cases h
theorem plain_pyL : ∀ {xs : List D}, plainL xs = true → ∃ ps, toPyL xs = some ps ∧ PyData.canLayAll0 ps = true ∧ PyData.depthAll ps = deepL xs
  | [], _ => ⟨[], rfl, rfl, rfl⟩
  | x :: xs, h => by
    simp only [plainL, Bool.and_eq_true] at h
    obtain ⟨p, h1, h2, h3⟩ := plain_py h.1
    obtain ⟨ps, h4, h5, h6⟩ := plain_pyL h.2
    exact ⟨p :: ps, by simp [toPyL, h1, h4], by simp [PyData.canLayAll0, h2, h5], by simp [PyData.depthAll, deepL, h3, h6]⟩
end
/-- data that may be held against other data -/
def cmpOk (d : D) : Bool := plainD d && decide (deepD d ≤ 64)
theorem eqP_refl {d : D} (h : cmpOk d = true) : eqP d d = some true := by
  unfold cmpOk at h
  simp only [Bool.and_eq_true, decide_eq_true_eq] at h
  obtain ⟨p, h1, h2, h3⟩ := plain_py h.1
  unfold eqP
  rw [h1]
  simp [SeqAt.shaped, h2, h3, h.2, SeqAt.eqv_refl p h2]
theorem eqD_refl {d : D} (h : cmpOk d = true) : eqD d d = some true := by
  unfold eqD
  split
  · rename_i h2
    simp_all
  · rename_i h2
    simp_all
  · exact eqP_refl h
theorem eqD_str (z : Str) : eqD (.str z) (.str z) = some true := by simp [eqD]
theorem opEq_refl {d : D} (h : cmpOk d = true) : opEq d d = some (.bl true) := by simp [opEq, eqD_refl h]
theorem opNe_refl {d : D} (h : cmpOk d = true) : opNe d d = some (.bl false) := by simp [opNe, eqD_refl h]

/-! ### what can be shown -/
mutual
def wideD : D → Nat
  | .non => 4
  | .bl _ => 5
  | .int i => i.natAbs.log2 + 2
  | .str x => (reprText x).length
  | .lst xs => wideL xs + 2
  | .tup xs => wideL xs + 3
  | _ => 0
def wideL : List D → Nat
  | [] => 0
  | x :: xs => wideD x + 2 + wideL xs
def showB : D → Bool
  | .non | .bl _ | .str _ => true
  | .int i => decide (i.natAbs.log2 < 1920)
  | .lst xs | .tup xs => showL xs
  | _ => false
def showL : List D → Bool
  | [] => true
  | x :: xs => showB x && showL xs
end
theorem text_from : ∀ (ts : List Str) (k : Nat) (acc : Str), (textFrom k acc ts).length ≤ acc.length + piled ts
  | [], k, acc => by simp [textFrom]
  | t :: ts, k, acc => by
    have ih := text_from ts (k + 1) (acc ++ (if k > 0 then ", " else "" : String) ++ t)
    have e : (((if k > 0 then ", " else "" : String) : Str)).length ≤ 2 := by split <;> decide
    rw [PySem.strLen_append, PySem.strLen_append] at ih
    rw [piled_cons]
    show (textFrom (k + 1) (acc ++ (if k > 0 then ", " else "" : String) ++ t) ts).length ≤ _
    omega
theorem list_text (ts : List Str) : (listText ts).length ≤ piled ts + 2 := by
  unfold listText
  rw [PySem.strLen_append]
  have := text_from ts 0 "["
  have e1 : (("[" : String) : Str).length = 1 := rfl
  have e2 : (("]" : String) : Str).length = 1 := rfl
  omega
theorem tup_text (ts : List Str) : (tupleText ts).length ≤ piled ts + 3 := by
  unfold tupleText
  rw [PySem.strLen_append, PySem.strLen_append]
  have e1 : (("(" : String) : Str).length = 1 := rfl
  have e2 : (((if (ts.length == 1) = true then ",)" else ")" : String) : Str)).length ≤ 2 := by split <;> decide
  cases ts with
  | nil =>
    have : (Str.join ", " ([] : List Str)).length = 0 := rfl
    omega
  | cons t r =>
    have := join_length_add (t :: r) (by simp)
    omega
mutual
theorem show_py : ∀ {d : D}, showB d = true → ∃ p, toPy d = some p ∧ p.showable = true ∧ p.hasDict = false ∧ p.depth = deepD d ∧ p.shown.length ≤ wideD d
  | .non, _ => ⟨_, rfl, rfl, rfl, rfl, by decide⟩
  | .bl b, _ => ⟨_, rfl, rfl, rfl, rfl, by cases b <;> decide⟩
  | .int i, h => ⟨_, rfl, (by simpa [PyData.showable, showB] using h), rfl, rfl, by
      have := int_text_length_le (a := i) (k := i.natAbs.log2 + 1) (by omega) (by omega)
      have e : (PyData.int i).shown.length = (toString i).length := by
        show (Str.ofString (toString i)).length = _
        exact PySem.ofString_length _
      rw [e]
      show _ ≤ i.natAbs.log2 + 2
      omega⟩
  | .str x, h => ⟨_, rfl, rfl, rfl, rfl, Nat.le_refl _⟩
  | .lst xs, h => by
    obtain ⟨ps, h1, h2, h3, h4, h5⟩ := show_pyL (xs := xs) (by simpa [showB] using h)
    refine ⟨.list ps, by simp [toPy, h1], by simpa [PyData.showable] using h2, by simpa [PyData.hasDict] using h3, by simp [PyData.depth, deepD, h4], ?_⟩
    have := list_text (PyData.shownAll ps)
    show (PyData.shown (.list ps)).length ≤ wideL xs + 2
    rw [PyData.shown]
    omega
  | .tup xs, h => by
    obtain ⟨ps, h1, h2, h3, h4, h5⟩ := show_pyL (xs := xs) (by simpa [showB] using h)
    refine ⟨.tuple ps, by simp [toPy, h1], by simpa [PyData.showable] using h2, by simpa [PyData.hasDict] using h3, by simp [PyData.depth, deepD, h4], ?_⟩
    have := tup_text (PyData.shownAll ps)
    show (PyData.shown (.tuple ps)).length ≤ wideL xs + 3
    rw [PyData.shown]
    omega
  | .dic _ _, h => by cases h
  | .ins _ _ _, h => by cases h
theorem show_pyL : ∀ {xs : List D}, showL xs = true → ∃ ps, toPyL xs = some ps ∧ PyData.showableAll ps = true ∧ PyData.hasDictAll ps = false ∧ PyData.depthAll ps = deepL xs ∧ piled (PyData.shownAll ps) ≤ wideL xs
  | [], _ => ⟨[], rfl, rfl, rfl, rfl, Nat.le_refl _⟩
  | x :: xs, h => by
    simp only [showL, Bool.and_eq_true] at h
    obtain ⟨p, h1, h2, h3, h4, h5⟩ := show_py h.1
    obtain ⟨ps, g1, g2, g3, g4, g5⟩ := show_pyL h.2
    refine ⟨p :: ps, by simp [toPyL, h1, g1], by simp [PyData.showableAll, h2, g2], by simp [PyData.hasDictAll, h3, g3], by simp [PyData.depthAll, deepL, h4, g4], ?_⟩
    rw [PyData.shownAll, piled_cons]
    show _ ≤ wideD x + 2 + wideL xs
    omega
end
def shOk (d : D) : Bool := showB d && decide (deepD d ≤ 60) && decide (wideD d ≤ 16777216)
theorem showD_ok {d : D} (h : shOk d = true) : ∃ z, showD d = some z := by
  unfold shOk at h
  simp only [Bool.and_eq_true, decide_eq_true_eq] at h
  obtain ⟨⟨h1, h2⟩, h3⟩ := h
  obtain ⟨p, e, g1, g2, g3, g4⟩ := show_py h1
  refine ⟨p.shown, ?_⟩
  unfold showD
  rw [e]
  have : p.depth ≤ 60 := by omega
  have : p.shown.length ≤ sizeLine := by rw [sizeLine_eq]; omega
  simp [*]
theorem wide_iz : ∀ {ns : List Int} {b : Nat}, (∀ n ∈ ns, n.natAbs.log2 ≤ b) → wideL (ns.map D.int) ≤ ns.length * (b + 4)
  | [], b, _ => by simp [wideL]
  | n :: ns, b, h => by
    have ih := wide_iz (ns := ns) (fun m hm => h m (List.mem_cons_of_mem _ hm))
    have := h n (List.mem_cons_self ..)
    show n.natAbs.log2 + 2 + 2 + wideL (ns.map D.int) ≤ (ns.length + 1) * (b + 4)
    rw [Nat.add_mul]
    omega
theorem show_iz : ∀ {ns : List Int}, (∀ n ∈ ns, n.natAbs.log2 < 1920) → showL (ns.map D.int) = true
  | [], _ => rfl
  | n :: ns, h => by
    show (decide (n.natAbs.log2 < 1920) && showL (ns.map D.int)) = true
    rw [show_iz fun m hm => h m (List.mem_cons_of_mem _ hm)]
    simp [h n (List.mem_cons_self ..)]
theorem deep_iz : ∀ (ns : List Int), deepL (ns.map D.int) = 0
  | [] => rfl
  | n :: ns => by
    show max 0 (deepL (ns.map D.int)) = 0
    rw [deep_iz ns]
    rfl
theorem plain_iz : ∀ (ns : List Int), plainL (ns.map D.int) = true
  | [] => rfl
  | n :: ns => by
    show (true && plainL (ns.map D.int)) = true
    rw [plain_iz ns]
    rfl
theorem cmpOk_iz (ns : List Int) : cmpOk (.lst (ns.map D.int)) = true := by simp [cmpOk, plainD, plain_iz, deepD, deep_iz]
theorem sh_iz {ns : List Int} {b : Nat} (hb : b < 1920) (h : ∀ n ∈ ns, n.natAbs.log2 ≤ b) (hl : ns.length ≤ 8000) : shOk (.lst (ns.map D.int)) = true ∧ shOk (.tup (ns.map D.int)) = true := by
  have h1 := wide_iz h
  have h2 := show_iz (ns := ns) fun n hn => Nat.lt_of_le_of_lt (h n hn) hb
  have h3 : ns.length * (b + 4) ≤ 8000 * 1924 := Nat.mul_le_mul hl (by omega)
  constructor
  · simp only [shOk, showB, deepD, wideD, h2, deep_iz, Bool.true_and, Bool.and_eq_true, decide_eq_true_eq]
    exact ⟨by omega, decide_eq_true (by omega)⟩
  · simp only [shOk, showB, deepD, wideD, h2, deep_iz, Bool.true_and, Bool.and_eq_true, decide_eq_true_eq]
    exact ⟨by omega, decide_eq_true (by omega)⟩
end DL

set_option maxHeartbeats 2000000
/-! Meanings, applied. -/
namespace DL
open PySem PySem.Spec PyProof.Rows L2

@[simp] theorem eVar_ap (i : Nat) (ρ : Rho) (π : Pot) : eVar i ρ π = match ρ[i]? with
  | some (some d) => .ok (d, π)
  | _ => .stuck := rfl
@[simp] theorem eC_ap (d : D) (ρ : Rho) (π : Pot) : eC d ρ π = .ok (d, π) := rfl
@[simp] theorem eBin_ap (g : D → D → Option D) (a b : Ed) (ρ : Rho) (π : Pot) : eBin g a b ρ π = (a ρ π).bind fun x => (b ρ x.2).bind fun y => (ofO (g x.1 y.1)).bind fun z => .ok (z, y.2) := rfl
@[simp] theorem eUn_ap (g : D → Option D) (a : Ed) (ρ : Rho) (π : Pot) : eUn g a ρ π = (a ρ π).bind fun x => (ofO (g x.1)).bind fun z => .ok (z, x.2) := rfl
@[simp] theorem eAnd_ap (a b : Ed) (ρ : Rho) (π : Pot) : eAnd a b ρ π = (a ρ π).bind fun x => (ofO (truth x.1)).bind fun k => if k = true then b ρ x.2 else .ok x := rfl
@[simp] theorem eOr_ap (a b : Ed) (ρ : Rho) (π : Pot) : eOr a b ρ π = (a ρ π).bind fun x => (ofO (truth x.1)).bind fun k => if k = true then .ok x else b ρ x.2 := rfl
@[simp] theorem eNot_ap (a : Ed) (ρ : Rho) (π : Pot) : eNot a ρ π = (a ρ π).bind fun x => (ofO (truth x.1)).bind fun k => .ok (.bl (!k), x.2) := rfl
@[simp] theorem eIf_ap (t : Et) (a b : Ed) (ρ : Rho) (π : Pot) : eIf t a b ρ π = (t ρ π).bind fun x => if x.1 = true then a ρ x.2 else b ρ x.2 := rfl
@[simp] theorem aNil_ap (ρ : Rho) (π : Pot) : aNil  ρ π = .ok ([], π) := rfl
@[simp] theorem aCons_ap (a : Ed) (b : Ea) (ρ : Rho) (π : Pot) : aCons a b ρ π = (a ρ π).bind fun x => (b ρ x.2).bind fun y => .ok (x.1 :: y.1, y.2) := rfl
@[simp] theorem eTup_ap (a : Ea) (ρ : Rho) (π : Pot) : eTup a ρ π = (a ρ π).bind fun x => if x.1.length ≤ sizeLine then .ok (.tup x.1, x.2) else .stuck := rfl
@[simp] theorem eLst_ap (a : Ea) (ρ : Rho) (π : Pot) : eLst a ρ π = (a ρ π).bind fun x => if x.1.length ≤ sizeLine then .ok (.lst x.1, x.2) else .stuck := rfl
@[simp] theorem eApp_ap (g : List D → Option D) (a : Ea) (ρ : Rho) (π : Pot) : eApp g a ρ π = (a ρ π).bind fun x => (ofO (g x.1)).bind fun z => .ok (z, x.2) := rfl
@[simp] theorem tOf_ap (a : Ed) (ρ : Rho) (π : Pot) : tOf a ρ π = (a ρ π).bind fun x => (ofO (truth x.1)).bind fun k => .ok (k, x.2) := rfl
@[simp] theorem tBl_ap (a : Ed) (ρ : Rho) (π : Pot) : tBl a ρ π = (a ρ π).bind fun x => match x.1 with
  | .bl k => .ok (k, x.2)
  | _ => .stuck := rfl
@[simp] theorem tAndD_ap (a b : Et) (ρ : Rho) (π : Pot) : tAndD a b ρ π = (a ρ π).bind fun x => if x.1 = true then b ρ x.2 else .ok (false, x.2) := rfl
@[simp] theorem tOrD_ap (a b : Et) (ρ : Rho) (π : Pot) : tOrD a b ρ π = (a ρ π).bind fun x => if x.1 = true then .ok (true, x.2) else b ρ x.2 := rfl
@[simp] theorem tNotD_ap (a : Et) (ρ : Rho) (π : Pot) : tNotD a ρ π = (a ρ π).bind fun x => .ok (!x.1, x.2) := rfl
@[simp] theorem eChain_ap (g g' : D → D → Option D) (a b c : Ed) (ρ : Rho) (π : Pot) : eChain g g' a b c ρ π = (a ρ π).bind fun x => (b ρ x.2).bind fun y => (ofO (g x.1 y.1)).bind fun z => match z with
  | .bl true => (c ρ y.2).bind fun u => (ofO (g' y.1 u.1)).bind fun q => .ok (q, u.2)
  | .bl false => .ok (.bl false, y.2)
  | _ => .stuck := rfl
@[simp] theorem iVal_ap (a : Ed) (ρ : Rho) (π : Pot) : iVal a ρ π = (a ρ π).bind fun x => (ofO (seqOf x.1)).bind fun z => .ok (z, x.2) := rfl
@[simp] theorem iEnumD_ap (a : Ea) (ρ : Rho) (π : Pot) : iEnumD a ρ π = (a ρ π).bind fun x => match x.1 with
  | [d] => (ofO (seqOf d)).bind fun z => .ok (numbered 0 z, x.2)
  | _ => .stuck := rfl
@[simp] theorem iRng_ap (a : Ea) (ρ : Rho) (π : Pot) : iRng a ρ π = (a ρ π).bind fun x => (ofO (rng x.1)).bind fun z => .ok (z, x.2) := rfl
@[simp] theorem iRngDown_ap (a : Ea) (ρ : Rho) (π : Pot) : iRngDown a ρ π = (a ρ π).bind fun x => (ofO (rngDown x.1)).bind fun z => .ok (z, x.2) := rfl
@[simp] theorem eLC_ap (fi : Ei) (fg : D → Rho → Option Rho) (ft : Et) (fe : Ed) (vs : List Nat) (ρ : Rho) (π : Pot) : eLC fi fg ft fe vs ρ π = (fi ρ π).bind fun x => if x.1.length < sizeLine then (lcGo fg ft fe (wipeD ρ vs) x.1 x.2).bind fun r => .ok (.lst r.1, r.2) else .stuck := rfl
@[simp] theorem tTrue_ap (ρ : Rho) (π : Pot) : tTrue  ρ π = .ok (true, π) := rfl
@[simp] theorem sNext_ap (ρ : Rho) (π : Pot) : sNext  ρ π = .ok (.nx ρ, π) := rfl
@[simp] theorem sSeq_ap (a b : Fs) (ρ : Rho) (π : Pot) : sSeq a b ρ π = (a ρ π).bind fun x => match x.1 with
  | .nx ρ1 => b ρ1 x.2
  | .bk ρ1 => .ok (.bk ρ1, x.2)
  | .ct ρ1 => .ok (.ct ρ1, x.2)
  | .rt d => .ok (.rt d, x.2) := rfl
@[simp] theorem sSet_ap (i : Nat) (fe : Ed) (ρ : Rho) (π : Pot) : sSet i fe ρ π = (fe ρ π).bind fun x => .ok (.nx (ρ.set i (some x.1)), x.2) := rfl
@[simp] theorem sPar_ap (i j : Nat) (fa fb : Ed) (ρ : Rho) (π : Pot) : sPar i j fa fb ρ π = (fa ρ π).bind fun x => (fb ρ x.2).bind fun y => .ok (.nx ((ρ.set i (some x.1)).set j (some y.1)), y.2) := rfl
@[simp] theorem sPar3_ap (i j l : Nat) (fa fb fc : Ed) (ρ : Rho) (π : Pot) : sPar3 i j l fa fb fc ρ π = (fa ρ π).bind fun x => (fb ρ x.2).bind fun y => (fc ρ y.2).bind fun z => .ok (.nx (((ρ.set i (some x.1)).set j (some y.1)).set l (some z.1)), z.2) := rfl
@[simp] theorem sUnp_ap (fe : Ed) (fg : D → Rho → Option Rho) (ρ : Rho) (π : Pot) : sUnp fe fg ρ π = (fe ρ π).bind fun x => (ofO (fg x.1 ρ)).bind fun ρ1 => .ok (.nx ρ1, x.2) := rfl
@[simp] theorem sExpr_ap (fe : Ed) (ρ : Rho) (π : Pot) : sExpr fe ρ π = (fe ρ π).bind fun x => .ok (.nx ρ, x.2) := rfl
@[simp] theorem sRet_ap (fe : Ed) (ρ : Rho) (π : Pot) : sRet fe ρ π = (fe ρ π).bind fun x => .ok (.rt x.1, x.2) := rfl
@[simp] theorem sRetN_ap (ρ : Rho) (π : Pot) : sRetN  ρ π = .ok (.rt .non, π) := rfl
@[simp] theorem sIf_ap (ft : Et) (a b : Fs) (ρ : Rho) (π : Pot) : sIf ft a b ρ π = (ft ρ π).bind fun x => if x.1 = true then a ρ x.2 else b ρ x.2 := rfl
@[simp] theorem sBreak_ap (ρ : Rho) (π : Pot) : sBreak  ρ π = .ok (.bk ρ, π) := rfl
@[simp] theorem sCont_ap (ρ : Rho) (π : Pot) : sCont  ρ π = .ok (.ct ρ, π) := rfl
@[simp] theorem sStuck_ap (ρ : Rho) (π : Pot) : sStuck  ρ π = .stuck := rfl
@[simp] theorem sFor_ap (fi : Ei) (fg : D → Rho → Option Rho) (fb : Fs) (ρ : Rho) (π : Pot) : sFor fi fg fb ρ π = (fi ρ π).bind fun x => forGo fg fb x.1 ρ x.2 := rfl
@[simp] theorem sAugIx_ap (i : Nat) (g : Int → Int → Int) (fk fe : Ed) (ρ : Rho) (π : Pot) : sAugIx i g fk fe ρ π = match ρ[i]? with
  | some (some (.lst ds)) => (fk ρ π).bind fun y => (ofO (intAt ds y.1)).bind fun a => (fe ρ y.2).bind fun x => match x.1 with
    | .int b => .ok (.nx (ρ.set i (some (.lst (ds.set a.1 (.int (g a.2 b)))))), x.2)
    | _ => .stuck
  | _ => .stuck := rfl
@[simp] theorem sAug_ap (i : Nat) (g : Int → Int → Int) (fe : Ed) (ρ : Rho) (π : Pot) : sAug i g fe ρ π = match ρ[i]? with
  | some (some (.int a)) => (fe ρ π).bind fun x => match x.1 with
    | .int b => .ok (.nx (ρ.set i (some (.int (g a b)))), x.2)
    | _ => .stuck
  | _ => .stuck := rfl
@[simp] theorem ePot0_ap (ρ : Rho) (π : Pot) : ePot0  ρ π = .ok (.int π.1, π) := rfl
@[simp] theorem ePot1_ap (ρ : Rho) (π : Pot) : ePot1  ρ π = .ok (.int π.2, π) := rfl
@[simp] theorem sPot1_ap (fe : Ed) (ρ : Rho) (π : Pot) : sPot1 fe ρ π = (fe ρ π).bind fun x => match x.1 with
  | .int n => .ok (.nx ρ, (x.2.1, n))
  | _ => .stuck := rfl
@[simp] theorem sPotDm_ap (j : Nat) (fe : Ed) (ρ : Rho) (π : Pot) : sPotDm j fe ρ π = (fe ρ π).bind fun x => match x.1 with
  | .int n => if divOk π.1 n then .ok (.nx (ρ.set j (some (.int (π.1 % n)))), (π.1 / n, x.2.2)) else .stuck
  | _ => .stuck := rfl
@[simp] theorem runD_ap (n : Nat) (r : Rm) (fs : Fs) (ds : List D) (π : Pot) : runD n r fs ds π = (fs (startD n ds) π).bind fun x => match x.1 with
  | .rt d => .ok (d, x.2)
  | .nx _ => if r = .f then .ok (.non, x.2) else .stuck
  | _ => .stuck := rfl
@[simp] theorem eGo_ap (m : Fd) (a : Ea) (ρ : Rho) (π : Pot) : eGo m a ρ π = (a ρ π).bind fun x => m x.1 x.2 := rfl
@[simp] theorem oNone_ap (ρ : Rho) (π : Pot) : oNone  ρ π = .ok (none, π) := rfl
@[simp] theorem oSome_ap (a : Ed) (ρ : Rho) (π : Pot) : oSome a ρ π = (a ρ π).bind fun x => match x.1 with
  | .int i => .ok (some i, x.2)
  | _ => .stuck := rfl
@[simp] theorem eSl_ap (a : Ed) (l u : Eo) (ρ : Rho) (π : Pot) : eSl a l u ρ π = (a ρ π).bind fun x => (l ρ x.2).bind fun y => (u ρ y.2).bind fun z => (ofO (fCut x.1 y.1 z.1)).bind fun w => .ok (w, z.2) := rfl
@[simp] theorem eSix_ap (i : Nat) (fb : Ed) (ρ : Rho) (π : Pot) : eSix i fb ρ π = (fb ρ π).bind fun y => match ρ[i]? with
  | some (some d) => (ofO (opIx d y.1)).bind fun z => .ok (z, y.2)
  | _ => .stuck := rfl
@[simp] theorem eGoPot_ap (m : Fd) (a : Ed) (ρ : Rho) (π : Pot) : eGoPot m a ρ π = (a ρ π).bind fun x => match x.1 with
  | .lst [.int u, .int v] => (safe (m [.non] (u, v))).bind fun y => .ok (y.1, x.2)
  | _ => .stuck := rfl
@[simp] theorem sApp_ap (i : Nat) (fe : Ed) (ρ : Rho) (π : Pot) : sApp i fe ρ π = match ρ[i]? with
  | some (some (.lst ds)) => (fe ρ π).bind fun x => (ofO (appD x.1 ds)).bind fun es => .ok (.nx (ρ.set i (some (.lst es))), x.2)
  | _ => .stuck := rfl
@[simp] theorem sExt_ap (i : Nat) (fe : Ed) (ρ : Rho) (π : Pot) : sExt i fe ρ π = match ρ[i]? with
  | some (some (.lst ds)) => (fe ρ π).bind fun x => (ofO (extD x.1 ds)).bind fun es => .ok (.nx (ρ.set i (some (.lst es))), x.2)
  | _ => .stuck := rfl
@[simp] theorem sSetIx_ap (i : Nat) (fe fk : Ed) (ρ : Rho) (π : Pot) : sSetIx i fe fk ρ π = match ρ[i]? with
  | some (some (.lst ds)) => (fe ρ π).bind fun y => (fk ρ y.2).bind fun x => (ofO (setD y.1 x.1 ds)).bind fun es => .ok (.nx (ρ.set i (some (.lst es))), x.2)
  | _ => .stuck := rfl
@[simp] theorem truth_non : truth .non = some false := rfl
@[simp] theorem truth_bl (b : Bool) : truth (.bl b) = some b := rfl
@[simp] theorem truth_int (i : Int) : truth (.int i) = some (i != 0) := rfl
@[simp] theorem truth_lst (xs : List D) : truth (.lst xs) = some (!xs.isEmpty) := rfl
@[simp] theorem truth_tup (xs : List D) : truth (.tup xs) = some (!xs.isEmpty) := rfl
@[simp] theorem cmpI_ap (p : Int → Int → Bool) (i j : Int) : cmpI p (.int i) (.int j) = some (.bl (p i j)) := rfl
@[simp] theorem opSub_ap (i j : Int) : opSub (.int i) (.int j) = some (.int (i - j)) := rfl
@[simp] theorem opNeg_ap (i : Int) : opNeg (.int i) = some (.int (-i)) := rfl
@[simp] theorem gN_ap (i : Nat) (d : D) (ρ : Rho) : gN i d ρ = some (ρ.set i (some d)) := rfl
@[simp] theorem gsNil_ap (ρ : Rho) : gsNil [] ρ = some ρ := rfl
@[simp] theorem gsCons_ap (a : D → Rho → Option Rho) (b : List D → Rho → Option Rho) (d : D) (r : List D) (ρ : Rho) : gsCons a b (d :: r) ρ = (a d ρ).bind (b r) := rfl
@[simp] theorem gT_ap (n : Nat) (b : List D → Rho → Option Rho) (ds : List D) (ρ : Rho) : gT n b (.tup ds) ρ = if ds.length = n then b ds ρ else none := rfl
@[simp] theorem fInt_ap (i : Int) : fInt [.int i] = some (.int i) := rfl
@[simp] theorem fAbs_ap (i : Int) : fAbs [.int i] = some (.int (if i < 0 then -i else i)) := rfl
@[simp] theorem fMax2_ap (i j : Int) : fMax2 [.int i, .int j] = some (.int (if j > i then j else i)) := rfl
@[simp] theorem fMin2_ap (i j : Int) : fMin2 [.int i, .int j] = some (.int (if j < i then j else i)) := rfl
@[simp] theorem fList_lst (xs : List D) : fList [.lst xs] = some (.lst xs) := rfl
@[simp] theorem fList_tup (xs : List D) : fList [.tup xs] = some (.lst xs) := rfl
@[simp] theorem fTuple_lst (xs : List D) : fTuple [.lst xs] = some (.tup xs) := rfl
@[simp] theorem fTuple_tup (xs : List D) : fTuple [.tup xs] = some (.tup xs) := rfl
@[simp] theorem isNonD_ap (d : D) : opIsN d .non = some (.bl (isNonD d)) := rfl
@[simp] theorem notNonD_ap (d : D) : opNotN d .non = some (.bl (!isNonD d)) := rfl
@[simp] theorem isNonD_non : isNonD .non = true := rfl
@[simp] theorem isNonD_int (i : Int) : isNonD (.int i) = false := rfl
@[simp] theorem isNonD_bl (i : Bool) : isNonD (.bl i) = false := rfl
@[simp] theorem isNonD_str (i : Str) : isNonD (.str i) = false := rfl
@[simp] theorem isNonD_lst (i : List D) : isNonD (.lst i) = false := rfl
@[simp] theorem isNonD_tup (i : List D) : isNonD (.tup i) = false := rfl
@[simp] theorem opIsB_ap (a b : Bool) : opIsB (.bl a) (.bl b) = some (.bl (decide (a = b))) := rfl
@[simp] theorem opNotB_ap (a b : Bool) : opNotB (.bl a) (.bl b) = some (.bl (!decide (a = b))) := rfl
@[simp] theorem isTyB_ap (a b : String) : isTyB a b = (a == b || (a == "bool" && b == "int")) := rfl
@[simp] theorem fIs_non (ns : List String) : fIs ns .non = some (.bl (ns.any fun b => isTyB "NoneType" b)) := rfl
@[simp] theorem fIs_bl (ns : List String) (i : Bool) : fIs ns (.bl i) = some (.bl (ns.any fun b => isTyB "bool" b)) := rfl
@[simp] theorem fIs_int (ns : List String) (i : Int) : fIs ns (.int i) = some (.bl (ns.any fun b => isTyB "int" b)) := rfl
@[simp] theorem fIs_str (ns : List String) (i : Str) : fIs ns (.str i) = some (.bl (ns.any fun b => isTyB "str" b)) := rfl
@[simp] theorem fIs_lst (ns : List String) (i : List D) : fIs ns (.lst i) = some (.bl (ns.any fun b => isTyB "list" b)) := rfl
@[simp] theorem fIs_tup (ns : List String) (i : List D) : fIs ns (.tup i) = some (.bl (ns.any fun b => isTyB "tuple" b)) := rfl
@[simp] theorem fIs_dic (ns : List String) (a : List DKey) (i : List D) : fIs ns (.dic a i) = some (.bl (ns.any fun b => isTyB "dict" b)) := rfl
@[simp] theorem seqOf_lst (xs : List D) : seqOf (.lst xs) = some xs := rfl
@[simp] theorem seqOf_tup (xs : List D) : seqOf (.tup xs) = some xs := rfl
@[simp] theorem wipeD_nil (ρ : Rho) : wipeD ρ [] = ρ := rfl
@[simp] theorem wipeD_cons (ρ : Rho) (v : Nat) (vs : List Nat) : wipeD ρ (v :: vs) = (wipeD ρ vs).set v none := rfl
@[simp] theorem startD_ap (n : Nat) (ds : List D) : startD n ds = ds.map some ++ List.replicate (n - ds.length) none := rfl
@[simp] theorem opAdd_int (i j : Int) : opAdd (.int i) (.int j) = some (.int (i + j)) := rfl
theorem opAdd_lst {xs ys : List D} (h : xs.length + ys.length ≤ 16777216) : opAdd (.lst xs) (.lst ys) = some (.lst (xs ++ ys)) := by
  simp [opAdd, sizeLine_eq, h]
@[simp] theorem sl_ok {n : Nat} (h : n ≤ 16777216) : (n ≤ sizeLine) = True := by
  rw [sizeLine_eq]
  exact eq_true h
@[simp] theorem sl_lt {n : Nat} (h : n < 16777216) : (n < sizeLine) = True := by
  rw [sizeLine_eq]
  exact eq_true h
@[simp] theorem fLen_lst (xs : List D) : fLen [.lst xs] = some (.int xs.length) := rfl
@[simp] theorem fLen_tup (xs : List D) : fLen [.tup xs] = some (.int xs.length) := rfl
@[simp] theorem fSum_iz (ns : List Int) : fSum [.lst (ns.map D.int)] = some (.int ns.sum) := by simp [fSum, onInts]
theorem fMaxL_iz {ns : List Int} (h : ns ≠ []) : fMaxL [.lst (ns.map D.int)] = some (.int (maxI ns)) := by simp [fMaxL, onInts, h]
theorem fMinL_iz {ns : List Int} (h : ns ≠ []) : fMinL [.lst (ns.map D.int)] = some (.int (minI ns)) := by simp [fMinL, onInts, h]
@[simp] theorem fSortI_iz (ns : List Int) : fSortI [.lst (ns.map D.int)] = some (.lst ((sortI ns).map D.int)) := by simp [fSortI, onInts]
@[simp] theorem fAll_bl {α : Type} (xs : List α) (p : α → Bool) : fAll [.lst (xs.map fun x => .bl (p x))] = some (.bl (xs.all p)) := by
  have e : (xs.map fun x => D.bl (p x)) = (xs.map p).map D.bl := by simp
  rw [e]
  show (asBls ((xs.map p).map D.bl)).map (fun bs => D.bl (bs.all id)) = _
  rw [asBls_bl]
  simp
@[simp] theorem fAny_bl {α : Type} (xs : List α) (p : α → Bool) : fAny [.lst (xs.map fun x => .bl (p x))] = some (.bl (xs.any p)) := by
  have e : (xs.map fun x => D.bl (p x)) = (xs.map p).map D.bl := by simp
  rw [e]
  show (asBls ((xs.map p).map D.bl)).map (fun bs => D.bl (bs.any id)) = _
  rw [asBls_bl]
  simp
theorem rng_1 {j : Int} (h : -1000000000000 ≤ j) (h2 : j ≤ 1000000000000) : rng [.int j] = some ((List.range j.toNat).map fun (i : Nat) => .int (i : Int)) := by
  have : mid62 j = true := by
    unfold mid62
    exact decide_eq_true (by omega)
  simp [rng, this, rangeD]
theorem rng_2 {i j : Int} (h : -1000000000000 ≤ i) (h2 : i ≤ 1000000000000) (h3 : -1000000000000 ≤ j) (h4 : j ≤ 1000000000000) : rng [.int i, .int j] = some ((List.range (j - i).toNat).map fun (t : Nat) => .int (i + (t : Int))) := by
  have q1 : mid62 i = true := by
    unfold mid62
    exact decide_eq_true (by omega)
  have q2 : mid62 j = true := by
    unfold mid62
    exact decide_eq_true (by omega)
  simp [rng, q1, q2, rangeD]
theorem fRg2_ok {i j : Int} (h : -1000000 ≤ i) (h2 : i ≤ 1000000) (h3 : -1000000 ≤ j) (h4 : j ≤ 1000000) : fRg2 (.int i) (.int j) = some (.lst ((List.range (j - i).toNat).map fun (t : Nat) => .int (i + (t : Int)))) := by
  have : rgOk i j = true := by
    unfold rgOk
    exact decide_eq_true (by omega)
  simp [fRg2, this, rgD]
theorem fRg1_ok {j : Int} (h3 : -1000000 ≤ j) (h4 : j ≤ 1000000) : fRg1 (.int j) = some (.lst ((List.range j.toNat).map fun (t : Nat) => .int (t : Int))) := by
  have : rgOk 0 j = true := by
    unfold rgOk
    exact decide_eq_true (by omega)
  simp [fRg1, this, rgD]
theorem atI_in {α : Type} {xs : List α} {i : Int} {v : α} (h : 0 ≤ i) (e : xs[i.toNat]? = some v) : L2.atI xs i = some v := by
  have := L2.atI_nat (xs := xs) (j := i.toNat) e
  rwa [Int.toNat_of_nonneg h] at this
theorem opIx_iz {ns : List Int} {i v : Int} (h : 0 ≤ i) (e : ns[i.toNat]? = some v) : opIx (.lst (ns.map D.int)) (.int i) = some (.int v) := by
  show L2.atI (ns.map D.int) i = _
  exact atI_in h (by rw [List.getElem?_map, e]; rfl)
/-- the last one -/
theorem opIx_last {xs : List D} {x : D} : opIx (.lst (xs ++ [x])) (.int (-1)) = some x := by
  show L2.atI (xs ++ [x]) (-1) = _
  unfold L2.atI L2.ixN
  have e : ((-1 : Int) + ((xs ++ [x]).length : Nat)).toNat = xs.length := by
    rw [List.length_append, List.length_singleton]
    omega
  rw [if_neg (by omega), if_pos (by rw [List.length_append, List.length_singleton]; omega), e]
  simp
theorem cut_to {xs : List D} {k : Int} (h : 0 ≤ k) : cutD xs none (some k) = xs.take k.toNat := by
  unfold cutD HT.sIx
  simp only [List.drop_zero, Nat.sub_zero]
  rw [if_neg (by omega)]
  by_cases q : k.toNat ≤ xs.length
  · rw [Nat.min_eq_left q]
  · rw [Nat.min_eq_right (by omega), List.take_length, List.take_of_length_le (by omega)]
theorem cut_from {xs : List D} {k : Int} (h : 0 ≤ k) : cutD xs (some k) none = xs.drop k.toNat := by
  unfold cutD HT.sIx
  show List.take (xs.length - (if k < 0 then (k + xs.length).toNat else min k.toNat xs.length)) (List.drop (if k < 0 then (k + xs.length).toNat else min k.toNat xs.length) xs) = _
  rw [if_neg (by omega)]
  by_cases q : k.toNat ≤ xs.length
  · rw [Nat.min_eq_left q, List.take_of_length_le (by rw [List.length_drop]; omega)]
  · rw [Nat.min_eq_right (by omega), List.drop_length, List.drop_of_length_le (by omega)]
    simp
theorem fCut_to {xs : List D} {k : Int} (h : 0 ≤ k) : fCut (.lst xs) none (some k) = some (.lst (xs.take k.toNat)) := by
  simp [fCut, cut_to h]
theorem fCut_from {xs : List D} {k : Int} (h : 0 ≤ k) : fCut (.lst xs) (some k) none = some (.lst (xs.drop k.toNat)) := by
  simp [fCut, cut_from h]
theorem appD_ok {d : D} {xs : List D} (h : xs.length < 16777216) : appD d xs = some (xs ++ [d]) := by
  simp [appD, sizeLine_eq, h]
theorem fRepr_ok {d : D} (h : shOk d = true) : ∃ z, fRepr [d] = some (.str z) := by
  obtain ⟨z, e⟩ := showD_ok h
  exact ⟨z, by simp [fRepr, e]⟩
theorem fCut_to_iz {ns : List Int} {k : Int} (h : 0 ≤ k) : fCut (.lst (ns.map D.int)) none (some k) = some (.lst ((ns.take k.toNat).map D.int)) := by
  rw [fCut_to h, List.map_take]
theorem fCut_from_iz {ns : List Int} {k : Int} (h : 0 ≤ k) : fCut (.lst (ns.map D.int)) (some k) none = some (.lst ((ns.drop k.toNat).map D.int)) := by
  rw [fCut_from h, List.map_drop]
theorem opAdd_iz {xs ys : List Int} (h : xs.length + ys.length ≤ 16777216) : opAdd (.lst (xs.map D.int)) (.lst (ys.map D.int)) = some (.lst ((xs ++ ys).map D.int)) := by
  rw [opAdd_lst (by simpa using h), List.map_append]
@[simp] theorem fRev_iz (ns : List Int) : fRev (.lst (ns.map D.int)) = some (.lst (ns.reverse.map D.int)) := by
  simp [fRev]
theorem opRep_1 {x k : Int} (h : 0 ≤ k) (h2 : k ≤ 1000000) : opRep (.lst [.int x]) (.int k) = some (.lst ((List.replicate k.toNat x).map D.int)) := by
  have e : decide (-9223372036854775808 ≤ k ∧ k < 9223372036854775808) = true := decide_eq_true (by omega)
  have e2 : decide ([D.int x].length * k.toNat ≤ sizeLine) = true := decide_eq_true (by
    rw [sizeLine_eq]
    simp
    omega)
  simp only [opRep, e, e2, Bool.and_self, if_true]
  congr 2
  induction k.toNat with
  | zero => rfl
  | succ n ih =>
    rw [List.replicate_succ, List.replicate_succ, List.flatten_cons, List.map_cons, ih]
    rfl
@[simp] theorem opEq_nil : opEq (.lst []) (.lst []) = some (.bl true) := rfl
@[simp] theorem opNe_nil : opNe (.lst []) (.lst []) = some (.bl false) := rfl
@[simp] theorem opEq_str (x y : Str) : opEq (.str x) (.str y) = some (.bl (decide (x = y))) := rfl
@[simp] theorem opNe_str (x y : Str) : opNe (.str x) (.str y) = some (.bl (!decide (x = y))) := rfl
@[simp] theorem opEq_int (x y : Int) : opEq (.int x) (.int y) = some (.bl (decide (x = y))) := rfl
@[simp] theorem opNe_int (x y : Int) : opNe (.int x) (.int y) = some (.bl (!decide (x = y))) := rfl
@[simp] theorem opEq_bl (x y : Bool) : opEq (.bl x) (.bl y) = some (.bl (decide (x = y))) := by cases x <;> cases y <;> rfl
@[simp] theorem opNe_bl (x y : Bool) : opNe (.bl x) (.bl y) = some (.bl (!decide (x = y))) := by cases x <;> cases y <;> rfl
/-- lists of ints -/
theorem eqv_ints : ∀ (xs ys : List Int), PyData.eqvAll (xs.map PyData.int) (ys.map PyData.int) = decide (xs = ys)
  | [], [] => rfl
  | [], y :: ys => by simp [PyData.eqvAll]
  | x :: xs, [] => by simp [PyData.eqvAll]
  | x :: xs, y :: ys => by
    simp only [List.map_cons, PyData.eqvAll, PyData.eqv, eqv_ints xs ys, List.cons.injEq]
    by_cases e : x = y <;> by_cases f : xs = ys <;> simp [e, f]
theorem toPyL_iz : ∀ (ns : List Int), toPyL (ns.map D.int) = some (ns.map PyData.int)
  | [] => rfl
  | n :: ns => by
    show (match some (PyData.int n), toPyL (ns.map D.int) with | some p, some ps => some (p :: ps) | _, _ => none) = _
    rw [toPyL_iz ns]
    rfl
theorem shaped_iz (ns : List Int) : SeqAt.shaped (.list (ns.map PyData.int)) = true := by
  have h1 : PyData.canLayAll0 (ns.map PyData.int) = true := by
    induction ns with
    | nil => rfl
    | cons n ns ih => simpa [PyData.canLayAll0, PyData.canLay0] using ih
  have h2 : PyData.depthAll (ns.map PyData.int) = 0 := by
    induction ns with
    | nil => rfl
    | cons n ns ih =>
      simp only [List.map_cons, PyData.depthAll, PyData.depth, ih (by simpa [PyData.canLayAll0, PyData.canLay0] using h1)]
      rfl
  simp [SeqAt.shaped, PyData.canLay0, h1, PyData.depth, h2]
theorem eqD_iz (xs ys : List Int) : eqD (.lst (xs.map D.int)) (.lst (ys.map D.int)) = some (decide (xs = ys)) := by
  show eqP _ _ = _
  unfold eqP
  simp only [toPy, toPyL_iz, Option.map_some, shaped_iz, Bool.and_self, if_true, PyData.eqv, eqv_ints]
@[simp] theorem opEq_iz (xs ys : List Int) : opEq (.lst (xs.map D.int)) (.lst (ys.map D.int)) = some (.bl (decide (xs = ys))) := by simp [opEq, eqD_iz]
@[simp] theorem opNe_iz (xs ys : List Int) : opNe (.lst (xs.map D.int)) (.lst (ys.map D.int)) = some (.bl (!decide (xs = ys))) := by simp [opNe, eqD_iz]
end DL

namespace RK

abbrev V := Nat → Int
def zr : V := fun _ => 0
def ad (u v : V) : V := fun j => u j + v j
def sm (a : Int) (u : V) : V := fun j => a * u j

theorem zr_ap (j) : zr j = 0 := rfl
theorem ad_ap (u v : V) (j) : ad u v j = u j + v j := rfl
theorem sm_ap (a) (u : V) (j) : sm a u j = a * u j := rfl

/-- sums over the rationals, of whole vectors -/
inductive Sp (W : List V) : V → Prop
  | mem {w} : w ∈ W → Sp W w
  | zero : Sp W zr
  | add {u v} : Sp W u → Sp W v → Sp W (ad u v)
  | smul {u} (a : Int) : Sp W u → Sp W (sm a u)
  | div {u} (a : Int) : a ≠ 0 → Sp W (sm a u) → Sp W u

theorem Sp.trans {W X : List V} (h : ∀ w ∈ W, Sp X w) {v} (hv : Sp W v) : Sp X v := by
  induction hv with
  | mem hw => exact h _ hw
  | zero => exact Sp.zero
  | add _ _ i j => exact i.add j
  | smul a _ i => exact i.smul a
  | div a ha _ i => exact i.div a ha

theorem Sp.mono {W X : List V} (h : ∀ w ∈ W, w ∈ X) {v} (hv : Sp W v) : Sp X v :=
  hv.trans fun w hw => Sp.mem (h w hw)

theorem Sp.congr {W : List V} {u v : V} (hu : Sp W u) (h : ∀ j, u j = v j) : Sp W v := by
  have : u = v := funext h
  exact this ▸ hu

theorem Sp.lin {W : List V} {u v : V} (hu : Sp W u) (hv : Sp W v) (a b : Int) {x : V}
    (h : ∀ j, x j = a * u j + b * v j) : Sp W x :=
  ((hu.smul a).add (hv.smul b)).congr fun j => (h j).symm

theorem Sp.dlin {W : List V} {u v : V} (hu : Sp W u) (hv : Sp W v) (a b d : Int) (hd : d ≠ 0) {x : V}
    (h : ∀ j, d * x j = a * u j + b * v j) : Sp W x :=
  Sp.div d hd (Sp.lin hu hv a b h)

theorem Sp.nil {v : V} (h : Sp [] v) (j) : v j = 0 := by
  induction h with
  | mem hw => simp at hw
  | zero => rfl
  | add _ _ i k => simp [ad, i, k]
  | smul a _ i => simp [sm, i]
  | div a ha _ i => simp only [sm] at i; exact (Int.mul_eq_zero.mp i).resolve_left ha

theorem Sp.split {w : V} {W : List V} {v : V} (h : Sp (w :: W) v) :
    ∃ (d a : Int) (y : V), d ≠ 0 ∧ Sp W y ∧ ∀ j, d * v j = a * w j + y j := by
  induction h with
  | mem hw =>
    rcases List.mem_cons.mp hw with rfl | hw
    · exact ⟨1, 1, zr, by decide, Sp.zero, fun j => by simp [zr]⟩
    · exact ⟨1, 0, _, by decide, Sp.mem hw, fun j => by simp⟩
  | zero => exact ⟨1, 0, zr, by decide, Sp.zero, fun j => by simp [zr]⟩
  | add _ _ i k =>
    obtain ⟨d, a, y, hd, hy, e⟩ := i
    obtain ⟨d', a', y', hd', hy', e'⟩ := k
    refine ⟨d * d', a * d' + a' * d, _, Int.mul_ne_zero hd hd', (hy.smul d').add (hy'.smul d), fun j => ?_⟩
    have e1 := e j; have e2 := e' j
    simp only [ad, sm]; grind
  | smul c _ i =>
    obtain ⟨d, a, y, hd, hy, e⟩ := i
    refine ⟨d, c * a, _, hd, hy.smul c, fun j => ?_⟩
    have e1 := e j
    simp only [sm]; grind
  | div c hc _ i =>
    obtain ⟨d, a, y, hd, hy, e⟩ := i
    refine ⟨d * c, a, y, Int.mul_ne_zero hd hc, hy, fun j => ?_⟩
    have e1 := e j
    simp only [sm] at e1; grind

/-- linear maps -/
structure Lin (T : V → V) : Prop where
  z : ∀ j, T zr j = 0
  a : ∀ u v j, T (ad u v) j = T u j + T v j
  s : ∀ c u j, T (sm c u) j = c * T u j

theorem Sp.map {T : V → V} (hT : Lin T) {W : List V} {v} (h : Sp W v) : Sp (W.map T) (T v) := by
  induction h with
  | mem hw => exact Sp.mem (List.mem_map_of_mem hw)
  | zero => exact Sp.zero.congr fun j => by simp [hT.z, zr]
  | add _ _ i k => exact (i.add k).congr fun j => by simp [hT.a, ad]
  | smul c _ i => exact (i.smul c).congr fun j => by simp [hT.s, sm]
  | div c hc _ i => exact Sp.div c hc (i.congr fun j => by simp [hT.s, sm])

def Ind : List V → Prop
  | [] => True
  | w :: W => ¬ Sp W w ∧ Ind W

theorem Ind.swap {u v : V} {W} (h : Ind (u :: v :: W)) : Ind (v :: u :: W) := by
  obtain ⟨hu, hv, hW⟩ := h
  refine ⟨fun hs => ?_, fun hs => hu (hs.mono (by simp +contextual)), hW⟩
  obtain ⟨d, a, y, hd, hy, e⟩ := hs.split
  by_cases ha : a = 0
  · subst ha
    exact hv (Sp.dlin hy hy 1 0 d hd fun j => by have := e j; grind)
  · refine hu (Sp.dlin (u := v) (v := y) (Sp.mem (by simp)) (hy.mono (by simp +contextual)) d (-1) a ha
      fun j => by have := e j; grind)

theorem Ind.perm {A B : List V} (p : A.Perm B) : Ind A → Ind B := by
  induction p with
  | nil => exact id
  | cons x p ih => exact fun h => ⟨fun hs => h.1 (hs.mono fun w hw => p.mem_iff.mpr hw), ih h.2⟩
  | swap x y l => exact Ind.swap
  | trans _ _ i k => exact fun h => k (i h)

theorem Ind.right {A B : List V} (h : Ind (A ++ B)) : Ind B := by
  induction A with
  | nil => exact h
  | cons a A ih => exact ih h.2

theorem Ind.left {A B : List V} (h : Ind (A ++ B)) : Ind A := by
  induction A with
  | nil => trivial
  | cons a A ih => exact ⟨fun hs => h.1 (hs.mono (by simp +contextual)), ih h.2⟩

theorem Ind.shear {b : V} {B : List V} (f : V → V)
    (hf : ∀ v ∈ B, ∃ c e : Int, c ≠ 0 ∧ ∀ j, f v j = c * v j + e * b j)
    (h : Ind (B ++ [b])) : Ind (B.map f) := by
  induction B with
  | nil => trivial
  | cons v B ih =>
    refine ⟨fun hs => h.1 ?_, ih (fun v hv => hf v (by simp [hv])) h.2⟩
    have hs' : Sp (B ++ [b]) (f v) := hs.trans fun w hw => by
      obtain ⟨x, hx, rfl⟩ := List.mem_map.mp hw
      obtain ⟨c, e, _, he⟩ := hf x (by simp [hx])
      exact Sp.lin (Sp.mem (by simp [hx])) (Sp.mem (w := b) (by simp)) c e he
    obtain ⟨c, e, hc, he⟩ := hf v (by simp)
    exact Sp.dlin hs' (Sp.mem (w := b) (by simp)) 1 (-e) c hc fun j => by have := he j; grind

theorem steinitz (W : List V) : ∀ (B : List V), Ind B → (∀ b ∈ B, Sp W b) → B.length ≤ W.length := by
  induction W with
  | nil =>
    intro B hB hs
    cases B with
    | nil => simp
    | cons b B =>
      exact absurd (Sp.zero.congr fun j => ((hs b (by simp)).nil j).symm) hB.1
  | cons w W ih =>
    intro B hB hs
    by_cases hall : ∀ b ∈ B, Sp W b
    · exact Nat.le_succ_of_le (ih B hB hall)
    · have ⟨b, hb, hnb⟩ : ∃ b ∈ B, ¬ Sp W b := by
        apply Classical.byContradiction; intro hc; apply hall; intro b hb
        apply Classical.byContradiction; intro hn; exact hc ⟨b, hb, hn⟩
      obtain ⟨B1, B2, rfl⟩ := List.append_of_mem hb
      have hp : (B1 ++ b :: B2).Perm ((B1 ++ B2) ++ [b]) :=
        List.perm_middle.trans (List.perm_append_singleton _ _).symm
      have hB' := Ind.perm hp hB
      obtain ⟨d, a, y, hd, hy, e⟩ := (hs b hb).split
      have ha : a ≠ 0 := by
        rintro rfl
        exact hnb (Sp.dlin hy hy 1 0 d hd fun j => by have := e j; grind)
      have hch : ∀ v : V, ∃ f : V, (v ∈ B1 ++ B2 → (∃ c e : Int, c ≠ 0 ∧ ∀ j, f j = c * v j + e * b j) ∧ Sp W f) := by
        intro v
        by_cases hv : v ∈ B1 ++ B2
        · obtain ⟨d', a', y', hd', hy', e'⟩ := (hs v (hp.mem_iff.mpr (by simp at hv ⊢; grind))).split
          refine ⟨fun j => (a * d') * v j + (- (a' * d)) * b j, fun _ => ⟨⟨_, _, Int.mul_ne_zero ha hd', fun j => rfl⟩, ?_⟩⟩
          exact Sp.lin hy' hy a (-a') fun j => by
            have e1 := e j; have e2 := e' j; grind
        · exact ⟨zr, fun h => absurd h hv⟩
      have ⟨f, hf⟩ : ∃ f : V → V, ∀ v ∈ B1 ++ B2, (∃ c e : Int, c ≠ 0 ∧ ∀ j, f v j = c * v j + e * b j) ∧ Sp W (f v) :=
        ⟨fun v => Classical.choose (hch v), fun v hv => Classical.choose_spec (hch v) hv⟩
      have hI := Ind.shear f (fun v hv => (hf v hv).1) hB'
      have := ih _ hI (fun x hx => by obtain ⟨v, hv, rfl⟩ := List.mem_map.mp hx; exact (hf v hv).2)
      simp only [List.length_map, List.length_append, List.length_cons] at this ⊢
      omega

theorem basis_ex (L : List V) : ∃ B : List V, (∀ b ∈ B, b ∈ L) ∧ Ind B ∧ ∀ v ∈ L, Sp B v := by
  induction L with
  | nil => exact ⟨[], by simp, trivial, by simp⟩
  | cons v L ih =>
    obtain ⟨B, h1, h2, h3⟩ := ih
    by_cases h : Sp B v
    · refine ⟨B, fun b hb => by simp [h1 b hb], h2, fun x hx => ?_⟩
      rcases List.mem_cons.mp hx with rfl | hx
      · exact h
      · exact h3 x hx
    · refine ⟨v :: B, fun b hb => ?_, ⟨h, h2⟩, fun x hx => ?_⟩
      · rcases List.mem_cons.mp hb with rfl | hb
        · simp
        · simp [h1 b hb]
      · rcases List.mem_cons.mp hx with rfl | hx
        · exact Sp.mem (by simp)
        · exact (h3 x hx).mono (by simp +contextual)

noncomputable def rk (L : List V) : Nat := (Classical.choose (basis_ex L)).length

theorem rk_spec (L : List V) : ∃ B : List V, (∀ b ∈ B, b ∈ L) ∧ Ind B ∧ (∀ v ∈ L, Sp B v) ∧ B.length = rk L :=
  ⟨_, (Classical.choose_spec (basis_ex L)).1, (Classical.choose_spec (basis_ex L)).2.1,
    (Classical.choose_spec (basis_ex L)).2.2, rfl⟩

theorem rk_of_basis {L B : List V} (hI : Ind B) (h1 : ∀ b ∈ B, Sp L b) (h2 : ∀ v ∈ L, Sp B v) : rk L = B.length := by
  obtain ⟨C, c1, c2, c3, e⟩ := rk_spec L
  rw [← e]
  apply Nat.le_antisymm
  · exact steinitz B C c2 fun c hc => h2 c (c1 c hc)
  · exact steinitz C B hI fun b hb => (h1 b hb).trans c3

theorem ind_le_rk {L B : List V} (hI : Ind B) (h1 : ∀ b ∈ B, Sp L b) : B.length ≤ rk L := by
  obtain ⟨C, c1, c2, c3, e⟩ := rk_spec L
  rw [← e]; exact steinitz C B hI fun b hb => (h1 b hb).trans c3

theorem rk_le_of {L W : List V} (h : ∀ v ∈ L, Sp W v) : rk L ≤ W.length := by
  obtain ⟨C, c1, c2, c3, e⟩ := rk_spec L
  rw [← e]; exact steinitz W C c2 fun c hc => h c (c1 c hc)

theorem rk_le_span {L W : List V} (h : ∀ v ∈ L, Sp W v) : rk L ≤ rk W := by
  obtain ⟨C, c1, c2, c3, e⟩ := rk_spec W
  rw [← e]; exact rk_le_of fun v hv => (h v hv).trans c3

theorem rk_congr {L W : List V} (h : ∀ v ∈ L, Sp W v) (h' : ∀ v ∈ W, Sp L v) : rk L = rk W :=
  Nat.le_antisymm (rk_le_span h) (rk_le_span h')

theorem rk_le_length (L : List V) : rk L ≤ L.length := rk_le_of fun _ hv => Sp.mem hv

theorem rk_ind {B : List V} (h : Ind B) : rk B = B.length :=
  rk_of_basis h (fun _ hb => Sp.mem hb) (fun _ hb => Sp.mem hb)

theorem rk_mono {L W : List V} (h : ∀ v ∈ L, v ∈ W) : rk L ≤ rk W := rk_le_span fun v hv => Sp.mem (h v hv)

theorem rk_perm {L W : List V} (h : ∀ v, v ∈ L ↔ v ∈ W) : rk L = rk W :=
  Nat.le_antisymm (rk_mono fun v hv => (h v).mp hv) (rk_mono fun v hv => (h v).mpr hv)

theorem ind_of_rk {L : List V} (h : rk L = L.length) : Ind L := by
  induction L with
  | nil => trivial
  | cons v L ih =>
    have hl := rk_le_length L
    simp only [List.length_cons] at h
    refine ⟨fun hs => ?_, ih ?_⟩
    · have : rk (v :: L) ≤ L.length := rk_le_of fun x hx => by
        rcases List.mem_cons.mp hx with rfl | hx
        · exact hs
        · exact Sp.mem hx
      omega
    · obtain ⟨C, c1, c2, c3, e⟩ := rk_spec L
      have : rk (v :: L) ≤ (v :: C).length := rk_le_of fun x hx => by
        rcases List.mem_cons.mp hx with rfl | hx
        · exact Sp.mem (by simp)
        · exact (c3 x hx).mono (by simp +contextual)
      simp only [List.length_cons] at this
      omega

theorem ind_of_map {T : V → V} (hT : Lin T) {B : List V} (h : Ind (B.map T)) : Ind B := by
  induction B with
  | nil => trivial
  | cons b B ih => exact ⟨fun hs => h.1 (hs.map hT), ih h.2⟩

theorem rk_map_le {T : V → V} (hT : Lin T) (L : List V) : rk (L.map T) ≤ rk L := by
  obtain ⟨C, c1, c2, c3, e⟩ := rk_spec L
  rw [← e]
  have := rk_le_of (L := L.map T) (W := C.map T) fun v hv => by
    obtain ⟨x, hx, rfl⟩ := List.mem_map.mp hv
    exact (c3 x hx).map hT
  simpa using this

theorem rk_map_eq {T S : V → V} (hT : Lin T) (hS : Lin S) {L : List V} (c : Int) (hc : c ≠ 0)
    (h : ∀ v ∈ L, ∀ j, S (T v) j = c * v j) : rk (L.map T) = rk L := by
  apply Nat.le_antisymm (rk_map_le hT L)
  refine Nat.le_trans ?_ (rk_map_le hS (L.map T))
  apply rk_le_span
  intro v hv
  exact Sp.div c hc ((Sp.mem (List.mem_map_of_mem (List.mem_map_of_mem hv))).congr fun j => h v hv j)

/-- each of the one a multiple (not by 0) of one of the other, both ways -/
theorem rk_scale {L W : List V} (h : ∀ v ∈ L, ∃ w ∈ W, ∃ c d : Int, c ≠ 0 ∧ ∀ j, c * v j = d * w j)
    (h' : ∀ v ∈ W, ∃ w ∈ L, ∃ c d : Int, c ≠ 0 ∧ ∀ j, c * v j = d * w j) : rk L = rk W := by
  apply rk_congr
  · intro v hv; obtain ⟨w, hw, c, d, hc, e⟩ := h v hv
    exact Sp.dlin (Sp.mem hw) (Sp.mem hw) d 0 c hc fun j => by have := e j; grind
  · intro v hv; obtain ⟨w, hw, c, d, hc, e⟩ := h' v hv
    exact Sp.dlin (Sp.mem hw) (Sp.mem hw) d 0 c hc fun j => by have := e j; grind

end RK

namespace RK

/-- pivots: places and vectors, the later ones nought at the places of the earlier ones -/
def Tri : List (Nat × V) → Prop
  | [] => True
  | p :: ps => p.2 p.1 ≠ 0 ∧ (∀ q ∈ ps, q.2 p.1 = 0) ∧ Tri ps

theorem tri_snoc {ps : List (Nat × V)} (h : Tri ps) {p : Nat} {v : V} (hp : v p ≠ 0) (hz : ∀ q ∈ ps, v q.1 = 0) :
    Tri (ps ++ [(p, v)]) := by
  induction ps with
  | nil => exact ⟨hp, by simp, trivial⟩
  | cons q ps ih =>
    refine ⟨h.1, fun x hx => ?_, ih h.2.2 fun x hx => hz x (by simp [hx])⟩
    rcases List.mem_append.mp hx with hx | hx
    · exact h.2.1 x hx
    · simp at hx; subst hx; exact hz q (by simp)

theorem Sp.van {W : List V} {j : Nat} (h : ∀ w ∈ W, w j = 0) {v : V} (hv : Sp W v) : v j = 0 := by
  induction hv with
  | mem hw => exact h _ hw
  | zero => rfl
  | add _ _ i k => simp [ad, i, k]
  | smul a _ i => simp [sm, i]
  | div a ha _ i => simp only [sm] at i; exact (Int.mul_eq_zero.mp i).resolve_left ha

theorem tri_ind {ps : List (Nat × V)} (h : Tri ps) : Ind (ps.map (·.2)) := by
  induction ps with
  | nil => trivial
  | cons p ps ih =>
    refine ⟨fun hs => h.1 (hs.van fun w hw => ?_), ih h.2.2⟩
    obtain ⟨q, hq, rfl⟩ := List.mem_map.mp hw
    exact h.2.1 q hq

/-- a sum of pivots that is nought at all their places is nought -/
theorem tri_zero {ps : List (Nat × V)} (h : Tri ps) {v : V} (hv : Sp (ps.map (·.2)) v) (hz : ∀ p ∈ ps, v p.1 = 0) :
    ∀ j, v j = 0 := by
  induction ps generalizing v with
  | nil => exact hv.nil
  | cons p ps ih =>
    obtain ⟨d, a, y, hd, hy, e⟩ := hv.split
    have hyp : y p.1 = 0 := hy.van fun w hw => by
      obtain ⟨q, hq, rfl⟩ := List.mem_map.mp hw
      exact h.2.1 q hq
    have ha : a = 0 := by
      have := e p.1
      rw [hz p (by simp), hyp] at this
      have h1 := h.1
      have h2 : a * p.2 p.1 = 0 := by
        have t := this; rw [Int.mul_zero, Int.add_zero] at t; exact t.symm
      exact (Int.mul_eq_zero.mp h2).resolve_right h1
    subst ha
    have hv' : Sp (ps.map (·.2)) v := Sp.dlin hy hy 1 0 d hd fun j => by have := e j; grind
    exact ih h.2.2 hv' fun q hq => hz q (by simp [hq])

/-- sums with whole coefficients -/
def lc : List Int → List V → V
  | c :: cs, v :: vs => fun j => c * v j + lc cs vs j
  | _, _ => zr

theorem lc_sp (cs : List Int) (vs : List V) : Sp vs (lc cs vs) := by
  induction vs generalizing cs with
  | nil => cases cs <;> exact Sp.zero
  | cons v vs ih =>
    cases cs with
    | nil => exact Sp.zero
    | cons c cs =>
      exact Sp.lin (Sp.mem (w := v) (by simp)) ((ih cs).mono (by simp +contextual)) c 1 fun j => by simp [lc]

theorem lc_ind {vs : List V} (h : Ind vs) (cs : List Int) (hl : cs.length = vs.length) (hz : ∀ j, lc cs vs j = 0) :
    ∀ c ∈ cs, c = 0 := by
  induction vs generalizing cs with
  | nil => cases cs with
    | nil => simp
    | cons c cs => simp at hl
  | cons v vs ih =>
    cases cs with
    | nil => simp
    | cons c cs =>
      have hc : c = 0 := by
        apply Classical.byContradiction
        intro hc
        refine h.1 (Sp.dlin (lc_sp cs vs) (lc_sp cs vs) (-1) 0 c hc fun j => ?_)
        have := hz j; simp only [lc] at this; grind
      subst hc
      intro c hc
      rcases List.mem_cons.mp hc with rfl | hc
      · rfl
      · exact ih h.2 cs (by simpa using hl) (fun j => by have := hz j; simpa [lc] using this) c hc

theorem lc_sub (cs ds : List Int) (vs : List V) (hl : cs.length = ds.length) (j) :
    lc (cs.zipWith (· - ·) ds) vs j = lc cs vs j - lc ds vs j := by
  induction vs generalizing cs ds with
  | nil => cases cs <;> cases ds <;> simp [lc, zr]
  | cons v vs ih =>
    cases cs with
    | nil => cases ds with
      | nil => simp [lc, zr]
      | cons d ds => simp at hl
    | cons c cs => cases ds with
      | nil => simp at hl
      | cons d ds =>
        simp only [List.zipWith_cons_cons, lc]
        rw [ih cs ds (by simpa using hl)]; grind

theorem natAbs_mul_le {a b : Int} {x y : Nat} (ha : a.natAbs ≤ x) (hb : b.natAbs ≤ y) : (a * b).natAbs ≤ x * y := by
  rw [Int.natAbs_mul]; exact Nat.mul_le_mul ha hb

theorem lc_bound (cs : List Int) (vs : List V) (N B j : Nat) (hc : ∀ c ∈ cs, c.natAbs ≤ N)
    (hv : ∀ v ∈ vs, (v j).natAbs ≤ B) : (lc cs vs j).natAbs ≤ vs.length * (N * B) := by
  induction vs generalizing cs with
  | nil => cases cs <;> simp [lc, zr]
  | cons v vs ih =>
    cases cs with
    | nil => simp [lc, zr]
    | cons c cs =>
      have h1 := ih cs (fun c hc' => hc c (by simp [hc'])) (fun v hv' => hv v (by simp [hv']))
      have h2 := natAbs_mul_le (hc c (by simp)) (hv v (by simp))
      have h3 := Int.natAbs_add_le (c * v j) (lc cs vs j)
      simp only [lc, List.length_cons, Nat.succ_mul]
      omega

theorem pigeon (M : Nat) (f : Nat → Nat) (h : ∀ i, i ≤ M → f i < M) : ∃ i j, i < j ∧ j ≤ M ∧ f i = f j := by
  induction M generalizing f with
  | zero => exact absurd (h 0 (Nat.le_refl _)) (Nat.not_lt_zero _)
  | succ M ih =>
    by_cases hx : ∃ i, i ≤ M ∧ f i = f (M + 1)
    · obtain ⟨i, hi, e⟩ := hx
      exact ⟨i, M + 1, by omega, Nat.le_refl _, e⟩
    · have hne : ∀ i, i ≤ M → f i ≠ f (M + 1) := fun i hi e => hx ⟨i, hi, e⟩
      have hM := h (M + 1) (Nat.le_refl _)
      obtain ⟨i, j, hij, hj, e⟩ := ih (fun i => if f i = M then f (M + 1) else f i) (fun i hi => by
        have h1 := h i (by omega); have h2 := hne i hi
        by_cases he : f i = M
        · simp [he]; omega
        · simp [he]; omega)
      refine ⟨i, j, hij, by omega, ?_⟩
      have h1 := hne i (by omega); have h2 := hne j (by omega)
      by_cases hi : f i = M <;> by_cases hj' : f j = M <;> simp [hi, hj'] at e <;> omega

/-- digits, the lowest first -/
def dg (D : Nat) : Nat → Nat → List Nat
  | 0, _ => []
  | k + 1, x => x % D :: dg D k (x / D)

theorem dg_length (D k x) : (dg D k x).length = k := by
  induction k generalizing x with
  | zero => rfl
  | succ k ih => simp [dg, ih]

theorem dg_lt {D : Nat} (hD : 0 < D) (k x) : ∀ d ∈ dg D k x, d < D := by
  induction k generalizing x with
  | zero => simp [dg]
  | succ k ih =>
    intro d hd
    simp only [dg, List.mem_cons] at hd
    rcases hd with rfl | hd
    · exact Nat.mod_lt _ hD
    · exact ih _ d hd

theorem dg_inj {D : Nat} (k x y : Nat) (hx : x < D ^ k) (hy : y < D ^ k) (h : dg D k x = dg D k y) : x = y := by
  induction k generalizing x y with
  | zero => simp at hx hy; omega
  | succ k ih =>
    simp only [dg, List.cons.injEq] at h
    have h1 : x / D = y / D := ih _ _ (Nat.div_lt_of_lt_mul (by rw [Nat.pow_succ, Nat.mul_comm] at hx; exact hx))
      (Nat.div_lt_of_lt_mul (by rw [Nat.pow_succ, Nat.mul_comm] at hy; exact hy)) h.2
    have e1 := Nat.div_add_mod x D; have e2 := Nat.div_add_mod y D
    rw [← e1, ← e2, h1, h.1]

/-- a list of numbers as one number -/
def cde (D : Nat) : List Nat → Nat
  | [] => 0
  | x :: xs => x + D * cde D xs

theorem cde_lt {D : Nat} (xs : List Nat) (h : ∀ x ∈ xs, x < D) : cde D xs < D ^ xs.length := by
  induction xs with
  | nil => simp [cde]
  | cons x xs ih =>
    have h1 := h x (by simp)
    have h2 := ih fun x hx => h x (by simp [hx])
    simp only [cde, List.length_cons, Nat.pow_succ]
    have : D * (cde D xs + 1) ≤ D * D ^ xs.length := Nat.mul_le_mul_left _ h2
    rw [Nat.mul_comm (D ^ xs.length) D]
    grind

theorem cde_inj {D : Nat} (xs ys : List Nat) (hl : xs.length = ys.length) (hx : ∀ x ∈ xs, x < D) (hy : ∀ y ∈ ys, y < D)
    (h : cde D xs = cde D ys) : xs = ys := by
  induction xs generalizing ys with
  | nil => cases ys with
    | nil => rfl
    | cons y ys => simp at hl
  | cons x xs ih =>
    cases ys with
    | nil => simp at hl
    | cons y ys =>
      simp only [cde] at h
      have h1 := hx x (by simp); have h2 := hy y (by simp)
      have m1 : (x + D * cde D xs) % D = x := by rw [Nat.add_mul_mod_self_left, Nat.mod_eq_of_lt h1]
      have m2 : (y + D * cde D ys) % D = y := by rw [Nat.add_mul_mod_self_left, Nat.mod_eq_of_lt h2]
      have exy : x = y := by rw [← m1, ← m2, h]
      subst exy
      have : cde D xs = cde D ys := Nat.eq_of_mul_eq_mul_left (by omega : 0 < D) (by omega)
      rw [ih ys (by simpa using hl) (fun x hx' => hx x (by simp [hx'])) (fun y hy' => hy y (by simp [hy'])) this]

/-- a small sum that is nought at fewer places than there are rows -/
theorem siegel (vs : List V) (ps : List Nat) (B : Nat) (hB : 1 ≤ B) (hlt : ps.length < vs.length)
    (hb : ∀ v ∈ vs, ∀ j, (v j).natAbs ≤ B) :
    ∃ cs : List Int, cs.length = vs.length ∧ (∃ c ∈ cs, c ≠ 0) ∧
      (∀ c ∈ cs, c.natAbs ≤ (2 * vs.length * B) ^ ps.length) ∧ ∀ p ∈ ps, lc cs vs p = 0 := by
  let k := vs.length
  let q := ps.length
  let N := (2 * k * B) ^ q
  let K := k * (N * B)
  let D := 2 * K + 1
  have hk : 1 ≤ k := by show 1 ≤ vs.length; omega
  have hcs : ∀ x, ((dg (N + 1) k x).map Int.ofNat).length = vs.length := fun x => by simp [dg_length, k]
  let cs : Nat → List Int := fun x => (dg (N + 1) k x).map Int.ofNat
  have hbnd : ∀ x, ∀ c ∈ cs x, c.natAbs ≤ N := by
    intro x c hc
    obtain ⟨d, hd, rfl⟩ := List.mem_map.mp hc
    have := dg_lt (Nat.succ_pos N) k x d hd
    simp only [Int.ofNat_eq_natCast, Int.natAbs_natCast]; omega
  have hval : ∀ x p, (lc (cs x) vs p).natAbs ≤ K := fun x p => lc_bound _ _ N B p (hbnd x) fun v hv => hb v hv p
  let im : Nat → List Nat := fun x => ps.map fun p => (lc (cs x) vs p + K).toNat
  have him : ∀ x, ∀ y ∈ im x, y < D := by
    intro x y hy
    obtain ⟨p, _, rfl⟩ := List.mem_map.mp hy
    have := hval x p
    show (lc (cs x) vs p + (K : Int)).toNat < 2 * K + 1
    omega
  have hNK : D ^ q < (N + 1) ^ k := by
    have h1 : D ≤ (2 * k * B) * (N + 1) := by
      show 2 * (k * (N * B)) + 1 ≤ _
      have : 1 ≤ k * B := Nat.mul_le_mul hk hB
      have e : 2 * k * B * (N + 1) = 2 * (k * (N * B)) + 2 * (k * B) := by grind
      omega
    have h2 : D ^ q ≤ N * (N + 1) ^ q := by
      have := Nat.pow_le_pow_left h1 q
      rwa [Nat.mul_pow] at this
    have h3 : N * (N + 1) ^ q < (N + 1) ^ (q + 1) := by
      rw [Nat.pow_succ, Nat.mul_comm]
      exact Nat.mul_lt_mul_of_pos_left (Nat.lt_succ_self N) (Nat.pow_pos (Nat.succ_pos N))
    exact Nat.lt_of_lt_of_le (Nat.lt_of_le_of_lt h2 h3) (Nat.pow_le_pow_right (Nat.succ_pos N) hlt)
  obtain ⟨x, y, hxy, hy, e⟩ := pigeon (D ^ q) (fun x => cde D (im x)) (fun i _ => by
    have := cde_lt (im i) (him i)
    simpa [im] using this)
  have hlen : ∀ x, (im x).length = ps.length := fun x => by simp [im]
  have him2 : im x = im y := cde_inj _ _ (by rw [hlen, hlen]) (him x) (him y) e
  refine ⟨(cs x).zipWith (· - ·) (cs y), by simp [cs, dg_length, k], ?_, ?_, ?_⟩
  · apply Classical.byContradiction
    intro hn
    have hall : ∀ c ∈ (cs x).zipWith (· - ·) (cs y), c = 0 := fun c hc => Classical.byContradiction fun h => hn ⟨c, hc, h⟩
    have hgen : ∀ (a b : List Nat), a.length = b.length →
        (∀ c ∈ (a.map Int.ofNat).zipWith (· - ·) (b.map Int.ofNat), c = 0) → a = b := by
      intro a
      induction a with
      | nil => intro b hl _; cases b with
        | nil => rfl
        | cons _ _ => simp at hl
      | cons a as ih => intro b hl h; cases b with
        | nil => simp at hl
        | cons b bs =>
          have h1 := h ((a : Int) - b) (by simp)
          rw [ih bs (by simpa using hl) fun c hc => h c (by
            simp only [List.map_cons, List.zipWith_cons_cons, List.mem_cons]; exact Or.inr hc)]
          have : a = b := by omega
          rw [this]
    have := dg_inj k x y (by omega) (by omega) (hgen _ _ (by simp [dg_length]) hall)
    omega
  · intro c hc
    obtain ⟨i, hi, rfl⟩ := List.mem_iff_getElem.mp hc
    rw [List.getElem_zipWith]
    have hgx : ∀ x i (hi : i < (cs x).length), ∃ m : Nat, (cs x)[i] = (m : Int) ∧ m ≤ N := by
      intro x i hi
      have hm := List.getElem_mem hi
      obtain ⟨d, hd, e⟩ := List.mem_map.mp hm
      have := dg_lt (Nat.succ_pos N) k x d hd
      exact ⟨d, e.symm, by omega⟩
    simp only [List.length_zipWith] at hi
    obtain ⟨m, e1, h1⟩ := hgx x i (by omega)
    obtain ⟨m', e2, h2⟩ := hgx y i (by omega)
    rw [e1, e2]
    show _ ≤ N
    omega
  · intro p hp
    rw [lc_sub _ _ _ (by simp [cs, dg_length])]
    have hz : (lc (cs x) vs p + K).toNat = (lc (cs y) vs p + K).toNat := by
      have hgen : ∀ (l : List Nat), l.map (fun p => (lc (cs x) vs p + K).toNat) = l.map (fun p => (lc (cs y) vs p + K).toNat) →
          ∀ p ∈ l, (lc (cs x) vs p + K).toNat = (lc (cs y) vs p + K).toNat := by
        intro l
        induction l with
        | nil => simp
        | cons a l ih =>
          intro h p hp
          simp only [List.map_cons, List.cons.injEq] at h
          rcases List.mem_cons.mp hp with rfl | hp
          · exact h.1
          · exact ih h.2 p hp
      exact hgen ps him2 p hp
    have h1 := hval x p; have h2 := hval y p
    omega

/-- a primitive sum of k rows that is nought at k - 1 pivots' places is small -/
theorem pivot_bound {R : List V} {B : Nat} (hB : 1 ≤ B) (hb : ∀ r ∈ R, ∀ j, (r j).natAbs ≤ B)
    {ps : List (Nat × V)} (ht : Tri ps) (hs : ∀ p ∈ ps, Sp R p.2) (hl : R.length = ps.length + 1)
    {u : V} {p : Nat} (hu : Sp R u) (hp : u p ≠ 0) (hz : ∀ q ∈ ps, u q.1 = 0)
    (hprim : ∀ d : Int, (∀ j, d ∣ u j) → d.natAbs = 1) (j : Nat) :
    (u j).natAbs ≤ (2 * R.length * B) ^ R.length := by
  have ht' : Tri (ps ++ [(p, u)]) := tri_snoc ht hp hz
  have hI := tri_ind ht'
  have hsp : ∀ v ∈ (ps ++ [(p, u)]).map (·.2), Sp R v := by
    intro v hv
    obtain ⟨q, hq, rfl⟩ := List.mem_map.mp hv
    rcases List.mem_append.mp hq with hq | hq
    · exact hs q hq
    · simp at hq; subst hq; exact hu
  have hrk : rk R = R.length := Nat.le_antisymm (rk_le_length R) (by
    have := ind_le_rk hI hsp
    simp at this; omega)
  have hIR := ind_of_rk hrk
  obtain ⟨cs, h1, ⟨c, hc, hc0⟩, h3, h4⟩ := siegel R (ps.map (·.1)) B hB (by simp; omega) hb
  have hback : ∀ r ∈ R, Sp ((ps ++ [(p, u)]).map (·.2)) r := by
    intro r hr
    apply Classical.byContradiction
    intro hn
    have : Ind (r :: (ps ++ [(p, u)]).map (·.2)) := ⟨hn, hI⟩
    have := steinitz R _ this (fun b hb => by
      rcases List.mem_cons.mp hb with rfl | hb
      · exact Sp.mem hr
      · exact hsp b hb)
    simp at this; omega
  have hw : Sp ((ps ++ [(p, u)]).map (·.2)) (lc cs R) := (lc_sp cs R).trans hback
  have hw' : Sp (u :: ps.map (·.2)) (lc cs R) := hw.mono (by simp; grind)
  obtain ⟨d, a, y, hd, hy, e⟩ := hw'.split
  have hy0 := tri_zero ht hy fun q hq => by
    have h5 := h4 q.1 (by simp; exact ⟨_, hq⟩)
    have := e q.1
    rw [h5, hz q hq] at this
    omega
  have e' : ∀ j, d * lc cs R j = a * u j := fun j => by have := e j; rw [hy0 j] at this; omega
  have hane : a ≠ 0 := by
    rintro rfl
    have := lc_ind hIR cs h1 (fun j => by
      have := e' j
      have : d * lc cs R j = 0 := by omega
      exact (Int.mul_eq_zero.mp this).resolve_left hd) c hc
    exact hc0 this
  -- d divides a
  have hdiv : d ∣ a := by
    let g : Int := Int.gcd d a
    have hg : g ≠ 0 := by
      show ((Int.gcd d a : Nat) : Int) ≠ 0
      simp [Int.gcd_eq_zero_iff, hd]
    obtain ⟨d', hd'⟩ : g ∣ d := Int.gcd_dvd_left ..
    obtain ⟨a', ha'⟩ : g ∣ a := Int.gcd_dvd_right ..
    have hcop : Int.gcd d' a' = 1 := by
      have h5 : Int.gcd d a = g.natAbs * Int.gcd d' a' := by
        rw [show Int.gcd d a = Int.gcd (g * d') (g * a') by rw [← hd', ← ha'], Int.gcd_mul_left]
      have h6 : g.natAbs = Int.gcd d a := by simp [g]
      have h7 : 0 < Int.gcd d a := by
        rw [← h6]; exact Int.natAbs_pos.mpr hg
      rw [h6] at h5
      exact Nat.eq_of_mul_eq_mul_left h7 (by omega)
    have hall : ∀ j, d' ∣ u j := by
      intro j
      have h8 := e' j
      rw [hd', ha', Int.mul_assoc, Int.mul_assoc] at h8
      have h9 := Int.eq_of_mul_eq_mul_left hg h8
      have : d' ∣ a' * u j := ⟨_, h9.symm⟩
      exact by
        have h10 := Int.dvd_gcd_mul_iff_dvd_mul.mpr this
        simpa [hcop] using h10
    have := hprim d' hall
    rw [hd', ha']
    exact Int.mul_dvd_mul_left g (Int.natAbs_dvd.mp (by rw [this]; exact ⟨a', by simp⟩))
  obtain ⟨m, rfl⟩ := hdiv
  have hm : m ≠ 0 := fun h => hane (by simp [h])
  have e'' : lc cs R j = m * u j := by
    have := e' j
    rw [Int.mul_assoc] at this
    exact Int.eq_of_mul_eq_mul_left hd this
  have hle : (u j).natAbs ≤ (lc cs R j).natAbs := by
    rw [e'', Int.natAbs_mul]
    exact Nat.le_mul_of_pos_left _ (Int.natAbs_pos.mpr hm)
  have hb2 := lc_bound cs R _ B j h3 fun v hv => hb v hv j
  simp only [List.length_map] at hb2
  have hk : R.length = ps.length + 1 := hl
  have : R.length * ((2 * R.length * B) ^ ps.length * B) ≤ (2 * R.length * B) ^ R.length := by
    rw [show (2 * R.length * B) ^ R.length = (2 * R.length * B) ^ ps.length * (2 * R.length * B) by
      conv => lhs; rw [hk]
      rw [Nat.pow_succ, ← hk]]
    generalize (2 * R.length * B) ^ ps.length = X
    have : R.length * (X * B) = X * (R.length * B) := by grind
    rw [this]
    exact Nat.mul_le_mul_left _ (Nat.mul_le_mul_right _ (by omega))
  omega

end RK

namespace RK

/-- rows as vectors -/
def vz (l : List Int) : V := fun j => l.getD j 0

theorem vz_out {l : List Int} {j} (h : l.length ≤ j) : vz l j = 0 := by simp [vz, List.getD, h]
theorem vz_mem {l : List Int} {j} (h : j < l.length) : vz l j ∈ l := by
  simp only [vz, List.getD, List.getElem?_eq_getElem h, Option.getD_some]; exact List.getElem_mem h
theorem vz_get {l : List Int} {j} (h : j < l.length) : l[j] = vz l j := by
  simp only [vz, List.getD, List.getElem?_eq_getElem h, Option.getD_some]

/-- all numbers of a row are small -/
def Bd (B : Nat) (l : List Int) : Prop := ∀ x ∈ l, x.natAbs ≤ B
theorem Bd.vz {B l} (h : Bd B l) (j) : (vz l j).natAbs ≤ B := by
  by_cases hj : j < l.length
  · exact h _ (vz_mem hj)
  · rw [vz_out (by omega)]; simp
theorem Bd.of {B l} (h : ∀ j, (RK.vz l j).natAbs ≤ B) : Bd B l := by
  intro x hx
  obtain ⟨j, hj, rfl⟩ := List.mem_iff_getElem.mp hx
  rw [vz_get hj]; exact h j
theorem Bd.le {B C l} (h : Bd B l) (hc : B ≤ C) : Bd C l := fun x hx => Nat.le_trans (h x hx) hc

def gcdF (g : Nat) (l : List Int) : Nat := l.foldl (fun g x => Int.gcd g x) g
def gcdL (l : List Int) : Nat := gcdF 0 l

theorem gcdF_cons (g : Nat) (x l) : gcdF g (x :: l) = gcdF (Int.gcd g x) l := rfl
theorem gcdF_dvd (l : List Int) (g : Nat) : gcdF g l ∣ g ∧ ∀ x ∈ l, (gcdF g l : Int) ∣ x := by
  induction l generalizing g with
  | nil => simp [gcdF]
  | cons a l ih =>
    obtain ⟨h1, h2⟩ := ih (Int.gcd g a)
    simp only [gcdF_cons]
    refine ⟨Nat.dvd_trans h1 ?_, fun x hx => ?_⟩
    · have := Int.gcd_dvd_left (a := (g : Int)) (b := a)
      exact Int.natCast_dvd_natCast.mp this
    · rcases List.mem_cons.mp hx with rfl | hx
      · exact Int.dvd_trans (Int.natCast_dvd_natCast.mpr h1) (Int.gcd_dvd_right ..)
      · exact h2 x hx

theorem gcdF_dvd_of (l : List Int) (g : Nat) (d : Int) (hg : d ∣ (g : Int)) (h : ∀ x ∈ l, d ∣ x) : d ∣ (gcdF g l : Nat) := by
  induction l generalizing g with
  | nil => exact hg
  | cons a l ih =>
    simp only [gcdF_cons]
    exact ih _ (Int.dvd_coe_gcd hg (h a (by simp))) fun x hx => h x (by simp [hx])

theorem gcdL_dvd (l : List Int) : ∀ x ∈ l, (gcdL l : Int) ∣ x := (gcdF_dvd l 0).2
theorem dvd_gcdL {l : List Int} {d : Int} (h : ∀ x ∈ l, d ∣ x) : d ∣ (gcdL l : Nat) := gcdF_dvd_of l 0 d (by simp) h
theorem gcdL_zero {l : List Int} : gcdL l = 0 ↔ ∀ x ∈ l, x = 0 := by
  constructor
  · intro h x hx
    have := gcdL_dvd l x hx
    rw [h] at this; simpa using this
  · intro h
    have := dvd_gcdL (l := l) (d := 0) fun x hx => by rw [h x hx]; exact Int.dvd_refl 0
    have := Int.zero_dvd.mp this
    omega
theorem gcdL_le {l : List Int} {B} (h : Bd B l) : gcdL l ≤ B := by
  by_cases h0 : gcdL l = 0
  · omega
  · have ⟨x, hx, hx0⟩ : ∃ x ∈ l, x ≠ 0 := by
      apply Classical.byContradiction; intro hn; apply h0; rw [gcdL_zero]
      intro x hx; apply Classical.byContradiction; intro h; exact hn ⟨x, hx, h⟩
    have h1 := Int.natAbs_dvd_natAbs.mpr (gcdL_dvd l x hx)
    have h2 := Nat.le_of_dvd (Int.natAbs_pos.mpr hx0) h1
    have := h x hx
    simp at h2; omega

/-- divided by what divides all -/
def divL (d : Int) (l : List Int) : List Int := l.map (· / d)

theorem divL_vz {d : Int} {l : List Int} (h : ∀ x ∈ l, d ∣ x) (j) : d * vz (divL d l) j = vz l j := by
  by_cases hj : j < l.length
  · have h2 : j < (divL d l).length := by simpa [divL] using hj
    rw [← vz_get h2, ← vz_get hj]
    simp only [divL, List.getElem_map]
    exact Int.mul_ediv_cancel' (h _ (List.getElem_mem hj))
  · rw [vz_out (by simp [divL]; omega), vz_out (by omega)]; simp

def plainZ (l : List Int) : List Int := if 1 < gcdL l then divL (gcdL l) l else l

theorem plainZ_length (l) : (plainZ l).length = l.length := by unfold plainZ; split <;> simp [divL]

theorem plainZ_eq (l : List Int) : ∃ d : Int, d ≠ 0 ∧ ∀ j, vz l j = d * vz (plainZ l) j := by
  unfold plainZ
  split
  · rename_i h
    exact ⟨gcdL l, by omega, fun j => (divL_vz (gcdL_dvd l) j).symm⟩
  · exact ⟨1, by decide, fun j => by simp⟩

/-- what is left when a row is divided by its own divisor has none -/
theorem prim_of {l m : List Int} {d : Nat} (hd : d = max 1 (gcdL l)) (h : ∀ j, vz l j = d * vz m j) 
    {p} (hp : vz l p ≠ 0) : ∀ e : Int, (∀ j, e ∣ vz m j) → e.natAbs = 1 := by
  intro e he
  have h0 : gcdL l ≠ 0 := by
    intro h0
    rw [gcdL_zero] at h0
    have : p < l.length := by apply Classical.byContradiction; intro hn; exact hp (vz_out (by omega))
    exact hp (h0 _ (vz_mem this))
  have hd' : d = gcdL l := by omega
  have h1 : (d : Int) * e ∣ (gcdL l : Nat) := dvd_gcdL fun x hx => by
    obtain ⟨j, hj, rfl⟩ := List.mem_iff_getElem.mp hx
    rw [vz_get hj, h j]
    exact Int.mul_dvd_mul_left _ (he j)
  rw [← hd'] at h1
  obtain ⟨c, hc⟩ := h1
  have h2 : (d : Int) ≠ 0 := by omega
  have h3 : (1 : Int) = e * c := by
    have : (d : Int) * 1 = d * (e * c) := by rw [← Int.mul_assoc, ← hc]; simp
    exact Int.eq_of_mul_eq_mul_left h2 this
  have h4 := congrArg Int.natAbs h3
  rw [Int.natAbs_mul] at h4
  exact Nat.eq_one_of_mul_eq_one_right h4.symm

theorem plainZ_prim {l : List Int} {p} (hp : vz (plainZ l) p ≠ 0) : ∀ e : Int, (∀ j, e ∣ vz (plainZ l) j) → e.natAbs = 1 := by
  obtain ⟨d, hd, he⟩ := plainZ_eq l
  have hp' : vz l p ≠ 0 := by rw [he p]; exact Int.mul_ne_zero hd hp
  refine prim_of (l := l) (d := max 1 (gcdL l)) rfl (fun j => ?_) hp'
  unfold plainZ
  split
  · rename_i h
    rw [show ((max 1 (gcdL l) : Nat) : Int) = gcdL l by omega]
    exact (divL_vz (gcdL_dvd l) j).symm
  · have : gcdL l ≠ 0 := by
      intro h0; rw [gcdL_zero] at h0
      have : p < l.length := by apply Classical.byContradiction; intro hn; exact hp' (vz_out (by omega))
      exact hp' (h0 _ (vz_mem this))
    rw [show ((max 1 (gcdL l) : Nat) : Int) = 1 by omega]; simp

theorem plainZ_bd {l : List Int} {B} (h : Bd B l) : Bd B (plainZ l) := by
  obtain ⟨d, hd, he⟩ := plainZ_eq l
  apply Bd.of; intro j
  have h1 := h.vz j
  rw [he j, Int.natAbs_mul] at h1
  exact Nat.le_trans (Nat.le_mul_of_pos_left _ (Int.natAbs_pos.mpr hd)) h1

def leadZ (l : List Int) : Option Nat := l.findIdx? (fun x => x != 0)

theorem leadZ_some {l : List Int} {p} (h : leadZ l = some p) : p < l.length ∧ vz l p ≠ 0 := by
  unfold leadZ at h
  rw [List.findIdx?_eq_some_iff_getElem] at h
  obtain ⟨h1, h2, _⟩ := h
  refine ⟨h1, ?_⟩
  rw [← vz_get h1]; simpa using h2

theorem leadZ_none {l : List Int} (h : leadZ l = none) : ∀ j, vz l j = 0 := by
  unfold leadZ at h
  rw [List.findIdx?_eq_none_iff] at h
  intro j
  by_cases hj : j < l.length
  · have := h _ (vz_mem hj); simpa using this
  · exact vz_out (by omega)

/-- c x + e y, number by number -/
def cmbZ (c e : Int) (x y : List Int) : List Int := List.zipWith (fun a b => c * a - e * b) x y

theorem cmbZ_length (c e x y) : (cmbZ c e x y).length = min x.length y.length := by simp [cmbZ]
theorem cmbZ_vz {c e : Int} {x y : List Int} (h : x.length = y.length) (j) : vz (cmbZ c e x y) j = c * vz x j - e * vz y j := by
  by_cases hj : j < x.length
  · have h2 : j < (cmbZ c e x y).length := by rw [cmbZ_length]; omega
    rw [← vz_get h2, ← vz_get hj, ← vz_get (by omega : j < y.length)]
    simp [cmbZ]
  · rw [vz_out (by rw [cmbZ_length]; omega), vz_out (by omega), vz_out (by omega)]; simp
theorem cmbZ_bd {c e : Int} {x y : List Int} {Q M : Nat} (hl : x.length = y.length) (hc : c.natAbs ≤ Q) (he : e.natAbs ≤ M)
    (hx : Bd M x) (hy : Bd Q y) : Bd (2 * Q * M) (cmbZ c e x y) := by
  apply Bd.of; intro j
  rw [cmbZ_vz hl]
  have h1 := natAbs_mul_le hc (hx.vz j)
  have h2 := natAbs_mul_le he (hy.vz j)
  have h3 := Int.natAbs_sub_le (c * vz x j) (e * vz y j)
  have : 2 * Q * M = Q * M + M * Q := by grind
  omega

def lessZ (x f : List Int) (p : Nat) : List Int :=
  cmbZ (vz f p / Int.gcd (vz f p) (vz x p)) (vz x p / Int.gcd (vz f p) (vz x p)) x f

theorem div_natAbs_le (a : Int) (d : Nat) : (a / (d : Int)).natAbs ≤ a.natAbs := by
  rcases Nat.eq_zero_or_pos d with rfl | h
  · simp
  · by_cases hd : (d : Int) ∣ a
    · obtain ⟨c, rfl⟩ := hd
      rw [Int.mul_ediv_cancel_left _ (by omega), Int.natAbs_mul]
      exact Nat.le_mul_of_pos_left _ (by simpa using h)
    · exact Int.natAbs_ediv_le_natAbs a d

theorem lessZ_spec {x f : List Int} {p : Nat} (hl : x.length = f.length) (hf : vz f p ≠ 0) :
    ∃ c e : Int, c ≠ 0 ∧ (∀ j, vz (lessZ x f p) j = c * vz x j - e * vz f j) ∧ vz (lessZ x f p) p = 0 ∧ (lessZ x f p).length = x.length ∧
      ∀ Q M, Bd Q f → Bd M x → Bd (2 * Q * M) (lessZ x f p) := by
  have hg : Int.gcd (vz f p) (vz x p) ≠ 0 := by simp [Int.gcd_eq_zero_iff, hf]
  obtain ⟨a, ha⟩ := Int.gcd_dvd_left (a := vz f p) (b := vz x p)
  obtain ⟨b, hb⟩ := Int.gcd_dvd_right (a := vz f p) (b := vz x p)
  have e1 : vz f p / Int.gcd (vz f p) (vz x p) = a := by
    conv => lhs; lhs; rw [ha]
    exact Int.mul_ediv_cancel_left _ (by omega)
  have e2 : vz x p / Int.gcd (vz f p) (vz x p) = b := by
    conv => lhs; lhs; rw [hb]
    exact Int.mul_ediv_cancel_left _ (by omega)
  refine ⟨a, b, ?_, fun j => by simp only [lessZ]; rw [e1, e2, cmbZ_vz hl], ?_, by simp [lessZ, cmbZ_length]; omega, fun Q M hQ hM => ?_⟩
  · rintro rfl; exact hf (by rw [ha]; simp)
  · simp only [lessZ]; rw [e1, e2, cmbZ_vz hl]
    generalize (Int.gcd (vz f p) (vz x p)) = g at ha hb
    rw [ha, hb]; grind
  · exact cmbZ_bd hl (Nat.le_trans (div_natAbs_le _ _) (hQ.vz p)) (Nat.le_trans (div_natAbs_le _ _) (hM.vz p)) hM hQ

/-- what a list of pivots is to be for rows of a length -/
def Piv (w Q : Nat) (found : List (Nat × List Int)) : Prop := ∀ q ∈ found, q.1 < w ∧ q.2.length = w ∧ vz q.2 q.1 ≠ 0 ∧ Bd Q q.2

abbrev tv (found : List (Nat × List Int)) : List (Nat × V) := found.map fun q => (q.1, vz q.2)

def clr1 (h : List Int) (q : Nat × List Int) : List Int := if vz h q.1 ≠ 0 then lessZ h q.2 q.1 else h
def clrZ (found : List (Nat × List Int)) (h : List Int) : List Int := found.foldl clr1 h

theorem clr1_spec {w Q} {h : List Int} {q : Nat × List Int} (hq : q.2.length = w ∧ vz q.2 q.1 ≠ 0 ∧ Bd Q q.2) (hQ : 1 ≤ Q) (hl : h.length = w) :
    ∃ c e : Int, c ≠ 0 ∧ (∀ j, vz (clr1 h q) j = c * vz h j - e * vz q.2 j) ∧ vz (clr1 h q) q.1 = 0 ∧ (clr1 h q).length = w ∧
      ∀ M, Bd M h → Bd (2 * Q * M) (clr1 h q) := by
  unfold clr1
  split
  · obtain ⟨c, e, h1, h2, h3, h4, h5⟩ := lessZ_spec (x := h) (by rw [hl, hq.1]) hq.2.1
    exact ⟨c, e, h1, h2, h3, by omega, fun M hM => h5 Q M hq.2.2 hM⟩
  · rename_i hz
    refine ⟨1, 0, by decide, fun j => by simp, by simpa using hz, hl, fun M hM => hM.le ?_⟩
    exact Nat.le_mul_of_pos_left _ (by omega)

theorem clrZ_spec {w Q} (hQ : 1 ≤ Q) (found : List (Nat × List Int)) (hp : Piv w Q found) (ht : Tri (tv found)) (h : List Int) (hl : h.length = w) :
    (∃ (c : Int) (y : V), c ≠ 0 ∧ Sp ((tv found).map (·.2)) y ∧ ∀ j, vz (clrZ found h) j = c * vz h j + y j) ∧
    (∀ q ∈ found, vz (clrZ found h) q.1 = 0) ∧ (clrZ found h).length = w ∧
    (∀ j, vz h j = 0 → (∀ q ∈ found, vz q.2 j = 0) → vz (clrZ found h) j = 0) ∧
    ∀ M, Bd M h → Bd ((2 * Q) ^ found.length * M) (clrZ found h) := by
  induction found generalizing h with
  | nil => exact ⟨⟨1, zr, by decide, Sp.zero, fun j => by simp [clrZ, zr]⟩, by simp, hl, fun j hj _ => hj, fun M hM => by simpa [clrZ] using hM⟩
  | cons q found ih =>
    obtain ⟨hq1, hq2, hq3, hq4⟩ := hp q (by simp)
    obtain ⟨c, e, c0, hc, hz, hlen, hb⟩ := clr1_spec (h := h) ⟨hq2, hq3, hq4⟩ hQ hl
    obtain ⟨⟨c', y, c0', hy, hc'⟩, hz', hlen', hk, hb'⟩ := ih (fun x hx => hp x (by simp [hx])) ht.2.2 (clr1 h q) hlen
    have hfold : clrZ (q :: found) h = clrZ found (clr1 h q) := rfl
    rw [hfold]
    refine ⟨⟨c' * c, _, Int.mul_ne_zero c0' c0, ((Sp.mem (w := vz q.2) (by simp)).smul (-(c' * e))).add (hy.mono (by simp +contextual)), fun j => ?_⟩, ?_, hlen', ?_, ?_⟩
    · rw [hc', hc]; simp only [ad, sm]; grind
    · intro x hx
      rcases List.mem_cons.mp hx with rfl | hx
      · exact hk _ hz fun y hy => ht.2.1 (y.1, vz y.2) (List.mem_map.mpr ⟨y, hy, rfl⟩)
      · exact hz' x hx
    · intro j hj hall
      refine hk j ?_ fun x hx => hall x (by simp [hx])
      rw [hc, hj, hall q (by simp)]; simp
    · intro M hM
      have := hb' _ (hb M hM)
      rwa [List.length_cons, Nat.pow_succ, Nat.mul_assoc]

def stepZ (found : List (Nat × List Int)) (r : List Int) : List (Nat × List Int) :=
  match leadZ (plainZ (clrZ found r)) with
  | none => found
  | some p => found ++ [(p, plainZ (clrZ found r))]

structure Inv (w B Q : Nat) (rows : List (List Int)) (found : List (Nat × List Int)) : Prop where
  own : ∃ I : List (List Int), I.length = found.length ∧ (∀ r ∈ I, r ∈ rows) ∧ ∀ q ∈ found, Sp (I.map vz) (vz q.2)
  tri : Tri (tv found)
  piv : Piv w Q found
  all : ∀ r ∈ rows, Sp ((tv found).map (·.2)) (vz r)

theorem pow_grow {a b c d : Nat} (h1 : 1 ≤ a) (h2 : a ≤ b) (h3 : c ≤ d) : a ^ c ≤ b ^ d :=
  Nat.le_trans (Nat.pow_le_pow_left h2 c) (Nat.pow_le_pow_right (by omega) h3)

theorem step_inv {w B n : Nat} (hB : 1 ≤ B) (hn : 1 ≤ n) {rows found} (hi : Inv w B ((2 * n * B) ^ n) rows found) (hlt : found.length < n)
    (hrb : ∀ r ∈ rows, Bd B r) {r : List Int} (hl : r.length = w) (hb : Bd B r) : Inv w B ((2 * n * B) ^ n) (rows ++ [r]) (stepZ found r) := by
  have hQ : 1 ≤ (2 * n * B) ^ n := Nat.one_le_pow _ _ (Nat.mul_pos (by omega) hB)
  obtain ⟨⟨c, y, c0, hy, hc⟩, hz, hlen, _, _⟩ := clrZ_spec hQ found hi.piv hi.tri r hl
  obtain ⟨d, d0, hd⟩ := plainZ_eq (clrZ found r)
  obtain ⟨I, hI1, hI2, hI3⟩ := hi.own
  unfold stepZ
  generalize hu : plainZ (clrZ found r) = u at *
  have hul : u.length = w := by rw [← hu, plainZ_length, hlen]
  have huz : ∀ q ∈ found, vz u q.1 = 0 := fun q hq => by
    have h1 := hz q hq; rw [hd] at h1; exact (Int.mul_eq_zero.mp h1).resolve_left d0
  have hur : Sp (vz u :: (tv found).map (·.2)) (vz r) := by
    refine Sp.dlin (u := vz u) (v := y) (Sp.mem (by simp)) (hy.mono (by simp +contextual)) d (-1) c c0 fun j => ?_
    have h1 := hc j; rw [hd] at h1; grind
  have hus : Sp (vz r :: I.map vz) (vz u) := by
    have hy' : Sp (vz r :: I.map vz) y := hy.trans fun v hv => by
      simp only [tv, List.map_map, List.mem_map, Function.comp] at hv
      obtain ⟨q, hq, rfl⟩ := hv
      exact (hI3 q hq).mono (by simp +contextual)
    refine Sp.dlin (u := vz r) (v := y) (Sp.mem (by simp)) hy' c 1 d d0 fun j => ?_
    have h1 := hc j; rw [hd] at h1; grind
  split
  · rename_i hnone
    have h0 := leadZ_none hnone
    refine ⟨⟨I, hI1, fun r hr => by simp [hI2 r hr], hI3⟩, hi.tri, hi.piv, fun x hx => ?_⟩
    rcases List.mem_append.mp hx with hx | hx
    · exact hi.all x hx
    · simp at hx; subst hx
      refine hur.trans fun v hv => ?_
      rcases List.mem_cons.mp hv with rfl | hv
      · exact Sp.zero.congr fun j => (h0 j).symm
      · exact Sp.mem hv
  · rename_i p hsome
    obtain ⟨hp1, hp2⟩ := leadZ_some hsome
    have hub : Bd ((2 * n * B) ^ n) u := by
      apply Bd.of; intro j
      have hpb := pivot_bound (R := vz r :: I.map vz) (B := B) hB (by
        intro v hv j
        simp only [List.mem_cons, List.mem_map] at hv
        rcases hv with rfl | ⟨x, hx, rfl⟩
        · exact hb.vz j
        · exact (hrb x (hI2 x hx)).vz j) hi.tri (fun q hq => by
          obtain ⟨x, hx, rfl⟩ := List.mem_map.mp hq
          exact (hI3 x hx).mono (by simp +contextual)) (by simp [hI1]) hus hp2 (fun q hq => by
          obtain ⟨x, hx, rfl⟩ := List.mem_map.mp hq
          exact huz x hx) (hu ▸ plainZ_prim (hu.symm ▸ hp2)) j
      refine Nat.le_trans hpb ?_
      simp only [List.length_cons, List.length_map, hI1]
      refine pow_grow (Nat.mul_pos (by omega) hB) (Nat.mul_le_mul_right _ (by omega)) (by omega)
    refine ⟨⟨I ++ [r], by simp [hI1], ?_, ?_⟩, ?_, ?_, ?_⟩
    · intro x hx
      rcases List.mem_append.mp hx with hx | hx
      · simp [hI2 x hx]
      · simp at hx; simp [hx]
    · intro q hq
      rcases List.mem_append.mp hq with hq | hq
      · exact (hI3 q hq).mono (by simp +contextual)
      · simp at hq; subst hq
        exact hus.mono (by simp +contextual)
    · have := tri_snoc hi.tri (p := p) (v := vz u) hp2 (fun q hq => by
        obtain ⟨x, hx, rfl⟩ := List.mem_map.mp hq
        exact huz x hx)
      simpa [tv] using this
    · intro q hq
      rcases List.mem_append.mp hq with hq | hq
      · exact hi.piv q hq
      · simp at hq; subst hq
        exact ⟨by omega, hul, hp2, hub⟩
    · intro x hx
      rcases List.mem_append.mp hx with hx | hx
      · exact (hi.all x hx).mono (by simp +contextual)
      · simp at hx; subst hx
        exact hur.mono (by simp; grind)

def echZ (rows : List (List Int)) : List (Nat × List Int) := rows.foldl stepZ []

theorem stepZ_len (found r) : (stepZ found r).length ≤ found.length + 1 := by unfold stepZ; split <;> simp

theorem echF_inv {w B n : Nat} (hB : 1 ≤ B) (hn : 1 ≤ n) (rs : List (List Int)) : ∀ (rows : List (List Int)) (found), Inv w B ((2 * n * B) ^ n) rows found →
    found.length + rs.length ≤ n → (∀ r ∈ rows, Bd B r) → (∀ r ∈ rs, r.length = w ∧ Bd B r) →
    Inv w B ((2 * n * B) ^ n) (rows ++ rs) (rs.foldl stepZ found) := by
  induction rs with
  | nil => intro rows found hi _ _ _; simpa using hi
  | cons r rs ih =>
    intro rows found hi hl hb hr
    simp only [List.length_cons] at hl
    have h1 := step_inv hB hn hi (by omega) hb (hr r (by simp)).1 (hr r (by simp)).2
    have := ih (rows ++ [r]) (stepZ found r) h1 (by have := stepZ_len found r; omega) (fun x hx => by
      rcases List.mem_append.mp hx with hx | hx
      · exact hb x hx
      · simp at hx; exact hx ▸ (hr r (by simp)).2) fun x hx => hr x (by simp [hx])
    simpa using this

theorem inv_nil (w B Q) : Inv w B Q [] [] := ⟨⟨[], rfl, by simp, by simp⟩, trivial, by simp [Piv], by simp⟩

theorem ech_inv {w B n : Nat} (hB : 1 ≤ B) (hn : 1 ≤ n) (rs : List (List Int)) (hl : rs.length ≤ n) (hr : ∀ r ∈ rs, r.length = w ∧ Bd B r) :
    Inv w B ((2 * n * B) ^ n) rs (echZ rs) := by
  have := echF_inv hB hn rs [] [] (inv_nil w B _) (by simpa using hl) (by simp) hr
  simpa [echZ] using this

theorem Inv.rank {w B Q rows found} (h : Inv w B Q rows found) : found.length = rk (rows.map vz) := by
  obtain ⟨I, h1, h2, h3⟩ := h.own
  rw [rk_of_basis (tri_ind h.tri) ?_ ?_]
  · simp [tv]
  · intro b hb
    simp only [tv, List.map_map, List.mem_map, Function.comp] at hb
    obtain ⟨q, hq, rfl⟩ := hb
    refine (h3 q hq).mono fun v hv => ?_
    obtain ⟨x, hx, rfl⟩ := List.mem_map.mp hv
    exact List.mem_map_of_mem (h2 x hx)
  · intro v hv
    obtain ⟨x, hx, rfl⟩ := List.mem_map.mp hv
    exact h.all x hx

/-- a bound that every list of rows has -/
theorem bd_ex (rs : List (List Int)) : ∃ B, 1 ≤ B ∧ ∀ r ∈ rs, Bd B r := by
  induction rs with
  | nil => exact ⟨1, by simp, by simp⟩
  | cons r rs ih =>
    obtain ⟨B, h1, h2⟩ := ih
    have ⟨C, hC⟩ : ∃ C, Bd C r := by
      clear h2
      induction r with
      | nil => exact ⟨0, by simp [Bd]⟩
      | cons x r ih =>
        obtain ⟨C, hC⟩ := ih
        refine ⟨C + x.natAbs, fun y hy => ?_⟩
        rcases List.mem_cons.mp hy with rfl | hy
        · omega
        · have := hC y hy; omega
    refine ⟨B + C, by omega, fun x hx => ?_⟩
    rcases List.mem_cons.mp hx with rfl | hx
    · exact hC.le (by omega)
    · exact (h2 x hx).le (by omega)

theorem echZ_rank {w : Nat} (rs : List (List Int)) (hr : ∀ r ∈ rs, r.length = w) : (echZ rs).length = rk (rs.map vz) := by
  obtain ⟨B, h1, h2⟩ := bd_ex rs
  exact (ech_inv (n := rs.length + 1) h1 (by omega) rs (by omega) fun r h => ⟨hr r h, h2 r h⟩).rank

end RK

namespace RK

theorem rk_cons_zero {v : V} {L : List V} (h : ∀ j, v j = 0) : rk (v :: L) = rk L := by
  apply rk_congr
  · intro x hx
    rcases List.mem_cons.mp hx with rfl | hx
    · exact Sp.zero.congr fun j => (h j).symm
    · exact Sp.mem hx
  · intro x hx; exact Sp.mem (by simp [hx])

theorem rk_cons_pivot {h : V} {L L' : List V} {p : Nat} (hp : h p ≠ 0) (hz : ∀ x ∈ L', x p = 0) (h1 : ∀ x ∈ L, Sp (h :: L') x)
    (h2 : ∀ x ∈ L', Sp (h :: L) x) : rk (h :: L) = 1 + rk L' := by
  obtain ⟨C, c1, c2, c3, e⟩ := rk_spec L'
  have hI : Ind (h :: C) := ⟨fun hs => hp (hs.van fun w hw => hz w (c1 w hw)), c2⟩
  rw [← e, rk_of_basis hI, List.length_cons, Nat.add_comm]
  · intro b hb
    rcases List.mem_cons.mp hb with rfl | hb
    · exact Sp.mem (by simp)
    · exact h2 b (c1 b hb)
  · have hL' : ∀ x, Sp (h :: L') x → Sp (h :: C) x := fun x hx => hx.trans fun w hw => by
      rcases List.mem_cons.mp hw with rfl | hw
      · exact Sp.mem (by simp)
      · exact (c3 w hw).mono (by simp +contextual)
    intro v hv
    rcases List.mem_cons.mp hv with rfl | hv
    · exact Sp.mem (by simp)
    · exact hL' v (h1 v hv)

/-- the other way of taking a row off another one -/
def lwless (here other : List Int) (p : Nat) : List Int :=
  divL (max 1 (gcdL (cmbZ (vz other p) (vz here p) here other)) : Nat) (cmbZ (vz other p) (vz here p) here other)

theorem lwless_spec {w p : Nat} {here other : List Int} (h1 : here.length = w) (h2 : other.length = w) :
    (∃ d : Int, d ≠ 0 ∧ ∀ j, d * vz (lwless here other p) j = vz other p * vz here j - vz here p * vz other j) ∧ (lwless here other p).length = w ∧
      ((∀ j, vz (lwless here other p) j = 0) ∨ ∀ e : Int, (∀ j, e ∣ vz (lwless here other p) j) → e.natAbs = 1) := by
  obtain ⟨l, hl⟩ : ∃ l, l = cmbZ (vz other p) (vz here p) here other := ⟨_, rfl⟩
  have hv : ∀ j, vz l j = vz other p * vz here j - vz here p * vz other j := fun j => by rw [hl]; exact cmbZ_vz (by omega) j
  have hlen : l.length = w := by rw [hl, cmbZ_length]; omega
  unfold lwless
  rw [← hl]
  have hdv : ∀ x ∈ l, ((max 1 (gcdL l) : Nat) : Int) ∣ x := by
    intro x hx
    by_cases h0 : gcdL l = 0
    · rw [gcdL_zero.mp h0 x hx]; exact Int.dvd_zero _
    · rw [show max 1 (gcdL l) = gcdL l by omega]; exact gcdL_dvd l x hx
  have he := divL_vz hdv
  refine ⟨⟨((max 1 (gcdL l) : Nat) : Int), by omega, fun j => by rw [he, hv]⟩, by simp [divL, hlen], ?_⟩
  by_cases hz : ∀ j, vz l j = 0
  · left; intro j
    have := he j; rw [hz j] at this
    exact (Int.mul_eq_zero.mp this).resolve_left (by omega)
  · right
    have ⟨q, hq⟩ : ∃ q, vz l q ≠ 0 := by
      apply Classical.byContradiction; intro hn; exact hz fun j => Classical.byContradiction fun h => hn ⟨j, h⟩
    exact prim_of (l := l) rfl (fun j => (he j).symm) hq

def lwmap (here : List Int) (p : Nat) (left : List (List Int)) : List (List Int) :=
  left.map fun o => if vz o p ≠ 0 then lwless here o p else o

/-- what holds of each line that is left -/
def LEl (w B : Nat) (ps : List (Nat × V)) (I : List V) (x : List Int) : Prop :=
  x.length = w ∧ (∃ r : V, (∀ j, (r j).natAbs ≤ B) ∧ Sp (r :: I) (vz x)) ∧ (∀ p ∈ ps, vz x p.1 = 0) ∧
    (Bd B x ∨ (∀ j, vz x j = 0) ∨ ∀ e : Int, (∀ j, e ∣ vz x j) → e.natAbs = 1)

structure LInv (w B : Nat) (ps : List (Nat × V)) (I : List V) (left : List (List Int)) : Prop where
  tri : Tri ps
  len : I.length = ps.length
  sp : ∀ p ∈ ps, Sp I p.2
  bd : ∀ v ∈ I, ∀ j, (v j).natAbs ≤ B
  el : ∀ x ∈ left, LEl w B ps I x

theorem LInv.bound {w B n : Nat} {ps I left} (h : LInv w B ps I left) (hB : 1 ≤ B) (hn : ps.length < n) : ∀ x ∈ left, Bd ((2 * n * B) ^ n) x := by
  intro x hx
  obtain ⟨h1, ⟨r, hr, hs⟩, h3, h4⟩ := h.el x hx
  have hBQ : B ≤ (2 * n * B) ^ n := by
    have h1 : B ≤ 2 * n * B := Nat.le_mul_of_pos_left _ (by omega)
    have h2 : (2 * n * B) ^ 1 ≤ (2 * n * B) ^ n := Nat.pow_le_pow_right (Nat.mul_pos (by omega) hB) (by omega)
    rw [Nat.pow_one] at h2; omega
  rcases h4 with h4 | h4 | h4
  · exact h4.le hBQ
  · apply Bd.of; intro j; rw [h4 j]; simp
  · apply Bd.of; intro j
    by_cases hz : ∀ j, vz x j = 0
    · rw [hz j]; simp
    · have ⟨q, hq⟩ : ∃ q, vz x q ≠ 0 := by
        apply Classical.byContradiction; intro hn; exact hz fun j => Classical.byContradiction fun h => hn ⟨j, h⟩
      have := pivot_bound (R := r :: I) hB (fun v hv => by
        rcases List.mem_cons.mp hv with rfl | hv
        · exact hr
        · exact h.bd v hv) h.tri (fun p hp => (h.sp p hp).mono (by simp +contextual)) (by simp [h.len]) hs hq h3 h4 j
      refine Nat.le_trans this ?_
      simp only [List.length_cons, h.len]
      exact pow_grow (Nat.mul_pos (by omega) hB) (Nat.mul_le_mul_right _ (by omega)) (by omega)

theorem LInv.next {w B : Nat} {ps I left here} (h : LInv w B ps I (left ++ [here])) {p : Nat} (hp : vz here p ≠ 0) :
    ∃ ps' I', ps'.length = ps.length + 1 ∧ LInv w B ps' I' (lwmap here p left) := by
  obtain ⟨h1, ⟨r, hr, hs⟩, h3, h4⟩ := h.el here (by simp)
  refine ⟨ps ++ [(p, vz here)], r :: I, by simp, tri_snoc h.tri hp h3, by simp [h.len], ?_, ?_, ?_⟩
  · intro q hq
    rcases List.mem_append.mp hq with hq | hq
    · exact (h.sp q hq).mono (by simp +contextual)
    · simp at hq; subst hq; exact hs
  · intro v hv
    rcases List.mem_cons.mp hv with rfl | hv
    · exact hr
    · exact h.bd v hv
  · intro x hx
    obtain ⟨o, ho, rfl⟩ := List.mem_map.mp hx
    obtain ⟨g1, ⟨s, gs, gsp⟩, g3, g4⟩ := h.el o (by simp [ho])
    split
    · rename_i hop
      obtain ⟨⟨d, d0, hd⟩, l2, l3⟩ := lwless_spec (p := p) h1 g1
      refine ⟨l2, ⟨s, gs, ?_⟩, ?_, .inr l3⟩
      · exact Sp.dlin (hs.mono (by simp +contextual)) (gsp.mono (by simp; grind)) (vz o p) (-vz here p) d d0 fun j => by
          have := hd j; grind
      · intro q hq
        have := hd q.1
        have hz : vz here q.1 = 0 ∨ q.1 = p := by
          rcases List.mem_append.mp hq with hq | hq
          · exact .inl (h3 q hq)
          · simp at hq; exact .inr (by rw [hq])
        have : d * vz (lwless here o p) q.1 = 0 := by
          rcases List.mem_append.mp hq with hq | hq
          · rw [this, h3 q hq, g3 q hq]; simp
          · simp at hq; rw [this, hq]; simp; grind
        exact (Int.mul_eq_zero.mp this).resolve_left d0
    · rename_i hop
      refine ⟨g1, ⟨s, gs, gsp.mono (by simp; grind)⟩, ?_, g4⟩
      intro q hq
      rcases List.mem_append.mp hq with hq | hq
      · exact g3 q hq
      · simp at hq; rw [hq]; simpa using hop

theorem LInv.skip {w B : Nat} {ps I left here} (h : LInv w B ps I (left ++ [here])) : LInv w B ps I left :=
  ⟨h.tri, h.len, h.sp, h.bd, fun x hx => h.el x (by simp [hx])⟩

theorem linv_nil {w B : Nat} {rows : List (List Int)} (h : ∀ r ∈ rows, r.length = w ∧ Bd B r) : LInv w B [] [] rows :=
  ⟨trivial, rfl, by simp, by simp, fun x hx => ⟨(h x hx).1, ⟨vz x, fun j => (h x hx).2.vz j, Sp.mem (by simp)⟩, by simp, .inl (h x hx).2⟩⟩

theorem rk_last (left : List (List Int)) (here : List Int) : rk ((left ++ [here]).map vz) = rk (vz here :: left.map vz) :=
  rk_perm fun v => by simp; grind

theorem lw_rank {w p : Nat} {left : List (List Int)} {here : List Int} (h1 : here.length = w) (h2 : ∀ x ∈ left, x.length = w) (hp : vz here p ≠ 0) :
    rk ((left ++ [here]).map vz) = 1 + rk ((lwmap here p left).map vz) := by
  rw [rk_last]
  apply rk_cons_pivot hp
  · intro x hx
    simp only [lwmap, List.map_map, List.mem_map, Function.comp] at hx
    obtain ⟨o, ho, rfl⟩ := hx
    split
    · obtain ⟨⟨d, d0, hd⟩, _, _⟩ := lwless_spec (p := p) h1 (h2 o ho)
      have := hd p
      have : d * vz (lwless here o p) p = 0 := by rw [this]; grind
      exact (Int.mul_eq_zero.mp this).resolve_left d0
    · rename_i h; simpa using h
  · intro x hx
    obtain ⟨o, ho, rfl⟩ := List.mem_map.mp hx
    by_cases hop : vz o p = 0
    · exact Sp.mem (by simp [lwmap]; right; exact ⟨o, ho, by simp [hop]⟩)
    · obtain ⟨⟨d, d0, hd⟩, _, _⟩ := lwless_spec (p := p) h1 (h2 o ho)
      have hm : Sp (vz here :: (lwmap here p left).map vz) (vz (lwless here o p)) := Sp.mem (by
        simp [lwmap]; right; exact ⟨o, ho, by simp [hop]⟩)
      exact Sp.dlin (Sp.mem (w := vz here) (by simp)) hm (vz o p) (-d) (vz here p) hp fun j => by have := hd j; grind
  · intro x hx
    simp only [lwmap, List.map_map, List.mem_map, Function.comp] at hx
    obtain ⟨o, ho, rfl⟩ := hx
    have hom : Sp (vz here :: left.map vz) (vz o) := Sp.mem (by simp; right; exact ⟨o, ho, rfl⟩)
    split
    · obtain ⟨⟨d, d0, hd⟩, _, _⟩ := lwless_spec (p := p) h1 (h2 o ho)
      exact Sp.dlin (Sp.mem (w := vz here) (by simp)) hom (vz o p) (-vz here p) d d0 fun j => by have := hd j; grind
    · exact hom

end RK

namespace RK

theorem Sp.coef {W : List V} {v : V} (h : Sp W v) : ∃ (d : Int) (cs : List Int), d ≠ 0 ∧ cs.length = W.length ∧ ∀ j, d * v j = lc cs W j := by
  induction W generalizing v with
  | nil => exact ⟨1, [], by decide, rfl, fun j => by simp [h.nil j, lc, zr]⟩
  | cons w W ih =>
    obtain ⟨d, a, y, hd, hy, e⟩ := h.split
    obtain ⟨d', cs, hd', hl, e'⟩ := ih hy
    refine ⟨d' * d, (d' * a) :: cs, Int.mul_ne_zero hd' hd, by simp [hl], fun j => ?_⟩
    have h1 := e j; have h2 := e' j
    simp only [lc]; rw [← h2]; grind

theorem ind_of_lc {vs : List V} (h : ∀ cs : List Int, cs.length = vs.length → (∀ j, lc cs vs j = 0) → ∀ c ∈ cs, c = 0) : Ind vs := by
  induction vs with
  | nil => trivial
  | cons v vs ih =>
    refine ⟨fun hs => ?_, ih fun cs hl hz => ?_⟩
    · obtain ⟨d, cs, hd, hl, e⟩ := hs.coef
      have := h ((-d) :: cs) (by simp [hl]) (fun j => by have := e j; simp only [lc]; grind) (-d) (by simp)
      omega
    · intro c hc
      exact h (0 :: cs) (by simp [hl]) (fun j => by simpa [lc] using hz j) c (by simp [hc])

/-- a list whose members come of a map is a map of a list -/
theorem unmap {α β : Type} {f : α → β} {L : List α} : ∀ {C : List β}, (∀ b ∈ C, b ∈ L.map f) → ∃ ps : List α, C = ps.map f ∧ ∀ p ∈ ps, p ∈ L
  | [], _ => ⟨[], rfl, by simp⟩
  | b :: C, h => by
    obtain ⟨ps, e, hp⟩ := unmap (C := C) fun x hx => h x (by simp [hx])
    obtain ⟨a, ha, rfl⟩ := List.mem_map.mp (h b (by simp))
    exact ⟨a :: ps, by simp [e], fun p hp' => by
      rcases List.mem_cons.mp hp' with rfl | hp'
      · exact ha
      · exact hp p hp'⟩

abbrev Pt := Int × Int × Int
abbrev Tr := Nat × Nat × Nat
def mono (m : Tr) (p : Pt) : Int := p.1 ^ m.1 * p.2.1 ^ m.2.1 * p.2.2 ^ m.2.2
/-- the triples of a degree, falling -/
def trs (d : Nat) : List Tr := (List.range (d + 1)).flatMap fun a => (List.range (a + 1)).map fun b => (d - a, a - b, b)
theorem mem_trs {d : Nat} {m : Tr} : m ∈ trs d ↔ m.1 + m.2.1 + m.2.2 = d := by
  unfold trs
  simp only [List.mem_flatMap, List.mem_range, List.mem_map]
  constructor
  · rintro ⟨a, ha, b, hb, rfl⟩
    dsimp only; omega
  · intro h
    refine ⟨m.2.1 + m.2.2, by omega, m.2.2, by omega, ?_⟩
    ext <;> dsimp only <;> omega
theorem trs_length (d : Nat) : 2 * (trs d).length = (d + 1) * (d + 2) := by
  have key : ∀ (d n : Nat), 2 * ((List.range n).flatMap fun a => (List.range (a + 1)).map fun b => ((d - a, a - b, b) : Tr)).length = n * (n + 1) := by
    intro d n
    induction n with
    | zero => rfl
    | succ n ih =>
      rw [List.range_succ, List.flatMap_append, List.length_append, Nat.mul_add, ih]
      simp
      grind
  exact key d (d + 1)
def cnd (d : Nat) (p : Pt) : List Int := (trs d).map fun m => mono m p
theorem cnd_length (d p) : (cnd d p).length = (trs d).length := by simp [cnd]

/-- a sum over points -/
def sumc : List Int → List Pt → (Pt → Int) → Int
  | c :: cs, p :: ps, f => c * f p + sumc cs ps f
  | _, _, _ => 0
theorem lc_sumc (cs : List Int) (ps : List Pt) (g : Pt → V) (j : Nat) : lc cs (ps.map g) j = sumc cs ps fun p => g p j := by
  induction ps generalizing cs with
  | nil => cases cs <;> simp [lc, sumc, zr]
  | cons p ps ih => cases cs with
    | nil => simp [lc, sumc, zr]
    | cons c cs => simp [lc, sumc, ih]
theorem sumc_congr {cs : List Int} {ps : List Pt} {f g : Pt → Int} (h : ∀ p ∈ ps, f p = g p) : sumc cs ps f = sumc cs ps g := by
  induction ps generalizing cs with
  | nil => cases cs <;> rfl
  | cons p ps ih => cases cs with
    | nil => rfl
    | cons c cs => simp only [sumc]; rw [h p (by simp), ih fun q hq => h q (by simp [hq])]
theorem sumc_lin (cs : List Int) (ps : List Pt) (f g : Pt → Int) (a b : Int) : sumc cs ps (fun p => a * f p + b * g p) = a * sumc cs ps f + b * sumc cs ps g := by
  induction ps generalizing cs with
  | nil => cases cs <;> simp [sumc]
  | cons p ps ih => cases cs with
    | nil => simp [sumc]
    | cons c cs => simp only [sumc, ih]; grind
theorem sumc_smul (cs : List Int) (ps : List Pt) (l f : Pt → Int) : sumc (cs.zipWith (· * ·) (ps.map l)) ps f = sumc cs ps fun p => l p * f p := by
  induction ps generalizing cs with
  | nil => cases cs <;> simp [sumc]
  | cons p ps ih => cases cs with
    | nil => simp [sumc]
    | cons c cs => simp only [List.map_cons, List.zipWith_cons_cons, sumc, ih]; grind
theorem cnd_zero {cs : List Int} {ps : List Pt} {d : Nat} : (∀ j, lc cs (ps.map fun p => vz (cnd d p)) j = 0) ↔ ∀ m, m ∈ trs d → sumc cs ps (mono m) = 0 := by
  constructor
  · intro h m hm
    obtain ⟨j, hj, rfl⟩ := List.getElem_of_mem hm
    have := h j
    rw [lc_sumc] at this
    rw [← this]
    exact sumc_congr fun p _ => by simp [vz, cnd, List.getD, hj]
  · intro h j
    rw [lc_sumc]
    by_cases hj : j < (trs d).length
    · rw [← h _ (List.getElem_mem hj)]
      exact sumc_congr fun p _ => by simp [vz, cnd, List.getD, hj]
    · have : ∀ cs, sumc cs ps (fun _ => 0) = 0 := fun cs => by
        have := sumc_lin cs ps (fun _ => 0) (fun _ => 0) 0 0
        simpa using this
      rw [← this cs]
      exact sumc_congr fun p _ => vz_out (by simp [cnd]; omega)
/-- linear forms -/
def lf (a : Pt) (p : Pt) : Int := a.1 * p.1 + a.2.1 * p.2.1 + a.2.2 * p.2.2
theorem mono_x (m : Tr) (p : Pt) : mono (m.1 + 1, m.2.1, m.2.2) p = p.1 * mono m p := by simp [mono, Int.pow_succ]; grind
theorem mono_y (m : Tr) (p : Pt) : mono (m.1, m.2.1 + 1, m.2.2) p = p.2.1 * mono m p := by simp [mono, Int.pow_succ]; grind
theorem mono_z (m : Tr) (p : Pt) : mono (m.1, m.2.1, m.2.2 + 1) p = p.2.2 * mono m p := by simp [mono, Int.pow_succ]; grind
/-- a relation at a degree, times a line, is one at the degree below -/
theorem rel_line {cs : List Int} {ps : List Pt} {d : Nat} (h : ∀ m, m ∈ trs (d + 1) → sumc cs ps (mono m) = 0) (a : Pt) :
    ∀ m, m ∈ trs d → sumc (cs.zipWith (· * ·) (ps.map (lf a))) ps (mono m) = 0 := by
  intro m hm
  rw [mem_trs] at hm
  rw [sumc_smul]
  have e : (fun p => lf a p * mono m p) = fun p => a.1 * mono (m.1 + 1, m.2.1, m.2.2) p + 1 * (a.2.1 * mono (m.1, m.2.1 + 1, m.2.2) p + a.2.2 * mono (m.1, m.2.1, m.2.2 + 1) p) := by
    funext p
    rw [mono_x, mono_y, mono_z]; simp only [lf]; grind
  rw [e, sumc_lin, sumc_lin, h _ (mem_trs.mpr (by dsimp only; omega)), h _ (mem_trs.mpr (by dsimp only; omega)), h _ (mem_trs.mpr (by dsimp only; omega))]
  simp
theorem zip_mul_zero {cs : List Int} {ps : List Pt} {l : Pt → Int} (hl : cs.length = ps.length) (h : ∀ c ∈ cs.zipWith (· * ·) (ps.map l), c = 0) :
    ∀ i (h1 : i < cs.length) (h2 : i < ps.length), cs[i] * l ps[i] = 0 := by
  intro i h1 h2
  apply h
  have : (cs.zipWith (· * ·) (ps.map l))[i]'(by simp; omega) = cs[i] * l ps[i] := by simp
  rw [← this]; exact List.getElem_mem _
def nz (p : Pt) : Prop := p.1 ≠ 0 ∨ p.2.1 ≠ 0 ∨ p.2.2 ≠ 0
/-- what is independent at a degree is so at the next one -/
theorem ind_up {ps : List Pt} (hp : ∀ p ∈ ps, nz p) {d : Nat} (h : Ind (ps.map fun p => vz (cnd d p))) : Ind (ps.map fun p => vz (cnd (d + 1) p)) := by
  apply ind_of_lc
  intro cs hl hz
  rw [cnd_zero] at hz
  have hl' : cs.length = ps.length := by simpa using hl
  have key : ∀ a : Pt, ∀ i (h1 : i < cs.length) (h2 : i < ps.length), cs[i] * lf a ps[i] = 0 := fun a =>
    zip_mul_zero hl' (lc_ind h _ (by simp; omega) (cnd_zero.mpr (rel_line hz a)))
  intro c hc
  obtain ⟨i, hi, rfl⟩ := List.getElem_of_mem hc
  have q1 := key (1, 0, 0) i hi (by omega)
  have q2 := key (0, 1, 0) i hi (by omega)
  have q3 := key (0, 0, 1) i hi (by omega)
  simp only [lf] at q1 q2 q3
  have hn := hp _ (List.getElem_mem (show i < ps.length by omega))
  apply Classical.byContradiction
  intro hc0
  rcases hn with hn | hn | hn
  · exact hn ((Int.mul_eq_zero.mp (by simpa using q1)).resolve_left hc0)
  · exact hn ((Int.mul_eq_zero.mp (by simpa using q2)).resolve_left hc0)
  · exact hn ((Int.mul_eq_zero.mp (by simpa using q3)).resolve_left hc0)
/-- the number of independent conditions -/
noncomputable def hh (d : Nat) (ps : List Pt) : Nat := rk (ps.map fun p => vz (cnd d p))
theorem hh_basis (d : Nat) (ps : List Pt) : ∃ qs : List Pt, (∀ q ∈ qs, q ∈ ps) ∧ Ind (qs.map fun p => vz (cnd d p)) ∧ qs.length = hh d ps ∧ ∀ p ∈ ps, Sp (qs.map fun p => vz (cnd d p)) (vz (cnd d p)) := by
  obtain ⟨B, h1, h2, h3, h4⟩ := rk_spec (ps.map fun p => vz (cnd d p))
  obtain ⟨qs, rfl, hq⟩ := unmap h1
  exact ⟨qs, hq, h2, by rw [hh, ← h4]; simp, fun p hp => h3 _ (List.mem_map.mpr ⟨p, hp, rfl⟩)⟩
theorem hh_up {ps : List Pt} (hp : ∀ p ∈ ps, nz p) (d : Nat) : hh d ps ≤ hh (d + 1) ps := by
  obtain ⟨qs, h1, h2, h3, _⟩ := hh_basis d ps
  have := ind_le_rk (L := ps.map fun p => vz (cnd (d + 1) p)) (ind_up (fun p hp' => hp p (h1 p hp')) h2) fun b hb => by
    obtain ⟨q, hq, rfl⟩ := List.mem_map.mp hb
    exact Sp.mem (List.mem_map.mpr ⟨q, h1 q hq, rfl⟩)
  rw [← h3]
  simpa [hh] using this
theorem hh_mono {ps qs : List Pt} (h : ∀ p ∈ ps, p ∈ qs) (d : Nat) : hh d ps ≤ hh d qs :=
  rk_mono fun v hv => by
    obtain ⟨p, hp, rfl⟩ := List.mem_map.mp hv
    exact List.mem_map.mpr ⟨p, h p hp, rfl⟩
theorem hh_perm {ps qs : List Pt} (h : ∀ p, p ∈ ps ↔ p ∈ qs) (d : Nat) : hh d ps = hh d qs :=
  Nat.le_antisymm (hh_mono (fun p hp => (h p).mp hp) d) (hh_mono (fun p hp => (h p).mpr hp) d)
theorem hh_le_length (ps : List Pt) (d : Nat) : hh d ps ≤ ps.length := by simpa [hh] using rk_le_length (ps.map fun p => vz (cnd d p))
def crs (p q : Pt) : Pt := (p.2.1 * q.2.2 - p.2.2 * q.2.1, p.2.2 * q.1 - p.1 * q.2.2, p.1 * q.2.1 - p.2.1 * q.1)
/-- points that are no multiples of one another -/
def unl (p q : Pt) : Prop := nz (crs p q)
theorem pow_nz {x : Int} (h : x ≠ 0) (n : Nat) : x ^ n ≠ 0 := by
  induction n with
  | zero => simp
  | succ n ih => rw [Int.pow_succ]; exact Int.mul_ne_zero ih h
/-- few points never fail -/
theorem rel_few {ps : List Pt} (hp : ∀ p ∈ ps, nz p) (hu : ps.Pairwise unl) : ∀ {d : Nat} {cs : List Int}, ps.length ≤ d + 1 → cs.length = ps.length →
    (∀ m, m ∈ trs d → sumc cs ps (mono m) = 0) → ∀ c ∈ cs, c = 0 := by
  induction ps with
  | nil => intro d cs _ hl _; cases cs with
    | nil => simp
    | cons c cs => simp at hl
  | cons q ps ih =>
    intro d cs hd hl hz
    cases cs with
    | nil => simp
    | cons c cs =>
      have hl' : cs.length = ps.length := by simpa using hl
      have hq := hp q (by simp)
      have hu1 := (List.pairwise_cons.mp hu).1
      have hrest : ∀ x ∈ cs, x = 0 := by
        cases d with
        | zero =>
          have : ps = [] := by cases ps with
            | nil => rfl
            | cons p ps => simp at hd
          subst this
          have : cs = [] := by cases cs with
            | nil => rfl
            | cons p ps => simp at hl'
          simp [this]
        | succ d =>
          have key : ∀ a : Pt, lf a q = 0 → ∀ i (h1 : i < cs.length) (h2 : i < ps.length), cs[i] * lf a ps[i] = 0 := by
            intro a ha
            apply zip_mul_zero hl'
            apply ih (fun p hp' => hp p (by simp [hp'])) (List.pairwise_cons.mp hu).2 (d := d) (by simp at hd; omega) (by simp; omega)
            intro m hm
            have := rel_line hz a m hm
            simpa [sumc, ha] using this
          intro x hx
          obtain ⟨i, hi, rfl⟩ := List.getElem_of_mem hx
          have hi2 : i < ps.length := by omega
          have q1 := key (0, q.2.2, -q.2.1) (by simp only [lf]; grind) i hi hi2
          have q2 := key (-q.2.2, 0, q.1) (by simp only [lf]; grind) i hi hi2
          have q3 := key (q.2.1, -q.1, 0) (by simp only [lf]; grind) i hi hi2
          simp only [lf] at q1 q2 q3
          have hn := hu1 _ (List.getElem_mem hi2)
          apply Classical.byContradiction
          intro hc0
          unfold unl nz crs at hn
          dsimp only at hn
          have r1 := (Int.mul_eq_zero.mp q1).resolve_left hc0
          have r2 := (Int.mul_eq_zero.mp q2).resolve_left hc0
          have r3 := (Int.mul_eq_zero.mp q3).resolve_left hc0
          revert r1 r2 r3 hn
          generalize ps[i] = P
          obtain ⟨x, y, z⟩ := P
          obtain ⟨a, b, c⟩ := q
          intro hn r1 r2 r3
          dsimp only at r1 r2 r3 hn
          rcases hn with hn | hn | hn <;> apply hn <;> grind
      have hs0 : ∀ (cs : List Int) (ps : List Pt) (f : Pt → Int), (∀ x ∈ cs, x = 0) → sumc cs ps f = 0 := by
        intro cs
        induction cs with
        | nil => intro ps f _; rfl
        | cons c cs ih' => intro ps f h; cases ps with
          | nil => rfl
          | cons p ps => simp only [sumc]; rw [h c (by simp), ih' ps f fun x hx => h x (by simp [hx])]; simp
      have hc : c = 0 := by
        have z := fun m hm => by have := hz m hm; rwa [sumc, hs0 cs ps _ hrest, Int.add_zero] at this
        apply Classical.byContradiction
        intro hc0
        rcases hq with hn | hn | hn
        · have := z (d, 0, 0) (mem_trs.mpr (by simp))
          exact Int.mul_ne_zero hc0 (pow_nz hn d) (by simpa [mono] using this)
        · have := z (0, d, 0) (mem_trs.mpr (by simp))
          exact Int.mul_ne_zero hc0 (pow_nz hn d) (by simpa [mono] using this)
        · have := z (0, 0, d) (mem_trs.mpr (by simp))
          exact Int.mul_ne_zero hc0 (pow_nz hn d) (by simpa [mono] using this)
      intro x hx
      rcases List.mem_cons.mp hx with rfl | hx
      · exact hc
      · exact hrest x hx
theorem hh_few {ps : List Pt} (hp : ∀ p ∈ ps, nz p) (hu : ps.Pairwise unl) {d : Nat} (h : ps.length ≤ d + 1) : hh d ps = ps.length := by
  have : Ind (ps.map fun p => vz (cnd d p)) := ind_of_lc fun cs hl hz => rel_few hp hu h (by simpa using hl) (cnd_zero.mp hz)
  rw [hh, rk_ind this, List.length_map]
theorem hh_zero {ps : List Pt} (h : ps ≠ []) : hh 0 ps = 1 := by
  obtain ⟨p, hp⟩ := List.exists_mem_of_ne_nil ps h
  have : hh 0 ps = hh 0 [p] := by
    apply rk_congr
    · intro v hv
      obtain ⟨q, hq, rfl⟩ := List.mem_map.mp hv
      exact (Sp.mem (w := vz (cnd 0 p)) (by simp)).congr fun j => by simp [cnd, trs, mono]
    · intro v hv
      obtain ⟨q, hq, rfl⟩ := List.mem_map.mp hv
      simp at hq
      exact Sp.mem (List.mem_map.mpr ⟨p, hp, by rw [hq]⟩)
  rw [this]
  have i : Ind ([p].map fun p => vz (cnd 0 p)) := ⟨fun hs => by
    have := hs.nil 0
    simp [vz, cnd, trs, mono] at this, trivial⟩
  rw [hh, rk_ind i]; rfl
theorem hh_le_trs (ps : List Pt) (d : Nat) : hh d ps ≤ (trs d).length := by
  apply Nat.le_trans (rk_le_of (W := (List.range (trs d).length).map fun i => (fun j => if j = i then 1 else 0 : V)) ?_)
  · simp
  · intro v hv
    obtain ⟨p, hp, rfl⟩ := List.mem_map.mp hv
    have key : ∀ n, Sp ((List.range n).map fun i => (fun j => if j = i then 1 else 0 : V)) (fun j => if j < n then vz (cnd d p) j else 0) := by
      intro n
      induction n with
      | zero => exact Sp.zero.congr fun j => by simp [zr]
      | succ n ih =>
        refine Sp.lin (ih.mono ?_) (Sp.mem (w := fun j => if j = n then 1 else 0) (List.mem_map.mpr ⟨n, by simp, rfl⟩)) 1 (vz (cnd d p) n) fun j => ?_
        · intro w hw
          obtain ⟨i, hi, rfl⟩ := List.mem_map.mp hw
          simp at hi
          exact List.mem_map.mpr ⟨i, by simp; omega, rfl⟩
        · by_cases h1 : j < n
          · simp [h1, show j < n + 1 by omega, show j ≠ n by omega]
          · by_cases h2 : j = n
            · simp [h2]
            · simp [h1, h2, show ¬ j < n + 1 by omega]
    refine (key (trs d).length).congr fun j => ?_
    split
    · rfl
    · rw [vz_out (by rw [cnd_length]; omega)]
end RK

namespace RK
/-! Told points. -/
theorem leadZ_iff {l : List Int} {p : Nat} : leadZ l = some p ↔ vz l p ≠ 0 ∧ ∀ i, i < p → vz l i = 0 := by
  unfold leadZ
  rw [List.findIdx?_eq_some_iff_getElem]
  constructor
  · rintro ⟨h1, h2, h3⟩
    refine ⟨by rw [← vz_get h1]; simpa using h2, fun i hi => ?_⟩
    have := h3 i hi
    rw [← vz_get (by omega)]; simpa using this
  · rintro ⟨h1, h2⟩
    have hp : p < l.length := by
      apply Classical.byContradiction; intro hn; exact h1 (vz_out (by omega))
    refine ⟨hp, by rw [vz_get hp]; simpa using h1, fun i hi => ?_⟩
    have := h2 i hi
    rw [vz_get (by omega)]; simpa using this
theorem lead_ex {l : List Int} (h : ∃ j, vz l j ≠ 0) : ∃ p, leadZ l = some p := by
  cases e : leadZ l with
  | some p => exact ⟨p, rfl⟩
  | none => obtain ⟨j, hj⟩ := h; exact absurd (leadZ_none e j) hj
def Prim (l : List Int) : Prop := ∀ e : Int, (∀ j, e ∣ vz l j) → e.natAbs = 1
def IsTold (l : List Int) : Prop := Prim l ∧ ∃ p, leadZ l = some p ∧ 0 < vz l p
def signZ (l : List Int) : List Int := match leadZ l with
  | none => l
  | some p => if 0 < vz l p then l else l.map (0 - ·)
def toldL (l : List Int) : List Int := signZ (plainZ l)
theorem vz_neg (l : List Int) (j) : vz (l.map (0 - ·)) j = - vz l j := by
  by_cases hj : j < l.length
  · rw [← vz_get (by simpa using hj), ← vz_get hj]; simp
  · rw [vz_out (by simp; omega), vz_out (by omega)]; rfl
theorem signZ_length (l) : (signZ l).length = l.length := by
  unfold signZ
  split
  · rfl
  · split <;> simp
theorem toldL_length (l) : (toldL l).length = l.length := by rw [toldL, signZ_length, plainZ_length]
theorem signZ_eq (l : List Int) : ∃ d : Int, (d = 1 ∨ d = -1) ∧ ∀ j, vz l j = d * vz (signZ l) j := by
  unfold signZ
  split
  · exact ⟨1, .inl rfl, fun j => by simp⟩
  · split
    · exact ⟨1, .inl rfl, fun j => by simp⟩
    · exact ⟨-1, .inr rfl, fun j => by rw [vz_neg]; simp⟩
theorem toldL_spec {l : List Int} (h : ∃ j, vz l j ≠ 0) : IsTold (toldL l) ∧ ∃ d : Int, d ≠ 0 ∧ ∀ j, vz l j = d * vz (toldL l) j := by
  obtain ⟨a, ha, ea⟩ := plainZ_eq l
  obtain ⟨b, hb, eb⟩ := signZ_eq (plainZ l)
  have hb0 : b ≠ 0 := by omega
  obtain ⟨j0, hj0⟩ := h
  have hpl : vz (plainZ l) j0 ≠ 0 := fun e => hj0 (by rw [ea, e]; simp)
  refine ⟨⟨fun e he => ?_, ?_⟩, a * b, Int.mul_ne_zero ha hb0, fun j => by rw [ea, eb]; simp only [toldL]; grind⟩
  · exact plainZ_prim hpl e fun j => by rw [eb]; exact Int.dvd_mul_of_dvd_right (he j)
  · obtain ⟨p, hp⟩ := lead_ex (l := plainZ l) ⟨j0, hpl⟩
    have hp' := leadZ_iff.mp hp
    have e : toldL l = if 0 < vz (plainZ l) p then plainZ l else (plainZ l).map (0 - ·) := by
      simp only [toldL, signZ, hp]
    rw [e]
    split
    · exact ⟨p, hp, by assumption⟩
    · refine ⟨p, leadZ_iff.mpr ⟨by rw [vz_neg]; omega, fun i hi => by rw [vz_neg, hp'.2 i hi]; rfl⟩, by rw [vz_neg]; omega⟩
theorem cop_dvd {a b c : Int} (h : a ∣ b * c) (hc : Int.gcd a b = 1) : a ∣ c := by
  have h1 := Int.natAbs_dvd_natAbs.mpr h
  rw [Int.natAbs_mul] at h1
  have hc' : Nat.Coprime a.natAbs b.natAbs := hc
  exact Int.natAbs_dvd_natAbs.mp (hc'.dvd_of_dvd_mul_left h1)
theorem told_uniq {s t : List Int} (hs : IsTold s) (ht : IsTold t) (hl : s.length = t.length) {a b : Int} (ha : a ≠ 0) (hb : b ≠ 0) (h : ∀ j, a * vz s j = b * vz t j) : s = t := by
  have hg : 0 < Int.gcd a b := Int.gcd_pos_of_ne_zero_left _ ha
  obtain ⟨a', ha'⟩ := Int.gcd_dvd_left (a := a) (b := b)
  obtain ⟨b', hb'⟩ := Int.gcd_dvd_right (a := a) (b := b)
  obtain ⟨g, hgd⟩ : ∃ g, g = Int.gcd a b := ⟨_, rfl⟩
  rw [← hgd] at ha' hb' hg
  have hc : Int.gcd a' b' = 1 := by
    have h1 : Int.gcd ((g : Int) * a') ((g : Int) * b') = g * Int.gcd a' b' := by
      rw [Int.gcd_mul_left]; simp
    rw [← ha', ← hb', ← hgd] at h1
    have : g * 1 = g * Int.gcd a' b' := by rw [Nat.mul_one]; exact h1
    exact (Nat.eq_of_mul_eq_mul_left hg this).symm
  have hj : ∀ j, a' * vz s j = b' * vz t j := fun j => by
    have := h j
    rw [ha', hb'] at this
    have h2 : (g : Int) * (a' * vz s j) = (g : Int) * (b' * vz t j) := by
      rw [← Int.mul_assoc, ← Int.mul_assoc]; exact this
    exact Int.eq_of_mul_eq_mul_left (by omega) h2
  have d1 : a'.natAbs = 1 := ht.1 a' fun j => by
    have : a' ∣ b' * vz t j := ⟨vz s j, (hj j).symm⟩
    exact cop_dvd this hc
  have d2 : b'.natAbs = 1 := hs.1 b' fun j => by
    have : b' ∣ a' * vz s j := ⟨vz t j, hj j⟩
    exact cop_dvd this (by rw [Int.gcd_comm]; exact hc)
  obtain ⟨p, hp, hp0⟩ := hs.2
  obtain ⟨q, hq, hq0⟩ := ht.2
  have hz : ∀ j, vz s j = 0 ↔ vz t j = 0 := fun j => by
    have := hj j
    constructor
    · intro e; rw [e] at this; exact (Int.mul_eq_zero.mp (by rw [← this]; simp)).resolve_left (show b' ≠ 0 by omega)
    · intro e; rw [e] at this; exact (Int.mul_eq_zero.mp (by rw [this]; simp)).resolve_left (show a' ≠ 0 by omega)
  have hpq : p = q := by
    have e1 := leadZ_iff.mp hp
    have e2 := leadZ_iff.mp hq
    rcases Nat.lt_trichotomy p q with h1 | h1 | h1
    · exact absurd ((hz p).mpr (e2.2 p h1)) e1.1
    · exact h1
    · exact absurd ((hz q).mp (e1.2 q h1)) e2.1
  subst hpq
  have hjp := hj p
  have key : ∀ j, vz s j = vz t j := by
    have c1 : a' = 1 ∨ a' = -1 := by omega
    have c2 : b' = 1 ∨ b' = -1 := by omega
    intro j
    have := hj j
    rcases c1 with rfl | rfl <;> rcases c2 with rfl | rfl <;> omega
  apply List.ext_getElem hl
  intro i h1 h2
  rw [vz_get h1, vz_get h2, key]
theorem told_self {t : List Int} (ht : IsTold t) : toldL t = t := by
  obtain ⟨p, hp, hp0⟩ := ht.2
  obtain ⟨h1, d, hd, e⟩ := toldL_spec (l := t) ⟨p, by omega⟩
  exact told_uniq h1 ht (toldL_length t) hd (b := 1) (by decide) fun j => by rw [← e]; simp
/-- multiples are told alike -/
theorem told_like {l m : List Int} (hl : l.length = m.length) (h : ∃ j, vz l j ≠ 0) {a b : Int} (ha : a ≠ 0) (hb : b ≠ 0) (e : ∀ j, a * vz l j = b * vz m j) : toldL l = toldL m := by
  obtain ⟨j0, hj0⟩ := h
  obtain ⟨h1, d, hd, e1⟩ := toldL_spec (l := l) ⟨j0, hj0⟩
  obtain ⟨h2, d', hd', e2⟩ := toldL_spec (l := m) ⟨j0, fun q => by
    have := e j0; rw [q] at this; exact (Int.mul_eq_zero.mp (by rw [this]; simp)).elim ha hj0⟩
  refine told_uniq h1 h2 (by rw [toldL_length, toldL_length, hl]) (a := a * d) (b := b * d') (Int.mul_ne_zero ha hd) (Int.mul_ne_zero hb hd') fun j => ?_
  have := e j
  rw [e1, e2] at this; grind
theorem toldL_bd {l : List Int} {B} (h : Bd B l) : Bd B (toldL l) := by
  have h1 := plainZ_bd h
  obtain ⟨d, hd, e⟩ := signZ_eq (plainZ l)
  apply Bd.of; intro j
  have := h1.vz j
  rw [e j, Int.natAbs_mul] at this
  have : d.natAbs = 1 := by omega
  simp only [toldL]; simp_all

/-! triples of numbers -/
def lp (p : Pt) : List Int := [p.1, p.2.1, p.2.2]
def pt (l : List Int) : Pt := (vz l 0, vz l 1, vz l 2)
theorem pt_lp (p : Pt) : pt (lp p) = p := rfl
theorem lp_pt {l : List Int} (h : l.length = 3) : lp (pt l) = l := by
  match l, h with
  | [a, b, c], _ => rfl
theorem lp_inj {p q : Pt} (h : lp p = lp q) : p = q := by rw [← pt_lp p, h, pt_lp]
theorem nz_iff (p : Pt) : nz p ↔ ∃ j, vz (lp p) j ≠ 0 := by
  constructor
  · rintro (h | h | h)
    · exact ⟨0, h⟩
    · exact ⟨1, h⟩
    · exact ⟨2, h⟩
  · rintro ⟨j, h⟩
    match j with
    | 0 => exact .inl h
    | 1 => exact .inr (.inl h)
    | 2 => exact .inr (.inr h)
    | j + 3 => exact absurd (vz_out (by simp [lp])) h
def told (p : Pt) : Pt := pt (toldL (lp p))
theorem lp_told (p : Pt) : lp (told p) = toldL (lp p) := lp_pt (by rw [toldL_length]; rfl)
def isT (p : Pt) : Prop := IsTold (lp p)
theorem isT_nz {p : Pt} (h : isT p) : nz p := (nz_iff p).mpr (by obtain ⟨q, _, h⟩ := h.2; exact ⟨q, by omega⟩)
theorem told_isT {p : Pt} (h : nz p) : isT (told p) := by
  unfold isT; rw [lp_told]; exact (toldL_spec ((nz_iff p).mp h)).1
theorem told_id {p : Pt} (h : isT p) : told p = p := lp_inj (by rw [lp_told, told_self h])
def smul (c : Int) (p : Pt) : Pt := (c * p.1, c * p.2.1, c * p.2.2)
theorem vz_smul (c p j) : vz (lp (smul c p)) j = c * vz (lp p) j := by
  match j with
  | 0 => rfl
  | 1 => rfl
  | 2 => rfl
  | j + 3 => rw [vz_out (by simp [lp]), vz_out (by simp [lp])]; simp
theorem told_mul (p : Pt) (h : nz p) : ∃ d : Int, d ≠ 0 ∧ p = smul d (told p) := by
  obtain ⟨_, d, hd, e⟩ := toldL_spec ((nz_iff p).mp h)
  refine ⟨d, hd, ?_⟩
  rw [← lp_told] at e
  have e0 := e 0
  have e1 := e 1
  have e2 := e 2
  exact Prod.ext e0 (Prod.ext e1 e2)
theorem told_alike {p q : Pt} (h : nz p) {a b : Int} (ha : a ≠ 0) (hb : b ≠ 0) (e : smul a p = smul b q) : told p = told q := by
  unfold told
  rw [told_like (l := lp p) (m := lp q) rfl ((nz_iff p).mp h) ha hb fun j => by rw [← vz_smul, ← vz_smul, e]]
theorem told_smul {p : Pt} (h : nz p) {c : Int} (hc : c ≠ 0) : told (smul c p) = told p := by
  refine (told_alike h hc (b := 1) (by decide) ?_).symm
  simp [smul]
theorem told_told {p : Pt} (h : nz p) : told (told p) = told p := told_id (told_isT h)
theorem crs_alike {p q : Pt} (hp : nz p) (hq : nz q) (h : ¬ unl p q) : told p = told q := by
  unfold unl nz crs at h
  simp only [not_or, Decidable.not_not] at h
  obtain ⟨h1, h2, h3⟩ := h
  obtain ⟨x, y, z⟩ := p
  obtain ⟨a, b, c⟩ := q
  dsimp only at h1 h2 h3
  rcases hp with h | h | h <;> dsimp only at h
  · have : a ≠ 0 := by
      rintro rfl
      have e1 : x * c = 0 := by grind
      have e2 : x * b = 0 := by grind
      have r1 := (Int.mul_eq_zero.mp e1).resolve_left h
      have r2 := (Int.mul_eq_zero.mp e2).resolve_left h
      rcases hq with hq | hq | hq <;> simp_all
    refine told_alike (.inl h) this h ?_
    simp only [smul]; refine Prod.ext ?_ (Prod.ext ?_ ?_) <;> dsimp only <;> grind
  · have : b ≠ 0 := by
      rintro rfl
      have e1 : y * c = 0 := by grind
      have e2 : y * a = 0 := by grind
      have r1 := (Int.mul_eq_zero.mp e1).resolve_left h
      have r2 := (Int.mul_eq_zero.mp e2).resolve_left h
      rcases hq with hq | hq | hq <;> simp_all
    refine told_alike (.inr (.inl h)) this h ?_
    simp only [smul]; refine Prod.ext ?_ (Prod.ext ?_ ?_) <;> dsimp only <;> grind
  · have : c ≠ 0 := by
      rintro rfl
      have e1 : z * b = 0 := by grind
      have e2 : z * a = 0 := by grind
      have r1 := (Int.mul_eq_zero.mp e1).resolve_left h
      have r2 := (Int.mul_eq_zero.mp e2).resolve_left h
      rcases hq with hq | hq | hq <;> simp_all
    refine told_alike (.inr (.inr h)) this h ?_
    simp only [smul]; refine Prod.ext ?_ (Prod.ext ?_ ?_) <;> dsimp only <;> grind
theorem unl_told {p q : Pt} (hp : isT p) (hq : isT q) (h : p ≠ q) : unl p q := by
  apply Classical.byContradiction
  intro hn
  have := crs_alike (isT_nz hp) (isT_nz hq) hn
  rw [told_id hp, told_id hq] at this
  exact h this
theorem unl_pairs {ps : List Pt} (hp : ∀ p ∈ ps, isT p) (hn : ps.Nodup) : ps.Pairwise unl := by
  induction ps with
  | nil => exact .nil
  | cons p ps ih =>
    have h := List.nodup_cons.mp hn
    refine .cons (fun q hq => unl_told (hp p (by simp)) (hp q (by simp [hq])) fun e => h.1 (e ▸ hq)) (ih (fun q hq => hp q (by simp [hq])) h.2)
/-- each point told, each once -/
def unlike : List Pt → List Pt → List Pt
  | acc, [] => acc
  | acc, q :: qs => unlike (if told q ∈ acc then acc else acc ++ [told q]) qs
theorem unlike_spec : ∀ (qs acc : List Pt), (∀ q ∈ qs, nz q) → (∀ p ∈ acc, isT p) → acc.Nodup →
    (∀ p ∈ unlike acc qs, isT p) ∧ (unlike acc qs).Nodup ∧ (unlike acc qs).length ≤ acc.length + qs.length ∧ (∀ p, p ∈ unlike acc qs ↔ p ∈ acc ∨ ∃ q ∈ qs, told q = p)
  | [], acc, h1, h2, h3 => ⟨h2, h3, Nat.le_refl _, by simp [unlike]⟩
  | q :: qs, acc, h1, h2, h3 => by
    unfold unlike
    split
    · rename_i hm
      obtain ⟨a, b, c, d⟩ := unlike_spec qs acc (fun x hx => h1 x (by simp [hx])) h2 h3
      refine ⟨a, b, by simp; omega, fun p => ?_⟩
      rw [d]; simp only [List.mem_cons]; grind
    · rename_i hm
      obtain ⟨a, b, c, d⟩ := unlike_spec qs (acc ++ [told q]) (fun x hx => h1 x (by simp [hx]))
        (fun p hp => by
          rcases List.mem_append.mp hp with hp | hp
          · exact h2 p hp
          · simp at hp; rw [hp]; exact told_isT (h1 q (by simp)))
        (by rw [List.nodup_append]; refine ⟨h3, by simp, fun x hx y hy => ?_⟩; simp at hy; rw [hy]; intro e; exact hm (e ▸ hx))
      refine ⟨a, b, by simp at c ⊢; omega, fun p => ?_⟩
      rw [d]; simp only [List.mem_cons, List.mem_append]; grind
/-! tables -/
def row3 (r p : Pt) : Int := r.1 * p.1 + r.2.1 * p.2.1 + r.2.2 * p.2.2
abbrev Tb := Pt × Pt × Pt
def tap (t : Tb) (p : Pt) : Pt := (row3 t.1 p, row3 t.2.1 p, row3 t.2.2 p)
/-- a table that leads nothing to nought -/
def inj (t : Tb) : Prop := ∀ p, nz p → nz (tap t p)
theorem tap_smul (t c p) : tap t (smul c p) = smul c (tap t p) := by
  simp only [tap, row3, smul]; refine Prod.ext ?_ (Prod.ext ?_ ?_) <;> dsimp only <;> grind
theorem tap_diff (t : Tb) (p q : Pt) (a b : Int) (h : smul a (tap t p) = smul b (tap t q)) : tap t (a * p.1 - b * q.1, a * p.2.1 - b * q.2.1, a * p.2.2 - b * q.2.2) = (0, 0, 0) := by
  simp only [tap, row3, smul, Prod.mk.injEq] at h ⊢
  obtain ⟨h1, h2, h3⟩ := h
  exact ⟨by grind, by grind, by grind⟩
theorem led_inj {t : Tb} (ht : inj t) {p q : Pt} (hp : isT p) (hq : isT q) (h : told (tap t p) = told (tap t q)) : p = q := by
  obtain ⟨d, hd, e⟩ := told_mul (tap t p) (ht p (isT_nz hp))
  obtain ⟨d', hd', e'⟩ := told_mul (tap t q) (ht q (isT_nz hq))
  have hs : smul d' (tap t p) = smul d (tap t q) := by
    rw [e, e', h]; simp only [smul]; refine Prod.ext ?_ (Prod.ext ?_ ?_) <;> dsimp only <;> grind
  have hz := tap_diff t p q d' d hs
  have hn : ¬ nz (d' * p.1 - d * q.1, d' * p.2.1 - d * q.2.1, d' * p.2.2 - d * q.2.2) := fun hn => by
    have := ht _ hn
    rw [hz] at this
    rcases this with h | h | h <;> exact h rfl
  unfold nz at hn
  simp only [not_or, Decidable.not_not] at hn
  obtain ⟨h1, h2, h3⟩ := hn
  have := told_alike (isT_nz hp) hd' hd (q := q) (by simp only [smul]; refine Prod.ext ?_ (Prod.ext ?_ ?_) <;> dsimp only <;> omega)
  rwa [told_id hp, told_id hq] at this
end RK

namespace RK
theorem first_of {l : List Int} {p : Nat} (h : leadZ l = some p) : ∃ r, l.filter (fun x => x != 0) = vz l p :: r := by
  induction l generalizing p with
  | nil => cases h
  | cons x l ih =>
    by_cases hx : x = 0
    · subst hx
      have e : leadZ (0 :: l) = (leadZ l).map (· + 1) := by unfold leadZ; rw [List.findIdx?_cons]; simp
      rw [e] at h
      cases hl : leadZ l with
      | none => rw [hl] at h; cases h
      | some q =>
        rw [hl] at h
        simp at h
        subst h
        obtain ⟨r, hr⟩ := ih hl
        exact ⟨r, by simpa [vz] using hr⟩
    · have e : leadZ (x :: l) = some 0 := by unfold leadZ; rw [List.findIdx?_cons]; simp [hx]
      rw [e] at h
      cases h
      exact ⟨l.filter (fun x => x != 0), by simp [hx, vz]⟩
theorem plainZ_div {l : List Int} (h : ∃ j, vz l j ≠ 0) : plainZ l = l.map (· / (gcdL l : Int)) := by
  unfold plainZ
  split
  · rfl
  · have : gcdL l ≠ 0 := by
      intro h0; rw [gcdL_zero] at h0
      obtain ⟨j, hj⟩ := h
      have : j < l.length := by apply Classical.byContradiction; intro hn; exact hj (vz_out (by omega))
      exact hj (h0 _ (vz_mem this))
    have e : gcdL l = 1 := by omega
    rw [e]; simp
theorem toldL_eq {l : List Int} {p : Nat} (h : leadZ l = some p) : toldL l = l.map fun x => if vz l p > 0 then x / (gcdL l : Int) else 0 - x / (gcdL l : Int) := by
  have hp := leadZ_iff.mp h
  have hd := plainZ_div (l := l) ⟨p, hp.1⟩
  have hg : 0 < gcdL l := Nat.pos_of_ne_zero fun h0 => by
    rw [gcdL_zero] at h0
    have : p < l.length := by apply Classical.byContradiction; intro hn; exact hp.1 (vz_out (by omega))
    exact hp.1 (h0 _ (vz_mem this))
  have hv : ∀ j, vz l j = (gcdL l : Int) * vz (plainZ l) j := fun j => by
    rw [hd]; exact (divL_vz (gcdL_dvd l) j).symm
  have hl : leadZ (plainZ l) = some p := leadZ_iff.mpr ⟨fun e => hp.1 (by rw [hv, e]; simp), fun i hi => by
    have := hp.2 i hi
    rw [hv] at this
    exact (Int.mul_eq_zero.mp this).resolve_left (by omega)⟩
  have hs : 0 < vz (plainZ l) p ↔ vz l p > 0 := by
    rw [hv p]
    constructor
    · intro h; exact Int.mul_pos (by omega) h
    · intro h; exact Int.pos_of_mul_pos_right (by simpa using h) (by omega)
  unfold toldL signZ
  rw [hl]
  simp only
  by_cases h0 : vz l p > 0
  · rw [if_pos (hs.mpr h0), hd]; simp [h0]
  · rw [if_neg (fun q => h0 (hs.mp q)), hd]; simp [h0]
end RK

namespace RK
/-! Which rows an echelon keeps. -/
def keepZ (found : List (Nat × List Int)) (r : List Int) : Bool := (leadZ (plainZ (clrZ found r))).isSome
def posZ (found : List (Nat × List Int)) (k : Nat) : List (List Int) → List Nat
  | [] => []
  | r :: rs => if keepZ found r then k :: posZ (stepZ found r) (k + 1) rs else posZ (stepZ found r) (k + 1) rs
def selZ (found : List (Nat × List Int)) : List (List Int) → List (List Int)
  | [] => []
  | r :: rs => if keepZ found r then r :: selZ (stepZ found r) rs else selZ (stepZ found r) rs
theorem step_same {found r} (h : ¬ keepZ found r = true) : stepZ found r = found := by
  unfold keepZ at h
  unfold stepZ
  cases e : leadZ (plainZ (clrZ found r)) with
  | none => rfl
  | some p => rw [e] at h; simp at h
theorem step_more {found r} (h : keepZ found r = true) : (stepZ found r).length = found.length + 1 := by
  unfold keepZ at h
  unfold stepZ
  cases e : leadZ (plainZ (clrZ found r)) with
  | none => rw [e] at h; simp at h
  | some p => simp
theorem sel_fold (rs : List (List Int)) : ∀ found, (selZ found rs).foldl stepZ found = rs.foldl stepZ found := by
  induction rs with
  | nil => intro found; rfl
  | cons r rs ih =>
    intro found
    rw [selZ]
    split
    · rw [List.foldl_cons, List.foldl_cons, ih]
    · rename_i h
      rw [List.foldl_cons]
      have := ih (stepZ found r)
      rw [step_same h] at this ⊢
      exact this
theorem sel_len (rs : List (List Int)) : ∀ found, (rs.foldl stepZ found).length = found.length + (selZ found rs).length := by
  induction rs with
  | nil => intro found; rfl
  | cons r rs ih =>
    intro found
    rw [selZ, List.foldl_cons, ih]
    split
    · rename_i h; rw [step_more h, List.length_cons]; omega
    · rename_i h; rw [step_same h]
theorem pos_len (rs : List (List Int)) : ∀ found k, (posZ found k rs).length = (selZ found rs).length := by
  induction rs with
  | nil => intro found k; rfl
  | cons r rs ih =>
    intro found k
    rw [posZ, selZ]
    split
    · simp [ih]
    · exact ih _ _
theorem pos_range (rs : List (List Int)) : ∀ found k, ∀ i ∈ posZ found k rs, k ≤ i ∧ i < k + rs.length := by
  induction rs with
  | nil => intro found k i hi; cases hi
  | cons r rs ih =>
    intro found k i hi
    rw [posZ] at hi
    have key : i ∈ posZ (stepZ found r) (k + 1) rs → k ≤ i ∧ i < k + (r :: rs).length := fun h => by
      have := ih _ _ i h
      simp only [List.length_cons]; omega
    split at hi
    · rcases List.mem_cons.mp hi with rfl | hi
      · simp only [List.length_cons]; omega
      · exact key hi
    · exact key hi
theorem pos_rise (rs : List (List Int)) : ∀ found k, (posZ found k rs).Pairwise (· < ·) := by
  induction rs with
  | nil => intro found k; exact .nil
  | cons r rs ih =>
    intro found k
    rw [posZ]
    split
    · exact .cons (fun i hi => by have := pos_range rs _ _ i hi; omega) (ih _ _)
    · exact ih _ _
theorem pos_get {α : Type} (f : α → List Int) (dv : α) (ps : List α) : ∀ found k, (posZ found k (ps.map f)).map (fun i => f (ps.getD (i - k) dv)) = selZ found (ps.map f) := by
  induction ps with
  | nil => intro found k; rfl
  | cons p ps ih =>
    intro found k
    have e : ∀ found', (posZ found' (k + 1) (ps.map f)).map (fun i => f ((p :: ps).getD (i - k) dv)) = selZ found' (ps.map f) := fun found' => by
      rw [← ih found' (k + 1)]
      apply List.map_congr_left
      intro i hi
      have := pos_range _ _ _ i hi
      rw [show i - k = (i - (k + 1)) + 1 by omega]; simp
    rw [List.map_cons, posZ, selZ]
    split
    · rw [List.map_cons, e]; simp
    · exact e _
/-- the rows that are kept: as many as the rank, of this rank -/
theorem sel_rank {w : Nat} (rs : List (List Int)) (hr : ∀ r ∈ rs, r.length = w) : (selZ [] rs).length = rk (rs.map vz) ∧ rk ((selZ [] rs).map vz) = rk (rs.map vz) := by
  have h1 := sel_len rs []
  have h2 := sel_fold rs []
  have h3 := echZ_rank rs hr
  have hm : ∀ (rs : List (List Int)) found, ∀ r ∈ selZ found rs, r ∈ rs := by
    intro rs
    induction rs with
    | nil => intro found r h; cases h
    | cons x rs ih =>
      intro found r h
      rw [selZ] at h
      split at h
      · rcases List.mem_cons.mp h with rfl | h
        · simp
        · simp [ih _ r h]
      · simp [ih _ r h]
  have h4 := echZ_rank (selZ [] rs) (fun r h => hr r (hm rs [] r h))
  have h5 : (echZ (selZ [] rs)).length = (echZ rs).length := by unfold echZ; rw [h2]
  have h6 : (echZ rs).length = (selZ [] rs).length := by simpa [echZ] using h1
  omega
/-- the positions of points whose conditions are independent -/
def indP (d : Nat) (ps : List Pt) : List Nat := posZ [] 0 (ps.map (cnd d))
def atP (ps : List Pt) (is : List Nat) : List Pt := is.map fun i => ps.getD i (0, 0, 0)
theorem indP_spec (d : Nat) (ps : List Pt) : (indP d ps).Pairwise (· < ·) ∧ (∀ i ∈ indP d ps, i < ps.length) ∧ (indP d ps).length = hh d ps ∧ hh d (atP ps (indP d ps)) = hh d ps := by
  have hw : ∀ r ∈ ps.map (cnd d), r.length = (trs d).length := fun r hr => by
    obtain ⟨p, hp, rfl⟩ := List.mem_map.mp hr
    exact cnd_length d p
  obtain ⟨h1, h2⟩ := sel_rank _ hw
  have hg := pos_get (cnd d) (0, 0, 0) ps [] 0
  have hh1 : rk ((ps.map (cnd d)).map vz) = hh d ps := by unfold hh; rw [List.map_map]; rfl
  refine ⟨pos_rise _ _ _, fun i hi => ?_, ?_, ?_⟩
  · have := pos_range _ _ _ i hi
    simpa using this.2
  · unfold indP; rw [pos_len, h1, hh1]
  · rw [← hh1, ← h2, ← hg]
    unfold hh atP indP
    rw [List.map_map, List.map_map, ← List.map_map]
    simp [Function.comp_def]
end RK

namespace RK
/-! Rows and columns; led points. -/
theorem lc_smul (a : Int) (cs : List Int) (vs : List V) (j) : lc (cs.map (a * ·)) vs j = a * lc cs vs j := by
  induction vs generalizing cs with
  | nil => cases cs <;> simp [lc, zr]
  | cons v vs ih => cases cs with
    | nil => simp [lc, zr]
    | cons c cs => simp only [List.map_cons, lc, ih]; grind
theorem common_den {α : Type} {R : List V} {row : α → V} : ∀ {A : List α}, (∀ a ∈ A, Sp R (row a)) → ∃ (D : Int) (cf : α → List Int), D ≠ 0 ∧ ∀ a ∈ A, (cf a).length = R.length ∧ ∀ j, D * row a j = lc (cf a) R j
  | [], _ => ⟨1, fun _ => [], by decide, by simp⟩
  | a :: A, h => by
    classical
    obtain ⟨D, cf, hD, hc⟩ := common_den (A := A) fun x hx => h x (by simp [hx])
    obtain ⟨d, cs, hd, hl, he⟩ := (h a (by simp)).coef
    refine ⟨d * D, fun x => if x ∈ A then (cf x).map (d * ·) else cs.map (D * ·), Int.mul_ne_zero hd hD, fun x hx => ?_⟩
    by_cases hm : x ∈ A
    · simp only [if_pos hm]
      obtain ⟨h1, h2⟩ := hc x hm
      refine ⟨by simp [h1], fun j => ?_⟩
      rw [lc_smul, ← h2]; grind
    · have : x = a := by
        rcases List.mem_cons.mp hx with h | h
        · exact h
        · exact absurd h hm
      subst this
      simp only [if_neg hm]
      refine ⟨by simp [hl], fun j => ?_⟩
      rw [lc_smul, ← he]; grind
/-- a sum over two lists -/
def dot : List Int → List Int → Int
  | a :: as, b :: bs => a * b + dot as bs
  | _, _ => 0
theorem lc_dot {α : Type} (cs : List Int) (A : List α) (row : α → V) (j) : lc cs (A.map row) j = dot cs (A.map fun a => row a j) := by
  induction A generalizing cs with
  | nil => cases cs <;> simp [lc, dot, zr]
  | cons a A ih => cases cs with
    | nil => simp [lc, dot, zr]
    | cons c cs => simp [lc, dot, ih]
theorem vz_map {α : Type} (A : List α) (g : α → Int) (dv : α) (i : Nat) (h : i < A.length) : vz (A.map g) i = g (A.getD i dv) := by
  simp [vz, List.getD, h]
/-- columns are sums of as many as there are rows that span -/
theorem col_span {α β : Type} (A A' : List α) (B : List β) (f : α → β → Int) (h : ∀ a ∈ A, Sp (A'.map fun a => vz (B.map (f a))) (vz (B.map (f a)))) :
    rk (B.map fun b => vz (A.map fun a => f a b)) ≤ A'.length := by
  obtain ⟨D, cf, hD, hc⟩ := common_den (row := fun a => vz (B.map (f a))) h
  have W : List V := []
  refine Nat.le_trans (rk_le_of (W := (List.range A'.length).map fun i => vz (A.map fun a => (cf a).getD i 0)) ?_) (by simp)
  intro v hv
  obtain ⟨b, hb, rfl⟩ := List.mem_map.mp hv
  obtain ⟨j, hj, rfl⟩ := List.getElem_of_mem hb
  refine Sp.div D hD ?_
  have key : ∀ (n : Nat) (A'' : List α), A''.length = n → ∀ k, Sp ((List.range (k + n)).map fun i => vz (A.map fun a => (cf a).getD i 0)) (vz (A.map fun a => dot ((cf a).drop k) (A''.map fun a' => f a' B[j]))) := by
    intro n
    induction n with
    | zero =>
      intro A'' hA k
      have : A'' = [] := List.eq_nil_of_length_eq_zero hA
      subst this
      refine Sp.zero.congr fun i => ?_
      by_cases hi : i < A.length
      · simp [vz, List.getD, hi, zr]
        cases ((cf A[i]).drop k) <;> simp [dot]
      · rw [vz_out (by simp; omega)]; rfl
    | succ n ih =>
      intro A'' hA k
      cases A'' with
      | nil => simp at hA
      | cons a' A'' =>
        have h1 := ih A'' (by simpa using hA) (k + 1)
        have h2 : Sp ((List.range (k + (n + 1))).map fun i => vz (A.map fun a => (cf a).getD i 0)) (vz (A.map fun a => (cf a).getD k 0)) := Sp.mem (List.mem_map.mpr ⟨k, by simp, rfl⟩)
        rw [show k + (n + 1) = k + 1 + n by omega] at h2 ⊢
        refine Sp.lin h1 h2 1 (f a' B[j]) fun i => ?_
        by_cases hi : i < A.length
        · simp only [vz, List.getD, List.getElem?_map, List.getElem?_eq_getElem hi, Option.map_some, Option.getD_some, List.map_cons]
          by_cases hk : k < (cf A[i]).length
          · rw [List.drop_eq_getElem_cons hk]
            simp only [dot, List.getElem?_eq_getElem hk, Option.getD_some]
            grind
          · rw [List.drop_of_length_le (by omega), List.drop_of_length_le (by omega), List.getElem?_eq_none (by omega)]
            simp only [dot, Option.getD_none]
            cases (A''.map fun a' => f a' B[j]) <;> simp [dot]
        · rw [vz_out (by simp; omega), vz_out (by simp; omega), vz_out (by simp; omega)]; simp
  have h0 := key A'.length A' rfl 0
  rw [Nat.zero_add] at h0
  refine h0.congr fun i => ?_
  by_cases hi : i < A.length
  · have hm := hc A[i] (List.getElem_mem hi)
    have he := hm.2 j
    rw [lc_dot] at he
    simp only [vz, List.getD, List.getElem?_map, List.getElem?_eq_getElem hi, List.getElem?_eq_getElem hj, Option.map_some, Option.getD_some, sm, List.drop_zero] at he ⊢
    rw [he]
  · simp only [sm]; rw [vz_out (by simp; omega), vz_out (by simp; omega)]; simp
/-- as many independent rows as columns -/
theorem rank_T_le {α β : Type} (A : List α) (B : List β) (f : α → β → Int) : rk (B.map fun b => vz (A.map fun a => f a b)) ≤ rk (A.map fun a => vz (B.map (f a))) := by
  obtain ⟨C, c1, c2, c3, e⟩ := rk_spec (A.map fun a => vz (B.map (f a)))
  obtain ⟨A', rfl, hA⟩ := unmap c1
  rw [← e, List.length_map]
  exact col_span A A' B f fun a ha => c3 _ (List.mem_map.mpr ⟨a, ha, rfl⟩)
theorem rank_T {α β : Type} (A : List α) (B : List β) (f : α → β → Int) : rk (B.map fun b => vz (A.map fun a => f a b)) = rk (A.map fun a => vz (B.map (f a))) :=
  Nat.le_antisymm (rank_T_le A B f) (rank_T_le B A fun b a => f a b)
/-- conditions by columns -/
theorem hh_cols (d : Nat) (ps : List Pt) : hh d ps = rk ((trs d).map fun m => vz (ps.map (mono m))) := (rank_T ps (trs d) fun p m => mono m p).symm

/-! led points -/
def prodL : List Pt → Pt → Int
  | [], _ => 1
  | a :: as, p => lf a p * prodL as p
theorem prod_rel {ps : List Pt} : ∀ {d : Nat} {cs : List Int}, (∀ m, m ∈ trs d → sumc cs ps (mono m) = 0) → ∀ as : List Pt, as.length = d → sumc cs ps (prodL as) = 0 := by
  intro d
  induction d with
  | zero =>
    intro cs h as ha
    have : as = [] := List.eq_nil_of_length_eq_zero ha
    subst this
    rw [← h (0, 0, 0) (mem_trs.mpr rfl)]
    exact sumc_congr fun p _ => by simp [prodL, mono]
  | succ d ih =>
    intro cs h as ha
    cases as with
    | nil => simp at ha
    | cons a as =>
      have := ih (rel_line h a) as (by simpa using ha)
      rw [sumc_smul] at this
      exact this
theorem prod_rep (a : Pt) (n : Nat) (l : List Pt) (p : Pt) : prodL (List.replicate n a ++ l) p = lf a p ^ n * prodL l p := by
  induction n with
  | zero => simp
  | succ n ih => rw [List.replicate_succ, List.cons_append, prodL, ih, Int.pow_succ]; grind
theorem mono_tap (m : Tr) (t : Tb) (p : Pt) : mono m (tap t p) = prodL (List.replicate m.1 t.1 ++ (List.replicate m.2.1 t.2.1 ++ (List.replicate m.2.2 t.2.2 ++ []))) p := by
  rw [prod_rep, prod_rep, prod_rep]
  simp only [mono, tap, prodL]
  have : ∀ r : Pt, row3 r p = lf r p := fun r => rfl
  rw [this, this, this]; grind
theorem sumc_map (cs : List Int) (ps : List Pt) (g : Pt → Pt) (f : Pt → Int) : sumc cs (ps.map g) f = sumc cs ps fun p => f (g p) := by
  induction ps generalizing cs with
  | nil => cases cs <;> rfl
  | cons p ps ih => cases cs with
    | nil => rfl
    | cons c cs => simp [sumc, ih]
theorem rel_tap {cs : List Int} {ps : List Pt} {d : Nat} (t : Tb) (h : ∀ m, m ∈ trs d → sumc cs ps (mono m) = 0) : ∀ m, m ∈ trs d → sumc cs (ps.map (tap t)) (mono m) = 0 := by
  intro m hm
  rw [sumc_map, sumc_congr fun p _ => mono_tap m t p]
  exact prod_rel h _ (by rw [mem_trs] at hm; simp; omega)
theorem ind_iff {ps : List Pt} {d : Nat} : Ind (ps.map fun p => vz (cnd d p)) ↔ ∀ cs : List Int, cs.length = ps.length → (∀ m, m ∈ trs d → sumc cs ps (mono m) = 0) → ∀ c ∈ cs, c = 0 :=
  ⟨fun h cs hl hz => lc_ind h cs (by simpa using hl) (cnd_zero.mpr hz), fun h => ind_of_lc fun cs hl hz => h cs (by simpa using hl) (cnd_zero.mp hz)⟩
theorem hh_tap_le (t : Tb) (d : Nat) (ps : List Pt) : hh d (ps.map (tap t)) ≤ hh d ps := by
  obtain ⟨qs', h1, h2, h3, _⟩ := hh_basis d (ps.map (tap t))
  obtain ⟨qs, rfl, hq⟩ := unmap h1
  have hi : Ind (qs.map fun p => vz (cnd d p)) := ind_iff.mpr fun cs hl hz => ind_iff.mp h2 cs (by simpa using hl) (rel_tap t hz)
  rw [← h3, List.length_map]
  have := ind_le_rk (L := ps.map fun p => vz (cnd d p)) hi fun b hb => by
    obtain ⟨q, hq', rfl⟩ := List.mem_map.mp hb
    exact Sp.mem (List.mem_map.mpr ⟨q, hq q hq', rfl⟩)
  simpa [hh] using this
theorem mono_smul {d : Nat} {m : Tr} (hm : m ∈ trs d) (c : Int) (p : Pt) : mono m (smul c p) = c ^ d * mono m p := by
  rw [mem_trs] at hm
  subst hm
  simp only [mono, smul, Int.mul_pow, Int.pow_add]; grind
theorem cnd_smul (d : Nat) (c : Int) (p : Pt) (j) : vz (cnd d (smul c p)) j = c ^ d * vz (cnd d p) j := by
  by_cases hj : j < (trs d).length
  · simp only [vz, cnd, List.getD, List.getElem?_map, List.getElem?_eq_getElem hj, Option.map_some, Option.getD_some]
    exact mono_smul (List.getElem_mem hj) c p
  · rw [vz_out (by simp [cnd]; omega), vz_out (by simp [cnd]; omega)]; simp
/-- each point times a number -/
theorem hh_scale (d : Nat) {ps : List Pt} {g : Pt → Pt} (h : ∀ p ∈ ps, ∃ c : Int, c ≠ 0 ∧ p = smul c (g p)) : hh d (ps.map g) = hh d ps := by
  unfold hh
  rw [List.map_map]
  symm
  refine rk_scale (fun v hv => ?_) fun v hv => ?_
  · obtain ⟨p, hp, rfl⟩ := List.mem_map.mp hv
    obtain ⟨c, hc, e⟩ := h p hp
    refine ⟨_, List.mem_map.mpr ⟨p, hp, rfl⟩, 1, c ^ d, by decide, fun j => ?_⟩
    have := cnd_smul d c (g p) j
    rw [← e] at this
    simp only [Function.comp]; rw [this]; simp
  · obtain ⟨p, hp, rfl⟩ := List.mem_map.mp hv
    obtain ⟨c, hc, e⟩ := h p hp
    refine ⟨_, List.mem_map.mpr ⟨p, hp, rfl⟩, c ^ d, 1, pow_nz hc d, fun j => ?_⟩
    have := cnd_smul d c (g p) j
    rw [← e] at this
    simp only [Function.comp]; rw [this]; simp
def det (t : Tb) : Int := lf t.1 (crs t.2.1 t.2.2)
/-- back again, up to the determinant -/
def adj (t : Tb) : Tb :=
  let a := crs t.2.1 t.2.2
  let b := crs t.2.2 t.1
  let c := crs t.1 t.2.1
  ((a.1, b.1, c.1), (a.2.1, b.2.1, c.2.1), (a.2.2, b.2.2, c.2.2))
theorem adj_tap (t : Tb) (p : Pt) : tap (adj t) (tap t p) = smul (det t) p := by
  obtain ⟨⟨a, b, c⟩, ⟨d, e, f⟩, ⟨g, h, i⟩⟩ := t
  obtain ⟨x, y, z⟩ := p
  simp only [tap, adj, det, lf, crs, row3, smul]
  refine Prod.ext ?_ (Prod.ext ?_ ?_) <;> dsimp only <;> grind
theorem hh_tap {t : Tb} (h : det t ≠ 0) (d : Nat) (ps : List Pt) : hh d (ps.map (tap t)) = hh d ps := by
  apply Nat.le_antisymm (hh_tap_le t d ps)
  have h1 : hh d (ps.map fun p => smul (det t) p) = hh d ps := by
    have : hh d ps = hh d (ps.map fun p => smul (det t) p) := by
      unfold hh
      rw [List.map_map]
      refine rk_scale (fun v hv => ?_) fun v hv => ?_
      · obtain ⟨p, hp, rfl⟩ := List.mem_map.mp hv
        exact ⟨_, List.mem_map.mpr ⟨p, hp, rfl⟩, det t ^ d, 1, pow_nz h d, fun j => by simp only [Function.comp]; rw [cnd_smul]; simp⟩
      · obtain ⟨p, hp, rfl⟩ := List.mem_map.mp hv
        exact ⟨_, List.mem_map.mpr ⟨p, hp, rfl⟩, 1, det t ^ d, by decide, fun j => by simp only [Function.comp]; rw [cnd_smul]; simp⟩
    exact this.symm
  have h2 : (ps.map (tap t)).map (tap (adj t)) = ps.map fun p => smul (det t) p := by
    rw [List.map_map]; exact List.map_congr_left fun p _ => adj_tap t p
  rw [← h1, ← h2]
  exact hh_tap_le _ d _
theorem hh_led {t : Tb} (h : det t ≠ 0) (hi : inj t) (d : Nat) {ps : List Pt} (hp : ∀ p ∈ ps, nz p) : hh d (ps.map fun p => told (tap t p)) = hh d ps := by
  rw [← hh_tap h d ps]
  have := hh_scale d (ps := ps.map (tap t)) (g := told) fun q hq => by
    obtain ⟨p, hp', rfl⟩ := List.mem_map.mp hq
    exact told_mul _ (hi p (hp p hp'))
  rw [List.map_map] at this
  exact this
theorem hh_told (d : Nat) {ps : List Pt} (hp : ∀ p ∈ ps, nz p) : hh d (ps.map told) = hh d ps :=
  hh_scale d fun p h => told_mul p (hp p h)
end RK

namespace RK
/-- the points of a stair -/
def stP (ns : List Nat) : List Pt := (List.range ns.length).flatMap fun e => (List.range (ns.getD e 0)).map fun (b : Nat) => ((e : Int) - (b : Int), (b : Int), 1)
/-- lengths that go on, at most k more, the sum so far s, at most 12 -/
def goR : Nat → List Nat → Nat → List (List Nat)
  | 0, ns, _ => [ns]
  | k + 1, ns, s =>
    let room := min (ns.getLastD 0) (12 - s)
    if room < 1 ∨ ns.length = 9 then [ns] else ns :: (List.range room).flatMap fun r => goR k (ns ++ [r + 1]) (s + r + 1)
def rowsR : List (List Nat) := [[1], [1,2], [1,2,3], [1,2,3,4]].flatMap fun ns => goR 7 ns ns.sum
def rowChk (ns : List Nat) : Bool := (List.range ns.length).all fun d => (echZ ((stP ns).map (cnd d))).length == (ns.take (d + 1)).sum
theorem hh_ech (d : Nat) (ps : List Pt) : hh d ps = (echZ (ps.map (cnd d))).length := by
  rw [echZ_rank (w := (trs d).length) _ (fun r h => by obtain ⟨p, _, rfl⟩ := List.mem_map.mp h; exact cnd_length d p)]
  unfold hh; rw [List.map_map]; rfl
theorem rowChk_hh {ns : List Nat} (h : rowChk ns = true) {d : Nat} (hd : d < ns.length) : hh d (stP ns) = (ns.take (d + 1)).sum := by
  rw [hh_ech]
  simp only [rowChk, List.all_eq_true, List.mem_range, beq_iff_eq] at h
  exact h d hd
theorem rows_chk : rowsR.all rowChk = true := by decide +kernel
theorem hh_stair {ns : List Nat} (h : ns ∈ rowsR) {d : Nat} (hd : d < ns.length) : hh d (stP ns) = (ns.take (d + 1)).sum :=
  rowChk_hh (List.all_eq_true.mp rows_chk ns h) hd
end RK

namespace RK
/-! Tables up to a factor. -/
def smulT (c : Int) (t : Tb) : Tb := (smul c t.1, smul c t.2.1, smul c t.2.2)
def colT (t : Tb) : Tb := ((t.1.1, t.2.1.1, t.2.2.1), (t.1.2.1, t.2.1.2.1, t.2.2.2.1), (t.1.2.2, t.2.1.2.2, t.2.2.2.2))
/-- one behind the other: s behind t -/
def mulT (s t : Tb) : Tb :=
  ((row3 s.1 (colT t).1, row3 s.1 (colT t).2.1, row3 s.1 (colT t).2.2), (row3 s.2.1 (colT t).1, row3 s.2.1 (colT t).2.1, row3 s.2.1 (colT t).2.2), (row3 s.2.2 (colT t).1, row3 s.2.2 (colT t).2.1, row3 s.2.2 (colT t).2.2))
def idT : Tb := ((1, 0, 0), (0, 1, 0), (0, 0, 1))
def l9 (t : Tb) : List Int := lp t.1 ++ (lp t.2.1 ++ lp t.2.2)
def t9 (l : List Int) : Tb := ((vz l 0, vz l 1, vz l 2), (vz l 3, vz l 4, vz l 5), (vz l 6, vz l 7, vz l 8))
theorem t9_l9 (t : Tb) : t9 (l9 t) = t := rfl
theorem l9_length (t : Tb) : (l9 t).length = 9 := rfl
theorem l9_t9 {l : List Int} (h : l.length = 9) : l9 (t9 l) = l := by
  match l, h with
  | [a, b, c, d, e, f, g, h, i], _ => rfl
theorem l9_smul (c : Int) (t : Tb) (j) : vz (l9 (smulT c t)) j = c * vz (l9 t) j := by
  unfold vz
  match j with
  | 0 | 1 | 2 | 3 | 4 | 5 | 6 | 7 | 8 => rfl
  | j + 9 => simp [l9, lp]
def plainT (t : Tb) : Tb := t9 (toldL (l9 t))
theorem l9_plain (t : Tb) : l9 (plainT t) = toldL (l9 t) := l9_t9 (by rw [toldL_length]; rfl)
def nzT (t : Tb) : Prop := ∃ j, vz (l9 t) j ≠ 0
theorem det_nz {t : Tb} (h : det t ≠ 0) : nzT t := Classical.byContradiction fun hn => h (by
  have h0 : ∀ j, vz (l9 t) j = 0 := fun j => Classical.byContradiction fun hj => hn ⟨j, hj⟩
  have a0 : t.1.1 = 0 := h0 0
  have a1 : t.1.2.1 = 0 := h0 1
  have a2 : t.1.2.2 = 0 := h0 2
  unfold det lf
  rw [a0, a1, a2]
  simp)
theorem plain_ex {t : Tb} (h : nzT t) : ∃ c : Int, c ≠ 0 ∧ t = smulT c (plainT t) := by
  obtain ⟨_, c, hc, e⟩ := toldL_spec h
  refine ⟨c, hc, ?_⟩
  have e' : ∀ j, vz (l9 t) j = vz (l9 (smulT c (plainT t))) j := fun j => by rw [l9_smul, l9_plain, e]
  have h1 : t9 (l9 t) = t9 (l9 (smulT c (plainT t))) := by
    unfold t9
    simp only [e']
  exact h1
theorem plain_like {s t : Tb} (h : nzT s) {a b : Int} (ha : a ≠ 0) (hb : b ≠ 0) (e : smulT a s = smulT b t) : plainT s = plainT t := by
  unfold plainT
  rw [told_like (l := l9 s) (m := l9 t) rfl h ha hb fun j => by rw [← l9_smul, ← l9_smul, e]]
theorem plain_smul {t : Tb} (h : nzT t) {c : Int} (hc : c ≠ 0) : plainT (smulT c t) = plainT t :=
  (plain_like h hc (show (1 : Int) ≠ 0 by decide) (by simp [smulT, smul])).symm
theorem plain_bd {t : Tb} {B : Nat} (h : Bd B (l9 t)) : Bd B (l9 (plainT t)) := by rw [l9_plain]; exact toldL_bd h
theorem ext3 {s t : Tb} (h1 : s.1 = t.1) (h2 : s.2.1 = t.2.1) (h3 : s.2.2 = t.2.2) : s = t := by
  obtain ⟨a, b, c⟩ := s; obtain ⟨d, e, f⟩ := t; simp_all
theorem extp {p q : Pt} (h1 : p.1 = q.1) (h2 : p.2.1 = q.2.1) (h3 : p.2.2 = q.2.2) : p = q := by
  obtain ⟨a, b, c⟩ := p; obtain ⟨d, e, f⟩ := q; simp_all
theorem smulT_smulT (a b : Int) (t : Tb) : smulT a (smulT b t) = smulT (a * b) t := by
  refine ext3 (extp ?_ ?_ ?_) (extp ?_ ?_ ?_) (extp ?_ ?_ ?_) <;> simp only [smulT, smul] <;> grind
theorem mulT_smul (a b : Int) (s t : Tb) : mulT (smulT a s) (smulT b t) = smulT (a * b) (mulT s t) := by
  refine ext3 (extp ?_ ?_ ?_) (extp ?_ ?_ ?_) (extp ?_ ?_ ?_) <;> simp only [smulT, smul, mulT, colT, row3] <;> grind
theorem mulT_assoc (r s t : Tb) : mulT (mulT r s) t = mulT r (mulT s t) := by
  refine ext3 (extp ?_ ?_ ?_) (extp ?_ ?_ ?_) (extp ?_ ?_ ?_) <;> simp only [mulT, colT, row3] <;> grind
theorem mulT_id (t : Tb) : mulT t idT = t := by
  refine ext3 (extp ?_ ?_ ?_) (extp ?_ ?_ ?_) (extp ?_ ?_ ?_) <;> simp [mulT, colT, row3, idT]
theorem id_mulT (t : Tb) : mulT idT t = t := by
  refine ext3 (extp ?_ ?_ ?_) (extp ?_ ?_ ?_) (extp ?_ ?_ ?_) <;> simp [mulT, colT, row3, idT]
theorem adj_mul (t : Tb) : mulT (adj t) t = smulT (det t) idT := by
  refine ext3 (extp ?_ ?_ ?_) (extp ?_ ?_ ?_) (extp ?_ ?_ ?_) <;> simp only [mulT, colT, row3, idT, smulT, smul, adj, det, lf, crs] <;> grind
theorem mul_adj (t : Tb) : mulT t (adj t) = smulT (det t) idT := by
  refine ext3 (extp ?_ ?_ ?_) (extp ?_ ?_ ?_) (extp ?_ ?_ ?_) <;> simp only [mulT, colT, row3, idT, smulT, smul, adj, det, lf, crs] <;> grind
theorem adj_adj (t : Tb) : adj (adj t) = smulT (det t) t := by
  refine ext3 (extp ?_ ?_ ?_) (extp ?_ ?_ ?_) (extp ?_ ?_ ?_) <;> simp only [smulT, smul, adj, det, lf, crs] <;> grind
theorem adj_smul (c : Int) (t : Tb) : adj (smulT c t) = smulT (c * c) (adj t) := by
  refine ext3 (extp ?_ ?_ ?_) (extp ?_ ?_ ?_) (extp ?_ ?_ ?_) <;> simp only [smulT, smul, adj, crs] <;> grind
theorem adj_mulT (s t : Tb) : adj (mulT s t) = mulT (adj t) (adj s) := by
  refine ext3 (extp ?_ ?_ ?_) (extp ?_ ?_ ?_) (extp ?_ ?_ ?_) <;> simp only [mulT, colT, row3, adj, crs] <;> grind
theorem det_smul (c : Int) (t : Tb) : det (smulT c t) = c * c * c * det t := by
  simp only [smulT, smul, det, lf, crs]; grind
theorem det_adj (t : Tb) : det (adj t) = det t * det t := by
  simp only [adj, det, lf, crs]; grind
theorem det_mul (s t : Tb) : det (mulT s t) = det s * det t := by
  simp only [mulT, colT, row3, det, lf, crs]; grind
theorem tap_mul (s t : Tb) (p : Pt) : tap (mulT s t) p = tap s (tap t p) := by
  refine extp ?_ ?_ ?_ <;> simp only [mulT, colT, row3, tap] <;> grind
theorem tap_smulT (c : Int) (t : Tb) (p : Pt) : tap (smulT c t) p = smul c (tap t p) := by
  refine extp ?_ ?_ ?_ <;> simp only [smulT, row3, tap, smul] <;> grind
theorem det_inj {t : Tb} (h : det t ≠ 0) : inj t := fun p hp => by
  have e := adj_tap t p
  refine Classical.byContradiction fun hn => ?_
  have h0 : tap t p = (0, 0, 0) := by
    simp only [nz, not_or, Classical.not_not] at hn
    exact extp hn.1 hn.2.1 hn.2.2
  rw [h0] at e
  have : smul (det t) p = (0, 0, 0) := by rw [← e]; simp [tap, row3]
  simp only [smul, Prod.mk.injEq, Int.mul_eq_zero, h, false_or] at this
  rcases hp with k | k | k
  · exact k this.1
  · exact k this.2.1
  · exact k this.2.2
/-- the three rows are independent -/
theorem det_ind {t : Tb} (h : det t ≠ 0) : Ind [vz (lp t.1), vz (lp t.2.1), vz (lp t.2.2)] := by
  refine ind_of_lc fun cs hl hz => ?_
  match cs, hl with
  | [a, b, c], _ =>
    have e : ∀ j, a * vz (lp t.1) j + (b * vz (lp t.2.1) j + c * vz (lp t.2.2) j) = 0 := fun j => by
      have := hz j
      simpa [lc, zr] using this
    have e0 : a * t.1.1 + (b * t.2.1.1 + c * t.2.2.1) = 0 := e 0
    have e1 : a * t.1.2.1 + (b * t.2.1.2.1 + c * t.2.2.2.1) = 0 := e 1
    have e2 : a * t.1.2.2 + (b * t.2.1.2.2 + c * t.2.2.2.2) = 0 := e 2
    have ha : a * det t = 0 := by simp only [det, lf, crs]; grind
    have hb : b * det t = 0 := by simp only [det, lf, crs]; grind
    have hc : c * det t = 0 := by simp only [det, lf, crs]; grind
    have f : ∀ x : Int, x * det t = 0 → x = 0 := fun x hx => by
      rcases Int.mul_eq_zero.mp hx with k | k
      · exact k
      · exact absurd k h
    intro x hx
    simp only [List.mem_cons, List.not_mem_nil, or_false] at hx
    rcases hx with rfl | rfl | rfl
    · exact f _ ha
    · exact f _ hb
    · exact f _ hc
theorem det_rank {t : Tb} (h : det t ≠ 0) : rk ([lp t.1, lp t.2.1, lp t.2.2].map vz) = 3 := by
  have h1 := ind_le_rk (L := [lp t.1, lp t.2.1, lp t.2.2].map vz) (det_ind h) (fun b hb => Sp.mem (by simpa using hb))
  have h2 := rk_le_length ([lp t.1, lp t.2.1, lp t.2.2].map vz)
  simp at h1 h2
  simp only [List.map_cons, List.map_nil]
  omega
end RK

namespace RK
/-! Tables that are alike. -/
def Sim (s t : Tb) : Prop := ∃ a b : Int, a ≠ 0 ∧ b ≠ 0 ∧ smulT a s = smulT b t
theorem mul_nz {a b : Int} (ha : a ≠ 0) (hb : b ≠ 0) : a * b ≠ 0 := Int.mul_ne_zero ha hb
theorem one_smulT (t : Tb) : smulT 1 t = t := by simp [smulT, smul]
theorem Sim.refl (t : Tb) : Sim t t := ⟨1, 1, by decide, by decide, rfl⟩
theorem Sim.symm {s t : Tb} (h : Sim s t) : Sim t s := by
  obtain ⟨a, b, ha, hb, e⟩ := h
  exact ⟨b, a, hb, ha, e.symm⟩
theorem Sim.trans {r s t : Tb} (h : Sim r s) (k : Sim s t) : Sim r t := by
  obtain ⟨a, b, ha, hb, e⟩ := h
  obtain ⟨c, d, hc, hd, f⟩ := k
  refine ⟨c * a, b * d, mul_nz hc ha, mul_nz hb hd, ?_⟩
  rw [← smulT_smulT, e, smulT_smulT, Int.mul_comm c b, ← smulT_smulT, f, smulT_smulT]
theorem Sim.mul {r s r' s' : Tb} (h : Sim r r') (k : Sim s s') : Sim (mulT r s) (mulT r' s') := by
  obtain ⟨a, b, ha, hb, e⟩ := h
  obtain ⟨c, d, hc, hd, f⟩ := k
  refine ⟨a * c, b * d, mul_nz ha hc, mul_nz hb hd, ?_⟩
  rw [← mulT_smul, ← mulT_smul, e, f]
theorem Sim.adj {s t : Tb} (h : Sim s t) : Sim (adj s) (adj t) := by
  obtain ⟨a, b, ha, hb, e⟩ := h
  exact ⟨a * a, b * b, mul_nz ha ha, mul_nz hb hb, by rw [← adj_smul, ← adj_smul, e]⟩
theorem Sim.smul {c : Int} (hc : c ≠ 0) (t : Tb) : Sim (smulT c t) t := ⟨1, c, by decide, hc, one_smulT _⟩
theorem Sim.plain {t : Tb} (h : det t ≠ 0) : Sim (plainT t) t := by
  obtain ⟨c, hc, e⟩ := plain_ex (det_nz h)
  exact ⟨c, 1, hc, by decide, by rw [← e, one_smulT]⟩
theorem Sim.eq {s t : Tb} (h : Sim s t) (hd : det s ≠ 0) : plainT s = plainT t := by
  obtain ⟨a, b, ha, hb, e⟩ := h
  exact plain_like (det_nz hd) ha hb e
theorem Sim.det {s t : Tb} (h : Sim s t) (hd : det t ≠ 0) : det s ≠ 0 := fun h0 => by
  obtain ⟨a, b, ha, hb, e⟩ := h
  have := congrArg RK.det e
  rw [det_smul, det_smul, h0, Int.mul_zero] at this
  exact mul_nz (mul_nz (mul_nz hb hb) hb) hd this.symm
theorem det_adj' {t : Tb} (h : det t ≠ 0) : det (adj t) ≠ 0 := by rw [det_adj]; exact mul_nz h h
theorem det_mul' {s t : Tb} (h : det s ≠ 0) (k : det t ≠ 0) : det (mulT s t) ≠ 0 := by rw [det_mul]; exact mul_nz h k
theorem det_smul' {c : Int} {t : Tb} (hc : c ≠ 0) (h : det t ≠ 0) : det (smulT c t) ≠ 0 := by rw [det_smul]; exact mul_nz (mul_nz (mul_nz hc hc) hc) h
theorem det_plain {t : Tb} (h : det t ≠ 0) : det (plainT t) ≠ 0 := (Sim.plain h).det h
theorem plain_id : plainT idT = idT := by decide +kernel
theorem Sim.adj_mul {t : Tb} (h : RK.det t ≠ 0) : Sim (mulT (RK.adj t) t) idT := by rw [RK.adj_mul]; exact Sim.smul h _
theorem Sim.mul_adj {t : Tb} (h : RK.det t ≠ 0) : Sim (mulT t (RK.adj t)) idT := by rw [RK.mul_adj]; exact Sim.smul h _
theorem Sim.adj_adj {t : Tb} (h : RK.det t ≠ 0) : Sim (RK.adj (RK.adj t)) t := by rw [RK.adj_adj]; exact Sim.smul h _
/-- tables that are alike lead alike -/
theorem Sim.led {s t : Tb} (h : Sim s t) (hd : RK.det t ≠ 0) {p : Pt} (hp : nz p) : told (tap s p) = told (tap t p) := by
  have hs := h.det hd
  obtain ⟨a, b, ha, hb, e⟩ := h
  have h1 := congrArg (fun r => tap r p) e
  simp only [tap_smulT] at h1
  exact told_alike (det_inj hs p hp) ha hb h1
theorem det_id : RK.det idT ≠ 0 := by decide +kernel
theorem tap_id (p : Pt) : tap idT p = p := by
  obtain ⟨a, b, c⟩ := p; simp [tap, row3, idT]
end RK

set_option maxHeartbeats 2000000
namespace LW
open PySem PySem.Spec PyProof.Rows L2 DL
theorem draw_ex {n : Int} {a : D} (π : Pot) (h : 0 < n) (h2 : n < 1073741824) : ∃ v π', m_l_draw [a, .int n] π = .ok (.int v, π') ∧ 0 ≤ v ∧ v < n := by
  obtain ⟨u, v⟩ := π
  by_cases hu : 0 < u
  · refine ⟨u % n, (u / n, v), ?_, Int.emod_nonneg _ (by omega), Int.emod_lt_of_pos _ h⟩
    unfold m_l_draw f_l_draw
    simp [divOk_small h h2, hu]
  · obtain ⟨s, hs⟩ : ∃ s, s = (v * 39373 + 7027) % 2147483587 := ⟨_, rfl⟩
    have q : 0 ≤ s ∧ s < 2147483587 := by
      rw [hs]
      exact ⟨Int.emod_nonneg _ (by decide), Int.emod_lt_of_pos _ (by decide)⟩
    have q1 : opMulA (.int s) (.int s) = some (.int (s * s)) := opMulA_l (by omega) (by omega)
    refine ⟨(s * s % 2147483563 / 17) % n, (u, s), ?_, Int.emod_nonneg _ (by omega), Int.emod_lt_of_pos _ h⟩
    unfold m_l_draw f_l_draw
    simp [opMulA_r, opMod_s, opFdivW_s, h, hu, ← hs, q1]
theorem opIx_at {xs : List D} {v : Int} (h : 0 ≤ v) (h2 : v < xs.length) : ∃ d, opIx (.lst xs) (.int v) = some d ∧ d ∈ xs := by
  have e := List.getElem?_eq_getElem (show v.toNat < xs.length by omega)
  refine ⟨xs[v.toNat], ?_, List.getElem_mem _⟩
  show (L2.atI xs v) = _
  exact atI_in h e
theorem pick_ex {a : D} {xs : List D} (π : Pot) (h : xs ≠ []) (h2 : xs.length < 1073741824) : ∃ d π', m_l_pick [a, .lst xs] π = .ok (d, π') ∧ d ∈ xs := by
  have hp := List.length_pos_iff.mpr h
  obtain ⟨v, π', e, h3, h4⟩ := draw_ex (n := xs.length) (a := .non) π (by omega) (by omega)
  obtain ⟨d, e2, h5⟩ := opIx_at (xs := xs) h3 h4
  refine ⟨d, π', ?_, h5⟩
  unfold m_l_pick f_l_pick
  simp -implicitDefEqProofs [e, e2]
theorem passed_ex {xs : List D} {a : D} (π : Pot) : ∃ d π', m_l_passed [a, .lst xs] π = .ok (d, π') ∧ (d = .lst xs ∨ d = .tup xs) := by
  obtain ⟨v, π', e, h1, h2⟩ := draw_ex (n := 2) (a := .non) π (by decide) (by decide)
  unfold m_l_passed f_l_passed
  by_cases hv : v = 0
  · exact ⟨.tup xs, π', by simp -implicitDefEqProofs [e, hv], .inr rfl⟩
  · exact ⟨.lst xs, π', by simp -implicitDefEqProofs [e, hv], .inl rfl⟩
theorem pot_eq (ns : List Int) (k : Nat) (hl : ns.length ≤ 63) (hk : k ≤ 100) (π : Pot) : ∃ u v : Int, m_l_pot [.lst (ns.map D.int), .int (k : Int)] π = .ok (.lst [.int u, .int v], π) := by
  have m1 : opMulA (.int 313) (.int (k : Int)) = some (.int (313 * (k : Int))) := opMulA_l (by decide) (by decide)
  have m2 : opMulA (.int 7027) (.int (k : Int)) = some (.int (7027 * (k : Int))) := opMulA_l (by decide) (by decide)
  have po : opPow (.int 10) (.int 18) = some (.int 1000000000000000000) := by rfl
  have lL : (ns.map D.int).length = ns.length := List.length_map _
  have key : ∀ cell : Int, ∃ u v : Int, (eLst (aCons (eApp fMax2 (aCons (eC (.int 0)) (aCons (eBin opSub (eVar 2) (eBin opPow (eC (.int 10)) (eC (.int 18)))) aNil))) (aCons (eBin opAdd (eBin opMod (eApp fInt (aCons (eBin opAdd (eBin opAdd (eBin opMulA (eBin opMod (eApp fInt (aCons (eVar 2) aNil)) (eC (.int 2147483549))) (eC (.int 40014))) (eBin opMulA (eC (.int 7027)) (eVar 1))) (eC (.int 31))) aNil)) (eC (.int 2147483563))) (eC (.int 1))) aNil))) [some (.lst (ns.map D.int)), some (.int (k : Int)), some (.int cell)] π = .ok (.lst [.int u, .int v], π) := fun cell => by
    refine ⟨if cell - 1000000000000000000 > 0 then cell - 1000000000000000000 else 0, (cell % 2147483549 * 40014 + 7027 * (k : Int) + 31) % 2147483563 + 1, ?_⟩
    simp -implicitDefEqProofs [po, m2, opMod_s, opMulA_r]
  by_cases h : k < ns.length
  · have ix := opIx_iz (ns := ns) (i := (k : Int)) (by omega) (List.getElem?_eq_getElem (show (k : Int).toNat < ns.length by omega))
    obtain ⟨x, ex⟩ : ∃ x, x = ns[(k : Int).toNat]'(by omega) := ⟨_, rfl⟩
    rw [← ex] at ix
    obtain ⟨u, v, e⟩ := key (if x < 0 then -x else x)
    refine ⟨u, v, ?_⟩
    obtain ⟨L, hL⟩ : ∃ L, L = ns.map D.int := ⟨_, rfl⟩
    rw [← hL] at ix e lL
    rw [← hL]
    unfold m_l_pot f_l_pot
    simp -implicitDefEqProofs [-eLst_ap, m1, lL, h, ix, e]
  · obtain ⟨u, v, e⟩ := key (313 * k + 71)
    refine ⟨u, v, ?_⟩
    obtain ⟨L, hL⟩ : ∃ L, L = ns.map D.int := ⟨_, rfl⟩
    rw [← hL] at e lL
    rw [← hL]
    unfold m_l_pot f_l_pot
    simp -implicitDefEqProofs [-eLst_ap, m1, lL, h, e]
/-- the one turn is right: so is the law -/
theorem good_of (h : ∀ π, ∃ π', m_l_right [.non] π = .ok (.bl true, π')) : ∀ ns : List Int, ns.length ≤ 63 → ∃ π, m_law_ [.lst (DL.iz ns)] (0, 0) = .ok (.bl true, π) := by
  intro ns hl
  obtain ⟨u, v, e⟩ := pot_eq ns 0 hl (by omega) (0, 0)
  obtain ⟨π2, e2⟩ := h (u, v)
  refine ⟨(0, 0), ?_⟩
  have e' : m_l_pot [.lst (ns.map D.int), .int 0] (0, 0) = .ok (.lst [.int u, .int v], (0, 0)) := e
  unfold m_law_ f_law_
  simp -implicitDefEqProofs [e', e2]
end LW

set_option maxHeartbeats 2000000
namespace LW
open PySem PySem.Spec PyProof.Rows L2 DL RK

abbrev iL (l : List Int) : D := .lst (l.map D.int)
abbrev iT (l : List Int) : D := .tup (l.map D.int)

theorem log_le {x b : Nat} (h : x ≤ 2 ^ b) : x.log2 ≤ b := by
  by_cases h0 : x = 0
  · subst h0; simp
  · have : x < 2 ^ (b + 1) := Nat.lt_of_le_of_lt h (Nat.pow_lt_pow_right (by decide) (by omega))
    have := (Nat.log2_lt h0).mpr this
    omega
theorem mul_b {i j : Int} {a b : Nat} (ha : i.natAbs ≤ 2 ^ a) (hb : j.natAbs ≤ 2 ^ b) (h : a + b < 1000000) : opMulA (.int i) (.int j) = some (.int (i * j)) := by
  have h1 := log_le ha; have h2 := log_le hb
  have : i.natAbs.log2 + j.natAbs.log2 < 1000000 := by omega
  simp [opMulA, this]
theorem div_b {i j : Int} {b : Nat} (h : 0 < j) (hb : j.natAbs ≤ 2 ^ b) (h9 : b < 9000) : opFdivW (.int i) (.int j) = some (.int (i / j)) := by
  have h1 := log_le hb
  have : j.natAbs.log2 < 9000 := by omega
  simp [opFdivW, h, this]
theorem one_le_two (b : Nat) : 1 ≤ 2 ^ b := Nat.one_le_pow _ _ (by decide)

@[simp] theorem fGcd_ap (a b : Int) : fGcd [.int a, .int b] = some (.int (Int.gcd a b)) := rfl

theorem gcdF_one (l : List Int) : gcdF 1 l = 1 := by
  have := (gcdF_dvd l 1).1
  exact Nat.dvd_one.mp this

theorem div_loop (π : Pot) (row : D) : ∀ (l : List Int) (g : Nat) (o : Option D),
    ∃ y, forGo (gN 2) f_p_divisor_of_b1 (l.map D.int) [some row, some (.int g), o] π = .ok (y, π) ∧
      ((y = .rt (.int 1) ∧ gcdF g l = 1) ∨ ∃ o', y = .nx [some row, some (.int (gcdF g l)), o'])
  | [], g, o => ⟨_, rfl, .inr ⟨o, rfl⟩⟩
  | x :: l, g, o => by
    simp only [List.map_cons, forGo]
    rw [gcdF_cons]
    by_cases h : Int.gcd g x = 1
    · refine ⟨.rt (.int 1), ?_, .inl ⟨rfl, by rw [h]; exact gcdF_one l⟩⟩
      unfold f_p_divisor_of_b1
      simp -implicitDefEqProofs [h]
    · obtain ⟨y, e, hy⟩ := div_loop π row l (Int.gcd g x) (some (.int x))
      refine ⟨y, ?_, hy⟩
      rw [← e]
      unfold f_p_divisor_of_b1
      have h' : ¬ ((Int.gcd g x : Nat) : Int) = 1 := by omega
      simp -implicitDefEqProofs [h']

theorem divisor_eq {d : D} {l : List Int} (hd : seqOf d = some (l.map D.int)) (π : Pot) : m_p_divisor_of [d] π = .ok (.int (gcdL l), π) := by
  obtain ⟨y, e, hy⟩ := div_loop π d l 0 none
  unfold m_p_divisor_of f_p_divisor_of
  rcases hy with ⟨rfl, h⟩ | ⟨o', rfl⟩
  · have h' : gcdL l = 1 := h
    simp -implicitDefEqProofs [hd, h'] at e ⊢
    simp -implicitDefEqProofs [e]
  · simp -implicitDefEqProofs [hd] at e ⊢
    simp -implicitDefEqProofs [e, gcdL]

theorem plain_eq {d : D} {l : List Int} (hd : d = iL l ∨ d = iT l) {b : Nat} (hb : Bd (2 ^ b) l) (h9 : b < 9000) (hl : l.length < 1000000) (π : Pot) : m_p_plain [d] π = .ok (iL (plainZ l), π) := by
  have hs : seqOf d = some (l.map D.int) := by rcases hd with rfl | rfl <;> rfl
  have hf : fList [d] = some (iL l) := by rcases hd with rfl | rfl <;> rfl
  have e := divisor_eq hs π
  have hg := gcdL_le hb
  unfold m_p_plain f_p_plain plainZ
  by_cases h : 1 < gcdL l
  · have h' : (1 : Int) < (gcdL l : Nat) := by omega
    have lc : lcGo (gN 2) tTrue f_p_plain_e1 [some d, some (.int (gcdL l)), none] (l.map D.int) π = .ok (l.map fun x => .int (x / (gcdL l : Nat)), π) :=
      lcGo_map (ρ1 := fun x => [some d, some (.int (gcdL l)), some (.int x)]) (fun x hx => rfl) fun x hx => by
        have := div_b (i := x) (j := (gcdL l : Nat)) (b := b) (by omega) (by simpa using hg) h9
        simp -implicitDefEqProofs [f_p_plain_e1_ap, this]
    have hl' : l.length < 16777216 := by omega
    simp -implicitDefEqProofs [e, h, h', hs, lc, sl_lt, hl', divL, Function.comp_def]
  · have h' : ¬ (1 : Int) < (gcdL l : Nat) := by omega
    simp -implicitDefEqProofs [e, h, h', hf]

/-- a place, or None -/
def plD : Option Nat → D
  | none => .non
  | some p => .int (p : Int)

theorem lead_loop (π : Pot) (row : D) : ∀ (l : List Int) (k : Nat) (o1 o2 : Option D),
    ∃ y, forGo (gT 2 (gsCons (gN 1) (gsCons (gN 2) gsNil))) f_p_lead_place_b1 (DL.numbered k (l.map D.int)) [some row, o1, o2] π = .ok (y, π) ∧
      (match leadZ l with | some p => y = .rt (.int ((k + p : Nat) : Int)) | none => ∃ a b, y = .nx [some row, a, b])
  | [], k, o1, o2 => ⟨_, rfl, _, _, rfl⟩
  | x :: l, k, o1, o2 => by
    simp only [List.map_cons, DL.numbered, forGo]
    by_cases h : x = 0
    · obtain ⟨y, e, hy⟩ := lead_loop π row l (k + 1) (some (.int k)) (some (.int x))
      refine ⟨y, ?_, ?_⟩
      · rw [← e]
        unfold f_p_lead_place_b1
        simp -implicitDefEqProofs [h]
      · have : leadZ (x :: l) = (leadZ l).map (· + 1) := by
          unfold leadZ; rw [List.findIdx?_cons]; simp [h]
        rw [this]
        cases hl : leadZ l with
        | none => rw [hl] at hy; exact hy
        | some p =>
          rw [hl] at hy
          simp only [Option.map_some]
          rw [hy]; congr 3; omega
    · refine ⟨.rt (.int k), ?_, ?_⟩
      · unfold f_p_lead_place_b1
        simp -implicitDefEqProofs [h]
      · have : leadZ (x :: l) = some 0 := by
          unfold leadZ; rw [List.findIdx?_cons]; simp [h]
        rw [this]; simp

theorem lead_eq {d : D} {l : List Int} (hd : seqOf d = some (l.map D.int)) (π : Pot) : m_p_lead_place [d] π = .ok (plD (leadZ l), π) := by
  obtain ⟨y, e, hy⟩ := lead_loop π d l 0 none none
  unfold m_p_lead_place f_p_lead_place
  cases hl : leadZ l with
  | some p =>
    rw [hl] at hy
    subst hy
    simp -implicitDefEqProofs [hd] at e ⊢
    simp -implicitDefEqProofs [e, plD]
  | none =>
    rw [hl] at hy
    obtain ⟨a, b, rfl⟩ := hy
    simp -implicitDefEqProofs [hd] at e ⊢
    simp -implicitDefEqProofs [e, plD]

theorem zip_iz (a b : List Int) : zipD (a.map D.int) (b.map D.int) = (a.zip b).map fun x => D.tup [.int x.1, .int x.2] := by
  induction a generalizing b with
  | nil => cases b <;> rfl
  | cons x a ih => cases b with
    | nil => rfl
    | cons y b => simp [zipD, ih]

@[simp] theorem iZipD_ap (a : Ea) (ρ : Rho) (π : Pot) : iZipD a ρ π = (a ρ π).bind fun x => match x.1 with
  | [d, e] => (ofO (seqOf d)).bind fun z => (ofO (seqOf e)).bind fun y => .ok (zipD z y, x.2)
  | _ => .stuck := rfl

theorem ix_vz {l : List Int} {p : Nat} (h : p < l.length) : opIx (iL l) (.int (p : Int)) = some (.int (vz l p)) :=
  opIx_iz (by omega) (by simp only [Int.toNat_natCast]; rw [List.getElem?_eq_getElem h, vz_get h])

theorem less_eq {h f : List Int} {p a q : Nat} (hl : h.length = f.length) (hp : p < h.length) (hf : vz f p ≠ 0) (ha : Bd (2 ^ a) h) (hq : Bd (2 ^ q) f) (h9 : q < 9000) (haq : a + q < 1000000) (hw : h.length < 1000000) (π : Pot) :
    m_p_less [iL h, iL f, .int (p : Int)] π = .ok (iL (lessZ h f p), π) := by
  have i1 := ix_vz hp
  have i2 := ix_vz (l := f) (p := p) (by omega)
  have hg : 0 < Int.gcd (vz f p) (vz h p) := Nat.pos_of_ne_zero (by simp [Int.gcd_eq_zero_iff, hf])
  obtain ⟨g, hgd⟩ : ∃ g, g = Int.gcd (vz f p) (vz h p) := ⟨_, rfl⟩
  have hgq : g ≤ 2 ^ q := by
    have h1 := Int.natAbs_dvd_natAbs.mpr (Int.gcd_dvd_left (a := vz f p) (b := vz h p))
    have h2 := Nat.le_of_dvd (Int.natAbs_pos.mpr hf) h1
    have h3 := hq.vz p
    simp at h2; omega
  have d1 : opFdivW (.int (vz f p)) (.int (g : Int)) = some (.int (vz f p / g)) := div_b (b := q) (by omega) (by simpa using hgq) h9
  have d2 : opFdivW (.int (vz h p)) (.int (g : Int)) = some (.int (vz h p / g)) := div_b (b := q) (by omega) (by simpa using hgq) h9
  have z := zip_iz h f
  have b1 : (vz f p / (g : Int)).natAbs ≤ 2 ^ q := Nat.le_trans (div_natAbs_le _ _) (hq.vz p)
  have b2 : (vz h p / (g : Int)).natAbs ≤ 2 ^ a := Nat.le_trans (div_natAbs_le _ _) (ha.vz p)
  have lc : lcGo (gT 2 (gsCons (gN 6) (gsCons (gN 7) gsNil))) tTrue f_p_less_e1 [some (iL h), some (iL f), some (.int (p : Int)), some (.int (g : Int)), some (.int (vz f p / g)), some (.int (vz h p / g)), none, none] ((h.zip f).map fun x => D.tup [.int x.1, .int x.2]) π =
      .ok ((h.zip f).map fun x => D.int (vz f p / g * x.1 - vz h p / g * x.2), π) :=
    lcGo_map (ρ1 := fun x => [some (iL h), some (iL f), some (.int (p : Int)), some (.int (g : Int)), some (.int (vz f p / g)), some (.int (vz h p / g)), some (.int x.1), some (.int x.2)]) (fun x hx => by simp) fun x hx => by
      have hx1 : x.1 ∈ h := (List.of_mem_zip hx).1
      have hx2 : x.2 ∈ f := (List.of_mem_zip hx).2
      have m1 := mul_b b1 (ha _ hx1) (by omega)
      have m2 := mul_b b2 (hq _ hx2) (by omega)
      simp -implicitDefEqProofs [f_p_less_e1_ap, m1, m2]
  have hz : ((h.zip f).map fun x => D.tup [.int x.1, .int x.2]).length < 16777216 := by rw [List.length_map, List.length_zip]; omega
  have e : ((h.zip f).map fun x => D.int (vz f p / g * x.1 - vz h p / g * x.2)) = (lessZ h f p).map D.int := by
    simp only [lessZ, cmbZ, ← hgd, ← List.zip_map', List.map_map]
    rw [List.map_zipWith, ← List.map_uncurry_zip_eq_zipWith]
    rfl
  rw [e] at lc
  unfold m_p_less f_p_less
  obtain ⟨A, hA⟩ : ∃ A, A = h.map D.int := ⟨_, rfl⟩
  obtain ⟨B, hB⟩ : ∃ B, B = f.map D.int := ⟨_, rfl⟩
  obtain ⟨C, hC⟩ : ∃ C, C = (h.zip f).map fun x => D.tup [.int x.1, .int x.2] := ⟨_, rfl⟩
  simp only [iL] at i1 i2 lc ⊢
  rw [← hA] at i1 lc z ⊢
  rw [← hB] at i2 lc z ⊢
  rw [← hC] at z lc hz
  simp -implicitDefEqProofs [i1, i2, ← hgd, d1, d2, z, hz, lc, sl_lt]
end LW

set_option maxHeartbeats 2000000
namespace LW
open PySem PySem.Spec PyProof.Rows L2 DL RK

abbrev pvD (q : Nat × List Int) : D := .tup [.int (q.1 : Int), iL q.2]

theorem clr_len {h : List Int} {q : Nat × List Int} (hl : h.length = q.2.length) : (clr1 h q).length = h.length := by
  unfold clr1
  split
  · simp [lessZ, cmbZ_length]; omega
  · rfl

theorem clear_loop {w q : Nat} (F R : D) (π : Pot) : ∀ (found : List (Nat × List Int)) (h : List Int) (a : Nat) (o3 o4 : Option D),
    Piv w (2 ^ q) found → h.length = w → Bd (2 ^ a) h → a + (q + 1) * found.length < 9000 → w < 1000000 →
    ∃ u3 u4, forGo (gT 2 (gsCons (gN 3) (gsCons (gN 4) gsNil))) f_p_cleared_b1 (found.map pvD) [some F, some R, some (iL h), o3, o4] π = .ok (.nx [some F, some R, some (iL (clrZ found h)), u3, u4], π) ∧
      (clrZ found h).length = w ∧ Bd (2 ^ (a + (q + 1) * found.length)) (clrZ found h)
  | [], h, a, o3, o4, hp, hl, hb, h9, hw => ⟨o3, o4, rfl, hl, by simpa [clrZ] using hb⟩
  | (p, f) :: found, h, a, o3, o4, hp, hl, hb, h9, hw => by
    obtain ⟨q1, q2, q3, q4⟩ := hp (p, f) (by simp)
    dsimp only at q1 q2 q3 q4
    simp only [List.length_cons, Nat.mul_succ] at h9
    have hq : Bd (2 ^ (a + (q + 1))) (clr1 h (p, f)) := by
      obtain ⟨_, _, _, _, _, _, hbb⟩ := clr1_spec (w := w) (Q := 2 ^ q) (q := (p, f)) (h := h) ⟨q2, q3, q4⟩ (one_le_two q) hl
      have := hbb _ hb
      rwa [show 2 * 2 ^ q * 2 ^ a = 2 ^ (a + (q + 1)) by rw [Nat.pow_add, Nat.pow_succ]; grind] at this
    obtain ⟨o3', o4', e, l2, b2⟩ := clear_loop F R π found (clr1 h (p, f)) (a + (q + 1)) (some (.int p)) (some (iL f)) (fun x hx => hp x (by simp [hx]))
      (by rw [clr_len (by dsimp only; omega)]; exact hl) hq (by omega) hw
    refine ⟨o3', o4', ?_, l2, ?_⟩
    · rw [show clrZ ((p, f) :: found) h = clrZ found (clr1 h (p, f)) from rfl, ← e]
      simp only [List.map_cons, forGo]
      have i1 := ix_vz (l := h) (p := p) (by omega)
      unfold f_p_cleared_b1 clr1
      by_cases hz : vz h p = 0
      · simp -implicitDefEqProofs [i1, hz]
      · have m := less_eq (h := h) (f := f) (p := p) (a := a) (q := q) (by omega) (by omega) q3 hb q4 (by omega) (by omega) (by omega) π
        simp -implicitDefEqProofs [i1, hz, m]
    · rw [show clrZ ((p, f) :: found) h = clrZ found (clr1 h (p, f)) from rfl]
      simp only [List.length_cons, Nat.mul_succ]
      rwa [show a + ((q + 1) * found.length + (q + 1)) = a + (q + 1) + (q + 1) * found.length by omega]

theorem cleared_eq {w q a : Nat} {found : List (Nat × List Int)} {r : List Int} (hp : Piv w (2 ^ q) found) (hl : r.length = w) (hb : Bd (2 ^ a) r) (h9 : a + (q + 1) * found.length < 9000) (hw : w < 1000000) (π : Pot) :
    m_p_cleared [.lst (found.map pvD), iL r] π = .ok (iL (plainZ (clrZ found r)), π) := by
  obtain ⟨o3, o4, e, hl2, hb2⟩ := clear_loop (.lst (found.map pvD)) (iL r) π found r a none none hp hl hb h9 hw
  have e2 := plain_eq (d := iL (clrZ found r)) (.inl rfl) hb2 h9 (by omega) π
  unfold m_p_cleared f_p_cleared
  simp -implicitDefEqProofs [e]
  simp -implicitDefEqProofs [e2]

@[simp] theorem eGoL_ap (r : Rm) (ks : List Ak) (m : Fd) (a : Ea) (ρ : Rho) (π : Pot) : eGoL r ks m a ρ π = (a ρ π).bind fun x => if lentOk ks x.1 = true then chk r (m x.1 x.2) else .stuck := rfl
theorem noLs_iz (l : List Int) : noLs (l.map D.int) = true := by
  induction l with
  | nil => rfl
  | cons x l ih => simp [noLs, noL, ih]

theorem ech_loop {w b n q : Nat} (hn : 1 ≤ n) (hq : (2 * n * 2 ^ b) ^ n ≤ 2 ^ q) (h9 : b + (q + 1) * (n - 1) < 9000) (hw : w < 1000000) (hn2 : n < 1000000) (R : D) (π : Pot) : ∀ (rs rows : List (List Int)) (found : List (Nat × List Int)) (pos : List D) (k : Nat) (o3 o4 o5 o6 : Option D),
    Inv w (2 ^ b) ((2 * n * 2 ^ b) ^ n) rows found → found.length + rs.length ≤ n → pos.length + rs.length ≤ n → (∀ r ∈ rows, Bd (2 ^ b) r) → (∀ r ∈ rs, r.length = w ∧ Bd (2 ^ b) r) →
    ∃ u3 u4 u5 u6, forGo (gT 2 (gsCons (gN 3) (gsCons (gN 4) gsNil))) f_p_echelon_b1 (DL.numbered k (rs.map iL)) [some R, some (.lst (found.map pvD)), some (.lst pos), o3, o4, o5, o6] π =
      .ok (.nx [some R, some (.lst ((rs.foldl stepZ found).map pvD)), some (.lst (pos ++ (posZ found k rs).map fun (i : Nat) => D.int (i : Int))), u3, u4, u5, u6], π) := by
  intro rs
  induction rs with
  | nil => intro rows found pos k o3 o4 o5 o6 _ _ _ _ _; exact ⟨o3, o4, o5, o6, by simp [posZ, DL.numbered, forGo]⟩
  | cons r rs ih =>
    intro rows found pos k o3 o4 o5 o6 hi hl hpl hb hr
    simp only [List.length_cons] at hl hpl
    have hpv : Piv w (2 ^ q) found := fun x hx => ⟨(hi.piv x hx).1, (hi.piv x hx).2.1, (hi.piv x hx).2.2.1, (hi.piv x hx).2.2.2.le hq⟩
    have hm : b + (q + 1) * found.length < 9000 := by
      have : (q + 1) * found.length ≤ (q + 1) * (n - 1) := Nat.mul_le_mul_left _ (by omega)
      omega
    have e1 := cleared_eq hpv (hr r (by simp)).1 (hr r (by simp)).2 hm hw π
    have e2 := lead_eq (d := iL (plainZ (clrZ found r))) (l := plainZ (clrZ found r)) rfl π
    have hstep := step_inv (one_le_two b) hn hi (by omega) hb (hr r (by simp)).1 (hr r (by simp)).2
    have hsl := stepZ_len found r
    simp only [List.map_cons, DL.numbered, forGo, List.foldl_cons]
    have hl1 : ((found.map pvD).length < 16777216) := by simp; omega
    have hl2 : pos.length < 16777216 := by omega
    have hnr : noR .o (iL (plainZ (clrZ found r))) = true := noLs_iz _
    cases hz : leadZ (plainZ (clrZ found r)) with
    | none =>
      have hs : stepZ found r = found := by unfold stepZ; rw [hz]
      rw [hz] at e2
      rw [hs] at hstep ⊢
      have hk : keepZ found r = false := by unfold keepZ; rw [hz]; rfl
      have hpz : posZ found k (r :: rs) = posZ found (k + 1) rs := by rw [posZ, hk, hs]; rfl
      rw [hpz]
      obtain ⟨o3, o4, o5, o6, e⟩ := ih (rows ++ [r]) found pos (k + 1) (some (.int k)) (some (iL r)) (some (iL (plainZ (clrZ found r)))) (some .non) hstep (by omega) (by omega) (by simp; grind) (fun x hx => hr x (by simp [hx]))
      refine ⟨o3, o4, o5, o6, ?_⟩
      rw [← e]
      obtain ⟨Z, hZ⟩ : ∃ Z, Z = iL (plainZ (clrZ found r)) := ⟨_, rfl⟩
      obtain ⟨F, hF⟩ : ∃ F, F = found.map pvD := ⟨_, rfl⟩
      rw [← hZ] at e1 e2 hnr ⊢
      rw [← hF] at e1 ⊢
      unfold f_p_echelon_b1
      simp -implicitDefEqProofs [e1, e2, plD, lentOk, chk, hnr]
    | some p =>
      have hs : stepZ found r = found ++ [(p, plainZ (clrZ found r))] := by unfold stepZ; rw [hz]
      rw [hz] at e2
      rw [hs] at hstep hsl ⊢
      have hk : keepZ found r = true := by unfold keepZ; rw [hz]; rfl
      have hpz : posZ found k (r :: rs) = k :: posZ (found ++ [(p, plainZ (clrZ found r))]) (k + 1) rs := by rw [posZ, hk, hs]; rfl
      rw [hpz, List.map_cons, show pos ++ D.int (k : Int) :: (posZ (found ++ [(p, plainZ (clrZ found r))]) (k + 1) rs).map (fun (i : Nat) => D.int (i : Int)) = (pos ++ [D.int (k : Int)]) ++ (posZ (found ++ [(p, plainZ (clrZ found r))]) (k + 1) rs).map (fun (i : Nat) => D.int (i : Int)) by simp]
      obtain ⟨o3, o4, o5, o6, e⟩ := ih (rows ++ [r]) (found ++ [(p, plainZ (clrZ found r))]) (pos ++ [.int k]) (k + 1) (some (.int k)) (some (iL r)) (some (iL (plainZ (clrZ found r)))) (some (.int p)) hstep (by omega) (by simp; omega) (by simp; grind) (fun x hx => hr x (by simp [hx]))
      refine ⟨o3, o4, o5, o6, ?_⟩
      rw [← e, List.map_append]
      obtain ⟨Z, hZ⟩ : ∃ Z, Z = iL (plainZ (clrZ found r)) := ⟨_, rfl⟩
      obtain ⟨F, hF⟩ : ∃ F, F = found.map pvD := ⟨_, rfl⟩
      have hpv : (List.map pvD [(p, plainZ (clrZ found r))]) = [.tup [.int p, Z]] := by simp [hZ]
      rw [hpv]
      rw [← hZ] at e1 e2 hnr ⊢
      rw [← hF] at e1 hl1 ⊢
      unfold f_p_echelon_b1
      simp -implicitDefEqProofs [e1, e2, plD, lentOk, chk, hnr, appD_ok, hl1, hl2, sl_ok]

theorem echelon_eq {w b n q : Nat} (hn : 1 ≤ n) (hq : (2 * n * 2 ^ b) ^ n ≤ 2 ^ q) (h9 : b + (q + 1) * (n - 1) < 9000) (hw : w < 1000000) (hn2 : n < 1000000) {d : D} {rs : List (List Int)} (hd : seqOf d = some (rs.map iL)) (hl : rs.length ≤ n) (hr : ∀ r ∈ rs, r.length = w ∧ Bd (2 ^ b) r) (π : Pot) :
    m_p_echelon [d] π = .ok (.tup [.lst ((echZ rs).map pvD), .lst ((posZ [] 0 rs).map fun (i : Nat) => D.int (i : Int))], π) := by
  obtain ⟨o3, o4, o5, o6, e⟩ := ech_loop hn hq h9 hw hn2 d π rs [] [] [] 0 none none none none (inv_nil _ _ _) (by simpa using hl) (by simpa using hl) (by simp) hr
  rw [List.nil_append] at e
  obtain ⟨P, hP⟩ : ∃ P, P = (posZ [] 0 rs).map fun (i : Nat) => D.int (i : Int) := ⟨_, rfl⟩
  rw [← hP] at e ⊢
  unfold m_p_echelon f_p_echelon echZ
  simp -implicitDefEqProofs [hd] at e ⊢
  simp -implicitDefEqProofs [e]
theorem rank_eq {w b n q : Nat} (hn : 1 ≤ n) (hq : (2 * n * 2 ^ b) ^ n ≤ 2 ^ q) (h9 : b + (q + 1) * (n - 1) < 9000) (hw : w < 1000000) (hn2 : n < 1000000) {d : D} {rs : List (List Int)} (hd : seqOf d = some (rs.map iL)) (hl : rs.length ≤ n) (hr : ∀ r ∈ rs, r.length = w ∧ Bd (2 ^ b) r) (π : Pot) :
    m_p_rank_of [d] π = .ok (.int (rk (rs.map vz)), π) := by
  have em := echelon_eq hn hq h9 hw hn2 hd hl hr π
  have e3 : (echZ rs).length = rk (rs.map vz) := echZ_rank rs fun r h => (hr r h).1
  unfold m_p_rank_of f_p_rank_of
  have hix : opIx (.tup [.lst ((echZ rs).map pvD), .lst ((posZ [] 0 rs).map fun (i : Nat) => D.int (i : Int))]) (.int 0) = some (.lst ((echZ rs).map pvD)) := rfl
  simp -implicitDefEqProofs [em, hix, e3]
end LW

set_option maxHeartbeats 2000000
namespace LW
open PySem PySem.Spec PyProof.Rows L2 DL RK
/-! Ranks of rows that are lists or tuples. -/
theorem opIx_tup (xs : List D) (i : D) : opIx (.tup xs) i = opIx (.lst xs) i := by cases i <;> rfl
theorem ix_vzG {d : D} {l : List Int} (hd : d = iL l ∨ d = iT l) {p : Nat} (h : p < l.length) : opIx d (.int (p : Int)) = some (.int (vz l p)) := by
  rcases hd with rfl | rfl
  · exact ix_vz h
  · rw [iT, opIx_tup]; exact ix_vz h
abbrev encB (r : Bool × List Int) : D := if r.1 then iL r.2 else iT r.2
theorem encB_or (r : Bool × List Int) : encB r = iL r.2 ∨ encB r = iT r.2 := by
  unfold encB; split
  · exact .inl rfl
  · exact .inr rfl
theorem less_eqG {dh : D} {h f : List Int} (hdh : dh = iL h ∨ dh = iT h) {p a q : Nat} (hl : h.length = f.length) (hp : p < h.length) (hf : vz f p ≠ 0) (ha : Bd (2 ^ a) h) (hq : Bd (2 ^ q) f) (h9 : q < 9000) (haq : a + q < 1000000) (hw : h.length < 1000000) (π : Pot) :
    m_p_less [dh, iL f, .int (p : Int)] π = .ok (iL (lessZ h f p), π) := by
  have i1 := ix_vzG hdh hp
  have hsd : seqOf dh = some (h.map D.int) := by rcases hdh with rfl | rfl <;> rfl
  have i2 := ix_vz (l := f) (p := p) (by omega)
  have hg : 0 < Int.gcd (vz f p) (vz h p) := Nat.pos_of_ne_zero (by simp [Int.gcd_eq_zero_iff, hf])
  obtain ⟨g, hgd⟩ : ∃ g, g = Int.gcd (vz f p) (vz h p) := ⟨_, rfl⟩
  have hgq : g ≤ 2 ^ q := by
    have h1 := Int.natAbs_dvd_natAbs.mpr (Int.gcd_dvd_left (a := vz f p) (b := vz h p))
    have h2 := Nat.le_of_dvd (Int.natAbs_pos.mpr hf) h1
    have h3 := hq.vz p
    simp at h2; omega
  have d1 : opFdivW (.int (vz f p)) (.int (g : Int)) = some (.int (vz f p / g)) := div_b (b := q) (by omega) (by simpa using hgq) h9
  have d2 : opFdivW (.int (vz h p)) (.int (g : Int)) = some (.int (vz h p / g)) := div_b (b := q) (by omega) (by simpa using hgq) h9
  have z := zip_iz h f
  have b1 : (vz f p / (g : Int)).natAbs ≤ 2 ^ q := Nat.le_trans (div_natAbs_le _ _) (hq.vz p)
  have b2 : (vz h p / (g : Int)).natAbs ≤ 2 ^ a := Nat.le_trans (div_natAbs_le _ _) (ha.vz p)
  have lc : lcGo (gT 2 (gsCons (gN 6) (gsCons (gN 7) gsNil))) tTrue f_p_less_e1 [some dh, some (iL f), some (.int (p : Int)), some (.int (g : Int)), some (.int (vz f p / g)), some (.int (vz h p / g)), none, none] ((h.zip f).map fun x => D.tup [.int x.1, .int x.2]) π =
      .ok ((h.zip f).map fun x => D.int (vz f p / g * x.1 - vz h p / g * x.2), π) :=
    lcGo_map (ρ1 := fun x => [some dh, some (iL f), some (.int (p : Int)), some (.int (g : Int)), some (.int (vz f p / g)), some (.int (vz h p / g)), some (.int x.1), some (.int x.2)]) (fun x hx => by simp) fun x hx => by
      have hx1 : x.1 ∈ h := (List.of_mem_zip hx).1
      have hx2 : x.2 ∈ f := (List.of_mem_zip hx).2
      have m1 := mul_b b1 (ha _ hx1) (by omega)
      have m2 := mul_b b2 (hq _ hx2) (by omega)
      simp -implicitDefEqProofs [f_p_less_e1_ap, m1, m2]
  have hz : ((h.zip f).map fun x => D.tup [.int x.1, .int x.2]).length < 16777216 := by rw [List.length_map, List.length_zip]; omega
  have e : ((h.zip f).map fun x => D.int (vz f p / g * x.1 - vz h p / g * x.2)) = (lessZ h f p).map D.int := by
    simp only [lessZ, cmbZ, ← hgd, ← List.zip_map', List.map_map]
    rw [List.map_zipWith, ← List.map_uncurry_zip_eq_zipWith]
    rfl
  rw [e] at lc
  unfold m_p_less f_p_less
  obtain ⟨A, hA⟩ : ∃ A, A = h.map D.int := ⟨_, rfl⟩
  obtain ⟨B, hB⟩ : ∃ B, B = f.map D.int := ⟨_, rfl⟩
  obtain ⟨C, hC⟩ : ∃ C, C = (h.zip f).map fun x => D.tup [.int x.1, .int x.2] := ⟨_, rfl⟩
  simp only [iL] at i1 i2 lc ⊢
  rw [← hA] at hsd z
  rw [← hB] at i2 lc z ⊢
  rw [← hC] at z lc hz
  simp -implicitDefEqProofs [hsd, i1, i2, ← hgd, d1, d2, z, hz, lc, sl_lt]
theorem clear_loopG {w q : Nat} (F R : D) (π : Pot) : ∀ (found : List (Nat × List Int)) (h : List Int) (dh : D) (a : Nat) (o3 o4 : Option D), (dh = iL h ∨ dh = iT h) →
    Piv w (2 ^ q) found → h.length = w → Bd (2 ^ a) h → a + (q + 1) * found.length < 9000 → w < 1000000 →
    ∃ u3 u4 d', (d' = iL (clrZ found h) ∨ d' = iT (clrZ found h)) ∧ forGo (gT 2 (gsCons (gN 3) (gsCons (gN 4) gsNil))) f_p_cleared_b1 (found.map pvD) [some F, some R, some dh, o3, o4] π = .ok (.nx [some F, some R, some d', u3, u4], π) ∧
      (clrZ found h).length = w ∧ Bd (2 ^ (a + (q + 1) * found.length)) (clrZ found h)
  | [], h, dh, a, o3, o4, hdh, hp, hl, hb, h9, hw => ⟨o3, o4, dh, by simpa [clrZ] using hdh, rfl, hl, by simpa [clrZ] using hb⟩
  | (p, f) :: found, h, dh, a, o3, o4, hdh, hp, hl, hb, h9, hw => by
    obtain ⟨q1, q2, q3, q4⟩ := hp (p, f) (by simp)
    dsimp only at q1 q2 q3 q4
    simp only [List.length_cons, Nat.mul_succ] at h9
    have hq : Bd (2 ^ (a + (q + 1))) (clr1 h (p, f)) := by
      obtain ⟨_, _, _, _, _, _, hbb⟩ := clr1_spec (w := w) (Q := 2 ^ q) (q := (p, f)) (h := h) ⟨q2, q3, q4⟩ (one_le_two q) hl
      have := hbb _ hb
      rwa [show 2 * 2 ^ q * 2 ^ a = 2 ^ (a + (q + 1)) by rw [Nat.pow_add, Nat.pow_succ]; grind] at this
    have i1 := ix_vzG hdh (p := p) (by omega)
    by_cases hz : vz h p = 0
    · have hc : clr1 h (p, f) = h := by unfold clr1; simp [hz]
      obtain ⟨o3', o4', d', hd', e, l2, b2⟩ := clear_loopG F R π found (clr1 h (p, f)) dh (a + (q + 1)) (some (.int p)) (some (iL f)) (by rw [hc]; exact hdh) (fun x hx => hp x (by simp [hx]))
        (by rw [clr_len (by dsimp only; omega)]; exact hl) hq (by omega) hw
      refine ⟨o3', o4', d', hd', ?_, l2, ?_⟩
      · rw [← e]
        simp only [List.map_cons, forGo]
        unfold f_p_cleared_b1
        simp -implicitDefEqProofs [i1, hz]
      · rw [show clrZ ((p, f) :: found) h = clrZ found (clr1 h (p, f)) from rfl]
        simp only [List.length_cons, Nat.mul_succ]
        rwa [show a + ((q + 1) * found.length + (q + 1)) = a + (q + 1) + (q + 1) * found.length by omega]
    · have hc : clr1 h (p, f) = lessZ h f p := by unfold clr1; simp [hz]
      obtain ⟨o3', o4', d', hd', e, l2, b2⟩ := clear_loopG F R π found (clr1 h (p, f)) (iL (clr1 h (p, f))) (a + (q + 1)) (some (.int p)) (some (iL f)) (.inl rfl) (fun x hx => hp x (by simp [hx]))
        (by rw [clr_len (by dsimp only; omega)]; exact hl) hq (by omega) hw
      have m := less_eqG hdh (f := f) (p := p) (a := a) (q := q) (by omega) (by omega) q3 hb q4 (by omega) (by omega) (by omega) π
      rw [hc] at e
      refine ⟨o3', o4', d', hd', ?_, l2, ?_⟩
      · rw [← e]
        simp only [List.map_cons, forGo]
        unfold f_p_cleared_b1
        simp -implicitDefEqProofs [i1, hz, m]
      · rw [show clrZ ((p, f) :: found) h = clrZ found (clr1 h (p, f)) from rfl]
        simp only [List.length_cons, Nat.mul_succ]
        rwa [show a + ((q + 1) * found.length + (q + 1)) = a + (q + 1) + (q + 1) * found.length by omega]
theorem cleared_eqG {w q a : Nat} {found : List (Nat × List Int)} {r : List Int} {dr : D} (hdr : dr = iL r ∨ dr = iT r) (hp : Piv w (2 ^ q) found) (hl : r.length = w) (hb : Bd (2 ^ a) r) (h9 : a + (q + 1) * found.length < 9000) (hw : w < 1000000) (π : Pot) :
    m_p_cleared [.lst (found.map pvD), dr] π = .ok (iL (plainZ (clrZ found r)), π) := by
  obtain ⟨o3, o4, d', hd', e, hl2, hb2⟩ := clear_loopG (.lst (found.map pvD)) dr π found r dr a none none hdr hp hl hb h9 hw
  have e2 := plain_eq (d := d') hd' hb2 h9 (by omega) π
  unfold m_p_cleared f_p_cleared
  simp -implicitDefEqProofs [e]
  simp -implicitDefEqProofs [e2]
theorem ech_loopG {w b n q : Nat} (hn : 1 ≤ n) (hq : (2 * n * 2 ^ b) ^ n ≤ 2 ^ q) (h9 : b + (q + 1) * (n - 1) < 9000) (hw : w < 1000000) (hn2 : n < 1000000) (R : D) (π : Pot) : ∀ (rs : List (Bool × List Int)) (rows : List (List Int)) (found : List (Nat × List Int)) (pos : List D) (k : Nat) (o3 o4 o5 o6 : Option D),
    Inv w (2 ^ b) ((2 * n * 2 ^ b) ^ n) rows found → found.length + rs.length ≤ n → pos.length + rs.length ≤ n → (∀ r ∈ rows, Bd (2 ^ b) r) → (∀ r ∈ rs, r.2.length = w ∧ Bd (2 ^ b) r.2) →
    ∃ u3 u4 u5 u6, forGo (gT 2 (gsCons (gN 3) (gsCons (gN 4) gsNil))) f_p_echelon_b1 (DL.numbered k (rs.map encB)) [some R, some (.lst (found.map pvD)), some (.lst pos), o3, o4, o5, o6] π =
      .ok (.nx [some R, some (.lst (((rs.map (·.2)).foldl stepZ found).map pvD)), some (.lst (pos ++ (posZ found k (rs.map (·.2))).map fun (i : Nat) => D.int (i : Int))), u3, u4, u5, u6], π) := by
  intro rs
  induction rs with
  | nil => intro rows found pos k o3 o4 o5 o6 _ _ _ _ _; exact ⟨o3, o4, o5, o6, by simp [posZ, DL.numbered, forGo]⟩
  | cons r rs ih =>
    intro rows found pos k o3 o4 o5 o6 hi hl hpl hb hr
    simp only [List.length_cons] at hl hpl
    have hpv : Piv w (2 ^ q) found := fun x hx => ⟨(hi.piv x hx).1, (hi.piv x hx).2.1, (hi.piv x hx).2.2.1, (hi.piv x hx).2.2.2.le hq⟩
    have hm : b + (q + 1) * found.length < 9000 := by
      have : (q + 1) * found.length ≤ (q + 1) * (n - 1) := Nat.mul_le_mul_left _ (by omega)
      omega
    obtain ⟨dr, hdr⟩ : ∃ z, z = encB r := ⟨_, rfl⟩
    have hdr2 := encB_or r
    rw [← hdr] at hdr2
    have e1 := cleared_eqG hdr2 hpv (hr r (by simp)).1 (hr r (by simp)).2 hm hw π
    have e2 := lead_eq (d := iL (plainZ (clrZ found r.2))) (l := plainZ (clrZ found r.2)) rfl π
    have hstep := step_inv (one_le_two b) hn hi (by omega) hb (hr r (by simp)).1 (hr r (by simp)).2
    have hsl := stepZ_len found r.2
    simp only [List.map_cons, DL.numbered, forGo, List.foldl_cons]
    rw [← hdr]
    have hl1 : ((found.map pvD).length < 16777216) := by simp; omega
    have hl2 : pos.length < 16777216 := by omega
    have hnr : noR .o (iL (plainZ (clrZ found r.2))) = true := noLs_iz _
    cases hz : leadZ (plainZ (clrZ found r.2)) with
    | none =>
      have hs : stepZ found r.2 = found := by unfold stepZ; rw [hz]
      rw [hz] at e2
      rw [hs] at hstep ⊢
      have hk : keepZ found r.2 = false := by unfold keepZ; rw [hz]; rfl
      have hpz : posZ found k (r.2 :: rs.map (·.2)) = posZ found (k + 1) (rs.map (·.2)) := by rw [posZ, hk, hs]; rfl
      rw [hpz]
      obtain ⟨o3, o4, o5, o6, e⟩ := ih (rows ++ [r.2]) found pos (k + 1) (some (.int k)) (some dr) (some (iL (plainZ (clrZ found r.2)))) (some .non) hstep (by omega) (by omega) (by simp; grind) (fun x hx => hr x (by simp [hx]))
      refine ⟨o3, o4, o5, o6, ?_⟩
      rw [← e]
      obtain ⟨Z, hZ⟩ : ∃ Z, Z = iL (plainZ (clrZ found r.2)) := ⟨_, rfl⟩
      obtain ⟨F, hF⟩ : ∃ F, F = found.map pvD := ⟨_, rfl⟩
      rw [← hZ] at e1 e2 hnr ⊢
      rw [← hF] at e1 ⊢
      unfold f_p_echelon_b1
      simp -implicitDefEqProofs [e1, e2, plD, lentOk, chk, hnr]
    | some p =>
      have hs : stepZ found r.2 = found ++ [(p, plainZ (clrZ found r.2))] := by unfold stepZ; rw [hz]
      rw [hz] at e2
      rw [hs] at hstep hsl ⊢
      have hk : keepZ found r.2 = true := by unfold keepZ; rw [hz]; rfl
      have hpz : posZ found k (r.2 :: rs.map (·.2)) = k :: posZ (found ++ [(p, plainZ (clrZ found r.2))]) (k + 1) (rs.map (·.2)) := by rw [posZ, hk, hs]; rfl
      rw [hpz, List.map_cons, show pos ++ D.int (k : Int) :: (posZ (found ++ [(p, plainZ (clrZ found r.2))]) (k + 1) (rs.map (·.2))).map (fun (i : Nat) => D.int (i : Int)) = (pos ++ [D.int (k : Int)]) ++ (posZ (found ++ [(p, plainZ (clrZ found r.2))]) (k + 1) (rs.map (·.2))).map (fun (i : Nat) => D.int (i : Int)) by simp]
      obtain ⟨o3, o4, o5, o6, e⟩ := ih (rows ++ [r.2]) (found ++ [(p, plainZ (clrZ found r.2))]) (pos ++ [.int k]) (k + 1) (some (.int k)) (some dr) (some (iL (plainZ (clrZ found r.2)))) (some (.int p)) hstep (by omega) (by simp; omega) (by simp; grind) (fun x hx => hr x (by simp [hx]))
      refine ⟨o3, o4, o5, o6, ?_⟩
      rw [← e, List.map_append]
      obtain ⟨Z, hZ⟩ : ∃ Z, Z = iL (plainZ (clrZ found r.2)) := ⟨_, rfl⟩
      obtain ⟨F, hF⟩ : ∃ F, F = found.map pvD := ⟨_, rfl⟩
      have hpv : (List.map pvD [(p, plainZ (clrZ found r.2))]) = [.tup [.int p, Z]] := by simp [hZ]
      rw [hpv]
      rw [← hZ] at e1 e2 hnr ⊢
      rw [← hF] at e1 hl1 ⊢
      unfold f_p_echelon_b1
      simp -implicitDefEqProofs [e1, e2, plD, lentOk, chk, hnr, appD_ok, hl1, hl2, sl_ok]

theorem echelon_eqG {w b n q : Nat} (hn : 1 ≤ n) (hq : (2 * n * 2 ^ b) ^ n ≤ 2 ^ q) (h9 : b + (q + 1) * (n - 1) < 9000) (hw : w < 1000000) (hn2 : n < 1000000) {d : D} {rs : List (Bool × List Int)} (hd : seqOf d = some (rs.map encB)) (hl : rs.length ≤ n) (hr : ∀ r ∈ rs, r.2.length = w ∧ Bd (2 ^ b) r.2) (π : Pot) :
    m_p_echelon [d] π = .ok (.tup [.lst ((echZ (rs.map (·.2))).map pvD), .lst ((posZ [] 0 (rs.map (·.2))).map fun (i : Nat) => D.int (i : Int))], π) := by
  obtain ⟨o3, o4, o5, o6, e⟩ := ech_loopG hn hq h9 hw hn2 d π rs [] [] [] 0 none none none none (inv_nil _ _ _) (by simpa using hl) (by simpa using hl) (by simp) hr
  rw [List.nil_append] at e
  obtain ⟨P, hP⟩ : ∃ P, P = (posZ [] 0 (rs.map (·.2))).map fun (i : Nat) => D.int (i : Int) := ⟨_, rfl⟩
  rw [← hP] at e ⊢
  unfold m_p_echelon f_p_echelon echZ
  simp -implicitDefEqProofs [hd] at e ⊢
  simp -implicitDefEqProofs [e]
theorem rank_eqG {w b n q : Nat} (hn : 1 ≤ n) (hq : (2 * n * 2 ^ b) ^ n ≤ 2 ^ q) (h9 : b + (q + 1) * (n - 1) < 9000) (hw : w < 1000000) (hn2 : n < 1000000) {d : D} {rs : List (Bool × List Int)} (hd : seqOf d = some (rs.map encB)) (hl : rs.length ≤ n) (hr : ∀ r ∈ rs, r.2.length = w ∧ Bd (2 ^ b) r.2) (π : Pot) :
    m_p_rank_of [d] π = .ok (.int (rk ((rs.map (·.2)).map vz)), π) := by
  have em := echelon_eqG hn hq h9 hw hn2 hd hl hr π
  have e3 : (echZ (rs.map (·.2))).length = rk ((rs.map (·.2)).map vz) := echZ_rank (rs.map (·.2)) fun r h => by
    obtain ⟨x, hx, rfl⟩ := List.mem_map.mp h
    exact (hr x hx).1
  unfold m_p_rank_of f_p_rank_of
  have hix : opIx (.tup [.lst ((echZ (rs.map (·.2))).map pvD), .lst ((posZ [] 0 (rs.map (·.2))).map fun (i : Nat) => D.int (i : Int))]) (.int 0) = some (.lst ((echZ (rs.map (·.2))).map pvD)) := rfl
  simp -implicitDefEqProofs [em, hix, e3]
end LW

set_option maxHeartbeats 4000000
namespace LW
open PySem PySem.Spec PyProof.Rows L2 DL RK
/-! Told points, no law in sight. -/
theorem sWhile_ap (ft : Et) (fb : Fs) (ρ : Rho) (π : Pot) : sWhile ft fb ρ π = whileGo ft fb 1000000000 ρ π := rfl
theorem signed_eq {d : D} {l : List Int} (hd : d = iL l ∨ d = iT l) {b : Nat} (hb : Bd (2 ^ b) l) (h9 : b < 9000) (hl : l.length < 1000000) (π : Pot) :
    m_p_signed [d] π = .ok (iL (toldL l), π) := by
  have e1 := plain_eq hd hb h9 hl π
  have e2 := lead_eq (d := iL (plainZ l)) (l := plainZ l) rfl π
  have hpl : (plainZ l).length < 16777216 := by rw [plainZ_length]; omega
  unfold m_p_signed f_p_signed toldL signZ
  cases hz : leadZ (plainZ l) with
  | none =>
    rw [hz] at e2
    simp -implicitDefEqProofs [e1, e2, plD]
  | some p =>
    rw [hz] at e2
    obtain ⟨p1, p2⟩ := leadZ_some hz
    have i1 := ix_vz p1
    have lc : lcGo (gN 3) tTrue f_p_signed_e1 [some d, some (iL (plainZ l)), some (.int p), none] ((plainZ l).map D.int) π = .ok ((plainZ l).map fun x => D.int (0 - x), π) :=
      lcGo_map (ρ1 := fun x => [some d, some (iL (plainZ l)), some (.int p), some (.int x)]) (fun x hx => rfl) fun x hx => by simp [f_p_signed_e1_ap]
    have hl2 : ((plainZ l).map D.int).length < 16777216 := by rw [List.length_map]; exact hpl
    obtain ⟨A, hA⟩ : ∃ A, A = (plainZ l).map D.int := ⟨_, rfl⟩
    simp only [iL] at e1 e2 i1 lc ⊢
    rw [← hA] at e1 e2 i1 lc hl2
    by_cases hp : 0 < vz (plainZ l) p
    · skip
      rw [if_pos hp, ← hA]
      simp -implicitDefEqProofs [e1, e2, plD, i1, hp]
    · have h3 : ((plainZ l).map fun x => D.int (0 - x)) = ((plainZ l).map (0 - ·)).map D.int := by rw [List.map_map]; rfl
      rw [if_neg hp, ← h3]
      obtain ⟨C, hC⟩ : ∃ C, C = (plainZ l).map fun x => D.int (0 - x) := ⟨_, rfl⟩
      rw [← hC] at lc ⊢
      simp -implicitDefEqProofs [e1, e2, plD, i1, hp, lc, hl2]
theorem told_of_eq {d : D} {l : List Int} (hd : d = iL l ∨ d = iT l) {b : Nat} (hb : Bd (2 ^ b) l) (h9 : b < 9000) (hl : l.length < 1000000) (π : Pot) :
    m_p_told_of [d] π = .ok (iT (toldL l), π) := by
  have e1 := signed_eq hd hb h9 hl π
  unfold m_p_told_of f_p_told_of
  simp -implicitDefEqProofs [e1]
abbrev pD (p : Pt) : D := iT (lp p)
abbrev lD (p : Pt) : D := iL (lp p)
theorem told_bd {p : Pt} {B} (h : Bd B (lp p)) : Bd B (lp (told p)) := by rw [lp_told]; exact toldL_bd h

def pyP (p : Pt) : PyData := .tuple ((lp p).map PyData.int)
theorem toPy_pt (p : Pt) : toPy (pD p) = some (pyP p) := by
  show (toPyL ((lp p).map D.int)).map _ = _
  rw [toPyL_iz]; rfl
theorem toPy_pts : ∀ ps : List Pt, toPyL (ps.map pD) = some (ps.map pyP)
  | [] => rfl
  | p :: ps => by
    show (match toPy (pD p), toPyL (ps.map pD) with | some p, some ps => some (p :: ps) | _, _ => none) = _
    rw [toPy_pt, toPy_pts ps]; rfl
theorem shaped_pt (p : Pt) : SeqAt.shaped (pyP p) = true := by rfl
theorem canAll_pts : ∀ ps : List Pt, PyData.canLayAll0 (ps.map pyP) = true
  | [] => rfl
  | p :: ps => by
    show (PyData.canLay0 (pyP p) && PyData.canLayAll0 (ps.map pyP)) = true
    rw [canAll_pts ps]; rfl
theorem depth_pts : ∀ ps : List Pt, PyData.depthAll (ps.map pyP) ≤ 1
  | [] => Nat.zero_le _
  | p :: ps => by
    show max (PyData.depth (pyP p)) (PyData.depthAll (ps.map pyP)) ≤ 1
    have : PyData.depth (pyP p) = 1 := by rfl
    have := depth_pts ps
    omega
theorem shaped_pts (ps : List Pt) : SeqAt.shaped (.list (ps.map pyP)) = true := by
  have := depth_pts ps
  show (PyData.canLayAll0 (ps.map pyP) && decide (PyData.depthAll (ps.map pyP) + 1 ≤ 64)) = true
  rw [canAll_pts, Bool.true_and]
  exact decide_eq_true (by omega)
theorem eqv_pt (p q : Pt) : PyData.eqv (pyP p) (pyP q) = decide (p = q) := by
  show PyData.eqvAll ((lp p).map PyData.int) ((lp q).map PyData.int) = _
  rw [eqv_ints]
  by_cases h : p = q
  · subst h; simp
  · simp [h]; exact fun e => h (lp_inj e)
theorem in_pts (p : Pt) (ps : List Pt) : inDT (pD p) (.lst (ps.map pD)) = some (decide (p ∈ ps)) := by
  have e1 := toPy_pt p
  have e2 : toPy (.lst (ps.map pD)) = some (.list (ps.map pyP)) := by
    show (toPyL (ps.map pD)).map _ = _
    rw [toPy_pts]; rfl
  unfold inDT
  rw [e1, e2]
  simp only [shaped_pt, shaped_pts, Bool.and_self, if_true]
  congr 1
  rw [Bool.eq_iff_iff]
  simp only [List.any_map, List.any_eq_true, Function.comp, eqv_pt, decide_eq_true_eq]
  exact ⟨fun ⟨x, hx, e⟩ => e ▸ hx, fun h => ⟨p, h, rfl⟩⟩
theorem lcGo_pts {α : Type} {enc : α → D} {fg : D → Rho → Option Rho} {fe : Ed} {ρ : Rho} {ρ1 : α → Rho} {G : Pt → Prop} : ∀ {xs : List α} {π : Pot}, (∀ x ∈ xs, fg (enc x) ρ = some (ρ1 x)) →
    (∀ x ∈ xs, ∀ π, ∃ q π', fe (ρ1 x) π = .ok (pD q, π') ∧ G q) → ∃ (qs : List Pt) (π' : Pot), lcGo fg tTrue fe ρ (xs.map enc) π = .ok (qs.map pD, π') ∧ qs.length = xs.length ∧ ∀ q ∈ qs, G q
  | [], π, _, _ => ⟨[], π, rfl, rfl, by simp⟩
  | x :: xs, π, h1, h2 => by
    obtain ⟨q, π1, e1, g1⟩ := h2 x (List.mem_cons_self ..) π
    obtain ⟨qs, π2, e2, l2, g2⟩ := lcGo_pts (xs := xs) (π := π1) (fun y hy => h1 y (List.mem_cons_of_mem _ hy)) (fun y hy => h2 y (List.mem_cons_of_mem _ hy))
    refine ⟨q :: qs, π2, ?_, by simp [l2], fun y hy => ?_⟩
    · simp only [List.map_cons, lcGo, h1 x (List.mem_cons_self ..), ofO_some, Res.bind_ok, tTrue, safe_ok, if_true, e1, e2]
    · rcases List.mem_cons.mp hy with rfl | hy
      · exact g1
      · exact g2 y hy
theorem rngN {j : Int} {n : Nat} (h : j = n) (hn : n ≤ 1000000) : rng [.int j] = some ((List.range n).map fun (i : Nat) => .int (i : Int)) := by
  rw [rng_1 (by omega) (by omega)]
  congr 3; omega
theorem bd3 {B : Nat} {p : Pt} : Bd B (lp p) ↔ p.1.natAbs ≤ B ∧ p.2.1.natAbs ≤ B ∧ p.2.2.natAbs ≤ B := by
  constructor
  · intro h; exact ⟨h _ (by simp [lp]), h _ (by simp [lp]), h _ (by simp [lp])⟩
  · rintro ⟨h1, h2, h3⟩ x hx
    simp [lp] at hx
    rcases hx with rfl | rfl | rfl <;> assumption
theorem ix3_0 (a b c : D) : opIx (.lst [a, b, c]) (.int 0) = some a := rfl
theorem ix3_1 (a b c : D) : opIx (.lst [a, b, c]) (.int 1) = some b := rfl
theorem ix3_2 (a b c : D) : opIx (.lst [a, b, c]) (.int 2) = some c := rfl
theorem ixt_0 (a b c : D) : opIx (.tup [a, b, c]) (.int 0) = some a := rfl
theorem ixt_1 (a b c : D) : opIx (.tup [a, b, c]) (.int 1) = some b := rfl
theorem ixt_2 (a b c : D) : opIx (.tup [a, b, c]) (.int 2) = some c := rfl
theorem safe_ok' {α : Type} (a : α) : safe (Res.ok a) = .ok a := rfl
theorem lD3 (a b c : Int) : lD (a, b, c) = .lst [.int a, .int b, .int c] := rfl
theorem sum3 (a b c : Int) : fSum [.lst [.int a, .int b, .int c]] = some (.int (a + b + c)) := by
  have := fSum_iz [a, b, c]
  simp only [List.map_cons, List.map_nil] at this
  rw [this]; simp; omega
end LW

set_option maxHeartbeats 4000000
namespace LW
open PySem PySem.Spec PyProof.Rows L2 DL RK
/-! Points that are given. -/
theorem any3 (d : D) (a b c : Bool) (hd : d = .lst [.bl a, .bl b, .bl c]) : fAnyA [d] = some (.bl (a || b || c)) := by
  subst hd
  have := fAny_bl [a, b, c] id
  simp only [List.map_cons, List.map_nil, id, List.any_cons, List.any_nil, Bool.or_false] at this
  rw [Bool.or_assoc, ← this]
  rfl
theorem is_point_eq {p : Pt} (hp : nz p) {d : D} (hd : d = pD p ∨ d = lD p) (π : Pot) : m_p_are_point [d] π = .ok (.bl true, π) := by
  obtain ⟨x, y, z⟩ := p
  have hs : seqOf d = some [.int x, .int y, .int z] := by rcases hd with rfl | rfl <;> rfl
  have hl : fLen [d] = some (.int 3) := by rcases hd with rfl | rfl <;> rfl
  have e1 : m_p_is_list [d] π = .ok (.bl true, π) := by
    unfold m_p_is_list f_p_is_list
    rcases hd with rfl | rfl <;> simp -implicitDefEqProofs
  have e2 : ∀ i : Int, m_p_is_integer [.int i] π = .ok (.bl true, π) := fun i => by
    unfold m_p_is_integer f_p_is_integer
    simp -implicitDefEqProofs
  have ea : fAll [.lst [.bl true, .bl true, .bl true]] = some (.bl true) := rfl
  have eb : fAnyA [.lst [.bl !decide (x = 0), .bl !decide (y = 0), .bl !decide (z = 0)]] = some (.bl true) := by
    rw [any3 _ _ _ _ rfl]
    rcases hp with h | h | h <;> dsimp only at h <;> simp [h]
  unfold m_p_are_point f_p_are_point f_p_are_point_e1 f_p_are_point_e2
  simp -implicitDefEqProofs [e1, hl, hs, lcGo, e2, safe_ok', ea, eb]
/-- a point, given in one way or the other -/
def Giv (d : D) (p : Pt) : Prop := d = pD p ∨ d = lD p
theorem pt_told_of {p : Pt} {b : Nat} (hb : Bd (2 ^ b) (lp p)) (h9 : b < 9000) {d : D} (hd : Giv d p) (π : Pot) : m_p_told_of [d] π = .ok (pD (told p), π) := by
  have := told_of_eq (d := d) (l := lp p) (hd.elim .inr .inl) hb h9 (by simp [lp]) π
  rw [this, pD, lp_told]
end LW

set_option maxHeartbeats 4000000
namespace LW
open PySem PySem.Spec PyProof.Rows L2 DL RK
/-! The program's conditions. -/
def trD (m : Tr) : D := .tup [.int (m.1 : Int), .int (m.2.1 : Int), .int (m.2.2 : Int)]
theorem triples_all : ((List.range 10).all fun d => isR (m_p_triples_of [.int (d : Int)] (0, 0)) (.tup ((trs d).map trD))) = true := by decide +kernel
theorem triples_eq {d : Nat} (h : d ≤ 9) (π : Pot) : m_p_triples_of [.int (d : Int)] π = .ok (.tup ((trs d).map trD), π) :=
  pu_m_p_triples_of.r (List.all_eq_true.mp triples_all d (by simp; omega)) π
theorem pow_bd {x : Int} {b : Nat} (h : x.natAbs ≤ 2 ^ b) (n : Nat) : (x ^ n).natAbs ≤ 2 ^ (b * n) := by
  rw [Int.natAbs_pow, Nat.pow_mul]
  exact Nat.pow_le_pow_left h n
theorem mulP {x : Int} {b : Nat} (h : x.natAbs ≤ 2 ^ b) (hb : b ≤ 1000) (i j : Nat) (hi : i ≤ 20) (hj : j ≤ 20) : opMulA (.int (x ^ i)) (.int (x ^ j)) = some (.int (x ^ (i + j))) := by
  have h1 : b * i ≤ 1000 * 20 := Nat.mul_le_mul hb hi
  have h2 : b * j ≤ 1000 * 20 := Nat.mul_le_mul hb hj
  rw [mul_b (pow_bd h i) (pow_bd h j) (by omega), Int.pow_add]
def pwL (x : Int) (d : Nat) : List Int := (List.range (d + 1)).map fun i => x ^ i
theorem powers_eq {x : Int} {b : Nat} (h : x.natAbs ≤ 2 ^ b) (hb : b ≤ 1000) {d : Nat} (hd : d ≤ 9) (π : Pot) : m_p_powers_of [.int x, .int (d : Int)] π = .ok (iL (pwL x d), π) := by
  have m11 := mulP h hb 1 1 (by decide) (by decide)
  have m21 := mulP h hb 2 1 (by decide) (by decide)
  have m22 := mulP h hb 2 2 (by decide) (by decide)
  have m23 := mulP h hb 2 3 (by decide) (by decide)
  have m33 := mulP h hb 3 3 (by decide) (by decide)
  have m61 := mulP h hb 6 1 (by decide) (by decide)
  have m71 := mulP h hb 7 1 (by decide) (by decide)
  have m81 := mulP h hb 8 1 (by decide) (by decide)
  simp only [Int.reduceAdd, Nat.reduceAdd, Int.pow_one] at m11 m21 m22 m23 m33 m61 m71 m81
  have hd' : d = 0 ∨ d = 1 ∨ d = 2 ∨ d = 3 ∨ d = 4 ∨ d = 5 ∨ d = 6 ∨ d = 7 ∨ d = 8 ∨ d = 9 := by omega
  have r1 : rng [.int 1] = some [.int 0] := rfl
  have r2 : rng [.int 2] = some [.int 0, .int 1] := rfl
  have r3 : rng [.int 3] = some [.int 0, .int 1, .int 2] := rfl
  have l7 : ∀ a b c e f g h : D, opIx (.lst [a, b, c, e, f, g, h]) (.int (-1)) = some h := fun _ _ _ _ _ _ _ => rfl
  have l8 : ∀ a b c e f g h i : D, opIx (.lst [a, b, c, e, f, g, h, i]) (.int (-1)) = some i := fun _ _ _ _ _ _ _ _ => rfl
  have l9 : ∀ a b c e f g h i j : D, opIx (.lst [a, b, c, e, f, g, h, i, j]) (.int (-1)) = some j := fun _ _ _ _ _ _ _ _ _ => rfl
  have c1 : ∀ a b c e f g h : D, fCut (.lst [a, b, c, e, f, g, h]) none (some 1) = some (.lst [a]) := fun _ _ _ _ _ _ _ => rfl
  have c2 : ∀ a b c e f g h : D, fCut (.lst [a, b, c, e, f, g, h]) none (some 2) = some (.lst [a, b]) := fun _ _ _ _ _ _ _ => rfl
  have c3 : ∀ a b c e f g h : D, fCut (.lst [a, b, c, e, f, g, h]) none (some 3) = some (.lst [a, b, c]) := fun _ _ _ _ _ _ _ => rfl
  have c4 : ∀ a b c e f g h : D, fCut (.lst [a, b, c, e, f, g, h]) none (some 4) = some (.lst [a, b, c, e]) := fun _ _ _ _ _ _ _ => rfl
  have c5 : ∀ a b c e f g h : D, fCut (.lst [a, b, c, e, f, g, h]) none (some 5) = some (.lst [a, b, c, e, f]) := fun _ _ _ _ _ _ _ => rfl
  have c6 : ∀ a b c e f g h : D, fCut (.lst [a, b, c, e, f, g, h]) none (some 6) = some (.lst [a, b, c, e, f, g]) := fun _ _ _ _ _ _ _ => rfl
  have c7 : ∀ a b c e f g h : D, fCut (.lst [a, b, c, e, f, g, h]) none (some 7) = some (.lst [a, b, c, e, f, g, h]) := fun _ _ _ _ _ _ _ => rfl
  unfold m_p_powers_of f_p_powers_of f_p_powers_of_b1
  rcases hd' with rfl | rfl | rfl | rfl | rfl | rfl | rfl | rfl | rfl | rfl
  all_goals
    simp -implicitDefEqProofs [m11, m21, m22, m23, m33, m61, m71, m81, r1, r2, r3, l7, l8, l9, c1, c2, c3, c4, c5, c6, c7, forGo, appD_ok, pwL, List.range_succ, Int.pow_one]
theorem ixP {l : List Int} {i : Nat} {v : Int} (h : l[i]? = some v) : opIx (iL l) (.int (i : Int)) = some (.int v) := opIx_iz (by omega) (by simpa using h)
theorem pw_get {x : Int} {d i : Nat} (h : i ≤ d) : (pwL x d)[i]? = some (x ^ i) := by
  unfold pwL
  rw [List.getElem?_map, List.getElem?_range (by omega)]; rfl
theorem trs_len_le {d : Nat} (h : d ≤ 9) : (trs d).length ≤ 55 := by
  have := trs_length d
  have h2 : (d + 1) * (d + 2) ≤ 10 * 11 := Nat.mul_le_mul (by omega) (by omega)
  omega
theorem letters_eq {p : Pt} {b : Nat} (hb : Bd (2 ^ b) (lp p)) (hb9 : b ≤ 1000) {d : Nat} (hd : d ≤ 9) {e : D} (he : e = pD p) (π : Pot) : m_p_letters_at [e, .int (d : Int)] π = .ok (iL (cnd d p), π) := by
  subst he
  obtain ⟨x, y, z⟩ := p
  rw [bd3] at hb
  obtain ⟨hx, hy, hz⟩ := hb
  dsimp only at hx hy hz
  have e1 := powers_eq hx hb9 hd π
  have e2 := powers_eq hy hb9 hd π
  have e3 := powers_eq hz hb9 hd π
  have et := triples_eq hd π
  have lc : lcGo (gT 3 (gsCons (gN 6) (gsCons (gN 7) (gsCons (gN 8) gsNil)))) tTrue f_p_letters_at_e2
      [some (pD (x, y, z)), some (.int (d : Int)), some (iL (pwL x d)), some (iL (pwL y d)), some (iL (pwL z d)), none, none, none, none] ((trs d).map trD) π = .ok ((trs d).map fun m => D.int (mono m (x, y, z)), π) :=
    lcGo_map (ρ1 := fun m => [some (pD (x, y, z)), some (.int (d : Int)), some (iL (pwL x d)), some (iL (pwL y d)), some (iL (pwL z d)), none, some (.int (m.1 : Int)), some (.int (m.2.1 : Int)), some (.int (m.2.2 : Int))]) (fun m hm => by
      simp [trD]) fun m hm => by
      rw [mem_trs] at hm
      have i1 := ixP (pw_get (x := x) (d := d) (i := m.1) (by omega))
      have i2 := ixP (pw_get (x := y) (d := d) (i := m.2.1) (by omega))
      have i3 := ixP (pw_get (x := z) (d := d) (i := m.2.2) (by omega))
      have m1 := mul_b (pow_bd hx m.1) (pow_bd hy m.2.1) (by
        have h1 : b * m.1 ≤ 1000 * 9 := Nat.mul_le_mul hb9 (by omega)
        have h2 : b * m.2.1 ≤ 1000 * 9 := Nat.mul_le_mul hb9 (by omega)
        omega)
      have m12 : (x ^ m.1 * y ^ m.2.1).natAbs ≤ 2 ^ (b * m.1 + b * m.2.1) := by
        rw [Nat.pow_add]; exact natAbs_mul_le (pow_bd hx m.1) (pow_bd hy m.2.1)
      have m2 := mul_b m12 (pow_bd hz m.2.2) (by
        have h1 : b * m.1 ≤ 1000 * 9 := Nat.mul_le_mul hb9 (by omega)
        have h2 : b * m.2.1 ≤ 1000 * 9 := Nat.mul_le_mul hb9 (by omega)
        have h3 : b * m.2.2 ≤ 1000 * 9 := Nat.mul_le_mul hb9 (by omega)
        omega)
      obtain ⟨A, hA⟩ : ∃ A, A = iL (pwL x d) := ⟨_, rfl⟩
      obtain ⟨B, hB⟩ : ∃ A, A = iL (pwL y d) := ⟨_, rfl⟩
      obtain ⟨C, hC⟩ : ∃ A, A = iL (pwL z d) := ⟨_, rfl⟩
      rw [← hA] at i1 ⊢
      rw [← hB] at i2 ⊢
      rw [← hC] at i3 ⊢
      unfold f_p_letters_at_e2
      simp -implicitDefEqProofs [i1, i2, i3, m1, m2, mono]
  have hl : ((trs d).map trD).length < 16777216 := by
    have := trs_len_le hd
    simp; omega
  have hr : ((trs d).map fun m => D.int (mono m (x, y, z))) = (cnd d (x, y, z)).map D.int := by unfold cnd; rw [List.map_map]; rfl
  rw [hr] at lc
  obtain ⟨T, hT⟩ : ∃ A, A = (trs d).map trD := ⟨_, rfl⟩
  rw [← hT] at et lc hl
  obtain ⟨A, hA⟩ : ∃ A, A = iL (pwL x d) := ⟨_, rfl⟩
  obtain ⟨B, hB⟩ : ∃ A, A = iL (pwL y d) := ⟨_, rfl⟩
  obtain ⟨C, hC⟩ : ∃ A, A = iL (pwL z d) := ⟨_, rfl⟩
  rw [← hA] at e1 lc
  rw [← hB] at e2 lc
  rw [← hC] at e3 lc
  have pd : pD (x, y, z) = .tup [.int x, .int y, .int z] := rfl
  rw [pd] at lc ⊢
  obtain ⟨R, hR⟩ : ∃ A, A = (cnd d (x, y, z)).map D.int := ⟨_, rfl⟩
  simp only [iL]
  rw [← hR] at lc ⊢
  unfold m_p_letters_at f_p_letters_at f_p_letters_at_e1
  simp -implicitDefEqProofs [lcGo, e1, e2, e3, et, lc, hl, safe_ok', gT]
end LW

set_option maxHeartbeats 4000000
namespace LW
open PySem PySem.Spec PyProof.Rows L2 DL RK
/-! Spots and their conditions. -/
theorem mono_bd {p : Pt} {b : Nat} (hb : Bd (2 ^ b) (lp p)) {d : Nat} {m : Tr} (h : m ∈ trs d) : (mono m p).natAbs ≤ 2 ^ (b * d) := by
  rw [bd3] at hb
  rw [mem_trs] at h
  have e : b * d = b * m.1 + b * m.2.1 + b * m.2.2 := by rw [← h, Nat.mul_add, Nat.mul_add]
  rw [e, Nat.pow_add, Nat.pow_add]
  exact natAbs_mul_le (natAbs_mul_le (pow_bd hb.1 _) (pow_bd hb.2.1 _)) (pow_bd hb.2.2 _)
theorem cnd_bd {p : Pt} {b : Nat} (hb : Bd (2 ^ b) (lp p)) (d : Nat) : Bd (2 ^ (b * d)) (cnd d p) := fun x hx => by
  obtain ⟨m, hm, rfl⟩ := List.mem_map.mp hx
  exact mono_bd hb hm
theorem rows_eq {ps : List Pt} {e : D} (he : seqOf e = some (ps.map pD)) (hl : ps.length < 1000000) {b : Nat} (hb : ∀ p ∈ ps, Bd (2 ^ b) (lp p)) (hb9 : b ≤ 1000) {d : Nat} (hd : d ≤ 9) (π : Pot) :
    m_p_condition_rows [e, .int (d : Int)] π = .ok (.lst ((ps.map fun p => cnd d p).map iL), π) := by
  have lc : lcGo (gN 2) tTrue f_p_condition_rows_e1 [some e, some (.int (d : Int)), none] (ps.map pD) π = .ok (ps.map fun p => iL (cnd d p), π) :=
    lcGo_map (ρ1 := fun p => [some e, some (.int (d : Int)), some (pD p)]) (fun x hx => rfl) fun p hp => by
      have e1 := letters_eq (hb p hp) hb9 hd rfl π
      obtain ⟨A, hA⟩ : ∃ A, A = pD p := ⟨_, rfl⟩
      rw [← hA] at e1 ⊢
      unfold f_p_condition_rows_e1
      simp -implicitDefEqProofs [e1]
  have hr : (ps.map fun p => iL (cnd d p)) = (ps.map fun p => cnd d p).map iL := by rw [List.map_map]; rfl
  rw [hr] at lc
  have hl2 : (ps.map pD).length < 16777216 := by simp; omega
  obtain ⟨A, hA⟩ : ∃ A, A = ps.map pD := ⟨_, rfl⟩
  obtain ⟨R, hR⟩ : ∃ A, A = (ps.map fun p => cnd d p).map iL := ⟨_, rfl⟩
  rw [← hA] at he lc hl2
  rw [← hR] at lc ⊢
  unfold m_p_condition_rows f_p_condition_rows
  simp -implicitDefEqProofs [he, lc, hl2]
theorem two_pow_le {n b q : Nat} (h : n * (5 + b) ≤ q) (h2 : 2 * n ≤ 2 ^ 5) (hn : 1 ≤ n) : (2 * n * 2 ^ b) ^ n ≤ 2 ^ q := by
  have h1 : 2 * n * 2 ^ b ≤ 2 ^ (5 + b) := by rw [Nat.pow_add]; exact Nat.mul_le_mul_right _ h2
  calc (2 * n * 2 ^ b) ^ n ≤ (2 ^ (5 + b)) ^ n := Nat.pow_le_pow_left h1 n
    _ = 2 ^ ((5 + b) * n) := by rw [Nat.pow_mul]
    _ ≤ 2 ^ q := Nat.pow_le_pow_right (by decide) (by rw [Nat.mul_comm]; exact h)
/-- few points, small ones -/
structure Few (ps : List Pt) : Prop where
  le : ps.length ≤ 12
  bd : ∀ p ∈ ps, Bd (2 ^ 6) (lp p)
theorem rank_at_eq {ps : List Pt} (F : Few ps) {e : D} (he : seqOf e = some (ps.map pD)) {d : Nat} (hd : d ≤ 9) (π : Pot) :
    m_p_rank_at [e, .int (d : Int)] π = .ok (.int (hh d ps), π) := by
  have e1 := rows_eq he (by have := F.le; omega) F.bd (by decide) hd π
  have e2 := rank_eq (w := (trs d).length) (b := 6 * d) (n := 12) (q := 708) (d := .lst ((ps.map fun p => cnd d p).map iL)) (rs := ps.map fun p => cnd d p) (by decide)
    (Nat.le_trans (two_pow_le (n := 12) (b := 6 * d) (q := 708) (by omega) (by decide) (by decide)) (Nat.le_refl _)) (by omega) (by have := trs_len_le hd; omega) (by decide) rfl (by simpa using F.le) (fun r hr => by
      obtain ⟨p, hp, rfl⟩ := List.mem_map.mp hr
      exact ⟨cnd_length d p, cnd_bd (F.bd p hp) d⟩) π
  have e3 : rk ((ps.map fun p => cnd d p).map vz) = hh d ps := by unfold hh; rw [List.map_map]; rfl
  rw [e3] at e2
  obtain ⟨R, hR⟩ : ∃ A, A = (ps.map fun p => cnd d p).map iL := ⟨_, rfl⟩
  rw [← hR] at e1 e2
  unfold m_p_rank_at f_p_rank_at
  simp -implicitDefEqProofs [e1, e2]
abbrev spD (ps : List Pt) : D := .ins "Spots" ["own_points"] [.tup (ps.map pD)]
theorem own_eq (ps : List Pt) : fldD "Spots" "own_points" (spD ps) = some (.tup (ps.map pD)) := by rfl
theorem want_both_eq (ps : List Pt) {d : Nat} (hd : d ≤ 9) (π : Pot) : m_p_want_both [spD ps, .int (d : Int)] π = .ok (.non, π) := by
  have e1 : m_p_want_spots [spD ps] π = .ok (.non, π) := by
    unfold m_p_want_spots f_p_want_spots
    simp -implicitDefEqProofs [fIsC]
  have h0 : (0 : Int) ≤ d := by omega
  have h1 : ¬ (d : Int) < 0 := by omega
  have h9 : ¬ (9 : Int) < d := by omega
  have e0 : m_p_is_count [.int (d : Int)] π = .ok (.bl true, π) := by
    unfold m_p_is_count f_p_is_count m_p_is_integer f_p_is_integer
    simp -implicitDefEqProofs [h0]
  have e2 : m_p_want_degree [.int (d : Int), .int 9, .int 0] π = .ok (.non, π) := by
    unfold m_p_want_degree f_p_want_degree
    simp -implicitDefEqProofs [e0, h1, h9]
  unfold m_p_want_both f_p_want_both
  simp -implicitDefEqProofs [e1, eGoD, e2]
inductive Givs : List D → List Pt → Prop
  | nil : Givs [] []
  | cons {d p ds ps} : Giv d p → Givs ds ps → Givs (d :: ds) (p :: ps)
theorem Givs.length : ∀ {ds ps}, Givs ds ps → ds.length = ps.length
  | _, _, .nil => rfl
  | _, _, .cons _ h => congrArg Nat.succ h.length
theorem givs_map (ps : List Pt) : Givs (ps.map pD) ps := by
  induction ps with
  | nil => exact .nil
  | cons p ps ih => exact .cons (.inl rfl) ih
theorem spots_loop {b : Nat} (h9 : b < 9000) (A : Option D) (π : Pot) : ∀ (ds : List D) (ps acc : List Pt) (k : Nat) (o2 o3 : Option D), Givs ds ps → (∀ p ∈ ps, nz p ∧ Bd (2 ^ b) (lp p)) → (acc ++ ps.map told).Nodup → acc.length + ps.length < 1000000 →
    ∃ p2 p3, forGo (gT 2 (gsCons (gN 2) (gsCons (gN 3) gsNil))) f_p_told_points_b1 (DL.numbered k ds) [A, some (.lst (acc.map pD)), o2, o3] π = .ok (.nx [A, some (.lst ((acc ++ ps.map told).map pD)), p2, p3], π)
  | [], _, acc, k, o2, o3, .nil, _, _, _ => ⟨o2, o3, by simp [DL.numbered, forGo]⟩
  | d :: ds, _, acc, k, o2, o3, .cons (p := p) (ps := ps) hd g, h, hn, hl => by
    have ht : told p ∉ acc := fun hm => by
      rw [List.nodup_append] at hn
      exact hn.2.2 _ hm _ (by simp) rfl
    have hn' : ((acc ++ [told p]) ++ ps.map told).Nodup := by simpa using hn
    obtain ⟨p2, p3, e⟩ := spots_loop h9 A π ds ps (acc ++ [told p]) (k + 1) (some (.int (k : Int))) (some d) g (fun x hx => h x (by simp [hx])) hn' (by simp at hl ⊢; omega)
    refine ⟨p2, p3, ?_⟩
    have e1 := is_point_eq (h p (by simp)).1 hd π
    have e2 := pt_told_of (h p (by simp)).2 h9 hd π
    have e3 := in_pts (told p) acc
    have hla : (acc.map pD).length < 16777216 := by simp at hl ⊢; omega
    rw [show (acc ++ (p :: ps).map told) = (acc ++ [told p]) ++ ps.map told by simp, ← e, List.map_append]
    have hs : [told p].map pD = [pD (told p)] := rfl
    rw [hs]
    simp only [DL.numbered, forGo]
    obtain ⟨X, hX⟩ : ∃ A, A = acc.map pD := ⟨_, rfl⟩
    obtain ⟨Y, hY⟩ : ∃ A, A = pD (told p) := ⟨_, rfl⟩
    rw [← hX] at e3 hla ⊢
    rw [← hY] at e2 e3 ⊢
    unfold f_p_told_points_b1
    simp -implicitDefEqProofs [e1, e2, opInA, e3, ht, appD_ok, hla]
theorem spots_eq {ds : List D} {ps : List Pt} {b : Nat} (h9 : b < 9000) (hg : Givs ds ps) (h : ∀ p ∈ ps, nz p ∧ Bd (2 ^ b) (lp p)) (hn : (ps.map told).Nodup) (h1 : 1 ≤ ps.length) (h24 : ps.length ≤ 24) {e : D} (he : e = .lst ds ∨ e = .tup ds) (π : Pot) :
    m_i_Spots [e] π = .ok (spD (ps.map told), π) := by
  have hs : seqOf e = some ds := by rcases he with rfl | rfl <;> rfl
  have hl : fLen [e] = some (.int (ps.length : Int)) := by rw [← hg.length]; rcases he with rfl | rfl <;> rfl
  have hi : ∀ cs, fIsC "Told" cs e = some (.bl false) := by intro cs; rcases he with rfl | rfl <;> rfl
  have e1 : m_p_is_list [e] π = .ok (.bl true, π) := by
    unfold m_p_is_list f_p_is_list
    rcases he with rfl | rfl <;> simp -implicitDefEqProofs
  obtain ⟨p2, p3, e2⟩ := spots_loop h9 (some e) π ds ps [] 0 none none hg h (by simpa using hn) (by simp; omega)
  have g1 : (1 : Int) ≤ ps.length := by omega
  have g2 : (ps.length : Int) ≤ 24 := by omega
  have e3 : m_p_told_points [e] π = .ok (.tup ((ps.map told).map pD), π) := by
    simp only [List.map_nil, List.nil_append] at e2
    obtain ⟨R, hR⟩ : ∃ A, A = (ps.map told).map pD := ⟨_, rfl⟩
    rw [← hR] at e2 ⊢
    unfold m_p_told_points f_p_told_points
    simp -implicitDefEqProofs [hi, e1, hl, g1, g2, hs, e2]
  obtain ⟨R, hR⟩ : ∃ A, A = (ps.map told).map pD := ⟨_, rfl⟩
  rw [spD, ← hR]
  rw [← hR] at e3
  unfold m_i_Spots DL.runI f_i_Spots
  simp -implicitDefEqProofs [iFld, iCk, iNil, e3, putN]
end LW

set_option maxHeartbeats 4000000
namespace LW
open PySem PySem.Spec PyProof.Rows L2 DL RK
/-! Rows, tops, ends. -/
/-- the row of points: what each degree adds, until all are there -/
structure RowIs (ps : List Pt) (ns : List Nat) : Prop where
  ne : ns ≠ []
  le : ns.length ≤ 9
  at_ : ∀ d, d < ns.length → hh d ps = (ns.take (d + 1)).sum
  all : ns.sum = ps.length
  last : ∀ d, d + 1 < ns.length → (ns.take (d + 1)).sum ≠ ps.length
def zn (ns : List Nat) : List Int := ns.map fun (n : Nat) => (n : Int)
theorem opEq_ii (i j : Int) : opEq (.int i) (.int j) = some (.bl (decide (i = j))) := rfl
theorem rb_loop {ps : List Pt} (F : Few ps) {ns : List Nat} (R : RowIs ps ns) {e : D} (he : seqOf e = some (ps.map pD)) (hl : fLen [e] = some (.int (ps.length : Int))) (π : Pot) :
    ∀ (k d : Nat) (o3 o4 : Option D), d + k = 9 → d < ns.length →
      forGo (gN 3) f_p_row_by_b1 ((List.range' d k).map fun (i : Nat) => .int (i : Int)) [some e, some (iL (zn (ns.take d))), some (.int ((ns.take d).sum : Nat)), o3, o4] π = .ok (.rt (iL (zn ns)), π)
  | 0, d, _, _, h, hd => by have := R.le; omega
  | k + 1, d, o3, o4, h, hd => by
    have e1 := rank_at_eq F he (d := d) (by omega) π
    rw [R.at_ d hd] at e1
    have ht : ns.take (d + 1) = ns.take d ++ [ns[d]] := List.take_succ_eq_append_getElem hd
    have hs : (ns.take (d + 1)).sum = (ns.take d).sum + ns[d] := by rw [ht, List.sum_append, List.sum_singleton]
    have hz : zn (ns.take (d + 1)) = zn (ns.take d) ++ [(((ns.take (d + 1)).sum : Nat) : Int) - ((ns.take d).sum : Nat)] := by
      rw [hs, ht, zn, zn, List.map_append, List.map_singleton]
      congr 2; omega
    have hlen : (zn (ns.take d)).length < 16777216 := by simp [zn]; have := R.le; omega
    have hlen' : ((zn (ns.take d)).map D.int).length < 16777216 := by simpa using hlen
    by_cases hx : d + 1 < ns.length
    · have ih := rb_loop F R he hl π k (d + 1) (some (.int (d : Int))) (some (.int ((ns.take (d + 1)).sum : Nat))) (by omega) hx
      have hne := R.last d hx
      have hne' : ¬ ((((ns.take (d + 1)).sum : Nat) : Int) = (ps.length : Int)) := by omega
      rw [List.range'_succ, List.map_cons, forGo]
      rw [hz] at ih
      rw [iL, List.map_append] at ih
      obtain ⟨A, hA⟩ : ∃ A, A = (((ns.take (d + 1)).sum : Nat) : Int) := ⟨_, rfl⟩
      obtain ⟨B, hB⟩ : ∃ A, A = (((ns.take d).sum : Nat) : Int) := ⟨_, rfl⟩
      obtain ⟨L, hL⟩ : ∃ A, A = (zn (ns.take d)).map D.int := ⟨_, rfl⟩
      rw [iL]
      rw [← hL] at hlen' ih ⊢
      rw [← hA, ← hB] at ih
      rw [← hA] at hne' e1
      rw [← hB]
      have e1' : m_p_rank_at [e, .int (d : Int)] π = .ok (.int A, π) := e1
      simp -implicitDefEqProofs [-opEq_int, f_p_row_by_b1_ap, e1', appD_ok, hlen', hl, hne', opEq_ii]
      simpa using ih
    · have hd1 : d + 1 = ns.length := by omega
      have ha : ns.take (d + 1) = ns := by rw [hd1]; exact List.take_length
      have hq : (((ns.take (d + 1)).sum : Nat) : Int) = (ps.length : Int) := by rw [ha, R.all]
      rw [List.range'_succ, List.map_cons, forGo]
      rw [show zn ns = zn (ns.take (d + 1)) by rw [ha], hz, iL, iL, List.map_append]
      obtain ⟨A, hA⟩ : ∃ A, A = (((ns.take (d + 1)).sum : Nat) : Int) := ⟨_, rfl⟩
      obtain ⟨B, hB⟩ : ∃ A, A = (((ns.take d).sum : Nat) : Int) := ⟨_, rfl⟩
      obtain ⟨L, hL⟩ : ∃ A, A = (zn (ns.take d)).map D.int := ⟨_, rfl⟩
      rw [← hL] at hlen' ⊢
      rw [← hA, ← hB]
      rw [← hA] at hq e1
      have e1' : m_p_rank_at [e, .int (d : Int)] π = .ok (.int A, π) := e1
      simp -implicitDefEqProofs [-opEq_int, f_p_row_by_b1_ap, e1', appD_ok, hlen', hl, hq, opEq_ii]
theorem row_by_eq {ps : List Pt} (F : Few ps) {ns : List Nat} (R : RowIs ps ns) {e : D} (he : seqOf e = some (ps.map pD)) (hl : fLen [e] = some (.int (ps.length : Int))) (π : Pot) : m_p_row_by [e] π = .ok (iL (zn ns), π) := by
  have h0 : 0 < ns.length := List.length_pos_iff.mpr R.ne
  have ih := rb_loop F R he hl π 9 0 none none (by omega) h0
  have hr : rng [.int 9] = some ((List.range' 0 9).map fun (i : Nat) => .int (i : Int)) := by
    rw [← List.range_eq_range']; exact rngN (n := 9) rfl (by decide)
  simp only [List.take_zero, List.sum_nil] at ih
  have ih' : forGo (gN 3) f_p_row_by_b1 ((List.range' 0 9).map fun (i : Nat) => .int (i : Int)) [some e, some (.lst []), some (.int 0), none, none] π = .ok (.rt (iL (zn ns)), π) := ih
  obtain ⟨L, hL⟩ : ∃ A, A = (List.range' 0 9).map fun (i : Nat) => D.int (i : Int) := ⟨_, rfl⟩
  rw [← hL] at hr ih'
  obtain ⟨Z, hZ⟩ : ∃ A, A = iL (zn ns) := ⟨_, rfl⟩
  rw [← hZ] at ih' ⊢
  unfold m_p_row_by f_p_row_by
  simp -implicitDefEqProofs [hr, ih']
theorem want_spots_eq (ps : List Pt) (π : Pot) : m_p_want_spots [spD ps] π = .ok (.non, π) := by
  unfold m_p_want_spots f_p_want_spots
  simp -implicitDefEqProofs [fIsC]
theorem len_tup (xs : List D) : fLen [.tup xs] = some (.int (xs.length : Int)) := rfl
theorem len_lst' (xs : List D) : fLen [.lst xs] = some (.int (xs.length : Int)) := rfl
theorem row_eq {ps : List Pt} (F : Few ps) {ns : List Nat} (R : RowIs ps ns) (π : Pot) : m_p_row [spD ps] π = .ok (iL (zn ns), π) := by
  have e1 := want_spots_eq ps π
  have e2 := row_by_eq F R (e := .tup (ps.map pD)) rfl (by rw [len_tup, List.length_map]) π
  have e3 := own_eq ps
  obtain ⟨S, hS⟩ : ∃ S, S = spD ps := ⟨_, rfl⟩
  obtain ⟨T, hT⟩ : ∃ S, S = D.tup (ps.map pD) := ⟨_, rfl⟩
  obtain ⟨Z, hZ⟩ : ∃ A, A = iL (zn ns) := ⟨_, rfl⟩
  rw [← hT] at e2 e3
  rw [← hZ] at e2 ⊢
  rw [← hS] at e1 e3 ⊢
  unfold m_p_row f_p_row
  simp -implicitDefEqProofs [e1, e2, e3]
theorem end_eq {ps : List Pt} (F : Few ps) {ns : List Nat} (R : RowIs ps ns) (π : Pot) : m_p_end [spD ps] π = .ok (.int ((ns.length : Int) - 1), π) := by
  have e1 := want_spots_eq ps π
  have e2 := row_by_eq F R (e := .tup (ps.map pD)) rfl (by rw [len_tup, List.length_map]) π
  have e3 := own_eq ps
  have e4 : fLen [iL (zn ns)] = some (.int (ns.length : Int)) := by rw [len_lst']; simp [zn]
  obtain ⟨S, hS⟩ : ∃ S, S = spD ps := ⟨_, rfl⟩
  obtain ⟨T, hT⟩ : ∃ S, S = D.tup (ps.map pD) := ⟨_, rfl⟩
  obtain ⟨Z, hZ⟩ : ∃ A, A = iL (zn ns) := ⟨_, rfl⟩
  rw [← hT] at e2 e3
  rw [← hZ] at e2 e4
  rw [← hS] at e1 e3 ⊢
  unfold m_p_end f_p_end
  simp -implicitDefEqProofs [e1, e2, e3, e4]
theorem many_eq {ps : List Pt} (F : Few ps) {e : D} (he : seqOf e = some (ps.map pD)) {d : Nat} (hd : d ≤ 9) (π : Pot) : m_p_many_through [e, .int (d : Int)] π = .ok (.int ((trs d).length - hh d ps), π) := by
  have e2 := rank_at_eq F he hd π
  have e4 := triples_eq hd π
  have e6 : ((trs d).map trD).length = (trs d).length := List.length_map _
  obtain ⟨R, hR⟩ : ∃ S, S = (trs d).map trD := ⟨_, rfl⟩
  rw [← hR] at e4 e6
  unfold m_p_many_through f_p_many_through
  simp -implicitDefEqProofs [e4, e2, e6]
/-- the top: the least degree of a form through the points -/
theorem top_loop {ps : List Pt} (F : Few ps) {e : D} (he : seqOf e = some (ps.map pD)) {t : Nat} (ht : t ≤ 9) (h1 : hh t ps < (trs t).length) (h2 : ∀ d, d < t → hh d ps = (trs d).length) (π : Pot) :
    ∀ (k d f : Nat), d + k = t → k + 1 ≤ f → whileGo (tBl (eBin opEq (eGo m_p_many_through (aCons (eVar 0) (aCons (eVar 1) aNil))) (eC (.int 0)))) f_p_top_of_b1 f [some e, some (.int (d : Int))] π = .ok (.nx [some e, some (.int (t : Int))], π)
  | 0, d, f, h, hf => by
    obtain ⟨f, rfl⟩ : ∃ g, f = g + 1 := ⟨f - 1, by omega⟩
    have e1 := many_eq F he (d := d) (by omega) π
    have : ¬ (((trs d).length : Int) - (hh d ps : Int) = 0) := by
      have : d = t := by omega
      subst this; omega
    obtain ⟨A, hA⟩ : ∃ A : Int, A = ((trs d).length : Int) - (hh d ps : Int) := ⟨_, rfl⟩
    rw [← hA] at e1 this
    rw [whileGo]
    simp -implicitDefEqProofs [-opEq_int, e1, this, opEq_ii]
    omega
  | k + 1, d, f, h, hf => by
    obtain ⟨f, rfl⟩ : ∃ g, f = g + 1 := ⟨f - 1, by omega⟩
    have e1 := many_eq F he (d := d) (by omega) π
    have hz : ((trs d).length : Int) - (hh d ps : Int) = 0 := by rw [h2 d (by omega)]; omega
    rw [hz] at e1
    have ih := top_loop F he ht h1 h2 π k (d + 1) f (by omega) (by omega)
    rw [whileGo]
    unfold f_p_top_of_b1 at ih ⊢
    simp -implicitDefEqProofs [-opEq_int, e1, opEq_ii]
    simpa using ih
theorem top_eq {ps : List Pt} (F : Few ps) {t : Nat} (ht : t ≤ 9) (h1 : hh t ps < (trs t).length) (h2 : ∀ d, d < t → hh d ps = (trs d).length) (π : Pot) : m_p_top [spD ps] π = .ok (.int (t : Int), π) := by
  have e1 := want_spots_eq ps π
  have e3 := own_eq ps
  have e4 := top_loop F (e := .tup (ps.map pD)) rfl ht h1 h2 π t 0 1000000000 (by omega) (by omega)
  have e2 : m_p_top_of [.tup (ps.map pD)] π = .ok (.int (t : Int), π) := by
    obtain ⟨T, hT⟩ : ∃ S, S = D.tup (ps.map pD) := ⟨_, rfl⟩
    rw [← hT] at e4 ⊢
    unfold m_p_top_of f_p_top_of
    simp -implicitDefEqProofs [sWhile_ap]
    simp at e4
    simp [e4]
  obtain ⟨S, hS⟩ : ∃ S, S = spD ps := ⟨_, rfl⟩
  obtain ⟨T, hT⟩ : ∃ S, S = D.tup (ps.map pD) := ⟨_, rfl⟩
  rw [← hT] at e2 e3
  rw [← hS] at e1 e3 ⊢
  unfold m_p_top f_p_top
  simp -implicitDefEqProofs [e1, e2, e3]
theorem conditions_eq {ps : List Pt} (F : Few ps) {d : Nat} (hd : d ≤ 9) (π : Pot) : m_p_conditions [spD ps, .int (d : Int)] π = .ok (.int (hh d ps), π) := by
  have e1 := want_both_eq ps hd π
  have e2 := rank_at_eq F (e := .tup (ps.map pD)) rfl hd π
  have e3 := own_eq ps
  obtain ⟨S, hS⟩ : ∃ S, S = spD ps := ⟨_, rfl⟩
  obtain ⟨T, hT⟩ : ∃ S, S = D.tup (ps.map pD) := ⟨_, rfl⟩
  rw [← hT] at e2 e3
  rw [← hS] at e1 e3 ⊢
  unfold m_p_conditions f_p_conditions
  simp -implicitDefEqProofs [e1, e2, e3]
end LW

set_option maxHeartbeats 4000000
namespace LW
open PySem PySem.Spec PyProof.Rows L2 DL RK
/-! The program's tables. -/
abbrev tT (t : Tb) : D := .tup [pD t.1, pD t.2.1, pD t.2.2]
/-- a table that is given: rows as lists or tuples, in a list or a tuple -/
inductive GivT : D → Tb → Prop where
  | l {a b c t} : Giv a t.1 → Giv b t.2.1 → Giv c t.2.2 → GivT (.lst [a, b, c]) t
  | t {a b c t} : Giv a t.1 → Giv b t.2.1 → Giv c t.2.2 → GivT (.tup [a, b, c]) t
theorem GivT.tT (t : Tb) : GivT (tT t) t := .t (.inl rfl) (.inl rfl) (.inl rfl)
theorem Giv.len {d : D} {p : Pt} (h : Giv d p) : fLen [d] = some (.int 3) := by rcases h with rfl | rfl <;> rfl
theorem Giv.seq {d : D} {p : Pt} (h : Giv d p) : seqOf d = some [.int p.1, .int p.2.1, .int p.2.2] := by rcases h with rfl | rfl <;> rfl
theorem Giv.tuple {d : D} {p : Pt} (h : Giv d p) : fTuple [d] = some (pD p) := by rcases h with rfl | rfl <;> rfl
theorem Giv.ilist {d : D} {p : Pt} (h : Giv d p) (π : Pot) : m_p_is_list [d] π = .ok (.bl true, π) := by
  unfold m_p_is_list f_p_is_list
  rcases h with rfl | rfl <;> simp -implicitDefEqProofs
theorem Giv.enc {d : D} {p : Pt} (h : Giv d p) : ∃ b : Bool, d = encB (b, lp p) := by
  rcases h with rfl | rfl
  · exact ⟨false, rfl⟩
  · exact ⟨true, rfl⟩
theorem is_int_eq (i : Int) (π : Pot) : m_p_is_integer [.int i] π = .ok (.bl true, π) := by
  unfold m_p_is_integer f_p_is_integer
  simp -implicitDefEqProofs
theorem GivT.ilist {d : D} {t : Tb} (h : GivT d t) (π : Pot) : m_p_is_list [d] π = .ok (.bl true, π) := by
  unfold m_p_is_list f_p_is_list
  cases h <;> simp -implicitDefEqProofs
theorem all3 : fAll [.lst [.bl true, .bl true, .bl true]] = some (.bl true) := rfl
theorem tb_row {d : D} {p : Pt} (h : Giv d p) (A o2 : Option D) (o1 : Option D) (π : Pot) : f_p_are_table_b1 [A, some d, o2] π = .ok (.nx [A, some d, o2], π) := by
  rw [f_p_are_table_b1_ap]
  have e1 := h.ilist π
  have e2 := h.len
  have e3 := h.seq
  simp -implicitDefEqProofs [e1, e2, e3, lcGo, f_p_are_table_e1_ap, is_int_eq, safe_ok', all3]
theorem bd9 {B : Nat} {t : Tb} (h : Bd B (l9 t)) : Bd B (lp t.1) ∧ Bd B (lp t.2.1) ∧ Bd B (lp t.2.2) :=
  ⟨fun x hx => h x (by simp [l9, hx]), fun x hx => h x (by simp [l9, hx]), fun x hx => h x (by simp [l9, hx])⟩
theorem are_table_eq {d : D} {t : Tb} (h : GivT d t) (hd : det t ≠ 0) {b : Nat} (hb : Bd (2 ^ b) (l9 t)) (h9 : b ≤ 500) (π : Pot) : m_p_are_table [d] π = .ok (.bl true, π) := by
  have e1 := h.ilist π
  obtain ⟨b1, b2, b3⟩ := bd9 hb
  have key : ∃ x y z, Giv x t.1 ∧ Giv y t.2.1 ∧ Giv z t.2.2 ∧ seqOf d = some [x, y, z] ∧ fLen [d] = some (.int 3) := by
    cases h with
    | l ha hb hc => exact ⟨_, _, _, ha, hb, hc, rfl, rfl⟩
    | t ha hb hc => exact ⟨_, _, _, ha, hb, hc, rfl, rfl⟩
  obtain ⟨x, y, z, hx, hy, hz, hs, hl⟩ := key
  have er : m_p_rank_of [d] π = .ok (.int 3, π) := by
    obtain ⟨bx, ex⟩ := hx.enc
    obtain ⟨by', ey⟩ := hy.enc
    obtain ⟨bz, ez⟩ := hz.enc
    have := rank_eqG (w := 3) (b := b) (n := 3) (q := 3 * (5 + b)) (d := d) (rs := [(bx, lp t.1), (by', lp t.2.1), (bz, lp t.2.2)]) (by decide)
      (by
        have h1 : 2 * 3 * 2 ^ b ≤ 2 ^ (5 + b) := by rw [Nat.pow_add]; exact Nat.mul_le_mul_right _ (by decide)
        calc (2 * 3 * 2 ^ b) ^ 3 ≤ (2 ^ (5 + b)) ^ 3 := Nat.pow_le_pow_left h1 3
          _ = 2 ^ ((5 + b) * 3) := by rw [Nat.pow_mul]
          _ ≤ 2 ^ (3 * (5 + b)) := Nat.pow_le_pow_right (by decide) (by omega)) (by omega) (by decide) (by decide) (by rw [hs, ex, ey, ez]; rfl) (by simp) (by
        intro r hr
        simp only [List.mem_cons, List.not_mem_nil, or_false] at hr
        rcases hr with rfl | rfl | rfl
        · exact ⟨rfl, b1⟩
        · exact ⟨rfl, b2⟩
        · exact ⟨rfl, b3⟩) π
    rw [this]
    have hk : ([(bx, lp t.1), (by', lp t.2.1), (bz, lp t.2.2)].map (·.2)).map vz = [lp t.1, lp t.2.1, lp t.2.2].map vz := rfl
    rw [hk, det_rank hd]
    rfl
  unfold m_p_are_table f_p_are_table
  simp -implicitDefEqProofs [e1, hl, hs, forGo, tb_row hx _ _ none, tb_row hy _ _ none, tb_row hz _ _ none, er]
theorem want_table_eq {d : D} {t : Tb} (h : GivT d t) (hd : det t ≠ 0) {b : Nat} (hb : Bd (2 ^ b) (l9 t)) (h9 : b ≤ 500) (π : Pot) : m_p_want_table [d] π = .ok (tT t, π) := by
  have e1 := are_table_eq h hd hb h9 π
  have key : ∃ x y z, Giv x t.1 ∧ Giv y t.2.1 ∧ Giv z t.2.2 ∧ seqOf d = some [x, y, z] := by
    cases h with
    | l ha hb hc => exact ⟨_, _, _, ha, hb, hc, rfl⟩
    | t ha hb hc => exact ⟨_, _, _, ha, hb, hc, rfl⟩
  obtain ⟨x, y, z, hx, hy, hz, hs⟩ := key
  have t1 := hx.tuple
  have t2 := hy.tuple
  have t3 := hz.tuple
  obtain ⟨P, hP⟩ : ∃ P, P = pD t.1 := ⟨_, rfl⟩
  obtain ⟨Q, hQ⟩ : ∃ P, P = pD t.2.1 := ⟨_, rfl⟩
  obtain ⟨R, hR⟩ : ∃ P, P = pD t.2.2 := ⟨_, rfl⟩
  rw [tT, ← hP, ← hQ, ← hR]
  rw [← hP] at t1
  rw [← hQ] at t2
  rw [← hR] at t3
  unfold m_p_want_table f_p_want_table
  simp -implicitDefEqProofs [e1, hs, lcGo, f_p_want_table_e1_ap, t1, t2, t3, safe_ok']
end LW

set_option maxHeartbeats 8000000
namespace LW
open PySem PySem.Spec PyProof.Rows L2 DL RK
/-! What the program does with tables. -/
theorem pD_is (p : Pt) : pD p = .tup [.int p.1, .int p.2.1, .int p.2.2] := rfl
theorem sum3' (a b c : Int) : fSum [.lst [.int a, .int b, .int c]] = some (.int (a + b + c)) := sum3 a b c
theorem bd_c {B : Nat} {p : Pt} (h : Bd B (lp p)) : p.1.natAbs ≤ B ∧ p.2.1.natAbs ≤ B ∧ p.2.2.natAbs ≤ B := bd3.mp h
theorem ofb {a b : Nat} : 2 ^ a * 2 ^ b = 2 ^ (a + b) := (Nat.pow_add 2 a b).symm
theorem two3 {b c : Nat} : 3 * (2 ^ b * 2 ^ c) ≤ 2 ^ (b + c + 2) := by
  rw [ofb, Nat.pow_add 2 (b + c) 2]; omega
theorem mulN {x y : Int} {b c : Nat} (hx : x.natAbs ≤ 2 ^ b) (hy : y.natAbs ≤ 2 ^ c) : (x * y).natAbs ≤ 2 ^ b * 2 ^ c := by
  rw [Int.natAbs_mul]; exact Nat.mul_le_mul hx hy
theorem row3_bd {p q : Pt} {b c : Nat} (hp : Bd (2 ^ b) (lp p)) (hq : Bd (2 ^ c) (lp q)) : (row3 p q).natAbs ≤ 2 ^ (b + c + 2) := by
  obtain ⟨p1, p2, p3⟩ := bd_c hp
  obtain ⟨q1, q2, q3⟩ := bd_c hq
  have := mulN p1 q1; have := mulN p2 q2; have := mulN p3 q3
  refine Nat.le_trans ?_ two3
  unfold row3
  omega
theorem crs_bd {p q : Pt} {b c : Nat} (hp : Bd (2 ^ b) (lp p)) (hq : Bd (2 ^ c) (lp q)) : Bd (2 ^ (b + c + 2)) (lp (crs p q)) := by
  obtain ⟨p1, p2, p3⟩ := bd_c hp
  obtain ⟨q1, q2, q3⟩ := bd_c hq
  have := @two3 b c
  rw [bd3]
  unfold crs
  refine ⟨?_, ?_, ?_⟩
  · have := mulN p2 q3; have := mulN p3 q2; dsimp only; omega
  · have := mulN p3 q1; have := mulN p1 q3; dsimp only; omega
  · have := mulN p1 q2; have := mulN p2 q1; dsimp only; omega
theorem tap_bd {t : Tb} {p : Pt} {b c : Nat} (ht : Bd (2 ^ b) (l9 t)) (hp : Bd (2 ^ c) (lp p)) : Bd (2 ^ (b + c + 2)) (lp (tap t p)) := by
  obtain ⟨b1, b2, b3⟩ := bd9 ht
  exact bd3.mpr ⟨row3_bd b1 hp, row3_bd b2 hp, row3_bd b3 hp⟩
theorem bd9_of {B : Nat} {t : Tb} (h1 : Bd B (lp t.1)) (h2 : Bd B (lp t.2.1)) (h3 : Bd B (lp t.2.2)) : Bd B (l9 t) := fun x hx => by
  simp only [l9, List.mem_append] at hx
  rcases hx with h | h | h
  · exact h1 x h
  · exact h2 x h
  · exact h3 x h
theorem col_bd {B : Nat} {t : Tb} (h : Bd B (l9 t)) : Bd B (l9 (colT t)) := by
  obtain ⟨b1, b2, b3⟩ := bd9 h
  obtain ⟨p1, p2, p3⟩ := bd_c b1
  obtain ⟨q1, q2, q3⟩ := bd_c b2
  obtain ⟨r1, r2, r3⟩ := bd_c b3
  exact bd9_of (bd3.mpr ⟨p1, q1, r1⟩) (bd3.mpr ⟨p2, q2, r2⟩) (bd3.mpr ⟨p3, q3, r3⟩)
theorem mulT_bd {s t : Tb} {b c : Nat} (hs : Bd (2 ^ b) (l9 s)) (ht : Bd (2 ^ c) (l9 t)) : Bd (2 ^ (b + c + 2)) (l9 (mulT s t)) := by
  obtain ⟨b1, b2, b3⟩ := bd9 hs
  obtain ⟨c1, c2, c3⟩ := bd9 (col_bd ht)
  exact bd9_of (bd3.mpr ⟨row3_bd b1 c1, row3_bd b1 c2, row3_bd b1 c3⟩) (bd3.mpr ⟨row3_bd b2 c1, row3_bd b2 c2, row3_bd b2 c3⟩) (bd3.mpr ⟨row3_bd b3 c1, row3_bd b3 c2, row3_bd b3 c3⟩)
theorem adj_bd {t : Tb} {b : Nat} (ht : Bd (2 ^ b) (l9 t)) : Bd (2 ^ (b + b + 2)) (l9 (adj t)) := by
  obtain ⟨b1, b2, b3⟩ := bd9 ht
  exact col_bd (t := (crs t.2.1 t.2.2, crs t.2.2 t.1, crs t.1 t.2.1)) (bd9_of (crs_bd b2 b3) (crs_bd b3 b1) (crs_bd b1 b2))
theorem mulO {x y : Int} {b c : Nat} (hx : x.natAbs ≤ 2 ^ b) (hy : y.natAbs ≤ 2 ^ c) (h : b + c < 1000000) : opMulA (.int x) (.int y) = some (.int (x * y)) := mul_b hx hy h
theorem sum_of_eq {d e : D} {p q : Pt} (hd : Giv d p) (he : Giv e q) {b c : Nat} (hp : Bd (2 ^ b) (lp p)) (hq : Bd (2 ^ c) (lp q)) (h : b + c < 1000000) (π : Pot) : m_p_sum_of [d, e] π = .ok (.int (row3 p q), π) := by
  obtain ⟨p1, p2, p3⟩ := bd_c hp
  obtain ⟨q1, q2, q3⟩ := bd_c hq
  have m1 := mulO p1 q1 h
  have m2 := mulO p2 q2 h
  have m3 := mulO p3 q3 h
  have s1 := hd.seq
  have s2 := he.seq
  unfold m_p_sum_of f_p_sum_of
  simp -implicitDefEqProofs [s1, s2, zipD, lcGo, f_p_sum_of_e1_ap, m1, m2, m3, safe_ok', sum3', row3]
theorem led_by_eq {t : Tb} {p : Pt} {e : D} (he : Giv e p) {b c : Nat} (ht : Bd (2 ^ b) (l9 t)) (hp : Bd (2 ^ c) (lp p)) (h : b + c < 8000) (π : Pot) : m_p_led_by [tT t, e] π = .ok (pD (told (tap t p)), π) := by
  obtain ⟨b1, b2, b3⟩ := bd9 ht
  have e1 := sum_of_eq (.inl rfl) he b1 hp (by omega) π
  have e2 := sum_of_eq (.inl rfl) he b2 hp (by omega) π
  have e3 := sum_of_eq (.inl rfl) he b3 hp (by omega) π
  have e4 := pt_told_of (tap_bd ht hp) (by omega) (d := lD (tap t p)) (.inr rfl) π
  have e4' : m_p_told_of [.lst [.int (row3 t.1 p), .int (row3 t.2.1 p), .int (row3 t.2.2 p)]] π = .ok (pD (told (tap t p)), π) := e4
  obtain ⟨P, hP⟩ : ∃ P, P = pD t.1 := ⟨_, rfl⟩
  obtain ⟨Q, hQ⟩ : ∃ P, P = pD t.2.1 := ⟨_, rfl⟩
  obtain ⟨R, hR⟩ : ∃ P, P = pD t.2.2 := ⟨_, rfl⟩
  obtain ⟨Z, hZ⟩ : ∃ P, P = pD (told (tap t p)) := ⟨_, rfl⟩
  rw [tT, ← hP, ← hQ, ← hR, ← hZ]
  rw [← hP] at e1
  rw [← hQ] at e2
  rw [← hR] at e3
  rw [← hZ] at e4'
  unfold m_p_led_by f_p_led_by
  simp -implicitDefEqProofs [lcGo, f_p_led_by_e1_ap, e1, e2, e3, safe_ok', e4']
theorem told_tap_told {t : Tb} (ht : inj t) {p : Pt} (hn : nz p) : told (tap t (told p)) = told (tap t p) := by
  obtain ⟨c, hc, e⟩ := told_mul p hn
  have h : told (tap t p) = told (smul c (tap t (told p))) := by rw [← tap_smul, ← e]
  rw [h, told_smul (ht _ (isT_nz (told_isT hn))) hc]
end LW

set_option maxHeartbeats 2000000
/-! What is shown alike is alike. -/
namespace DL
open PySem PySem.Spec PyProof.Rows L2 PySem.Builtin PySem.Builtin.Str
def safeC (c : Nat) : Bool := decide (32 ≤ c ∧ c < 127 ∧ c ≠ 34 ∧ c ≠ 39 ∧ c ≠ 92)
mutual
def okP : PyData → Bool
  | .none | .bool _ | .int _ => true
  | .str x => x.cps.toList.all safeC
  | .list xs | .tuple xs => okPs xs
  | .dict _ => false
def okPs : List PyData → Bool
  | [] => true
  | x :: xs => okP x && okPs xs
end
def tx (p : PyData) : List Nat := p.shown.cps.toList
def sepT : List (List Nat) → List Nat
  | [] => []
  | [x] => x
  | x :: y :: r => x ++ 44 :: 32 :: sepT (y :: r)
theorem tx_join : ∀ xs : List PyData, (Str.join ", " (PyData.shownAll xs)).cps.toList = sepT (xs.map tx)
  | [] => rfl
  | [x] => rfl
  | x :: y :: r => by
    have ih := tx_join (y :: r)
    show (Str.join ", " (x.shown :: y.shown :: PyData.shownAll r)).cps.toList = _
    rw [join_cons_cons, cps_toList_append, cps_toList_append, signs_sep]
    show _ = tx x ++ 44 :: 32 :: sepT ((y :: r).map tx)
    rw [← ih]
    simp [tx, PyData.shownAll]
theorem tx_none : tx .none = [78, 111, 110, 101] := by unfold tx; rw [PyData.shown_none]; exact signs_None
theorem tx_bool (b : Bool) : tx (.bool b) = if b then [84, 114, 117, 101] else [70, 97, 108, 115, 101] := by
  cases b
  · exact signs_False
  · exact signs_True
theorem tx_int (i : Int) : tx (.int i) = (toString i).toList.map Char.toNat := by unfold tx; rw [PyData.shown_int]; exact signs_ofString _
theorem tx_list (xs : List PyData) : tx (.list xs) = 91 :: (sepT (xs.map tx) ++ [93]) := by
  unfold tx
  rw [PyData.shown_list, cps_toList_append, cps_toList_append, signs_lbrack, signs_rbrack, tx_join]
  rfl
theorem tx_tuple (xs : List PyData) : tx (.tuple xs) = 40 :: (sepT (xs.map tx) ++ if xs.length = 1 then [44, 41] else [41]) := by
  have e : (((if (xs.length == 1) = true then ",)" else ")" : String) : Str)).cps.toList = if xs.length = 1 then [44, 41] else [41] := by
    by_cases h : xs.length = 1
    · simp only [h]; decide
    · simp only [h, beq_iff_eq, if_false]; decide
  unfold tx
  rw [PyData.shown_tuple, cps_toList_append, cps_toList_append, signs_lparen, tx_join, e]
  rfl
theorem safe_char {q c : Nat} (h : safeC c = true) (hq : q = 39 ∨ q = 34) : reprChar q c = [c] := by
  unfold safeC at h
  have h := of_decide_eq_true h
  have hp : ∀ c : Nat, c < 127 → 32 ≤ c → Unicode.isPrintable c = true := by decide +kernel
  have hp := hp c (by omega) h.1
  unfold reprChar
  have n1 : (c == q || c == 92) = false := by
    simp only [Bool.or_eq_false_iff, beq_eq_false_iff_ne]
    omega
  simp only [n1, Bool.false_eq_true, if_false, hp, if_true]
  have n2 : (c == 10) = false := beq_eq_false_iff_ne.mpr (by omega)
  have n3 : (c == 13) = false := beq_eq_false_iff_ne.mpr (by omega)
  have n4 : (c == 9) = false := beq_eq_false_iff_ne.mpr (by omega)
  simp only [n2, n3, n4, Bool.false_eq_true, if_false]
theorem tx_str {x : Str} (h : x.cps.toList.all safeC = true) : tx (.str x) = 39 :: (x.cps.toList ++ [39]) := by
  have hq : reprQuote x = 39 := by
    unfold reprQuote
    have : x.cps.contains 39 = false := by
      rw [← Array.contains_toList]
      apply Bool.eq_false_iff.mpr
      intro hc
      have := List.all_eq_true.mp h 39 (by simpa using hc)
      simp [safeC] at this
    rw [this]; rfl
  have key : ∀ (l : List Nat) (acc : Array Nat), l.all safeC = true → (l.foldl (fun out c => out ++ (reprChar 39 c).toArray) acc).toList = acc.toList ++ l := by
    intro l
    induction l with
    | nil => intro acc _; simp
    | cons c l ih =>
      intro acc hl
      simp only [List.all_cons, Bool.and_eq_true] at hl
      rw [List.foldl_cons, ih _ hl.2, safe_char hl.1 (.inl rfl)]
      simp
  unfold tx
  show ((x.cps.foldl (fun out c => out ++ (reprChar (reprQuote x) c).toArray) #[reprQuote x]).push (reprQuote x)).toList = _
  rw [hq, Array.toList_push, ← Array.foldl_toList, key _ _ h]
  simp
/-- what may follow -/
def dl : List Nat → Bool
  | [] => true
  | c :: _ => c == 44 || c == 93 || c == 41
def kindC (c : Nat) : Nat := if c = 78 then 0 else if c = 84 ∨ c = 70 then 1 else if c = 45 ∨ (48 ≤ c ∧ c ≤ 57) then 2 else if c = 39 then 3 else if c = 91 then 4 else if c = 40 then 5 else 6
def kindP : PyData → Nat
  | .none => 0
  | .bool _ => 1
  | .int _ => 2
  | .str _ => 3
  | .list _ => 4
  | .tuple _ => 5
  | .dict _ => 7
def numC (c : Nat) : Prop := c = 45 ∨ (48 ≤ c ∧ c ≤ 57)
theorem int_chars (i : Int) : ∀ c ∈ (toString i).toList.map Char.toNat, numC c := by
  intro c hc
  obtain ⟨ch, h1, rfl⟩ := List.mem_map.mp hc
  rcases int_sign i ch h1 with h | h
  · exact .inr (digit_range h)
  · subst h; exact .inl rfl
theorem int_ne (i : Int) : (toString i).toList ≠ [] := by
  intro h
  have h2 : (toString i) = "" := by
    rw [← String.toList_inj]; simpa using h
  have h3 : i.repr = "" := h2
  have : ∀ n : Nat, n.repr ≠ "" := fun n e => by
    have e2 : n.repr.toList = [] := by rw [e]; rfl
    rw [Nat.toList_repr] at e2
    exact Nat.toDigits_ne_nil e2
  rw [Int.repr_eq_if] at h3
  split at h3
  · exact this _ h3
  · have := congrArg String.toList h3
    rw [String.toList_append] at this
    simp at this
theorem head_kind {p : PyData} (h : okP p = true) : ∃ c t, tx p = c :: t ∧ kindC c = kindP p ∧ c ≠ 93 ∧ c ≠ 41 ∧ c ≠ 44 := by
  cases p with
  | none => exact ⟨_, _, tx_none, rfl, by decide⟩
  | bool b =>
    cases b
    · exact ⟨_, _, tx_bool false, rfl, by decide⟩
    · exact ⟨_, _, tx_bool true, rfl, by decide⟩
  | int i =>
    have h1 := int_chars i
    rw [← tx_int] at h1
    cases e : tx (.int i) with
    | nil =>
      rw [tx_int] at e
      exact absurd (List.map_eq_nil_iff.mp e) (int_ne i)
    | cons c t =>
      rw [e] at h1
      have h2 := h1 c (by simp)
      unfold numC at h2
      refine ⟨c, t, rfl, ?_, by omega, by omega, by omega⟩
      unfold kindC kindP
      rw [if_neg (by omega), if_neg (by omega), if_pos h2]
  | str x => exact ⟨_, _, tx_str h, rfl, by decide⟩
  | list xs => exact ⟨_, _, tx_list xs, rfl, by decide⟩
  | tuple xs => exact ⟨_, _, tx_tuple xs, rfl, by decide⟩
  | dict _ => cases h
theorem span_eq {S : Nat → Prop} : ∀ {A B r s : List Nat}, (∀ c ∈ A, S c) → (∀ c ∈ B, S c) → (∀ c t, r = c :: t → ¬ S c) → (∀ c t, s = c :: t → ¬ S c) → A ++ r = B ++ s → A = B ∧ r = s
  | [], [], _, _, _, _, _, _, e => ⟨rfl, e⟩
  | [], b :: B, r, s, _, hb, hr, _, e => absurd (hb b (by simp)) (hr b (B ++ s) e)
  | a :: A, [], r, s, ha, _, _, hs, e => absurd (ha a (by simp)) (hs a (A ++ r) e.symm)
  | a :: A, b :: B, r, s, ha, hb, hr, hs, e => by
    simp only [List.cons_append, List.cons.injEq] at e
    obtain ⟨h1, h2⟩ := span_eq (fun c hc => ha c (by simp [hc])) (fun c hc => hb c (by simp [hc])) hr hs e.2
    exact ⟨by rw [e.1, h1], h2⟩
/-- what may close a list -/
def clo (u : List Nat) : Prop := ∃ r, u = 93 :: r ∨ u = 41 :: r ∨ u = 44 :: 41 :: r
theorem clo_dl {u : List Nat} (h : clo u) : dl u = true := by
  obtain ⟨r, rfl | rfl | rfl⟩ := h <;> rfl
theorem dl_num {r : List Nat} (h : dl r = true) : ∀ c t, r = c :: t → ¬ numC c := by
  rintro c t rfl hn
  unfold dl at h
  unfold numC at hn
  simp at h
  omega
mutual
theorem tx_inj : ∀ (p q : PyData) (r s : List Nat), okP p = true → okP q = true → dl r = true → dl s = true → tx p ++ r = tx q ++ s → p = q ∧ r = s := fun p q r s hp hq hr hs e => by
  have hk : kindP p = kindP q := by
    obtain ⟨c, t, e1, k1, _⟩ := head_kind hp
    obtain ⟨c', t', e2, k2, _⟩ := head_kind hq
    rw [e1, e2] at e
    simp only [List.cons_append, List.cons.injEq] at e
    rw [← k1, ← k2, e.1]
  match p, q, hp, hq, hk with
  | .none, .none, _, _, _ => exact ⟨rfl, List.append_cancel_left e⟩
  | .bool a, .bool b, _, _, _ =>
    rw [tx_bool, tx_bool] at e
    cases a <;> cases b
    · exact ⟨rfl, List.append_cancel_left e⟩
    · simp at e
    · simp at e
    · exact ⟨rfl, List.append_cancel_left e⟩
  | .int i, .int j, _, _, _ =>
    rw [tx_int, tx_int] at e
    obtain ⟨h1, h2⟩ := span_eq (S := numC) (int_chars i) (int_chars j) (dl_num hr) (dl_num hs) e
    refine ⟨?_, h2⟩
    have h3 : (toString i).toList = (toString j).toList := by
      have inj : ∀ (l m : List Char), l.map Char.toNat = m.map Char.toNat → l = m := by
        intro l
        induction l with
        | nil => intro m h; cases m with
          | nil => rfl
          | cons => simp at h
        | cons a l ih => intro m h; cases m with
          | nil => simp at h
          | cons b m =>
            simp only [List.map_cons, List.cons.injEq] at h
            rw [ih m h.2, Char.toNat_inj.mp h.1]
      exact inj _ _ h1
    have h4 : toString i = toString j := String.toList_inj.mp h3
    exact congrArg PyData.int (Int.repr_injective h4)
  | .str x, .str y, hx, hy, _ =>
    rw [tx_str hx, tx_str hy] at e
    simp only [List.cons_append, List.cons.injEq, true_and, List.append_assoc, List.nil_append] at e
    have hc : ∀ {x : Str}, okP (.str x) = true → ∀ c ∈ x.cps.toList, c ≠ 39 := fun {x} hx c hc e => by
      have := List.all_eq_true.mp (show x.cps.toList.all safeC = true from hx) c hc
      simp [safeC] at this; omega
    obtain ⟨h1, h2⟩ := span_eq (S := fun c => c ≠ 39) (hc hx) (hc hy) (r := 39 :: r) (s := 39 :: s) (by rintro c t ⟨⟩; simp) (by rintro c t ⟨⟩; simp) e
    simp only [List.cons.injEq, true_and] at h2
    refine ⟨?_, h2⟩
    have : x = y := by
      cases x; cases y
      simp only at h1
      congr
      exact Array.toList_inj.mp h1
    rw [this]
  | .list xs, .list ys, hx, hy, _ =>
    rw [tx_list, tx_list] at e
    simp only [List.cons_append, List.cons.injEq, true_and, List.append_assoc, List.nil_append] at e
    obtain ⟨h1, h2⟩ := txs_inj xs ys (93 :: r) (93 :: s) hx hy ⟨r, .inl rfl⟩ ⟨s, .inl rfl⟩ e
    simp only [List.cons.injEq, true_and] at h2
    exact ⟨by rw [h1], h2⟩
  | .tuple xs, .tuple ys, hx, hy, _ =>
    rw [tx_tuple, tx_tuple] at e
    simp only [List.cons_append, List.cons.injEq, true_and, List.append_assoc] at e
    have hc : ∀ (n : Nat) (r : List Nat), clo ((if n = 1 then [44, 41] else [41]) ++ r) := fun n r => by
      split
      · exact ⟨r, .inr (.inr rfl)⟩
      · exact ⟨r, .inr (.inl rfl)⟩
    obtain ⟨h1, h2⟩ := txs_inj xs ys _ _ hx hy (hc _ _) (hc _ _) e
    subst h1
    exact ⟨rfl, List.append_cancel_left h2⟩
theorem txs_inj : ∀ (xs ys : List PyData) (u v : List Nat), okPs xs = true → okPs ys = true → clo u → clo v → sepT (xs.map tx) ++ u = sepT (ys.map tx) ++ v → xs = ys ∧ u = v
  | [], [], u, v, _, _, _, _, e => ⟨rfl, e⟩
  | [], y :: ys, u, v, _, hy, hu, _, e => by
    exfalso
    simp only [okPs, Bool.and_eq_true] at hy
    obtain ⟨c, t, e1, _, n1, n2, n3⟩ := head_kind hy.1
    have : ∃ t', sepT ((y :: ys).map tx) ++ v = c :: t' := by
      cases ys with
      | nil => exact ⟨t ++ v, by simp [sepT, e1]⟩
      | cons z zs => exact ⟨_, by rw [List.map_cons, List.map_cons, sepT, e1]; rfl⟩
    obtain ⟨t', e2⟩ := this
    rw [e2] at e
    obtain ⟨r, rfl | rfl | rfl⟩ := hu <;> simp [sepT] at e <;> omega
  | x :: xs, [], u, v, hx, _, _, hv, e => by
    exfalso
    simp only [okPs, Bool.and_eq_true] at hx
    obtain ⟨c, t, e1, _, n1, n2, n3⟩ := head_kind hx.1
    have : ∃ t', sepT ((x :: xs).map tx) ++ u = c :: t' := by
      cases xs with
      | nil => exact ⟨t ++ u, by simp [sepT, e1]⟩
      | cons z zs => exact ⟨_, by rw [List.map_cons, List.map_cons, sepT, e1]; rfl⟩
    obtain ⟨t', e2⟩ := this
    rw [e2] at e
    obtain ⟨r, rfl | rfl | rfl⟩ := hv <;> simp [sepT] at e <;> omega
  | [x], [y], u, v, hx, hy, hu, hv, e => by
    simp only [okPs, Bool.and_eq_true] at hx hy
    obtain ⟨h1, h2⟩ := tx_inj x y u v hx.1 hy.1 (clo_dl hu) (clo_dl hv) e
    exact ⟨by rw [h1], h2⟩
  | [x], y :: z :: ys, u, v, hx, hy, hu, hv, e => by
    exfalso
    simp only [okPs, Bool.and_eq_true] at hx hy
    simp only [List.map_cons, List.map_nil, sepT, List.append_assoc, List.cons_append] at e
    obtain ⟨h1, h2⟩ := tx_inj x y u _ hx.1 hy.1 (clo_dl hu) rfl e
    obtain ⟨r, rfl | rfl | rfl⟩ := hu <;> simp at h2
  | x :: z :: xs, [y], u, v, hx, hy, hu, hv, e => by
    exfalso
    simp only [okPs, Bool.and_eq_true] at hx hy
    simp only [List.map_cons, List.map_nil, sepT, List.append_assoc, List.cons_append] at e
    obtain ⟨h1, h2⟩ := tx_inj x y _ v hx.1 hy.1 rfl (clo_dl hv) e
    obtain ⟨r, rfl | rfl | rfl⟩ := hv <;> simp at h2
  | x :: z :: xs, y :: w :: ys, u, v, hx, hy, hu, hv, e => by
    simp only [okPs, Bool.and_eq_true] at hx hy
    simp only [List.map_cons, sepT, List.append_assoc, List.cons_append] at e
    obtain ⟨h1, h2⟩ := tx_inj x y _ _ hx.1 hy.1 rfl rfl e
    simp only [List.cons.injEq, true_and] at h2
    obtain ⟨h3, h4⟩ := txs_inj (z :: xs) (w :: ys) u v (by simp [okPs, hx]) (by simp [okPs, hy]) hu hv (by simpa using h2)
    exact ⟨by rw [h1, h3], h4⟩
end
theorem shown_inj {p q : PyData} (hp : okP p = true) (hq : okP q = true) (h : p.shown = q.shown) : p = q :=
  (tx_inj p q [] [] hp hq rfl rfl (by simp [tx, h])).1
end DL

set_option maxHeartbeats 2000000
namespace DL
open PySem PySem.Spec PyProof.Rows L2
mutual
theorem toPy_inj : ∀ {d e : D} {p : PyData}, toPy d = some p → toPy e = some p → d = e
  | .non, e, p, h, g => by
    cases h
    cases e <;> simp [toPy] at g
    rfl
  | .bl b, e, p, h, g => by
    cases h
    cases e <;> simp [toPy] at g
    rw [g]
  | .int b, e, p, h, g => by
    cases h
    cases e <;> simp [toPy] at g
    rw [g]
  | .str b, e, p, h, g => by
    cases h
    cases e <;> simp [toPy] at g
    rw [g]
  | .lst xs, e, p, h, g => by
    simp only [toPy, Option.map_eq_some_iff] at h
    obtain ⟨ps, h1, rfl⟩ := h
    cases e <;> simp [toPy] at g
    rw [toPyL_inj h1 g]
  | .tup xs, e, p, h, g => by
    simp only [toPy, Option.map_eq_some_iff] at h
    obtain ⟨ps, h1, rfl⟩ := h
    cases e <;> simp [toPy] at g
    rw [toPyL_inj h1 g]
  | .dic _ _, e, p, h, g => by simp [toPy] at h
  | .ins _ _ _, e, p, h, g => by simp [toPy] at h
theorem toPyL_inj : ∀ {xs ys : List D} {ps : List PyData}, toPyL xs = some ps → toPyL ys = some ps → xs = ys
  | [], ys, ps, h, g => by
    simp only [toPyL, Option.some.injEq] at h
    subst h
    cases ys with
    | nil => rfl
    | cons y ys => simp only [toPyL] at g; split at g <;> cases g
  | x :: xs, ys, ps, h, g => by
    simp only [toPyL] at h
    split at h
    · rename_i p qs h1 h2
      cases h
      cases ys with
      | nil => simp [toPyL] at g
      | cons y ys =>
        simp only [toPyL] at g
        split at g
        · rename_i p' qs' g1 g2
          simp only [Option.some.injEq, List.cons.injEq] at g
          obtain ⟨rfl, rfl⟩ := g
          rw [toPy_inj h1 g1, toPyL_inj h2 g2]
        · cases g
    · cases h
end
mutual
/-- what is shown by itself alone -/
def rpB : D → Bool
  | .non | .bl _ | .int _ => true
  | .str x => x.cps.toList.all safeC
  | .lst xs | .tup xs => rpL xs
  | _ => false
def rpL : List D → Bool
  | [] => true
  | x :: xs => rpB x && rpL xs
end
mutual
theorem rp_py : ∀ {d : D}, rpB d = true → ∃ p, toPy d = some p ∧ okP p = true
  | .non, _ => ⟨_, rfl, rfl⟩
  | .bl _, _ => ⟨_, rfl, rfl⟩
  | .int _, _ => ⟨_, rfl, rfl⟩
  | .str x, h => ⟨_, rfl, h⟩
  | .lst xs, h => by
    obtain ⟨ps, h1, h2⟩ := rp_pyL (xs := xs) (by simpa [rpB] using h)
    exact ⟨.list ps, by simp [toPy, h1], by simpa [okP] using h2⟩
  | .tup xs, h => by
    obtain ⟨ps, h1, h2⟩ := rp_pyL (xs := xs) (by simpa [rpB] using h)
    exact ⟨.tuple ps, by simp [toPy, h1], by simpa [okP] using h2⟩
  | .dic _ _, h => by cases h
  | .ins _ _ _, h => by cases h
theorem rp_pyL : ∀ {xs : List D}, rpL xs = true → ∃ ps, toPyL xs = some ps ∧ okPs ps = true
  | [], _ => ⟨[], rfl, rfl⟩
  | x :: xs, h => by
    simp only [rpL, Bool.and_eq_true] at h
    obtain ⟨p, h1, h2⟩ := rp_py h.1
    obtain ⟨ps, h3, h4⟩ := rp_pyL h.2
    exact ⟨p :: ps, by simp [toPyL, h1, h3], by simp [okPs, h2, h4]⟩
end
theorem repr_val {d : D} (h : shOk d = true) : ∃ p, toPy d = some p ∧ fRepr [d] = some (.str p.shown) := by
  unfold shOk at h
  simp only [Bool.and_eq_true, decide_eq_true_eq] at h
  obtain ⟨⟨h1, h2⟩, h3⟩ := h
  obtain ⟨p, e, g1, g2, g3, g4⟩ := show_py h1
  refine ⟨p, e, ?_⟩
  have : p.depth ≤ 60 := by omega
  have : p.shown.length ≤ sizeLine := by rw [sizeLine_eq]; omega
  have hs : showD d = some p.shown := by
    unfold showD
    rw [e]
    simp [*]
  simp [fRepr, hs]
/-- unlike things are shown unlike -/
theorem repr_ne {d e : D} (sd : shOk d = true) (se : shOk e = true) (rd : rpB d = true) (re : rpB e = true) (h : d ≠ e) : ∃ x y, fRepr [d] = some (.str x) ∧ fRepr [e] = some (.str y) ∧ x ≠ y := by
  obtain ⟨p, h1, h2⟩ := repr_val sd
  obtain ⟨q, g1, g2⟩ := repr_val se
  obtain ⟨p', h3, h4⟩ := rp_py rd
  obtain ⟨q', g3, g4⟩ := rp_py re
  rw [h1] at h3; cases h3
  rw [g1] at g3; cases g3
  refine ⟨_, _, h2, g2, fun e' => h ?_⟩
  have := shown_inj h4 g4 e'
  subst this
  exact toPy_inj h1 g1
theorem rp_iz (ns : List Int) : rpL (ns.map D.int) = true := by
  induction ns with
  | nil => rfl
  | cons n ns ih => show (true && rpL (ns.map D.int)) = true; rw [ih]; rfl
theorem rpL_of : ∀ {xs : List D}, (∀ x ∈ xs, rpB x = true) → rpL xs = true
  | [], _ => rfl
  | x :: xs, h => by
    simp only [rpL, Bool.and_eq_true]
    exact ⟨h x (by simp), rpL_of fun y hy => h y (by simp [hy])⟩
/-- few small things in a list can be shown -/
def smB (d : D) : Bool := showB d && decide (deepD d ≤ 8) && decide (wideD d ≤ 2000)
theorem sm_l : ∀ {xs : List D}, (∀ x ∈ xs, smB x = true) → showL xs = true ∧ deepL xs ≤ 8 ∧ wideL xs ≤ 2002 * xs.length
  | [], _ => ⟨rfl, Nat.zero_le _, Nat.zero_le _⟩
  | x :: xs, h => by
    have h1 := h x (by simp)
    simp only [smB, Bool.and_eq_true, decide_eq_true_eq] at h1
    obtain ⟨h2, h3, h4⟩ := sm_l (xs := xs) fun y hy => h y (by simp [hy])
    refine ⟨by simp [showL, h1, h2], by simp only [deepL]; omega, ?_⟩
    simp only [wideL, List.length_cons]
    omega
theorem sh_l {xs : List D} (h : ∀ x ∈ xs, smB x = true) (hl : xs.length ≤ 1000) : shOk (.lst xs) = true ∧ shOk (.tup xs) = true := by
  obtain ⟨h1, h2, h3⟩ := sm_l h
  have k1 : deepL xs + 1 ≤ 60 := by omega
  have k2 : wideL xs + 2 ≤ 16777216 := by omega
  have k3 : wideL xs + 3 ≤ 16777216 := by omega
  constructor
  · show (showL xs && decide (deepL xs + 1 ≤ 60) && decide (wideL xs + 2 ≤ 16777216)) = true
    simp [h1, k1, k2]
  · show (showL xs && decide (deepL xs + 1 ≤ 60) && decide (wideL xs + 3 ≤ 16777216)) = true
    simp [h1, k1, k3]
theorem log_small {n : Int} (h : n.natAbs < 2 ^ 60) : n.natAbs.log2 ≤ 60 := by
  by_cases h0 : n.natAbs = 0
  · rw [h0]; decide
  · have := (Nat.log2_lt h0).mpr h
    omega
theorem sm_int {n : Int} (h : n.natAbs < 2 ^ 60) : smB (.int n) = true := by
  have := log_small h
  have k1 : n.natAbs.log2 < 1920 := by omega
  have k2 : n.natAbs.log2 + 2 ≤ 2000 := by omega
  show (decide (n.natAbs.log2 < 1920) && decide (0 ≤ 8) && decide (n.natAbs.log2 + 2 ≤ 2000)) = true
  simp [k1, k2]
theorem sh_ints {ns : List Int} (h : ∀ n ∈ ns, n.natAbs < 2 ^ 60) (hl : ns.length ≤ 1000) : shOk (.lst (ns.map D.int)) = true ∧ shOk (.tup (ns.map D.int)) = true :=
  sh_l (xs := ns.map D.int) (fun x hx => by obtain ⟨n, hn, rfl⟩ := List.mem_map.mp hx; exact sm_int (h n hn)) (by simpa using hl)
end DL

set_option maxHeartbeats 4000000
namespace LW
open PySem PySem.Spec PyProof.Rows L2 DL RK
/-! Moved points. -/
theorem spots_by_eq (xs : List D) (π : Pot) : m_p_spots_by [.tup xs] π = .ok (.ins "Spots" ["own_points"] [.tup xs], π) := by
  have e1 : m_i_Told [.tup xs] π = .ok (.ins "Told" ["told_points"] [.tup xs], π) := by
    unfold m_i_Told DL.runI f_i_Told
    simp -implicitDefEqProofs [iFld, iCk, iNil, putN]
  have hi : fIsC "Told" ["Spots", "Told"] (.ins "Told" ["told_points"] [.tup xs]) = some (.bl true) := by rfl
  have hf : fldD "Told" "told_points" (.ins "Told" ["told_points"] [.tup xs]) = some (.tup xs) := by rfl
  have e2 : m_p_told_points [.ins "Told" ["told_points"] [.tup xs]] π = .ok (.tup xs, π) := by
    obtain ⟨S, hS⟩ : ∃ S, S = D.ins "Told" ["told_points"] [.tup xs] := ⟨_, rfl⟩
    rw [← hS] at hi hf ⊢
    unfold m_p_told_points f_p_told_points
    simp -implicitDefEqProofs [hi, hf]
  have e3 : m_i_Spots [.ins "Told" ["told_points"] [.tup xs]] π = .ok (.ins "Spots" ["own_points"] [.tup xs], π) := by
    obtain ⟨S, hS⟩ : ∃ S, S = D.ins "Told" ["told_points"] [.tup xs] := ⟨_, rfl⟩
    rw [← hS] at e2 ⊢
    unfold m_i_Spots DL.runI f_i_Spots
    simp -implicitDefEqProofs [iFld, iCk, iNil, e2, putN]
  obtain ⟨S, hS⟩ : ∃ S, S = D.ins "Told" ["told_points"] [.tup xs] := ⟨_, rfl⟩
  rw [← hS] at e1 e3
  unfold m_p_spots_by f_p_spots_by
  simp -implicitDefEqProofs [e1, e3]
def ledL (t : Tb) (ps : List Pt) : List Pt := ps.map fun p => told (tap t p)
theorem moved_eq {ps : List Pt} {t : Tb} {d : D} (hd : GivT d t) (hdet : det t ≠ 0) {b c : Nat} (ht : Bd (2 ^ b) (l9 t)) (hb : b ≤ 500) (hp : ∀ p ∈ ps, Bd (2 ^ c) (lp p)) (hc : c ≤ 500) (hl : ps.length < 1000000) (π : Pot) :
    m_p_moved [spD ps, d] π = .ok (spD (ledL t ps), π) := by
  have e1 := want_spots_eq ps π
  have e2 := want_table_eq hd hdet ht hb π
  have e3 := own_eq ps
  have lc : lcGo (gN 3) tTrue f_p_moved_e1 [some (spD ps), some d, some (tT t), none] (ps.map pD) π = .ok (ps.map fun p => pD (told (tap t p)), π) :=
    lcGo_map (ρ1 := fun p => [some (spD ps), some d, some (tT t), some (pD p)]) (fun x hx => rfl) fun p hp' => by
      have e := led_by_eq (t := t) (p := p) (e := pD p) (.inl rfl) ht (hp p hp') (by omega) π
      obtain ⟨A, hA⟩ : ∃ A, A = pD p := ⟨_, rfl⟩
      obtain ⟨B, hB⟩ : ∃ A, A = tT t := ⟨_, rfl⟩
      rw [← hA, ← hB] at e
      rw [← hA, ← hB]
      simp -implicitDefEqProofs [f_p_moved_e1_ap, e]
  have hm : (ps.map fun p => pD (told (tap t p))) = (ledL t ps).map pD := by rw [ledL, List.map_map]; rfl
  rw [hm] at lc
  have e4 := spots_by_eq ((ledL t ps).map pD) π
  have hsl : (ps.map pD).length < 16777216 := by rw [List.length_map]; omega
  obtain ⟨S, hS⟩ : ∃ S, S = spD ps := ⟨_, rfl⟩
  obtain ⟨T, hT⟩ : ∃ S, S = tT t := ⟨_, rfl⟩
  obtain ⟨P, hP⟩ : ∃ S, S = ps.map pD := ⟨_, rfl⟩
  have hZ0 : spD (ledL t ps) = .ins "Spots" ["own_points"] [.tup ((ledL t ps).map pD)] := rfl
  rw [hZ0]
  obtain ⟨Q, hQ⟩ : ∃ S, S = (ledL t ps).map pD := ⟨_, rfl⟩
  rw [← hQ] at lc e4 ⊢
  obtain ⟨Z, hZ⟩ : ∃ S, S = D.ins "Spots" ["own_points"] [.tup Q] := ⟨_, rfl⟩
  rw [← hP] at e3 lc hsl
  rw [← hT] at e2 lc
  rw [← hS] at e1 e3 lc ⊢
  rw [← hZ] at e4 ⊢
  unfold m_p_moved f_p_moved
  simp -implicitDefEqProofs [e1, e2, e3, hsl, lc, e4]
end LW

set_option maxHeartbeats 4000000
namespace LW
open PySem PySem.Spec PyProof.Rows L2 DL RK
/-! The rows that the law draws, and their stairs: finitely many. -/
theorem stairs1 : (rowsR.all fun ns => isR (m_p_stair [iL (zn ns)] (0, 0)) (spD (stP ns))) = true := by decide +kernel
theorem stairs2 : (rowsR.all fun ns => isR (m_p_stair [iT (zn ns)] (0, 0)) (spD (stP ns))) = true := by decide +kernel
theorem stair_eq {ns : List Nat} (h : ns ∈ rowsR) {d : D} (hd : d = iL (zn ns) ∨ d = iT (zn ns)) (π : Pot) : m_p_stair [d] π = .ok (spD (stP ns), π) := by
  rcases hd with rfl | rfl
  · exact pu_m_p_stair.r (List.all_eq_true.mp stairs1 ns h) π
  · exact pu_m_p_stair.r (List.all_eq_true.mp stairs2 ns h) π
theorem points1 : (rowsR.all fun ns => isR (m_l_points [iL (zn ns)] (0, 0)) (.lst ((stP ns).map pD))) = true := by decide +kernel
theorem points_eq {ns : List Nat} (h : ns ∈ rowsR) (π : Pot) : m_l_points [iL (zn ns)] π = .ok (.lst ((stP ns).map pD), π) :=
  pu_m_l_points.r (List.all_eq_true.mp points1 ns h) π
theorem isrow1 : (rowsR.all fun ns => isR (m_p_is_row [iL (zn ns)] (0, 0)) (.bl true)) = true := by decide +kernel
theorem isrow_eq {ns : List Nat} (h : ns ∈ rowsR) (π : Pot) : m_p_is_row [iL (zn ns)] π = .ok (.bl true, π) :=
  pu_m_p_is_row.r (List.all_eq_true.mp isrow1 ns h) π
def topN (ns : List Nat) : Nat := ((List.range ns.length).find? fun i => ns.getD i 0 != i + 1).getD ns.length
theorem top1 : (rowsR.all fun ns => isR (m_l_top [iL (zn ns)] (0, 0)) (.int (topN ns : Int))) = true := by decide +kernel
theorem ltop_eq {ns : List Nat} (h : ns ∈ rowsR) (π : Pot) : m_l_top [iL (zn ns)] π = .ok (.int (topN ns : Int), π) :=
  pu_m_l_top.r (List.all_eq_true.mp top1 ns h) π
/-- what is so with all rows -/
def fineB (ns : List Nat) : Bool :=
  decide (ns ≠ []) && decide (ns.length ≤ 9) && decide (ns.sum = (stP ns).length) && ((List.range ns.length).all fun d => decide (d + 1 < ns.length → (ns.take (d + 1)).sum ≠ (stP ns).length)) &&
  decide ((stP ns).length ≤ 12) && decide ((stP ns).map told = stP ns) && decide (stP ns).Nodup &&
  ((stP ns).all fun p => decide (p.2.2 = 1) && decide (p.1.natAbs ≤ 2 ^ 3) && decide (p.2.1.natAbs ≤ 2 ^ 3) && (decide (p.1 ≤ 0) || decide ((p.1 - 1, p.2.1, 1) ∈ stP ns)) && (decide (p.2.1 ≤ 0) || decide ((p.1, p.2.1 - 1, 1) ∈ stP ns))) &&
  decide (topN ns ≤ 9) && decide ((if topN ns < ns.length then (ns.take (topN ns + 1)).sum else ns.sum) < (trs (topN ns)).length) && ((List.range (topN ns)).all fun d => decide (d < ns.length) && decide ((ns.take (d + 1)).sum = (trs d).length)) &&
  ns.all fun n => decide (n ≤ 12)
theorem fine1 : rowsR.all fineB = true := by decide +kernel
end LW

set_option maxHeartbeats 4000000
namespace LW
open PySem PySem.Spec PyProof.Rows L2 DL RK
/-! The row that the law draws. -/
theorem goR_self (k : Nat) (ns : List Nat) (s : Nat) : ns ∈ goR k ns s := by
  cases k with
  | zero => simp [goR]
  | succ k =>
    unfold goR
    dsimp only
    split <;> simp
def roomN (ns : List Nat) (s : Nat) : Nat := min (ns.getLastD 0) (12 - s)
theorem goR_stop {k : Nat} {ns : List Nat} {s : Nat} (h : roomN ns s < 1 ∨ ns.length = 9) : goR (k + 1) ns s = [ns] := by
  unfold goR
  dsimp only
  rw [if_pos (by simpa [roomN] using h)]
theorem goR_go {k : Nat} {ns ms : List Nat} {s r : Nat} (h : ¬ (roomN ns s < 1 ∨ ns.length = 9)) (hr : r < roomN ns s) (hm : ms ∈ goR k (ns ++ [r + 1]) (s + r + 1)) : ms ∈ goR (k + 1) ns s := by
  unfold goR
  dsimp only
  rw [if_neg (by simpa [roomN] using h)]
  exact List.mem_cons_of_mem _ (List.mem_flatMap.mpr ⟨r, by simpa [roomN] using hr, hm⟩)
theorem zn_append (ns : List Nat) (x : Nat) : zn (ns ++ [x]) = zn ns ++ [(x : Int)] := by simp [zn]
theorem zn_sum (ns : List Nat) : (zn ns).sum = (ns.sum : Int) := by
  induction ns with
  | nil => rfl
  | cons x ns ih =>
    have : zn (x :: ns) = (x : Int) :: zn ns := rfl
    rw [this, List.sum_cons, ih, List.sum_cons]; omega
theorem zn_last {ns : List Nat} (h : ns ≠ []) : opIx (iL (zn ns)) (.int (-1)) = some (.int (ns.getLastD 0 : Nat)) := by
  have e : ns = ns.dropLast ++ [ns.getLast h] := (List.dropLast_concat_getLast h).symm
  have e2 : ns.getLastD 0 = ns.getLast h := by
    rw [List.getLastD_eq_getLast?, List.getLast?_eq_some_getLast h]; rfl
  rw [e2]
  have e3 : iL (zn ns) = .lst ((zn ns.dropLast).map D.int ++ [.int (ns.getLast h : Nat)]) := by
    conv => lhs; rw [e]
    rw [zn_append, iL, List.map_append]; rfl
  rw [e3]
  exact opIx_last
theorem row_loop (a : Option D) (o2 : Option D) : ∀ (k K : Nat) (ns : List Nat) (j : Nat) (o3 o5 : Option D) (π : Pot), k ≤ K → ns ≠ [] → ns.length ≤ 9 → ns.sum ≤ 12 →
    ∃ ms π', ms ∈ goR K ns ns.sum ∧ ((∃ p3 p5, forGo (gN 3) f_l_row_b2 ((List.range' j k).map fun (i : Nat) => .int (i : Int)) [a, some (.int 12), o2, o3, some (iL (zn ns)), o5] π = .ok (.nx [a, some (.int 12), o2, p3, some (iL (zn ms)), p5], π')) ∨
      forGo (gN 3) f_l_row_b2 ((List.range' j k).map fun (i : Nat) => .int (i : Int)) [a, some (.int 12), o2, o3, some (iL (zn ns)), o5] π = .ok (.rt (iL (zn ms)), π'))
  | 0, K, ns, j, o3, o5, π, _, _, _, _ => ⟨ns, π, goR_self K ns _, .inl ⟨o3, o5, by simp [forGo]⟩⟩
  | k + 1, K + 1, ns, j, o3, o5, π, hk, hne, h9, h12 => by
    have x1 := zn_last hne
    have x2 : fSum [iL (zn ns)] = some (.int (ns.sum : Nat)) := by rw [iL, fSum_iz, zn_sum]
    have x3 : fLen [iL (zn ns)] = some (.int (ns.length : Nat)) := by rw [iL, len_lst']; simp [zn]
    have hroom : (if (12 - (ns.sum : Int)) < (ns.getLastD 0 : Int) then (12 - (ns.sum : Int)) else (ns.getLastD 0 : Int)) = (roomN ns ns.sum : Int) := by
      unfold roomN; split <;> omega
    have hlen : ((zn ns).map D.int).length < 16777216 := by simp [zn]; omega
    by_cases hs : roomN ns ns.sum < 1 ∨ ns.length = 9
    · refine ⟨ns, π, by rw [goR_stop hs]; simp, .inr ?_⟩
      rw [List.range'_succ, List.map_cons, forGo]
      obtain ⟨L, hL⟩ : ∃ L, L = iL (zn ns) := ⟨_, rfl⟩
      rw [← hL] at x1 x2 x3 ⊢
      obtain ⟨R, hR⟩ : ∃ R : Int, R = (roomN ns ns.sum : Int) := ⟨_, rfl⟩
      obtain ⟨S, hS⟩ : ∃ R : Int, R = (ns.sum : Nat) := ⟨_, rfl⟩
      obtain ⟨T, hT⟩ : ∃ R : Int, R = (ns.getLastD 0 : Nat) := ⟨_, rfl⟩
      obtain ⟨N, hN⟩ : ∃ R : Int, R = (ns.length : Nat) := ⟨_, rfl⟩
      rw [← hR, ← hS, ← hT] at hroom
      rw [← hT] at x1
      rw [← hS] at x2
      rw [← hN] at x3
      by_cases h1 : R < 1
      · simp -implicitDefEqProofs [-opEq_int, f_l_row_b2_ap, x1, x2, x3, hroom, h1, opEq_ii]
      · have h2 : N = 9 := by omega
        simp -implicitDefEqProofs [-opEq_int, f_l_row_b2_ap, x1, x2, x3, hroom, h1, h2, opEq_ii]
    · have hpos : 0 < roomN ns ns.sum := by omega
      have hrs : roomN ns ns.sum ≤ 12 - ns.sum := by unfold roomN; omega
      obtain ⟨v, π1, e1, v0, v1⟩ := draw_ex (n := (roomN ns ns.sum : Int)) (a := .non) π (by omega) (by omega)
      obtain ⟨r, hr⟩ : ∃ r : Nat, v = (r : Int) := ⟨v.toNat, by omega⟩
      subst hr
      have hsum : (ns ++ [r + 1]).sum = ns.sum + r + 1 := by simp; omega
      obtain ⟨ms, π2, hm, hx⟩ := row_loop a o2 k K (ns ++ [r + 1]) (j + 1) (some (.int (j : Int))) (some (.int (roomN ns ns.sum : Int))) π1 (by omega) (by simp) (by simp; omega) (by omega)
      refine ⟨ms, π2, goR_go (r := r) hs (by omega) (by rw [hsum] at hm; exact hm), ?_⟩
      have hz : iL (zn (ns ++ [r + 1])) = .lst ((zn ns).map D.int ++ [.int (1 + (r : Int))]) := by
        rw [zn_append, iL, List.map_append]
        simp only [List.map_cons, List.map_nil]
        congr 4
        omega
      rw [hz] at hx
      have hL0 : iL (zn ns) = .lst ((zn ns).map D.int) := rfl
      rw [hL0] at x1 x2 x3 ⊢
      have n1 : ¬ (roomN ns ns.sum : Int) < 1 := by omega
      have n2 : ¬ ((ns.length : Nat) : Int) = 9 := by omega
      rw [List.range'_succ, List.map_cons]
      obtain ⟨L, hL⟩ : ∃ L, L = (zn ns).map D.int := ⟨_, rfl⟩
      rw [← hL] at x1 x2 x3 hlen hx ⊢
      obtain ⟨R, hR⟩ : ∃ R : Int, R = (roomN ns ns.sum : Int) := ⟨_, rfl⟩
      obtain ⟨S, hS⟩ : ∃ R : Int, R = (ns.sum : Nat) := ⟨_, rfl⟩
      obtain ⟨T, hT⟩ : ∃ R : Int, R = (ns.getLastD 0 : Nat) := ⟨_, rfl⟩
      obtain ⟨N, hN⟩ : ∃ R : Int, R = (ns.length : Nat) := ⟨_, rfl⟩
      rw [← hR, ← hS, ← hT] at hroom
      rw [← hR] at e1 n1 hx
      rw [← hT] at x1
      rw [← hS] at x2
      rw [← hN] at x3 n2
      have step : ∀ rest : List D, forGo (gN 3) f_l_row_b2 (.int (j : Int) :: rest) [a, some (.int 12), o2, o3, some (.lst L), o5] π =
          forGo (gN 3) f_l_row_b2 rest [a, some (.int 12), o2, some (.int (j : Int)), some (.lst (L ++ [.int (1 + (r : Int))])), some (.int R)] π1 := fun rest => by
        rw [forGo]
        simp -implicitDefEqProofs [-opEq_int, -fLen_lst, f_l_row_b2_ap, x1, x2, x3, hroom, n1, n2, opEq_ii, e1, appD_ok, hlen]
      rw [step]
      exact hx
def riseF (r : Int) : Int := if 12 < r * (r + 1) / 2 then r - 1 else r
theorem rise_step (r : Int) (a o3 o4 o5 : Option D) (π : Pot) (h1 : -100 ≤ r) (h2 : r ≤ 100) : f_l_row_b1 [a, some (.int 12), some (.int r), o3, o4, o5] π = .ok (.nx [a, some (.int 12), some (.int (riseF r)), o3, o4, o5], π) := by
  have m : opMulA (.int r) (.int (r + 1)) = some (.int (r * (r + 1))) := opMulA_l (by omega) (by omega)
  have dv : ∀ x : Int, opFdivW (.int x) (.int 2) = some (.int (x / 2)) := fun x => div_b (b := 1) (by decide) (by decide) (by decide)
  unfold riseF
  by_cases h : 12 < r * (r + 1) / 2
  · simp -implicitDefEqProofs [f_l_row_b1_ap, m, dv, h]
  · simp -implicitDefEqProofs [f_l_row_b1_ap, m, dv, h]
def riseG : Nat → Int → Int
  | 0, r => r
  | k + 1, r => riseG k (riseF r)
theorem rise_loop (a o4 o5 : Option D) (π : Pot) : ∀ (xs : List D) (r : Int) (o3 : Option D), -100 + xs.length ≤ r → r ≤ 100 → ∃ p3, forGo (gN 3) f_l_row_b1 xs [a, some (.int 12), some (.int r), o3, o4, o5] π = .ok (.nx [a, some (.int 12), some (.int (riseG xs.length r)), p3, o4, o5], π)
  | [], r, o3, _, _ => ⟨o3, rfl⟩
  | x :: xs, r, o3, h1, h2 => by
    simp only [List.length_cons] at h1
    have hb : r - 1 ≤ riseF r ∧ riseF r ≤ r := by unfold riseF; split <;> omega
    obtain ⟨p3, e⟩ := rise_loop a o4 o5 π xs (riseF r) (some x) (by omega) (by omega)
    refine ⟨p3, ?_⟩
    rw [List.length_cons, riseG, ← e, forGo]
    have st := rise_step r a (some x) o4 o5 π (by omega) h2
    have hg : gN 3 x [a, some (.int 12), some (.int r), o3, o4, o5] = some [a, some (.int 12), some (.int r), some x, o4, o5] := rfl
    rw [hg]
    simp only [ofO_some, Res.bind_ok, st]
theorem rise_all (v : Int) (h0 : 0 ≤ v) (h6 : v < 6) (a : Option D) (π : Pot) (o4 o5 : Option D) : ∃ (r : Nat) (p3 : Option D), 1 ≤ r ∧ r ≤ 4 ∧ forGo (gN 3) f_l_row_b1 [.int 0, .int 1, .int 2, .int 3, .int 4, .int 5] [a, some (.int 12), some (.int (1 + v)), none, o4, o5] π = .ok (.nx [a, some (.int 12), some (.int (r : Int)), p3, o4, o5], π) := by
  obtain ⟨p3, e⟩ := rise_loop a o4 o5 π [.int 0, .int 1, .int 2, .int 3, .int 4, .int 5] (1 + v) none (by simp; omega) (by omega)
  have hv : v = 0 ∨ v = 1 ∨ v = 2 ∨ v = 3 ∨ v = 4 ∨ v = 5 := by omega
  have hg : ∃ r : Nat, 1 ≤ r ∧ r ≤ 4 ∧ riseG 6 (1 + v) = (r : Int) := by
    rcases hv with rfl | rfl | rfl | rfl | rfl | rfl
    · exact ⟨1, by decide, by decide, by decide +kernel⟩
    · exact ⟨2, by decide, by decide, by decide +kernel⟩
    · exact ⟨3, by decide, by decide, by decide +kernel⟩
    · exact ⟨4, by decide, by decide, by decide +kernel⟩
    · exact ⟨4, by decide, by decide, by decide +kernel⟩
    · exact ⟨4, by decide, by decide, by decide +kernel⟩
  obtain ⟨r, r1, r4, hr⟩ := hg
  refine ⟨r, p3, r1, r4, ?_⟩
  have e' : [D.int 0, .int 1, .int 2, .int 3, .int 4, .int 5].length = 6 := rfl
  rw [e', hr] at e
  exact e
def riseN (r : Nat) : List Nat := (List.range r).map (· + 1)
theorem row_ex (a : D) (π : Pot) : ∃ ns π', m_l_row [a, .int 12] π = .ok (iL (zn ns), π') ∧ ns ∈ rowsR := by
  obtain ⟨v, π1, e1, v0, v1⟩ := draw_ex (n := 6) (a := .non) π (by decide) (by decide)
  obtain ⟨r, q3, r1, r4, e2⟩ := rise_all v v0 v1 (some a) π1 none none
  have hr : r = 1 ∨ r = 2 ∨ r = 3 ∨ r = 4 := by omega
  have e3 : fRg2 (.int 1) (.int ((r : Int) + 1)) = some (iL (zn (riseN r))) := by
    rcases hr with rfl | rfl | rfl | rfl <;> rfl
  have hn : riseN r ≠ [] ∧ (riseN r).length ≤ 9 ∧ (riseN r).sum ≤ 12 := by
    rcases hr with rfl | rfl | rfl | rfl <;> decide
  have hmem : ∀ ms, ms ∈ goR 7 (riseN r) (riseN r).sum → ms ∈ rowsR := fun ms hm => by
    unfold rowsR
    refine List.mem_flatMap.mpr ⟨riseN r, ?_, hm⟩
    rcases hr with rfl | rfl | rfl | rfl <;> decide
  obtain ⟨w, π2, e4, w0, w1⟩ := draw_ex (n := 8) (a := .non) π1 (by decide) (by decide)
  obtain ⟨k, hk⟩ : ∃ k : Nat, w = (k : Int) := ⟨w.toNat, by omega⟩
  subst hk
  have e5 : rng [.int (k : Int)] = some ((List.range' 0 k).map fun (i : Nat) => .int (i : Int)) := by
    rw [← List.range_eq_range']; exact rngN rfl (by omega)
  obtain ⟨ms, π3, hm, hx⟩ := row_loop (some a) (some (.int (r : Int))) k 7 (riseN r) 0 q3 none π2 (by omega) hn.1 hn.2.1 hn.2.2
  refine ⟨ms, π3, ?_, hmem ms hm⟩
  have r6 : rng [.int 6] = some [.int 0, .int 1, .int 2, .int 3, .int 4, .int 5] := rfl
  obtain ⟨L, hL⟩ : ∃ L, L = iL (zn (riseN r)) := ⟨_, rfl⟩
  obtain ⟨M, hM⟩ : ∃ L, L = iL (zn ms) := ⟨_, rfl⟩
  obtain ⟨R, hR⟩ : ∃ L, L = (List.range' 0 k).map fun (i : Nat) => D.int (i : Int) := ⟨_, rfl⟩
  rw [← hL] at e3 hx
  rw [← hR] at e5 hx
  rw [← hM] at hx ⊢
  unfold m_l_row f_l_row
  rcases hx with ⟨p3, p5, hx⟩ | hx
  · simp -implicitDefEqProofs [e1, r6, e2, e3, e4, e5, hx]
  · simp -implicitDefEqProofs [e1, r6, e2, e3, e4, e5, hx]
end LW

set_option maxHeartbeats 4000000
namespace LW
open PySem PySem.Spec PyProof.Rows L2 DL RK
structure Fine (ns : List Nat) : Prop where
  ne : ns ≠ []
  le : ns.length ≤ 9
  sum : ns.sum = (stP ns).length
  last : ∀ d, d + 1 < ns.length → (ns.take (d + 1)).sum ≠ (stP ns).length
  le12 : (stP ns).length ≤ 12
  told : (stP ns).map told = stP ns
  pts : ∀ p ∈ stP ns, p.2.2 = 1 ∧ p.1.natAbs ≤ 2 ^ 3 ∧ p.2.1.natAbs ≤ 2 ^ 3 ∧ (p.1 ≤ 0 ∨ (p.1 - 1, p.2.1, 1) ∈ stP ns) ∧ (p.2.1 ≤ 0 ∨ (p.1, p.2.1 - 1, 1) ∈ stP ns)
  top9 : topN ns ≤ 9
  top1 : (if topN ns < ns.length then (ns.take (topN ns + 1)).sum else ns.sum) < (trs (topN ns)).length
  top2 : ∀ d, d < topN ns → d < ns.length ∧ (ns.take (d + 1)).sum = (trs d).length
  small : ∀ n ∈ ns, n ≤ 12
theorem fine_of {ns : List Nat} (h : ns ∈ rowsR) : Fine ns := by
  have := List.all_eq_true.mp fine1 ns h
  unfold fineB at this
  simp only [Bool.and_eq_true, Bool.or_eq_true, decide_eq_true_eq, List.all_eq_true, List.mem_range] at this
  obtain ⟨⟨⟨⟨⟨⟨⟨⟨⟨⟨⟨h1, h2⟩, h3⟩, h4⟩, h5⟩, h6⟩, h7⟩, h8⟩, h9⟩, h10⟩, h11⟩, h12⟩ := this
  refine ⟨h1, h2, h3, fun d hd => h4 d (by omega) hd, h5, h6, fun p hp => ?_, h9, h10, h11, h12⟩
  obtain ⟨⟨⟨⟨a, b⟩, c⟩, d⟩, e⟩ := h8 p hp
  exact ⟨a, b, c, d, e⟩
theorem fine_nz {ns : List Nat} (F : Fine ns) : ∀ p ∈ stP ns, nz p := fun p hp => by
  have := (F.pts p hp).1
  exact .inr (.inr (by omega))
theorem fine_bd {ns : List Nat} (F : Fine ns) : ∀ p ∈ stP ns, Bd (2 ^ 3) (lp p) := fun p hp => by
  obtain ⟨h1, h2, h3, -⟩ := F.pts p hp
  exact bd3.mpr ⟨h2, h3, by rw [h1]; decide⟩
/-- points whose conditions are those of the stair -/
structure Like (ns : List Nat) (ps : List Pt) : Prop where
  len : ps.length = (stP ns).length
  bd : ∀ p ∈ ps, Bd (2 ^ 6) (lp p)
  same : ∀ d, hh d ps = hh d (stP ns)
theorem Like.few {ns : List Nat} {ps : List Pt} (F : Fine ns) (L : Like ns ps) : Few ps := ⟨by rw [L.len]; exact F.le12, L.bd⟩
theorem Like.row {ns : List Nat} {ps : List Pt} (hr : ns ∈ rowsR) (F : Fine ns) (L : Like ns ps) : RowIs ps ns :=
  ⟨F.ne, F.le, fun d hd => by rw [L.same, hh_stair hr hd], by rw [L.len]; exact F.sum, fun d hd => by rw [L.len]; exact F.last d hd⟩
theorem Like.top {ns : List Nat} {ps : List Pt} (hr : ns ∈ rowsR) (F : Fine ns) (L : Like ns ps) (π : Pot) : m_p_top [spD ps] π = .ok (.int (topN ns : Int), π) := by
  refine top_eq (L.few F) F.top9 ?_ (fun d hd => ?_) π
  · have h1 := F.top1
    rw [L.same]
    by_cases h : topN ns < ns.length
    · rw [if_pos h] at h1
      rwa [hh_stair hr h]
    · rw [if_neg h] at h1
      have := hh_le_length (stP ns) (topN ns)
      have := F.sum
      omega
  · obtain ⟨h1, h2⟩ := F.top2 d hd
    rw [L.same, hh_stair hr h1, h2]
theorem like_self {ns : List Nat} (F : Fine ns) : Like ns (stP ns) := ⟨rfl, fun p hp => (fine_bd F p hp).le (by decide), fun _ => rfl⟩
theorem like_led {ns : List Nat} (F : Fine ns) {t : Tb} (hd : det t ≠ 0) (ht : Bd (2 ^ 1) (l9 t)) : Like ns (ledL t (stP ns)) := by
  refine ⟨by simp [ledL], fun p hp => ?_, fun d => hh_led hd (det_inj hd) d (fine_nz F)⟩
  obtain ⟨q, hq, rfl⟩ := List.mem_map.mp hp
  exact told_bd (tap_bd ht (fine_bd F q hq))
theorem cmp_pts (ps : List Pt) : cmpOk (.tup (ps.map pD)) = true ∧ cmpOk (.lst (ps.map pD)) = true := by
  have h1 : plainL (ps.map pD) = true := by
    induction ps with
    | nil => rfl
    | cons p ps ih => simp only [List.map_cons, plainL, ih, Bool.and_true]; rfl
  have h2 : deepL (ps.map pD) ≤ 1 := by
    induction ps with
    | nil => exact Nat.zero_le _
    | cons p ps ih =>
      simp only [plainL, List.map_cons, Bool.and_eq_true] at h1
      simp only [List.map_cons, deepL]
      have := ih h1.2
      have : deepD (pD p) = 1 := rfl
      omega
  have h3 : deepL (ps.map pD) + 1 ≤ 64 := by omega
  constructor
  · show (plainL (ps.map pD) && decide (deepL (ps.map pD) + 1 ≤ 64)) = true
    simp [h1, h3]
  · show (plainL (ps.map pD) && decide (deepL (ps.map pD) + 1 ≤ 64)) = true
    simp [h1, h3]
theorem spots_self (ps : List Pt) (π : Pot) : m_c_Spots___eq__ [spD ps, spD ps] π = .ok (.bl true, π) := by
  have e3 := own_eq ps
  have e1 : fIsC "Spots" ["Spots", "Told"] (spD ps) = some (.bl true) := by rfl
  have e2 := opEq_refl (cmp_pts ps).1
  obtain ⟨S, hS⟩ : ∃ S, S = spD ps := ⟨_, rfl⟩
  obtain ⟨T, hT⟩ : ∃ S, S = D.tup (ps.map pD) := ⟨_, rfl⟩
  rw [← hT] at e2 e3
  rw [← hS] at e1 e3 ⊢
  unfold m_c_Spots___eq__ f_c_Spots___eq__
  simp -implicitDefEqProofs [e1, e2, e3]
theorem passed2_ex {a : D} (l : List Int) (π : Pot) : ∃ d π', m_l_passed [a, iL l] π = .ok (d, π') ∧ (d = iL l ∨ d = iT l) := by
  obtain ⟨v, π1, e1, v0, v1⟩ := draw_ex (n := 2) (a := .non) π (by decide) (by decide)
  have f1 : fTuple [iL l] = some (iT l) := rfl
  have f2 : fList [iL l] = some (iL l) := rfl
  by_cases h : v = 0
  · refine ⟨iT l, π1, ?_, .inr rfl⟩
    obtain ⟨P, hP⟩ : ∃ P, P = iT l := ⟨_, rfl⟩
    obtain ⟨L, hL⟩ : ∃ P, P = iL l := ⟨_, rfl⟩
    rw [← hP, ← hL] at f1
    rw [← hP, ← hL]
    unfold m_l_passed f_l_passed
    simp -implicitDefEqProofs [e1, h, f1]
  · refine ⟨iL l, π1, ?_, .inl rfl⟩
    obtain ⟨L, hL⟩ : ∃ P, P = iL l := ⟨_, rfl⟩
    rw [← hL] at f2 ⊢
    unfold m_l_passed f_l_passed
    simp -implicitDefEqProofs [e1, h, f2]
theorem notin_pts (p : Pt) (ps : List Pt) (h : p ∈ ps) : opNotInA (pD p) (.lst (ps.map pD)) = some (.bl false) := by
  have := in_pts p ps
  unfold opNotInA
  simp [this, h]
theorem below_loop {ns : List Nat} (F : Fine ns) (o0 o1 o2 o3 o4 o9 o10 o11 o12 : Option D) (π : Pot) : ∀ (ps : List Pt) (o6 o7 o8 : Option D), (∀ p ∈ ps, p ∈ stP ns) →
    ∃ p6 p7 p8, forGo (gT 3 (gsCons (gN 6) (gsCons (gN 7) (gsCons (gN 8) gsNil)))) f_l_right_b1 (ps.map pD) [o0, o1, o2, o3, o4, some (.lst ((stP ns).map pD)), o6, o7, o8, o9, o10, o11, o12] π =
      .ok (.nx [o0, o1, o2, o3, o4, some (.lst ((stP ns).map pD)), p6, p7, p8, o9, o10, o11, o12], π)
  | [], o6, o7, o8, _ => ⟨o6, o7, o8, rfl⟩
  | p :: ps, o6, o7, o8, h => by
    obtain ⟨p6, p7, p8, e⟩ := below_loop F o0 o1 o2 o3 o4 o9 o10 o11 o12 π ps (some (.int p.1)) (some (.int p.2.1)) (some (.int p.2.2)) fun q hq => h q (by simp [hq])
    refine ⟨p6, p7, p8, ?_⟩
    obtain ⟨h1, -, -, h4, h5⟩ := F.pts p (h p (by simp))
    rw [← e, List.map_cons, forGo, pD_is]
    have n1 : ¬ p.1 ≤ 0 → opNotInA (.tup [.int (p.1 - 1), .int p.2.1, .int 1]) (.lst ((stP ns).map pD)) = some (.bl false) := fun hn => notin_pts (p.1 - 1, p.2.1, 1) _ (h4.resolve_left hn)
    have n2 : ¬ p.2.1 ≤ 0 → opNotInA (.tup [.int p.1, .int (p.2.1 - 1), .int 1]) (.lst ((stP ns).map pD)) = some (.bl false) := fun hn => notin_pts (p.1, p.2.1 - 1, 1) _ (h5.resolve_left hn)
    obtain ⟨L, hL⟩ : ∃ L, L = D.lst ((stP ns).map pD) := ⟨_, rfl⟩
    rw [← hL] at n1 n2 ⊢
    by_cases c1 : p.1 ≤ 0
    · have d1 : ¬ 0 < p.1 := by omega
      by_cases c2 : p.2.1 ≤ 0
      · have d2 : ¬ 0 < p.2.1 := by omega
        simp -implicitDefEqProofs [f_l_right_b1_ap, d1, d2]
      · have d2 : 0 < p.2.1 := by omega
        simp -implicitDefEqProofs [f_l_right_b1_ap, d1, d2, n2 c2]
    · have d1 : 0 < p.1 := by omega
      by_cases c2 : p.2.1 ≤ 0
      · have d2 : ¬ 0 < p.2.1 := by omega
        simp -implicitDefEqProofs [f_l_right_b1_ap, d1, d2, n1 c1]
      · have d2 : 0 < p.2.1 := by omega
        simp -implicitDefEqProofs [f_l_right_b1_ap, d1, d2, n1 c1, n2 c2]
abbrev k3 : List Tb := [((1, 0, 0), (0, 1, 0), (0, 0, 1)), ((0, 1, 1), (1, 0, 1), (0, 0, 1)), ((1, 1, 0), (0, 1, 2), (1, 0, 1))]
theorem k3_ok : ∀ t ∈ k3, det t ≠ 0 ∧ Bd (2 ^ 1) (l9 t) := by
  have h : k3.all (fun t => decide (det t ≠ 0) && (l9 t).all fun x => decide (x.natAbs ≤ 2 ^ 1)) = true := by decide +kernel
  intro t ht
  have := List.all_eq_true.mp h t ht
  simp only [Bool.and_eq_true, decide_eq_true_eq, List.all_eq_true] at this
  exact this
theorem row_turn {ns : List Nat} (hr : ns ∈ rowsR) (F : Fine ns) {ps : List Pt} (L : Like ns ps) (o0 o2 o3 o4 o5 o6 o7 o8 o9 o10 o11 o12 : Option D) (π : Pot) :
    f_l_right_b2 [o0, some (iL (zn ns)), o2, o3, o4, o5, o6, o7, o8, o9, some (spD ps), o11, o12] π = .ok (.nx [o0, some (iL (zn ns)), o2, o3, o4, o5, o6, o7, o8, o9, some (spD ps), o11, some (iL (zn ns))], π) := by
  have e1 := row_eq (L.few F) (L.row hr F) π
  have e2 := isrow_eq hr π
  have e3 := L.top hr F π
  have e4 := ltop_eq hr π
  have e5 : opNe (iL (zn ns)) (iL (zn ns)) = some (.bl false) := opNe_refl (cmpOk_iz _)
  have e6 : opNotB (.bl true) (.bl true) = some (.bl false) := rfl
  obtain ⟨S, hS⟩ : ∃ S, S = spD ps := ⟨_, rfl⟩
  obtain ⟨N, hN⟩ : ∃ S, S = iL (zn ns) := ⟨_, rfl⟩
  rw [← hS] at e1 e3 ⊢
  rw [← hN] at e1 e2 e4 e5 ⊢
  simp -implicitDefEqProofs [f_l_right_b2_ap, e1, e2, e3, e4, e5, e6]
theorem right_eq (a : D) (π : Pot) : ∃ π', m_l_right [a] π = .ok (.bl true, π') := by
  obtain ⟨ns, π1, e1, hr⟩ := row_ex .non π
  have F := fine_of hr
  obtain ⟨d, π2, e2, hd⟩ := passed2_ex (a := .non) (zn ns) π1
  have hsm : shOk d = true := by
    have := sh_ints (ns := zn ns) (fun n hn => by
      obtain ⟨m, hm, rfl⟩ := List.mem_map.mp hn
      have := F.small m hm
      omega) (by simp [zn]; have := F.le; omega)
    rcases hd with rfl | rfl
    · exact this.1
    · exact this.2
  obtain ⟨q, -, e3⟩ := repr_val hsm
  have e4 := fun π => stair_eq hr hd π
  have e5 := fun π => points_eq hr π
  have i1 : fIsC "Spots" ["Spots", "Told"] (spD (stP ns)) = some (.bl true) := by rfl
  have own := own_eq (stP ns)
  have f1 : fList [.tup ((stP ns).map pD)] = some (.lst ((stP ns).map pD)) := rfl
  have n1 : opNe (.lst ((stP ns).map pD)) (.lst ((stP ns).map pD)) = some (.bl false) := opNe_refl (cmp_pts _).2
  have f2 : fLen [.tup ((stP ns).map pD)] = some (.int (ns.sum : Nat)) := by rw [len_tup, List.length_map, ← F.sum]
  have f3 : fSum [iL (zn ns)] = some (.int (ns.sum : Nat)) := by rw [iL, fSum_iz, zn_sum]
  have f4 : fLen [iL (zn ns)] = some (.int (ns.length : Nat)) := by rw [iL, len_lst']; simp [zn]
  have g1 : ∀ π, m_c_Spots_points [spD (stP ns)] π = .ok (.lst ((stP ns).map pD), π) := fun π => by
    obtain ⟨S, hS⟩ : ∃ S, S = spD (stP ns) := ⟨_, rfl⟩
    obtain ⟨T, hT⟩ : ∃ S, S = D.tup ((stP ns).map pD) := ⟨_, rfl⟩
    obtain ⟨P, hP⟩ : ∃ S, S = D.lst ((stP ns).map pD) := ⟨_, rfl⟩
    rw [← hS, ← hT] at own
    rw [← hT, ← hP] at f1
    rw [← hS, ← hP]
    unfold m_c_Spots_points f_c_Spots_points
    simp -implicitDefEqProofs [own, f1]
  have g2 : ∀ π, m_c_Spots_size [spD (stP ns)] π = .ok (.int (ns.sum : Nat), π) := fun π => by
    obtain ⟨S, hS⟩ : ∃ S, S = spD (stP ns) := ⟨_, rfl⟩
    obtain ⟨T, hT⟩ : ∃ S, S = D.tup ((stP ns).map pD) := ⟨_, rfl⟩
    rw [← hS, ← hT] at own
    rw [← hT] at f2
    rw [← hS]
    unfold m_c_Spots_size f_c_Spots_size
    simp -implicitDefEqProofs [own, f2]
  have h1 : hasN "points" "Spots" (spD (stP ns)) = true := by rfl
  have h2 : isCls "Spots" (spD (stP ns)) = true := by rfl
  have c1 : ∀ π, cmpO true opNe [("Spots", m_c_Spots___eq__)] (spD (stP ns)) (spD (stP ns)) π = .ok (.bl false, π) := fun π =>
    cmpO_ins (neg := true) (by rfl) (by rfl) (spots_self (stP ns) π)
  obtain ⟨p6, p7, p8, lo⟩ := below_loop F (some a) (some (iL (zn ns))) (some d) (some (.str q.shown)) (some (spD (stP ns))) none none none none π2 (stP ns) none none none fun p hp => hp
  obtain ⟨dk, π3, e6, hk⟩ := pick_ex (a := .non) (xs := k3.map tT) π2 (by simp) (by simp)
  obtain ⟨t, ht, rfl⟩ := List.mem_map.mp hk
  obtain ⟨dt, bt⟩ := k3_ok t ht
  have e7 := fun π => moved_eq (ps := stP ns) (.tT t) dt bt (by decide) (fine_bd F) (by decide) (by have := F.le12; omega) π
  have L1 := like_self F
  have L2 := like_led F dt bt
  have t1 := fun o12 o10 => row_turn hr F L1 (some a) (some d) (some (.str q.shown)) (some (spD (stP ns))) (some (.lst ((stP ns).map pD))) p6 p7 p8 (some (tT t)) o10 none o12 π3
  have t2 := fun o12 o10 => row_turn hr F L2 (some a) (some d) (some (.str q.shown)) (some (spD (stP ns))) (some (.lst ((stP ns).map pD))) p6 p7 p8 (some (tT t)) o10 none o12 π3
  have npos : 0 < ns.length := List.length_pos_iff.mpr F.ne
  have nle := F.le
  obtain ⟨v, π4, e8, v0, v1⟩ := draw_ex (n := (ns.length : Int)) (a := .non) π3 (by omega) (by omega)
  obtain ⟨w, hw⟩ : ∃ w : Nat, v = (w : Int) := ⟨v.toNat, by omega⟩
  subst hw
  have e9 := end_eq (L1.few F) (L1.row hr F) π4
  have ea := conditions_eq (L1.few F) (d := w) (by omega) π4
  rw [hh_stair hr (by omega)] at ea
  have eb : fCut (iL (zn ns)) none (some ((w : Int) + 1)) = some (iL (zn (ns.take (w + 1)))) := by
    rw [iL, fCut_to (by omega)]
    have : ((w : Int) + 1).toNat = w + 1 := by omega
    rw [this, iL, zn, zn, List.map_take, List.map_take]
  have ec : fSum [iL (zn (ns.take (w + 1)))] = some (.int ((ns.take (w + 1)).sum : Nat)) := by rw [iL, fSum_iz, zn_sum]
  have hk3 : k3.map tT = [.tup [.tup [.int 1, .int 0, .int 0], .tup [.int 0, .int 1, .int 0], .tup [.int 0, .int 0, .int 1]], .tup [.tup [.int 0, .int 1, .int 1], .tup [.int 1, .int 0, .int 1], .tup [.int 0, .int 0, .int 1]],
    .tup [.tup [.int 1, .int 1, .int 0], .tup [.int 0, .int 1, .int 2], .tup [.int 1, .int 0, .int 1]]] := rfl
  rw [hk3] at e6
  have es : opEq (.str q.shown) (.str q.shown) = some (.bl true) := by simp [opEq, eqD]
  refine ⟨π4, ?_⟩
  obtain ⟨N, hN⟩ : ∃ S, S = iL (zn ns) := ⟨_, rfl⟩
  obtain ⟨S, hS⟩ : ∃ S, S = spD (stP ns) := ⟨_, rfl⟩
  obtain ⟨P, hP⟩ : ∃ S, S = (stP ns).map pD := ⟨_, rfl⟩
  obtain ⟨T, hT⟩ : ∃ S, S = tT t := ⟨_, rfl⟩
  obtain ⟨Q, hQ⟩ : ∃ S, S = spD (ledL t (stP ns)) := ⟨_, rfl⟩
  obtain ⟨C, hC⟩ : ∃ S, S = iL (zn (ns.take (w + 1))) := ⟨_, rfl⟩
  obtain ⟨Z, hZ⟩ : ∃ S : Int, S = (ns.sum : Nat) := ⟨_, rfl⟩
  obtain ⟨Y, hY⟩ : ∃ S : Int, S = ((ns.take (w + 1)).sum : Nat) := ⟨_, rfl⟩
  rw [← hN] at e1 e2 e5 f3 f4 lo eb
  rw [← hS] at e4 i1 g1 g2 h1 h2 c1 lo e7 e9 ea
  rw [← hP] at e5 n1 g1 lo
  rw [← hT] at e6 e7
  rw [← hQ] at e7
  rw [← hC] at eb ec
  rw [← hZ] at g2 f3
  rw [← hY] at ea ec
  have t1' : ∀ (o12 o10 : Option D), f_l_right_b2 [some a, some N, some d, some (.str q.shown), some S, some (.lst P), p6, p7, p8, some T, some S, none, o12] π3 = .ok (.nx [some a, some N, some d, some (.str q.shown), some S, some (.lst P), p6, p7, p8, some T, some S, none, some N], π3) := by
    rw [hN, hS, hP, hT]; exact t1
  have t2' : ∀ (o12 o10 : Option D), f_l_right_b2 [some a, some N, some d, some (.str q.shown), some S, some (.lst P), p6, p7, p8, some T, some Q, none, o12] π3 = .ok (.nx [some a, some N, some d, some (.str q.shown), some S, some (.lst P), p6, p7, p8, some T, some Q, none, some N], π3) := by
    rw [hN, hS, hP, hT, hQ]; exact t2
  have sP : seqOf (.lst P) = some P := rfl
  have last : f_l_right_r1 [some a, some N, some d, some (.str q.shown), some S, some (.lst P), p6, p7, p8, some T, some Q, some (.int (w : Int)), some N] π4 = .ok (.rt (.bl true), π4) := by
    simp -implicitDefEqProofs [-fLen_lst, f_l_right_r1_ap, e9, f4, ea, eb, ec, e3, es]
  unfold m_l_right f_l_right
  simp -implicitDefEqProofs [-fLen_lst, e1, e2, e3, e4, e5, i1, eMeth, ePrp, h1, h2, g1, n1, g2, f3, c1, lo, e6, e7, forGo, t1' none none, t2' (some N) none, f4, e8, last]
theorem good : ∀ ns : List Int, ns.length ≤ 63 → ∃ π, m_law_ [.lst (DL.iz ns)] (0, 0) = .ok (.bl true, π) := good_of fun π => right_eq .non π
end LW

-- THE END
open PySem PySem.W PyProof.Rows
set_option maxRecDepth 100000 in
set_option maxHeartbeats 0 in
theorem PySem.Challenge.cw_pointrows_k52_whole_stairs_have_their_ro_holds : PySem.Challenge.rw_pointrows_k52_whole_stairs_have_their_ro.Holds := by
  w_on; o_law; k_head; (case hw => w_witness2)
  k_fill
  refine DL.walk_D (l := PySem.Challenge.rw_pointrows_k52_whole_stairs_have_their_ro) (m := LW.m_law_) (k := 11) (x := "_law_script") rfl (by decide) rfl ⟨rfl, by decide, by decide⟩ (fun w h Y => PySem.W.kIn_of Y) LW.good ?F
  case F =>
    intro w mg fa h KX G hmg
    refine DL.law_end (T := LW.Top _ mg) hmg ?T (fun T => T.f_law_) (fun T _ => LW.d_law_ T) rfl (fun kV doc pm an cdv ct s u => .of_eq (LW.b_law_ kV doc pm an cdv ct [u] rfl))
    refine' LW.top_mk KX G ?oN ?oT ?aC_Spots ?pg_Spots ?hd_Spots ?po_Spots ?sa_Spots ?mk_Spots ?kc_Spots ?ha_Spots ?hm_Spots ?aC_Told ?pg_Told ?hd_Told ?po_Told ?sa_Told ?mk_Told ?kc_Told ?ha_Told ?hm_Told ?nf_Spots_own_points ?nf_Told_told_points ?ic_Spots ?ty_Spots ?kt_Spots_NoneType ?kt_Spots_bool ?kt_Spots_int ?kt_Spots_str ?kt_Spots_list ?kt_Spots_tuple ?kt_Spots_dict ?ne_Spots_Told ?ks_Spots_Told ?ic_Told ?ty_Told ?kt_Told_NoneType ?kt_Told_bool ?kt_Told_int ?kt_Told_str ?kt_Told_list ?kt_Told_tuple ?kt_Told_dict ?ne_Told_Spots ?ks_Told_Spots ?en_Spots ?eo_Spots ?st_Spots_NoneType ?st_Spots_bool ?st_Spots_int ?st_Spots_str ?st_Spots_list ?st_Spots_tuple ?st_Spots_dict ?st_Told_NoneType ?st_Told_bool ?st_Told_int ?st_Told_str ?st_Told_list ?st_Told_tuple ?st_Told_dict ?hg_gcd ?a0 ?l0 ?c0 ?k0 ?a1 ?l1 ?c1 ?k1 ?a2 ?l2 ?c2 ?k2 ?a3 ?l3 ?c3 ?k3 ?a4 ?i4 ?l4 ?c4 ?k4 ?a5 ?l5 ?c5 ?k5 ?a6 ?l6 ?c6 ?k6 ?a7 ?l7 ?c7 ?k7 ?a8 ?l8 ?c8 ?k8 ?a9 ?l9 ?c9 ?k9 ?a10 ?l10 ?c10 ?k10 ?a11 ?l11 ?c11 ?k11 ?a12 ?l12 ?c12 ?k12 ?a13 ?l13 ?c13 ?k13 ?a14 ?l14 ?c14 ?k14 ?a15 ?i15 ?l15 ?c15 ?k15 ?a16 ?l16 ?c16 ?k16 ?a17 ?l17 ?c17 ?k17 ?a18 ?l18 ?c18 ?k18 ?a19 ?l19 ?c19 ?k19 ?a20 ?l20 ?c20 ?k20 ?a21 ?l21 ?c21 ?k21 ?a22 ?l22 ?c22 ?k22 ?a23 ?l23 ?c23 ?k23 ?a24 ?i24 ?l24 ?c24 ?k24 ?a25 ?pa25 ?pb25 ?pc25 ?l25 ?c25 ?k25 ?a26 ?l26 ?c26 ?k26 ?a27 ?l27 ?c27 ?k27 ?a28 ?l28 ?c28 ?k28 ?a29 ?l29 ?c29 ?k29 ?a30 ?l30 ?c30 ?k30 ?a31 ?l31 ?c31 ?k31 ?a32 ?l32 ?c32 ?k32 ?a33 ?i33 ?l33 ?c33 ?k33 ?a34 ?l34 ?c34 ?k34 ?a35 ?l35 ?c35 ?k35 ?a36 ?l36 ?c36 ?k36 ?a37 ?l37 ?c37 ?k37 ?a38 ?l38 ?c38 ?k38 ?a39 ?l39 ?c39 ?k39 ?a40 ?l40 ?c40 ?k40 ?a41 ?l41 ?c41 ?k41 ?a42 ?l42 ?c42 ?k42 ?a43 ?l43 ?c43 ?k43 ?a44 ?l44 ?c44 ?k44 ?a45 ?l45 ?c45 ?k45 ?a46 ?l46 ?c46 ?k46 ?t46 ?a47 ?l47 ?c47 ?k47 ?a48 ?l48 ?c48 ?k48 ?a49 ?l49 ?c49 ?k49 ?a50 ?l50 ?c50 ?k50 ?a51 ?l51 ?c51 ?k51 ?a52 ?l52 ?c52 ?k52 ?a53 ?l53 ?c53 ?k53 ?a54 ?l54 ?c54 ?k54 ?a55 ?l55 ?c55 ?k55 ?hb_abs ?hb_all ?hb_any ?hb_bool ?hb_divmod ?hb_enumerate ?hb_int ?hb_isinstance ?hb_len ?hb_list ?hb_max ?hb_min ?hb_range ?hb_repr ?hb_sorted ?hb_sum ?hb_tuple ?hb_zip ?hc_MOST_DEGREE ?hc_MOST_END ?hc_MOST_PLACES ?hc_MOST_POINTS ?hc_MOST_SUM
    (case oN => k_is)
    (case oT => k_is)
    (case aC_Spots => k_is)
    (case pg_Spots => k_is)
    (case hd_Spots => k_is)
    (case po_Spots => k_is)
    (case sa_Spots => k_is)
    (case mk_Spots => k_is)
    (case kc_Spots => k_is)
    (case ha_Spots => k_is)
    (case hm_Spots => k_is)
    (case aC_Told => k_is)
    (case pg_Told => k_is)
    (case hd_Told => k_is)
    (case po_Told => k_is)
    (case sa_Told => k_is)
    (case mk_Told => k_is)
    (case kc_Told => k_is)
    (case ha_Told => k_is)
    (case hm_Told => k_is)
    (case nf_Spots_own_points => k_is)
    (case nf_Told_told_points => k_is)
    (case ic_Spots => k_is)
    (case ty_Spots => k_is)
    (case kt_Spots_NoneType => k_is)
    (case kt_Spots_bool => k_is)
    (case kt_Spots_int => k_is)
    (case kt_Spots_str => k_is)
    (case kt_Spots_list => k_is)
    (case kt_Spots_tuple => k_is)
    (case kt_Spots_dict => k_is)
    (case ne_Spots_Told => decide)
    (case ks_Spots_Told => k_is)
    (case ic_Told => k_is)
    (case ty_Told => k_is)
    (case kt_Told_NoneType => k_is)
    (case kt_Told_bool => k_is)
    (case kt_Told_int => k_is)
    (case kt_Told_str => k_is)
    (case kt_Told_list => k_is)
    (case kt_Told_tuple => k_is)
    (case kt_Told_dict => k_is)
    (case ne_Told_Spots => decide)
    (case ks_Told_Spots => k_is)
    (case en_Spots => k_is)
    (case eo_Spots => k_is)
    (case st_Spots_NoneType => k_is)
    (case st_Spots_bool => k_is)
    (case st_Spots_int => k_is)
    (case st_Spots_str => k_is)
    (case st_Spots_list => k_is)
    (case st_Spots_tuple => k_is)
    (case st_Spots_dict => k_is)
    (case st_Told_NoneType => k_is)
    (case st_Told_bool => k_is)
    (case st_Told_int => k_is)
    (case st_Told_str => k_is)
    (case st_Told_list => k_is)
    (case st_Told_tuple => k_is)
    (case st_Told_dict => k_is)
    (case hg_gcd => k_is)
    (case a0 => k_is)
    (case l0 => k_is)
    (case c0 => k_is)
    (case k0 => k_is)
    (case a1 => k_is)
    (case l1 => k_is)
    (case c1 => k_is)
    (case k1 => k_is)
    (case a2 => k_is)
    (case l2 => k_is)
    (case c2 => k_is)
    (case k2 => k_is)
    (case a3 => k_is)
    (case l3 => k_is)
    (case c3 => k_is)
    (case k3 => k_is)
    (case a4 => k_is)
    (case i4 => k_is)
    (case l4 => k_is)
    (case c4 => k_is)
    (case k4 => k_is)
    (case a5 => k_is)
    (case l5 => k_is)
    (case c5 => k_is)
    (case k5 => k_is)
    (case a6 => k_is)
    (case l6 => k_is)
    (case c6 => k_is)
    (case k6 => k_is)
    (case a7 => k_is)
    (case l7 => k_is)
    (case c7 => k_is)
    (case k7 => k_is)
    (case a8 => k_is)
    (case l8 => k_is)
    (case c8 => k_is)
    (case k8 => k_is)
    (case a9 => k_is)
    (case l9 => k_is)
    (case c9 => k_is)
    (case k9 => k_is)
    (case a10 => k_is)
    (case l10 => k_is)
    (case c10 => k_is)
    (case k10 => k_is)
    (case a11 => k_is)
    (case l11 => k_is)
    (case c11 => k_is)
    (case k11 => k_is)
    (case a12 => k_is)
    (case l12 => k_is)
    (case c12 => k_is)
    (case k12 => k_is)
    (case a13 => k_is)
    (case l13 => k_is)
    (case c13 => k_is)
    (case k13 => k_is)
    (case a14 => k_is)
    (case l14 => k_is)
    (case c14 => k_is)
    (case k14 => k_is)
    (case a15 => k_is)
    (case i15 => k_is)
    (case l15 => k_is)
    (case c15 => k_is)
    (case k15 => k_is)
    (case a16 => k_is)
    (case l16 => k_is)
    (case c16 => k_is)
    (case k16 => k_is)
    (case a17 => k_is)
    (case l17 => k_is)
    (case c17 => k_is)
    (case k17 => k_is)
    (case a18 => k_is)
    (case l18 => k_is)
    (case c18 => k_is)
    (case k18 => k_is)
    (case a19 => k_is)
    (case l19 => k_is)
    (case c19 => k_is)
    (case k19 => k_is)
    (case a20 => k_is)
    (case l20 => k_is)
    (case c20 => k_is)
    (case k20 => k_is)
    (case a21 => k_is)
    (case l21 => k_is)
    (case c21 => k_is)
    (case k21 => k_is)
    (case a22 => k_is)
    (case l22 => k_is)
    (case c22 => k_is)
    (case k22 => k_is)
    (case a23 => k_is)
    (case l23 => k_is)
    (case c23 => k_is)
    (case k23 => k_is)
    (case a24 => k_is)
    (case i24 => k_is)
    (case l24 => k_is)
    (case c24 => k_is)
    (case k24 => k_is)
    (case a25 => k_is)
    (case pa25 => k_is)
    (case pb25 => k_is)
    (case pc25 => k_is)
    (case l25 => k_is)
    (case c25 => k_is)
    (case k25 => k_is)
    (case a26 => k_is)
    (case l26 => k_is)
    (case c26 => k_is)
    (case k26 => k_is)
    (case a27 => k_is)
    (case l27 => k_is)
    (case c27 => k_is)
    (case k27 => k_is)
    (case a28 => k_is)
    (case l28 => k_is)
    (case c28 => k_is)
    (case k28 => k_is)
    (case a29 => k_is)
    (case l29 => k_is)
    (case c29 => k_is)
    (case k29 => k_is)
    (case a30 => k_is)
    (case l30 => k_is)
    (case c30 => k_is)
    (case k30 => k_is)
    (case a31 => k_is)
    (case l31 => k_is)
    (case c31 => k_is)
    (case k31 => k_is)
    (case a32 => k_is)
    (case l32 => k_is)
    (case c32 => k_is)
    (case k32 => k_is)
    (case a33 => k_is)
    (case i33 => k_is)
    (case l33 => k_is)
    (case c33 => k_is)
    (case k33 => k_is)
    (case a34 => k_is)
    (case l34 => k_is)
    (case c34 => k_is)
    (case k34 => k_is)
    (case a35 => k_is)
    (case l35 => k_is)
    (case c35 => k_is)
    (case k35 => k_is)
    (case a36 => k_is)
    (case l36 => k_is)
    (case c36 => k_is)
    (case k36 => k_is)
    (case a37 => k_is)
    (case l37 => k_is)
    (case c37 => k_is)
    (case k37 => k_is)
    (case a38 => k_is)
    (case l38 => k_is)
    (case c38 => k_is)
    (case k38 => k_is)
    (case a39 => k_is)
    (case l39 => k_is)
    (case c39 => k_is)
    (case k39 => k_is)
    (case a40 => k_is)
    (case l40 => k_is)
    (case c40 => k_is)
    (case k40 => k_is)
    (case a41 => k_is)
    (case l41 => k_is)
    (case c41 => k_is)
    (case k41 => k_is)
    (case a42 => k_is)
    (case l42 => k_is)
    (case c42 => k_is)
    (case k42 => k_is)
    (case a43 => k_is)
    (case l43 => k_is)
    (case c43 => k_is)
    (case k43 => k_is)
    (case a44 => k_is)
    (case l44 => k_is)
    (case c44 => k_is)
    (case k44 => k_is)
    (case a45 => k_is)
    (case l45 => k_is)
    (case c45 => k_is)
    (case k45 => k_is)
    (case a46 => k_is)
    (case l46 => k_is)
    (case c46 => k_is)
    (case k46 => k_is)
    (case t46 => k_is)
    (case a47 => k_is)
    (case l47 => k_is)
    (case c47 => k_is)
    (case k47 => k_is)
    (case a48 => k_is)
    (case l48 => k_is)
    (case c48 => k_is)
    (case k48 => k_is)
    (case a49 => k_is)
    (case l49 => k_is)
    (case c49 => k_is)
    (case k49 => k_is)
    (case a50 => k_is)
    (case l50 => k_is)
    (case c50 => k_is)
    (case k50 => k_is)
    (case a51 => k_is)
    (case l51 => k_is)
    (case c51 => k_is)
    (case k51 => k_is)
    (case a52 => k_is)
    (case l52 => k_is)
    (case c52 => k_is)
    (case k52 => k_is)
    (case a53 => k_is)
    (case l53 => k_is)
    (case c53 => k_is)
    (case k53 => k_is)
    (case a54 => k_is)
    (case l54 => k_is)
    (case c54 => k_is)
    (case k54 => k_is)
    (case a55 => k_is)
    (case l55 => k_is)
    (case c55 => k_is)
    (case k55 => k_is)
    (case hb_abs => k_is)
    (case hb_all => k_is)
    (case hb_any => k_is)
    (case hb_bool => k_is)
    (case hb_divmod => k_is)
    (case hb_enumerate => k_is)
    (case hb_int => k_is)
    (case hb_isinstance => k_is)
    (case hb_len => k_is)
    (case hb_list => k_is)
    (case hb_max => k_is)
    (case hb_min => k_is)
    (case hb_range => k_is)
    (case hb_repr => k_is)
    (case hb_sorted => k_is)
    (case hb_sum => k_is)
    (case hb_tuple => k_is)
    (case hb_zip => k_is)
    (case hc_MOST_DEGREE => k_is)
    (case hc_MOST_END => k_is)
    (case hc_MOST_PLACES => k_is)
    (case hc_MOST_POINTS => k_is)
    (case hc_MOST_SUM => k_is)
