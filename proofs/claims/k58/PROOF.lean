import PyProof.Rows.All
import Wide.All
import OpenK.AllK
import Wide.FinOn
import HandS.ForMost
import HandS.WordsExc
import HandS.Walk
import HandS.Wide
import HandS.WideBits
import HandS.TupAny
import HandS.Deep
import HandS.Flow
import HandS.Style
import HandS.Steps
import HandS.Iter
import KE.GoesNew
import HandS.Defaults
import HandS.MakeKwOnly
import HandS.IsInst
import HandS.SortInts
import HandS.Gcd
import HandS.Conv
import HandS.Dict
import PyProof.ReprRoads
import PyProof.CallFns
import HandS.Ends
import HandS.EndBits
import KE.GoesMore
import KE.GoesEnum
import HandS.Property
import HandS.Strs
import PyProof.P3In
import HandS.Codes
import PyProof.MaxThree
import HandS.TryOnly
import HandS.OwnEq
import PyProof.InstNe
import HandS.TupSets
import PyProof.TupleOfSeq
import HandS.More
import HandS.TupMul
import PyProof.StrOps2
import HandS.ExcOwn
import PyProof.ExcBaseAll.RuntimeError
import PyProof.ExcBaseAll.ValueError
import HandS.Flt
import HandS.TupLen
import PyProof.DictTruth
import KE.KDictOf
import KE.KDictCopyH
import KE.KDictWalk
import HandS.DictComp
import PyProof.DictCompW
import HandS.SortKw
import KE.KDictSum
import PyProof.Rows.CallKwBuiltin
import KE.KDictDisplayH
import PyProof.DictDisplay
import KE.KOpsOwn
import KE.KDictPairs
import HandS.FStr
import OpenK.KOps
import PyProof.SumWalkG
import PyProof.WalkInts
import HandS.DeepEq
import PyProof.DictFindH
import KE.LtSeq
import KE.LtData
import KE.KSortAsk
import HandS.NamedTupSort
import PySem.Challenge.RW_pointrows_k58_whole_rows_of_any_points
import PyProof.P3Eq
import PyProof.FitsInt
set_option Elab.async false
set_option linter.all false
set_option maxRecDepth 100000
namespace DL
open PySem PySem.Spec PyProof.Rows L2
abbrev DKey := Sum Key (List Key)
inductive D where
  | non | bl (b : Bool) | int (i : Int) | str (x : Str)
  | lst (xs : List D) | tup (xs : List D)
  | dic (ks : List DKey) (xs : List D)
  | ins (c : Str) (ns : List Str) (xs : List D)
abbrev Pot := Int × Int
inductive Res (α : Type) where
  | ok (a : α)
  | err (c : Str) (ns : List Str) (xs : List D) (π : Pot)
  | stuck
def Res.bind {α β : Type} (x : Res α) (f : α → Res β) : Res β := match x with
  | .ok a => f a
  | .err c ns xs π => .err c ns xs π
  | .stuck => .stuck
@[simp] theorem Res.bind_ok {α β : Type} (a : α) (f : α → Res β) : (Res.ok a).bind f = f a := rfl
@[simp] theorem Res.bind_stuck {α β : Type} (f : α → Res β) : (Res.stuck : Res α).bind f = .stuck := rfl
@[simp] theorem Res.bind_err {α β : Type} (c : Str) (ns : List Str) (xs : List D) (π : Pot) (f : α → Res β) : (Res.err c ns xs π : Res α).bind f = .err c ns xs π := rfl
/-- a tuple that is tracked -/
abbrev TpK (_ : PySem.W.Frag) (H : Hp) (a : Addr) (vs : List V) : Prop := H a = some (.tup vs)
section
variable (mg : Str → Option Value) (K : PySem.W.Frag) (H : Hp)
mutual
/-- the value stands for the datum, all of it to be read in the heap -/
inductive Rp : V → D → Prop
  | non : Rp .non .non
  | bl (b : Bool) : Rp (.bl b) (.bl b)
  | int (i : Int) : Rp (.int i) (.int i)
  | str (x : Str) : Rp (.str x) (.str x)
  | lst {a : Addr} {vs : List V} {ds : List D} : H a = some (.lst vs) → RpL vs ds → Rp (.ref a) (.lst ds)
  | tup {a : Addr} {vs : List V} {ds : List D} : TpK K H a vs → RpL vs ds → Rp (.ref a) (.tup ds)
  | dicK {a : Addr} {q : Key × V} {kvs : List (Key × V)} {ds : List D} : Rd H a (.dK (q :: kvs)) → RpL ((q :: kvs).map (·.2)) ds → Rp (.ref a) (.dic ((q :: kvs).map fun p => .inl p.1) ds)
  | dicT {a : Addr} {kvs : List (List Key × V)} {ds : List D} : Rd H a (.dT kvs) → RpL (kvs.map (·.2)) ds → Rp (.ref a) (.dic (kvs.map fun p => .inr p.1) ds)
  | ins {a C dx : Addr} {fs : List (Str × V)} {c : Str} {ds : List D} : mg c = some (.ref C) → H a = some (.ins C dx fs) → RpL (fs.map (·.2)) ds → Rp (.ref a) (.ins c (fs.map (·.1)) ds)
inductive RpL : List V → List D → Prop
  | nil : RpL [] []
  | cons {v : V} {vs : List V} {d : D} {ds : List D} : Rp v d → RpL vs ds → RpL (v :: vs) (d :: ds)
end
end
section
variable (mg : Str → Option Value) (K : PySem.W.Frag) (H : Hp)
/-- what an own thing holds -/
inductive HoR : HO → D → Prop
  | lst {vs : List V} {ds : List D} : RpL mg K H vs ds → HoR (.lst vs) (.lst ds)
  | dicK {q : Key × V} {kvs : List (Key × V)} {ds : List D} : RpL mg K H ((q :: kvs).map (·.2)) ds → HoR (.dK (q :: kvs)) (.dic ((q :: kvs).map fun p => .inl p.1) ds)
  | dicT {kvs : List (List Key × V)} {ds : List D} : RpL mg K H (kvs.map (·.2)) ds → HoR (.dT kvs) (.dic (kvs.map fun p => .inr p.1) ds)
  | ins {C dx : Addr} {fs : List (Str × V)} {c : Str} {ds : List D} : mg c = some (.ref C) → RpL mg K H (fs.map (·.2)) ds → HoR (.ins C dx fs) (.ins c (fs.map (·.1)) ds)
end
/-- the heap without the cells that may change -/
def less (H : Hp) (M : List Addr) : Hp := fun a => if a ∈ M then none else H a
theorem less_some {H : Hp} {M : List Addr} {a : Addr} {o : HO} : less H M a = some o ↔ a ∉ M ∧ H a = some o := by
  unfold less
  by_cases h : a ∈ M
  · rw [if_pos h]
    exact ⟨fun e => (by cases e), fun e => absurd h e.1⟩
  · rw [if_neg h]
    exact ⟨fun e => ⟨h, e⟩, fun e => e.2⟩
section
variable {mg : Str → Option Value} {K : PySem.W.Frag} {H H' : Hp}
theorem sqL_mono {a : Addr} {xs : List V} (e : Same H H') (h : SqL K H a xs) : SqL K H' a xs := e.seq h
theorem rd_mono {a : Addr} {u : HO} (e : Same H H') (h : Rd H a u) : Rd H' a u := by
  rcases h with h | ⟨o, h⟩
  · exact .inl (e _ _ h)
  · exact .inr ⟨o, e _ _ h⟩
theorem sqT_mono {a : Addr} {xs : List V} (e : Same H H') (h : SqT K H a xs) : SqT K H' a xs := by
  rcases h with h | h
  · exact .inl (rd_mono e h)
  · exact .inr h
mutual
theorem Rp.mono (e : Same H H') : ∀ {v : V} {d : D}, Rp mg K H v d → Rp mg K H' v d
  | _, _, .non => .non
  | _, _, .bl b => .bl b
  | _, _, .int i => .int i
  | _, _, .str x => .str x
  | _, _, .lst h r => .lst (e _ _ h) (RpL.mono e r)
  | _, _, .tup h r => .tup (e _ _ h) (RpL.mono e r)
  | _, _, .dicK h r => .dicK (rd_mono e h) (RpL.mono e r)
  | _, _, .dicT h r => .dicT (rd_mono e h) (RpL.mono e r)
  | _, _, .ins m h r => .ins m (e _ _ h) (RpL.mono e r)
theorem RpL.mono (e : Same H H') : ∀ {vs : List V} {ds : List D}, RpL mg K H vs ds → RpL mg K H' vs ds
  | _, _, .nil => .nil
  | _, _, .cons h r => .cons (Rp.mono e h) (RpL.mono e r)
end
theorem HoR.mono {o : HO} {d : D} (e : Same H H') (h : HoR mg K H o d) : HoR mg K H' o d := by
  cases h with
  | lst r => exact .lst (r.mono e)
  | dicK r => exact .dicK (r.mono e)
  | dicT r => exact .dicT (r.mono e)
  | ins m r => exact .ins m (r.mono e)
theorem HoR.rp {a : Addr} {o : HO} {d : D} (e : H a = some o) (h : HoR mg K H o d) : Rp mg K H (.ref a) d := by
  cases h with
  | lst r => exact .lst e r
  | dicK r => exact .dicK (.inl e) r
  | dicT r => exact .dicT (.inl e) r
  | ins m r => exact .ins m e r
theorem RpL.length : ∀ {vs : List V} {ds : List D}, RpL mg K H vs ds → vs.length = ds.length
  | _, _, .nil => rfl
  | _, _, .cons _ r => congrArg Nat.succ r.length
theorem RpL.append : ∀ {vs ws : List V} {ds es : List D}, RpL mg K H vs ds → RpL mg K H ws es → RpL mg K H (vs ++ ws) (ds ++ es)
  | _, _, _, _, .nil, s => s
  | _, _, _, _, .cons h r, s => .cons h (r.append s)
theorem RpL.get : ∀ {vs : List V} {ds : List D} {i : Nat} {d : D}, RpL mg K H vs ds → ds[i]? = some d → ∃ v, vs[i]? = some v ∧ Rp mg K H v d
  | _, _, _, _, .nil, e => by simp at e
  | _, _, 0, _, .cons h r, e => by
    simp at e
    subst e
    exact ⟨_, rfl, h⟩
  | _, _, i + 1, _, .cons h r, e => by
    obtain ⟨v, q, p⟩ := r.get (i := i) (by simpa using e)
    exact ⟨v, by simpa using q, p⟩
theorem RpL.getV : ∀ {vs : List V} {ds : List D} {i : Nat} {v : V}, RpL mg K H vs ds → vs[i]? = some v → ∃ d, ds[i]? = some d ∧ Rp mg K H v d
  | _, _, _, _, .nil, e => by simp at e
  | _, _, 0, _, .cons h r, e => by
    simp at e
    subst e
    exact ⟨_, rfl, h⟩
  | _, _, i + 1, _, .cons h r, e => by
    obtain ⟨v, q, p⟩ := r.getV (i := i) (by simpa using e)
    exact ⟨v, by simpa using q, p⟩
theorem RpL.take : ∀ {vs : List V} {ds : List D} (n : Nat), RpL mg K H vs ds → RpL mg K H (vs.take n) (ds.take n)
  | _, _, 0, _ => .nil
  | _, _, _ + 1, .nil => .nil
  | _, _, n + 1, .cons h r => .cons h (r.take n)
theorem RpL.drop : ∀ {vs : List V} {ds : List D} (n : Nat), RpL mg K H vs ds → RpL mg K H (vs.drop n) (ds.drop n)
  | _, _, 0, r => r
  | _, _, _ + 1, .nil => .nil
  | _, _, n + 1, .cons _ r => r.drop n
theorem RpL.set : ∀ {vs : List V} {ds : List D} (i : Nat) {v : V} {d : D}, Rp mg K H v d → RpL mg K H vs ds → RpL mg K H (vs.set i v) (ds.set i d)
  | _, _, _, _, _, _, .nil => .nil
  | _, _, 0, _, _, h, .cons _ r => .cons h r
  | _, _, i + 1, _, _, h, .cons q r => .cons q (r.set i h)
theorem RpL.reverse : ∀ {vs : List V} {ds : List D}, RpL mg K H vs ds → RpL mg K H vs.reverse ds.reverse
  | _, _, .nil => .nil
  | _, _, .cons h r => by
    rw [List.reverse_cons, List.reverse_cons]
    exact r.reverse.append (.cons h .nil)
theorem RpL.replicate {v : V} {d : D} (h : Rp mg K H v d) : ∀ n, RpL mg K H (List.replicate n v) (List.replicate n d)
  | 0 => .nil
  | n + 1 => .cons h (RpL.replicate h n)
theorem RpL.flat {vs : List V} {ds : List D} (h : RpL mg K H vs ds) : ∀ n, RpL mg K H (List.replicate n vs).flatten (List.replicate n ds).flatten
  | 0 => .nil
  | n + 1 => by
    rw [List.replicate_succ, List.replicate_succ, List.flatten_cons, List.flatten_cons]
    exact h.append (RpL.flat h n)
/-- ints -/
abbrev iz (ns : List Int) : List D := ns.map D.int
theorem RpL.iz : ∀ {ns : List Int} {vs : List V}, RpL mg K H vs (DL.iz ns) → vs = ns.map V.int
  | [], _, .nil => rfl
  | n :: ns, _, .cons h r => by
    cases h
    rw [RpL.iz r]
    rfl
theorem RpL.of_ints : ∀ (ns : List Int), RpL mg K H (ns.map V.int) (DL.iz ns)
  | [] => .nil
  | n :: ns => .cons (.int n) (RpL.of_ints ns)
mutual
def toPy : D → Option PyData
  | .non => some .none
  | .bl b => some (.bool b)
  | .int i => some (.int i)
  | .str x => some (.str x)
  | .lst xs => (toPyL xs).map .list
  | .tup xs => (toPyL xs).map .tuple
  | .dic _ _ => none
  | .ins _ _ _ => none
def toPyL : List D → Option (List PyData)
  | [] => some []
  | x :: xs => match toPy x, toPyL xs with
    | some p, some ps => some (p :: ps)
    | _, _ => none
end
mutual
theorem Rp.dp : ∀ {v : V} {d : D} {p : PyData}, Rp mg K H v d → toPy d = some p → Dp K H v p
  | _, _, _, .non, e => by
    cases e
    exact .non
  | _, _, _, .bl b, e => by
    cases e
    exact .bl b
  | _, _, _, .int i, e => by
    cases e
    exact .int i
  | _, _, _, .str x, e => by
    cases e
    exact .str x
  | _, .lst ds, p, .lst h r, e => by
    simp only [toPy, Option.map_eq_some_iff] at e
    obtain ⟨ps, e1, rfl⟩ := e
    exact .lst (.inl (.inl h)) (RpL.dp r e1)
  | _, .tup ds, p, .tup h r, e => by
    simp only [toPy, Option.map_eq_some_iff] at e
    obtain ⟨ps, e1, rfl⟩ := e
    exact .tup (.inl (.inl h)) (RpL.dp r e1)
  | _, _, _, .dicK _ _, e => by simp [toPy] at e
  | _, _, _, .dicT _ _, e => by simp [toPy] at e
  | _, _, _, .ins _ _ _, e => by simp [toPy] at e
theorem RpL.dp : ∀ {vs : List V} {ds : List D} {ps : List PyData}, RpL mg K H vs ds → toPyL ds = some ps → DpAll K H vs ps
  | _, _, _, .nil, e => by
    simp only [toPyL, Option.some.injEq] at e
    subst e
    exact .nil
  | _, d :: ds, ps, .cons h r, e => by
    simp only [toPyL] at e
    split at e
    · rename_i p qs e1 e2
      cases e
      exact .cons (Rp.dp h e1) (RpL.dp r e2)
    · cases e
end
end
end DL
set_option maxHeartbeats 2000000
namespace DL
open PySem PySem.Spec PyProof.Rows L2
/-- how a slot is held: not at all, as data, as a list of the def's own that changes, as the pot -/
inductive Md where | u | f | o | p | s
  deriving DecidableEq
/-- how a value comes: as data, to be looked at only, as a new list -/
inductive Rm where | f | b | o | t
  deriving DecidableEq
/-- how an argument goes -/
inductive Ak where | f | b | p | s
  deriving DecidableEq
abbrev Rho := List (Option D)
abbrev Ed := Rho → Pot → Res (D × Pot)
abbrev Et := Rho → Pot → Res (Bool × Pot)
abbrev Ea := Rho → Pot → Res (List D × Pot)
abbrev Fd := List D → Pot → Res (D × Pot)
def Grow (pot : Option Addr) (H H' : Hp) : Prop := ∀ a o, pot ≠ some a → H a = some o → H' a = some o
/-- there is something, and it's no tuple -/
def Al (H : Hp) (a : Addr) : Prop := ∃ o, H a = some o ∧ ∀ xs, o ≠ .tup xs
theorem Al.nn {H : Hp} {a : Addr} (h : Al H a) : H a ≠ none := fun e => by
  obtain ⟨o, h, _⟩ := h
  rw [e] at h
  cases h
theorem Al.of {H : Hp} {a : Addr} {o : HO} (h : H a = some o) (n : ∀ xs, o ≠ .tup xs) : Al H a := ⟨o, h, n⟩
theorem HoR.nt {mg : Str → Option Value} {K : PySem.W.Frag} {H : Hp} {o : HO} {d : D} (h : HoR mg K H o d) : ∀ xs, o ≠ .tup xs := fun xs e => by
  subst e
  cases h
def PotAt (pot : Option Addr) (H : Hp) (π : Pot) : Prop := ∀ p, pot = some p → H p = some (.lst [.int π.1, .int π.2])
section
variable (mg : Str → Option Value) (K : PySem.W.Frag)
def Own (pot : Option Addr) (M : List Addr) (H : Hp) (p : Addr) (d : D) : Prop :=
  pot ≠ some p ∧ ∃ o, H p = some o ∧ HoR mg K (less H (p :: M)) o d
def Rb (pot : Option Addr) (M : List Addr) (H : Hp) (v : V) (d : D) : Prop :=
  Rp mg K (less H M) v d ∨ ∃ p, v = .ref p ∧ Own mg K pot M H p d
/-- a new tuple of new things -/
def OwnT (pot : Option Addr) (M : List Addr) (H H' : Hp) (v : V) (d : D) : Prop :=
  ∃ q ps ds, v = .ref q ∧ d = .tup ds ∧ H' q = some (.tup (ps.map V.ref)) ∧ H q = none ∧ q ∉ M ∧ q ∉ ps ∧ ds.length = ps.length ∧ pot ≠ some q ∧
    ∀ (i : Nat) (p : Addr) (e : D), ps[i]? = some p → ds[i]? = some e → pot ≠ some p ∧ H p = none ∧ p ∉ M ∧ ∃ o, H' p = some o ∧ HoR mg K (less H' (ps ++ M)) o e
def RpR (r : Rm) (pot : Option Addr) (M : List Addr) (H H' : Hp) (v : V) (d : D) : Prop := match r with
  | .f => Rp mg K (less H' M) v d
  | .b => Rb mg K pot M H' v d
  | .o => ∃ p, v = .ref p ∧ H p = none ∧ Own mg K pot M H' p d
  | .t => OwnT mg K pot M H H' v d
def ArgR (pot : Option Addr) (M : List Addr) (H : Hp) (k : Ak) (v : V) (d : D) : Prop := match k with
  | .f => Rp mg K (less H M) v d
  | .b => Rb mg K pot M H v d
  | .p => ∃ p, pot = some p ∧ v = .ref p
  | .s => ∃ p ns, v = .ref p ∧ d = .lst (DL.iz ns) ∧ SqL K (less H M) p (ns.map V.int)
inductive Args (pot : Option Addr) (M : List Addr) (H : Hp) : List Ak → List V → List D → Prop
  | nil : Args pot M H [] [] []
  | cons {k : Ak} {v : V} {d : D} {ks : List Ak} {vs : List V} {ds : List D} : ArgR mg K pot M H k v d → Args pot M H ks vs ds → Args pot M H (k :: ks) (v :: vs) (d :: ds)
def ErrAt (M : List Addr) (H : Hp) (cv : Value) (dd : Option Addr) (c : Str) (ns : List Str) (xs : List D) : Prop :=
  ∃ C, mg c = some (.ref C) ∧ cv = .ref C ∧ ((dd = none ∧ ns = [] ∧ xs = []) ∨ ∃ a fs, dd = some a ∧ H a = some (.xd fs) ∧ a ∉ M ∧ ns = fs.map (·.1) ∧ RpL mg K (less H M) (fs.map (·.2)) xs)
def PErr (pot : Option Addr) (M : List Addr) (H : Hp) (c : Str) (ns : List Str) (xs : List D) (π : Pot) (E : XK) : Prop :=
  ∀ cv dd H', Grow pot H H' → PotAt pot H' π → ErrAt mg K M H' cv dd c ns xs → E cv dd H'
def Post (r : Rm) (pot : Option Addr) (M : List Addr) (H : Hp) (x : Res (D × Pot)) (Q : VK) (E : XK) : Prop := match x with
  | .ok (d, π) => ∀ v H', Grow pot H H' → PotAt pot H' π → RpR mg K r pot M H H' v d → Q v H'
  | .err c ns xs π => PErr mg K pot M H c ns xs π E
  | .stuck => False
def PostT (pot : Option Addr) (M : List Addr) (H : Hp) (x : Res (Bool × Pot)) (Q : Bool → Hp → Prop) (E : XK) : Prop := match x with
  | .ok (b, π) => ∀ H', Grow pot H H' → PotAt pot H' π → Q b H'
  | .err c ns xs π => PErr mg K pot M H c ns xs π E
  | .stuck => False
def PostA (ks : List Ak) (pot : Option Addr) (M : List Addr) (H : Hp) (x : Res (List D × Pot)) (Q : List V → Hp → Prop) (E : XK) : Prop := match x with
  | .ok (ds, π) => ∀ vs H', Grow pot H H' → PotAt pot H' π → Args mg K pot M H' ks vs ds → Q vs H'
  | .err c ns xs π => PErr mg K pot M H c ns xs π E
  | .stuck => False
structure EnvOk (Γ : List Md) (pot : Option Addr) (M : List Addr) (σ : L2.St) (H : Hp) (ρ : Rho) : Prop where
  ls : σ.length = Γ.length
  lr : ρ.length = Γ.length
  f : ∀ (i : Nat) (d : D), Γ[i]? = some .f → ρ[i]? = some (some d) → ∃ v, σ[i]? = some (some v) ∧ Rp mg K (less H M) v d
  o : ∀ (i : Nat) (d : D), Γ[i]? = some .o → ρ[i]? = some (some d) → ∃ p, σ[i]? = some (some (.ref p)) ∧ p ∈ M ∧ Own mg K pot M H p d
  p : ∀ (i : Nat), Γ[i]? = some .p → ∃ p, pot = some p ∧ σ[i]? = some (some (.ref p))
  s : ∀ (i : Nat) (d : D), Γ[i]? = some .s → ρ[i]? = some (some d) → ∃ p ns, σ[i]? = some (some (.ref p)) ∧ d = .lst (DL.iz ns) ∧ SqL K (less H M) p (ns.map V.int)
  ap : ∀ (i j : Nat) (a : Addr) (d e : D), Γ[i]? = some .o → Γ[j]? = some .o → ρ[i]? = some (some d) → ρ[j]? = some (some e) → σ[i]? = some (some (.ref a)) → σ[j]? = some (some (.ref a)) → i = j
  al : ∀ a ∈ M, Al H a
  pm : ∀ a, pot = some a → a ∈ M
def SemE (E : XK) (r : Rm) (Γ : List Md) (te : TE) (fe : Ed) : Prop :=
  ∀ pot M σ H ρ π, EnvOk mg K Γ pot M σ H ρ → PotAt pot H π → ∀ Q, Post mg K r pot M H (fe ρ π) Q E → te σ H Q
def SemT (E : XK) (Γ : List Md) (tt : TT) (ft : Et) : Prop :=
  ∀ pot M σ H ρ π, EnvOk mg K Γ pot M σ H ρ → PotAt pot H π → ∀ Q, PostT mg K pot M H (ft ρ π) Q E → tt σ H Q
def SemA (E : XK) (ks : List Ak) (Γ : List Md) (ta : TA) (fa : Ea) : Prop :=
  ∀ pot M σ H ρ π, EnvOk mg K Γ pot M σ H ρ → PotAt pot H π → ∀ Q, PostA mg K ks pot M H (fa ρ π) Q E → ta σ H Q
end
section
variable {mg : Str → Option Value} {K : PySem.W.Frag} {pot : Option Addr} {M : List Addr} {H H' H1 H2 : Hp} {π : Pot} {Γ : List Md} {σ : L2.St} {ρ : Rho} {v : V} {d : D}
theorem Grow.refl : Grow pot H H := fun _ _ _ h => h
theorem Grow.trans (a : Grow pot H H1) (b : Grow pot H1 H2) : Grow pot H H2 := fun x o n h => b x o n (a x o n h)
theorem Grow.of_same (e : Same H H') : Grow pot H H' := fun a o _ h => e a o h
theorem same_upd {p : Addr} {o : HO} (h : H p = none) : Same H (upd H p o) := fun b x e => by
  rw [upd_ne (ne_of_none e h)]
  exact e
theorem Grow.new {p : Addr} {o : HO} (h : H p = none) : Grow pot H (upd H p o) := .of_same (same_upd h)
/-- nothing that was there is hurt: data stays -/
theorem less_grow (hp : ∀ a, pot = some a → a ∈ M) (g : Grow pot H H') : Same (less H M) (less H' M) := fun a o h => by
  obtain ⟨h1, h2⟩ := less_some.mp h
  exact less_some.mpr ⟨h1, g a o (fun e => h1 (hp a e)) h2⟩
theorem less_sub {N : List Addr} (h : ∀ a ∈ N, a ∈ M) : Same (less H M) (less H N) := fun a o e => by
  obtain ⟨h1, h2⟩ := less_some.mp e
  exact less_some.mpr ⟨fun q => h1 (h a q), h2⟩
theorem PotAt.same (p : PotAt pot H π) (e : Same H H') : PotAt pot H' π := fun a h => e _ _ (p a h)
theorem PotAt.new {q : Addr} {o : HO} (p : PotAt pot H π) (h : H q = none) : PotAt pot (upd H q o) π := p.same (same_upd h)
theorem Own.grow {p : Addr} (hp : ∀ a, pot = some a → a ∈ M) (g : Grow pot H H') (h : Own mg K pot M H p d) : Own mg K pot M H' p d := by
  obtain ⟨n, o, h1, h2⟩ := h
  exact ⟨n, o, g _ _ n h1, h2.mono (less_grow (fun a q => List.mem_cons_of_mem _ (hp a q)) g)⟩
theorem Rb.grow (hp : ∀ a, pot = some a → a ∈ M) (g : Grow pot H H') (h : Rb mg K pot M H v d) : Rb mg K pot M H' v d := by
  rcases h with h | ⟨p, e, h⟩
  · exact .inl (h.mono (less_grow hp g))
  · exact .inr ⟨p, e, h.grow hp g⟩
theorem ArgR.grow {k : Ak} (hp : ∀ a, pot = some a → a ∈ M) (g : Grow pot H H') (h : ArgR mg K pot M H k v d) : ArgR mg K pot M H' k v d := by
  cases k with
  | f => exact h.mono (less_grow hp g)
  | b => exact Rb.grow hp g h
  | p => exact h
  | s =>
    obtain ⟨q, ns, e1, e2, e3⟩ := h
    exact ⟨q, ns, e1, e2, sqL_mono (less_grow hp g) e3⟩
theorem Args.grow {ks : List Ak} {vs : List V} {ds : List D} (hp : ∀ a, pot = some a → a ∈ M) (g : Grow pot H H') (h : Args mg K pot M H ks vs ds) : Args mg K pot M H' ks vs ds := by
  induction h with
  | nil => exact .nil
  | cons a _ ih => exact .cons (a.grow hp g) ih
theorem Args.length {ks : List Ak} {vs : List V} {ds : List D} (h : Args mg K pot M H ks vs ds) : vs.length = ks.length := by
  induction h with
  | nil => rfl
  | cons _ _ ih => exact congrArg Nat.succ ih
theorem alive (al : ∀ a ∈ M, Al H a) (p : PotAt pot H' π) (g : Grow pot H H') : ∀ a ∈ M, Al H' a := fun a ha => by
  obtain ⟨o, h, n⟩ := al a ha
  by_cases q : pot = some a
  · exact .of (p a q) fun xs e => by cases e
  · exact .of (g a o q h) n
theorem EnvOk.grow (I : EnvOk mg K Γ pot M σ H ρ) (g : Grow pot H H') (p : PotAt pot H' π) : EnvOk mg K Γ pot M σ H' ρ where
  ls := I.ls
  lr := I.lr
  f := fun i d h1 h2 => by
    obtain ⟨v, e, r⟩ := I.f i d h1 h2
    exact ⟨v, e, r.mono (less_grow I.pm g)⟩
  o := fun i d h1 h2 => by
    obtain ⟨q, e, m, r⟩ := I.o i d h1 h2
    exact ⟨q, e, m, r.grow I.pm g⟩
  p := I.p
  s := fun i d h1 h2 => by
    obtain ⟨q, ns, e1, e2, e3⟩ := I.s i d h1 h2
    exact ⟨q, ns, e1, e2, sqL_mono (less_grow I.pm g) e3⟩
  ap := I.ap
  al := alive I.al p g
  pm := I.pm
theorem ErrAt.grow {cv : Value} {dd : Option Addr} {c : Str} {ns : List Str} {xs : List D} (h : ErrAt mg K M H cv dd c ns xs) : ErrAt mg K M H cv dd c ns xs := h
/-- a new list is data as well -/
theorem own_f {p : Addr} (al : ∀ a ∈ M, Al H a) (hn : H p = none) (h : Own mg K pot M H' p d) : Rp mg K (less H' M) (.ref p) d := by
  obtain ⟨_, o, h1, h2⟩ := h
  have np : p ∉ M := fun q => (al p q).nn hn
  exact HoR.rp (less_some.mpr ⟨np, h1⟩) (h2.mono (less_sub fun a q => List.mem_cons_of_mem _ q))
theorem RpR.toF (al : ∀ a ∈ M, Al H a) (h : RpR mg K .o pot M H H' v d) : Rp mg K (less H' M) v d := by
  obtain ⟨p, rfl, hn, h⟩ := h
  exact own_f al hn h
theorem rpl_refs {H : Hp} : ∀ {ps : List Addr} {ds : List D}, ds.length = ps.length → (∀ (i : Nat) (p : Addr) (e : D), ps[i]? = some p → ds[i]? = some e → Rp mg K H (.ref p) e) → RpL mg K H (ps.map V.ref) ds
  | [], [], _, _ => .nil
  | [], _ :: _, h, _ => by simp at h
  | _ :: _, [], h, _ => by simp at h
  | p :: ps, d :: ds, h, k => .cons (k 0 p d rfl rfl) (rpl_refs (by simpa using h) fun i q e h1 h2 => k (i + 1) q e (by simpa using h1) (by simpa using h2))
theorem ownT_f (h : OwnT mg K pot M H H' v d) : Rp mg K (less H' M) v d := by
  obtain ⟨q, ps, ds, rfl, rfl, h1, _, h3, _, h5, _, h6⟩ := h
  refine .tup (less_some.mpr ⟨h3, h1⟩) (rpl_refs h5 fun i p e e1 e2 => ?_)
  obtain ⟨_, _, g3, o, g4, g5⟩ := h6 i p e e1 e2
  exact HoR.rp (less_some.mpr ⟨g3, g4⟩) (g5.mono (less_sub fun a ha => List.mem_append_right _ ha))
theorem RpR.toB {r : Rm} (h : RpR mg K r pot M H H' v d) : Rb mg K pot M H' v d := by
  cases r with
  | f => exact .inl h
  | b => exact h
  | o =>
    obtain ⟨p, e, _, h⟩ := h
    exact .inr ⟨p, e, h⟩
  | t => exact .inl (ownT_f h)
/-- seen from further back -/
theorem RpR.back {r : Rm} (g : Grow pot H H1) (h0 : PotAt pot H π) (h : RpR mg K r pot M H1 H2 v d) : RpR mg K r pot M H H2 v d := by
  cases r with
  | f => exact h
  | b => exact h
  | o =>
    obtain ⟨p, e, hn, h⟩ := h
    refine ⟨p, e, ?_, h⟩
    cases q : H p with
    | none => rfl
    | some o =>
      rw [g p o h.1 q] at hn
      cases hn
  | t =>
    have bk : ∀ p, pot ≠ some p → H1 p = none → H p = none := fun p np hn => by
      cases q : H p with
      | none => rfl
      | some o =>
        rw [g p o np q] at hn
        cases hn
    obtain ⟨q, ps, ds, e1, e2, h1, h2, h3, h4, h5, h7, h6⟩ := h
    refine ⟨q, ps, ds, e1, e2, h1, bk q h7 h2, h3, h4, h5, h7, fun i p e a1 a2 => ?_⟩
    obtain ⟨g1, g2, g3, g4⟩ := h6 i p e a1 a2
    exact ⟨g1, bk p g1 g2, g3, g4⟩
theorem PErr.back {c : Str} {ns : List Str} {xs : List D} {π' : Pot} {E : XK} (h : PErr mg K pot M H c ns xs π' E) (g : Grow pot H H1) : PErr mg K pot M H1 c ns xs π' E :=
  fun cv dd H' g' p e => h cv dd H' (g.trans g') p e
/-- the post of what comes last is the post of the whole -/
theorem Post.back {r : Rm} {x : Res (D × Pot)} {Q : VK} {E : XK} (g : Grow pot H H1) (h0 : PotAt pot H π) (h : Post mg K r pot M H x Q E) : Post mg K r pot M H1 x Q E := by
  cases x with
  | ok a => exact fun v H' g' p q => h v H' (g.trans g') p (q.back g h0)
  | err c ns xs π' => exact PErr.back h g
  | stuck => exact h
theorem PostT.back {x : Res (Bool × Pot)} {Q : Bool → Hp → Prop} {E : XK} (g : Grow pot H H1) (h : PostT mg K pot M H x Q E) : PostT mg K pot M H1 x Q E := by
  cases x with
  | ok a => exact fun H' g' p => h H' (g.trans g') p
  | err c ns xs π' => exact PErr.back h g
  | stuck => exact h
/-- first x, then k -/
theorem Post.seq {r r' : Rm} {x : Res (D × Pot)} {k : D × Pot → Res (D × Pot)} {Q : VK} {E : XK} (h : Post mg K r pot M H (x.bind k) Q E) (h0 : PotAt pot H π)
    {te : VK → Prop} (ht : ∀ Q', Post mg K r' pot M H x Q' E → te Q') {R : VK}
    (hk : ∀ d π1 v H1, x = .ok (d, π1) → Grow pot H H1 → PotAt pot H1 π1 → RpR mg K r' pot M H H1 v d → Post mg K r pot M H1 (k (d, π1)) Q E → R v H1) : te R := by
  refine ht R ?_
  cases x with
  | ok a =>
    obtain ⟨d, π1⟩ := a
    exact fun v H1 g p q => hk d π1 v H1 rfl g p q (Post.back g h0 h)
  | err c ns xs π' => exact h
  | stuck => exact h
end
end DL
set_option maxHeartbeats 2000000
namespace DL
open PySem PySem.Spec PyProof.Rows L2
/-- what a rule asks of the place where it is used -/
structure XOk (X : Cx) (E : XK) (k : Nat) : Prop where
  room : Room k X.A
  gd : X.A.guards = some []
  calm : X.calm = true
  pass : Passes (L2.CX X.prog X.w) X E
  own : PassesOwn (model X.prog X.w) X.A X.env X.xe
  nd : X.N.Nodup
theorem XOk.u64 {X : Cx} {E : XK} {k : Nat} (x : XOk X E k) : X.A.units + 64 < cLine := x.room.units
theorem XOk.u65 {X : Cx} {E : XK} {k : Nat} (x : XOk X E k) : X.A.units + 65 < cLine := by
  have := x.room.un
  omega
structure DE (X : Cx) (E : XK) (r : Rm) (Γ : List Md) (e : Expr) (te : TE) (fe : Ed) : Prop where
  pe : PE X e te
  sem : SemE X.mg X.K E r Γ te fe
structure DT (X : Cx) (E : XK) (Γ : List Md) (e : Expr) (tt : TT) (ft : Et) : Prop where
  pt : PT X e tt
  sem : SemT X.mg X.K E Γ tt ft
structure DW (X : Cx) (E : XK) (Γ : List Md) (e : Expr) (tt : TT) (ft : Et) : Prop where
  pw : PW X e tt
  sem : SemT X.mg X.K E Γ tt ft
structure DA (X : Cx) (E : XK) (ks : List Ak) (Γ : List Md) (es : List Expr) (ta : TA) (fa : Ea) : Prop where
  pa : PA X es ta
  sem : SemA X.mg X.K E ks Γ ta fa
theorem DW.dt {X : Cx} {E : XK} {Γ : List Md} {e : Expr} {tt : TT} {ft : Et} (h : DW X E Γ e tt ft) : DT X E Γ e tt ft := ⟨h.pw.pt, h.sem⟩
def ofO {α : Type} : Option α → Res α
  | some a => .ok a
  | none => .stuck
@[simp] theorem ofO_some {α : Type} (a : α) : ofO (some a) = .ok a := rfl
@[simp] theorem ofO_none {α : Type} : ofO (none : Option α) = .stuck := rfl
def eVar (i : Nat) : Ed := fun ρ π => match ρ[i]? with
  | some (some d) => .ok (d, π)
  | _ => .stuck
def eC (d : D) : Ed := fun _ π => .ok (d, π)
def eBin (g : D → D → Option D) (a b : Ed) : Ed := fun ρ π => (a ρ π).bind fun x => (b ρ x.2).bind fun y => (ofO (g x.1 y.1)).bind fun z => .ok (z, y.2)
def eUn (g : D → Option D) (a : Ed) : Ed := fun ρ π => (a ρ π).bind fun x => (ofO (g x.1)).bind fun z => .ok (z, x.2)
def truth : D → Option Bool
  | .non => some false
  | .bl b => some b
  | .int i => some (i != 0)
  | .str y => if y.length ≤ sizeLine then some ((y.length : Int) != 0) else none
  | .lst xs => some (!xs.isEmpty)
  | .tup xs => some (!xs.isEmpty)
  | .dic _ _ => none
  | .ins _ _ _ => none
def eAnd (a b : Ed) : Ed := fun ρ π => (a ρ π).bind fun x => (ofO (truth x.1)).bind fun k => if k = true then b ρ x.2 else .ok x
def eOr (a b : Ed) : Ed := fun ρ π => (a ρ π).bind fun x => (ofO (truth x.1)).bind fun k => if k = true then .ok x else b ρ x.2
def eNot (a : Ed) : Ed := fun ρ π => (a ρ π).bind fun x => (ofO (truth x.1)).bind fun k => .ok (.bl (!k), x.2)
def eIf (t : Et) (a b : Ed) : Ed := fun ρ π => (t ρ π).bind fun x => if x.1 = true then a ρ x.2 else b ρ x.2
def aNil : Ea := fun _ π => .ok ([], π)
def aCons (a : Ed) (b : Ea) : Ea := fun ρ π => (a ρ π).bind fun x => (b ρ x.2).bind fun y => .ok (x.1 :: y.1, y.2)
def eTup (a : Ea) : Ed := fun ρ π => (a ρ π).bind fun x => if x.1.length ≤ sizeLine then .ok (.tup x.1, x.2) else .stuck
def eLst (a : Ea) : Ed := fun ρ π => (a ρ π).bind fun x => if x.1.length ≤ sizeLine then .ok (.lst x.1, x.2) else .stuck
def eApp (g : List D → Option D) (a : Ea) : Ed := fun ρ π => (a ρ π).bind fun x => (ofO (g x.1)).bind fun z => .ok (z, x.2)
def tOf (a : Ed) : Et := fun ρ π => (a ρ π).bind fun x => (ofO (truth x.1)).bind fun k => .ok (k, x.2)
def tBl (a : Ed) : Et := fun ρ π => (a ρ π).bind fun x => match x.1 with
  | .bl k => .ok (k, x.2)
  | _ => .stuck
def tAndD (a b : Et) : Et := fun ρ π => (a ρ π).bind fun x => if x.1 = true then b ρ x.2 else .ok (false, x.2)
def tOrD (a b : Et) : Et := fun ρ π => (a ρ π).bind fun x => if x.1 = true then .ok (true, x.2) else b ρ x.2
def tNotD (a : Et) : Et := fun ρ π => (a ρ π).bind fun x => .ok (!x.1, x.2)
section
variable {X : Cx} {E : XK} {Γ : List Md} {r ra rb : Rm} {e a b c : Expr} {ta tb te : TE} {fa fb fe : Ed} {pos : Pos} {k : Nat}
theorem DE.toF (h : DE X E .o Γ e te fe) : DE X E .f Γ e te fe := ⟨h.pe, fun pot M σ H ρ π I p Q q => by
  refine h.sem pot M σ H ρ π I p Q ?_
  cases e : fe ρ π with
  | ok a =>
    rw [e] at q
    exact fun v H' g p' y => q v H' g p' (y.toF I.al)
  | err c ns xs π' =>
    rw [e] at q
    exact q
  | stuck =>
    rw [e] at q
    exact q⟩
theorem DE.toB (h : DE X E r Γ e te fe) : DE X E .b Γ e te fe := ⟨h.pe, fun pot M σ H ρ π I p Q q => by
  refine h.sem pot M σ H ρ π I p Q ?_
  cases e : fe ρ π with
  | ok a =>
    rw [e] at q
    exact fun v H' g p' y => q v H' g p' y.toB
  | err c ns xs π' =>
    rw [e] at q
    exact q
  | stuck =>
    rw [e] at q
    exact q⟩
theorem de_var (i : Nat) {x : Str} (hN : X.N[i]? = some x := by rfl) (hv : Vis X.env.scope x := by first | exact Or.inl rfl | exact Or.inr (Or.inl rfl) | exact Or.inr (Or.inr rfl)) (hΓ : Γ[i]? = some .f := by rfl)
    (hd : (x == ("__debug__" : Str)) = false := by decide) (hcd : (x == ("__classdict__" : Str)) = false := by decide) : DE X E .f Γ (.Name x pos) (tVar i) (eVar i) :=
  ⟨pe_var hN hv hd hcd, fun pot M σ H ρ π I p Q q => by
    unfold eVar at q
    split at q
    · rename_i d e
      obtain ⟨v, e1, r⟩ := I.f i d hΓ e
      exact ⟨v, e1, q v H .refl p r⟩
    · exact q.elim⟩
/-- an own list that changes, to be looked at -/
theorem de_varo (i : Nat) {x : Str} (hN : X.N[i]? = some x := by rfl) (hv : Vis X.env.scope x := by first | exact Or.inl rfl | exact Or.inr (Or.inl rfl) | exact Or.inr (Or.inr rfl)) (hΓ : Γ[i]? = some .o := by rfl)
    (hd : (x == ("__debug__" : Str)) = false := by decide) (hcd : (x == ("__classdict__" : Str)) = false := by decide) : DE X E .b Γ (.Name x pos) (tVar i) (eVar i) :=
  ⟨pe_var hN hv hd hcd, fun pot M σ H ρ π I p Q q => by
    unfold eVar at q
    split at q
    · rename_i d e
      obtain ⟨v, e1, m, r⟩ := I.o i d hΓ e
      exact ⟨_, e1, q _ H .refl p (.inr ⟨_, rfl, r⟩)⟩
    · exact q.elim⟩
theorem sem_c {v : V} {d : D} (h : ∀ H, Rp X.mg X.K H v d) : SemE X.mg X.K E .f Γ (tC v) (eC d) := fun pot M σ H ρ π I p Q q => q v H .refl p (h _)
theorem de_int {i : Int} {j : Nat} : DE X E .f Γ (.Constant (.int i) j pos) (tC (.int i)) (eC (.int i)) := ⟨pe_int, sem_c fun _ => .int i⟩
theorem de_bl {i : Bool} {j : Nat} : DE X E .f Γ (.Constant (.bool i) j pos) (tC (.bl i)) (eC (.bl i)) := ⟨pe_bl, sem_c fun _ => .bl i⟩
theorem de_non {j : Nat} : DE X E .f Γ (.Constant .none j pos) (tC .non) (eC .non) := ⟨pe_non, sem_c fun _ => .non⟩
/-- a constant of the module -/
theorem de_glob {x : Str} {v : V} {d : D} (h : ∃ u, X.mg x = some u ∧ RelV v u) (hr : ∀ H, Rp X.mg X.K H v d) (hg : Gl X x := by rfl) (hdb : (x == ("__debug__" : Str)) = false := by decide) : DE X E .f Γ (.Name x pos) (tC v) (eC d) := by
  obtain ⟨u, h1, h2⟩ := h
  exact ⟨pe_glob hg h1 h2 hdb, sem_c hr⟩
def SemOp (mg : Str → Option Value) (K : PySem.W.Frag) (r2 : R2) (rz : Rm) (g : D → D → Option D) : Prop :=
  ∀ (pot : Option Addr) (M : List Addr) (H : Hp) (x y : V) (d e z : D), (∀ a ∈ M, Al H a) → (∀ a, pot = some a → a ∈ M) → (∀ a, pot = some a → H a ≠ none) → Rb mg K pot M H x d → Rb mg K pot M H y e → g d e = some z →
    ∀ Q : VK, (∀ v H', Same H H' → RpR mg K rz pot M H H' v z → Q v H') → r2 x y H Q
def SemUn (mg : Str → Option Value) (K : PySem.W.Frag) (r1 : V → Hp → VK → Prop) (rz : Rm) (g : D → Option D) : Prop :=
  ∀ (pot : Option Addr) (M : List Addr) (H : Hp) (x : V) (d z : D), (∀ a ∈ M, Al H a) → (∀ a, pot = some a → a ∈ M) → (∀ a, pot = some a → H a ≠ none) → Rb mg K pot M H x d → g d = some z →
    ∀ Q : VK, (∀ v H', Same H H' → RpR mg K rz pot M H H' v z → Q v H') → r1 x H Q
theorem PotAt.has {pot : Option Addr} {H : Hp} {π : Pot} (p : PotAt pot H π) : ∀ a, pot = some a → H a ≠ none := fun a h e => by
  rw [p a h] at e
  cases e
theorem sem_bin {r2 : R2} {rz : Rm} {g : D → D → Option D} (hg : SemOp X.mg X.K r2 rz g) (ha : SemE X.mg X.K E ra Γ ta fa) (hb : SemE X.mg X.K E rb Γ tb fb) : SemE X.mg X.K E rz Γ (tOp r2 ta tb) (eBin g fa fb) := by
  intro pot M σ H ρ π I p Q h
  refine Post.seq (r' := ra) (te := ta σ H) h p (fun Q' hq => ha pot M σ H ρ π I p Q' hq) fun d π1 v H1 _ g1 p1 r1 h1 => ?_
  refine Post.seq (r' := rb) (te := tb σ H1) h1 p1 (fun Q' hq => hb pot M σ H1 ρ π1 (I.grow g1 p1) p1 Q' hq) fun e π2 w H2 _ g2 p2 r2' h2 => ?_
  have I2 := I.grow (g1.trans g2) p2
  cases hz : g d e with
  | none =>
    simp only [hz, ofO_none, Res.bind_stuck] at h2
    exact h2.elim
  | some z =>
    simp only [hz, ofO_some, Res.bind_ok] at h2
    exact hg pot M H2 v w d e z I2.al I.pm p2.has (r1.toB.grow I.pm g2) r2'.toB hz Q fun u H3 s q => h2 u H3 (.of_same s) (p2.same s) q
theorem sem_un {r1 : V → Hp → VK → Prop} {rz : Rm} {g : D → Option D} (hg : SemUn X.mg X.K r1 rz g) (ha : SemE X.mg X.K E ra Γ ta fa) : SemE X.mg X.K E rz Γ (tUn r1 ta) (eUn g fa) := by
  intro pot M σ H ρ π I p Q h
  refine Post.seq (r' := ra) (te := ta σ H) h p (fun Q' hq => ha pot M σ H ρ π I p Q' hq) fun d π1 v H1 _ g1 p1 r1' h1 => ?_
  have I1 := I.grow g1 p1
  cases hz : g d with
  | none =>
    simp only [hz, ofO_none, Res.bind_stuck] at h1
    exact h1.elim
  | some z =>
    simp only [hz, ofO_some, Res.bind_ok] at h1
    exact hg pot M H1 v d z I1.al I.pm p1.has r1'.toB hz Q fun u H3 s q => h1 u H3 (.of_same s) (p1.same s) q
theorem de_bin {op : Operator} {r2 : R2} {rz : Rm} {g : D → D → Option D} (o : OpR X (binaryOp op) r2 ∧ SemOp X.mg X.K r2 rz g) (ha : DE X E ra Γ a ta fa) (hb : DE X E rb Γ b tb fb) : DE X E rz Γ (.BinOp a op b pos) (tOp r2 ta tb) (eBin g fa fb) :=
  ⟨pe_op o.1 ha.pe hb.pe, sem_bin o.2 ha.sem hb.sem⟩
theorem de_un {op : UnaryOp} {r1 : V → Hp → VK → Prop} {rz : Rm} {g : D → Option D} (o : UnR X (unaryOp op) r1 ∧ SemUn X.mg X.K r1 rz g) (ha : DE X E ra Γ a ta fa) : DE X E rz Γ (.UnaryOp op a pos) (tUn r1 ta) (eUn g fa) :=
  ⟨pe_un o.1 ha.pe, sem_un o.2 ha.sem⟩
theorem de_cmp {op : CmpOp} {r2 : R2} {rz : Rm} {g : D → D → Option D} (o : OpR X (compareOp op) r2 ∧ SemOp X.mg X.K r2 rz g) (ha : DE X E ra Γ a ta fa) (hb : DE X E rb Γ b tb fb) (hm : behindInMarks op b = false := by rfl) : DE X E rz Γ (.Compare a [op] [b] pos) (tOp r2 ta tb) (eBin g fa fb) :=
  ⟨pe_cmpR o.1 ha.pe hb.pe hm, sem_bin o.2 ha.sem hb.sem⟩
end
end DL
set_option maxHeartbeats 2000000
namespace DL
open PySem PySem.Spec PyProof.Rows L2
section
variable {mg : Str → Option Value} {K : PySem.W.Frag} {pot : Option Addr} {M : List Addr} {H H' : Hp} {v x : V} {d : D}
theorem rb_int {i : Int} (h : Rb mg K pot M H x (.int i)) : x = .int i := by
  rcases h with h | ⟨_, _, _, _, _, e⟩
  · cases h
    rfl
  · cases e
theorem rb_bl {i : Bool} (h : Rb mg K pot M H x (.bl i)) : x = .bl i := by
  rcases h with h | ⟨_, _, _, _, _, e⟩
  · cases h
    rfl
  · cases e
theorem rb_str {i : Str} (h : Rb mg K pot M H x (.str i)) : x = .str i := by
  rcases h with h | ⟨_, _, _, _, _, e⟩
  · cases h
    rfl
  · cases e
theorem rb_non (h : Rb mg K pot M H x .non) : x = .non := by
  rcases h with h | ⟨_, _, _, _, _, e⟩
  · cases h
    rfl
  · cases e
theorem less_le : Same (less H M) H := fun a o h => (less_some.mp h).2
theorem rb_lst {ds : List D} (h : Rb mg K pot M H x (.lst ds)) : ∃ p xs, x = .ref p ∧ H p = some (.lst xs) ∧ RpL mg K (less H M) xs ds := by
  rcases h with h | ⟨p, e1, _, o, h1, h2⟩
  · cases h with
    | lst h1 h2 => exact ⟨_, _, rfl, less_le _ _ h1, h2⟩
  · cases h2 with
    | lst h2 => exact ⟨p, _, e1, h1, h2.mono (less_sub fun a q => List.mem_cons_of_mem _ q)⟩
theorem rb_tupP {ds : List D} (h : Rb mg K pot M H x (.tup ds)) : ∃ p xs, x = .ref p ∧ less H M p = some (.tup xs) ∧ RpL mg K (less H M) xs ds := by
  rcases h with h | ⟨p, e1, _, o, h1, h2⟩
  · cases h with
    | tup h1 h2 => exact ⟨_, _, rfl, h1, h2⟩
  · cases h2
theorem rb_tup {ds : List D} (h : Rb mg K pot M H x (.tup ds)) : ∃ p xs, x = .ref p ∧ SqT K (less H M) p xs ∧ RpL mg K (less H M) xs ds := by
  obtain ⟨p, xs, e, h1, h2⟩ := rb_tupP h
  exact ⟨p, xs, e, .inl (.inl h1), h2⟩
theorem rb_rp (h : Rb mg K pot M H x d) : Rp mg K H x d := by
  rcases h with h | ⟨p, e1, _, o, h1, h2⟩
  · exact h.mono less_le
  · cases e1
    exact HoR.rp h1 (h2.mono less_le)
theorem less_new {q : Addr} {o : HO} (hn : H q = none) : Same (less H M) (less (upd H q o) (q :: M)) := fun a u h => by
  obtain ⟨h1, h2⟩ := less_some.mp h
  have n := ne_of_none h2 hn
  refine less_some.mpr ⟨fun m => ?_, ?_⟩
  · rcases List.mem_cons.mp m with e | m
    · exact n e
    · exact h1 m
  · rw [upd_ne n]
    exact h2
theorem less_new1 {q : Addr} {o : HO} (hn : H q = none) : Same (less H M) (less (upd H q o) M) := fun a u h => by
  obtain ⟨h1, h2⟩ := less_some.mp h
  refine less_some.mpr ⟨h1, ?_⟩
  rw [upd_ne (ne_of_none h2 hn)]
  exact h2
theorem new_lst {q : Addr} {xs : List V} {ds : List D} (hp : ∀ a, pot = some a → H a ≠ none) (hn : H q = none) (r : RpL mg K (less H M) xs ds) : RpR mg K .o pot M H (upd H q (.lst xs)) (.ref q) (.lst ds) :=
  ⟨q, rfl, hn, fun e => hp q e hn, _, upd_same, .lst (r.mono (less_new hn))⟩
theorem new_tup {q : Addr} {xs : List V} {ds : List D} (al : ∀ a ∈ M, Al H a) (hn : H q = none) (r : RpL mg K (less H M) xs ds) : Rp mg K (less (upd H q (.tup xs)) M) (.ref q) (.tup ds) :=
  .tup (less_some.mpr ⟨fun m => (al q m).nn hn, upd_same⟩) (r.mono (less_new1 hn))
theorem new_lstF {q : Addr} {xs : List V} {ds : List D} (al : ∀ a ∈ M, Al H a) (hn : H q = none) (r : RpL mg K (less H M) xs ds) : Rp mg K (less (upd H q (.lst xs)) M) (.ref q) (.lst ds) :=
  .lst (less_some.mpr ⟨fun m => (al q m).nn hn, upd_same⟩) (r.mono (less_new1 hn))
end
def opAdd : D → D → Option D
  | .int i, .int j => some (.int (i + j))
  | .lst xs, .lst ys => if xs.length + ys.length ≤ sizeLine then some (.lst (xs ++ ys)) else none
  | .tup xs, .tup ys => if xs.length + ys.length ≤ sizeLine then some (.tup (xs ++ ys)) else none
  | .str x, .str y => if x.length + y.length ≤ sizeLine then some (.str (x ++ y)) else none
  | _, _ => none
def opSub : D → D → Option D
  | .int i, .int j => some (.int (i - j))
  | _, _ => none
def small (i : Int) : Bool := decide (-18446744073709551616 < i ∧ i < 18446744073709551616)
def opRep : D → D → Option D
  | .lst xs, .int k => if decide (-9223372036854775808 ≤ k ∧ k < 9223372036854775808) && decide (xs.length * k.toNat ≤ sizeLine) then some (.lst (List.replicate k.toNat xs).flatten) else none
  | _, _ => none
def opFdivW : D → D → Option D
  | .int i, .int j => if 0 < j ∧ j.natAbs.log2 < 9000 then some (.int (i / j)) else if j < 0 ∧ j.natAbs.log2 < 9000 then some (.int (i.fdiv j)) else none
  | _, _ => none
def opMod : D → D → Option D
  | .int i, .int j => if 0 < j then some (.int (i % j)) else none
  | _, _ => none
def opPow : D → D → Option D
  | .int i, .int j => if decide (0 ≤ j ∧ j ≤ 1000000) && small i then some (.int (i ^ j.toNat)) else none
  | _, _ => none
def opNeg : D → Option D
  | .int i => some (.int (-i))
  | _ => none
def cmpI (p : Int → Int → Bool) : D → D → Option D
  | .int i, .int j => some (.bl (p i j))
  | _, _ => none
def eqP (d e : D) : Option Bool := match toPy d, toPy e with
  | some p, some q => if SeqAt.shaped p && SeqAt.shaped q then some (PyData.eqv p q) else none
  | _, _ => none
def eqD : D → D → Option Bool
  | .str x, .str y => some (decide (x = y))
  | .int x, .int y => some (decide (x = y))
  | d, e => eqP d e
def opEq (d e : D) : Option D := (eqD d e).map .bl
def opNe (d e : D) : Option D := (eqD d e).map fun b => .bl (!b)
def isNonD : D → Bool
  | .non => true
  | _ => false
def opIsN (d e : D) : Option D := if isNonD e then some (.bl (isNonD d)) else none
def opNotN (d e : D) : Option D := if isNonD e then some (.bl (!isNonD d)) else none
/-- is it this bool -/
def isBl (b : Bool) : D → Bool
  | .bl a => decide (a = b)
  | _ => false
def opNotB (d e : D) : Option D := match e with
  | .bl b => some (.bl (!isBl b d))
  | _ => none
section
variable {X : Cx} {E : XK} {k : Nat}
abbrev OpOk (X : Cx) (f : Value → Value → Sem Value) (r2 : R2) (rz : Rm) (g : D → D → Option D) : Prop := OpR X f r2 ∧ SemOp X.mg X.K r2 rz g
theorem sem_int {mg : Str → Option Value} {K : PySem.W.Frag} {C : Int → Int → Prop} {g : D → D → Option D} {gi : Int → Int → Int} (h : ∀ d e z, g d e = some z → ∃ i j, d = .int i ∧ e = .int j ∧ C i j ∧ z = .int (gi i j)) : SemOp mg K (rI C fun i j => .int (gi i j)) .f g := by
  intro pot M H x y d e z al pm ph rx ry hz Q q
  obtain ⟨i, j, rfl, rfl, c, rfl⟩ := h d e z hz
  exact ⟨i, j, rb_int rx, rb_int ry, c, q _ H (Same.refl H) (.int _)⟩
theorem sem_int0 {mg : Str → Option Value} {K : PySem.W.Frag} {g : D → D → Option D} {gi : Int → Int → V} {gd : Int → Int → D} (hr : ∀ i j H, Rp mg K H (gi i j) (gd i j)) (h : ∀ d e z, g d e = some z → ∃ i j, d = .int i ∧ e = .int j ∧ z = gd i j) : SemOp mg K (rI0 gi) .f g := by
  intro pot M H x y d e z al pm ph rx ry hz Q q
  obtain ⟨i, j, rfl, rfl, rfl⟩ := h d e z hz
  exact ⟨i, j, rb_int rx, rb_int ry, q _ H (Same.refl H) (hr _ _ _)⟩
theorem o_sub : OpOk X (binaryOp .Sub) (rI0 fun i j => .int (i - j)) .f opSub := ⟨op_sub, sem_int0 (gd := fun i j => .int (i - j)) (fun _ _ _ => .int _) fun d e z h => by
  cases d <;> cases e <;> simp [opSub] at h
  exact ⟨_, _, rfl, rfl, h.symm⟩⟩
def CDivA (_ j : Int) : Prop := j ≠ 0 ∧ j.natAbs.log2 < 9000
theorem op_fdivA : OpR X (binaryOp .FloorDiv) (rI CDivA fun i j => .int (i.fdiv j)) := opI fun i j _ _ _ _ _ hc q => floordiv_int hc.1 q (.inl (PyProof.noPylong_of_log2 hc.2))
theorem o_fdivW : OpOk X (binaryOp .FloorDiv) (rI CDivA fun i j => .int (i.fdiv j)) .f opFdivW := ⟨op_fdivA, sem_int (gi := fun i j => i.fdiv j) fun d e z h => by
  cases d <;> cases e <;> simp only [opFdivW] at h <;> try cases h
  rename_i i j
  by_cases h1 : 0 < j ∧ j.natAbs.log2 < 9000
  · rw [if_pos h1] at h
    cases h
    exact ⟨_, _, rfl, rfl, ⟨by omega, h1.2⟩, by rw [Int.fdiv_eq_ediv_of_nonneg i (by omega)]⟩
  · rw [if_neg h1] at h
    by_cases h2 : j < 0 ∧ j.natAbs.log2 < 9000
    · rw [if_pos h2] at h
      cases h
      exact ⟨_, _, rfl, rfl, ⟨by omega, h2.2⟩, rfl⟩
    · rw [if_neg h2] at h; cases h⟩
theorem o_mod : OpOk X (binaryOp .Mod) (rI (fun _ j => 0 < j) fun i j => .int (i % j)) .f opMod := ⟨op_mod, sem_int (gi := fun i j => i % j) fun d e z h => by
  cases d <;> cases e <;> simp [opMod] at h
  exact ⟨_, _, rfl, rfl, h.1, h.2.symm⟩⟩
theorem o_pow : OpOk X (binaryOp .Pow) (rI CPow fun i j => .int (i ^ j.toNat)) .f opPow := ⟨op_pow, sem_int (gi := fun i j => i ^ j.toNat) fun d e z h => by
  cases d <;> cases e <;> simp [opPow, small] at h
  exact ⟨_, _, rfl, rfl, (by unfold CPow; omega), h.2.symm⟩⟩
theorem o_neg : UnR X (unaryOp .USub) (rU fun i => .int (-i)) ∧ SemUn X.mg X.K (rU fun i => .int (-i)) .f opNeg := ⟨un_neg, fun pot M H x d z al pm ph rx hz Q q => by
  cases d <;> simp [opNeg] at hz
  subst hz
  exact ⟨_, rb_int rx, q _ H (Same.refl H) (.int _)⟩⟩
theorem o_lt : OpOk X (compareOp .Lt) (rI0 fun i j => .bl (decide (i < j))) .f (cmpI fun i j => decide (i < j)) := ⟨op_lt, sem_int0 (gd := fun i j => .bl (decide (i < j))) (fun _ _ _ => .bl _) fun d e z h => by
  cases d <;> cases e <;> simp [cmpI] at h
  exact ⟨_, _, rfl, rfl, h.symm⟩⟩
theorem o_le : OpOk X (compareOp .LtE) (rI0 fun i j => .bl (decide (i ≤ j))) .f (cmpI fun i j => decide (i ≤ j)) := ⟨op_le, sem_int0 (gd := fun i j => .bl (decide (i ≤ j))) (fun _ _ _ => .bl _) fun d e z h => by
  cases d <;> cases e <;> simp [cmpI] at h
  exact ⟨_, _, rfl, rfl, h.symm⟩⟩
theorem o_gt : OpOk X (compareOp .Gt) (rI0 fun i j => .bl (decide (j < i))) .f (cmpI fun i j => decide (j < i)) := ⟨op_gt, sem_int0 (gd := fun i j => .bl (decide (j < i))) (fun _ _ _ => .bl _) fun d e z h => by
  cases d <;> cases e <;> simp [cmpI] at h
  exact ⟨_, _, rfl, rfl, h.symm⟩⟩
theorem o_ge : OpOk X (compareOp .GtE) (rI0 fun i j => .bl (decide (j ≤ i))) .f (cmpI fun i j => decide (j ≤ i)) := ⟨op_ge, sem_int0 (gd := fun i j => .bl (decide (j ≤ i))) (fun _ _ _ => .bl _) fun d e z h => by
  cases d <;> cases e <;> simp [cmpI] at h
  exact ⟨_, _, rfl, rfl, h.symm⟩⟩
theorem o_rep : OpOk X (binaryOp .Mult) rRep .o opRep := ⟨op_rep, fun pot M H x y d e z al pm ph rx ry hz Q q => by
  cases d <;> cases e <;> simp [opRep] at hz
  obtain ⟨p, xs, rfl, h1, r1⟩ := rb_lst rx
  obtain ⟨⟨h3, h4⟩, rfl⟩ := hz
  refine ⟨p, _, xs, rfl, rb_int ry, h1, by omega, by omega, by rw [r1.length]; exact h4, fun l hn => ?_⟩
  exact q _ _ (same_upd hn) (new_lst ph hn (r1.flat _))⟩
/-- + of ints, texts, lists, tuples -/
def rAddA (K : PySem.W.Frag) : R2 := fun x y H Q => rI0 (fun i j => .int (i + j)) x y H Q ∨ (∃ i j, x = .str i ∧ y = .str j ∧ i.length + j.length ≤ sizeLine ∧ Q (.str (i ++ j)) H) ∨ rCat x y H Q ∨ rCatA K x y H Q
theorem o_add : OpOk X (binaryOp .Add) (rAddA X.K) .f opAdd := ⟨op_add.or (op_add_str.or (op_cat.or op_catA)), fun pot M H x y d e z al pm ph rx ry hz Q q => by
  cases d <;> cases e <;> simp [opAdd] at hz
  · subst hz
    exact .inl ⟨_, _, rb_int rx, rb_int ry, q _ H (Same.refl H) (.int _)⟩
  · obtain ⟨hl, rfl⟩ := hz
    exact .inr (.inl ⟨_, _, rb_str rx, rb_str ry, hl, q _ H (Same.refl H) (.str _)⟩)
  · obtain ⟨p, xs, rfl, h1, r1⟩ := rb_lst rx
    obtain ⟨p', ys, rfl, h2, r2⟩ := rb_lst ry
    obtain ⟨hl, rfl⟩ := hz
    refine .inr (.inr (.inl ⟨p, p', xs, ys, rfl, rfl, h1, h2, by rw [r1.length, r2.length]; exact hl, fun l hn => ?_⟩))
    exact q _ _ (same_upd hn) (new_lstF al hn (r1.append r2))
  · obtain ⟨p, xs, rfl, h1, r1⟩ := rb_tupP rx
    obtain ⟨p', ys, rfl, h2, r2⟩ := rb_tupP ry
    obtain ⟨hl, rfl⟩ := hz
    refine .inr (.inr (.inr ⟨p, p', xs, ys, rfl, rfl, .inl (.inl (less_le _ _ h1)), .inl (.inl (less_le _ _ h2)), by rw [r1.length, r2.length]; exact hl, fun e0 => ?_, fun e0 e1 => ?_, fun e0 e1 l hn => ?_⟩))
    · subst e0
      cases r1
      exact q _ H (Same.refl H) (.tup h2 r2)
    · subst e1
      cases r2
      rw [List.append_nil] at q
      exact q _ H (Same.refl H) (.tup h1 r1)
    · exact q _ _ (same_upd hn) (new_tup al hn (r1.append r2))⟩
theorem dec_strV {i j : Str} : decide (V.str i = V.str j) = decide (i = j) := by
  rw [Bool.eq_iff_iff]
  simp
theorem dec_intV {i j : Int} : decide (V.int i = V.int j) = decide (i = j) := by
  rw [Bool.eq_iff_iff]
  simp
theorem o_eq (x : XOk X E k) : OpOk X (compareOp .Eq) (fun x y H Q => rEq x y H Q ∨ rEqD X.K x y H Q) .f opEq := ⟨op_eq.or (op_eqD x.u64), fun pot M H x y d e z al pm ph rx ry hz Q q => by
  unfold opEq eqD at hz
  split at hz
  · cases hz
    rw [rb_str rx, rb_str ry]
    exact .inl ⟨rfl, by rw [dec_strV]; exact q _ H (Same.refl H) (.bl _)⟩
  · cases hz
    rw [rb_int rx, rb_int ry]
    exact .inl ⟨rfl, by rw [dec_intV]; exact q _ H (Same.refl H) (.bl _)⟩
  · unfold eqP at hz
    split at hz
    · rename_i p p' e1 e2
      split at hz
      · rename_i hs
        cases hz
        obtain ⟨s1, s2⟩ := Bool.and_eq_true_iff.mp hs
        exact .inr ⟨p, p', (rb_rp rx).dp e1, (rb_rp ry).dp e2, s1, s2, q _ H (Same.refl H) (.bl _)⟩
      · cases hz
    · cases hz⟩
theorem o_ne (x : XOk X E k) : OpOk X (compareOp .NotEq) (fun x y H Q => rNe x y H Q ∨ rNeD X.K x y H Q) .f opNe := ⟨op_ne.or (op_neD x.u64), fun pot M H x y d e z al pm ph rx ry hz Q q => by
  unfold opNe eqD at hz
  split at hz
  · cases hz
    rw [rb_str rx, rb_str ry]
    exact .inl ⟨rfl, by rw [dec_strV]; exact q _ H (Same.refl H) (.bl _)⟩
  · cases hz
    rw [rb_int rx, rb_int ry]
    exact .inl ⟨rfl, by rw [dec_intV]; exact q _ H (Same.refl H) (.bl _)⟩
  · unfold eqP at hz
    split at hz
    · rename_i p p' e1 e2
      split at hz
      · rename_i hs
        cases hz
        obtain ⟨s1, s2⟩ := Bool.and_eq_true_iff.mp hs
        exact .inr ⟨p, p', (rb_rp rx).dp e1, (rb_rp ry).dp e2, s1, s2, q _ H (Same.refl H) (.bl _)⟩
      · cases hz
    · cases hz⟩
theorem rb_isN {mg : Str → Option Value} {K : PySem.W.Frag} {pot : Option Addr} {M : List Addr} {H : Hp} {x : V} {d : D} (h : Rb mg K pot M H x d) : decide (x = .non) = isNonD d := by
  rcases h with h | ⟨p, e1, _, o, h1, h2⟩
  · cases h <;> rfl
  · cases e1
    cases h2 <;> rfl
theorem o_isN : OpOk X (compareOp .Is) (fun x y H Q => y = .non ∧ Q (.bl (decide (x = .non))) H) .f opIsN := ⟨op_isN, fun pot M H x y d e z al pm ph rx ry hz Q q => by
  cases e <;> simp [opIsN, isNonD] at hz
  have hz' : z = .bl _ := hz.symm
  subst hz'
  rw [rb_isN rx]
  exact ⟨rb_non ry, q _ H (Same.refl H) (.bl _)⟩⟩
theorem o_notN : OpOk X (compareOp .IsNot) (fun x y H Q => y = .non ∧ Q (.bl (!decide (x = .non))) H) .f opNotN := ⟨op_notN, fun pot M H x y d e z al pm ph rx ry hz Q q => by
  cases e <;> simp [opNotN, isNonD] at hz
  have hz' : z = .bl _ := hz.symm
  subst hz'
  rw [rb_isN rx]
  exact ⟨rb_non ry, q _ H (Same.refl H) (.bl _)⟩⟩
theorem isnot_bool_gen {P : Program} {w : World} {A : Around} {E : Value → Shared → Prop} {v : Value} {b : Bool} {Q : Value → Shared → Prop} {s : Shared} (hv : ∀ n, v ≠ .builtin n) (h : Q (.bool (!(v == .bool b))) s) : wpAny (model P w) A (compareOp .IsNot v (.bool b)) Q E s := by
  cases v <;> first
    | exact wpAny_pure h
    | exact absurd rfl (hv _)
def rNotBA : R2 := fun x y H Q => ∃ b : Bool, y = .bl b ∧ Q (.bl (!decide (x = .bl b))) H
theorem rel_bool {x : V} {v : Value} (b : Bool) (h : RelV x v) : (∀ n, v ≠ .builtin n) ∧ (v == .bool b) = decide (x = .bl b) := by
  cases x <;> first
    | (cases h; refine ⟨fun n e => (nomatch e), ?_⟩; rfl)
    | (obtain ⟨t, rfl⟩ := h; exact ⟨fun n e => (nomatch e), rfl⟩)
    | (cases h; refine ⟨fun n e => (nomatch e), ?_⟩; rw [Bool.eq_iff_iff]; simp)
theorem op_notBA : OpR X (compareOp .IsNot) rNotBA := by
  intro pins s σ H x y v u Q I rx ry h
  obtain ⟨b, rfl, q⟩ := h
  cases (show u = Value.bool b from ry)
  obtain ⟨h1, h2⟩ := rel_bool b rx
  exact isnot_bool_gen h1 ⟨.bl _, H, I, congrArg (fun z => Value.bool (!z)) h2, q⟩
theorem rb_isB {mg : Str → Option Value} {K : PySem.W.Frag} {pot : Option Addr} {M : List Addr} {H : Hp} {x : V} {d : D} (b : Bool) (h : Rb mg K pot M H x d) : decide (x = .bl b) = isBl b d := by
  rcases h with h | ⟨p, e1, _, o, h1, h2⟩
  · cases h <;> first
      | rfl
      | (unfold isBl; rw [Bool.eq_iff_iff]; simp)
  · cases e1
    cases h2 <;> rfl
theorem o_notB : OpOk X (compareOp .IsNot) rNotBA .f opNotB := ⟨op_notBA, fun pot M H x y d e z al pm ph rx ry hz Q q => by
  cases e <;> simp [opNotB] at hz
  subst hz
  refine ⟨_, rb_bl ry, ?_⟩
  rw [rb_isB _ rx]
  exact q _ H (Same.refl H) (.bl _)⟩
end
end DL
set_option maxHeartbeats 2000000
namespace DL
open PySem PySem.Spec PyProof.Rows L2
section
variable {mg : Str → Option Value} {K : PySem.W.Frag} {pot : Option Addr} {M : List Addr} {H H' : Hp} {v x : V} {d : D}
theorem RpL.empty {vs : List V} {ds : List D} (h : RpL mg K H vs ds) : vs.isEmpty = ds.isEmpty := by
  cases h <;> rfl
theorem tru_of {k : Bool} (h : Rb mg K pot M H x d) (e : truth d = some k) : TruV K x H k := by
  cases d with
  | non =>
    cases rb_non h
    cases e
    rfl
  | bl b =>
    cases rb_bl h
    cases e
    rfl
  | int i =>
    cases rb_int h
    simp only [truth, Option.some.injEq] at e
    exact e.symm
  | str y =>
    cases rb_str h
    simp only [truth] at e
    split at e
    · rename_i hl
      simp only [Option.some.injEq] at e
      exact ⟨hl, e.symm⟩
    · cases e
  | lst ds =>
    obtain ⟨p, xs, rfl, h1, r1⟩ := rb_lst h
    simp only [truth, Option.some.injEq] at e
    exact .inl ⟨xs, .inl (.inl h1), by rw [r1.empty, e]⟩
  | tup ds =>
    obtain ⟨p, xs, rfl, h1, r1⟩ := rb_tup h
    simp only [truth, Option.some.injEq] at e
    exact .inr (.inl ⟨xs, sqT_mono less_le h1, by rw [r1.empty, e]⟩)
  | dic ks xs => cases e
  | ins c ns xs => cases e
theorem Args.rpl : ∀ {ks : List Ak} {vs : List V} {ds : List D}, Args mg K pot M H ks vs ds → (∀ k ∈ ks, k = Ak.f) → RpL mg K (less H M) vs ds
  | _, _, _, .nil, _ => .nil
  | _, _, _, .cons (k := k) a r, h => by
    have e : k = .f := h k (List.mem_cons_self ..)
    subst e
    exact .cons a (r.rpl fun k hk => h k (List.mem_cons_of_mem _ hk))
end
section
variable {X : Cx} {E : XK} {Γ : List Md} {r ra rb rc : Rm} {e a b c : Expr} {ta tb tc te : TE} {fa fb fc fe : Ed} {tt uu : TT} {ft fu : Et} {pos : Pos} {k : Nat} {ks : List Ak} {es rest : List Expr} {tA : TA} {fA : Ea}
theorem de_one {op : BoolOp} (ha : DE X E r Γ a ta fa) : DE X E r Γ (.BoolOp op [a] pos) ta fa := ⟨pe_one ha.pe, ha.sem⟩
theorem de_and (ha : DE X E .f Γ a ta fa) (hb : DE X E .f Γ (.BoolOp .And (b :: rest) pos) tb fb) : DE X E .f Γ (.BoolOp .And (a :: b :: rest) pos) (tAndT X.K ta tb) (eAnd fa fb) :=
  ⟨pe_andT ha.pe hb.pe, fun pot M σ H ρ π I p Q h => by
    refine Post.seq (r' := .f) (te := ta σ H) h p (fun Q' hq => ha.sem pot M σ H ρ π I p Q' hq) fun d π1 v H1 _ g1 p1 r1 h1 => ?_
    cases hz : truth d with
    | none =>
      simp only [hz, ofO_none, Res.bind_stuck] at h1
      exact h1.elim
    | some z =>
      simp only [hz, ofO_some, Res.bind_ok] at h1
      refine ⟨z, tru_of r1.toB hz, ?_⟩
      cases z with
      | true => exact hb.sem pot M σ H1 ρ π1 (I.grow g1 p1) p1 Q h1
      | false => exact h1 v H1 .refl p1 r1⟩
theorem de_or (ha : DE X E .f Γ a ta fa) (hb : DE X E .f Γ (.BoolOp .Or (b :: rest) pos) tb fb) : DE X E .f Γ (.BoolOp .Or (a :: b :: rest) pos) (tOrT X.K ta tb) (eOr fa fb) :=
  ⟨pe_orT ha.pe hb.pe, fun pot M σ H ρ π I p Q h => by
    refine Post.seq (r' := .f) (te := ta σ H) h p (fun Q' hq => ha.sem pot M σ H ρ π I p Q' hq) fun d π1 v H1 _ g1 p1 r1 h1 => ?_
    cases hz : truth d with
    | none =>
      simp only [hz, ofO_none, Res.bind_stuck] at h1
      exact h1.elim
    | some z =>
      simp only [hz, ofO_some, Res.bind_ok] at h1
      refine ⟨z, tru_of r1.toB hz, ?_⟩
      cases z with
      | true => exact h1 v H1 .refl p1 r1
      | false => exact hb.sem pot M σ H1 ρ π1 (I.grow g1 p1) p1 Q h1⟩
theorem de_not (ha : DE X E r Γ a ta fa) : DE X E .f Γ (.UnaryOp .Not a pos) (tNotT X.K ta) (eNot fa) :=
  ⟨pe_notT ha.pe, fun pot M σ H ρ π I p Q h => by
    refine Post.seq (r' := r) (te := ta σ H) h p (fun Q' hq => ha.sem pot M σ H ρ π I p Q' hq) fun d π1 v H1 _ g1 p1 r1 h1 => ?_
    cases hz : truth d with
    | none =>
      simp only [hz, ofO_none, Res.bind_stuck] at h1
      exact h1.elim
    | some z =>
      simp only [hz, ofO_some, Res.bind_ok] at h1
      exact ⟨z, tru_of r1.toB hz, h1 _ H1 .refl p1 (.bl _)⟩⟩
theorem PostT.seq {pot : Option Addr} {M : List Addr} {H : Hp} {π : Pot} {x : Res (Bool × Pot)} {kk : Bool × Pot → Res (D × Pot)} {Q : VK} (h : Post X.mg X.K r pot M H (x.bind kk) Q E) (h0 : PotAt pot H π)
    {te : (Bool → Hp → Prop) → Prop} (ht : ∀ Q', PostT X.mg X.K pot M H x Q' E → te Q') {R : Bool → Hp → Prop}
    (hk : ∀ d π1 H1, x = .ok (d, π1) → Grow pot H H1 → PotAt pot H1 π1 → Post X.mg X.K r pot M H1 (kk (d, π1)) Q E → R d H1) : te R := by
  refine ht R ?_
  cases x with
  | ok a =>
    obtain ⟨d, π1⟩ := a
    exact fun H1 g p => hk d π1 H1 rfl g p (Post.back g h0 h)
  | err c ns xs π' => exact h
  | stuck => exact h
theorem PostT.seqT {pot : Option Addr} {M : List Addr} {H : Hp} {x : Res (Bool × Pot)} {kk : Bool × Pot → Res (Bool × Pot)} {Q : Bool → Hp → Prop} (h : PostT X.mg X.K pot M H (x.bind kk) Q E)
    {te : (Bool → Hp → Prop) → Prop} (ht : ∀ Q', PostT X.mg X.K pot M H x Q' E → te Q') {R : Bool → Hp → Prop}
    (hk : ∀ d π1 H1, x = .ok (d, π1) → Grow pot H H1 → PotAt pot H1 π1 → PostT X.mg X.K pot M H1 (kk (d, π1)) Q E → R d H1) : te R := by
  refine ht R ?_
  cases x with
  | ok a =>
    obtain ⟨d, π1⟩ := a
    exact fun H1 g p => hk d π1 H1 rfl g p (PostT.back g h)
  | err c ns xs π' => exact h
  | stuck => exact h
theorem Post.seqT {pot : Option Addr} {M : List Addr} {H : Hp} {x : Res (D × Pot)} {kk : D × Pot → Res (Bool × Pot)} {Q : Bool → Hp → Prop} (h : PostT X.mg X.K pot M H (x.bind kk) Q E)
    {te : VK → Prop} (ht : ∀ Q', Post X.mg X.K r pot M H x Q' E → te Q') {R : VK}
    (hk : ∀ d π1 v H1, x = .ok (d, π1) → Grow pot H H1 → PotAt pot H1 π1 → RpR X.mg X.K r pot M H H1 v d → PostT X.mg X.K pot M H1 (kk (d, π1)) Q E → R v H1) : te R := by
  refine ht R ?_
  cases x with
  | ok a =>
    obtain ⟨d, π1⟩ := a
    exact fun v H1 g p q => hk d π1 v H1 rfl g p q (PostT.back g h)
  | err c ns xs π' => exact h
  | stuck => exact h
theorem de_if (hc : DT X E Γ c tt ft) (ha : DE X E r Γ a ta fa) (hb : DE X E r Γ b tb fb) : DE X E r Γ (.IfExp c a b pos) (tIf tt ta tb) (eIf ft fa fb) :=
  ⟨pe_ifExp hc.pt ha.pe hb.pe, fun pot M σ H ρ π I p Q h => by
    refine PostT.seq (te := tt σ H) h p (fun Q' hq => hc.sem pot M σ H ρ π I p Q' hq) fun d π1 H1 _ g1 p1 h1 => ?_
    cases d with
    | true => exact ha.sem pot M σ H1 ρ π1 (I.grow g1 p1) p1 Q h1
    | false => exact hb.sem pot M σ H1 ρ π1 (I.grow g1 p1) p1 Q h1⟩
theorem dt_of (ha : DE X E r Γ a ta fa) (he : ∀ whole, isTrue a X.env whole = (do let v ← whole; standAt a.pos; holding [v] (truthy v)) := by intro _; rfl) : DT X E Γ a (fun σ H Q => ta σ H fun x H' => ∃ k, TruV X.K x H' k ∧ Q k H') (tOf fa) :=
  ⟨pt_truth ha.pe he, fun pot M σ H ρ π I p Q h => by
    refine Post.seqT (r := r) (te := ta σ H) h (fun Q' hq => ha.sem pot M σ H ρ π I p Q' hq) fun d π1 v H1 _ g1 p1 r1 h1 => ?_
    cases hz : truth d with
    | none =>
      simp only [hz, ofO_none, Res.bind_stuck] at h1
      exact h1.elim
    | some z =>
      simp only [hz, ofO_some, Res.bind_ok] at h1
      exact ⟨z, tru_of r1.toB hz, h1 H1 .refl p1⟩⟩
theorem sem_bl {t : TE} {f : Ed} (ha : SemE X.mg X.K E .f Γ t f) : SemT X.mg X.K E Γ (tTest t) (tBl f) := fun pot M σ H ρ π I p Q h => by
  refine Post.seqT (r := .f) (te := t σ H) h (fun Q' hq => ha pot M σ H ρ π I p Q' hq) fun d π1 v H1 _ g1 p1 r1 h1 => ?_
  cases d with
  | bl z =>
    cases rb_bl (RpR.toB (r := .f) r1)
    exact ⟨z, rfl, h1 H1 .refl p1⟩
  | _ => exact h1.elim
theorem dt_cmp {op : CmpOp} {r2 : R2} {g : D → D → Option D} (o : OpOk X (compareOp op) r2 .f g) (ha : DE X E ra Γ a ta fa) (hb : DE X E rb Γ b tb fb) (hm : behindInMarks op b = false := by rfl) : DT X E Γ (.Compare a [op] [b] pos) (tTest (tOp r2 ta tb)) (tBl (eBin g fa fb)) :=
  ⟨pt_cmpR o.1 ha.pe hb.pe hm, sem_bl (sem_bin o.2 ha.sem hb.sem)⟩
theorem dt_not (hc : DT X E Γ c tt ft) : DT X E Γ (.UnaryOp .Not c pos) (tNot tt) (tNotD ft) :=
  ⟨pt_not hc.pt, fun pot M σ H ρ π I p Q h => by
    refine PostT.seqT (te := tt σ H) h (fun Q' hq => hc.sem pot M σ H ρ π I p Q' hq) fun d π1 H1 _ g1 p1 h1 => ?_
    exact h1 H1 .refl p1⟩
theorem dw_and1 (hc : DT X E Γ c tt ft) : DW X E Γ (.BoolOp .And [c] pos) tt ft := ⟨pw_and1 hc.pt, hc.sem⟩
theorem dw_or1 (hc : DT X E Γ c tt ft) : DW X E Γ (.BoolOp .Or [c] pos) tt ft := ⟨pw_or1 hc.pt, hc.sem⟩
theorem dw_and (hc : DT X E Γ a tt ft) (hb : DW X E Γ (.BoolOp .And (b :: rest) pos) uu fu) : DW X E Γ (.BoolOp .And (a :: b :: rest) pos) (tAnd tt uu) (tAndD ft fu) :=
  ⟨pw_and hc.pt hb.pw, fun pot M σ H ρ π I p Q h => by
    refine PostT.seqT (te := tt σ H) h (fun Q' hq => hc.sem pot M σ H ρ π I p Q' hq) fun d π1 H1 _ g1 p1 h1 => ?_
    cases d with
    | true => exact hb.sem pot M σ H1 ρ π1 (I.grow g1 p1) p1 Q h1
    | false => exact h1 H1 .refl p1⟩
theorem dw_or (hc : DT X E Γ a tt ft) (hb : DW X E Γ (.BoolOp .Or (b :: rest) pos) uu fu) : DW X E Γ (.BoolOp .Or (a :: b :: rest) pos) (tOr tt uu) (tOrD ft fu) :=
  ⟨pw_or hc.pt hb.pw, fun pot M σ H ρ π I p Q h => by
    refine PostT.seqT (te := tt σ H) h (fun Q' hq => hc.sem pot M σ H ρ π I p Q' hq) fun d π1 H1 _ g1 p1 h1 => ?_
    cases d with
    | true => exact h1 H1 .refl p1
    | false => exact hb.sem pot M σ H1 ρ π1 (I.grow g1 p1) p1 Q h1⟩
/-- a < b <= c -/
def eChain (g g' : D → D → Option D) (a b c : Ed) : Ed := fun ρ π => (a ρ π).bind fun x => (b ρ x.2).bind fun y => (ofO (g x.1 y.1)).bind fun z => match z with
  | .bl true => (c ρ y.2).bind fun u => (ofO (g' y.1 u.1)).bind fun q => .ok (q, u.2)
  | .bl false => .ok (.bl false, y.2)
  | _ => .stuck
theorem sem_chain {r2 r2' : R2} {g g' : D → D → Option D} (o : SemOp X.mg X.K r2 .f g) (o' : SemOp X.mg X.K r2' .f g') (ha : SemE X.mg X.K E ra Γ ta fa) (hb : SemE X.mg X.K E rb Γ tb fb) (hc : SemE X.mg X.K E rc Γ tc fc) :
    SemE X.mg X.K E .f Γ (tChain r2 r2' ta tb tc) (eChain g g' fa fb fc) := fun pot M σ H ρ π I p Q h => by
  refine Post.seq (r' := ra) (te := ta σ H) h p (fun Q' hq => ha pot M σ H ρ π I p Q' hq) fun d π1 v H1 _ g1 p1 r1 h1 => ?_
  refine Post.seq (r' := rb) (te := tb σ H1) h1 p1 (fun Q' hq => hb pot M σ H1 ρ π1 (I.grow g1 p1) p1 Q' hq) fun e π2 w H2 _ g2 p2 r2 h2 => ?_
  have I2 := I.grow (g1.trans g2) p2
  cases hz : g d e with
  | none =>
    simp only [hz, ofO_none, Res.bind_stuck] at h2
    exact h2.elim
  | some z =>
    simp only [hz, ofO_some, Res.bind_ok] at h2
    refine o pot M H2 v w d e z I2.al I.pm p2.has (r1.toB.grow I.pm g2) r2.toB hz _ fun u H3 s q => ?_
    have g3 : Grow pot H2 H3 := .of_same s
    have p3 := p2.same s
    cases z with
    | bl kk =>
      cases rb_bl (RpR.toB (r := .f) q)
      refine ⟨kk, rfl, ?_⟩
      cases kk with
      | true =>
        refine Post.seq (r' := rc) (te := tc σ H3) (Post.back g3 p2 h2) p3 (fun Q' hq => hc pot M σ H3 ρ π2 (I2.grow g3 p3) p3 Q' hq) fun f π4 w4 H4 _ g4 p4 r4 h4 => ?_
        cases hy : g' e f with
        | none =>
          simp only [hy, ofO_none, Res.bind_stuck] at h4
          exact h4.elim
        | some y =>
          simp only [hy, ofO_some, Res.bind_ok] at h4
          exact o' pot M H4 w w4 e f y ((I2.grow g3 p3).grow g4 p4).al I.pm p4.has (r2.toB.grow I.pm (g3.trans g4)) r4.toB hy Q fun u H5 s q => h4 u H5 (.of_same s) (p4.same s) q
      | false => exact h2 _ H3 g3 p3 (.bl _)
    | _ => exact h2.elim
theorem de_chain {op op' : CmpOp} {r2 r2' : R2} {g g' : D → D → Option D} (o : OpOk X (compareOp op) r2 .f g) (o' : OpOk X (compareOp op') r2' .f g') (ha : DE X E ra Γ a ta fa) (hb : DE X E rb Γ b tb fb) (hc : DE X E rc Γ c tc fc)
    (hm : lastMarks [op, op'] [b, c] = false := by rfl) : DE X E .f Γ (.Compare a [op, op'] [b, c] pos) (tChain r2 r2' ta tb tc) (eChain g g' fa fb fc) :=
  ⟨pe_chain o.1 o'.1 ha.pe hb.pe hc.pe hm, sem_chain o.2 o'.2 ha.sem hb.sem hc.sem⟩
theorem dt_chain {op op' : CmpOp} {r2 r2' : R2} {g g' : D → D → Option D} (o : OpOk X (compareOp op) r2 .f g) (o' : OpOk X (compareOp op') r2' .f g') (ha : DE X E ra Γ a ta fa) (hb : DE X E rb Γ b tb fb) (hc : DE X E rc Γ c tc fc)
    (hm : lastMarks [op, op'] [b, c] = false := by rfl) : DT X E Γ (.Compare a [op, op'] [b, c] pos) (tTest (tChain r2 r2' ta tb tc)) (tBl (eChain g g' fa fb fc)) :=
  ⟨pt_chain o.1 o'.1 ha.pe hb.pe hc.pe hm, sem_bl (sem_chain o.2 o'.2 ha.sem hb.sem hc.sem)⟩
theorem da_nil : DA X E [] Γ [] tNil aNil := ⟨pa_nil, fun pot M σ H ρ π I p Q h => h _ H .refl p .nil⟩
theorem sem_cons {kk : Ak} {ra : Rm} (hr : ∀ pot M H H' v d, (∀ a ∈ M, Al H a) → RpR X.mg X.K ra pot M H H' v d → ArgR X.mg X.K pot M H' kk v d) (ha : SemE X.mg X.K E ra Γ ta fa) (hA : SemA X.mg X.K E ks Γ tA fA) : SemA X.mg X.K E (kk :: ks) Γ (tCons ta tA) (aCons fa fA) :=
  fun pot M σ H ρ π I p Q h => by
    refine ha pot M σ H ρ π I p _ ?_
    unfold aCons at h
    cases e : fa ρ π with
    | ok x =>
      obtain ⟨d, π1⟩ := x
      rw [e] at h
      intro v H1 g1 p1 r1
      refine hA pot M σ H1 ρ π1 (I.grow g1 p1) p1 _ ?_
      cases e2 : fA ρ π1 with
      | ok y =>
        obtain ⟨ds, π2⟩ := y
        simp only [Res.bind_ok, e2] at h
        intro vs H2 g2 p2 r2
        exact h _ H2 (g1.trans g2) p2 (.cons ((hr _ _ _ _ _ _ I.al r1).grow I.pm g2) r2)
      | err c ns xs π' =>
        simp only [Res.bind_ok, e2, Res.bind_err] at h
        exact PErr.back h g1
      | stuck =>
        simp only [Res.bind_ok, e2, Res.bind_stuck] at h
        exact h
    | err c ns xs π' =>
      rw [e] at h
      exact h
    | stuck =>
      rw [e] at h
      exact h
theorem da_f (ha : DE X E .f Γ a ta fa) (hA : DA X E ks Γ es tA fA) (hs : starEach (a :: es) X.env = (false, eval a X.env) :: starEach es X.env := by rfl) : DA X E (.f :: ks) Γ (a :: es) (tCons ta tA) (aCons fa fA) :=
  ⟨pa_cons ha.pe hA.pa hs, sem_cons (kk := .f) (ra := .f) (fun _ _ _ _ _ _ _ h => h) ha.sem hA.sem⟩
theorem da_b (ha : DE X E r Γ a ta fa) (hA : DA X E ks Γ es tA fA) (hs : starEach (a :: es) X.env = (false, eval a X.env) :: starEach es X.env := by rfl) : DA X E (.b :: ks) Γ (a :: es) (tCons ta tA) (aCons fa fA) :=
  ⟨pa_cons ha.pe hA.pa hs, sem_cons (kk := .b) (fun _ _ _ _ _ _ _ h => h.toB) ha.sem hA.sem⟩
/-- the pot, the script handed on -/
theorem da_p (i : Nat) {x : Str} (hA : DA X E ks Γ es tA fA) (hN : X.N[i]? = some x := by rfl) (hv : Vis X.env.scope x := by first | exact Or.inl rfl | exact Or.inr (Or.inl rfl) | exact Or.inr (Or.inr rfl)) (hΓ : Γ[i]? = some .p := by rfl)
    (hd : (x == ("__debug__" : Str)) = false := by decide) (hcd : (x == ("__classdict__" : Str)) = false := by decide) (hs : starEach (.Name x pos :: es) X.env = (false, eval (.Name x pos) X.env) :: starEach es X.env := by rfl) :
    DA X E (.p :: ks) Γ (.Name x pos :: es) (tCons (tVar i) tA) (aCons (eC .non) fA) :=
  ⟨pa_cons (pe_var hN hv hd hcd) hA.pa hs, fun pot M σ H ρ π I p Q h => by
    obtain ⟨q, e, e1⟩ := I.p i hΓ
    refine ⟨_, e1, ?_⟩
    refine hA.sem pot M σ H ρ π I p _ ?_
    unfold aCons eC at h
    simp only [Res.bind_ok] at h
    cases e2 : fA ρ π with
    | ok y =>
      obtain ⟨ds, π2⟩ := y
      simp only [Res.bind_ok, e2] at h
      exact fun vs H2 g2 p2 r2 => h _ H2 g2 p2 (.cons ⟨q, e, rfl⟩ r2)
    | err c ns xs π' =>
      simp only [e2, Res.bind_err] at h
      exact h
    | stuck =>
      simp only [e2, Res.bind_stuck] at h
      exact h⟩
theorem da_s (i : Nat) {x : Str} (hA : DA X E ks Γ es tA fA) (hN : X.N[i]? = some x := by rfl) (hv : Vis X.env.scope x := by first | exact Or.inl rfl | exact Or.inr (Or.inl rfl) | exact Or.inr (Or.inr rfl)) (hΓ : Γ[i]? = some .s := by rfl)
    (hd : (x == ("__debug__" : Str)) = false := by decide) (hcd : (x == ("__classdict__" : Str)) = false := by decide) (hs : starEach (.Name x pos :: es) X.env = (false, eval (.Name x pos) X.env) :: starEach es X.env := by rfl) :
    DA X E (.s :: ks) Γ (.Name x pos :: es) (tCons (tVar i) tA) (aCons (eVar i) fA) :=
  ⟨pa_cons (pe_var hN hv hd hcd) hA.pa hs, fun pot M σ H ρ π I p Q h => by
    unfold aCons eVar at h
    split at h
    · rename_i d e
      obtain ⟨q, ns, e1, e2, e3⟩ := I.s i d hΓ e
      refine ⟨_, e1, ?_⟩
      refine hA.sem pot M σ H ρ π I p _ ?_
      simp only [Res.bind_ok] at h
      cases e2 : fA ρ π with
      | ok y =>
        obtain ⟨ds, π2⟩ := y
        simp only [Res.bind_ok, e2] at h
        exact fun vs H2 g2 p2 r2 => h _ H2 g2 p2 (.cons (ArgR.grow (k := .s) I.pm g2 ⟨q, ns, rfl, by assumption, e3⟩) r2)
      | err c ns xs π' =>
        simp only [e2, Res.bind_err] at h
        exact h
      | stuck =>
        simp only [e2, Res.bind_stuck] at h
        exact h
    · exact h.elim⟩
theorem PostA.seq {r : Rm} {pot : Option Addr} {M : List Addr} {H : Hp} {π : Pot} {x : Res (List D × Pot)} {kk : List D × Pot → Res (D × Pot)} {Q : VK} (h : Post X.mg X.K r pot M H (x.bind kk) Q E) (h0 : PotAt pot H π)
    {te : (List V → Hp → Prop) → Prop} (ht : ∀ Q', PostA X.mg X.K ks pot M H x Q' E → te Q') {R : List V → Hp → Prop}
    (hk : ∀ ds π1 vs H1, x = .ok (ds, π1) → Grow pot H H1 → PotAt pot H1 π1 → Args X.mg X.K pot M H1 ks vs ds → Post X.mg X.K r pot M H1 (kk (ds, π1)) Q E → R vs H1) : te R := by
  refine ht R ?_
  cases x with
  | ok a =>
    obtain ⟨d, π1⟩ := a
    exact fun vs H1 g p q => hk d π1 vs H1 rfl g p q (Post.back g h0 h)
  | err c ns xs π' => exact h
  | stuck => exact h
theorem de_tup {x1 : Nat} (hA : DA X E ks Γ es tA fA) (hk : ∀ k ∈ ks, k = Ak.f := by decide) : DE X E .f Γ (.Tuple es x1 pos) (tTup tA) (eTup fA) :=
  ⟨pe_tup hA.pa, fun pot M σ H ρ π I p Q h => by
    refine PostA.seq (ks := ks) (te := tA σ H) h p (fun Q' hq => hA.sem pot M σ H ρ π I p Q' hq) fun ds π1 vs H1 _ g1 p1 r1 h1 => ?_
    split at h1
    · rename_i hl
      have r2 := r1.rpl hk
      exact ⟨by rw [r2.length]; exact hl, fun q hn => h1 _ _ (.new hn) (p1.new hn) (new_tup (I.grow g1 p1).al hn r2)⟩
    · exact h1.elim⟩
theorem de_lst (hA : DA X E ks Γ es tA fA) (hk : ∀ k ∈ ks, k = Ak.f := by decide) : DE X E .o Γ (.List es pos) (tLst tA) (eLst fA) :=
  ⟨pe_lst hA.pa, fun pot M σ H ρ π I p Q h => by
    refine PostA.seq (ks := ks) (te := tA σ H) h p (fun Q' hq => hA.sem pot M σ H ρ π I p Q' hq) fun ds π1 vs H1 _ g1 p1 r1 h1 => ?_
    split at h1
    · rename_i hl
      have r2 := r1.rpl hk
      exact ⟨by rw [r2.length]; exact hl, fun q hn => h1 _ _ (.new hn) (p1.new hn) (new_lst p1.has hn r2)⟩
    · exact h1.elim⟩
def SemCall (mg : Str → Option Value) (K : PySem.W.Frag) (rc : List V → Hp → VK → Prop) (ks : List Ak) (rz : Rm) (g : List D → Option D) : Prop :=
  ∀ (pot : Option Addr) (M : List Addr) (H : Hp) (vs : List V) (ds : List D) (z : D), (∀ a ∈ M, Al H a) → (∀ a, pot = some a → a ∈ M) → (∀ a, pot = some a → H a ≠ none) → Args mg K pot M H ks vs ds → g ds = some z →
    ∀ Q : VK, (∀ v H', Same H H' → RpR mg K rz pot M H H' v z → Q v H') → rc vs H Q
abbrev CallOk (X : Cx) (f : Value) (rc : List V → Hp → VK → Prop) (ks : List Ak) (rz : Rm) (g : List D → Option D) : Prop := CallR X f rc ∧ SemCall X.mg X.K rc ks rz g
theorem sem_app {rc : List V → Hp → VK → Prop} {rz : Rm} {g : List D → Option D} (o : SemCall X.mg X.K rc ks rz g) (hA : SemA X.mg X.K E ks Γ tA fA) : SemE X.mg X.K E rz Γ (tCB rc tA) (eApp g fA) := fun pot M σ H ρ π I p Q h => by
  refine PostA.seq (ks := ks) (te := tA σ H) h p (fun Q' hq => hA pot M σ H ρ π I p Q' hq) fun ds π1 vs H1 _ g1 p1 r1 h1 => ?_
  cases hz : g ds with
  | none =>
    simp only [hz, ofO_none, Res.bind_stuck] at h1
    exact h1.elim
  | some z =>
    simp only [hz, ofO_some, Res.bind_ok] at h1
    exact o pot M H1 vs ds z (I.grow g1 p1).al I.pm p1.has r1 hz Q fun u H3 s q => h1 u H3 (.of_same s) (p1.same s) q
theorem de_callB {id : String} {x : Str} {p : Pos} {rc : List V → Hp → VK → Prop} {rz : Rm} {g : List D → Option D} (o : CallOk X (.builtin id) rc ks rz g) (hm : X.mg x = none) (hA : DA X E ks Γ (e :: es) tA fA) (hg : Gl X x := by rfl) (hv : bootBuiltins x = some (.builtin id) := by decide +kernel)
    (hn : x ≠ "__name__" := by decide) (hdb : (x == ("__debug__" : Str)) = false := by decide) (he : starEach (e :: es) X.env = (false, eval e X.env) :: starEach es X.env := by rfl) (hpl : (backTo pos (starEach es X.env)).any (·.1) = false := by rfl) :
    DE X E rz Γ (.Call (.Name x p) (e :: es) [] pos) (tCB rc tA) (eApp g fA) := ⟨pe_callB o.1 hg hm hv hA.pa hn hdb he hpl, sem_app o.2 hA.sem⟩
theorem de_callTy {T : String} {x : Str} {p : Pos} {rc : List V → Hp → VK → Prop} {rz : Rm} {g : List D → Option D} (o : CallOk X (.type T) rc ks rz g) (hm : X.mg x = none) (hA : DA X E ks Γ (e :: es) tA fA) (hg : Gl X x := by rfl) (hv : bootBuiltins x = some (.type T) := by decide +kernel)
    (hn : x ≠ "__name__" := by decide) (hdb : (x == ("__debug__" : Str)) = false := by decide) (he : starEach (e :: es) X.env = (false, eval e X.env) :: starEach es X.env := by rfl) (hpl : (backTo pos (starEach es X.env)).any (·.1) = false := by rfl) :
    DE X E rz Γ (.Call (.Name x p) (e :: es) [] pos) (tCB rc tA) (eApp g fA) := ⟨pe_callTy o.1 hg hm hv hA.pa hn hdb he hpl, sem_app o.2 hA.sem⟩
end
end DL
set_option maxHeartbeats 2000000
namespace DL
open PySem PySem.Spec PyProof.Rows L2
/-- a list (l) or a tuple at a -/
structure Src where
  l : Bool
  a : Addr
def Src.sq (K : PySem.W.Frag) (S : Src) (H : Hp) (xs : List V) : Prop := if S.l = true then SqL K H S.a xs else SqT K H S.a xs
def Src.it (S : Src) (h : Heap) (it : Addr) (i : Nat) : Prop := if S.l = true then h.IsListIter it S.a i else h.IsTupleIter it S.a i
def Src.is (S : Src) (h : Heap) (items : Array Value) : Prop := if S.l = true then h.IsList S.a items else h.IsTuple S.a items
def Src.ob (S : Src) : Obj := if S.l = true then { cls := .type "list_iterator", data := .fields #[.ref S.a, .int 0 0] } else { cls := .type "tuple_iterator", data := .fields #[.ref S.a, .int 0 0] }
section
variable {S : Src} {X : Cx} {pins : List (Addr × Obj)} {σ : L2.St} {H : Hp} {s : Shared} {h h' : Heap}
theorem Src.lay {xs : List V} (I : Inv X pins σ H s) (q : S.sq X.K H xs) : ∃ its, Vals xs its ∧ S.is s.heap its.toArray := by
  unfold Src.sq at q
  unfold Src.is
  split at q
  · rename_i e
    obtain ⟨its, rv, p, _⟩ := I.list q
    exact ⟨its, rv, by rw [if_pos e]; exact p.isList⟩
  · rename_i e
    obtain ⟨its, rv, p, _⟩ := I.tuple q
    exact ⟨its, rv, by rw [if_neg e]; exact p⟩
theorem Src.inj {xs ys : List V} (I : Inv X pins σ H s) (q : S.sq X.K H xs) (r : S.sq X.K H ys) : xs = ys := by
  unfold Src.sq at q r
  split at q
  · rename_i e
    rw [if_pos e] at r
    exact I.list_inj q r
  · rename_i e
    rw [if_neg e] at r
    exact I.tuple_inj q r
theorem Src.it_at {it : Addr} {i : Nat} (q : S.it h it i) (k : ∀ o, h.get? it = some o → h'.get? it = some o) : S.it h' it i := by
  unfold Src.it at q ⊢
  split at q
  · rename_i e
    rw [if_pos e]
    exact q.at k
  · rename_i e
    rw [if_neg e]
    exact q.at k
theorem Src.it_obj {it : Addr} {i : Nat} (q : S.it h it i) : ∃ o, h.get? it = some o ∧ ∀ v, o.data ≠ .cell v := by
  unfold Src.it at q
  split at q
  · obtain ⟨o, e, _, d⟩ := q
    exact ⟨o, e, fun v z => by rw [d] at z; cases z⟩
  · obtain ⟨o, e, _, d⟩ := q
    exact ⟨o, e, fun v z => by rw [d] at z; cases z⟩
theorem Src.is_lt {items : Array Value} (q : S.is h items) : S.a < h.objs.size := by
  unfold Src.is at q
  split at q
  · obtain ⟨o, e, _⟩ := q
    exact Heap.lt_size e
  · obtain ⟨o, e, _⟩ := q
    exact Heap.lt_size e
theorem Src.begins (items : Array Value) : Begins (.ref S.a) S.ob (fun h => S.is h items) := by
  obtain ⟨b, a⟩ := S
  cases b
  · exact begins_tuple a items
  · exact begins_list a items
theorem Src.it0 {it : Addr} (e : h.get? it = some S.ob) : S.it h it 0 := by
  unfold Src.ob at e
  unfold Src.it
  split at e
  · rename_i q
    rw [if_pos q]
    exact ⟨_, e, rfl, rfl⟩
  · rename_i q
    rw [if_neg q]
    exact ⟨_, e, rfl, rfl⟩
theorem Src.draws {A : Around} {prog : Program} {w : World} (hh : A.handled = none) (it : Addr) (hne : S.a ≠ it) (items : Array Value) :
    Draws prog w A it [it, S.a] items.size (fun i v => items[i]? = some v) (fun i h => S.it h it i ∧ S.is h items) := by
  obtain ⟨b, a⟩ := S
  cases b
  · exact .tuple hh it a hne items
  · exact .list hh it a hne items
end
def ItS (K : PySem.W.Frag) (S : Src) : It := if S.l = true then Itl K S.a else Itt K S.a
def iSeq (K : PySem.W.Frag) (tl : TE) : TI := fun σ H R => tl σ H fun x H1 => ∃ S : Src, x = .ref S.a ∧ (∃ xs, S.sq K H1 xs) ∧ R (ItS K S) H1
theorem pi_seq {X : Cx} {tg l : Expr} {tl : TE} (hl : PE X l tl) : PI X tg l (iSeq X.K tl) := by
  refine ⟨fun pins s σ H R I h => ?_⟩
  refine thn (hl.run pins s σ H _ I h) fun v s1 ⟨x, H1, I1, r1, q1⟩ => ?_
  obtain ⟨⟨b, a⟩, e, ⟨xs, hq⟩, q⟩ := q1
  subst e
  cases r1
  cases b
  · obtain ⟨its, rv, p, hz⟩ := I1.tuple hq
    refine wpAny_pyIter_tuple (show s1.heap.IsTuple a its.toArray from p) ⟨s1.heap.objs.size, [s1.heap.objs.size], _, _, H1, rfl, I1.kept (t' := s1.toks) fun b o e => Heap.get?_push_of_some _ e, turn_tuple a _, ⟨_, Heap.get?_push_size _ rfl, rfl, rfl⟩, fun b hb => ?_, q⟩
    rw [List.mem_singleton.mp hb]
    exact I1.fpOk (Nat.le_refl _) (I1.hok.fresh (Nat.le_refl _))
  · obtain ⟨its, rv, p, hz⟩ := I1.list hq
    refine wpAny_pyIter_list p.isList ⟨s1.heap.objs.size, [s1.heap.objs.size], _, _, H1, rfl, I1.kept (t' := s1.toks) fun b o e => Heap.get?_push_of_some _ e, turn_list a _, ⟨_, Heap.get?_push_size _ rfl, rfl, rfl⟩, fun b hb => ?_, q⟩
    rw [List.mem_singleton.mp hb]
    exact I1.fpOk (Nat.le_refl _) (I1.hok.fresh (Nat.le_refl _))
theorem walk_seq {K : PySem.W.Frag} {S : Src} {xs : List V} : Walk (ItS K S) xs.length (fun H => S.sq K H xs) (YAt xs) := by
  obtain ⟨b, a⟩ := S
  cases b
  · exact walk_tup
  · exact walk_list
/-- the item at place i of the sequence as it stands, in a new pair -/
def ItE (K : PySem.W.Frag) (S : Src) : It :=
  ⟨fun i H => ∃ xs x, S.sq K H xs ∧ xs[i]? = some x, fun i H v H' => ∃ T x, v = .ref T ∧ H T = none ∧ H' = upd H T (.tup [.int ((i : Nat) : Int), x]) ∧ ∀ xs, S.sq K H xs → xs[i]? = some x,
    fun i H => ∃ xs, S.sq K H xs ∧ xs.length = i⟩
theorem turn_enumS {P : Program} {w : World} {K : PySem.W.Frag} {elts : List Expr} {kk : Nat} {tpos : Pos} (S : Src) (e it : Addr) (ha : S.a ≠ e) (hb : S.a ≠ it) :
    Turn P w K (.Tuple elts kk tpos) (ItE K S) [e, it] e (fun i h => (∃ old, IsEnum h e it (0 + ((i : Nat) : Int)) old) ∧ S.it h it i ∧ e ≠ it) where
  mem := by simp
  obj := fun i h st b hb => by
    obtain ⟨⟨old, he⟩, hi, _⟩ := st
    rcases List.mem_cons.mp hb with z | z
    · rw [z]
      exact ⟨_, he, fun v q => nomatch q⟩
    · rw [List.mem_singleton.mp z]
      exact Src.it_obj hi
  keep := fun i h h' st k => by
    obtain ⟨⟨old, he⟩, hi, hne⟩ := st
    exact ⟨⟨old, k e (by simp) _ he⟩, Src.it_at hi fun o q => k it (by simp) o q, hne⟩
  item := by
    intro X hP hw hK hc i pins s σ H E I hf st hg
    subst hP hw hK
    obtain ⟨he, hit, hne⟩ := st
    obtain ⟨xs, x, hq, hx⟩ := hg
    obtain ⟨its, rv, p⟩ := Src.lay I hq
    obtain ⟨u, hu, ru⟩ := rv.get hx
    have hlt : i < its.toArray.size := by
      have := List.getElem?_eq_some_iff.mp hu
      obtain ⟨q, _⟩ := this
      simpa using q
    have hel : e < s.heap.objs.size := by
      obtain ⟨_, q⟩ := he
      exact Heap.lt_size q
    have hil : it < s.heap.objs.size := by
      obtain ⟨o, q, _⟩ := Src.it_obj hit
      exact Heap.lt_size q
    have G : GoesN X.prog X.w X.A (.Tuple elts kk tpos) e [e, it, S.a] [e, it] its.toArray.size _ _ := GoesN.enumFrom (elts := elts) (x1 := kk) (pos := tpos) 0 (Src.draws (S := S) (A := X.A.in1) (I.ok.hd hc) it hb its.toArray) e hne (by simp [hne, Ne.symm ha]) (by simp)
    refine thn (G.goes i s (fun v s2 => _) E hlt ⟨he, hit, p⟩ fun v h' tk hY st' hk _ => ?_) fun r s1 z => z
    obtain ⟨T, t, y, rfl, hT, hy, hTup⟩ := hY
    obtain ⟨he', hit', p'⟩ := st'
    have eu : y = u := by
      have : its.toArray[i]? = some u := by simpa using hu
      exact Option.some.inj (hy.symm.trans this)
    subst eu
    have new : ObjOk X.prog X.w (upd H T (.tup [.int ((i : Nat) : Int), x])) h' T (.tup [.int ((i : Nat) : Int), x]) := by
      refine ⟨by show 2 ≤ sizeLine; decide, [.int (0 + (i : Int)) t, y], .cons ⟨t, by rw [Int.zero_add]⟩ (.cons ru .nil), hTup⟩
    have I1 : Inv X pins σ (upd H T (.tup [.int ((i : Nat) : Int), x])) { s with heap := h', toks := tk } := I.turnedNew (ch := [e, it]) hk hf hT new
    refine ⟨.ref T, _, I1, rfl, ⟨T, x, rfl, I.hok.fresh hT, rfl, fun ys hy => by rw [Src.inj I hy hq]; exact hx⟩, ⟨he', hit', hne⟩, fun b hb => ?_⟩
    have hbl : b < s.heap.objs.size := by
      rcases List.mem_cons.mp hb with z | z
      · rw [z]; exact hel
      · rw [List.mem_singleton.mp z]; exact hil
    rw [upd_ne (Nat.ne_of_lt (Nat.lt_of_lt_of_le hbl hT))]
    exact (hf b hb).1
  done := by
    intro X hP hw hK hc i pins s σ H E I hf st hg
    subst hP hw hK
    obtain ⟨he, hit, hne⟩ := st
    obtain ⟨xs, hq, hx⟩ := hg
    obtain ⟨its, rv, p⟩ := Src.lay I hq
    have hl : i = its.toArray.size := by
      rw [← hx, rv.length]
      simp
    have G : GoesN X.prog X.w X.A (.Tuple elts kk tpos) e [e, it, S.a] [e, it] its.toArray.size _ _ := GoesN.enumFrom (elts := elts) (x1 := kk) (pos := tpos) 0 (Src.draws (S := S) (A := X.A.in1) (I.ok.hd hc) it hb its.toArray) e hne (by simp [hne, Ne.symm ha]) (by simp)
    subst hl
    exact G.stops s (fun s1 => Inv X pins σ H s1) E ⟨he, hit, p⟩ fun h' tk hk _ => I.turnedL (ch := [e, it]) hk hf
  self := fun A i s Q E st h => by
    obtain ⟨⟨_, he⟩, _⟩ := st
    exact wpAny_pyIter_enum he h
theorem meets_enum1 {v : Value} {o : Obj} {H : Heap → Prop} (B : Begins v o H) :
    Meets (Builtin.«enumerate.__new__» ⟨[.type "enumerate", v], []⟩) (fun _ R s => H s.heap ∧
      R (.ok (.ret (.ref (s.heap.push o).objs.size))) { s with heap := (s.heap.push o).push { cls := .type "enumerate", data := .fields #[.none, .bool false, .ref s.heap.objs.size, rawInt 0, .none, .none] } }) :=
  .of_wp fun prog w A R s h => by
    obtain ⟨hp, g, d, tk, os⟩ := s
    obtain ⟨h1, h⟩ := h
    have hsub := sub_enumerate
    have go : ∀ {A' : Around} {E : Value → Shared → Prop} {Q : Value → Shared → Prop}, Q (.ref hp.objs.size) ⟨hp.push o, g, d, tk, os⟩ → wpAny (model prog w) A' (pyIter v) Q E ⟨hp, g, d, tk, os⟩ :=
      fun q => B.iter prog w _ _ ⟨hp, g, d, tk, os⟩ _ h1 q
    wp_walk using go
    refine wpAny_stack_any fun st => wpAny_pure ?_
    split
    · rename_i c _ _ _ _ _
      cases (c == Value.type "enumerate")
      · wp_walk using go
        exact ⟨_, rfl, h⟩
      · wp_walk using go
        exact ⟨_, rfl, h⟩
    · wp_walk using go
      exact ⟨_, rfl, h⟩
theorem call_enum1 {prog : Program} {w : World} {A : Around} {E : Value → Shared → Prop} {s : Shared} {v : Value} {o : Obj} {H : Heap → Prop} {Q : Value → Shared → Prop} (B : Begins v o H) (h1 : H s.heap)
    (h : ∀ h', IsEnum h' (s.heap.objs.size + 1) s.heap.objs.size 0 .none → h'.get? s.heap.objs.size = some o → (∀ b o, s.heap.get? b = some o → h'.get? b = some o) → Q (.ref (s.heap.objs.size + 1)) { s with heap := h' }) :
    wpAny (model prog w) A (call (.type "enumerate") [v]) Q E s := by
  refine callType_new F.called_enumerate (by decide) (F.typeCall_enumerate_1 _) (F.newCall_enumerate_1 _) (fun obj => F.args_object_init_2 obj _) F.entry_enumerate_new (meets_enum1 B) ⟨h1, ?_⟩
  have hz : (s.heap.push o).objs.size = s.heap.objs.size + 1 := Heap.size_push ..
  show _ ∧ _
  rw [hz]
  have he : IsEnum ((s.heap.push o).push { cls := .type "enumerate", data := .fields #[.none, .bool false, .ref s.heap.objs.size, rawInt 0, .none, .none] }) (s.heap.objs.size + 1) s.heap.objs.size 0 .none := by
    have z := Heap.get?_push_size (s.heap.push o) (o := { cls := .type "enumerate", data := .fields #[.none, .bool false, .ref s.heap.objs.size, rawInt 0, .none, .none] }) rfl
    rw [hz] at z
    exact z
  exact ⟨⟨_, he, rfl⟩, h _ he (Heap.get?_push_of_some _ (Heap.get?_push_size _ B.free)) fun b o x => Heap.get?_push_of_some _ (Heap.get?_push_of_some _ x)⟩
def iEnumS (K : PySem.W.Frag) (ta : TA) : TI := fun σ H R => ta σ H fun vs H1 => ∃ S : Src, vs = [.ref S.a] ∧ (∃ xs, S.sq K H1 xs) ∧ R (ItE K S) H1
theorem pi_enumS {X : Cx} {e : Expr} {ta : TA} {p pos tpos : Pos} {elts : List Expr} {kk : Nat} (hg : Gl X "enumerate") (hm : X.mg "enumerate" = none) (ha : PA X [e] ta) (hs : starEach [e] X.env = [(false, eval e X.env)] := by rfl) :
    PI X (.Tuple elts kk tpos) (.Call (.Name "enumerate" p) [e] [] pos) (iEnumS X.K ta) := by
  refine ⟨fun pins s σ H R I h => ?_⟩
  refine Call_ (ld_blt I hg hm boot_enumerate (PyProof.Rows.callWith_type1 (thn (ha.run pos pins s σ H _ I h) fun us s1 ⟨vs, H1, I1, r1, q1⟩ => ?_) hs rfl))
  obtain ⟨S, ex, ⟨xs, hq⟩, q⟩ := q1
  subst ex
  cases r1 with
  | cons r rr =>
    cases rr
    cases r
    obtain ⟨its, rv, p'⟩ := Src.lay I1 hq
    refine call_enum1 (Src.begins (S := S) its.toArray) p' fun h' he hit hk => wpAny_pyIter_enum he ?_
    have I2 : Inv X pins σ H1 { s1 with heap := h' } := I1.kept (t' := s1.toks) hk
    have la := Src.is_lt p'
    refine ⟨s1.heap.objs.size + 1, [s1.heap.objs.size + 1, s1.heap.objs.size], _, _, H1, rfl, I2, turn_enumS S (s1.heap.objs.size + 1) s1.heap.objs.size (Nat.ne_of_lt (Nat.lt_succ_of_lt la)) (Nat.ne_of_lt la), ⟨⟨.none, he⟩, Src.it0 hit, Nat.succ_ne_self _⟩, fun b hb => ?_, q⟩
    have hle : s1.heap.objs.size ≤ b := by
      rcases List.mem_cons.mp hb with z | z
      · rw [z]; exact Nat.le_add_right _ _
      · rw [List.mem_singleton.mp z]; exact Nat.le_refl _
    exact I1.fpOk hle (I1.hok.fresh hle)
theorem walk_enumS {K : PySem.W.Frag} {S : Src} {xs : List V} : Walk (ItE K S) xs.length (fun H => S.sq K H xs) (YPair (fun i => some (.int ((i : Nat) : Int))) (fun i => xs[i]?)) where
  goes := fun i H hi q => ⟨xs, xs[i], q, by simp [hi]⟩
  stops := fun H q => ⟨xs, q, rfl⟩
  yields := fun i H x H' hi q y => by
    obtain ⟨T, y, e1, e2, e3, e4⟩ := y
    exact ⟨T, _, y, e1, e2, e3, rfl, e4 xs q⟩
end DL
set_option maxHeartbeats 2000000
namespace DL
open PySem PySem.Spec PyProof.Rows L2
abbrev Ei := Rho → Pot → Res (List D × Pot)
section
variable (mg : Str → Option Value) (K : PySem.W.Frag)
/-- an iterator gives these data; w: as long as nothing but the pot changes -/
structure WalkD (w : Bool) (pot : Option Addr) (M : List Addr) (H1 : Hp) (J : It) (items : List D) (G : Hp → Prop) (Y : Nat → Hp → V → Hp → Prop) : Prop where
  walk : Walk J items.length G Y
  stay : ∀ H' M', (w = true → Grow pot H1 H') → Same (less H1 M) (less H' M') → G H'
  item : ∀ i H x H' M', (w = true → Grow pot H1 H) → Same (less H1 M) (less H M') → (∀ a ∈ M', Al H a) → i < items.length → Y i H x H' → Same H H' ∧ ∃ d, items[i]? = some d ∧ Rp mg K (less H' M') x d
def PostI (w : Bool) (pot : Option Addr) (M : List Addr) (H : Hp) (x : Res (List D × Pot)) (R : It → Hp → Prop) (E : XK) : Prop := match x with
  | .ok (items, π) => ∀ J H1 G Y, Grow pot H H1 → PotAt pot H1 π → WalkD mg K w pot M H1 J items G Y → R J H1
  | .err c ns xs π => PErr mg K pot M H c ns xs π E
  | .stuck => False
def SemI (w : Bool) (E : XK) (Γ : List Md) (wi : TI) (fi : Ei) : Prop :=
  ∀ pot M σ H ρ π, EnvOk mg K Γ pot M σ H ρ → PotAt pot H π → ∀ R, PostI mg K w pot M H (fi ρ π) R E → wi σ H R
/-- a target: the slots that it sets -/
def SemG (Γ : List Md) (is : List Nat) (g : TG) (fg : D → Rho → Option Rho) : Prop :=
  ∀ pot M σ H ρ v d, EnvOk mg K Γ pot M σ H ρ → Rp mg K (less H M) v d → ∀ ρ', fg d ρ = some ρ' → ∀ Q : L2.St → Hp → Prop, (∀ σ', EnvOk mg K Γ pot M σ' H ρ' → (∀ i, i ∉ is → σ'[i]? = σ[i]?) → (∀ i, i ∉ is → ρ'[i]? = ρ[i]?) → Q σ' H) → g v σ H Q
def SemGs (Γ : List Md) (is : List Nat) (g : TGs) (fg : List D → Rho → Option Rho) : Prop :=
  ∀ pot M σ H ρ vs ds, EnvOk mg K Γ pot M σ H ρ → RpL mg K (less H M) vs ds → ∀ ρ', fg ds ρ = some ρ' → ∀ Q : L2.St → Hp → Prop, (∀ σ', EnvOk mg K Γ pot M σ' H ρ' → (∀ i, i ∉ is → σ'[i]? = σ[i]?) → (∀ i, i ∉ is → ρ'[i]? = ρ[i]?) → Q σ' H) → g vs σ H Q
end
structure DI (w : Bool) (X : Cx) (E : XK) (Γ : List Md) (tg iter : Expr) (wi : TI) (fi : Ei) : Prop where
  pi : PI X tg iter wi
  sem : SemI X.mg X.K w E Γ wi fi
structure DG (X : Cx) (Γ : List Md) (tg : Expr) (is : List Nat) (g : TG) (fg : D → Rho → Option Rho) : Prop where
  pg : PG X tg g
  fs : ∀ i ∈ is, Γ[i]? = some .f
  sem : SemG X.mg X.K Γ is g fg
structure DGs (X : Cx) (Γ : List Md) (tgs : List Expr) (is : List Nat) (g : TGs) (fg : List D → Rho → Option Rho) : Prop where
  pgs : PGs X tgs g
  fs : ∀ i ∈ is, Γ[i]? = some .f
  sem : SemGs X.mg X.K Γ is g fg
def gN (i : Nat) : D → Rho → Option Rho := fun d ρ => some (ρ.set i (some d))
def gsNil : List D → Rho → Option Rho := fun ds ρ => match ds with
  | [] => some ρ
  | _ => none
def gsCons (a : D → Rho → Option Rho) (b : List D → Rho → Option Rho) : List D → Rho → Option Rho := fun ds ρ => match ds with
  | d :: r => (a d ρ).bind (b r)
  | [] => none
def gT (n : Nat) (b : List D → Rho → Option Rho) : D → Rho → Option Rho := fun d ρ => match d with
  | .tup ds => if ds.length = n then b ds ρ else none
  | _ => none
section
variable {mg : Str → Option Value} {K : PySem.W.Frag} {pot : Option Addr} {M : List Addr} {H H' : Hp} {v : V} {d : D} {Γ : List Md} {σ : L2.St} {ρ : Rho}
theorem EnvOk.setf (I : EnvOk mg K Γ pot M σ H ρ) {i : Nat} (hi : Γ[i]? = some .f) (r : Rp mg K (less H M) v d) : EnvOk mg K Γ pot M (σ.set i (some v)) H (ρ.set i (some d)) where
  ls := by rw [List.length_set]; exact I.ls
  lr := by rw [List.length_set]; exact I.lr
  f := fun j e h1 h2 => by
    by_cases e1 : i = j
    · subst e1
      have hl : i < ρ.length := by rw [I.lr]; exact (List.getElem?_eq_some_iff.mp hi).1
      have hs : i < σ.length := by rw [I.ls]; exact (List.getElem?_eq_some_iff.mp hi).1
      rw [List.getElem?_set_self hl] at h2
      cases h2
      exact ⟨v, by rw [List.getElem?_set_self hs], r⟩
    · rw [List.getElem?_set_ne e1] at h2
      obtain ⟨u, q, z⟩ := I.f j e h1 h2
      exact ⟨u, by rw [List.getElem?_set_ne e1]; exact q, z⟩
  o := fun j e h1 h2 => by
    have e1 : i ≠ j := fun q => by rw [q, h1] at hi; cases hi
    rw [List.getElem?_set_ne e1] at h2
    obtain ⟨p, q, z⟩ := I.o j e h1 h2
    exact ⟨p, by rw [List.getElem?_set_ne e1]; exact q, z⟩
  p := fun j h1 => by
    have e1 : i ≠ j := fun q => by rw [q, h1] at hi; cases hi
    obtain ⟨p, q, z⟩ := I.p j h1
    exact ⟨p, q, by rw [List.getElem?_set_ne e1]; exact z⟩
  s := fun j e h1 h2 => by
    have e1 : i ≠ j := fun q => by rw [q, h1] at hi; cases hi
    rw [List.getElem?_set_ne e1] at h2
    obtain ⟨p, ns, q, z⟩ := I.s j e h1 h2
    exact ⟨p, ns, by rw [List.getElem?_set_ne e1]; exact q, z⟩
  ap := fun j k a b c h1 h2 h3 h4 h5 h6 => by
    have e1 : i ≠ j := fun q => by rw [q, h1] at hi; cases hi
    have e2 : i ≠ k := fun q => by rw [q, h2] at hi; cases hi
    rw [List.getElem?_set_ne e1] at h3 h5
    rw [List.getElem?_set_ne e2] at h4 h6
    exact I.ap j k a b c h1 h2 h3 h4 h5 h6
  al := I.al
  pm := I.pm
end
section
variable {X : Cx} {E : XK} {Γ : List Md} {pos : Pos} {k : Nat}
theorem dg_name (i : Nat) {x : Str} (hN : X.N.Nodup) (hi : X.N[i]? = some x := by rfl) (hx : Loc X.env.scope x := by first | exact Or.inl rfl | exact Or.inr rfl) (hΓ : Γ[i]? = some .f := by rfl)
    (hf : X.fn x = true ∨ X.env.scope.names.lookup x = some .local := by first | exact .inl rfl | exact .inr rfl) : DG X Γ (.Name x pos) [i] (gName i) (gN i) :=
  ⟨pg_name hN hi hx hf, fun j hj => by rw [List.mem_singleton.mp hj]; exact hΓ, fun pot M σ H ρ v d I r ρ' h Q q => by
    cases h
    refine q _ (I.setf hΓ r) (fun j hj => ?_) fun j hj => ?_
    · rw [List.getElem?_set_ne (fun e => hj (by simp [e]))]
    · rw [List.getElem?_set_ne (fun e => hj (by simp [e]))]⟩
theorem dgs_nil : DGs X Γ [] [] gNil gsNil := ⟨pgs_nil, (fun _ h => by cases h), fun pot M σ H ρ vs ds I r ρ' h Q q => by
  cases r with
  | nil =>
    cases h
    exact ⟨rfl, q σ I (fun _ _ => rfl) fun _ _ => rfl⟩
  | cons => cases h⟩
theorem dgs_cons {e : Expr} {es : List Expr} {is js : List Nat} {g : TG} {gs : TGs} {fg : D → Rho → Option Rho} {fgs : List D → Rho → Option Rho} (a : DG X Γ e is g fg) (b : DGs X Γ es js gs fgs)
    (hs : (assignEach (e :: es) X.env).map (·.2) = assign e X.env :: (assignEach es X.env).map (·.2) := by rfl) : DGs X Γ (e :: es) (is ++ js) (gCons g gs) (gsCons fg fgs) :=
  ⟨pgs_cons a.pg b.pgs hs, fun i hi => (List.mem_append.mp hi).elim (a.fs i) (b.fs i), fun pot M σ H ρ vs ds I r ρ' h Q q => by
    cases r with
    | nil => cases h
    | cons r1 r2 =>
      rename_i v ws d es
      unfold gsCons at h
      simp only [Option.bind_eq_some_iff] at h
      obtain ⟨ρ1, h1, h2⟩ := h
      refine ⟨v, ws, rfl, a.sem pot M σ H ρ v d I r1 ρ1 h1 _ fun σ1 I1 s1 s2 => ?_⟩
      refine b.sem pot M σ1 H ρ1 ws es I1 r2 ρ' h2 _ fun σ2 I2 s3 s4 => q σ2 I2 (fun i hi => ?_) fun i hi => ?_
      · rw [s3 i fun z => hi (List.mem_append_right _ z), s1 i fun z => hi (List.mem_append_left _ z)]
      · rw [s4 i fun z => hi (List.mem_append_right _ z), s2 i fun z => hi (List.mem_append_left _ z)]⟩
theorem dg_tup {es : List Expr} {is : List Nat} {gs : TGs} {fgs : List D → Rho → Option Rho} {kk : Nat} (hc : X.calm = true) (b : DGs X Γ es is gs fgs)
    (hn : (assignEach es X.env).length = es.length := by rfl) (hst : (assignEach es X.env).findIdx? (·.1) = none := by rfl) : DG X Γ (.Tuple es kk pos) is (gTup X.K es.length gs) (gT es.length fgs) :=
  ⟨pg_tup hc b.pgs hn hst, b.fs, fun pot M σ H ρ v d I r ρ' h Q q => by
    cases d with
    | tup ds =>
      unfold gT at h
      simp only at h
      split at h
      · rename_i hl
        cases r with
        | tup h1 h2 =>
          exact ⟨_, _, rfl, .inl (.inl (less_le _ _ h1)), by rw [h2.length]; exact hl, b.sem pot M σ H ρ _ ds I h2 ρ' h Q q⟩
      · cases h
    | _ => cases h⟩
end
def seqOf : D → Option (List D)
  | .lst xs => some xs
  | .tup xs => some xs
  | _ => none
def iVal (a : Ed) : Ei := fun ρ π => (a ρ π).bind fun x => (ofO (seqOf x.1)).bind fun z => .ok (z, x.2)
def numbered : Nat → List D → List D
  | _, [] => []
  | n, x :: xs => .tup [.int (n : Int), x] :: numbered (n + 1) xs
def iEnumD (a : Ea) : Ei := fun ρ π => (a ρ π).bind fun x => match x.1 with
  | [d] => (ofO (seqOf d)).bind fun z => .ok (numbered 0 z, x.2)
  | _ => .stuck
def rangeD (lo c : Int) (n : Nat) : List D := (List.range n).map fun (i : Nat) => .int (lo + (i : Int) * c)
def mid62 (i : Int) : Bool := decide (-4611686018427387904 ≤ i ∧ i < 4611686018427387904)
def rng (xs : List D) : Option (List D) := match xs with
  | [.int j] => if mid62 j then some (rangeD 0 1 j.toNat) else none
  | [.int i, .int j] => if mid62 i && mid62 j then some (rangeD i 1 (j - i).toNat) else none
  | _ => none
def iRng (a : Ea) : Ei := fun ρ π => (a ρ π).bind fun x => (ofO (rng x.1)).bind fun z => .ok (z, x.2)
/-- range(i, j, -1) -/
def rngDown (xs : List D) : Option (List D) := match xs with
  | [.int i, .int j, .int c] => if mid62 i && mid62 j && decide (c = -1) then some (rangeD i (-1) (i - j).toNat) else none
  | _ => none
def iRngDown (a : Ea) : Ei := fun ρ π => (a ρ π).bind fun x => (ofO (rngDown x.1)).bind fun z => .ok (z, x.2)
theorem numbered_get : ∀ (xs : List D) (n i : Nat), (numbered n xs)[i]? = (xs[i]?).map fun x => .tup [.int ((n + i : Nat) : Int), x]
  | [], n, i => by simp [numbered]
  | x :: xs, n, 0 => by simp [numbered]
  | x :: xs, n, i + 1 => by
    show (numbered (n + 1) xs)[i]? = _
    rw [numbered_get xs (n + 1) i]
    simp [Nat.add_comm, Nat.add_left_comm]
theorem numbered_len : ∀ (xs : List D) (n : Nat), (numbered n xs).length = xs.length
  | [], n => rfl
  | x :: xs, n => by
    show (numbered (n + 1) xs).length + 1 = xs.length + 1
    rw [numbered_len xs (n + 1)]
section
variable {mg : Str → Option Value} {K : PySem.W.Frag} {pot : Option Addr} {M : List Addr} {H H1 H' : Hp} {v x : V} {d : D} {ds : List D}
/-- a list or a tuple of data: where it lies -/
theorem seq_src (h : Rp mg K (less H M) x d) (e : seqOf d = some ds) : ∃ (S : Src) (xs : List V), x = .ref S.a ∧ S.sq K (less H M) xs ∧ RpL mg K (less H M) xs ds := by
  cases d with
  | lst es =>
    cases e
    cases h with
    | lst h1 h2 => exact ⟨⟨true, _⟩, _, rfl, .inl (.inl h1), h2⟩
  | tup es =>
    cases e
    cases h with
    | tup h1 h2 => exact ⟨⟨false, _⟩, _, rfl, .inl (.inl h1), h2⟩
  | _ => cases e
theorem sq_mono {S : Src} {xs : List V} (e : Same H H') (h : S.sq K H xs) : S.sq K H' xs := by
  unfold Src.sq at h ⊢
  split at h
  · rename_i q
    rw [if_pos q]
    exact sqL_mono e h
  · rename_i q
    rw [if_neg q]
    exact sqT_mono e h
theorem walkS {w : Bool} {S : Src} {xs : List V} (r : RpL mg K (less H1 M) xs ds) (st : ∀ H' M', (w = true → Grow pot H1 H') → Same (less H1 M) (less H' M') → S.sq K H' xs) : WalkD mg K w pot M H1 (ItS K S) ds (fun H => S.sq K H xs) (YAt xs) where
  walk := by
    rw [← r.length]
    exact walk_seq
  stay := st
  item := fun i H x H' M' _ s _ hi y => by
    obtain ⟨rfl, y⟩ := y
    obtain ⟨d, e, q⟩ := r.getV y
    exact ⟨Same.refl _, d, e, q.mono s⟩
theorem walkE {w : Bool} {S : Src} {xs : List V} (r : RpL mg K (less H1 M) xs ds) (st : ∀ H' M', (w = true → Grow pot H1 H') → Same (less H1 M) (less H' M') → S.sq K H' xs) :
    WalkD mg K w pot M H1 (ItE K S) (numbered 0 ds) (fun H => S.sq K H xs) (YPair (fun i => some (.int ((i : Nat) : Int))) (fun i => xs[i]?)) where
  walk := by
    rw [numbered_len, ← r.length]
    exact walk_enumS
  stay := st
  item := fun i H x H' M' _ s al hi y => by
    obtain ⟨T, a, b, rfl, hT, rfl, e1, e2⟩ := y
    cases e1
    obtain ⟨d, e, q⟩ := r.getV e2
    refine ⟨same_upd hT, .tup [.int (i : Int), d], ?_, new_tup al hT (.cons (.int _) (.cons (q.mono s) .nil))⟩
    rw [numbered_get, e]
    simp
end
theorem args1 {mg : Str → Option Value} {K : PySem.W.Frag} {pot : Option Addr} {M : List Addr} {H : Hp} {k : Ak} {vs : List V} {ds : List D} (h : Args mg K pot M H [k] vs ds) : ∃ v d, vs = [v] ∧ ds = [d] ∧ ArgR mg K pot M H k v d := by
  cases h with
  | cons a r =>
    cases r
    exact ⟨_, _, rfl, rfl, a⟩
theorem args2 {mg : Str → Option Value} {K : PySem.W.Frag} {pot : Option Addr} {M : List Addr} {H : Hp} {k l : Ak} {vs : List V} {ds : List D} (h : Args mg K pot M H [k, l] vs ds) : ∃ v d w e, vs = [v, w] ∧ ds = [d, e] ∧ ArgR mg K pot M H k v d ∧ ArgR mg K pot M H l w e := by
  cases h with
  | cons a r =>
    obtain ⟨w, e, rfl, rfl, b⟩ := args1 r
    exact ⟨_, _, _, _, rfl, rfl, a, b⟩
theorem args3 {mg : Str → Option Value} {K : PySem.W.Frag} {pot : Option Addr} {M : List Addr} {H : Hp} {k l m : Ak} {vs : List V} {ds : List D} (h : Args mg K pot M H [k, l, m] vs ds) :
    ∃ v d w e x f, vs = [v, w, x] ∧ ds = [d, e, f] ∧ ArgR mg K pot M H k v d ∧ ArgR mg K pot M H l w e ∧ ArgR mg K pot M H m x f := by
  cases h with
  | cons a r =>
    obtain ⟨w, e, x, f, rfl, rfl, b, c⟩ := args2 r
    exact ⟨_, _, _, _, _, _, rfl, rfl, a, b, c⟩
section
variable {X : Cx} {E : XK} {Γ : List Md} {pos p tpos : Pos} {k kk : Nat} {r : Rm} {e tg : Expr} {te : TE} {fe : Ed} {es elts : List Expr} {tA : TA} {fA : Ea} {ks : List Ak}
theorem PostI.seq {w : Bool} {pot : Option Addr} {M : List Addr} {H : Hp} {x : Res (D × Pot)} {kk : D × Pot → Res (List D × Pot)} {R0 : It → Hp → Prop} (h : PostI X.mg X.K w pot M H (x.bind kk) R0 E)
    {te : VK → Prop} (ht : ∀ Q', Post X.mg X.K r pot M H x Q' E → te Q') {R : VK}
    (hk : ∀ d π1 v H1, x = .ok (d, π1) → Grow pot H H1 → PotAt pot H1 π1 → RpR X.mg X.K r pot M H H1 v d → PostI X.mg X.K w pot M H1 (kk (d, π1)) R0 E → R v H1) : te R := by
  refine ht R ?_
  cases x with
  | ok a =>
    obtain ⟨d, π1⟩ := a
    refine fun v H1 g p q => hk d π1 v H1 rfl g p q ?_
    simp only [Res.bind_ok] at h
    cases e : kk (d, π1) with
    | ok b =>
      rw [e] at h
      exact fun J H2 G Y g2 p2 w2 => h J H2 G Y (g.trans g2) p2 w2
    | err c ns xs π' =>
      rw [e] at h
      exact PErr.back h g
    | stuck =>
      rw [e] at h
      exact h
  | err c ns xs π' => exact h
  | stuck => exact h
theorem PostI.seqA {w : Bool} {pot : Option Addr} {M : List Addr} {H : Hp} {x : Res (List D × Pot)} {kk : List D × Pot → Res (List D × Pot)} {R0 : It → Hp → Prop} (h : PostI X.mg X.K w pot M H (x.bind kk) R0 E)
    {te : (List V → Hp → Prop) → Prop} (ht : ∀ Q', PostA X.mg X.K ks pot M H x Q' E → te Q') {R : List V → Hp → Prop}
    (hk : ∀ ds π1 vs H1, x = .ok (ds, π1) → Grow pot H H1 → PotAt pot H1 π1 → Args X.mg X.K pot M H1 ks vs ds → PostI X.mg X.K w pot M H1 (kk (ds, π1)) R0 E → R vs H1) : te R := by
  refine ht R ?_
  cases x with
  | ok a =>
    obtain ⟨d, π1⟩ := a
    refine fun v H1 g p q => hk d π1 v H1 rfl g p q ?_
    simp only [Res.bind_ok] at h
    cases e : kk (d, π1) with
    | ok b =>
      rw [e] at h
      exact fun J H2 G Y g2 p2 w2 => h J H2 G Y (g.trans g2) p2 w2
    | err c ns xs π' =>
      rw [e] at h
      exact PErr.back h g
    | stuck =>
      rw [e] at h
      exact h
  | err c ns xs π' => exact h
  | stuck => exact h
theorem di_seq (ha : DE X E .f Γ e te fe) : DI false X E Γ tg e (iSeq X.K te) (iVal fe) :=
  ⟨pi_seq ha.pe, fun pot M σ H ρ π I p R h => by
    refine PostI.seq (r := .f) (te := te σ H) h (fun Q' hq => ha.sem pot M σ H ρ π I p Q' hq) fun d π1 v H1 _ g1 p1 r1 h1 => ?_
    cases hz : seqOf d with
    | none =>
      simp only [hz, ofO_none, Res.bind_stuck] at h1
      exact h1.elim
    | some ds =>
      simp only [hz, ofO_some, Res.bind_ok] at h1
      obtain ⟨S, xs, e1, e2, e3⟩ := seq_src r1 hz
      exact ⟨S, e1, ⟨xs, sq_mono less_le e2⟩, h1 _ H1 _ _ .refl p1 (walkS e3 fun H' M' _ s => sq_mono less_le (sq_mono s e2))⟩⟩
theorem di_enum (hm : X.mg "enumerate" = none) (ha : DA X E [.f] Γ [e] tA fA) (hg : Gl X "enumerate" := by rfl) (hs : starEach [e] X.env = [(false, eval e X.env)] := by rfl) : DI false X E Γ (.Tuple elts kk tpos) (.Call (.Name "enumerate" p) [e] [] pos) (iEnumS X.K tA) (iEnumD fA) :=
  ⟨pi_enumS hg hm ha.pa hs, fun pot M σ H ρ π I p R h => by
    refine PostI.seqA (ks := [.f]) (te := tA σ H) h (fun Q' hq => ha.sem pot M σ H ρ π I p Q' hq) fun ds π1 vs H1 _ g1 p1 r1 h1 => ?_
    obtain ⟨v, d, rfl, rfl, a⟩ := args1 r1
    · simp only at h1
      cases hz : seqOf d with
      | none =>
        simp only [hz, ofO_none, Res.bind_stuck] at h1
        exact h1.elim
      | some ds =>
        simp only [hz, ofO_some, Res.bind_ok] at h1
        obtain ⟨S, xs, e1, e2, e3⟩ := seq_src (show Rp X.mg X.K (less H1 M) v d from a) hz
        subst e1
        exact ⟨S, rfl, ⟨xs, sq_mono less_le e2⟩, h1 _ H1 _ _ .refl p1 (walkE e3 fun H' M' _ s => sq_mono less_le (sq_mono s e2))⟩⟩
theorem mid_of {i : Int} (h : mid62 i = true) : -(2 ^ 62) ≤ i ∧ i < 2 ^ 62 := by
  unfold mid62 at h
  have := of_decide_eq_true h
  omega
theorem rangeD_get {lo c : Int} {n i : Nat} (h : i < n) : (rangeD lo c n)[i]? = some (.int (lo + (i : Int) * c)) := by
  unfold rangeD
  rw [List.getElem?_map, List.getElem?_range h]
  rfl
theorem rangeD_len (lo c : Int) (n : Nat) : (rangeD lo c n).length = n := by
  unfold rangeD
  rw [List.length_map, List.length_range]
theorem walkR {w : Bool} {pot : Option Addr} {M : List Addr} {H1 : Hp} {lo : Int} {n : Nat} : WalkD X.mg X.K w pot M H1 (Itr lo n) (rangeD lo 1 n) (fun _ => True) (YFn fun i => .int (lo + i)) where
  walk := by
    rw [rangeD_len]
    exact walk_range
  stay := fun _ _ _ _ => trivial
  item := fun i H x H' M' _ s al hi y => by
    obtain ⟨rfl, rfl⟩ := y
    rw [rangeD_len] at hi
    exact ⟨Same.refl _, _, rangeD_get hi, by rw [Int.mul_one]; exact .int _⟩
theorem di_range1 (hm : X.mg "range" = none) (ha : DA X E [.f] Γ [e] tA fA) (hg : Gl X "range" := by rfl) (hs : starEach [e] X.env = [(false, eval e X.env)] := by rfl) : DI false X E Γ tg (.Call (.Name "range" p) [e] [] pos) (iRng1 tA) (iRng fA) :=
  ⟨pi_range1 hg hm ha.pa hs, fun pot M σ H ρ π I p R h => by
    refine PostI.seqA (ks := [.f]) (te := tA σ H) h (fun Q' hq => ha.sem pot M σ H ρ π I p Q' hq) fun ds π1 vs H1 _ g1 p1 r1 h1 => ?_
    obtain ⟨v, d, rfl, rfl, a⟩ := args1 r1
    cases d with
    | int j =>
      cases rb_int (.inl (show Rp X.mg X.K (less H1 M) v (.int j) from a) : Rb X.mg X.K pot M H1 v (.int j))
      simp only [rng] at h1
      split at h1
      · rename_i hj
        obtain ⟨q1, q2⟩ := mid_of hj
        exact ⟨j, rfl, q1, q2, h1 _ H1 _ _ .refl p1 walkR⟩
      · exact h1.elim
    | _ => exact h1.elim⟩
theorem di_range2 {e2 : Expr} (hm : X.mg "range" = none) (ha : DA X E [.f, .f] Γ [e, e2] tA fA) (hg : Gl X "range" := by rfl) (hs : starEach [e, e2] X.env = [(false, eval e X.env), (false, eval e2 X.env)] := by rfl) (hs2 : starEach [e2] X.env = [(false, eval e2 X.env)] := by rfl) :
    DI false X E Γ tg (.Call (.Name "range" p) [e, e2] [] pos) (iRng2 tA) (iRng fA) :=
  ⟨pi_range2 hg hm ha.pa hs hs2, fun pot M σ H ρ π I p R h => by
    refine PostI.seqA (ks := [.f, .f]) (te := tA σ H) h (fun Q' hq => ha.sem pot M σ H ρ π I p Q' hq) fun ds π1 vs H1 _ g1 p1 r1 h1 => ?_
    obtain ⟨v, d, v2, d2, rfl, rfl, a, b⟩ := args2 r1
    cases d with
    | int i =>
      cases d2 with
      | int j =>
        cases rb_int (.inl (show Rp X.mg X.K (less H1 M) v (.int i) from a) : Rb X.mg X.K pot M H1 v (.int i))
        cases rb_int (.inl (show Rp X.mg X.K (less H1 M) v2 (.int j) from b) : Rb X.mg X.K pot M H1 v2 (.int j))
        simp only [rng] at h1
        split at h1
        · rename_i hj
          obtain ⟨q0, q9⟩ := Bool.and_eq_true_iff.mp hj
          obtain ⟨q1, q2⟩ := mid_of q0
          obtain ⟨q3, q4⟩ := mid_of q9
          exact ⟨i, j, rfl, ⟨q1, q2, q3, q4⟩, h1 _ H1 _ _ .refl p1 walkR⟩
        · exact h1.elim
      | _ => exact h1.elim
    | _ => exact h1.elim⟩
end
end DL
set_option maxHeartbeats 2000000
namespace DL
open PySem PySem.Spec PyProof.Rows L2
def safe {α : Type} : Res α → Res α
  | .ok a => .ok a
  | _ => .stuck
@[simp] theorem safe_ok {α : Type} (a : α) : safe (Res.ok a) = .ok a := rfl
def lcGo (fg : D → Rho → Option Rho) (ft : Et) (fe : Ed) (ρ : Rho) : List D → Pot → Res (List D × Pot)
  | [], π => .ok ([], π)
  | d :: ds, π => (ofO (fg d ρ)).bind fun ρ1 => (safe (ft ρ1 π)).bind fun b => if b.1 = true then (safe (fe ρ1 b.2)).bind fun x => (lcGo fg ft fe ρ ds x.2).bind fun r => .ok (x.1 :: r.1, r.2) else lcGo fg ft fe ρ ds b.2
def wipeD (ρ : Rho) : List Nat → Rho
  | [] => ρ
  | v :: vs => (wipeD ρ vs).set v none
def eLC (fi : Ei) (fg : D → Rho → Option Rho) (ft : Et) (fe : Ed) (vs : List Nat) : Ed := fun ρ π => (fi ρ π).bind fun x => if x.1.length < sizeLine then (lcGo fg ft fe (wipeD ρ vs) x.1 x.2).bind fun r => .ok (.lst r.1, r.2) else .stuck
def tTrue : Et := fun _ π => .ok (true, π)
section
variable {mg : Str → Option Value} {K : PySem.W.Frag} {pot : Option Addr} {M : List Addr} {H H1 H' : Hp} {v : V} {d : D} {Γ : List Md} {σ : L2.St} {ρ : Rho} {π : Pot}
theorem safe_ne {α : Type} {x : Res α} {c : Str} {ns : List Str} {xs : List D} : safe x ≠ .err c ns xs π := by
  cases x <;> simp [safe]
theorem lcGo_ne {fg : D → Rho → Option Rho} {ft : Et} {fe : Ed} {c : Str} {ns : List Str} {xs : List D} {π' : Pot} : ∀ (ds : List D) (π : Pot), lcGo fg ft fe ρ ds π ≠ .err c ns xs π'
  | [], π => by simp [lcGo]
  | d :: ds, π => by
    unfold lcGo
    cases h1 : fg d ρ with
    | none => simp
    | some ρ1 =>
      simp only [ofO_some, Res.bind_ok]
      cases h2 : safe (ft ρ1 π) with
      | ok b =>
        simp only [Res.bind_ok]
        split
        · cases h3 : safe (fe ρ1 b.2) with
          | ok x =>
            simp only [Res.bind_ok]
            cases h4 : lcGo fg ft fe ρ ds x.2 with
            | ok r => simp
            | err c ns xs p => exact absurd h4 (lcGo_ne ds x.2)
            | stuck => simp
          | err c ns xs p => exact absurd h3 safe_ne
          | stuck => simp
        · exact lcGo_ne ds b.2
      | err c ns xs p => exact absurd h2 safe_ne
      | stuck => simp
theorem EnvOk.unset (I : EnvOk mg K Γ pot M σ H ρ) {i : Nat} (hi : Γ[i]? = some .f) : EnvOk mg K Γ pot M (σ.set i none) H (ρ.set i none) where
  ls := by rw [List.length_set]; exact I.ls
  lr := by rw [List.length_set]; exact I.lr
  f := fun j e h1 h2 => by
    by_cases e1 : i = j
    · subst e1
      have hl : i < ρ.length := by rw [I.lr]; exact (List.getElem?_eq_some_iff.mp hi).1
      rw [List.getElem?_set_self hl] at h2
      cases h2
    · rw [List.getElem?_set_ne e1] at h2
      obtain ⟨u, q, z⟩ := I.f j e h1 h2
      exact ⟨u, by rw [List.getElem?_set_ne e1]; exact q, z⟩
  o := fun j e h1 h2 => by
    have e1 : i ≠ j := fun q => by rw [q, h1] at hi; cases hi
    rw [List.getElem?_set_ne e1] at h2
    obtain ⟨p, q, z⟩ := I.o j e h1 h2
    exact ⟨p, by rw [List.getElem?_set_ne e1]; exact q, z⟩
  p := fun j h1 => by
    have e1 : i ≠ j := fun q => by rw [q, h1] at hi; cases hi
    obtain ⟨p, q, z⟩ := I.p j h1
    exact ⟨p, q, by rw [List.getElem?_set_ne e1]; exact z⟩
  s := fun j e h1 h2 => by
    have e1 : i ≠ j := fun q => by rw [q, h1] at hi; cases hi
    rw [List.getElem?_set_ne e1] at h2
    obtain ⟨p, ns, q, z⟩ := I.s j e h1 h2
    exact ⟨p, ns, by rw [List.getElem?_set_ne e1]; exact q, z⟩
  ap := fun j k a b c h1 h2 h3 h4 h5 h6 => by
    have e1 : i ≠ j := fun q => by rw [q, h1] at hi; cases hi
    have e2 : i ≠ k := fun q => by rw [q, h2] at hi; cases hi
    rw [List.getElem?_set_ne e1] at h3 h5
    rw [List.getElem?_set_ne e2] at h4 h6
    exact I.ap j k a b c h1 h2 h3 h4 h5 h6
  al := I.al
  pm := I.pm
theorem EnvOk.wipe (I : EnvOk mg K Γ pot M σ H ρ) : ∀ {vs : List Nat}, (∀ i ∈ vs, Γ[i]? = some .f) → EnvOk mg K Γ pot M (L2.wipe σ vs) H (wipeD ρ vs)
  | [], _ => I
  | v :: vs, h => (EnvOk.wipe I fun i hi => h i (List.mem_cons_of_mem _ hi)).unset (h v (List.mem_cons_self ..))
/-- the same place, later, a new cell beside -/
theorem EnvOk.under (I : EnvOk mg K Γ pot M σ H1 ρ) {q : Addr} (hn : H1 q = none) (g : Grow pot H1 H) (p : PotAt pot H π) (hq : Al H q) : EnvOk mg K Γ pot (q :: M) σ H ρ := by
  have nq : ∀ a o, H1 a = some o → a ≠ q := fun a o h => ne_of_none h hn
  have sm : ∀ L : List Addr, (∀ a, pot = some a → a ∈ L) → Same (less H1 L) (less H (q :: L)) := fun L hL a o h => by
    obtain ⟨h1, h2⟩ := less_some.mp h
    refine less_some.mpr ⟨fun m => ?_, g a o (fun e => h1 (hL a e)) h2⟩
    rcases List.mem_cons.mp m with e | m
    · exact nq a o h2 e
    · exact h1 m
  refine ⟨I.ls, I.lr, fun i d h1 h2 => ?_, fun i d h1 h2 => ?_, I.p, fun i d h1 h2 => ?_, I.ap, fun a ha => ?_, fun a e => List.mem_cons_of_mem _ (I.pm a e)⟩
  · obtain ⟨v, e, r⟩ := I.f i d h1 h2
    exact ⟨v, e, r.mono (sm M I.pm)⟩
  · obtain ⟨a, e, m, n, oo, h3, h4⟩ := I.o i d h1 h2
    refine ⟨a, e, List.mem_cons_of_mem _ m, n, oo, g a _ n h3, h4.mono fun b o h => ?_⟩
    obtain ⟨h5, h6⟩ := less_some.mp (sm (a :: M) (fun b e => List.mem_cons_of_mem _ (I.pm b e)) b o h)
    refine less_some.mpr ⟨fun m => h5 ?_, h6⟩
    rcases List.mem_cons.mp m with z | m
    · exact List.mem_cons_of_mem _ (by rw [z]; exact List.mem_cons_self ..)
    · rcases List.mem_cons.mp m with z | m
      · rw [z]
        exact List.mem_cons_self ..
      · exact List.mem_cons_of_mem _ (List.mem_cons_of_mem _ m)
  · obtain ⟨a, ns, e1, e2, e3⟩ := I.s i d h1 h2
    exact ⟨a, ns, e1, e2, sqL_mono (sm M I.pm) e3⟩
  · rcases List.mem_cons.mp ha with e | m
    · rw [e]
      exact hq
    · exact alive I.al p g a m
theorem wipe_at (σ : L2.St) (i : Nat) : ∀ (vs : List Nat), (L2.wipe σ vs)[i]? = if i ∈ vs then (if i < σ.length then some none else none) else σ[i]?
  | [] => by simp [L2.wipe]
  | v :: vs => by
    have ih := wipe_at σ i vs
    unfold L2.wipe
    by_cases e : v = i
    · subst e
      rw [List.getElem?_set, if_pos rfl, wipe_length]
      simp
    · rw [List.getElem?_set_ne e, ih]
      simp [Ne.symm e]
theorem wipe_of {σ σ2 : L2.St} {vs is : List Nat} (hl : σ2.length = σ.length) (hs : ∀ i ∈ is, i ∈ vs) (h : ∀ i, i ∉ is → σ2[i]? = (L2.wipe σ vs)[i]?) : L2.wipe σ2 vs = L2.wipe σ vs := by
  apply List.ext_getElem?
  intro i
  rw [wipe_at, wipe_at]
  by_cases e : i ∈ vs
  · rw [if_pos e, if_pos e, hl]
  · rw [if_neg e, if_neg e, h i fun z => e (hs i z), wipe_at, if_neg e]
end
structure DTs (X : Cx) (E : XK) (Γ : List Md) (es : List Expr) (tt : TT) (ft : Et) : Prop where
  pts : PTs X es tt
  sem : SemT X.mg X.K E Γ tt ft
section
variable {X : Cx} {E : XK} {Γ : List Md} {pos : Pos} {k : Nat}
theorem dts_nil : DTs X E Γ [] tYes tTrue := ⟨pts_nil, fun pot M σ H ρ π I p Q h => h H .refl p⟩
theorem dts_one {c : Expr} {tt : TT} {ft : Et} (h : DT X E Γ c tt ft) : DTs X E Γ [c] tt ft := ⟨pts_one h.pt, h.sem⟩
theorem XOk.blk {s : Shared} {H : Hp} {scope : Scope} {cenv : Env} {fp : List Addr} (x : XOk X E k) : XOk (X.blk s H scope cenv fp) E0 k := ⟨x.room, x.gd, x.calm, passL, PassesOwn.never, x.nd⟩
theorem sem_lcAt {w : Bool} {wi : TI} {fi : Ei} {is vs : List Nat} {g : TG} {fg : D → Rho → Option Rho} {tt : TT} {ft : Et} {te : TE} {fe : Ed} {pot : Option Addr} {M : List Addr} {σ : L2.St} {H : Hp} {ρ : Rho} {π : Pot} (hi : ∀ R, PostI X.mg X.K w pot M H (fi ρ π) R E → wi σ H R) (hg : SemG X.mg X.K Γ is g fg) (hv : ∀ i ∈ is, i ∈ vs) (hΓ : ∀ i ∈ vs, Γ[i]? = some .f)
    (ht : SemT X.mg X.K E0 Γ tt ft) (he : SemE X.mg X.K E0 .f Γ te fe) (I : EnvOk X.mg X.K Γ pot M σ H ρ) (p : PotAt pot H π) (Q : VK) (h : Post X.mg X.K .o pot M H (eLC fi fg ft fe vs ρ π) Q E) : tLc wi g tt te vs σ H Q := by
  refine hi _ ?_
  unfold eLC at h
  cases ei : fi ρ π with
  | err c ns xs π' =>
    rw [ei] at h
    exact h
  | stuck =>
    rw [ei] at h
    exact h
  | ok x =>
    obtain ⟨items, π0⟩ := x
    rw [ei] at h
    simp only [Res.bind_ok] at h
    intro J H1 G Y g1 p1 W D hD
    by_cases hz : items.length < sizeLine
    · rw [if_pos hz] at h
      have I1 := I.grow g1 p1
      cases et : lcGo fg ft fe (wipeD ρ vs) items π0 with
      | err c ns xs π' => exact absurd et (lcGo_ne items π0)
      | stuck =>
        rw [et] at h
        exact h.elim
      | ok r =>
        obtain ⟨ds, π9⟩ := r
        rw [et] at h
        simp only [Res.bind_ok] at h
        have nD : pot ≠ some D := fun e => p1.has D e hD
        have gD : ∀ {H2 : Hp} {o : HO}, Grow pot H1 H2 → Grow pot H1 (upd H2 D o) := fun gr a o n e => by
          rw [upd_ne (ne_of_none e hD)]
          exact gr a o n e
        have pD : ∀ {H2 : Hp} {o : HO} {π : Pot}, PotAt pot H2 π → PotAt pot (upd H2 D o) π := fun q a e => by
          rw [upd_ne (fun z => nD (by rw [e, z]))]
          exact q a e
        have lD : ∀ {H2 : Hp} {o : HO}, Same (less H2 (D :: M)) (less (upd H2 D o) (D :: M)) := fun a o e => by
          obtain ⟨e1, e2⟩ := less_some.mp e
          refine less_some.mpr ⟨e1, ?_⟩
          rw [upd_ne (fun z => e1 (by rw [z]; exact List.mem_cons_self ..))]
          exact e2
        have sD : ∀ {H2 : Hp}, Grow pot H1 H2 → Same (less H1 M) (less H2 (D :: M)) := fun gr a o e => by
          obtain ⟨e1, e2⟩ := less_some.mp e
          refine less_some.mpr ⟨fun m => ?_, gr a o (fun z => e1 (I.pm a z)) e2⟩
          rcases List.mem_cons.mp m with z | m
          · exact ne_of_none e2 hD z
          · exact e1 m
        refine lc_it W.walk (fun i H2 => ∃ π2 vsa dsa, Grow pot H1 H2 ∧ PotAt pot H2 π2 ∧ H2 D = some (.lst vsa) ∧ RpL X.mg X.K (less H2 (D :: M)) vsa dsa ∧ dsa.length ≤ i ∧
            (lcGo fg ft fe (wipeD ρ vs) (items.drop i) π2).bind (fun r => .ok (dsa ++ r.1, r.2)) = .ok (ds, π9))
          ⟨π0, [], [], gD .refl, pD p1, upd_same, .nil, Nat.le_refl _, by rw [List.drop_zero, et]; rfl⟩ (fun i H2 _ ⟨_, _, _, gr, _⟩ => W.stay H2 (D :: M) (fun _ => gr) (sD gr)) ?_ ?_
        · rintro i xv H2 H3 hlt ⟨π2, vsa, dsa, gr, pr, hDv, rr, hle, hgo⟩ hy
          have I2 := I1.under hD gr pr (.of hDv fun _ e => by cases e)
          obtain ⟨sm, d, hd, rd⟩ := W.item i H2 xv H3 (D :: M) (fun _ => gr) (sD gr) I2.al hlt hy
          have gr3 : Grow pot H1 H3 := gr.trans (.of_same sm)
          have pr3 := pr.same sm
          have hDv3 := sm _ _ hDv
          have I3 := (I1.under hD gr3 pr3 (.of hDv3 fun _ e => by cases e)).wipe hΓ
          have rr3 : RpL X.mg X.K (less H3 (D :: M)) vsa dsa := rr.mono (less_grow I2.pm (.of_same sm))
          have edr : items.drop i = d :: items.drop (i + 1) := by
            rw [List.drop_eq_getElem_cons hlt]
            congr 1
            have := List.getElem?_eq_getElem hlt
            rw [hd] at this
            exact (Option.some.inj this).symm
          rw [edr] at hgo
          unfold lcGo at hgo
          cases e1 : fg d (wipeD ρ vs) with
          | none => rw [e1] at hgo; cases hgo
          | some ρ1 =>
            rw [e1] at hgo
            simp only [ofO_some, Res.bind_ok] at hgo
            refine hg pot (D :: M) _ H3 _ xv d I3 rd ρ1 e1 _ fun σ2 I4 so _ => ⟨wipe_of (by rw [I4.ls, I1.ls]) hv so, ?_⟩
            refine ht pot (D :: M) σ2 H3 ρ1 π2 I4 pr3 _ ?_
            cases e2 : ft ρ1 π2 with
            | err c ns xs p => rw [e2] at hgo; cases hgo
            | stuck => rw [e2] at hgo; cases hgo
            | ok b =>
              obtain ⟨b, π3⟩ := b
              rw [e2] at hgo
              simp only [safe_ok, Res.bind_ok] at hgo
              intro H4 g4 p4
              have gr4 := gr3.trans g4
              have hDv4 := g4 D _ nD hDv3
              cases b with
              | false =>
                rw [if_neg Bool.false_ne_true] at hgo ⊢
                exact ⟨π3, vsa, dsa, gr4, p4, hDv4, rr3.mono (less_grow I4.pm g4), Nat.le_succ_of_le hle, hgo⟩
              | true =>
                rw [if_pos rfl] at hgo ⊢
                refine he pot (D :: M) σ2 H4 ρ1 π3 (I4.grow g4 p4) p4 _ ?_
                cases e3 : fe ρ1 π3 with
                | err c ns xs p => rw [e3] at hgo; cases hgo
                | stuck => rw [e3] at hgo; cases hgo
                | ok y =>
                  obtain ⟨y, π4⟩ := y
                  rw [e3] at hgo
                  simp only [safe_ok, Res.bind_ok] at hgo
                  intro yv H5 g5 p5 ry
                  have gr5 := gr4.trans g5
                  have hDv5 := g5 D _ nD hDv4
                  have rr5 := (rr3.mono (less_grow I4.pm g4)).mono (less_grow I4.pm g5)
                  refine ⟨vsa, hDv5, by rw [rr.length]; omega, π4, vsa ++ [yv], dsa ++ [y], gD gr5, pD p5, upd_same, (rr5.append (.cons ry .nil)).mono lD, by simp; omega, ?_⟩
                  cases e4 : lcGo fg ft fe (wipeD ρ vs) (items.drop (i + 1)) π4 with
                  | ok r =>
                    rw [e4] at hgo
                    simp only [Res.bind_ok] at hgo ⊢
                    rw [← hgo, List.append_assoc]
                    rfl
                  | err c ns xs p => rw [e4] at hgo; cases hgo
                  | stuck => rw [e4] at hgo; cases hgo
        · rintro H2 ⟨π2, vsa, dsa, gr, pr, hDv, rr, hle, hgo⟩
          rw [List.drop_length] at hgo
          simp only [lcGo, Res.bind_ok, List.append_nil, Res.ok.injEq, Prod.mk.injEq] at hgo
          obtain ⟨rfl, rfl⟩ := hgo
          refine h (.ref D) H2 (g1.trans gr) pr ⟨D, rfl, ?_, nD, _, hDv, .lst rr⟩
          cases e : H D with
          | none => rfl
          | some o =>
            rw [g1 D o nD e] at hD
            cases hD
    · rw [if_neg hz] at h
      exact h.elim
/-- one reading for all places that are alike -/
def canE (mg : Str → Option Value) (K : PySem.W.Frag) (E : XK) (r : Rm) (Γ : List Md) (fe : Ed) : TE := fun σ H Q => ∃ pot M ρ π, EnvOk mg K Γ pot M σ H ρ ∧ PotAt pot H π ∧ Post mg K r pot M H (fe ρ π) Q E
def canT (mg : Str → Option Value) (K : PySem.W.Frag) (E : XK) (Γ : List Md) (ft : Et) : TT := fun σ H Q => ∃ pot M ρ π, EnvOk mg K Γ pot M σ H ρ ∧ PotAt pot H π ∧ PostT mg K pot M H (ft ρ π) Q E
def canG (mg : Str → Option Value) (K : PySem.W.Frag) (Γ : List Md) (is : List Nat) (fg : D → Rho → Option Rho) : TG := fun v σ H Q => ∃ pot M ρ d ρ', EnvOk mg K Γ pot M σ H ρ ∧ Rp mg K (less H M) v d ∧ fg d ρ = some ρ' ∧ ∀ σ', EnvOk mg K Γ pot M σ' H ρ' → (∀ i, i ∉ is → σ'[i]? = σ[i]?) → (∀ i, i ∉ is → ρ'[i]? = ρ[i]?) → Q σ' H
theorem DE.can {r : Rm} {e : Expr} {te : TE} {fe : Ed} (h : DE X E r Γ e te fe) : DE X E r Γ e (canE X.mg X.K E r Γ fe) fe :=
  ⟨⟨fun pins s σ H Q I q => by
    obtain ⟨pot, M, ρ, π, h1, h2, h3⟩ := q
    exact h.pe.run pins s σ H Q I (h.sem pot M σ H ρ π h1 h2 Q h3)⟩, fun pot M σ H ρ π I p Q q => ⟨pot, M, ρ, π, I, p, q⟩⟩
theorem DTs.can {es : List Expr} {tt : TT} {ft : Et} (h : DTs X E Γ es tt ft) : DTs X E Γ es (canT X.mg X.K E Γ ft) ft :=
  ⟨⟨fun pins s σ H Q I q => by
    obtain ⟨pot, M, ρ, π, h1, h2, h3⟩ := q
    exact h.pts.run pins s σ H Q I (h.sem pot M σ H ρ π h1 h2 Q h3)⟩, fun pot M σ H ρ π I p Q q => ⟨pot, M, ρ, π, I, p, q⟩⟩
theorem DG.can {tg : Expr} {is : List Nat} {g : TG} {fg : D → Rho → Option Rho} (h : DG X Γ tg is g fg) : DG X Γ tg is (canG X.mg X.K Γ is fg) fg :=
  ⟨⟨fun pins s σ H v u Q I r q => by
    obtain ⟨pot, M, ρ, d, ρ', h1, h2, h3, h4⟩ := q
    exact h.pg.run pins s σ H v u Q I r (h.sem pot M σ H ρ v d h1 h2 ρ' h3 Q h4)⟩, h.fs, fun pot M σ H ρ v d I r ρ' e Q q => ⟨pot, M, ρ, d, ρ', I, r, e, q⟩⟩
theorem sem_lc {w : Bool} {wi : TI} {fi : Ei} {is vs : List Nat} {g : TG} {fg : D → Rho → Option Rho} {tt : TT} {ft : Et} {te : TE} {fe : Ed} (hi : SemI X.mg X.K w E Γ wi fi) (hg : SemG X.mg X.K Γ is g fg) (hv : ∀ i ∈ is, i ∈ vs) (hΓ : ∀ i ∈ vs, Γ[i]? = some .f)
    (ht : SemT X.mg X.K E0 Γ tt ft) (he : SemE X.mg X.K E0 .f Γ te fe) : SemE X.mg X.K E .o Γ (tLc wi g tt te vs) (eLC fi fg ft fe vs) := fun pot M σ H ρ π I p Q h => sem_lcAt (fun R q => hi pot M σ H ρ π I p R q) hg hv hΓ ht he I p Q h
theorem de_lc {w : Bool} {elt tg iter : Expr} {ifs : List Expr} {scope : Scope} {own : List (Str × Nat)} {wi : TI} {fi : Ei} {is : List Nat} {fg : D → Rho → Option Rho} {ft : Et} {fe : Ed} (x : XOk X E k) (hi : DI w X E Γ tg iter wi fi) (ok : BlkOk X.N X.env.scope scope own)
    (hg : ∀ (s : Shared) (H : Hp) (C : Addr) (cl : List (Str × Addr)) (fp : List Addr), ∃ g, DG (X.blk s H scope (compEnvC scope cl C X.env) fp) Γ tg is g fg)
    (ht : ∀ (s : Shared) (H : Hp) (C : Addr) (cl : List (Str × Addr)) (fp : List Addr), ∃ tt, DTs (X.blk s H scope (compEnvC scope cl C X.env) fp) E0 Γ ifs tt ft)
    (he : ∀ (s : Shared) (H : Hp) (C : Addr) (cl : List (Str × Addr)) (fp : List Addr), ∃ te, DE (X.blk s H scope (compEnvC scope cl C X.env) fp) E0 .f Γ elt te fe)
    (hv : ∀ i ∈ is, i ∈ own.map (·.2) := by decide) (hΓ : ∀ i ∈ own.map (·.2), Γ[i]? = some .f := by decide) (hs : ∀ x, foldedSetIterable iter X.env x = pure x := by intro _; rfl) :
    DE X E .o Γ (.ListComp elt [⟨tg, iter, ifs, 0⟩] scope pos) (tLc wi (canG X.mg X.K Γ is fg) (canT X.mg X.K E0 Γ ft) (canE X.mg X.K E0 .f Γ fe) (own.map (·.2))) (eLC fi fg ft fe (own.map (·.2))) := by
  have hg' : ∀ (s : Shared) (H : Hp) (C : Addr) (cl : List (Str × Addr)) (fp : List Addr), DG (X.blk s H scope (compEnvC scope cl C X.env) fp) Γ tg is (canG X.mg X.K Γ is fg) fg := fun s H C cl fp => by
    obtain ⟨g, h⟩ := hg s H C cl fp
    exact h.can
  have ht' : ∀ (s : Shared) (H : Hp) (C : Addr) (cl : List (Str × Addr)) (fp : List Addr), DTs (X.blk s H scope (compEnvC scope cl C X.env) fp) E0 Γ ifs (canT X.mg X.K E0 Γ ft) ft := fun s H C cl fp => by
    obtain ⟨g, h⟩ := ht s H C cl fp
    exact h.can
  have he' : ∀ (s : Shared) (H : Hp) (C : Addr) (cl : List (Str × Addr)) (fp : List Addr), DE (X.blk s H scope (compEnvC scope cl C X.env) fp) E0 .f Γ elt (canE X.mg X.K E0 .f Γ fe) fe := fun s H C cl fp => by
    obtain ⟨g, h⟩ := he s H C cl fp
    exact h.can
  exact ⟨pe_lc x.calm x.nd hi.pi ok (fun s H C cl fp => (hg' s H C cl fp).pg) (fun s H C cl fp => (ht' s H C cl fp).pts) (fun s H C cl fp => (he' s H C cl fp).pe) hs,
    sem_lc hi.sem (hg' X.s_0 X.H_0 0 [] []).sem hv hΓ (ht' X.s_0 X.H_0 0 [] []).sem (he' X.s_0 X.H_0 0 [] []).sem⟩
end
end DL
set_option maxHeartbeats 2000000
namespace DL
open PySem PySem.Spec PyProof.Rows L2
inductive Out where
  | nx (ρ : Rho) | bk (ρ : Rho) | ct (ρ : Rho) | rt (d : D)
abbrev Fs := Rho → Pot → Res (Out × Pot)
def Rm.md : Rm → Md
  | .f => .f
  | .b => .u
  | .o => .o
  | .t => .u
section
variable (mg : Str → Option Value) (K : PySem.W.Frag)
structure SOk (Γ : List Md) (pot : Option Addr) (M0 : List Addr) (H0 B : Hp) (M : List Addr) (σ : L2.St) (H : Hp) (ρ : Rho) : Prop where
  env : EnvOk mg K Γ pot M σ H ρ
  gr : Grow pot H0 H
  sub : ∀ a ∈ M0, a ∈ M
  ow : ∀ (i : Nat) (d : D) (a : Addr), Γ[i]? = some .o → ρ[i]? = some (some d) → σ[i]? = some (some (.ref a)) → H0 a = none
  m0 : ∀ a ∈ M0, H0 a ≠ none
  bs : Same B (less H M)
/-- a value that is to be put into a slot -/
def Held (r : Rm) (Γ : List Md) (pot : Option Addr) (H0 : Hp) (M : List Addr) (σ : L2.St) (H : Hp) (ρ : Rho) (v : V) (d : D) : Prop := match r with
  | .f => Rp mg K (less H M) v d
  | .b => True
  | .t => True
  | .o => ∃ p, v = .ref p ∧ p ∈ M ∧ Own mg K pot M H p d ∧ H0 p = none ∧ ∀ (i : Nat) (e : D), Γ[i]? = some .o → ρ[i]? = some (some e) → σ[i]? ≠ some (some (.ref p))
def PostS (r : Rm) (Γl Γ' : List Md) (pot : Option Addr) (M0 : List Addr) (H0 B : Hp) (x : Res (Out × Pot)) (D : Ends) (E : XK) : Prop := match x with
  | .ok (.nx ρ, π) => ∀ M σ H, SOk mg K Γ' pot M0 H0 B M σ H ρ → PotAt pot H π → D.nx σ H
  | .ok (.bk ρ, π) => ∀ M σ H, SOk mg K Γl pot M0 H0 B M σ H ρ → PotAt pot H π → D.bk σ H
  | .ok (.ct ρ, π) => ∀ M σ H, SOk mg K Γl pot M0 H0 B M σ H ρ → PotAt pot H π → D.ct σ H
  | .ok (.rt d, π) => ∀ v H, Grow pot H0 H → PotAt pot H π → RpR mg K r pot M0 H0 H v d → D.rt v H
  | .err c ns xs π => PErr mg K pot M0 H0 c ns xs π E
  | .stuck => False
def SemS (E : XK) (r : Rm) (Γl Γ Γ' : List Md) (ts : TS) (fs : Fs) : Prop :=
  ∀ pot M0 H0 B M σ H ρ π D, SOk mg K Γ pot M0 H0 B M σ H ρ → PotAt pot H π → PostS mg K r Γl Γ' pot M0 H0 B (fs ρ π) D E → ts D σ H
end
section
variable {mg : Str → Option Value} {K : PySem.W.Frag} {pot : Option Addr} {M M0 M1 : List Addr} {H H0 H1 H2 B : Hp} {π π1 : Pot} {Γ Γl Γ' : List Md} {σ : L2.St} {ρ : Rho} {v : V} {d : D} {r : Rm} {E : XK}
theorem SOk.grow (S : SOk mg K Γ pot M0 H0 B M σ H ρ) (g : Grow pot H H1) (p : PotAt pot H1 π) : SOk mg K Γ pot M0 H0 B M σ H1 ρ := ⟨S.env.grow g p, S.gr.trans g, S.sub, S.ow, S.m0, fun a o h => less_grow S.env.pm g a o (S.bs a o h)⟩
theorem PErr.out {c : Str} {ns : List Str} {xs : List D} {π' : Pot} (h : PErr mg K pot M0 H0 c ns xs π' E) (S : SOk mg K Γ pot M0 H0 B M σ H ρ) : PErr mg K pot M H c ns xs π' E := fun cv dd H' g p e => by
  refine h cv dd H' (S.gr.trans g) p ?_
  obtain ⟨C, h1, h2, h3⟩ := e
  refine ⟨C, h1, h2, h3.imp id ?_⟩
  rintro ⟨a, fs, e1, e2, e3, e4, e5⟩
  exact ⟨a, fs, e1, e2, fun m => e3 (S.sub a m), e4, e5.mono (less_sub S.sub)⟩
/-- an expression, then the rest of the statement -/
theorem PostS.seq {r' : Rm} {x : Res (D × Pot)} {kk : D × Pot → Res (Out × Pot)} {D' : Ends} (h : PostS mg K r Γl Γ' pot M0 H0 B (x.bind kk) D' E) (S : SOk mg K Γ pot M0 H0 B M σ H ρ)
    {te : VK → Prop} (ht : ∀ Q', Post mg K r' pot M H x Q' E → te Q') {R : VK}
    (hk : ∀ d π1 v H1, x = .ok (d, π1) → Grow pot H H1 → PotAt pot H1 π1 → RpR mg K r' pot M H H1 v d → PostS mg K r Γl Γ' pot M0 H0 B (kk (d, π1)) D' E → R v H1) : te R := by
  refine ht R ?_
  cases x with
  | ok a =>
    obtain ⟨d, π1⟩ := a
    exact fun v H1 g p q => hk d π1 v H1 rfl g p q h
  | err c ns xs π' => exact PErr.out h S
  | stuck => exact h
theorem PostS.seqT {x : Res (Bool × Pot)} {kk : Bool × Pot → Res (Out × Pot)} {D' : Ends} (h : PostS mg K r Γl Γ' pot M0 H0 B (x.bind kk) D' E) (S : SOk mg K Γ pot M0 H0 B M σ H ρ)
    {te : (Bool → Hp → Prop) → Prop} (ht : ∀ Q', PostT mg K pot M H x Q' E → te Q') {R : Bool → Hp → Prop}
    (hk : ∀ d π1 H1, x = .ok (d, π1) → Grow pot H H1 → PotAt pot H1 π1 → PostS mg K r Γl Γ' pot M0 H0 B (kk (d, π1)) D' E → R d H1) : te R := by
  refine ht R ?_
  cases x with
  | ok a =>
    obtain ⟨d, π1⟩ := a
    exact fun H1 g p => hk d π1 H1 rfl g p h
  | err c ns xs π' => exact PErr.out h S
  | stuck => exact h
theorem PostS.seqI {w : Bool} {x : Res (List D × Pot)} {kk : List D × Pot → Res (Out × Pot)} {D' : Ends} (h : PostS mg K r Γl Γ' pot M0 H0 B (x.bind kk) D' E) (S : SOk mg K Γ pot M0 H0 B M σ H ρ)
    {te : (It → Hp → Prop) → Prop} (ht : ∀ Q', PostI mg K w pot M H x Q' E → te Q') {R : It → Hp → Prop}
    (hk : ∀ ds π1 J H1 G Y, x = .ok (ds, π1) → Grow pot H H1 → PotAt pot H1 π1 → WalkD mg K w pot M H1 J ds G Y → PostS mg K r Γl Γ' pot M0 H0 B (kk (ds, π1)) D' E → R J H1) : te R := by
  refine ht R ?_
  cases x with
  | ok a =>
    obtain ⟨ds, π1⟩ := a
    exact fun J H1 G Y g p q => hk ds π1 J H1 G Y rfl g p q h
  | err c ns xs π' => exact PErr.out h S
  | stuck => exact h
theorem less_in {p : Addr} (h : p ∈ M) : Same (less H M) (less H (p :: M)) := fun a o e => by
  obtain ⟨e1, e2⟩ := less_some.mp e
  refine less_some.mpr ⟨fun m => ?_, e2⟩
  rcases List.mem_cons.mp m with z | m
  · exact e1 (by rw [z]; exact h)
  · exact e1 m
/-- a new value is held -/
theorem SOk.hold (S : SOk mg K Γ pot M0 H0 B M σ H ρ) (g : Grow pot H H1) (p : PotAt pot H1 π) (q : RpR mg K r pot M H H1 v d) :
    ∃ M1, SOk mg K Γ pot M0 H0 B M1 σ H1 ρ ∧ Held mg K r Γ pot H0 M1 σ H1 ρ v d ∧ (M1 = M ∨ ∃ c, M1 = c :: M ∧ H c = none) := by
  cases r with
  | f => exact ⟨M, S.grow g p, q, .inl rfl⟩
  | b => exact ⟨M, S.grow g p, trivial, .inl rfl⟩
  | t => exact ⟨M, S.grow g p, trivial, .inl rfl⟩
  | o =>
    obtain ⟨c, rfl, hn, n, oo, h1, h2⟩ := q
    have S1 := S.env.under hn g p (.of h1 h2.nt)
    refine ⟨c :: M, ⟨S1, S.gr.trans g, fun a m => List.mem_cons_of_mem _ (S.sub a m), S.ow, S.m0, fun a o h => ?_⟩, ⟨c, rfl, List.mem_cons_self .., ⟨n, oo, h1, h2.mono (less_in (List.mem_cons_self ..))⟩, ?_, fun i e hi he hs => ?_⟩, .inr ⟨c, rfl, hn⟩⟩
    · obtain ⟨e1, e2⟩ := less_some.mp (S.bs a o h)
      refine less_some.mpr ⟨fun m => ?_, g a o (fun z => e1 (S.env.pm a z)) e2⟩
      rcases List.mem_cons.mp m with z | m
      · rw [z, hn] at e2
        cases e2
      · exact e1 m
    · cases z : H0 c with
      | none => rfl
      | some o =>
        rw [S.gr c o n z] at hn
        cases hn
    · obtain ⟨a, e1, m, _⟩ := S.env.o i e hi he
      rw [hs] at e1
      cases e1
      exact (S.env.al c m).nn hn
/-- later, with one more cell or none -/
theorem Held.carry {r : Rm} (h : Held mg K r Γ pot H0 M σ H ρ v d) (pm : ∀ a, pot = some a → a ∈ M) (g : Grow pot H H1) (c : M1 = M ∨ ∃ c, M1 = c :: M ∧ H c = none) : Held mg K r Γ pot H0 M1 σ H1 ρ v d := by
  have sm : ∀ L L1 : List Addr, (∀ a, pot = some a → a ∈ L) → (L1 = L ∨ ∃ c, (∀ a, a ∈ L1 → a = c ∨ a ∈ L) ∧ H c = none) → Same (less H L) (less H1 L1) := fun L L1 hp hl a o e => by
    obtain ⟨e1, e2⟩ := less_some.mp e
    refine less_some.mpr ⟨fun m => ?_, g a o (fun z => e1 (hp a z)) e2⟩
    rcases hl with z | ⟨c, hl, hc⟩
    · exact e1 (by rw [← z]; exact m)
    · rcases hl a m with z | z
      · rw [z, hc] at e2
        cases e2
      · exact e1 z
  cases r with
  | f =>
    refine Rp.mono (sm M M1 pm ?_) h
    rcases c with c | ⟨c, e, hc⟩
    · exact .inl c
    · exact .inr ⟨c, fun a m => by rw [e] at m; exact List.mem_cons.mp m, hc⟩
  | b => trivial
  | t => trivial
  | o =>
    obtain ⟨p, e1, m, ⟨n, oo, h1, h2⟩, h3, h4⟩ := h
    refine ⟨p, e1, ?_, ⟨n, oo, g p _ n h1, h2.mono (sm (p :: M) (p :: M1) (fun a z => List.mem_cons_of_mem _ (pm a z)) ?_)⟩, h3, h4⟩
    · rcases c with c | ⟨c, e, _⟩
      · rw [c]; exact m
      · rw [e]; exact List.mem_cons_of_mem _ m
    · rcases c with c | ⟨c, e, hc⟩
      · exact .inl (by rw [c])
      · refine .inr ⟨c, fun a ma => ?_, hc⟩
        rcases List.mem_cons.mp ma with z | ma
        · exact .inr (by rw [z]; exact List.mem_cons_self ..)
        · rw [e] at ma
          rcases List.mem_cons.mp ma with z | ma
          · exact .inl z
          · exact .inr (List.mem_cons_of_mem _ ma)
theorem set_at {α : Type} {l : List α} {i j : Nat} {a : α} {x : α} (h : (l.set i a)[j]? = some x) : (i = j ∧ x = a ∧ i < l.length) ∨ (i ≠ j ∧ l[j]? = some x) := by
  by_cases e : i = j
  · subst e
    rw [List.getElem?_set] at h
    rw [if_pos rfl] at h
    split at h
    · rename_i hl
      cases h
      exact .inl ⟨rfl, rfl, hl⟩
    · cases h
  · rw [List.getElem?_set_ne e] at h
    exact .inr ⟨e, h⟩
/-- it is put into slot i -/
theorem SOk.put (S : SOk mg K Γ pot M0 H0 B M σ H ρ) {i : Nat} (hi : i < Γ.length) (q : Held mg K r Γ pot H0 M σ H ρ v d) : SOk mg K (Γ.set i r.md) pot M0 H0 B M (σ.set i (some v)) H (ρ.set i (some d)) := by
  have I := S.env
  have hs : i < σ.length := by rw [I.ls]; exact hi
  have hr : i < ρ.length := by rw [I.lr]; exact hi
  refine ⟨⟨by simp [I.ls], by simp [I.lr], fun j e h1 h2 => ?_, fun j e h1 h2 => ?_, fun j h1 => ?_, fun j e h1 h2 => ?_, fun j k a b c h1 h2 h3 h4 h5 h6 => ?_, I.al, I.pm⟩, S.gr, S.sub, fun j e a h1 h2 h3 => ?_, S.m0, S.bs⟩
  · rcases set_at h1 with ⟨rfl, e1, _⟩ | ⟨n, e1⟩
    · rw [List.getElem?_set_self hr] at h2
      cases h2
      refine ⟨v, List.getElem?_set_self hs, ?_⟩
      cases r with
      | f => exact q
      | b => cases e1
      | t => cases e1
      | o => cases e1
    · rw [List.getElem?_set_ne n] at h2 ⊢
      exact I.f j e e1 h2
  · rcases set_at h1 with ⟨rfl, e1, _⟩ | ⟨n, e1⟩
    · rw [List.getElem?_set_self hr] at h2
      cases h2
      cases r with
      | f => cases e1
      | b => cases e1
      | t => cases e1
      | o =>
        obtain ⟨p, rfl, m, o, _⟩ := q
        exact ⟨p, List.getElem?_set_self hs, m, o⟩
    · rw [List.getElem?_set_ne n] at h2 ⊢
      exact I.o j e e1 h2
  · rcases set_at h1 with ⟨rfl, e1, _⟩ | ⟨n, e1⟩
    · cases r <;> cases e1
    · rw [List.getElem?_set_ne n]
      exact I.p j e1
  · rcases set_at h1 with ⟨rfl, e1, _⟩ | ⟨n, e1⟩
    · cases r <;> cases e1
    · rw [List.getElem?_set_ne n] at h2 ⊢
      exact I.s j e e1 h2
  · rcases set_at h1 with ⟨rfl, e1, _⟩ | ⟨n, e1⟩
    · rcases set_at h2 with ⟨rfl, e2, _⟩ | ⟨n2, e2⟩
      · rfl
      · rw [List.getElem?_set_self hs] at h5
        rw [List.getElem?_set_ne n2] at h4 h6
        cases r with
        | f => cases e1
        | b => cases e1
        | t => cases e1
        | o =>
          obtain ⟨p, rfl, m, o, _, hno⟩ := q
          cases h5
          exact absurd h6 (hno k c e2 h4)
    · rcases set_at h2 with ⟨rfl, e2, _⟩ | ⟨n2, e2⟩
      · rw [List.getElem?_set_self hs] at h6
        rw [List.getElem?_set_ne n] at h3 h5
        cases r with
        | f => cases e2
        | b => cases e2
        | t => cases e2
        | o =>
          obtain ⟨p, rfl, m, o, _, hno⟩ := q
          cases h6
          exact absurd h5 (hno j b e1 h3)
      · rw [List.getElem?_set_ne n] at h3 h5
        rw [List.getElem?_set_ne n2] at h4 h6
        exact I.ap j k a b c e1 e2 h3 h4 h5 h6
  · rcases set_at h1 with ⟨rfl, e1, _⟩ | ⟨n, e1⟩
    · rw [List.getElem?_set_self hs] at h3
      cases h3
      cases r with
      | f => cases e1
      | b => cases e1
      | t => cases e1
      | o =>
        obtain ⟨p, ep, m, o, hz, _⟩ := q
        cases ep
        exact hz
    · rw [List.getElem?_set_ne n] at h2 h3
      exact S.ow j e a e1 h2 h3
/-- a held value stays held when another slot is set -/
theorem Held.put {r r' : Rm} {w : V} {e : D} {i : Nat} (h : Held mg K r Γ pot H0 M σ H ρ v d) (h' : Held mg K r' Γ pot H0 M σ H ρ w e) (hn : r = .o → r' = .o → v ≠ w) : Held mg K r (Γ.set i r'.md) pot H0 M (σ.set i (some w)) H (ρ.set i (some e)) v d := by
  cases r with
  | f => exact h
  | b => trivial
  | t => trivial
  | o =>
    obtain ⟨p, e1, m, o, z, hno⟩ := h
    refine ⟨p, e1, m, o, z, fun j f h1 h2 h3 => ?_⟩
    rcases set_at h1 with ⟨rfl, e2, hl⟩ | ⟨n, e2⟩
    · rcases set_at h3 with ⟨_, e3, _⟩ | ⟨n, _⟩
      · cases e3
        cases r' with
        | f => cases e2
        | b => cases e2
        | t => cases e2
        | o => exact hn rfl rfl e1
      · exact n rfl
    · rw [List.getElem?_set_ne n] at h2 h3
      exact hno j f e2 h2 h3
/-- an own list becomes data -/
theorem SOk.freeze (S : SOk mg K Γ pot M0 H0 B M σ H ρ) {i : Nat} (hi : Γ[i]? = some .o) : ∃ M1, SOk mg K (Γ.set i .f) pot M0 H0 B M1 σ H ρ := by
  have I := S.env
  cases er : ρ[i]? with
  | none =>
    have hl := (List.getElem?_eq_some_iff.mp hi).1
    rw [List.getElem?_eq_none_iff, I.lr] at er
    omega
  | some od =>
    cases od with
    | none =>
      refine ⟨M, ⟨by simp [I.ls], by simp [I.lr], fun j e h1 h2 => ?_, fun j e h1 h2 => ?_, fun j h1 => ?_, fun j e h1 h2 => ?_, fun j k a b c h1 h2 h3 h4 h5 h6 => ?_, I.al, I.pm⟩, S.gr, S.sub, fun j e a h1 h2 h3 => ?_, S.m0, S.bs⟩
      · rcases set_at h1 with ⟨rfl, _, _⟩ | ⟨n, e1⟩
        · rw [er] at h2
          cases h2
        · exact I.f j e e1 h2
      · rcases set_at h1 with ⟨_, z, _⟩ | ⟨n, e1⟩
        · cases z
        · exact I.o j e e1 h2
      · rcases set_at h1 with ⟨_, z, _⟩ | ⟨n, e1⟩
        · cases z
        · exact I.p j e1
      · rcases set_at h1 with ⟨_, z, _⟩ | ⟨n, e1⟩
        · cases z
        · exact I.s j e e1 h2
      · rcases set_at h1 with ⟨_, z, _⟩ | ⟨n, e1⟩
        · cases z
        · rcases set_at h2 with ⟨_, z, _⟩ | ⟨n2, e2⟩
          · cases z
          · exact I.ap j k a b c e1 e2 h3 h4 h5 h6
      · rcases set_at h1 with ⟨_, z, _⟩ | ⟨n, e1⟩
        · cases z
        · exact S.ow j e a e1 h2 h3
    | some d =>
      obtain ⟨p, es, m, o⟩ := I.o i d hi er
      have hz := S.ow i d p hi er es
      obtain ⟨np, oo, h1, h2⟩ := o
      have low : Same (less H M) (less H (M.filter fun a => decide (a ≠ p))) := less_sub fun a ha => (List.mem_filter.mp ha).1
      have hp : (less H (M.filter fun a => decide (a ≠ p))) p = some oo := less_some.mpr ⟨fun q => by simpa using (List.mem_filter.mp q).2, h1⟩
      have hM0 : ∀ a ∈ M0, a ≠ p → a ∈ M.filter fun a => decide (a ≠ p) := fun a ha n => List.mem_filter.mpr ⟨S.sub a ha, by simpa using n⟩
      have q0 : p ∉ M0 := fun q => S.m0 p q hz
      · refine ⟨M.filter fun a => decide (a ≠ p), ⟨by simp [I.ls], by simp [I.lr], fun j e g1 g2 => ?_, fun j e g1 g2 => ?_, fun j g1 => ?_, fun j e g1 g2 => ?_, fun j k a b c g1 g2 g3 g4 g5 g6 => ?_, fun a ha => I.al a (List.mem_filter.mp ha).1, fun a ha => List.mem_filter.mpr ⟨I.pm a ha, by simpa using fun z : a = p => np (by rw [ha, z])⟩⟩, S.gr, fun a ha => hM0 a ha fun z => q0 (by rw [← z]; exact ha), fun j e a g1 g2 g3 => ?_, S.m0, fun a o h => low a o (S.bs a o h)⟩
        · rcases set_at g1 with ⟨rfl, _, _⟩ | ⟨n, e1⟩
          · rw [er] at g2
            cases g2
            exact ⟨_, es, HoR.rp hp (h2.mono fun a o e => low a o (less_sub (fun b q => List.mem_cons_of_mem _ q) a o e))⟩
          · obtain ⟨w, w1, w2⟩ := I.f j e e1 g2
            exact ⟨w, w1, w2.mono low⟩
        · rcases set_at g1 with ⟨_, z, _⟩ | ⟨n, e1⟩
          · cases z
          · obtain ⟨a, w1, w2, w3, oj, w5, w6⟩ := I.o j e e1 g2
            refine ⟨a, w1, List.mem_filter.mpr ⟨w2, ?_⟩, w3, oj, w5, w6.mono (less_sub fun b hb => ?_)⟩
            · simpa using fun z : a = p => n (I.ap i j p _ e hi e1 er g2 es (by rw [← z]; exact w1))
            · rcases List.mem_cons.mp hb with z | hb
              · rw [z]
                exact List.mem_cons_self ..
              · exact List.mem_cons_of_mem _ (List.mem_filter.mp hb).1
        · rcases set_at g1 with ⟨_, z, _⟩ | ⟨n, e1⟩
          · cases z
          · exact I.p j e1
        · rcases set_at g1 with ⟨_, z, _⟩ | ⟨n, e1⟩
          · cases z
          · obtain ⟨a, ns, w1, w2, w3⟩ := I.s j e e1 g2
            exact ⟨a, ns, w1, w2, sqL_mono low w3⟩
        · rcases set_at g1 with ⟨_, z, _⟩ | ⟨n, e1⟩
          · cases z
          · rcases set_at g2 with ⟨_, z, _⟩ | ⟨n2, e2⟩
            · cases z
            · exact I.ap j k a b c e1 e2 g3 g4 g5 g6
        · rcases set_at g1 with ⟨_, z, _⟩ | ⟨n, e1⟩
          · cases z
          · exact S.ow j e a e1 g2 g3
end
end DL
set_option maxHeartbeats 2000000
namespace DL
open PySem PySem.Spec PyProof.Rows L2
def sNext : Fs := fun ρ π => .ok (.nx ρ, π)
def sSeq (a b : Fs) : Fs := fun ρ π => (a ρ π).bind fun x => match x.1 with
  | .nx ρ1 => b ρ1 x.2
  | .bk ρ1 => .ok (.bk ρ1, x.2)
  | .ct ρ1 => .ok (.ct ρ1, x.2)
  | .rt d => .ok (.rt d, x.2)
def sSet (i : Nat) (fe : Ed) : Fs := fun ρ π => (fe ρ π).bind fun x => .ok (.nx (ρ.set i (some x.1)), x.2)
def sPar (i j : Nat) (fa fb : Ed) : Fs := fun ρ π => (fa ρ π).bind fun x => (fb ρ x.2).bind fun y => .ok (.nx ((ρ.set i (some x.1)).set j (some y.1)), y.2)
def sPar3 (i j l : Nat) (fa fb fc : Ed) : Fs := fun ρ π => (fa ρ π).bind fun x => (fb ρ x.2).bind fun y => (fc ρ y.2).bind fun z => .ok (.nx (((ρ.set i (some x.1)).set j (some y.1)).set l (some z.1)), z.2)
def sUnp (fe : Ed) (fg : D → Rho → Option Rho) : Fs := fun ρ π => (fe ρ π).bind fun x => (ofO (fg x.1 ρ)).bind fun ρ1 => .ok (.nx ρ1, x.2)
def sExpr (fe : Ed) : Fs := fun ρ π => (fe ρ π).bind fun x => .ok (.nx ρ, x.2)
def sRet (fe : Ed) : Fs := fun ρ π => (fe ρ π).bind fun x => .ok (.rt x.1, x.2)
def sRetN : Fs := fun _ π => .ok (.rt .non, π)
def sIf (ft : Et) (a b : Fs) : Fs := fun ρ π => (ft ρ π).bind fun x => if x.1 = true then a ρ x.2 else b ρ x.2
def sBreak : Fs := fun ρ π => .ok (.bk ρ, π)
def sCont : Fs := fun ρ π => .ok (.ct ρ, π)
def sStuck : Fs := fun _ _ => .stuck
def forGo (fg : D → Rho → Option Rho) (fb : Fs) : List D → Rho → Pot → Res (Out × Pot)
  | [], ρ, π => .ok (.nx ρ, π)
  | d :: ds, ρ, π => (ofO (fg d ρ)).bind fun ρ1 => (fb ρ1 π).bind fun y => match y.1 with
    | .nx ρ2 => forGo fg fb ds ρ2 y.2
    | .ct ρ2 => forGo fg fb ds ρ2 y.2
    | .bk ρ2 => .ok (.nx ρ2, y.2)
    | .rt d => .ok (.rt d, y.2)
def sFor (fi : Ei) (fg : D → Rho → Option Rho) (fb : Fs) : Fs := fun ρ π => (fi ρ π).bind fun x => forGo fg fb x.1 ρ x.2
def whileGo (ft : Et) (fb : Fs) : Nat → Rho → Pot → Res (Out × Pot)
  | 0, _, _ => .stuck
  | n + 1, ρ, π => (ft ρ π).bind fun x => if x.1 = true then (fb ρ x.2).bind fun y => (match y.1 with
    | .nx ρ2 => whileGo ft fb n ρ2 y.2
    | .ct ρ2 => whileGo ft fb n ρ2 y.2
    | .bk ρ2 => .ok (.nx ρ2, y.2)
    | .rt d => .ok (.rt d, y.2)) else .ok (.nx ρ, x.2)
def lineW : Nat := 1000000000
def sWhile (ft : Et) (fb : Fs) : Fs := whileGo ft fb lineW
structure DS (X : Cx) (E : XK) (r : Rm) (Γl Γ Γ' : List Md) (st : Stmt) (ts : TS) (fs : Fs) : Prop where
  ps : PS X st ts
  sem : SemS X.mg X.K E r Γl Γ Γ' ts fs
structure DSs (X : Cx) (E : XK) (r : Rm) (Γl Γ Γ' : List Md) (sts : List Stmt) (ts : TS) (fs : Fs) : Prop where
  pss : PSs X sts ts
  sem : SemS X.mg X.K E r Γl Γ Γ' ts fs
section
variable {X : Cx} {E : XK} {r r' ra rb rc : Rm} {Γl Γ Γ1 Γ' : List Md} {pos : Pos} {k : Nat} {e a b c : Expr} {te ta tb tc : TE} {fe fa fb fc : Ed} {st : Stmt} {sts body : List Stmt} {ts us : TS} {fs gs : Fs} {tt : TT} {ft : Et}
theorem dss_nil : DSs X E r Γl Γ Γ [] tNext sNext := ⟨pss_nil, fun pot M0 H0 B M σ H ρ π D S p h => h M σ H S p⟩
theorem dss_one (h : DS X E r Γl Γ Γ' st ts fs) : DSs X E r Γl Γ Γ' [st] ts fs := ⟨pss_one h.ps, h.sem⟩
theorem dss_cons (h : DS X E r Γl Γ Γ1 st ts fs) (h' : DSs X E r Γl Γ1 Γ' sts us gs) : DSs X E r Γl Γ Γ' (st :: sts) (tSeq ts us) (sSeq fs gs) :=
  ⟨pss_cons h.ps h'.pss, fun pot M0 H0 B M σ H ρ π D S p q => by
    refine h.sem pot M0 H0 B M σ H ρ π _ S p ?_
    unfold sSeq at q
    cases ex : fs ρ π with
    | err c ns xs π' =>
      rw [ex] at q
      exact q
    | stuck =>
      rw [ex] at q
      exact q
    | ok x =>
      obtain ⟨o, π1⟩ := x
      rw [ex] at q
      cases o with
      | nx ρ1 => exact fun M1 σ1 H1 S1 p1 => h'.sem pot M0 H0 B M1 σ1 H1 ρ1 π1 D S1 p1 q
      | bk ρ1 => exact q
      | ct ρ1 => exact q
      | rt d => exact q⟩
/-- an own list is data from here on -/
theorem dss_frz (i : Nat) (h : DSs X E r Γl (Γ.set i .f) Γ' sts ts fs) (hΓ : Γ[i]? = some .o := by rfl) : DSs X E r Γl Γ Γ' sts ts fs :=
  ⟨h.pss, fun pot M0 H0 B M σ H ρ π D S p q => by
    obtain ⟨M1, S1⟩ := S.freeze hΓ
    exact h.sem pot M0 H0 B M1 σ H ρ π D S1 p q⟩
theorem ds_never : DS X E r Γl Γ Γ' st tNever sStuck := ⟨ps_never, fun pot M0 H0 B M σ H ρ π D S p h => h.elim⟩
theorem set_same {l : List Md} {i : Nat} {m : Md} (h : l[i]? = some m) : l.set i m = l := by
  apply List.ext_getElem?
  intro j
  by_cases e : i = j
  · subst e
    rw [List.getElem?_set_self (List.getElem?_eq_some_iff.mp h).1, h]
  · rw [List.getElem?_set_ne e]
/-- x = e -/
theorem sem_set {i : Nat} (hΓ : Γ[i]? = some r'.md) (he : SemE X.mg X.K E r' Γ te fe) : SemS X.mg X.K E r Γl Γ Γ (tAsg te (gName i)) (sSet i fe) := fun pot M0 H0 B M σ H ρ π D S p h => by
  refine PostS.seq (r' := r') (te := te σ H) h S (fun Q' hq => he pot M σ H ρ π S.env p Q' hq) fun d π1 v H1 _ g1 p1 q1 h1 => ?_
  obtain ⟨M1, S1, hd, _⟩ := S.hold g1 p1 q1
  have S2 := S1.put (i := i) (List.getElem?_eq_some_iff.mp hΓ).1 hd
  rw [set_same hΓ] at S2
  exact h1 M1 _ H1 S2 p1
theorem ds_set (i : Nat) {x : Str} {p : Pos} (o : XOk X E k) (he : DE X E r' Γ e te fe) (hΓ : Γ[i]? = some r'.md := by rfl) (hN : X.N[i]? = some x := by rfl) (hx : Loc X.env.scope x := by first | exact Or.inl rfl | exact Or.inr rfl)
    (hs : swapsWith e (some (.Name x p)) pos.line X.env = pure false := by rfl) (hf : X.fn x = true ∨ X.env.scope.names.lookup x = some .local := by first | exact .inl rfl | exact .inr rfl) : DS X E r Γl Γ Γ (.Assign [.Name x p] e pos) (tAsg te (gName i)) (sSet i fe) :=
  ⟨ps_set o.nd hN hx he.pe hs hf, sem_set hΓ he.sem⟩
/-- a, b = e1, e2 -/
theorem ds_par (i j : Nat) {x y : Str} {px py pt : Pos} {kt k2 : Nat} {pt2 : Pos} (o : XOk X E k) (ha : DE X E ra Γ a ta fa) (hb : DE X E rb Γ b tb fb) (hi : Γ[i]? = some ra.md := by rfl) (hj : Γ[j]? = some rb.md := by rfl) (hN : X.N[i]? = some x := by rfl) (hN2 : X.N[j]? = some y := by rfl) (hij : i ≠ j := by decide)
    (hx : X.env.scope.names.lookup x = some .local := by rfl) (hy : X.env.scope.names.lookup y = some .local := by rfl) (hw : swappedStores [.Tuple [.Name x px, .Name y py] kt pt] (.Tuple [a, b] k2 pt2) X.env = pure (some [x, y]) := by rfl)
    (hs : swapsWithSole [.Tuple [.Name x px, .Name y py] kt pt] (.Tuple [a, b] k2 pt2) pos.line X.env = pure false := by rfl) (s1 : starEach [a, b] X.env = (false, eval a X.env) :: starEach [b] X.env := by rfl) (s2 : starEach [b] X.env = (false, eval b X.env) :: starEach [] X.env := by rfl) :
    DS X E r Γl Γ Γ (.Assign [.Tuple [.Name x px, .Name y py] kt pt] (.Tuple [a, b] k2 pt2) pos) (tPar i j (tCons ta (tCons tb tNil))) (sPar i j fa fb) :=
  ⟨ps_par o.calm o.nd hN hN2 hij hx hy (pa_cons ha.pe (pa_cons hb.pe pa_nil s2) s1) hw hs, fun pot M0 H0 B M σ H ρ π D S p h => by
    refine PostS.seq (r' := ra) (te := ta σ H) h S (fun Q' hq => ha.sem pot M σ H ρ π S.env p Q' hq) fun d π1 v H1 _ g1 p1 q1 h1 => ?_
    obtain ⟨M1, S1, hd, _⟩ := S.hold g1 p1 q1
    refine PostS.seq (r' := rb) (te := tb σ H1) h1 S1 (fun Q' hq => hb.sem pot M1 σ H1 ρ π1 S1.env p1 Q' hq) fun e π2 w H2 _ g2 p2 q2 h2 => ?_
    obtain ⟨M2, S2, he, hc⟩ := S1.hold g2 p2 q2
    have hd2 := hd.carry S1.env.pm g2 hc
    have hne : rb = .o → ra = .o → w ≠ v := fun e1 e2 z => by
      subst e1
      subst e2
      obtain ⟨p', e3, m, _⟩ := hd
      obtain ⟨q', e4, hn, _⟩ := q2
      rw [e4, e3] at z
      cases z
      exact (S1.env.al _ m).nn hn
    have he2 := he.put hd2 hne (i := i)
    have S3 := S2.put (i := i) (List.getElem?_eq_some_iff.mp hi).1 hd2
    have S4 := S3.put (i := j) (by rw [List.length_set]; exact (List.getElem?_eq_some_iff.mp hj).1) he2
    rw [set_same hi, set_same hj] at S4
    exact ⟨v, w, rfl, h2 M2 _ H2 S4 p2⟩⟩
/-- a, b = e: a tuple's items -/
theorem ds_unp {tg : Expr} {is : List Nat} {g : TG} {fg : D → Rho → Option Rho} (he : DE X E .f Γ e te fe) (hg : DG X Γ tg is g fg) (h1 : swapsWithSole [tg] e pos.line X.env = pure false := by rfl) (h2 : swappedStores [tg] e X.env = pure none := by rfl)
    (h3 : (assignEach [tg] X.env).map (·.2) = [assign tg X.env] := by rfl) : DS X E r Γl Γ Γ (.Assign [tg] e pos) (tAsg te g) (sUnp fe fg) :=
  ⟨ps_asg he.pe hg.pg h1 h2 h3, fun pot M0 H0 B M σ H ρ π D S p h => by
    refine PostS.seq (r' := .f) (te := te σ H) h S (fun Q' hq => he.sem pot M σ H ρ π S.env p Q' hq) fun d π1 v H1 _ g1 p1 q1 h1 => ?_
    have S1 := S.grow g1 p1
    cases e1 : fg d ρ with
    | none =>
      rw [e1] at h1
      exact h1.elim
    | some ρ1 =>
      rw [e1] at h1
      refine hg.sem pot M σ H1 ρ v d S1.env q1 ρ1 e1 _ fun σ1 I1 s1 s2 => h1 M σ1 H1 ⟨I1, S1.gr, S1.sub, fun j e a w1 w2 w3 => ?_, S1.m0, S1.bs⟩ p1
      have nj : j ∉ is := fun z => by
        rw [hg.fs j z] at w1
        cases w1
      rw [s1 j nj] at w3
      rw [s2 j nj] at w2
      exact S.ow j e a w1 w2 w3⟩
theorem ds_expr (he : DE X E r' Γ e te fe) (hs : swapsWith e none pos.line X.env = pure false := by rfl) : DS X E r Γl Γ Γ (.Expr e pos) (tDrop te) (sExpr fe) :=
  ⟨ps_expr he.pe hs, fun pot M0 H0 B M σ H ρ π D S p h => by
    refine PostS.seq (r' := r') (te := te σ H) h S (fun Q' hq => he.sem pot M σ H ρ π S.env p Q' hq) fun d π1 v H1 _ g1 p1 q1 h1 => ?_
    exact h1 M σ H1 (S.grow g1 p1) p1⟩
theorem RpR.out {pot : Option Addr} {M0 M : List Addr} {H0 H H1 B : Hp} {σ : L2.St} {ρ : Rho} {v : V} {d : D} (S : SOk X.mg X.K Γ pot M0 H0 B M σ H ρ) (hr : r = .f ∨ r = .o) (q : RpR X.mg X.K r pot M H H1 v d) : RpR X.mg X.K r pot M0 H0 H1 v d := by
  rcases hr with rfl | rfl
  · exact Rp.mono (less_sub S.sub) q
  · obtain ⟨p, e, hn, n, oo, h1, h2⟩ := q
    refine ⟨p, e, ?_, n, oo, h1, h2.mono (less_sub fun a ha => ?_)⟩
    · cases z : H0 p with
      | none => rfl
      | some o =>
        rw [S.gr p o n z] at hn
        cases hn
    · rcases List.mem_cons.mp ha with z | ha
      · rw [z]
        exact List.mem_cons_self ..
      · exact List.mem_cons_of_mem _ (S.sub a ha)
theorem ds_ret (he : DE X E r Γ e te fe) (hr : r = .f ∨ r = .o := by first | exact .inl rfl | exact .inr rfl) : DS X E r Γl Γ Γ' (.Return (some e) pos) (tRet te) (sRet fe) :=
  ⟨ps_ret he.pe, fun pot M0 H0 B M σ H ρ π D S p h => by
    refine PostS.seq (r' := r) (te := te σ H) h S (fun Q' hq => he.sem pot M σ H ρ π S.env p Q' hq) fun d π1 v H1 _ g1 p1 q1 h1 => ?_
    exact h1 v H1 (S.gr.trans g1) p1 (q1.out S hr)⟩
/-- an own list is handed back, as a new one -/
theorem ds_reto (i : Nat) {x : Str} {p : Pos} (hN : X.N[i]? = some x := by rfl) (hv : Vis X.env.scope x := by first | exact Or.inl rfl | exact Or.inr (Or.inl rfl) | exact Or.inr (Or.inr rfl)) (hΓ : Γ[i]? = some .o := by rfl)
    (hd : (x == ("__debug__" : Str)) = false := by decide) (hcd : (x == ("__classdict__" : Str)) = false := by decide) : DS X E .o Γl Γ Γ' (.Return (some (.Name x p)) pos) (tRet (tVar i)) (sRet (eVar i)) :=
  ⟨ps_ret (pe_var hN hv hd hcd), fun pot M0 H0 B M σ H ρ π D S p h => by
    unfold sRet eVar at h
    cases er : ρ[i]? with
    | none =>
      rw [er] at h
      exact h.elim
    | some od =>
      cases od with
      | none =>
        rw [er] at h
        exact h.elim
      | some d =>
        rw [er] at h
        obtain ⟨q, e1, m, n, oo, h1, h2⟩ := S.env.o i d hΓ er
        refine ⟨_, e1, h _ H S.gr p ⟨q, rfl, S.ow i d q hΓ er e1, n, oo, h1, h2.mono (less_sub fun a ha => ?_)⟩⟩
        rcases List.mem_cons.mp ha with z | ha
        · rw [z]
          exact List.mem_cons_self ..
        · exact List.mem_cons_of_mem _ (S.sub a ha)⟩
theorem ds_if (hc : DT X E Γ c tt ft) (ha : DSs X E r Γl Γ Γ' body ts fs) (hb : DSs X E r Γl Γ Γ' sts us gs) : DS X E r Γl Γ Γ' (.If c body sts pos) (tIfS tt ts us) (sIf ft fs gs) :=
  ⟨ps_if hc.pt ha.pss hb.pss, fun pot M0 H0 B M σ H ρ π D S p h => by
    refine PostS.seqT (te := tt σ H) h S (fun Q' hq => hc.sem pot M σ H ρ π S.env p Q' hq) fun d π1 H1 _ g1 p1 h1 => ?_
    cases d with
    | true => exact ha.sem pot M0 H0 B M σ H1 ρ π1 D (S.grow g1 p1) p1 h1
    | false => exact hb.sem pot M0 H0 B M σ H1 ρ π1 D (S.grow g1 p1) p1 h1⟩
end
end DL
set_option maxHeartbeats 2000000
namespace DL
open PySem PySem.Spec PyProof.Rows L2
section
variable {mg : Str → Option Value} {K : PySem.W.Frag} {pot : Option Addr} {M M0 M1 : List Addr} {H H0 H1 H2 B : Hp} {π π1 : Pot} {Γ Γl Γ' : List Md} {σ : L2.St} {ρ : Rho} {v : V} {d : D} {r : Rm} {E : XK}
theorem less_upd {p : Addr} {o : HO} (h : p ∈ M) : Same (less H M) (less (upd H p o) M) := fun a u e => by
  obtain ⟨e1, e2⟩ := less_some.mp e
  refine less_some.mpr ⟨e1, ?_⟩
  rw [upd_ne (fun z => e1 (by rw [z]; exact h))]
  exact e2
theorem SOk.mut (S : SOk mg K Γ pot M0 H0 B M σ H ρ) {i : Nat} {p : Addr} {o' : HO} {d' : D} (hi : Γ[i]? = some .o) (er : ρ[i]? = some (some d)) (es : σ[i]? = some (some (.ref p))) (q : HoR mg K (less H M) o' d') :
    SOk mg K Γ pot M0 H0 B M σ (upd H p o') (ρ.set i (some d')) := by
  have I := S.env
  obtain ⟨p', e1, m, n, oo, h1, h2⟩ := I.o i d hi er
  have ep : p' = p := by
    rw [es] at e1
    cases e1
    rfl
  subst ep
  have hr : i < ρ.length := (List.getElem?_eq_some_iff.mp er).1
  have hz := S.ow i d p' hi er es
  refine ⟨⟨I.ls, by simp [I.lr], fun j e g1 g2 => ?_, fun j e g1 g2 => ?_, I.p, fun j e g1 g2 => ?_, fun j k a b c g1 g2 g3 g4 g5 g6 => ?_, fun a ha => ?_, I.pm⟩, fun a o g1 g2 => ?_, S.sub, fun j e a g1 g2 g3 => ?_, S.m0, fun a o e => less_upd m a o (S.bs a o e)⟩
  · have nij : i ≠ j := fun z => by rw [← z, hi] at g1; cases g1
    rw [List.getElem?_set_ne nij] at g2
    obtain ⟨w, w1, w2⟩ := I.f j e g1 g2
    exact ⟨w, w1, w2.mono (less_upd m)⟩
  · rcases set_at g2 with ⟨rfl, e3, _⟩ | ⟨nij, e3⟩
    · cases e3
      exact ⟨p', es, m, n, o', upd_same, (q.mono (less_in m)).mono (less_upd (List.mem_cons_self ..))⟩
    · obtain ⟨a, w1, w2, w3, oj, w5, w6⟩ := I.o j e g1 e3
      have na : a ≠ p' := fun z => nij (I.ap i j p' d e hi g1 er e3 es (by rw [← z]; exact w1))
      exact ⟨a, w1, w2, w3, oj, by rw [upd_ne na]; exact w5, w6.mono (less_upd (List.mem_cons_of_mem _ m))⟩
  · have nij : i ≠ j := fun z => by rw [← z, hi] at g1; cases g1
    rw [List.getElem?_set_ne nij] at g2
    obtain ⟨a, ns, w1, w2, w3⟩ := I.s j e g1 g2
    exact ⟨a, ns, w1, w2, sqL_mono (less_upd m) w3⟩
  · have s3 : ∃ b', ρ[j]? = some (some b') := by
      rcases set_at g3 with ⟨z, _, _⟩ | ⟨_, z⟩
      · exact ⟨d, by rw [← z]; exact er⟩
      · exact ⟨b, z⟩
    have s4 : ∃ b', ρ[k]? = some (some b') := by
      rcases set_at g4 with ⟨z, _, _⟩ | ⟨_, z⟩
      · exact ⟨d, by rw [← z]; exact er⟩
      · exact ⟨c, z⟩
    obtain ⟨b1, s3⟩ := s3
    obtain ⟨b2, s4⟩ := s4
    exact I.ap j k a b1 b2 g1 g2 s3 s4 g5 g6
  · by_cases z : a = p'
    · rw [z]
      exact .of upd_same q.nt
    · obtain ⟨o, e, n⟩ := I.al a ha
      exact .of (by rw [upd_ne z]; exact e) n
  · have z : a ≠ p' := fun z => by
      rw [z, hz] at g2
      cases g2
    rw [upd_ne z]
    exact S.gr a o g1 g2
  · rcases set_at g2 with ⟨rfl, e3, _⟩ | ⟨nij, e3⟩
    · exact S.ow i d a hi er g3
    · exact S.ow j e a g1 e3 g3
theorem PotAt.mut {p : Addr} {o : HO} (h : PotAt pot H π) (n : pot ≠ some p) : PotAt pot (upd H p o) π := fun a e => by
  rw [upd_ne (fun z => n (by rw [e, z]))]
  exact h a e
/-- the pot turns -/
theorem SOk.potset (S : SOk mg K Γ pot M0 H0 B M σ H ρ) {p : Addr} (e : pot = some p) (a b : Int) : SOk mg K Γ pot M0 H0 B M σ (upd H p (.lst [.int a, .int b])) ρ :=
  S.grow (π := (a, b)) (fun x o n h => by
    rw [upd_ne (fun z => n (by rw [e, z]))]
    exact h) fun x h => by
    rw [e] at h
    cases h
    exact upd_same
end
def sMut (i : Nat) (fe : Ed) (f : D → List D → Option (List D)) : Fs := fun ρ π => match ρ[i]? with
  | some (some (.lst ds)) => (fe ρ π).bind fun x => (ofO (f x.1 ds)).bind fun es => .ok (.nx (ρ.set i (some (.lst es))), x.2)
  | _ => .stuck
def sMut2 (i : Nat) (fk fe : Ed) (f : D → D → List D → Option (List D)) : Fs := fun ρ π => match ρ[i]? with
  | some (some (.lst ds)) => (fk ρ π).bind fun y => (fe ρ y.2).bind fun x => (ofO (f y.1 x.1 ds)).bind fun es => .ok (.nx (ρ.set i (some (.lst es))), x.2)
  | _ => .stuck
def appD (e : D) (ds : List D) : Option (List D) := if ds.length < sizeLine then some (ds ++ [e]) else none
def extD (e : D) (ds : List D) : Option (List D) := match e with
  | .lst es => if ds.length + es.length ≤ sizeLine then some (ds ++ es) else none
  | _ => none
/-- the value, then the place -/
def setD (v k : D) (ds : List D) : Option (List D) := match k with
  | .int n => (ixN ds.length n).map fun j => ds.set j v
  | _ => none
def sApp (i : Nat) (fe : Ed) : Fs := sMut i fe appD
def sExt (i : Nat) (fe : Ed) : Fs := sMut i fe extD
def sSetIx (i : Nat) (fe fk : Ed) : Fs := sMut2 i fe fk setD
def intAt (ds : List D) (k : D) : Option (Nat × Int) := match k with
  | .int m => if 0 ≤ m ∧ m < 4611686018427387904 then (match ds[m.toNat]? with
    | some (.int x) => some (m.toNat, x)
    | _ => none) else none
  | _ => none
def sAugIx (i : Nat) (g : Int → Int → Int) (fk fe : Ed) : Fs := fun ρ π => match ρ[i]? with
  | some (some (.lst ds)) => (fk ρ π).bind fun y => (ofO (intAt ds y.1)).bind fun a => (fe ρ y.2).bind fun x => match x.1 with
    | .int b => .ok (.nx (ρ.set i (some (.lst (ds.set a.1 (.int (g a.2 b)))))), x.2)
    | _ => .stuck
  | _ => .stuck
def sAug (i : Nat) (g : Int → Int → Int) (fe : Ed) : Fs := fun ρ π => match ρ[i]? with
  | some (some (.int a)) => (fe ρ π).bind fun x => match x.1 with
    | .int b => .ok (.nx (ρ.set i (some (.int (g a b)))), x.2)
    | _ => .stuck
  | _ => .stuck
def ePot0 : Ed := fun _ π => .ok (.int π.1, π)
def ePot1 : Ed := fun _ π => .ok (.int π.2, π)
def sPot1 (fe : Ed) : Fs := fun ρ π => (fe ρ π).bind fun x => match x.1 with
  | .int n => .ok (.nx ρ, (x.2.1, n))
  | _ => .stuck
def divOk (i j : Int) : Bool := decide (0 < j) && !Builtin.divisionGoesByPylong i j
def sPotDm (j : Nat) (fe : Ed) : Fs := fun ρ π => (fe ρ π).bind fun x => match x.1 with
  | .int n => if divOk π.1 n then .ok (.nx (ρ.set j (some (.int (π.1 % n)))), (π.1 / n, x.2.2)) else .stuck
  | _ => .stuck
section
variable {X : Cx} {E : XK} {r r' ra rb rc : Rm} {Γl Γ Γ1 Γ' : List Md} {pos : Pos} {k : Nat} {e a b c : Expr} {te ta tb tc ti : TE} {fe fa fb fc fk : Ed} {st : Stmt} {sts body : List Stmt} {ts us : TS} {fs gs : Fs} {tt : TT} {ft : Et}
theorem own_at {pot : Option Addr} {M M0 : List Addr} {H H0 B : Hp} {σ : L2.St} {ρ : Rho} {i : Nat} {ds : List D} (S : SOk X.mg X.K Γ pot M0 H0 B M σ H ρ) (hΓ : Γ[i]? = some .o) (er : ρ[i]? = some (some (.lst ds))) :
    ∃ p xs, σ[i]? = some (some (.ref p)) ∧ pot ≠ some p ∧ H p = some (.lst xs) ∧ RpL X.mg X.K (less H M) xs ds := by
  obtain ⟨p, e1, m, n, oo, h1, h2⟩ := S.env.o i _ hΓ er
  cases h2 with
  | lst h2 => exact ⟨p, _, e1, n, h1, h2.mono (less_sub fun a q => List.mem_cons_of_mem _ q)⟩
/-- x.append(e), x.extend(e) -/
theorem sem_mut {i : Nat} {f : D → List D → Option (List D)} {rm : V → List V → Hp → VK → Prop} {ra : Rm} (hΓ : Γ[i]? = some .o) (he : SemE X.mg X.K E ra Γ te fe)
    (ho : ∀ (pot : Option Addr) (M : List Addr) (H : Hp) (p : Addr) (xs : List V) (y : V) (ds : List D) (d : D) (es : List D), H p = some (.lst xs) → RpL X.mg X.K (less H M) xs ds → (ra = .f → Rp X.mg X.K (less H M) y d) → Rb X.mg X.K pot M H y d → f d ds = some es →
      ∃ ys, RpL X.mg X.K (less H M) ys es ∧ ∀ Q : VK, Q .non (upd H p (.lst ys)) → rm (.ref p) [y] H Q) : SemS X.mg X.K E r Γl Γ Γ (tDrop (tBM X.K "list" rm (tVar i) (tCons te tNil))) (sMut i fe f) := fun pot M0 H0 B M σ H ρ π D' S p h => by
  unfold sMut at h
  split at h
  · rename_i ds er
    obtain ⟨c, xs, e1, n, h1, r1⟩ := own_at S hΓ er
    refine ⟨.ref c, e1, .inl ⟨rfl, xs, .inl (.inl h1)⟩, ?_⟩
    refine PostS.seq (r' := ra) (te := te σ H) h S (fun Q' hq => he pot M σ H ρ π S.env p Q' hq) fun d π1 v H1 _ g1 p1 q1 h2 => ?_
    have S1 := S.grow g1 p1
    cases ef : f d ds with
    | none =>
      rw [ef] at h2
      exact h2.elim
    | some es =>
      rw [ef] at h2
      obtain ⟨ys, r2, hQ⟩ := ho pot M H1 c xs v ds d es (g1 c _ n h1) (r1.mono (less_grow S.env.pm g1)) (fun z => by subst z; exact q1) q1.toB ef
      exact hQ _ (h2 M σ _ (S1.mut hΓ er e1 (.lst r2)) (p1.mut n))
  · exact h.elim
abbrev BmOk (X : Cx) (x : Str) (nm : Str) (e : Expr) (p apos cpos pos : Pos) : Prop :=
  attributeBase (.Name x p) nm X.env (eval (.Name x p) X.env) = eval (.Name x p) X.env ∧
  ((((backTo cpos (starEach [e] X.env)).all fun x => !x.fst) && (backToKw cpos (keywordEach [] X.env)).all fun x => x.fst.isSome) && decide (([e].length + ([] : List Expr).length + if ([] : List Expr).isEmpty = true then 0 else 1) < 30)) = true ∧
  (apos.endLine == cpos.line) = true ∧ starEach [e] X.env = (false, eval e X.env) :: starEach [] X.env ∧ ((backTo cpos (starEach [] X.env)).any fun x => x.fst) = false ∧
  swapsWith (.Call (.Attribute (.Name x p) nm apos) [e] [] cpos) none pos.line X.env = pure false
theorem ds_app (i : Nat) {x : Str} {p apos cpos : Pos} (he : DE X E .f Γ e te fe) (hΓ : Γ[i]? = some .o := by rfl) (hN : X.N[i]? = some x := by rfl) (hv : Vis X.env.scope x := by first | exact Or.inl rfl | exact Or.inr (Or.inl rfl) | exact Or.inr (Or.inr rfl))
    (hd : (x == ("__debug__" : Str)) = false := by decide) (hcd : (x == ("__classdict__" : Str)) = false := by decide) (hb : BmOk X x "append" e p apos cpos pos := by exact ⟨rfl, rfl, rfl, rfl, rfl, rfl⟩) :
    DS X E r Γl Γ Γ (.Expr (.Call (.Attribute (.Name x p) "append" apos) [e] [] cpos) pos) (tDrop (tBM X.K "list" rAppend (tVar i) (tCons te tNil))) (sApp i fe) :=
  ⟨ps_expr (pe_bm PySem.F.plainAttrs_list PySem.F.slot_list_append PySem.F.type_list_append mt_append (pe_var hN hv hd hcd) (pa_cons he.pe pa_nil hb.2.2.2.1) hb.1 hb.2.1 hb.2.2.1 hb.2.2.2.1 hb.2.2.2.2.1) hb.2.2.2.2.2,
    sem_mut (ra := .f) hΓ he.sem fun pot M H p xs y ds d es h1 r1 q1 _ ef => by
      unfold appD at ef
      split at ef
      · rename_i hl
        cases ef
        exact ⟨xs ++ [y], r1.append (.cons (q1 rfl) .nil), fun Q q => ⟨p, xs, y, rfl, rfl, h1, by rw [r1.length]; exact hl, q⟩⟩
      · cases ef⟩
theorem ds_ext (i : Nat) {x : Str} {p apos cpos : Pos} (he : DE X E r' Γ e te fe) (hΓ : Γ[i]? = some .o := by rfl) (hN : X.N[i]? = some x := by rfl) (hv : Vis X.env.scope x := by first | exact Or.inl rfl | exact Or.inr (Or.inl rfl) | exact Or.inr (Or.inr rfl))
    (hd : (x == ("__debug__" : Str)) = false := by decide) (hcd : (x == ("__classdict__" : Str)) = false := by decide) (hb : BmOk X x "extend" e p apos cpos pos := by exact ⟨rfl, rfl, rfl, rfl, rfl, rfl⟩) :
    DS X E r Γl Γ Γ (.Expr (.Call (.Attribute (.Name x p) "extend" apos) [e] [] cpos) pos) (tDrop (tBM X.K "list" rExtend (tVar i) (tCons te tNil))) (sExt i fe) :=
  ⟨ps_expr (pe_bm PySem.F.plainAttrs_list PySem.F.slot_list_extend PySem.F.type_list_extend mt_extend (pe_var hN hv hd hcd) (pa_cons he.pe pa_nil hb.2.2.2.1) hb.1 hb.2.1 hb.2.2.1 hb.2.2.2.1 hb.2.2.2.2.1) hb.2.2.2.2.2,
    sem_mut (ra := r') hΓ he.sem fun pot M H p xs y ds d es h1 r1 _ q1 ef => by
      unfold extD at ef
      split at ef
      · rename_i fs
        split at ef
        · rename_i hl
          cases ef
          obtain ⟨b, zs, rfl, hB, r2⟩ := rb_lst q1
          exact ⟨xs ++ zs, r1.append r2, fun Q q => ⟨p, b, xs, zs, rfl, rfl, h1, hB, by rw [r1.length, r2.length]; exact hl, q⟩⟩
        · cases ef
      · cases ef⟩
/-- an item at a place from 0 on -/
def rGet0 : V → V → Hp → VK → Prop := fun o i H Q => ∃ p xs n v, o = .ref p ∧ i = .int n ∧ H p = some (.lst xs) ∧ 0 ≤ n ∧ n < 4611686018427387904 ∧ xs[n.toNat]? = some v ∧ Q v H
theorem pget_list : PGet X rGet0 := fun pins s σ H o i ov iv Q I ro ri h => by
  obtain ⟨p, xs, n, v, rfl, rfl, hq, h0, h1, hx, q⟩ := h
  cases ro
  obtain ⟨t, rfl⟩ := ri
  obtain ⟨its, rv, pl, hz⟩ := I.list (.inl (.inl hq))
  obtain ⟨u, hu, ru⟩ := rv.get hx
  exact wpAny_getItem_list pl.isList h0 (by omega) (by simpa using hu) ⟨v, H, I, ru, q⟩
/-- x[k] += e, of ints -/
theorem ds_augix (i : Nat) {x : Str} {p p2 : Pos} {kx : Expr} {op : Operator} {g : Int → Int → Int} (ho : PIp X op (ipI g)) (hk : DE X E .f Γ kx ti fk) (he : DE X E .f Γ e te fe) (hΓ : Γ[i]? = some .o := by rfl) (hN : X.N[i]? = some x := by rfl) (hv : Vis X.env.scope x := by first | exact Or.inl rfl | exact Or.inr (Or.inl rfl) | exact Or.inr (Or.inr rfl))
    (hd : (x == ("__debug__" : Str)) = false := by decide) (hcd : (x == ("__classdict__" : Str)) = false := by decide)
    (ha : ∀ ov iv new, augStore kx ov iv new = (do holding [new, ov, iv] (setItem ov iv new); release [new, ov, iv] []; pure .next) := by intro _ _ _; rfl) :
    DS X E r Γl Γ Γ (.AugAssign (.Subscript (.Name x p) kx p2) op e pos) (tAugS (tVar i) ti te rGet0 (ipI g) rSetL) (sAugIx i g fk fe) :=
  ⟨ps_augS (pe_var hN hv hd hcd) hk.pe pget_list he.pe ho set_list ha, fun pot M0 H0 B M σ H ρ π D' S p h => by
    unfold sAugIx at h
    split at h
    · rename_i ds er
      obtain ⟨c, xs, e1, n, hc, r1⟩ := own_at S hΓ er
      refine ⟨.ref c, e1, ?_⟩
      refine PostS.seq (r' := .f) (te := ti σ H) h S (fun Q' hq => hk.sem pot M σ H ρ π S.env p Q' hq) fun kd π1 kv H1 ek g1 p1 q1 h1 => ?_
      have S1 := S.grow g1 p1
      cases ei : intAt ds kd with
      | none =>
        rw [ei] at h1
        exact h1.elim
      | some a =>
        obtain ⟨j, a⟩ := a
        rw [ei] at h1
        unfold intAt at ei
        split at ei
        · rename_i m
          split at ei
          · rename_i hm
            split at ei
            · rename_i w ed
              cases ei
              cases rb_int (.inl q1 : Rb X.mg X.K pot M H1 kv (.int m))
              obtain ⟨v0, hv0, rv0⟩ := r1.get ed
              cases rb_int (.inl rv0 : Rb X.mg X.K pot M H v0 (.int a))
              refine ⟨c, xs, m, .int a, rfl, rfl, g1 c _ n hc, hm.1, hm.2, hv0, ?_⟩
              refine PostS.seq (r' := .f) (te := te σ H1) h1 S1 (fun Q' hq => he.sem pot M σ H1 ρ π1 S1.env p1 Q' hq) fun d π2 v H2 _ g2 p2 q2 h2 => ?_
              have S2 := S1.grow g2 p2
              have g12 := g1.trans g2
              cases d with
              | int b =>
                cases rb_int (.inl q2 : Rb X.mg X.K pot M H2 v (.int b))
                have r2 : RpL X.mg X.K (less H2 M) (xs.set m.toNat (.int (g a b))) (ds.set m.toNat (.int (g a b))) := (r1.mono (less_grow S.env.pm g12)).set _ (.int _)
                have hlt : m.toNat < xs.length := (List.getElem?_eq_some_iff.mp hv0).1
                exact ⟨a, b, rfl, rfl, c, xs, m, m.toNat, rfl, rfl, g12 c _ n hc, by unfold ixN; rw [if_pos hm.1, if_pos (by omega)], h2 M σ _ (S2.mut hΓ er e1 (.lst r2)) (p2.mut n)⟩
              | _ => exact h2.elim
            · cases ei
          · cases ei
        · cases ei
    · exact h.elim⟩
/-- x += e, of ints -/
theorem ds_aug (i : Nat) {x : Str} {p : Pos} {op : Operator} {g : Int → Int → Int} (o : XOk X E k) (ho : PIp X op (ipI g)) (he : DE X E .f Γ e te fe) (hΓ : Γ[i]? = some .f := by rfl) (hN : X.N[i]? = some x := by rfl) (hx : Loc X.env.scope x := by first | exact Or.inl rfl | exact Or.inr rfl)
    (hf : X.fn x = true ∨ X.env.scope.names.lookup x = some .local := by first | exact .inl rfl | exact .inr rfl) : DS X E r Γl Γ Γ (.AugAssign (.Name x p) op e pos) (tAug i te (ipI g)) (sAug i g fe) :=
  ⟨ps_aug o.nd hN hx he.pe ho hf, fun pot M0 H0 B M σ H ρ π D' S p h => by
    unfold sAug at h
    split at h
    · rename_i a er
      obtain ⟨v0, e1, r1⟩ := S.env.f i _ hΓ er
      cases rb_int (.inl r1 : Rb X.mg X.K pot M H v0 (.int a))
      refine ⟨_, e1, ?_⟩
      refine PostS.seq (r' := .f) (te := te σ H) h S (fun Q' hq => he.sem pot M σ H ρ π S.env p Q' hq) fun d π1 v H1 _ g1 p1 q1 h1 => ?_
      cases d with
      | int b =>
        cases rb_int (.inl q1 : Rb X.mg X.K pot M H1 v (.int b))
        have S1 := (S.grow g1 p1).put (r := .f) (i := i) (v := .int (g a b)) (d := .int (g a b)) (List.getElem?_eq_some_iff.mp hΓ).1 (.int _)
        rw [set_same (show Γ[i]? = some Rm.f.md from hΓ)] at S1
        exact ⟨a, b, rfl, rfl, h1 M _ H1 S1 p1⟩
      | _ => exact h1.elim
    · exact h.elim⟩
theorem ds_for {tg iter : Expr} {wi : TI} {fi : Ei} {is : List Nat} {g : TG} {fg : D → Rho → Option Rho} (o : XOk X E k) (hi : DI false X E Γ tg iter wi fi) (hg : DG X Γ tg is g fg) (hb : DSs X E r Γ Γ Γ body ts fs) (hs : ∀ x, foldedSetIterable iter X.env x = pure x := by intro _; rfl) :
    DS X E r Γl Γ Γ (.For tg iter body [] pos) (tFor wi g ts) (sFor fi fg fs) :=
  ⟨ps_for o.own o.calm hi.pi hg.pg hb.pss hs, fun pot M0 H0 B M σ H ρ π D' S p h => by
    refine PostS.seqI (w := false) (te := wi σ H) h S (fun Q' hq => hi.sem pot M σ H ρ π S.env p Q' hq) fun items π1 J H1 G Y _ g1 p1 W h1 => ?_
    have S1 := S.grow g1 p1
    refine for_it W.walk (fun i σ2 H2 => ∃ M2 ρ2 π2, SOk X.mg X.K Γ pot M0 H0 (less H1 M) M2 σ2 H2 ρ2 ∧ PotAt pot H2 π2 ∧ PostS X.mg X.K r Γl Γ pot M0 H0 B (forGo fg fs (items.drop i) ρ2 π2) D' E)
      ⟨M, ρ, π1, ⟨S1.env, S1.gr, S1.sub, S1.ow, S1.m0, Same.refl _⟩, p1, by rw [List.drop_zero]; exact h1⟩ (fun i σ2 H2 _ ⟨M2, ρ2, π2, S2, _, _⟩ => W.stay H2 M2 (fun z => by cases z) S2.bs) ?_ ?_
    · rintro i xv σ2 H2 H3 hlt ⟨M2, ρ2, π2, S2, p2, h2⟩ hy
      obtain ⟨sm, d, hd, rd⟩ := W.item i H2 xv H3 M2 (fun z => by cases z) S2.bs S2.env.al hlt hy
      have S3 := S2.grow (.of_same sm) (p2.same sm)
      have edr : items.drop i = d :: items.drop (i + 1) := by
        rw [List.drop_eq_getElem_cons hlt]
        congr 1
        have := List.getElem?_eq_getElem hlt
        rw [hd] at this
        exact (Option.some.inj this).symm
      rw [edr] at h2
      unfold forGo at h2
      cases e1 : fg d ρ2 with
      | none =>
        rw [e1] at h2
        exact h2.elim
      | some ρ3 =>
        rw [e1] at h2
        simp only [ofO_some, Res.bind_ok] at h2
        refine hg.sem pot M2 σ2 H3 ρ2 xv d S3.env rd ρ3 e1 _ fun σ3 I3 s1 s2 => ?_
        have S4 : SOk X.mg X.K Γ pot M0 H0 (less H1 M) M2 σ3 H3 ρ3 := ⟨I3, S3.gr, S3.sub, fun j e a w1 w2 w3 => by
          have nj : j ∉ is := fun z => by
            rw [hg.fs j z] at w1
            cases w1
          rw [s1 j nj] at w3
          rw [s2 j nj] at w2
          exact S3.ow j e a w1 w2 w3, S3.m0, S3.bs⟩
        refine hb.sem pot M0 H0 (less H1 M) M2 σ3 H3 ρ3 π2 _ S4 (p2.same sm) ?_
        cases e2 : fs ρ3 π2 with
        | err c ns xs π' =>
          rw [e2] at h2
          exact h2
        | stuck =>
          rw [e2] at h2
          exact h2
        | ok y =>
          obtain ⟨y, π3⟩ := y
          rw [e2] at h2
          simp only [Res.bind_ok] at h2
          cases y with
          | nx ρ4 => exact fun M4 σ4 H4 S5 p5 => ⟨M4, ρ4, π3, S5, p5, h2⟩
          | ct ρ4 => exact fun M4 σ4 H4 S5 p5 => ⟨M4, ρ4, π3, S5, p5, h2⟩
          | bk ρ4 => exact fun M4 σ4 H4 S5 p5 => h2 M4 σ4 H4 ⟨S5.env, S5.gr, S5.sub, S5.ow, S5.m0, fun a u e => S5.bs a u (S1.bs a u e)⟩ p5
          | rt d => exact h2
    · rintro σ2 H2 ⟨M2, ρ2, π2, S2, p2, h2⟩
      rw [List.drop_length] at h2
      exact h2 M2 σ2 H2 ⟨S2.env, S2.gr, S2.sub, S2.ow, S2.m0, fun a u e => S2.bs a u (S1.bs a u e)⟩ p2⟩
theorem ds_while (o : XOk X E k) (hc : DT X E Γ c tt ft) (hb : DSs X E r Γ Γ Γ body ts fs) : DS X E r Γl Γ Γ (.While c body [] pos) (tWhile tt ts) (sWhile ft fs) :=
  ⟨ps_while o.own hc.pt hb.pss, fun pot M0 H0 B M σ H ρ π D' S p h => by
    refine ⟨fun n σ2 H2 => ∃ M2 ρ2 π2, SOk X.mg X.K Γ pot M0 H0 B M2 σ2 H2 ρ2 ∧ PotAt pot H2 π2 ∧ PostS X.mg X.K r Γl Γ pot M0 H0 B (whileGo ft fs n ρ2 π2) D' E, ⟨lineW, M, ρ, π, S, p, h⟩, ?_⟩
    rintro n σ2 H2 ⟨M2, ρ2, π2, S2, p2, h2⟩
    cases n with
    | zero => exact h2.elim
    | succ n =>
      unfold whileGo at h2
      refine PostS.seqT (te := tt σ2 H2) h2 S2 (fun Q' hq => hc.sem pot M2 σ2 H2 ρ2 π2 S2.env p2 Q' hq) fun bb π3 H3 _ g3 p3 h3 => ?_
      have S3 := S2.grow g3 p3
      cases bb with
      | false =>
        rw [if_neg Bool.false_ne_true] at h3 ⊢
        exact h3 M2 σ2 H3 S3 p3
      | true =>
        rw [if_pos rfl] at h3 ⊢
        refine ⟨fun σ' H' => ∃ M2 ρ2 π2, SOk X.mg X.K Γ pot M0 H0 B M2 σ' H' ρ2 ∧ PotAt pot H' π2 ∧ PostS X.mg X.K r Γl Γ pot M0 H0 B (whileGo ft fs n ρ2 π2) D' E, fun σ' H' q => ⟨n, Nat.lt_succ_self n, q⟩, ?_⟩
        refine hb.sem pot M0 H0 B M2 σ2 H3 ρ2 π3 _ S3 p3 ?_
        cases e2 : fs ρ2 π3 with
        | err c ns xs π' =>
          rw [e2] at h3
          exact h3
        | stuck =>
          rw [e2] at h3
          exact h3
        | ok y =>
          obtain ⟨y, π4⟩ := y
          rw [e2] at h3
          simp only [Res.bind_ok] at h3
          cases y with
          | nx ρ4 => exact fun M4 σ4 H4 S5 p5 => ⟨M4, ρ4, π4, S5, p5, h3⟩
          | ct ρ4 => exact fun M4 σ4 H4 S5 p5 => ⟨M4, ρ4, π4, S5, p5, h3⟩
          | bk ρ4 => exact h3
          | rt d => exact h3⟩
end
end DL
set_option maxHeartbeats 2000000
namespace DL
open PySem PySem.Spec PyProof.Rows L2
/-- a def's promise, where no repr is running -/
structure FnG (P : Program) (w : World) (K : PySem.W.Frag) (mg : Str → Option Value) (base : Heap) (k : Nat) (f : Addr) (fd : FuncData) (ps : List Str) (sp : Sp) : Prop where
  len : ∀ vs H Q E, sp vs H Q E → vs.length = ps.length
  run : ∀ (A : Around) (outer : List Env) (s : Shared) (H : Hp) (args : PySem.Args) (us : List Value) (vs : List V) (Q : VK) (E : XK), Room k A → A.guards = some [] →
    Env0 P w K mg base A outer s H → BindsTo s fd args (ps.zip us) → Vals vs us → sp vs H Q E →
    codeAny (model P w) A (.call (.ref f) args) (CR (L2.CX P w) outer P w H s Q E) s
theorem FnG.mono {P : Program} {w : World} {K : PySem.W.Frag} {mg : Str → Option Value} {base : Heap} {j k : Nat} {f : Addr} {fd : FuncData} {ps : List Str} {sp : Sp} (F : FnG P w K mg base j f fd ps sp) (h : j ≤ k) : FnG P w K mg base k f fd ps sp :=
  ⟨F.len, fun A outer s H args us vs Q E hr => F.run A outer s H args us vs Q E (hr.mono h)⟩
/-- by its body -/
theorem fn_ofG {P : Program} {w : World} {K : PySem.W.Frag} {mg : Str → Option Value} {base : Heap} {k : Nat} {f : Addr} {name qual : Str} {params : Arguments} {body : List Stmt} {scope : Scope} {dV kV doc pm cdv ct oc : Value} {an od : Option Addr} {osl : Array (Option Value)} {N ps : List Str} {sp : Sp}
    (lk : K.lookup f = some ⟨oc, od, .func (PySem.W.fnOf name qual params body scope dV kV doc pm an cdv ct), osl⟩) (hcd : PySem.W.codeIn K cdv qual = true) (S : FnScope N ps scope) (len : ∀ vs H Q E, sp vs H Q E → vs.length = ps.length)
    (hbody : ∀ (A : Around) (outer : List Env) (s : Shared) (H : Hp) (vs : List V) (Q : VK) (E : XK), Room k (A.deeper (envOfC qual scope s.heap.objs.size f cdv)) → A.guards = some [] → sp vs H Q E →
      ∃ t, PSs (cxOf (L2.CX P w) P w K mg base N qual scope f cdv A outer s H E) body t ∧ t { nx := fun _ H' => Q .non H', rt := Q } (start N vs) H) :
    FnG P w K mg base (k + 1) f (PySem.W.fnOf name qual params body scope dV kV doc pm an cdv ct) ps sp := by
  refine ⟨len, ?_⟩
  intro A outer s H args us vs Q E room gd env0 bind rel want
  have inK : K.In s.heap := env0.mod.kin.keeps fun b o q => (env0.bs b o q).1
  have noLim : s.heap.NoLimit := env0.mod.nolimit.keeps fun b o q => (env0.bs b o q).1
  refine codeAny_call_function room.depth (inK _ _ lk) rfl S.co S.gen rfl (PySem.W.codeRec_of inK hcd) (bind _ _ _ _ ?_)
  refine wpAny_newFunctionEnv_cells S.kind (fun q hq => ?_) fun env he s1 x => ?_
  · obtain ⟨n, v⟩ := q
    exact (S.par n (List.of_mem_zip hq).1).elim .inl fun z => .inr ⟨z, PySem.W.cellsFrom_some _ _ _ (.inl z)⟩
  · subst he
    refine ⟨noLim.keeps x.toInCall.keep, codeAny_func ?_⟩
    obtain ⟨t, ht, hq⟩ := hbody A outer s H vs Q E (room.deeper _) gd want
    have I0 := inv_start (CX := L2.CX P w) (K := K) (mg := mg) (base := base) (N := N) (qual := qual) (f := f) (cd := cdv) (E := E) S room.hd env0 (len _ _ _ _ want) rel x
    refine wpAny_mono (ht.run [] s1 (start N vs) H _ I0 hq) (fun fl s' hs => ?_) fun e s' hs => hs
    cases fl with
    | ret u =>
      obtain ⟨v, σ', H', J, rv, q⟩ := hs
      exact ⟨v, H', J.os, J.bare, J.base, J.hok, rv, q⟩
    | next =>
      obtain ⟨σ', H', J, q⟩ := hs
      exact ⟨.non, H', J.os, J.bare, J.base, J.hok, rfl, q⟩
    | brk =>
      obtain ⟨_, _, _, q⟩ := hs
      exact q.elim
    | cont =>
      obtain ⟨_, _, _, q⟩ := hs
      exact q.elim
section
variable (mg : Str → Option Value) (K : PySem.W.Frag)
/-- what a def promises that gives m of its data -/
def SpD (ks : List Ak) (r : Rm) (m : Fd) : Sp := fun vs H Q E => vs.length = ks.length ∧ ∃ pot M ds π, Args mg K pot M H ks vs ds ∧ (∀ a ∈ M, Al H a) ∧ (∀ a, pot = some a → a ∈ M) ∧ PotAt pot H π ∧ Post mg K r pot M H (m ds π) Q E
end
def startD (n : Nat) (ds : List D) : Rho := ds.map some ++ List.replicate (n - ds.length) none
def Ak.md : Ak → Md
  | .f => .f
  | .b => .u
  | .p => .p
  | .s => .s
/-- the body run as a def -/
def runD (n : Nat) (r : Rm) (fs : Fs) : Fd := fun ds π => (fs (startD n ds) π).bind fun x => match x.1 with
  | .rt d => .ok (d, x.2)
  | .nx _ => if r = .f then .ok (.non, x.2) else .stuck
  | _ => .stuck
/-- the modes at the entry -/
def modesOk (ks : List Ak) (Γ : List Md) : Bool := decide (Γ.take ks.length = ks.map Ak.md) && (Γ.drop ks.length).all fun m => m == .f || m == .o || m == .u
theorem start_at {N : List Str} {vs : List V} {i : Nat} (h : i < vs.length) : (start N vs)[i]? = some (vs[i]?) := by
  unfold L2.start
  rw [List.getElem?_append_left (by simpa using h), List.getElem?_map]
  simp [h]
theorem startD_at {n : Nat} {ds : List D} {i : Nat} {d : D} (h : (startD n ds)[i]? = some (some d)) : ds[i]? = some d := by
  unfold startD at h
  by_cases hi : i < ds.length
  · rw [List.getElem?_append_left (by simpa using hi), List.getElem?_map] at h
    simp [hi] at h
    rw [List.getElem?_eq_getElem hi, h]
  · rw [List.getElem?_append_right (by simpa using hi), List.getElem?_replicate] at h
    split at h <;> cases h
theorem Args.at {mg : Str → Option Value} {K : PySem.W.Frag} {pot : Option Addr} {M : List Addr} {H : Hp} : ∀ {ks : List Ak} {vs : List V} {ds : List D} {i : Nat} {d : D}, Args mg K pot M H ks vs ds → ds[i]? = some d → ∃ k v, ks[i]? = some k ∧ vs[i]? = some v ∧ ArgR mg K pot M H k v d
  | _, _, _, _, _, .nil, h => by simp at h
  | _, _, _, 0, _, .cons a _, h => by
    simp at h
    subst h
    exact ⟨_, _, rfl, rfl, a⟩
  | _, _, _, i + 1, _, .cons _ r, h => by
    obtain ⟨k, v, h1, h2, h3⟩ := r.at (i := i) (by simpa using h)
    exact ⟨k, v, by simpa using h1, by simpa using h2, h3⟩
theorem Args.atK {mg : Str → Option Value} {K : PySem.W.Frag} {pot : Option Addr} {M : List Addr} {H : Hp} : ∀ {ks : List Ak} {vs : List V} {ds : List D} {i : Nat} {k : Ak}, Args mg K pot M H ks vs ds → ks[i]? = some k → ∃ v d, vs[i]? = some v ∧ ds[i]? = some d ∧ ArgR mg K pot M H k v d
  | _, _, _, _, _, .nil, h => by simp at h
  | _, _, _, 0, _, .cons a _, h => by
    simp at h
    subst h
    exact ⟨_, _, rfl, rfl, a⟩
  | _, _, _, i + 1, _, .cons _ r, h => by
    obtain ⟨v, d, h1, h2, h3⟩ := r.atK (i := i) (by simpa using h)
    exact ⟨v, d, by simpa using h1, by simpa using h2, h3⟩
theorem Args.lenD {mg : Str → Option Value} {K : PySem.W.Frag} {pot : Option Addr} {M : List Addr} {H : Hp} {ks : List Ak} {vs : List V} {ds : List D} (h : Args mg K pot M H ks vs ds) : ds.length = ks.length := by
  induction h with
  | nil => rfl
  | cons _ _ ih => exact congrArg Nat.succ ih
theorem env_start {mg : Str → Option Value} {K : PySem.W.Frag} {pot : Option Addr} {M : List Addr} {H : Hp} {ks : List Ak} {Γ : List Md} {N : List Str} {vs : List V} {ds : List D} (hm : modesOk ks Γ = true) (hl : Γ.length = N.length) (hk : ks.length ≤ N.length)
    (a : Args mg K pot M H ks vs ds) (al : ∀ a ∈ M, Al H a) (pm : ∀ a, pot = some a → a ∈ M) : EnvOk mg K Γ pot M (start N vs) H (startD N.length ds) := by
  obtain ⟨m1, m2⟩ := Bool.and_eq_true_iff.mp hm
  have m1 := of_decide_eq_true m1
  have lv := a.length
  have ld := a.lenD
  have gam : ∀ (i : Nat) (k : Ak), ks[i]? = some k → Γ[i]? = some k.md := fun i k h => by
    have hi := (List.getElem?_eq_some_iff.mp h).1
    have e : (Γ.take ks.length)[i]? = Γ[i]? := List.getElem?_take_of_lt hi
    rw [← e, m1, List.getElem?_map, h]
    rfl
  have beyond : ∀ (i : Nat) (m : Md), ks.length ≤ i → Γ[i]? = some m → m = .f ∨ m = .o ∨ m = .u := fun i m h1 h2 => by
    have e : (Γ.drop ks.length)[i - ks.length]? = some m := by
      rw [List.getElem?_drop, Nat.add_sub_cancel' h1]
      exact h2
    have q := List.all_eq_true.mp m2 m (List.mem_of_getElem? e)
    simpa [or_assoc] using q
  have dat : ∀ (i : Nat) (d : D), (startD N.length ds)[i]? = some (some d) → ∃ k v, ks[i]? = some k ∧ (start N vs)[i]? = some (some v) ∧ ArgR mg K pot M H k v d := fun i d h => by
    obtain ⟨k, v, h1, h2, h3⟩ := a.at (startD_at h)
    have hi := (List.getElem?_eq_some_iff.mp h2).1
    exact ⟨k, v, h1, by rw [start_at hi, h2], h3⟩
  refine ⟨?_, ?_, fun i d h1 h2 => ?_, fun i d h1 h2 => ?_, fun i h1 => ?_, fun i d h1 h2 => ?_, fun i j x d e h1 h2 h3 h4 h5 h6 => ?_, al, pm⟩
  · unfold L2.start
    rw [List.length_append, List.length_map, List.length_replicate]
    omega
  · unfold startD
    rw [List.length_append, List.length_map, List.length_replicate]
    omega
  · obtain ⟨k, v, q1, q2, q3⟩ := dat i d h2
    have q4 := gam i k q1
    rw [h1] at q4
    cases k with
    | f => exact ⟨v, q2, q3⟩
    | _ => cases q4
  · obtain ⟨k, v, q1, q2, q3⟩ := dat i d h2
    have q4 := gam i k q1
    rw [h1] at q4
    cases k <;> cases q4
  · by_cases hi : i < ks.length
    · obtain ⟨v, d, q1, q2, q3⟩ := a.atK (List.getElem?_eq_getElem hi)
      have q4 := gam i _ (List.getElem?_eq_getElem hi)
      rw [h1] at q4
      have hi2 := (List.getElem?_eq_some_iff.mp q1).1
      generalize ks[i] = k at q3 q4
      cases k with
      | p =>
        obtain ⟨p, e1, rfl⟩ := q3
        exact ⟨p, e1, by rw [start_at hi2, q1]⟩
      | _ => cases q4
    · rcases beyond i .p (by omega) h1 with z | z | z <;> cases z
  · obtain ⟨k, v, q1, q2, q3⟩ := dat i d h2
    have q4 := gam i k q1
    rw [h1] at q4
    cases k with
    | s =>
      obtain ⟨p, ns, e1, e2, e3⟩ := q3
      exact ⟨p, ns, by rw [q2, e1], e2, e3⟩
    | _ => cases q4
  · obtain ⟨k, v, q1, q2, q3⟩ := dat i d h3
    have q4 := gam i k q1
    rw [h1] at q4
    cases k <;> cases q4
/-- a def of the text with what it gives -/
structure DFn (P : Program) (w : World) (K : PySem.W.Frag) (mg : Str → Option Value) (base : Heap) (k : Nat) (x : Str) (st : Stmt) (ps : List Str) (ks : List Ak) (r : Rm) (m : Fd) : Prop where
  ex : ∃ f fd, mg x = some (.ref f) ∧ Fun K x x st f fd ∧ FnG P w K mg base k f fd ps (SpD mg K ks r m)
section
variable {P : Program} {w : World} {K : PySem.W.Frag} {mg : Str → Option Value} {base : Heap} {k : Nat} {x : Str} {st : Stmt} {ps N : List Str} {ks : List Ak} {r : Rm}
theorem DFn.mono {j : Nat} {m : Fd} (F : DFn P w K mg base j x st ps ks r m) (h : j ≤ k) : DFn P w K mg base k x st ps ks r m := by
  obtain ⟨f, fd, h1, h2, h3⟩ := F.ex
  exact ⟨f, fd, h1, h2, h3.mono h⟩
/-- THE RULE for a def -/
theorem dfn_of {fs : Fs} (Γ Γ' : List Md) (hf : ∃ f fd, mg x = some (.ref f) ∧ Fun K x x st f fd) (S : FnScope N ps (defScope st)) (hp : ks.length = ps.length) (hl : Γ.length = N.length) (hk : ks.length ≤ N.length) (hm : modesOk ks Γ = true)
    (hr : (r = .f ∨ r = .o) ∨ r = .t)
    (hb : ∀ (f : Addr) (cdv : Value) (A : Around) (outer : List Env) (s : Shared) (H : Hp) (E : XK), XOk (cxOf (L2.CX P w) P w K mg base N x (defScope st) f cdv A outer s H E) E k →
      ∃ ts, DSs (cxOf (L2.CX P w) P w K mg base N x (defScope st) f cdv A outer s H E) E r Γ Γ Γ' (defBody st) ts fs) :
    DFn P w K mg base (k + 1) x st ps ks r (runD N.length r fs) := by
  obtain ⟨f, fd, h1, h2⟩ := hf
  refine ⟨f, fd, h1, h2, ?_⟩
  obtain ⟨oc, od, kV, doc, pm, an, cdv, ct, osl, rfl, lk, hcd⟩ := h2.ex
  refine fn_ofG lk hcd S (fun vs H Q E h => by rw [h.1, hp]) fun A outer s H vs Q E room gd want => ?_
  obtain ⟨_, pot, M, ds, π, ar, al, pm, pt, post⟩ := want
  have o : XOk (cxOf (L2.CX P w) P w K mg base N x (defScope st) f cdv A outer s H E) E k :=
    ⟨room, gd, rfl, passes_call (takes_of rfl rfl rfl rfl) fun _ _ _ _ z => z, passes_of rfl, S.nd⟩
  obtain ⟨ts, B⟩ := hb f cdv A outer s H E o
  refine ⟨ts, B.pss, ?_⟩
  have I := env_start hm hl hk ar al pm
  refine B.sem pot M H (fun _ => none) M _ H _ π _ ⟨I, .refl, fun a h => h, fun i d a h1 h2 h3 => ?_, fun a h => (al a h).nn, fun a u e => by cases e⟩ pt ?_
  · exfalso
    obtain ⟨k', v, q1, _⟩ := ar.at (startD_at h2)
    obtain ⟨m1, _⟩ := Bool.and_eq_true_iff.mp hm
    have m1 := of_decide_eq_true m1
    have hi := (List.getElem?_eq_some_iff.mp q1).1
    have e : (Γ.take ks.length)[i]? = Γ[i]? := List.getElem?_take_of_lt hi
    rw [h1, m1, List.getElem?_map, q1] at e
    cases k' <;> cases e
  · unfold runD at post
    cases ef : fs (startD N.length ds) π with
    | err c ns xs π' =>
      rw [ef] at post
      exact post
    | stuck =>
      rw [ef] at post
      exact post
    | ok y =>
      obtain ⟨y, π1⟩ := y
      rw [ef] at post
      cases y with
      | rt d => exact fun v H' g p q => post v H' g p q
      | nx ρ =>
        simp only [Res.bind_ok] at post
        split at post
        · rename_i hrf
          subst hrf
          exact fun M' σ' H' S' p' => post .non H' S'.gr p' .non
        · exact post.elim
      | bk ρ => exact post.elim
      | ct ρ => exact post.elim
end
section
variable {X : Cx} {E : XK} {Γ : List Md} {r : Rm} {e : Expr} {es : List Expr} {kws : List Keyword} {pos p kpos : Pos} {k j : Nat} {ks : List Ak} {tA tK : TA} {fA fK : Ea} {x : Str} {st : Stmt} {ps kn : List Str} {m : Fd} {nm : Option Str} {te : TE} {fe : Ed}
def tGo (mg : Str → Option Value) (K : PySem.W.Frag) (ks : List Ak) (r : Rm) (m : Fd) (E : XK) (t : TA) : TE := fun σ H Q => t σ H fun vs H1 => SpD mg K ks r m vs H1 Q E
def eGo (m : Fd) (a : Ea) : Ed := fun ρ π => (a ρ π).bind fun x => m x.1 x.2
theorem sem_go (hA : SemA X.mg X.K E ks Γ tA fA) : SemE X.mg X.K E r Γ (tGo X.mg X.K ks r m E tA) (eGo m fA) := fun pot M σ H ρ π I p Q h => by
  refine PostA.seq (ks := ks) (te := tA σ H) h p (fun Q' hq => hA pot M σ H ρ π I p Q' hq) fun ds π1 vs H1 _ g1 p1 r1 h1 => ?_
  exact ⟨r1.length, pot, M, ds, π1, r1, (I.grow g1 p1).al, I.pm, p1, h1⟩
theorem run_go {fd : FuncData} {f : Addr} {sp : Sp} {args : PySem.Args} {us ws : List Value} {vs : List V} {pins : List (Addr × Obj)} {σ : L2.St} {H : Hp} {s : Shared} {Q : VK} (F : FnG X.prog X.w X.K X.mg X.base j f fd ps sp) (o : XOk X E k) (hj : j ≤ k) (hb : BindsTo s fd ⟨us, kn.zip ws⟩ (ps.zip (us ++ ws)))
    (I : Inv X pins σ H s) (rl : Vals vs (us ++ ws)) (h : sp vs H Q E) : wpAny (model X.prog X.w) X.A (call (.ref f) us (kn.zip ws)) (EP X pins σ Q) X.xe s := by
  refine wpAny_call (codeAny_mono (F.run X.A X.stack s H _ (us ++ ws) vs Q E (o.room.mono hj) o.gd I.env0 hb rl h) fun res s' z => ?_)
  match res, z with
  | .error e, z => exact o.pass pins σ H s e s' I z
  | .ok (.ret u), z => exact I.after z
/-- f(e, ..) -/
theorem de_call (F : DFn X.prog X.w X.K X.mg X.base j x st ps ks r m) (o : XOk X E k)
    (hb : ∀ (kV doc pm : Value) (an : Option Addr) (cdv ct : Value) (us : List Value), us.length = ps.length → bindArgs (PySem.W.fnOf x x (defArgs st) (defBody st) (defScope st) .none kV doc pm an cdv ct) ⟨us, []⟩ = pure (ps.zip us))
    (hA : DA X E ks Γ (e :: es) tA fA) (hj : j ≤ k := by decide) (hg : Gl X x := by rfl) (hdb : (x == ("__debug__" : Str)) = false := by decide) (he : starEach (e :: es) X.env = (false, eval e X.env) :: starEach es X.env := by rfl) (hpl : (backTo pos (starEach es X.env)).any (·.1) = false := by rfl) :
    DE X E r Γ (.Call (.Name x p) (e :: es) [] pos) (tGo X.mg X.K ks r m E tA) (eGo m fA) :=
  ⟨⟨fun pins s σ H Q I h => by
    obtain ⟨f, fd, h1, h2, h3⟩ := F.ex
    refine wpAny_Call_Name_kw (ld_glob I hg h1 ?_ hdb)
    refine PySem.W.callWith_K (h₀ := X.base) I.ok.mod.kin h2.kp (thn (hA.pa.run pos pins s σ H _ I h) fun us s1 ⟨vs, H1, I1, rl, q⟩ => ⟨I1.kIn, ?_⟩) he hpl
    have hl : us.length = ps.length := by
      rw [← rl.length]
      exact h3.len _ _ _ _ q
    have bd : BindsTo s1 fd ⟨us, ([] : List Str).zip ([] : List Value)⟩ (ps.zip (us ++ [])) := by
      obtain ⟨oc, od, kV, doc, pm, an, cdv, ct, osl, rfl, lk, hcd⟩ := h2.ex
      rw [List.append_nil]
      exact .of_eq (hb kV doc pm an cdv ct us hl)
    exact run_go (args := ⟨us, []⟩) (kn := []) (ws := []) h3 o hj bd I1 (by rw [List.append_nil]; exact rl) q⟩, sem_go hA.sem⟩
/-- the values of the keywords -/
structure DK (X : Cx) (E : XK) (ks : List Ak) (Γ : List Md) (kws : List Keyword) (tk : TA) (fk : Ea) : Prop where
  pk : PK X kws tk
  sem : SemA X.mg X.K E ks Γ tk fk
theorem dk_nil : DK X E [] Γ [] tNil aNil := ⟨pk_nil, da_nil.sem⟩
theorem dk_f (ha : DE X E .f Γ e te fe) (hK : DK X E ks Γ kws tK fK) : DK X E (.f :: ks) Γ (⟨nm, e, kpos⟩ :: kws) (tCons te tK) (aCons fe fK) := ⟨pk_cons ha.pe hK.pk, sem_cons (kk := .f) (ra := .f) (fun _ _ _ _ _ _ _ h => h) ha.sem hK.sem⟩
/-- f(k = e, ..): all by their names, in the parameters' sequence -/
theorem de_callK (F : DFn X.prog X.w X.K X.mg X.base j x st ps ks r m) (o : XOk X E k)
    (hb : ∀ (kV doc pm : Value) (an : Option Addr) (cdv ct : Value) (ws : List Value), ws.length = ps.length → bindArgs (PySem.W.fnOf x x (defArgs st) (defBody st) (defScope st) .none kV doc pm an cdv ct) ⟨[], ps.zip ws⟩ = pure (ps.zip ws))
    (hK : DK X E ks Γ kws tK fK) (hj : j ≤ k := by decide) (hg : Gl X x := by rfl) (hdb : (x == ("__debug__" : Str)) = false := by decide) (hall : (backToKw pos (keywordEach kws X.env)).all (·.1.isSome) = true := by rfl) (hks : (backToKw pos (keywordEach kws X.env)).filterMap (·.1) = ps := by rfl)
    (hpl : ((backTo pos (starEach [] X.env)).any (·.1) || (backToKw pos (keywordEach kws X.env)).any (·.1.isNone)) = false := by rfl) :
    DE X E r Γ (.Call (.Name x p) [] kws pos) (tGo X.mg X.K ks r m E tK) (eGo m fK) :=
  ⟨⟨fun pins s σ H Q I h => by
    obtain ⟨f, fd, h1, h2, h3⟩ := F.ex
    refine wpAny_Call_Name_kw (ld_glob I hg h1 ?_ hdb)
    refine PySem.W.callWith_KW0 (h₀ := X.base) I.ok.mod.kin h2.kp hall (thn (hK.pk.run pos pins s σ H _ I h) fun ws s1 ⟨vs, H1, I1, rl, q⟩ => ⟨I1.kIn, ?_⟩) hpl
    rw [hks]
    have hl : ws.length = ps.length := by
      rw [← rl.length]
      exact h3.len _ _ _ _ q
    have bd : BindsTo s1 fd ⟨[], ps.zip ws⟩ (ps.zip ([] ++ ws)) := by
      obtain ⟨oc, od, kV, doc, pm, an, cdv, ct, osl, rfl, lk, hcd⟩ := h2.ex
      exact .of_eq (hb kV doc pm an cdv ct ws hl)
    exact run_go (args := ⟨[], ps.zip ws⟩) (us := []) h3 o hj bd I1 rl q⟩, sem_go hK.sem⟩
end
end DL
set_option maxHeartbeats 2000000
namespace DL
open PySem PySem.Spec PyProof.Rows L2
def asInts : List D → Option (List Int)
  | [] => some []
  | .int i :: r => (asInts r).map (i :: ·)
  | _ :: _ => none
def asBls : List D → Option (List Bool)
  | [] => some []
  | .bl i :: r => (asBls r).map (i :: ·)
  | _ :: _ => none
@[simp] theorem asInts_iz : ∀ ns : List Int, asInts (ns.map D.int) = some ns
  | [] => rfl
  | n :: ns => by
    show (asInts (ns.map D.int)).map _ = _
    rw [asInts_iz ns]
    rfl
@[simp] theorem asBls_bl : ∀ bs : List Bool, asBls (bs.map D.bl) = some bs
  | [] => rfl
  | n :: ns => by
    show (asBls (ns.map D.bl)).map _ = _
    rw [asBls_bl ns]
    rfl
theorem asInts_eq : ∀ {ds : List D} {ns : List Int}, asInts ds = some ns → ds = ns.map D.int
  | [], ns, h => by
    cases h
    rfl
  | d :: ds, ns, h => by
    cases d with
    | int i =>
      simp only [asInts, Option.map_eq_some_iff] at h
      obtain ⟨ms, e, rfl⟩ := h
      rw [asInts_eq e]
      rfl
    | _ => cases h
theorem asBls_eq : ∀ {ds : List D} {ns : List Bool}, asBls ds = some ns → ds = ns.map D.bl
  | [], ns, h => by
    cases h
    rfl
  | d :: ds, ns, h => by
    cases d with
    | bl i =>
      simp only [asBls, Option.map_eq_some_iff] at h
      obtain ⟨ms, e, rfl⟩ := h
      rw [asBls_eq e]
      rfl
    | _ => cases h
theorem rpl_bls {mg : Str → Option Value} {K : PySem.W.Frag} {H : Hp} : ∀ {ns : List Bool} {vs : List V}, RpL mg K H vs (ns.map D.bl) → vs = ns.map V.bl
  | [], _, .nil => rfl
  | n :: ns, _, .cons h r => by
    cases h
    rw [rpl_bls r]
    rfl
/-- ints in ascending order -/
def sortI (ns : List Int) : List Int := ns.mergeSort fun a b => decide (a ≤ b)
theorem sorted_same : ∀ {xs ys : List Int}, xs.Perm ys → xs.Pairwise (· ≤ ·) → ys.Pairwise (· ≤ ·) → xs = ys
  | [], ys, p, _, _ => by
    have := p.length_eq
    cases ys with
    | nil => rfl
    | cons => simp at this
  | x :: xs, [], p, _, _ => by
    have := p.length_eq
    simp at this
  | x :: xs, y :: ys, p, h1, h2 => by
    obtain ⟨a1, b1⟩ := List.pairwise_cons.mp h1
    obtain ⟨a2, b2⟩ := List.pairwise_cons.mp h2
    have m1 : x ∈ y :: ys := p.mem_iff.mp (List.mem_cons_self ..)
    have m2 : y ∈ x :: xs := p.mem_iff.mpr (List.mem_cons_self ..)
    have e : x = y := by
      rcases List.mem_cons.mp m1 with e | m1
      · exact e
      · rcases List.mem_cons.mp m2 with e | m2
        · exact e.symm
        · exact Int.le_antisymm (a1 y m2) (a2 x m1)
    subst e
    rw [sorted_same ((List.perm_cons x).mp p) b1 b2]
theorem sortI_perm (ns : List Int) : (sortI ns).Perm ns := List.mergeSort_perm ns _
theorem sortI_sorted (ns : List Int) : (sortI ns).Pairwise (· ≤ ·) := by
  have h := List.pairwise_mergeSort (le := fun (a b : Int) => decide (a ≤ b)) (fun a b c h1 h2 => by simp at *; omega) (fun a b => by simp; omega) ns
  exact h.imp fun h => by simpa using h
def fLen : List D → Option D
  | [.lst xs] => some (.int xs.length)
  | [.tup xs] => some (.int xs.length)
  | [.str z] => if z.length ≤ sizeLine then some (.int z.length) else none
  | _ => none
def fAbs : List D → Option D
  | [.int i] => some (.int (if i < 0 then -i else i))
  | _ => none
def fMax2 : List D → Option D
  | [.int i, .int j] => some (.int (if j > i then j else i))
  | _ => none
def fMin2 : List D → Option D
  | [.int i, .int j] => some (.int (if j < i then j else i))
  | _ => none
def maxI : List Int → Int
  | [] => 0
  | [x] => x
  | x :: xs => if x < maxI xs then maxI xs else x
theorem maxI_mem : ∀ {xs : List Int}, xs ≠ [] → maxI xs ∈ xs
  | [], h => absurd rfl h
  | [x], _ => by simp [maxI]
  | x :: y :: r, _ => by
    have ih := maxI_mem (xs := y :: r) (by simp)
    unfold maxI
    split
    · exact List.mem_cons_of_mem _ ih
    · exact List.mem_cons_self ..
theorem maxI_le : ∀ {xs : List Int} {x : Int}, x ∈ xs → x ≤ maxI xs
  | [x], y, h => by simp at h; simp [maxI, h]
  | x :: z :: r, y, h => by
    have ih := fun {w} => maxI_le (xs := z :: r) (x := w)
    unfold maxI
    rcases List.mem_cons.mp h with e | h
    · subst e
      split <;> omega
    · have := ih h
      split <;> omega
def onInts (f : List Int → Option D) : List D → Option D
  | [.lst xs] => (asInts xs).bind f
  | _ => none
def fSum : List D → Option D := onInts fun ns => some (.int ns.sum)
def fMaxL : List D → Option D := onInts fun ns => if ns = [] then none else some (.int (maxI ns))
def fSortI : List D → Option D := onInts fun ns => some (.lst ((sortI ns).map D.int))
def fAny : List D → Option D
  | [.lst xs] => (asBls xs).map fun bs => .bl (bs.any id)
  | _ => none
def fAll : List D → Option D
  | [.lst xs] => (asBls xs).map fun bs => .bl (bs.all id)
  | _ => none
def fInt : List D → Option D
  | [.int i] => some (.int i)
  | _ => none
def fList : List D → Option D
  | [.lst xs] => some (.lst xs)
  | [.tup xs] => some (.lst xs)
  | _ => none
def fTuple : List D → Option D
  | [.lst xs] => some (.tup xs)
  | [.tup xs] => some (.tup xs)
  | _ => none
def fGcd : List D → Option D
  | [.int a, .int b] => some (.int ((Nat.gcd a.natAbs b.natAbs : Nat) : Int))
  | _ => none
section
variable {X : Cx} {E : XK} {k : Nat}
theorem arg1 {mg : Str → Option Value} {K : PySem.W.Frag} {pot : Option Addr} {M : List Addr} {H : Hp} {vs : List V} {ds : List D} (h : Args mg K pot M H [.b] vs ds) : ∃ v d, vs = [v] ∧ ds = [d] ∧ Rb mg K pot M H v d := args1 h
theorem arg2 {mg : Str → Option Value} {K : PySem.W.Frag} {pot : Option Addr} {M : List Addr} {H : Hp} {vs : List V} {ds : List D} (h : Args mg K pot M H [.b, .b] vs ds) : ∃ v d w e, vs = [v, w] ∧ ds = [d, e] ∧ Rb mg K pot M H v d ∧ Rb mg K pot M H w e := args2 h
def rLenA (K : PySem.W.Frag) : List V → Hp → VK → Prop := fun xs H Q => (∃ p ys, xs = [.ref p] ∧ (SqL K H p ys ∨ SqT K H p ys) ∧ Q (.int ys.length) H) ∨ ∃ z, xs = [.str z] ∧ z.length ≤ sizeLine ∧ Q (.int z.length) H
theorem c_len : CallOk X (.builtin "len") (rLenA X.K) [.b] .f fLen := ⟨call_len_seq.or call_len_str, fun pot M H vs ds z al pm ph a hz Q q => by
  obtain ⟨v, d, rfl, rfl, h⟩ := arg1 a
  unfold fLen at hz
  split at hz
  · rename_i xs e
    cases e
    cases hz
    obtain ⟨p, ys, rfl, h1, r1⟩ := rb_lst h
    exact .inl ⟨p, ys, rfl, .inl (.inl (.inl h1)), by rw [r1.length]; exact q _ H (Same.refl H) (.int _)⟩
  · rename_i xs e
    cases e
    cases hz
    obtain ⟨p, ys, rfl, h1, r1⟩ := rb_tup h
    exact .inl ⟨p, ys, rfl, .inr (sqT_mono less_le h1), by rw [r1.length]; exact q _ H (Same.refl H) (.int _)⟩
  · rename_i z' e
    cases e
    split at hz
    · rename_i hl
      cases hz
      cases rb_str h
      exact .inr ⟨_, rfl, hl, q _ H (Same.refl H) (.int _)⟩
    · cases hz
  · cases hz⟩
/-- len of the script -/
theorem c_lenS : CallOk X (.builtin "len") (rLenA X.K) [.s] .f fLen := ⟨call_len_seq.or call_len_str, fun pot M H vs ds z al pm ph a hz Q q => by
  obtain ⟨v, d, rfl, rfl, p, ns, rfl, rfl, h⟩ := args1 a
  cases hz
  exact .inl ⟨p, _, rfl, .inl (sqL_mono less_le h), by
    simp only [List.length_map] at q ⊢
    exact q _ H (Same.refl H) (.int _)⟩⟩
theorem c_abs : CallOk X (.builtin "abs") (fun xs H Q => ∃ i, xs = [.int i] ∧ Q (.int (if i < 0 then -i else i)) H) [.b] .f fAbs := ⟨call_abs, fun pot M H vs ds z al pm ph a hz Q q => by
  obtain ⟨v, d, rfl, rfl, h⟩ := arg1 a
  cases d <;> simp [fAbs] at hz
  subst hz
  exact ⟨_, by rw [rb_int h], q _ H (Same.refl H) (.int _)⟩⟩
theorem c_max2 (x : XOk X E k) : CallOk X (.builtin "max") (fun xs H Q => ∃ i j, xs = [.int i, .int j] ∧ Q (.int (if j > i then j else i)) H) [.b, .b] .f fMax2 := ⟨call_max2 x.calm, fun pot M H vs ds z al pm ph a hz Q q => by
  obtain ⟨v, d, w, e, rfl, rfl, h, h'⟩ := arg2 a
  cases d <;> cases e <;> simp [fMax2] at hz
  subst hz
  exact ⟨_, _, by rw [rb_int h, rb_int h'], q _ H (Same.refl H) (.int _)⟩⟩
theorem c_min2 (x : XOk X E k) : CallOk X (.builtin "min") (fun xs H Q => ∃ i j, xs = [.int i, .int j] ∧ Q (.int (if j < i then j else i)) H) [.b, .b] .f fMin2 := ⟨call_min2 x.calm, fun pot M H vs ds z al pm ph a hz Q q => by
  obtain ⟨v, d, w, e, rfl, rfl, h, h'⟩ := arg2 a
  cases d <;> cases e <;> simp [fMin2] at hz
  subst hz
  exact ⟨_, _, by rw [rb_int h, rb_int h'], q _ H (Same.refl H) (.int _)⟩⟩
theorem on_ints {mg : Str → Option Value} {K : PySem.W.Frag} {pot : Option Addr} {M : List Addr} {H : Hp} {vs : List V} {ds : List D} {z : D} {f : List Int → Option D} (a : Args mg K pot M H [.b] vs ds) (hz : onInts f ds = some z) :
    ∃ p ns, vs = [.ref p] ∧ H p = some (.lst (ns.map V.int)) ∧ f ns = some z := by
  obtain ⟨v, d, rfl, rfl, h⟩ := arg1 a
  unfold onInts at hz
  split at hz
  · rename_i xs e
    cases e
    simp only [Option.bind_eq_some_iff] at hz
    obtain ⟨ns, e1, e2⟩ := hz
    rw [asInts_eq e1] at h
    obtain ⟨p, ys, rfl, h1, r1⟩ := rb_lst h
    rw [r1.iz] at h1
    exact ⟨p, ns, rfl, h1, e2⟩
  · cases hz
theorem c_sum (x : XOk X E k) : CallOk X (.builtin "sum") (rSum X.K) [.b] .f fSum := ⟨cr_sum x.calm, fun pot M H vs ds z al pm ph a hz Q q => by
  obtain ⟨p, ns, rfl, h1, e⟩ := on_ints a hz
  cases e
  exact ⟨p, ns, rfl, .inl (.inl h1), q _ H (Same.refl H) (.int _)⟩⟩
theorem c_maxL (x : XOk X E k) : CallOk X (.builtin "max") (rMax X.K) [.b] .f fMaxL := ⟨cr_max x.calm, fun pot M H vs ds z al pm ph a hz Q q => by
  obtain ⟨p, ns, rfl, h1, e⟩ := on_ints a hz
  split at e
  · cases e
  · rename_i hn
    cases e
    refine ⟨p, ns, rfl, .inl (.inl h1), List.length_pos_iff.mpr hn, fun m hm hle => ?_⟩
    have e : m = maxI ns := Int.le_antisymm (maxI_le hm) (hle _ (maxI_mem hn))
    rw [e]
    exact q _ H (Same.refl H) (.int _)⟩
theorem c_sortI : CallOk X (.builtin "sorted") (rSortedI X.K) [.b] .o fSortI := ⟨cr_sortedI, fun pot M H vs ds z al pm ph a hz Q q => by
  obtain ⟨p, ns, rfl, h1, e⟩ := on_ints a hz
  cases e
  refine ⟨p, ns, rfl, .inl (.inl h1), fun ns' c hp hs hn => ?_⟩
  have e : ns' = sortI ns := sorted_same (hp.trans (sortI_perm ns).symm) hs (sortI_sorted ns)
  rw [e]
  exact q _ _ (same_upd hn) (new_lst ph hn (RpL.of_ints _))⟩
theorem c_any (x : XOk X E k) : CallOk X (.builtin "any") (rAny X.K) [.b] .f fAny := ⟨cr_any x.calm, fun pot M H vs ds z al pm ph a hz Q q => by
  obtain ⟨v, d, rfl, rfl, h⟩ := arg1 a
  unfold fAny at hz
  split at hz
  · rename_i xs e
    cases e
    simp only [Option.map_eq_some_iff] at hz
    obtain ⟨ns, e1, e2⟩ := hz
    rw [asBls_eq e1] at h
    obtain ⟨p, ys, rfl, h1, r1⟩ := rb_lst h
    rw [rpl_bls r1] at h1
    subst e2
    exact ⟨p, ns, rfl, .inl (.inl h1), q _ H (Same.refl H) (.bl _)⟩
  · cases hz⟩
theorem c_all (x : XOk X E k) : CallOk X (.builtin "all") (rAll X.K) [.b] .f fAll := ⟨cr_all x.calm, fun pot M H vs ds z al pm ph a hz Q q => by
  obtain ⟨v, d, rfl, rfl, h⟩ := arg1 a
  unfold fAll at hz
  split at hz
  · rename_i xs e
    cases e
    simp only [Option.map_eq_some_iff] at hz
    obtain ⟨ns, e1, e2⟩ := hz
    rw [asBls_eq e1] at h
    obtain ⟨p, ys, rfl, h1, r1⟩ := rb_lst h
    rw [rpl_bls r1] at h1
    subst e2
    exact ⟨p, ns, rfl, .inl (.inl h1), q _ H (Same.refl H) (.bl _)⟩
  · cases hz⟩
theorem c_int : CallOk X (.type "int") (fun xs H Q => (∃ i, xs = [.int i] ∧ Q (.int i) H) ∨ ∃ k, xs = [.bl k] ∧ Q (.int (if k then 1 else 0)) H) [.b] .f fInt := ⟨call_int1, fun pot M H vs ds z al pm ph a hz Q q => by
  obtain ⟨v, d, rfl, rfl, h⟩ := arg1 a
  cases d <;> simp [fInt] at hz
  subst hz
  exact .inl ⟨_, by rw [rb_int h], q _ H (Same.refl H) (.int _)⟩⟩
theorem c_list : CallOk X (.type "list") (fun xs H Q => ∃ p ys, xs = [.ref p] ∧ (SqL X.K H p ys ∨ SqT X.K H p ys) ∧ ∀ l, H l = none → Q (.ref l) (upd H l (.lst ys))) [.b] .o fList := ⟨call_list_of, fun pot M H vs ds z al pm ph a hz Q q => by
  obtain ⟨v, d, rfl, rfl, h⟩ := arg1 a
  cases d <;> simp [fList] at hz
  · subst hz
    obtain ⟨p, ys, rfl, h1, r1⟩ := rb_lst h
    exact ⟨p, ys, rfl, .inl (.inl (.inl h1)), fun l hn => q _ _ (same_upd hn) (new_lst ph hn r1)⟩
  · subst hz
    obtain ⟨p, ys, rfl, h1, r1⟩ := rb_tup h
    exact ⟨p, ys, rfl, .inr (sqT_mono less_le h1), fun l hn => q _ _ (same_upd hn) (new_lst ph hn r1)⟩⟩
theorem c_tuple : CallOk X (.type "tuple") (fun xs H Q => ∃ p ys, xs = [.ref p] ∧ ((SqL X.K H p ys ∧ ∀ l, H l = none → Q (.ref l) (upd H l (.tup ys))) ∨ (SqT X.K H p ys ∧ Q (.ref p) H))) [.b] .f fTuple := ⟨call_tuple_of, fun pot M H vs ds z al pm ph a hz Q q => by
  obtain ⟨v, d, rfl, rfl, h⟩ := arg1 a
  cases d <;> simp [fTuple] at hz
  · subst hz
    obtain ⟨p, ys, rfl, h1, r1⟩ := rb_lst h
    exact ⟨p, ys, rfl, .inl ⟨.inl (.inl h1), fun l hn => q _ _ (same_upd hn) (new_tup al hn r1)⟩⟩
  · subst hz
    obtain ⟨p, ys, rfl, h1, r1⟩ := rb_tupP h
    exact ⟨p, ys, rfl, .inr ⟨.inl (.inl (less_le _ _ h1)), q _ H (Same.refl H) (.tup h1 r1)⟩⟩⟩
theorem c_gcd : CallOk X (.builtin "math.gcd") rGcd [.b, .b] .f fGcd := ⟨cr_gcd, fun pot M H vs ds z al pm ph a hz Q q => by
  obtain ⟨v, d, w, e, rfl, rfl, h, h'⟩ := arg2 a
  cases d <;> cases e <;> simp [fGcd] at hz
  subst hz
  exact ⟨_, _, by rw [rb_int h, rb_int h'], q _ H (Same.refl H) (.int _)⟩⟩
end
end DL
set_option maxHeartbeats 2000000
namespace DL
open PySem PySem.Spec PyProof.Rows L2
theorem RpL.atI {mg : Str → Option Value} {K : PySem.W.Frag} {H : Hp} {vs : List V} {ds : List D} {i : Int} {d : D} (r : RpL mg K H vs ds) (e : L2.atI ds i = some d) : ∃ v, L2.atI vs i = some v ∧ Rp mg K H v d := by
  unfold L2.atI at e ⊢
  rw [r.length]
  simp only [Option.bind_eq_some_iff] at e ⊢
  obtain ⟨j, h1, h2⟩ := e
  obtain ⟨v, h3, h4⟩ := r.get h2
  exact ⟨v, ⟨j, h1, h3⟩, h4⟩
def opIx : D → D → Option D
  | .lst xs, .int i => L2.atI xs i
  | .tup xs, .int i => L2.atI xs i
  | .str z, .int i => if z.length ≤ sizeLine then (L2.atI z.cps.toList i).map fun c => .str ⟨#[c]⟩ else none
  | _, _ => none
section
variable {X : Cx} {E : XK} {Γ : List Md} {r ra rb rc : Rm} {e a b c : Expr} {ta tb te : TE} {fa fb fe : Ed} {pos p p2 : Pos} {k kk : Nat} {es : List Expr} {ks : List Ak} {tA : TA} {fA : Ea}
theorem sem_ix : SemOp X.mg X.K (rIx X.K) .f opIx := fun pot M H x y d e z al pm ph rx ry hz Q q => by
  unfold opIx at hz
  split at hz
  · obtain ⟨p, xs, rfl, h1, r1⟩ := rb_lst rx
    obtain ⟨v, hv, rv⟩ := r1.atI hz
    exact .inl ⟨p, xs, _, v, rfl, rb_int ry, .inl (.inl h1), hv, q _ H (Same.refl H) rv⟩
  · obtain ⟨p, xs, rfl, h1, r1⟩ := rb_tup rx
    obtain ⟨v, hv, rv⟩ := r1.atI hz
    exact .inr (.inl ⟨p, xs, _, v, rfl, rb_int ry, sqT_mono less_le h1, hv, q _ H (Same.refl H) rv⟩)
  · split at hz
    · rename_i hl
      simp only [Option.map_eq_some_iff] at hz
      obtain ⟨w, hw, rfl⟩ := hz
      exact .inr (.inr ⟨_, _, w, rb_str rx, rb_int ry, hl, hw, q _ H (Same.refl H) (.str _)⟩)
    · cases hz
  · cases hz
theorem de_ix (ha : DE X E ra Γ a ta fa) (hb : DE X E rb Γ b tb fb) (hs : PlainIx b := by intro _ _; rfl) : DE X E .f Γ (.Subscript a b pos) (tOp (rIx X.K) ta tb) (eBin opIx fa fb) :=
  ⟨pe_ix ix_seq ha.pe hb.pe hs, sem_bin sem_ix ha.sem hb.sem⟩
abbrev Eo := Rho → Pot → Res (Option Int × Pot)
def oNone : Eo := fun _ π => .ok (none, π)
def oSome (a : Ed) : Eo := fun ρ π => (a ρ π).bind fun x => match x.1 with
  | .int i => .ok (some i, x.2)
  | _ => .stuck
structure DO (X : Cx) (E : XK) (Γ : List Md) (e : Option Expr) (t : TO) (f : Eo) : Prop where
  po : PO X e t
  sem : ∀ pot M σ H ρ π, EnvOk X.mg X.K Γ pot M σ H ρ → PotAt pot H π → ∀ Q : Option Int → Hp → Prop, (match f ρ π with
    | .ok (o, π1) => ∀ H', Grow pot H H' → PotAt pot H' π1 → Q o H'
    | .err c ns xs π1 => PErr X.mg X.K pot M H c ns xs π1 E
    | .stuck => False) → t σ H Q
theorem do_none : DO X E Γ none tNoPart oNone := ⟨po_none, fun pot M σ H ρ π I p Q h => h H .refl p⟩
theorem do_some (ha : DE X E .f Γ a ta fa) : DO X E Γ (some a) (tPart ta) (oSome fa) := ⟨po_some ha.pe, fun pot M σ H ρ π I p Q h => by
  refine ha.sem pot M σ H ρ π I p _ ?_
  unfold oSome at h
  cases ea : fa ρ π with
  | ok x =>
    obtain ⟨d, π1⟩ := x
    rw [ea] at h
    cases d with
    | int i =>
      intro v H1 g1 p1 r1
      exact ⟨i, rb_int (RpR.toB (r := .f) r1), h H1 g1 p1⟩
    | _ => exact h.elim
  | err c ns xs π1 =>
    rw [ea] at h
    exact h
  | stuck =>
    rw [ea] at h
    exact h⟩
def cutD (xs : List D) (lo hi : Option Int) : List D := (xs.drop (HT.sIx xs.length 0 lo)).take (HT.sIx xs.length xs.length hi - HT.sIx xs.length 0 lo)
def fCut (d : D) (lo hi : Option Int) : Option D := match d with
  | .lst xs => some (.lst (cutD xs lo hi))
  | .tup xs => some (.tup (cutD xs lo hi))
  | _ => none
def eSl (a : Ed) (l u : Eo) : Ed := fun ρ π => (a ρ π).bind fun x => (l ρ x.2).bind fun y => (u ρ y.2).bind fun z => (ofO (fCut x.1 y.1 z.1)).bind fun w => .ok (w, z.2)
theorem RpL.cut {mg : Str → Option Value} {K : PySem.W.Frag} {H : Hp} {vs : List V} {ds : List D} (r : RpL mg K H vs ds) (lo hi : Option Int) : RpL mg K H (cutV vs lo hi) (cutD ds lo hi) := by
  unfold cutV cutD
  rw [r.length]
  exact (r.drop _).take _
theorem de_slice {lo hi : Option Expr} {tl th : TO} {fl fh : Eo} (ha : DE X E ra Γ a ta fa) (hl : DO X E Γ lo tl fl) (hu : DO X E Γ hi th fh) : DE X E .f Γ (.Subscript a (.Slice lo hi none p2) pos) (tSl (fun x l u H Q => rSlL X.K x l u H Q ∨ rSlA X.K x l u H Q) ta tl th) (eSl fa fl fh) :=
  ⟨pe_slice (sl_list.or sl_tupA) ha.pe hl.po hu.po, fun pot M σ H ρ π I p Q h => by
    refine Post.seq (r' := ra) (te := ta σ H) h p (fun Q' hq => ha.sem pot M σ H ρ π I p Q' hq) fun d π1 v H1 _ g1 p1 r1 h1 => ?_
    refine hl.sem pot M σ H1 ρ π1 (I.grow g1 p1) p1 _ ?_
    cases el : fl ρ π1 with
    | err c ns xs π2 =>
      rw [el] at h1
      exact h1
    | stuck =>
      rw [el] at h1
      exact h1
    | ok y =>
      obtain ⟨l, π2⟩ := y
      rw [el] at h1
      intro H2 g2 p2
      have h2 := Post.back g2 p1 h1
      refine hu.sem pot M σ H2 ρ π2 (I.grow (g1.trans g2) p2) p2 _ ?_
      simp only [Res.bind_ok] at h2
      cases eu : fh ρ π2 with
      | err c ns xs π3 =>
        rw [eu] at h2
        exact h2
      | stuck =>
        rw [eu] at h2
        exact h2
      | ok z =>
        obtain ⟨u, π3⟩ := z
        rw [eu] at h2
        simp only [Res.bind_ok] at h2
        intro H3 g3 p3
        have h3 := Post.back g3 p2 h2
        have g13 := g2.trans g3
        have I3 := I.grow (g1.trans g13) p3
        have rv := r1.toB.grow I.pm g13
        cases d with
        | lst xs =>
          obtain ⟨q, vs, rfl, hq, rq⟩ := rb_lst rv
          exact .inl ⟨q, vs, rfl, .inl (.inl hq), fun l hn => h3 _ _ (.new hn) (p3.new hn) (new_lstF I3.al hn (rq.cut _ _))⟩
        | tup xs =>
          obtain ⟨q, vs, rfl, hq, rq⟩ := rb_tupP rv
          refine .inr ⟨q, vs, rfl, .inl (.inl (less_le _ _ hq)), fun hw => ?_, fun hw l hn => h3 _ _ (.new hn) (p3.new hn) (new_tup I3.al hn (rq.cut _ _))⟩
          refine h3 _ H3 .refl p3 (.tup hq ?_)
          have ec : cutD xs l u = xs := by
            unfold cutD
            rw [← rq.length, hw.1, hw.2, List.drop_zero, Nat.sub_zero, rq.length, List.take_length]
          rw [ec]
          exact rq
        | _ => exact h3.elim⟩
def fRev (d : D) : Option D := match d with
  | .lst xs => some (.lst xs.reverse)
  | _ => none
def tyName : D → Option String
  | .non => some "NoneType"
  | .bl _ => some "bool"
  | .int _ => some "int"
  | .str _ => some "str"
  | .lst _ => some "list"
  | .tup _ => some "tuple"
  | .dic _ _ => some "dict"
  | .ins _ _ _ => none
def isTyB (a b : String) : Bool := a == b || (a == "bool" && b == "int")
def fIs (ns : List String) (d : D) : Option D := (tyName d).map fun a => .bl (ns.any fun b => isTyB a b)
/-- of which class a value is; also a dict with tuple keys that is locked -/
def TyY (K : PySem.W.Frag) (H : Hp) (x : V) (t : Value) : Prop := TyX K H x t ∨ ∃ a o kvs, x = .ref a ∧ H a = some (.frz o (.dT kvs)) ∧ t = .type "dict"
theorem kitY_of {X : Cx} {pins : List (Addr × Obj)} {σ : L2.St} {H : Hp} {s : Shared} {x : V} {u t : Value} (I : L2.Inv X pins σ H s) (rx : L2.RelV x u) (h : TyY X.K H x t) :
    ∃ P, PySem.W.KitX X.K u t P ∧ P s.heap ∧ u ≠ Value.builtin "__main__.__loader__#opaque" := by
  rcases h with h | ⟨a, o, kvs, rfl, h, rfl⟩
  · exact kit_of I rx h
  · have k := I.hok a _ h
    unfold L2.ObjOk at k
    obtain ⟨k1, k2⟩ := k
    unfold L2.ObjOk at k2
    obtain ⟨_, _, _, _, o', es, ep, k3, k4, _⟩ := k2
    obtain rfl : u = Value.ref a := rx
    exact ⟨_, PySem.W.kitx_dict, ⟨o', k3, k4.1⟩, by intro e; cases e⟩
def rIsiY (K : PySem.W.Frag) : List V → Hp → VK → Prop := fun xs H Q => ∃ x c t u b, xs = [x, c] ∧ ClsV c u ∧ TyY K H x t ∧ PySem.W.kitOne K t u = some b ∧ Q (.bl b) H
def rIsiTY (K : PySem.W.Frag) : List V → Hp → VK → Prop := fun xs H Q => ∃ x tp cs t us b, xs = [x, .ref tp] ∧ H tp = some (.tup cs) ∧ Paired ClsV cs us ∧ TyY K H x t ∧ PySem.W.kitAny K t us = some b ∧ Q (.bl b) H
theorem call_isiY {X : Cx} : CallR X (.builtin "isinstance") (rIsiY X.K) := fun pins s σ H xs us Q I rl h => by
  obtain ⟨x, c, t, u, b, rfl, hc, ht, hk, q⟩ := h
  cases rl with
  | cons r1 rl => cases rl with
    | cons r2 rl =>
      cases rl
      rw [hc.eq r2]
      obtain ⟨P, Z, p, hn⟩ := kitY_of I r1 ht
      exact PySem.W.kia_one Z I.kIn p hk hn fun tk => ⟨.bl b, H, I.tok tk, rfl, q⟩
theorem call_isiTY {X : Cx} : CallR X (.builtin "isinstance") (rIsiTY X.K) := fun pins s σ H xs us Q I rl h => by
  obtain ⟨x, tp, cs, t, ws, b, rfl, htp, hc, ht, hk, q⟩ := h
  cases rl with
  | cons r1 rl => cases rl with
    | cons r2 rl =>
      cases rl
      obtain ⟨P, Z, p, hn⟩ := kitY_of I r1 ht
      have k := I.hok tp _ htp
      unfold L2.ObjOk at k
      obtain ⟨_, its, kv, o, k1, k2, n, k3⟩ := k
      obtain rfl : _ = Value.ref tp := r2
      obtain ⟨oc, od, dt, sl⟩ := o
      dsimp only at k2 k3
      subst k2
      subst k3
      rw [ClsV.all hc kv] at k1
      exact PySem.W.kia_tup Z I.kIn p k1 hk hn fun tk => ⟨.bl b, H, I.tok tk, rfl, q⟩
theorem rb_ty {mg : Str → Option Value} {K : PySem.W.Frag} {pot : Option Addr} {M : List Addr} {H : Hp} {x : V} {d : D} {n : String} (h : Rb mg K pot M H x d) (e : tyName d = some n) : TyY K H x (.type n) := by
  have h := rb_rp h
  cases h with
  | non => cases e; exact .inl (.base .non)
  | bl b => cases e; exact .inl (.base (.bl _))
  | int i => cases e; exact .inl (.base (.int _))
  | str z => cases e; exact .inl (.base (.str _))
  | lst h1 h2 => cases e; exact .inl (.base (.lst h1))
  | tup h1 h2 => cases e; exact .inl (.base (.tup h1))
  | dicK h1 h2 =>
    cases e
    rcases h1 with h1 | ⟨o, h1⟩
    · exact .inl (.base (.dK h1))
    · exact .inl (.fDict h1)
  | dicT h1 h2 =>
    cases e
    rcases h1 with h1 | ⟨o, h1⟩
    · exact .inl (.base (.dT h1))
    · exact .inr ⟨_, _, _, rfl, h1, rfl⟩
  | ins => cases e
def tyNames : List String := ["NoneType", "bool", "int", "str", "list", "tuple", "dict"]
theorem tyName_mem {d : D} {n : String} (e : tyName d = some n) : n ∈ tyNames := by
  cases d <;> cases e <;> simp [tyNames]
def tyOkB (b : String) : Bool := tyNames.all fun a => kitB a b == some (isTyB a b)
theorem kit_name {K : PySem.W.Frag} {d : D} {n b : String} (e : tyName d = some n) (h : tyOkB b = true) : PySem.W.kitOne K (.type n) (.type b) = some (isTyB n b) := by
  have := List.all_eq_true.mp h n (tyName_mem e)
  exact kit_ty (by simpa using this)
theorem kit_names {K : PySem.W.Frag} {d : D} {n : String} (e : tyName d = some n) : ∀ {bs : List String}, bs.all tyOkB = true → PySem.W.kitAny K (.type n) (bs.map Value.type) = some (bs.any fun b => isTyB n b)
  | [], _ => kitAny_nil
  | b :: bs, h => by
    have h' : tyOkB b = true ∧ bs.all tyOkB = true := by simpa using h
    refine kitAny_cons (kit_name e h'.1) (fun e1 => ?_) fun e1 => ?_
    · rw [kit_names e h'.2]
      simp [e1]
    · simp [e1]
theorem cls_all : ∀ bs : List String, Paired ClsV (bs.map V.ty) (bs.map Value.type)
  | [] => .nil
  | b :: bs => .cons (.ty b) (cls_all bs)
end
end DL
set_option maxHeartbeats 2000000
namespace DL
open PySem PySem.Spec PyProof.Rows L2
def showD (d : D) : Option Str := match toPy d with
  | some p => if PyData.showable p && !PyData.hasDict p && decide (PyData.depth p ≤ 60) && decide (p.shown.length ≤ sizeLine) then some p.shown else none
  | none => none
section
variable {X : Cx} {E : XK} {k : Nat}
def fStr : List D → Option D
  | [.lst xs] => (showD (.lst xs)).map .str
  | [.tup xs] => (showD (.tup xs)).map .str
  | _ => none
end
def keyOf : D → Option Key
  | .int i => some (.inl i)
  | .str x => some (.inr x)
  | _ => none
def pairsOf : List D → Option (List (Key × D))
  | [] => some []
  | .tup [a, b] :: r => match keyOf a, pairsOf r with
    | some k, some ps => some ((k, b) :: ps)
    | _, _ => none
  | _ :: _ => none
def putD (kvs : List (Key × D)) (k : Key) (v : D) : List (Key × D) :=
  if (kvs.any fun kv => decide (kv.1 = k)) = true then kvs.map (fun kv => if kv.1 = k then (kv.1, v) else kv) else kvs ++ [(k, v)]
def mergeD (kvs more : List (Key × D)) : List (Key × D) := more.foldl (fun acc kv => putD acc kv.1 kv.2) kvs
def dicOf (ps : List (Key × D)) : D := .dic (ps.map fun p => .inl p.1) (ps.map (·.2))
def fDict : List D → Option D
  | [.lst xs] => (pairsOf xs).bind fun ps => if mergeD [] ps = [] then none else some (dicOf (mergeD [] ps))
  | _ => none
section
variable {X : Cx} {E : XK} {Γ : List Md} {r ra rb rc : Rm} {e a b c : Expr} {ta tb te : TE} {fa fb fe : Ed} {pos p p2 : Pos} {k kk : Nat} {es : List Expr} {ks : List Ak} {tA : TA} {fA : Ea}
def rgOk (a b : Int) : Bool := decide (-(2 ^ 62) ≤ a ∧ a < 2 ^ 62 ∧ -(2 ^ 62) ≤ b ∧ b < 2 ^ 62 ∧ (b - a).toNat ≤ 2 ^ 24)
def rgD (a b : Int) : List D := (List.range (b - a).toNat).map fun (i : Nat) => .int (a + (i : Int))
theorem rg_r {mg : Str → Option Value} {K : PySem.W.Frag} {H : Hp} (a b : Int) : RpL mg K H (rgV a b) (rgD a b) := by
  have e1 : rgV a b = ((List.range (b - a).toNat).map fun (i : Nat) => a + (i : Int)).map V.int := by
    unfold rgV
    rw [List.map_map]
    rfl
  have e2 : rgD a b = DL.iz ((List.range (b - a).toNat).map fun (i : Nat) => a + (i : Int)) := by
    unfold rgD DL.iz
    rw [List.map_map]
    rfl
  rw [e1, e2]
  exact RpL.of_ints _
def fRg2 (d e : D) : Option D := match d, e with
  | .int i, .int j => if rgOk i j then some (.lst (rgD i j)) else none
  | _, _ => none
theorem rgOk_of {a b : Int} (h : rgOk a b = true) : RgOk a b := by
  unfold rgOk at h
  exact (decide_eq_true_iff.mp h : _ ∧ _)
theorem de_listRg2 {pr : Pos} (x : XOk X E k) (hm : X.mg "list" = none) (hm2 : X.mg "range" = none) (ha : DE X E .f Γ a ta fa) (hb : DE X E .f Γ b tb fb) (hg : Gl X "list" := by rfl) (hg2 : Gl X "range" := by rfl) (n1 : starEach [a, b] X.env = (false, eval a X.env) :: starEach [b] X.env := by rfl)
    (n3 : starEach [b] X.env = (false, eval b X.env) :: starEach [] X.env := by rfl) (n4 : (backTo p2 (starEach [b] X.env)).any (·.1) = false := by rfl)
    (n2 : starEach [.Call (.Name "range" pr) [a, b] [] p2] X.env = (false, eval (.Call (.Name "range" pr) [a, b] [] p2) X.env) :: starEach [] X.env := by rfl) :
    DE X E .o Γ (.Call (.Name "list" p) [.Call (.Name "range" pr) [a, b] [] p2] [] pos) (tLstRg (tRg2 ta tb)) (eBin fRg2 fa fb) :=
  ⟨pe_listRg x.calm hg hm (prg_2 hg2 hm2 ha.pe hb.pe n1 n3 n4) n2, fun pot M σ H ρ π I p Q h => by
    refine Post.seq (r' := .f) (te := ta σ H) h p (fun Q' hq => ha.sem pot M σ H ρ π I p Q' hq) fun d π1 v H1 _ g1 p1 r1 h1 => ?_
    refine Post.seq (r' := .f) (te := tb σ H1) h1 p1 (fun Q' hq => hb.sem pot M σ H1 ρ π1 (I.grow g1 p1) p1 Q' hq) fun d2 π2 v2 H2 _ g2 p2 r2 h2 => ?_
    cases d with
    | int i =>
      cases d2 with
      | int j =>
        simp only [fRg2] at h2
        split at h2
        · rename_i hj
          exact ⟨i, j, rb_int (RpR.toB (r := .f) r1), rb_int (RpR.toB (r := .f) r2), rgOk_of hj, fun l hn => h2 _ _ (.new hn) (p2.new hn) (new_lst p2.has hn (rg_r _ _))⟩
        · exact h2.elim
      | _ => exact h2.elim
    | _ => exact h2.elim⟩
def eSix (i : Nat) (fb : Ed) : Ed := fun ρ π => (fb ρ π).bind fun y => match ρ[i]? with
  | some (some d) => (ofO (opIx d y.1)).bind fun z => .ok (z, y.2)
  | _ => .stuck
theorem atI_map {α β : Type} (f : α → β) (xs : List α) (i : Int) : L2.atI (xs.map f) i = (L2.atI xs i).map f := by
  unfold L2.atI
  rw [List.length_map]
  cases ixN xs.length i <;> simp
theorem de_six (i : Nat) {x : Str} {px : Pos} (hb : DE X E .f Γ b tb fb) (hN : X.N[i]? = some x := by rfl) (hv : Vis X.env.scope x := by first | exact Or.inl rfl | exact Or.inr (Or.inl rfl) | exact Or.inr (Or.inr rfl)) (hΓ : Γ[i]? = some .s := by rfl)
    (hd : (x == ("__debug__" : Str)) = false := by decide) (hcd : (x == ("__classdict__" : Str)) = false := by decide) (hs : PlainIx b := by intro _ _; rfl) :
    DE X E .f Γ (.Subscript (.Name x px) b pos) (tOp (rIx X.K) (tVar i) tb) (eBin opIx (eVar i) fb) :=
  ⟨pe_ix ix_seq (pe_var hN hv hd hcd) hb.pe hs, fun pot M σ H ρ π I p Q h => by
    unfold eBin eVar at h
    split at h
    · rename_i d er
      obtain ⟨c, ns, e1, rfl, hq⟩ := I.s i d hΓ er
      refine ⟨_, e1, ?_⟩
      simp only [Res.bind_ok] at h
      refine Post.seq (r' := .f) (te := tb σ H) h p (fun Q' hq => hb.sem pot M σ H ρ π I p Q' hq) fun d π1 v H1 _ g1 p1 r1 h1 => ?_
      cases d with
      | int j =>
        cases ez : L2.atI ns j with
        | none =>
          simp only [opIx, DL.iz, atI_map, ez, Option.map_none, ofO_none, Res.bind_stuck] at h1
          exact h1.elim
        | some n =>
          simp only [opIx, DL.iz, atI_map, ez, Option.map_some, ofO_some, Res.bind_ok] at h1
          exact .inl ⟨c, _, j, .int n, rfl, rb_int (RpR.toB (r := .f) r1), sqL_mono less_le (sqL_mono (less_grow I.pm g1) hq), by rw [atI_map, ez]; rfl, h1 _ H1 .refl p1 (.int _)⟩
      | _ => exact h1.elim
    · exact h.elim⟩
theorem de_pot0 (i : Nat) {x : Str} {px pc : Pos} {j : Nat} (hN : X.N[i]? = some x := by rfl) (hv : Vis X.env.scope x := by first | exact Or.inl rfl | exact Or.inr (Or.inl rfl) | exact Or.inr (Or.inr rfl)) (hΓ : Γ[i]? = some .p := by rfl)
    (hd : (x == ("__debug__" : Str)) = false := by decide) (hcd : (x == ("__classdict__" : Str)) = false := by decide) :
    DE X E .f Γ (.Subscript (.Name x px) (.Constant (.int 0) j pc) pos) (tOp (rIx X.K) (tVar i) (tC (.int 0))) ePot0 :=
  ⟨pe_ix ix_seq (pe_var hN hv hd hcd) pe_int (by intro _ _; rfl), fun pot M σ H ρ π I p Q h => by
    obtain ⟨c, e, e1⟩ := I.p i hΓ
    exact ⟨_, e1, .inl ⟨c, _, 0, .int π.1, rfl, rfl, .inl (.inl (p c e)), rfl, h _ H .refl p (.int _)⟩⟩⟩
theorem de_pot1 (i : Nat) {x : Str} {px pc : Pos} {j : Nat} (hN : X.N[i]? = some x := by rfl) (hv : Vis X.env.scope x := by first | exact Or.inl rfl | exact Or.inr (Or.inl rfl) | exact Or.inr (Or.inr rfl)) (hΓ : Γ[i]? = some .p := by rfl)
    (hd : (x == ("__debug__" : Str)) = false := by decide) (hcd : (x == ("__classdict__" : Str)) = false := by decide) :
    DE X E .f Γ (.Subscript (.Name x px) (.Constant (.int 1) j pc) pos) (tOp (rIx X.K) (tVar i) (tC (.int 1))) ePot1 :=
  ⟨pe_ix ix_seq (pe_var hN hv hd hcd) pe_int (by intro _ _; rfl), fun pot M σ H ρ π I p Q h => by
    obtain ⟨c, e, e1⟩ := I.p i hΓ
    exact ⟨_, e1, .inl ⟨c, _, 1, .int π.2, rfl, rfl, .inl (.inl (p c e)), rfl, h _ H .refl p (.int _)⟩⟩⟩
theorem ds_pot1 (i : Nat) {Γl : List Md} {x : Str} {px pc : Pos} {j : Nat} (he : DE X E .f Γ e te fe) (hN : X.N[i]? = some x := by rfl) (hv : Vis X.env.scope x := by first | exact Or.inl rfl | exact Or.inr (Or.inl rfl) | exact Or.inr (Or.inr rfl)) (hΓ : Γ[i]? = some .p := by rfl)
    (hd : (x == ("__debug__" : Str)) = false := by decide) (hcd : (x == ("__classdict__" : Str)) = false := by decide)
    (ha : ∀ v, assign (.Subscript (.Name x px) (.Constant (.int 1) j pc) p2) X.env v = (do let ov ← holding [v] (eval (.Name x px) X.env); let iv ← holding [v, ov] (eval (.Constant (.int 1) j pc) X.env); standAt p2; holding [v, ov, iv] (setItem ov iv v); release [v, ov, iv] []) := by intro _; rfl)
    (h1 : swapsWithSole [.Subscript (.Name x px) (.Constant (.int 1) j pc) p2] e pos.line X.env = pure false := by rfl) (h2 : swappedStores [.Subscript (.Name x px) (.Constant (.int 1) j pc) p2] e X.env = pure none := by rfl)
    (h3 : (assignEach [.Subscript (.Name x px) (.Constant (.int 1) j pc) p2] X.env).map (·.2) = [assign (.Subscript (.Name x px) (.Constant (.int 1) j pc) p2) X.env] := by rfl) :
    DS X E r Γl Γ Γ (.Assign [.Subscript (.Name x px) (.Constant (.int 1) j pc) p2] e pos) (tAsg te (gSub (tVar i) (tC (.int 1)) rSetL)) (sPot1 fe) :=
  ⟨ps_asg he.pe (pg_sub (pe_var hN hv hd hcd) pe_int set_list ha) h1 h2 h3, fun pot M0 H0 B M σ H ρ π D' S p h => by
    refine PostS.seq (r' := .f) (te := te σ H) h S (fun Q' hq => he.sem pot M σ H ρ π S.env p Q' hq) fun d π1 v H1 _ g1 p1 q1 h1 => ?_
    have S1 := S.grow g1 p1
    cases d with
    | int n =>
      cases rb_int (RpR.toB (r := .f) q1)
      obtain ⟨c, e, e1⟩ := S1.env.p i hΓ
      exact ⟨_, e1, c, _, 1, 1, rfl, rfl, p1 c e, rfl, h1 M σ _ (S1.potset e π1.1 n) fun a ea => by rw [e] at ea; cases ea; exact upd_same⟩
    | _ => exact h1.elim⟩
/-- pot[0], d = divmod(pot[0], n) -/
theorem ds_potdm (i j : Nat) {Γl : List Md} {x y : Str} {px pc py pt pd qx qc q2 qpos : Pos} {u u2 kt : Nat} (o : XOk X E k) (hm : X.mg "divmod" = none) (he : DE X E .f Γ e te fe) (hΓ : Γ[i]? = some .p := by rfl) (hΓ2 : Γ[j]? = some .f := by rfl) (hN : X.N[i]? = some x := by rfl) (hN2 : X.N[j]? = some y := by rfl) (hv : Vis X.env.scope x := by first | exact Or.inl rfl | exact Or.inr (Or.inl rfl) | exact Or.inr (Or.inr rfl))
    (hy : Loc X.env.scope y := by first | exact Or.inl rfl | exact Or.inr rfl) (hf : X.fn y = true ∨ X.env.scope.names.lookup y = some .local := by first | exact .inl rfl | exact .inr rfl)
    (hd : (x == ("__debug__" : Str)) = false := by decide) (hcd : (x == ("__classdict__" : Str)) = false := by decide) (hg : Gl X "divmod" := by rfl)
    (ha : ∀ v, assign (.Subscript (.Name x px) (.Constant (.int 0) u pc) p2) X.env v = (do let ov ← holding [v] (eval (.Name x px) X.env); let iv ← holding [v, ov] (eval (.Constant (.int 0) u pc) X.env); standAt p2; holding [v, ov, iv] (setItem ov iv v); release [v, ov, iv] []) := by intro _; rfl)
    (s1 : starEach [.Subscript (.Name x qx) (.Constant (.int 0) u2 qc) q2, e] X.env = (false, eval (.Subscript (.Name x qx) (.Constant (.int 0) u2 qc) q2) X.env) :: starEach [e] X.env := by rfl) (s2 : starEach [e] X.env = (false, eval e X.env) :: starEach [] X.env := by rfl) (hpl : (backTo qpos (starEach [e] X.env)).any (·.1) = false := by rfl)
    (m1 : (assignEach [.Subscript (.Name x px) (.Constant (.int 0) u pc) p2, .Name y py] X.env).map (·.2) = assign (.Subscript (.Name x px) (.Constant (.int 0) u pc) p2) X.env :: (assignEach [.Name y py] X.env).map (·.2) := by rfl) (m2 : (assignEach [.Name y py] X.env).map (·.2) = assign (.Name y py) X.env :: (assignEach [] X.env).map (·.2) := by rfl)
    (m3 : (assignEach [.Subscript (.Name x px) (.Constant (.int 0) u pc) p2, .Name y py] X.env).length = 2 := by rfl) (m4 : (assignEach [.Subscript (.Name x px) (.Constant (.int 0) u pc) p2, .Name y py] X.env).findIdx? (·.1) = none := by rfl)
    (h1 : swapsWithSole [.Tuple [.Subscript (.Name x px) (.Constant (.int 0) u pc) p2, .Name y py] kt pt] (.Call (.Name "divmod" pd) [.Subscript (.Name x qx) (.Constant (.int 0) u2 qc) q2, e] [] qpos) pos.line X.env = pure false := by rfl)
    (h2 : swappedStores [.Tuple [.Subscript (.Name x px) (.Constant (.int 0) u pc) p2, .Name y py] kt pt] (.Call (.Name "divmod" pd) [.Subscript (.Name x qx) (.Constant (.int 0) u2 qc) q2, e] [] qpos) X.env = pure none := by rfl)
    (h3 : (assignEach [.Tuple [.Subscript (.Name x px) (.Constant (.int 0) u pc) p2, .Name y py] kt pt] X.env).map (·.2) = [assign (.Tuple [.Subscript (.Name x px) (.Constant (.int 0) u pc) p2, .Name y py] kt pt) X.env] := by rfl) :
    DS X E r Γl Γ Γ (.Assign [.Tuple [.Subscript (.Name x px) (.Constant (.int 0) u pc) p2, .Name y py] kt pt] (.Call (.Name "divmod" pd) [.Subscript (.Name x qx) (.Constant (.int 0) u2 qc) q2, e] [] qpos) pos)
      (tAsg (tCB (fun xs H Q => ∃ i j, xs = [.int i, .int j] ∧ CDivP i j ∧ ∀ p, H p = none → Q (.ref p) (upd H p (.tup [.int (i / j), .int (i % j)]))) (tCons (tOp (rIx X.K) (tVar i) (tC (.int 0))) (tCons te tNil))) (gTup X.K 2 (gCons (gSub (tVar i) (tC (.int 0)) rSetL) (gCons (gName j) gNil)))) (sPotDm j fe) :=
  ⟨ps_asg (pe_callB call_divmodW hg hm (by decide +kernel) (pa_cons (pe_ix ix_seq (pe_var hN hv hd hcd) pe_int (by intro _ _; rfl)) (pa_cons he.pe pa_nil s2) s1) (by decide) (by decide) s1 hpl) (pg_tup o.calm (pgs_cons (pg_sub (pe_var hN hv hd hcd) pe_int set_list ha) (pgs_cons (pg_name o.nd hN2 hy hf) pgs_nil m2) m1) m3 m4) h1 h2 h3, fun pot M0 H0 B M σ H ρ π D' S p h => by
    obtain ⟨c, e, e1⟩ := S.env.p i hΓ
    refine ⟨_, e1, .inl ⟨c, _, 0, .int π.1, rfl, rfl, .inl (.inl (p c e)), rfl, ?_⟩⟩
    refine PostS.seq (r' := .f) (te := te σ H) h S (fun Q' hq => he.sem pot M σ H ρ π S.env p Q' hq) fun d π1 v H1 _ g1 p1 q1 h1 => ?_
    have S1 := S.grow g1 p1
    cases d with
    | int n =>
      cases rb_int (RpR.toB (r := .f) q1)
      simp only at h1
      split at h1
      · rename_i hdv
        unfold divOk at hdv
        simp only [Bool.and_eq_true, decide_eq_true_eq, Bool.not_eq_true'] at hdv
        refine ⟨π.1, n, rfl, hdv, fun T hT => ?_⟩
        have S2 := S1.grow (.new (o := .tup [.int (π.1 / n), .int (π.1 % n)]) hT) (p1.new hT)
        have hc : upd H1 T (.tup [.int (π.1 / n), .int (π.1 % n)]) c = some (.lst [.int π1.1, .int π1.2]) := p1.new hT c e
        refine ⟨T, _, rfl, .inl (.inl upd_same), rfl, .int (π.1 / n), [.int (π.1 % n)], rfl, .ref c, e1, c, _, 0, 0, rfl, rfl, hc, rfl, .int (π.1 % n), [], rfl, rfl, ?_⟩
        have S3 := (S2.potset e (π.1 / n) π1.2).put (r := .f) (i := j) (v := .int (π.1 % n)) (d := .int (π.1 % n)) (List.getElem?_eq_some_iff.mp hΓ2).1 (.int _)
        rw [set_same (show Γ[j]? = some Rm.f.md from hΓ2)] at S3
        exact h1 M _ _ S3 fun a ea => by
          rw [e] at ea
          cases ea
          exact upd_same
      · exact h1.elim
    | _ => exact h1.elim⟩
def eGoPot (m : Fd) (a : Ed) : Ed := fun ρ π => (a ρ π).bind fun x => match x.1 with
  | .lst [.int u, .int v] => (safe (m [.non] (u, v))).bind fun y => .ok (y.1, x.2)
  | _ => .stuck
theorem de_callPot {j : Nat} {x : Str} {st : Stmt} {ps : List Str} {m : Fd} (F : DFn X.prog X.w X.K X.mg X.base j x st ps [.p] .f m) (o : XOk X E k)
    (hb : ∀ (kV doc pm : Value) (an : Option Addr) (cdv ct : Value) (us : List Value), us.length = ps.length → bindArgs (PySem.W.fnOf x x (defArgs st) (defBody st) (defScope st) .none kV doc pm an cdv ct) ⟨us, []⟩ = pure (ps.zip us))
    (ha : DE X E .o Γ e te fe) (hj : j ≤ k := by decide) (hg : Gl X x := by rfl) (hdb : (x == ("__debug__" : Str)) = false := by decide) (he : starEach [e] X.env = (false, eval e X.env) :: starEach [] X.env := by rfl) (hpl : (backTo pos (starEach [] X.env)).any (·.1) = false := by rfl) :
    DE X E .f Γ (.Call (.Name x p) [e] [] pos) (tGo X.mg X.K [.p] .f m E (tCons te tNil)) (eGoPot m fe) :=
  ⟨⟨fun pins s σ H Q I h => by
    obtain ⟨f, fd, h1, h2, h3⟩ := F.ex
    refine wpAny_Call_Name_kw (ld_glob I hg h1 ?_ hdb)
    refine PySem.W.callWith_K (h₀ := X.base) I.ok.mod.kin h2.kp (thn ((pa_cons ha.pe pa_nil he).run pos pins s σ H _ I h) fun us s1 ⟨vs, H1, I1, rl, q⟩ => ⟨I1.kIn, ?_⟩) he hpl
    have hl : us.length = ps.length := by
      rw [← rl.length]
      exact h3.len _ _ _ _ q
    have bd : BindsTo s1 fd ⟨us, ([] : List Str).zip ([] : List Value)⟩ (ps.zip (us ++ [])) := by
      obtain ⟨oc, od, kV, doc, pm, an, cdv, ct, osl, rfl, lk, hcd⟩ := h2.ex
      rw [List.append_nil]
      exact .of_eq (hb kV doc pm an cdv ct us hl)
    exact run_go (args := ⟨us, []⟩) (kn := []) (ws := []) h3 o hj bd I1 (by rw [List.append_nil]; exact rl) q⟩, fun pot M σ H ρ π I p Q h => by
    refine ha.sem pot M σ H ρ π I p _ ?_
    unfold eGoPot at h
    cases ef : fe ρ π with
    | err c ns xs π1 =>
      rw [ef] at h
      exact h
    | stuck =>
      rw [ef] at h
      exact h
    | ok y =>
      obtain ⟨d, π1⟩ := y
      rw [ef] at h
      simp only [Res.bind_ok] at h
      split at h
      · rename_i u v
        intro w H1 g1 p1 r1
        obtain ⟨q, rfl, hq, nq, oo, hx, rx⟩ := r1
        cases rx with
        | lst rx =>
        rename_i xs
        have ex : xs = [.int u, .int v] := RpL.iz (ns := [u, v]) rx
        subst ex
        have I1 := I.grow g1 p1
        refine ⟨rfl, some q, q :: M, [.non], (u, v), .cons ⟨q, rfl, rfl⟩ .nil, fun a ha => ?_, fun a ea => ?_, fun a ea => ?_, ?_⟩
        · rcases List.mem_cons.mp ha with z | z
          · rw [z]
            exact .of hx fun _ e => by cases e
          · exact I1.al a z
        · cases ea
          exact List.mem_cons_self ..
        · cases ea
          exact hx
        · cases em : m [.non] (u, v) with
          | err c ns xs π' =>
            rw [em] at h
            exact h.elim
          | stuck =>
            rw [em] at h
            exact h.elim
          | ok z =>
            obtain ⟨z, π2⟩ := z
            rw [em] at h
            simp only [safe_ok, Res.bind_ok] at h
            intro b H2 g2 p2 r2
            have ne : ∀ a o, H a = some o → (some q : Option Addr) ≠ some a := fun a o ho e => by
              cases e
              rw [hq] at ho
              cases ho
            refine h b H2 (fun a o n ho => g2 a o (ne a o ho) (g1 a o n ho)) (fun a ea => ?_) (Rp.mono (less_sub fun a ha => List.mem_cons_of_mem _ ha) r2)
            exact g2 a _ (fun e => by cases e; exact nq ea) (p1 a ea)
      · exact h.elim⟩
end
end DL
set_option maxHeartbeats 2000000
namespace DL
open PySem PySem.Spec PyProof.Rows L2
theorem less_nil {H : Hp} : less H [] = H := funext fun a => by simp [less]
/-- the call of the law, from a promise that knows that no repr is running -/
theorem law_callG {P : Program} {w : World} {K : PySem.W.Frag} {mg mb : Str → Option Value} {k : Nat} {fa p : Addr} {fd : FuncData} {x : Str} {sp : Sp} {s0 : Shared} {us : List Value} {ns : List Int}
    (kin : K.In s0.heap) (nsm : s0.heap.Ns mainGlobals mg) (nsb : s0.heap.Ns builtinsNs mb) (bts : ∀ x : Str, x ≠ "__name__" → mb x = bootBuiltins x) (nolim : s0.heap.NoLimit) (gens : s0.gens = #[])
    (ob : s0.heap.get? p = some { cls := .type "list", data := .seq us.toArray }) (are : IntsAre us ns) (short : ns.length ≤ sizeLine) (room : Room k callerA)
    (F : ∀ base : Heap, K.In base → base.Ns mainGlobals mg → FnG P w K mg base k fa fd [x] sp) (bd : ∀ (s : Shared) (u : Value), BindsTo s fd ⟨[u], []⟩ [(x, u)])
    (goal : ∀ H : Hp, SqL K H p (ns.map V.int) → sp [.ref p] H (fun v _ => v = .bl true) fun _ _ _ => False) :
    codeAny (model P w) callerA (.call (.ref fa) ⟨[.ref p], []⟩) (fun r s' => r = .ok (.ret (.bool true)) ∧ PySem.OldK s0.heap s'.heap ∧ s'.os = s0.os ∧ AllBare s'.gens) s0 := by
  have rel := vals_ints are
  have llen := are.length
  have main : ∀ H : Hp, Only H → SqL K H p (ns.map V.int) → HOk P w H s0.heap → (∀ c, H c ≠ none → c = p) → (H p ≠ none → K.lookup p = none) →
      codeAny (model P w) callerA (.call (.ref fa) ⟨[.ref p], []⟩) (fun r s' => r = .ok (.ret (.bool true)) ∧ PySem.OldK s0.heap s'.heap ∧ s'.os = s0.os ∧ AllBare s'.gens) s0 := by
    intro H only seq okH at_p free_p
    have nop : ∀ {c : Addr}, c ≠ p → H c = none := fun {c} n => Classical.byContradiction fun z => n (at_p c z)
    have vis : ∀ {c : Addr} {o : Obj}, s0.heap.get? c = some o → H c = none → (hidT s0.heap H).get? c = some o := fun a b => hidT_get a b
    have dicts : ∀ {c : Addr} {o : Obj} {es : Array DictEntry} {ep : Nat}, s0.heap.get? c = some o → o.data = .dict es ep → H c = none := fun {c o es ep} e d => nop fun z => by
      rw [z, ob] at e
      cases e
      cases (show Data.seq us.toArray _ = Data.dict es ep from d)
    have names : ∀ {c : Addr} {m : Str → Option Value}, s0.heap.Ns c m → (hidT s0.heap H).Ns c m := fun {c m} h => by
      obtain ⟨o, es, ep, e, d, r⟩ := h
      exact ⟨o, es, ep, vis e (dicts e d), d, r⟩
    have kbase : K.In (hidT s0.heap H) := fun c o e => by
      refine vis (kin c o e) (Classical.byContradiction fun z => ?_)
      have ec := at_p c z
      rw [ec] at z e
      rw [free_p z] at e
      cases e
    have mo : Mod K mg (hidT s0.heap H) := ⟨kbase, names nsm, ⟨mb, names nsb, bts⟩, by obtain ⟨mc, h1, h2⟩ := nolim; exact ⟨mc, names h1, h2⟩⟩
    have env : Env0 P w K mg (hidT s0.heap H) callerA [] s0 H := ⟨rfl, mo, (fun c o e => of_hidT e), Nat.le_of_eq (hidT_size _ _), trivial, (fun c hc => by cases hc), okH, .of_eq gens⟩
    have run := (F _ kbase (names nsm)).run callerA [] s0 H ⟨[.ref p], []⟩ [.ref p] [.ref p] _ _ room rfl env (bd s0 (.ref p)) (.cons rfl .nil) (goal H seq)
    refine codeAny_mono run fun r s' h => ?_
    match r, h with
    | .error e, h =>
      obtain ⟨_, _, _, _, _, _, _, _, _, _, _, _, no⟩ := h
      exact no.elim
    | .ok .next, h => exact h.elim
    | .ok .brk, h => exact h.elim
    | .ok .cont, h => exact h.elim
    | .ok (.ret u), h =>
      obtain ⟨v, H', os, bare, un, okH', rv, q⟩ := h
      cases (show v = .bl true from q)
      cases (show u = Value.bool true from rv)
      refine ⟨rfl, OldK.of_keep fun c o e => ?_, os, bare⟩
      cases hc : H c with
      | none => exact un.keep c o e hc (by intro z; cases z) (by simp)
      | some u =>
        rcases only c with z | ⟨o', ys, z⟩
        · rw [hc] at z
          cases z
        · have w1 := (okH c _ z).1
          have w2 := (okH' c _ (un.frzs c o' _ z)).1
          rw [e] at w1
          cases w1
          exact w2
  by_cases hk : K.lookup p = none
  · have hat : ∀ c, c = p ∨ (fun c => if c = p then some (HO.frz { cls := .type "list", data := .seq us.toArray } (.lst (ns.map V.int))) else none : Hp) c = none := fun c => by
      by_cases z : c = p
      · exact .inl z
      · exact .inr (if_neg z)
    refine main (fun c => if c = p then some (.frz { cls := .type "list", data := .seq us.toArray } (.lst (ns.map V.int))) else none) (fun c => ?_) (.inl (.inr ⟨{ cls := .type "list", data := .seq us.toArray }, if_pos rfl⟩)) (fun c u z => ?_) (fun c z => (hat c).resolve_right z) fun _ => hk
    · rcases hat c with z | z
      · exact .inr ⟨_, _, if_pos z⟩
      · exact .inl z
    · rcases hat c with q | q
      · subst q
        have z' := (if_pos rfl).symm.trans z
        cases z'
        exact ⟨ob, by rw [List.length_map]; exact short, us, _, rel, ob⟩
      · rw [q] at z
        cases z
  · obtain ⟨o, ho⟩ := Option.ne_none_iff_exists'.mp hk
    have e := kin p o ho
    rw [ob] at e
    cases e
    have em : ∀ c, (fun _ => none : Hp) c = none := fun _ => rfl
    exact main (fun _ => none) (fun c => .inl rfl) (.inr ⟨_, us.toArray, _, ho, rfl, rfl, rfl, by rw [List.size_toArray, llen]; exact short, by simpa using rel⟩) (fun c u z => by rw [em c] at z; cases z) (fun c z => absurd (em c) z) fun z => absurd (em p) z
/-- THE END: what the head leaves, from what law gives of its data -/
theorem walk_D {l : PySem.W.OpenLaw} {n k : Nat} {q : Program} {loose : List Str} {XP : (Str → Option Value) → Heap → Prop} {YP : World → Heap → Prop} {d : DefRec} {K : Params → PySem.W.Frag} {x : Str} {m : Fd}
    (most : l.most = some n) (small : n ≤ sizeLine) (nodf : d.params.defaults = []) (room : Room k callerA) (hY : ∀ (w : World) (h : Heap), YP w h → (K w.params).In h)
    (good : ∀ ns : List Int, ns.length ≤ n → ∃ π, m [.lst (DL.iz ns)] (0, 0) = .ok (.bl true, π))
    (F : ∀ (w : World) (mg : Str → Option Value) (fa : Addr) (h : Heap), (K w.params).In h → h.Ns mainGlobals mg → mg d.name = some (.ref fa) →
      ∃ fd : FuncData, (∀ (s : Shared) (u : Value), BindsTo s fd ⟨[u], []⟩ [(x, u)]) ∧ ∀ base : Heap, (K w.params).In base → base.Ns mainGlobals mg → FnG l.prog w (K w.params) mg base k fa fd [x] (SpD mg (K w.params) [.s] .f m)) :
    PySem.W.WalkO q loose XP YP l.row.toRowW d [] (fun f vs => PySem.call f vs) := by
  refine Att.attach_call most nodf fun w s₀ s1 mg mb fa o pm cd doc a vs ns G Y ho hd hcd hmg hobj hints hlen hg => ?_
  have KX := hY w _ Y
  obtain ⟨fd, hb, hF⟩ := F w mg fa _ KX G.T.g hmg
  refine law_callG KX G.T.g G.T.b G.T.builtins G.T.nolimit hg hobj hints (Nat.le_trans hlen small) room hF hb fun H hS => ?_
  obtain ⟨π, hm⟩ := good ns hlen
  refine ⟨rfl, none, [], [.lst (DL.iz ns)], (0, 0), .cons ⟨a, ns, rfl, rfl, by rw [less_nil]; exact hS⟩ .nil, (fun a h => by cases h), (fun a e => by cases e), (fun a e => by cases e), ?_⟩
  rw [hm]
  exact fun v H' g p r => by
    cases r
    rfl
end DL
set_option maxHeartbeats 2000000
namespace DL
open PySem PySem.Spec PyProof.Rows L2
section
variable {X : Cx} {E : XK} {r r' ra rb rc : Rm} {Γl Γ Γ1 Γ' : List Md} {pos : Pos} {k : Nat} {e a b c : Expr} {te ta tb tc : TE} {fe fa fb fc : Ed} {st : Stmt} {sts body : List Stmt} {ts us : TS} {fs gs : Fs} {tt : TT} {ft : Et}
/-- y = [.. for ..] on one line -/
theorem ds_setLcR (i : Nat) {y : Str} {py : Pos} {w : Bool} {elt tg iter : Expr} {ifs : List Expr} {scope : Scope} {own : List (Str × Nat)} {spos : Pos} {wi : TI} {fi : Ei} {is : List Nat} {fg : D → Rho → Option Rho} {ft : Et} {fe : Ed} (hr : r' = .f ∨ r' = .o) (x : XOk X E k) (hi : DI w X E Γ tg iter wi fi) (ok : BlkOk X.N X.env.scope scope own)
    (hg : ∀ (s : Shared) (H : Hp) (C : Addr) (cl : List (Str × Addr)) (fp : List Addr), ∃ g, DG (X.blk s H scope (compEnvC scope cl C X.env) fp) Γ tg is g fg)
    (ht : ∀ (s : Shared) (H : Hp) (C : Addr) (cl : List (Str × Addr)) (fp : List Addr), ∃ tt, DTs (X.blk s H scope (compEnvC scope cl C X.env) fp) E0 Γ ifs tt ft)
    (he : ∀ (s : Shared) (H : Hp) (C : Addr) (cl : List (Str × Addr)) (fp : List Addr), ∃ te, DE (X.blk s H scope (compEnvC scope cl C X.env) fp) E0 .f Γ elt te fe)
    (hv : ∀ i ∈ is, i ∈ own.map (·.2) := by decide) (hΓ : ∀ i ∈ own.map (·.2), Γ[i]? = some .f := by decide) (hΓi : Γ[i]? = some r'.md := by rfl) (hN : X.N[i]? = some y := by rfl) (hyl : X.env.scope.names.lookup y = some .local := by rfl)
    (hsw : swapsWith (.ListComp elt [⟨tg, iter, ifs, 0⟩] scope pos) (some (.Name y py)) spos.line X.env = pure true := by rfl) (hs : ∀ x, foldedSetIterable iter X.env x = pure x := by intro _; rfl) :
    DS X E r Γl Γ Γ (.Assign [.Name y py] (.ListComp elt [⟨tg, iter, ifs, 0⟩] scope pos) spos) (tAsg (tLc wi (canG X.mg X.K Γ is fg) (canT X.mg X.K E0 Γ ft) (canE X.mg X.K E0 .f Γ fe) (own.map (·.2))) (gName i)) (sSet i (eLC fi fg ft fe (own.map (·.2)))) := by
  have de : DE X E .o Γ (.ListComp elt [⟨tg, iter, ifs, 0⟩] scope pos) _ _ := de_lc x hi ok hg ht he hv hΓ hs
  have hg' : ∀ (s : Shared) (H : Hp) (C : Addr) (cl : List (Str × Addr)) (fp : List Addr), DG (X.blk s H scope (compEnvC scope cl C X.env) fp) Γ tg is (canG X.mg X.K Γ is fg) fg := fun s H C cl fp => by
    obtain ⟨g, h⟩ := hg s H C cl fp
    exact h.can
  have ht' : ∀ (s : Shared) (H : Hp) (C : Addr) (cl : List (Str × Addr)) (fp : List Addr), DTs (X.blk s H scope (compEnvC scope cl C X.env) fp) E0 Γ ifs (canT X.mg X.K E0 Γ ft) ft := fun s H C cl fp => by
    obtain ⟨g, h⟩ := ht s H C cl fp
    exact h.can
  have he' : ∀ (s : Shared) (H : Hp) (C : Addr) (cl : List (Str × Addr)) (fp : List Addr), DE (X.blk s H scope (compEnvC scope cl C X.env) fp) E0 .f Γ elt (canE X.mg X.K E0 .f Γ fe) fe := fun s H C cl fp => by
    obtain ⟨g, h⟩ := he s H C cl fp
    exact h.can
  refine ⟨ps_setLc x.calm x.nd hN hyl hsw hi.pi ok (fun s H C cl fp => (hg' s H C cl fp).pg) (fun s H C cl fp => (ht' s H C cl fp).pts) (fun s H C cl fp => (he' s H C cl fp).pe) hs, ?_⟩
  rcases hr with rfl | rfl
  · exact sem_set hΓi de.toF.sem
  · exact sem_set hΓi de.sem
/-- a slot is let go -/
theorem SOk.drop {mg : Str → Option Value} {K : PySem.W.Frag} {pot : Option Addr} {M M0 : List Addr} {H H0 B : Hp} {σ : L2.St} {ρ : Rho} (S : SOk mg K Γ pot M0 H0 B M σ H ρ) (i : Nat) : SOk mg K (Γ.set i .u) pot M0 H0 B M σ H ρ := by
  have I := S.env
  have old : ∀ (j : Nat) (m : Md), m ≠ .u → (Γ.set i .u)[j]? = some m → Γ[j]? = some m := fun j m hm h => by
    rcases set_at h with ⟨_, z, _⟩ | ⟨_, z⟩
    · exact absurd z hm
    · exact z
  exact ⟨⟨by simp [I.ls], by simp [I.lr], (fun j d h1 h2 => I.f j d (old j _ (by simp) h1) h2), (fun j d h1 h2 => I.o j d (old j _ (by simp) h1) h2), (fun j h1 => I.p j (old j _ (by simp) h1)), (fun j d h1 h2 => I.s j d (old j _ (by simp) h1) h2),
    (fun j l a d e h1 h2 h3 h4 h5 h6 => I.ap j l a d e (old j _ (by simp) h1) (old l _ (by simp) h2) h3 h4 h5 h6), I.al, I.pm⟩, S.gr, S.sub, (fun j d a h1 h2 h3 => S.ow j d a (old j _ (by simp) h1) h2 h3), S.m0, S.bs⟩
/-- ints of any size, or a list so many times -/
def opMulA : D → D → Option D
  | .int i, .int j => if small i || small j || decide (i.natAbs.log2 + j.natAbs.log2 < 1000000) then some (.int (i * j)) else none
  | _, _ => none
def rMulA : R2 := fun x y H Q => rI CMul (fun i j => .int (i * j)) x y H Q ∨ rI CMulW (fun i j => .int (i * j)) x y H Q
theorem o_mulA : OpOk X (binaryOp .Mult) rMulA .f opMulA := ⟨op_mul.or op_mulW, fun pot M H x y d e z al pm ph rx ry hz Q q => by
  cases d <;> cases e <;> simp only [opMulA] at hz <;> try cases hz
  rename_i i j
  split at hz
  · rename_i hc
    cases hz
    rcases Bool.or_eq_true_iff.mp hc with h | h
    · refine .inl ⟨i, j, rb_int rx, rb_int ry, ?_, q _ H (Same.refl H) (.int _)⟩
      simp only [small, Bool.or_eq_true, decide_eq_true_eq] at h
      unfold CMul
      omega
    · exact .inr ⟨i, j, rb_int rx, rb_int ry, (decide_eq_true_iff.mp h : _ < _), q _ H (Same.refl H) (.int _)⟩
  · cases hz⟩
/-- a comprehension's names, decided -/
def blkB (N : List Str) (sc scope : Scope) (own : List (Str × Nat)) : Bool :=
  (match scope.kind with | .function => true | _ => false) && scope.names.all (fun y => scope.names.lookup y.1 == some y.2) && own.all (fun p => N[p.2]? == some p.1) &&
  scope.names.all (fun y => !(y.2 == .free) || (sc.names.lookup y.1 == some .cell || sc.names.lookup y.1 == some .free)) && scope.names.all (fun y => !(y.2 == .local || y.2 == .cell) || (own.any (fun p => p.1 == y.1) || !N.contains y.1))
theorem blk_of {N : List Str} {sc scope : Scope} {own : List (Str × Nat)} (h : blkB N sc scope own = true) : BlkOk N sc scope own := by
  unfold blkB at h
  simp only [Bool.and_eq_true, List.all_eq_true] at h
  obtain ⟨⟨⟨⟨h1, h2⟩, h3⟩, h4⟩, h5⟩ := h
  refine ⟨?_, fun y hy => ?_, fun p hp => ?_, fun y hy e => ?_, fun y hy e => ?_⟩
  · split at h1
    · assumption
    · cases h1
  · simpa using h2 y hy
  · simpa using h3 p hp
  · have := h4 y hy
    rw [e] at this
    simpa using this
  · have := h5 y hy
    rcases e with e | e <;> rw [e] at this <;> simp at this <;> (rcases this with ⟨n, q⟩ | q) <;> simp_all
    all_goals exact .inl ⟨_, q⟩
/-- the law's own promise, for the end -/
theorem law_end {P : Program} {w : World} {K : PySem.W.Frag} {mg : Str → Option Value} {fa : Addr} {x : Str} {st : Stmt} {ps : List Str} {ks : List Ak} {r : Rm} {m : Fd} {k : Nat} {T : Prop} (hfa : mg x = some (.ref fa)) (t : T) (hf : T → ∃ f fd, mg x = some (.ref f) ∧ Fun K x x st f fd)
    (F : T → ∀ base : Heap, DFn P w K mg base k x st ps ks r m) {y : Str} (hp : ps = [y])
    (hb : ∀ (kV doc pm : Value) (an : Option Addr) (cdv ct : Value) (s : Shared) (u : Value), BindsTo s (PySem.W.fnOf x x (defArgs st) (defBody st) (defScope st) .none kV doc pm an cdv ct) ⟨[u], []⟩ [(y, u)]) :
    ∃ fd : FuncData, (∀ (s : Shared) (u : Value), BindsTo s fd ⟨[u], []⟩ [(y, u)]) ∧ ∀ base : Heap, K.In base → base.Ns mainGlobals mg → FnG P w K mg base k fa fd [y] (SpD mg K ks r m) := by
  obtain ⟨f, fd, h1, h2⟩ := hf t
  rw [hfa] at h1
  cases h1
  refine ⟨fd, fun s u => ?_, fun base _ _ => ?_⟩
  · obtain ⟨oc, od, kV, doc, pm, an, cdv, ct, osl, rfl, lk, hcd⟩ := h2.ex
    exact hb kV doc pm an cdv ct s u
  · obtain ⟨f', fd', g1, g2, g3⟩ := (F t base).ex
    rw [hfa] at g1
    cases g1
    obtain ⟨oc, od, kV, doc, pm, an, cdv, ct, osl, rfl, lk, hcd⟩ := h2.ex
    obtain ⟨oc', od', kV', doc', pm', an', cdv', ct', osl', rfl, lk', hcd'⟩ := g2.ex
    rw [lk] at lk'
    cases lk'
    rw [← hp]
    exact g3
end
end DL
set_option maxHeartbeats 2000000
namespace DL
open PySem PySem.Spec PyProof.Rows L2
def ItZ (K : PySem.W.Frag) (S1 S2 : Src) : It :=
  ⟨fun i H => ∃ (xs ys : List V) (x y : V), S1.sq K H xs ∧ S2.sq K H ys ∧ xs[i]? = some x ∧ ys[i]? = some y,
    fun i H v H' => ∃ T x y, v = .ref T ∧ H T = none ∧ H' = upd H T (.tup [x, y]) ∧ (∀ xs, S1.sq K H xs → xs[i]? = some x) ∧ ∀ ys, S2.sq K H ys → ys[i]? = some y,
    fun i H => ∃ xs ys : List V, S1.sq K H xs ∧ S2.sq K H ys ∧ min xs.length ys.length = i⟩
theorem turn_zipS {P : Program} {w : World} {K : PySem.W.Frag} {elts : List Expr} {kk : Nat} {tpos : Pos} {z TI TO i1 i2 : Addr} (S1 S2 : Src) (D : ZipSep2 z TI TO i1 i2 [i1, S1.a] [i2, S2.a]) (n1 : S1.a ≠ i1) (n2 : S2.a ≠ i2) :
    Turn P w K (.Tuple elts kk tpos) (ItZ K S1 S2) [z, TI, TO, i1, i2] z (fun i h => IsZip h z TI TO .none ∧ IsTupOf2 h TI (.ref i1) (.ref i2) ∧ (∃ x y, IsTupOf2 h TO x y) ∧ S1.it h i1 i ∧ S2.it h i2 i) where
  mem := by simp
  obj := fun i h st c hc => by
    obtain ⟨hz, hTI, ⟨x, y, hTO⟩, h1, h2⟩ := st
    have e' : c = z ∨ c = TI ∨ c = TO ∨ c = i1 ∨ c = i2 := by simpa using hc
    rcases e' with q | q | q | q | q
    · rw [q]
      exact ⟨_, hz, fun v q => nomatch q⟩
    · rw [q]
      exact ⟨_, hTI, fun v q => nomatch q⟩
    · rw [q]
      exact ⟨_, hTO, fun v q => nomatch q⟩
    · rw [q]
      exact Src.it_obj h1
    · rw [q]
      exact Src.it_obj h2
  keep := fun i h h' st k => by
    obtain ⟨hz, hTI, ⟨x, y, hTO⟩, h1, h2⟩ := st
    exact ⟨k z (by simp) _ hz, k TI (by simp) _ hTI, ⟨x, y, k TO (by simp) _ hTO⟩, Src.it_at h1 fun o q => k i1 (by simp) o q, Src.it_at h2 fun o q => k i2 (by simp) o q⟩
  item := by
    intro X hP hw hK hc i pins s σ H E I hf st hg
    subst hP hw hK
    obtain ⟨hz, hTI, hTO, h1, h2⟩ := st
    obtain ⟨xs, ys, x, y, hqx, hqy, hx, hy⟩ := hg
    obtain ⟨its, rv, p⟩ := Src.lay I hqx
    obtain ⟨its2, rv2, p2⟩ := Src.lay I hqy
    obtain ⟨u, hu, ru⟩ := rv.get hx
    obtain ⟨u2, hu2, ru2⟩ := rv2.get hy
    have l1 : i < its.toArray.size := by simpa using (List.getElem?_eq_some_iff.mp hu).1
    have l2 : i < its2.toArray.size := by simpa using (List.getElem?_eq_some_iff.mp hu2).1
    have hz' := hz
    have lt_of : ∀ c, c ∈ [z, TI, TO, i1, i2] → c < s.heap.objs.size := fun c hc => by
      have e' : c = z ∨ c = TI ∨ c = TO ∨ c = i1 ∨ c = i2 := by simpa using hc
      rcases e' with q | q | q | q | q
      · rw [q]
        exact Heap.lt_size hz
      · rw [q]
        exact Heap.lt_size hTI
      · rw [q]
        obtain ⟨_, _, e⟩ := hTO
        exact Heap.lt_size e
      · rw [q]
        obtain ⟨_, e, _⟩ := Src.it_obj h1
        exact Heap.lt_size e
      · rw [q]
        obtain ⟨_, e, _⟩ := Src.it_obj h2
        exact Heap.lt_size e
    have G : GoesN X.prog X.w X.A (.Tuple elts kk tpos) z (z :: TI :: TO :: ([i1, S1.a] ++ [i2, S2.a])) [z, TO, i1, i2] (min its.toArray.size its2.toArray.size) _ _ :=
      GoesN.zip2 (elts := elts) (x1 := kk) (pos := tpos) D (Src.draws (S := S1) (A := X.A.in1) (I.ok.hd hc) i1 n1 its.toArray) (Src.draws (S := S2) (A := X.A.in1) (I.ok.hd hc) i2 n2 its2.toArray)
    refine thn (G.goes i s (fun v s2 => _) E (Nat.lt_min.mpr ⟨l1, l2⟩) ⟨hz, hTI, hTO, ⟨h1, p⟩, ⟨h2, p2⟩⟩ fun v h' tk hY st' hk _ => ?_) fun r s1 z => z
    obtain ⟨T, a, b, rfl, hT, ha, hb, hTup⟩ := hY
    obtain ⟨hz2, hTI2, hTO2, ⟨h1', _⟩, ⟨h2', _⟩⟩ := st'
    have ea : a = u := by
      have : its.toArray[i]? = some u := by simpa using hu
      exact Option.some.inj (ha.symm.trans this)
    have eb : b = u2 := by
      have : its2.toArray[i]? = some u2 := by simpa using hu2
      exact Option.some.inj (hb.symm.trans this)
    subst ea eb
    have new : ObjOk X.prog X.w (upd H T (.tup [x, y])) h' T (.tup [x, y]) := by
      refine ⟨by show 2 ≤ sizeLine; decide, [a, b], .cons ru (.cons ru2 .nil), hTup⟩
    have sub : ∀ c, c ∈ [z, TO, i1, i2] → c ∈ [z, TI, TO, i1, i2] := fun c hc => by
      simp only [List.mem_cons, List.not_mem_nil, or_false] at hc ⊢
      rcases hc with e | e | e | e <;> simp [e]
    have I1 : Inv X pins σ (upd H T (.tup [x, y])) { s with heap := h', toks := tk } := I.turnedNew (ch := [z, TO, i1, i2]) hk (fun c hc => hf c (sub c hc)) hT new
    refine ⟨.ref T, _, I1, rfl, ⟨T, x, y, rfl, I.hok.fresh hT, rfl, fun l hl => by rw [Src.inj I hl hqx]; exact hx, fun l hl => by rw [Src.inj I hl hqy]; exact hy⟩, ⟨hz2, hTI2, hTO2, h1', h2'⟩, fun c hc => ?_⟩
    rw [upd_ne (Nat.ne_of_lt (Nat.lt_of_lt_of_le (lt_of c hc) hT))]
    exact (hf c hc).1
  done := by
    intro X hP hw hK hc i pins s σ H E I hf st hg
    subst hP hw hK
    obtain ⟨hz, hTI, hTO, h1, h2⟩ := st
    obtain ⟨xs, ys, hqx, hqy, hend⟩ := hg
    obtain ⟨its, rv, p⟩ := Src.lay I hqx
    obtain ⟨its2, rv2, p2⟩ := Src.lay I hqy
    have e1 := rv.length
    have e2 := rv2.length
    have hi : i = min its.toArray.size its2.toArray.size := by simp; omega
    have G : GoesN X.prog X.w X.A (.Tuple elts kk tpos) z (z :: TI :: TO :: ([i1, S1.a] ++ [i2, S2.a])) [z, TO, i1, i2] (min its.toArray.size its2.toArray.size) _ _ :=
      GoesN.zip2 (elts := elts) (x1 := kk) (pos := tpos) D (Src.draws (S := S1) (A := X.A.in1) (I.ok.hd hc) i1 n1 its.toArray) (Src.draws (S := S2) (A := X.A.in1) (I.ok.hd hc) i2 n2 its2.toArray)
    have sub : ∀ c, c ∈ [z, TO, i1, i2] → c ∈ [z, TI, TO, i1, i2] := fun c hc => by
      simp only [List.mem_cons, List.not_mem_nil, or_false] at hc ⊢
      rcases hc with e | e | e | e <;> simp [e]
    subst hi
    exact G.stops s (fun s1 => Inv X pins σ H s1) E ⟨hz, hTI, hTO, ⟨h1, p⟩, ⟨h2, p2⟩⟩ fun h' tk hk _ => I.turnedL (ch := [z, TO, i1, i2]) hk fun c hc => hf c (sub c hc)
  self := fun A i s Q E st h => wpAny_pyIter_zip st.1 h
def iZipS (K : PySem.W.Frag) (ta : TA) : TI := fun σ H R => ta σ H fun vs H1 => ∃ S1 S2 : Src, vs = [.ref S1.a, .ref S2.a] ∧ (∃ xs, S1.sq K H1 xs) ∧ (∃ ys, S2.sq K H1 ys) ∧ R (ItZ K S1 S2) H1
theorem pi_zipS {X : Cx} {e e2 : Expr} {ta : TA} {p pos tpos : Pos} {elts : List Expr} {kk : Nat} (hg : Gl X "zip") (hm : X.mg "zip" = none) (ha : PA X [e, e2] ta)
    (hs : starEach [e, e2] X.env = (false, eval e X.env) :: starEach [e2] X.env := by rfl) (hpl : (backTo pos (starEach [e2] X.env)).any (·.1) = false := by rfl) :
    PI X (.Tuple elts kk tpos) (.Call (.Name "zip" p) [e, e2] [] pos) (iZipS X.K ta) := by
  refine ⟨fun pins s σ H R I h => ?_⟩
  refine Call_ (ld_blt I hg hm PyProof.Rows.boot_zip (PyProof.Rows.callWith_type1 (thn (ha.run pos pins s σ H _ I h) fun us s1 ⟨vs, H1, I1, r1, q1⟩ => ?_) hs hpl))
  obtain ⟨S1, S2, ex, ⟨xs, hqx⟩, ⟨ys, hqy⟩, q⟩ := q1
  subst ex
  cases r1 with
  | cons r rr =>
    cases rr with
    | cons r' rr =>
      cases rr
      cases r
      cases r'
      obtain ⟨its, rv, p1⟩ := Src.lay I1 hqx
      obtain ⟨its2, rv2, p2⟩ := Src.lay I1 hqy
      have la := Src.is_lt p1
      have lb := Src.is_lt p2
      refine zip_begins2 (Src.begins (S := S1) its.toArray) (Src.begins (S := S2) its2.toArray) p1 p2 fun h' hz hTI hTO h1 h2 hsz hk => wpAny_pyIter_zip hz ?_
      have I2 : Inv X pins σ H1 { s1 with heap := h' } := I1.kept (t' := s1.toks) hk
      have sep := zip_sep2 (N := s1.heap.objs.size) (fp1 := [S1.a]) (fp2 := [S2.a]) (fun b hb => by rw [List.mem_singleton.mp hb]; exact la) (fun b hb => by rw [List.mem_singleton.mp hb]; exact lb)
      refine ⟨s1.heap.objs.size + 4, [s1.heap.objs.size + 4, s1.heap.objs.size + 2, s1.heap.objs.size + 3, s1.heap.objs.size, s1.heap.objs.size + 1], _, _, H1, rfl, I2, turn_zipS S1 S2 sep (Nat.ne_of_lt la) (Nat.ne_of_lt (Nat.lt_succ_of_lt lb)), ⟨hz, hTI, ⟨_, _, hTO⟩, Src.it0 h1, Src.it0 h2⟩, fun c hcm => ?_, q⟩
      have e' : c = s1.heap.objs.size + 4 ∨ c = s1.heap.objs.size + 2 ∨ c = s1.heap.objs.size + 3 ∨ c = s1.heap.objs.size ∨ c = s1.heap.objs.size + 1 := by simpa using hcm
      have hle : s1.heap.objs.size ≤ c := by
        rcases e' with z | z | z | z | z <;> rw [z] <;> first | exact Nat.le_refl _ | exact Nat.le_add_right _ _
      exact I1.fpOk hle (I1.hok.fresh hle)
theorem walk_zipS {K : PySem.W.Frag} {S1 S2 : Src} {xs ys : List V} : Walk (ItZ K S1 S2) (min xs.length ys.length) (fun H => S1.sq K H xs ∧ S2.sq K H ys) (YPair (fun i => xs[i]?) (fun i => ys[i]?)) where
  goes := fun i H hi q => ⟨xs, ys, xs[i]'(by omega), ys[i]'(by omega), q.1, q.2, by simp, by simp⟩
  stops := fun H q => ⟨xs, ys, q.1, q.2, rfl⟩
  yields := fun i H x H' hi q y => by
    obtain ⟨T, a, b, e1, e2, e3, e4, e5⟩ := y
    exact ⟨T, a, b, e1, e2, e3, e4 xs q.1, e5 ys q.2⟩
end DL
set_option maxHeartbeats 2000000
namespace DL
open PySem PySem.Spec PyProof.Rows L2
def zipD : List D → List D → List D
  | d :: ds, e :: es => .tup [d, e] :: zipD ds es
  | _, _ => []
theorem zipD_get : ∀ {ds es : List D} {i : Nat} {d e : D}, ds[i]? = some d → es[i]? = some e → (zipD ds es)[i]? = some (.tup [d, e])
  | d :: ds, e :: es, 0, a, b, h1, h2 => by
    simp at h1 h2
    subst h1 h2
    rfl
  | d :: ds, e :: es, i + 1, a, b, h1, h2 => by
    have := zipD_get (ds := ds) (es := es) (i := i) (by simpa using h1) (by simpa using h2)
    simpa [zipD] using this
  | [], _, i, a, b, h1, h2 => by simp at h1
  | _ :: _, [], i, a, b, h1, h2 => by simp at h2
theorem zipD_len : ∀ (ds es : List D), (zipD ds es).length = min ds.length es.length
  | d :: ds, e :: es => by
    simp only [zipD, List.length_cons, zipD_len ds es]
    omega
  | [], es => by simp [zipD]
  | _ :: _, [] => by simp [zipD]
def iZipD (a : Ea) : Ei := fun ρ π => (a ρ π).bind fun x => match x.1 with
  | [d, e] => (ofO (seqOf d)).bind fun z => (ofO (seqOf e)).bind fun y => .ok (zipD z y, x.2)
  | _ => .stuck
section
variable {mg : Str → Option Value} {K : PySem.W.Frag} {pot : Option Addr} {M : List Addr} {H H1 H' : Hp} {ds es : List D}
theorem walkZ {w : Bool} {S1 S2 : Src} {xs ys : List V} (r1 : RpL mg K (less H1 M) xs ds) (r2 : RpL mg K (less H1 M) ys es) (st1 : ∀ H' M', (w = true → Grow pot H1 H') → Same (less H1 M) (less H' M') → S1.sq K H' xs) (st2 : ∀ H' M', (w = true → Grow pot H1 H') → Same (less H1 M) (less H' M') → S2.sq K H' ys) :
    WalkD mg K w pot M H1 (ItZ K S1 S2) (zipD ds es) (fun H => S1.sq K H xs ∧ S2.sq K H ys) (YPair (fun i => xs[i]?) (fun i => ys[i]?)) where
  walk := by
    rw [zipD_len, ← r1.length, ← r2.length]
    exact walk_zipS
  stay := fun H' M' g s => ⟨st1 H' M' g s, st2 H' M' g s⟩
  item := fun i H x H' M' _ s al hi y => by
    obtain ⟨T, a, b, rfl, hT, rfl, e1, e2⟩ := y
    obtain ⟨d, e3, q⟩ := r1.getV e1
    obtain ⟨e, e4, q2⟩ := r2.getV e2
    exact ⟨same_upd hT, .tup [d, e], zipD_get e3 e4, new_tup al hT (.cons (q.mono s) (.cons (q2.mono s) .nil))⟩
end
section
variable {X : Cx} {E : XK} {Γ : List Md} {pos p tpos : Pos} {k kk : Nat} {r : Rm} {e e2 e3 tg : Expr} {te : TE} {fe : Ed} {es elts : List Expr} {tA : TA} {fA : Ea} {ks : List Ak}
theorem di_zip (hm : X.mg "zip" = none) (ha : DA X E [.f, .f] Γ [e, e2] tA fA) (hg : Gl X "zip" := by rfl) (hs : starEach [e, e2] X.env = (false, eval e X.env) :: starEach [e2] X.env := by rfl) (hpl : (backTo pos (starEach [e2] X.env)).any (·.1) = false := by rfl) :
    DI false X E Γ (.Tuple elts kk tpos) (.Call (.Name "zip" p) [e, e2] [] pos) (iZipS X.K tA) (iZipD fA) :=
  ⟨pi_zipS hg hm ha.pa hs hpl, fun pot M σ H ρ π I p R h => by
    refine PostI.seqA (ks := [.f, .f]) (te := tA σ H) h (fun Q' hq => ha.sem pot M σ H ρ π I p Q' hq) fun ds π1 vs H1 _ g1 p1 r1 h1 => ?_
    obtain ⟨v, d, v2, d2, rfl, rfl, a, b⟩ := args2 r1
    simp only at h1
    cases e1 : seqOf d with
    | none =>
      rw [e1] at h1
      exact h1.elim
    | some zs =>
      cases e2 : seqOf d2 with
      | none =>
        rw [e1, e2] at h1
        exact h1.elim
      | some ys =>
        rw [e1, e2] at h1
        obtain ⟨S1, xs, rfl, q1, q2⟩ := seq_src (show Rp X.mg X.K (less H1 M) v d from a) e1
        obtain ⟨S2, us, rfl, q3, q4⟩ := seq_src (show Rp X.mg X.K (less H1 M) v2 d2 from b) e2
        exact ⟨S1, S2, rfl, ⟨xs, sq_mono less_le q1⟩, ⟨us, sq_mono less_le q3⟩, h1 _ H1 _ _ .refl p1 (walkZ q2 q4 (fun H' M' _ s => sq_mono less_le (sq_mono s q1)) (fun H' M' _ s => sq_mono less_le (sq_mono s q3)))⟩⟩
/-- range(i, j, -1) -/
theorem walkRc {mg : Str → Option Value} {K : PySem.W.Frag} {pot : Option Addr} {M : List Addr} {H1 : Hp} {lo c : Int} {n : Nat} : WalkD mg K false pot M H1 (Itc lo c n) (rangeD lo c n) (fun _ => True) (fun i H x H' => H' = H ∧ x = .int (lo + (i : Nat) * c)) where
  walk := by
    have e : (rangeD lo c n).length = n := by simp [rangeD]
    rw [e]
    exact ⟨fun i H hi _ => hi, fun H _ => Nat.le_refl _, fun i H x H' hi _ y => y⟩
  stay := fun _ _ _ _ => trivial
  item := fun i H x H' M' _ s al hi y => by
    obtain ⟨rfl, rfl⟩ := y
    have e : i < n := by simpa [rangeD] using hi
    exact ⟨Same.refl _, .int (lo + (i : Int) * c), by simp [rangeD, e], .int _⟩
theorem di_rangeDn (hm : X.mg "range" = none) (ha : DA X E [.f, .f, .f] Γ [e, e2, e3] tA fA) (hg : Gl X "range" := by rfl) (hs : starEach [e, e2, e3] X.env = (false, eval e X.env) :: starEach [e2, e3] X.env := by rfl) (hpl : (backTo pos (starEach [e2, e3] X.env)).any (·.1) = false := by rfl) :
    DI false X E Γ tg (.Call (.Name "range" p) [e, e2, e3] [] pos) (iRng3 tA) (iRngDown fA) :=
  ⟨pi_range3 hg hm ha.pa hs hpl, fun pot M σ H ρ π I p R h => by
    refine PostI.seqA (ks := [.f, .f, .f]) (te := tA σ H) h (fun Q' hq => ha.sem pot M σ H ρ π I p Q' hq) fun ds π1 vs H1 _ g1 p1 r1 h1 => ?_
    obtain ⟨v, d, v2, d2, v3, d3, rfl, rfl, a, b, c⟩ := args3 r1
    unfold rngDown at h1
    simp only at h1
    split at h1
    · rename_i i j l e
      cases e
      split at h1
      · rename_i hj
        simp only [Bool.and_eq_true, decide_eq_true_eq] at hj
        obtain ⟨⟨q0, q9⟩, rfl⟩ := hj
        obtain ⟨q1, q2⟩ := mid_of q0
        obtain ⟨q3, q4⟩ := mid_of q9
        refine ⟨i, j, -1, (i - j).toNat, ?_, RgC.neg q1 q2 q3 q4, h1 _ H1 _ _ .refl p1 walkRc⟩
        rw [rb_int (.inl a : Rb X.mg X.K pot M H1 v (.int i)), rb_int (.inl b : Rb X.mg X.K pot M H1 v2 (.int j)), rb_int (.inl c : Rb X.mg X.K pot M H1 v3 (.int (-1)))]
      · exact h1.elim
    · exact h1.elim⟩
/-- a function of another module, called -/
theorem de_callG {id : String} {x : Str} {rc : List V → Hp → VK → Prop} {rz : Rm} {g : List D → Option D} (o : CallOk X (.builtin id) rc ks rz g) (hm : X.mg x = some (.builtin id)) (hA : DA X E ks Γ (e :: es) tA fA) (hg : Gl X x := by rfl) (hdb : (x == ("__debug__" : Str)) = false := by decide)
    (he : starEach (e :: es) X.env = (false, eval e X.env) :: starEach es X.env := by rfl) (hpl : (backTo pos (starEach es X.env)).any (·.1) = false := by rfl) :
    DE X E rz Γ (.Call (.Name x p) (e :: es) [] pos) (tCB rc tA) (eApp g fA) := ⟨pe_callBfun o.1 hg hm hA.pa hdb he hpl, sem_app o.2 hA.sem⟩
end
end DL
set_option maxHeartbeats 2000000
namespace DL
open PySem PySem.Spec PyProof.Rows L2
def fldD (c f : Str) : D → Option D
  | .ins c' ns xs => if c' = c then (ns.zip xs).lookup f else none
  | _ => none
/-- a class of the text whose instances have these attributes -/
def ClsF (K : PySem.W.Frag) (mg : Str → Option Value) (c : Str) (fs : List Str) : Prop := ∃ C, mg c = some (.ref C) ∧ Cls K C ∧ ∀ f ∈ fs, NoAttr K C f
section
variable {mg : Str → Option Value} {K : PySem.W.Frag} {pot : Option Addr} {M : List Addr} {H H' : Hp} {v x : V} {d : D}
theorem rb_ins {c : Str} {ns : List Str} {ds : List D} (h : Rb mg K pot M H x (.ins c ns ds)) : ∃ a C dx fs, x = .ref a ∧ mg c = some (.ref C) ∧ H a = some (.ins C dx fs) ∧ ns = fs.map (·.1) ∧ RpL mg K (less H M) (fs.map (·.2)) ds := by
  rcases h with h | ⟨p, e1, _, o, h1, h2⟩
  · cases h with
    | ins m h1 h2 => exact ⟨_, _, _, _, rfl, m, less_le _ _ h1, rfl, h2⟩
  · cases h2 with
    | ins m h2 => exact ⟨p, _, _, _, e1, m, h1, rfl, h2.mono (less_sub fun a q => List.mem_cons_of_mem _ q)⟩
theorem look_r {f : Str} {z : D} : ∀ {fs : List (Str × V)} {ds : List D}, RpL mg K H (fs.map (·.2)) ds → ((fs.map (·.1)).zip ds).lookup f = some z → ∃ v, fs.lookup f = some v ∧ Rp mg K H v z
  | [], _, _, e => by simp at e
  | p :: fs, _, .cons h r, e => by
    obtain ⟨g, v⟩ := p
    simp only [List.map_cons, List.zip_cons_cons, List.lookup_cons] at e ⊢
    split at e
    · rename_i hg
      cases e
      exact ⟨v, rfl, h⟩
    · exact look_r r e
end
section
variable {X : Cx} {E : XK} {Γ Γ1 Γ' : List Md} {r ra rb rc : Rm} {e a b : Expr} {ta tb te : TE} {fa fb fe : Ed} {pos p p2 apos : Pos} {k kk : Nat} {es : List Expr} {ks : List Ak} {tA : TA} {fA : Ea}
/-- e.f -/
theorem de_fld (c : Str) (fs : List Str) {f : Str} (h : ClsF X.K X.mg c fs) (ha : DE X E r Γ a ta fa) (hf : f ∈ fs := by decide) (hb : attributeBase a f X.env (eval a X.env) = eval a X.env := by rfl) : DE X E .f Γ (.Attribute a f pos) (tFld X.K ta f) (eUn (fldD c f) fa) :=
  ⟨pe_fld ha.pe hb, fun pot M σ H ρ π I p Q q => by
    refine Post.seq (r' := r) (te := ta σ H) q p (fun Q' hq => ha.sem pot M σ H ρ π I p Q' hq) fun d π1 v H1 _ g1 p1 r1 h1 => ?_
    cases hz : fldD c f d with
    | none =>
      simp only [hz, ofO_none, Res.bind_stuck] at h1
      exact h1.elim
    | some z =>
      simp only [hz, ofO_some, Res.bind_ok] at h1
      cases d with
      | ins c' ns xs =>
        simp only [fldD] at hz
        split at hz
        · rename_i hc
          subst hc
          obtain ⟨y, C, dx, gs, rfl, m, hy, rfl, rr⟩ := rb_ins r1.toB
          obtain ⟨C', m', cl, no⟩ := h
          rw [m] at m'
          cases m'
          obtain ⟨u, e1, e2⟩ := look_r rr hz
          exact ⟨y, C, dx, gs, u, rfl, hy, cl, no f hf, e1, h1 _ H1 .refl p1 e2⟩
        · cases hz
      | _ => cases hz⟩
def putN (f : Str) (z : D) : List Str → List D → List Str × List D
  | g :: ns, x :: xs => if g = f then (g :: ns, z :: xs) else (g :: (putN f z ns xs).1, x :: (putN f z ns xs).2)
  | _, _ => ([f], [z])
theorem putN_r {mg : Str → Option Value} {K : PySem.W.Frag} {H : Hp} {f : Str} {v : V} {z : D} (h : Rp mg K H v z) : ∀ {fs : List (Str × V)} {ds : List D}, RpL mg K H (fs.map (·.2)) ds → (putF f v fs).map (·.1) = (putN f z (fs.map (·.1)) ds).1 ∧ RpL mg K H ((putF f v fs).map (·.2)) (putN f z (fs.map (·.1)) ds).2
  | [], _, .nil => ⟨rfl, .cons h .nil⟩
  | (g, x) :: fs, _, .cons h1 r => by
    obtain ⟨i1, i2⟩ := putN_r h r
    rw [show putF f v ((g, x) :: fs) = (if g = f then (g, v) :: fs else (g, x) :: putF f v fs) from rfl]
    simp only [List.map_cons, putN]
    by_cases e : g = f
    · rw [if_pos e, if_pos e]
      exact ⟨rfl, .cons h r⟩
    · rw [if_neg e, if_neg e]
      exact ⟨by rw [List.map_cons, i1], .cons h1 i2⟩
abbrev Fi := D → Rho → Pot → Res ((D × Rho) × Pot)
def SemIn (mg : Str → Option Value) (K : PySem.W.Frag) (E : XK) (Γ : List Md) (ts : TS) (fi : Fi) : Prop :=
  ∀ pot M0 H0 B M σ H ρ π x d D, SOk mg K Γ pot M0 H0 B M σ H ρ → σ[0]? = some (some (.ref x)) → Held mg K .o Γ pot H0 M σ H ρ (.ref x) d → PotAt pot H π →
    (match fi d ρ π with
      | .ok ((d', ρ'), π') => ∀ M' σ' H', SOk mg K Γ pot M0 H0 B M' σ' H' ρ' → σ'[0]? = some (some (.ref x)) → Held mg K .o Γ pot H0 M' σ' H' ρ' (.ref x) d' → PotAt pot H' π' → D.nx σ' H'
      | .err c ns xs π' => PErr mg K pot M0 H0 c ns xs π' E
      | .stuck => False) → ts D σ H
structure DIn (X : Cx) (E : XK) (Γ : List Md) (sts : List Stmt) (ts : TS) (fi : Fi) : Prop where
  pss : PSs X sts ts
  sem : SemIn X.mg X.K E Γ ts fi
def iNil : Fi := fun d ρ π => .ok ((d, ρ), π)
def iFld (f : Str) (fe : Ed) (g : Fi) : Fi := fun d ρ π => (fe ρ π).bind fun x => match d with
  | .ins c ns xs => if ns.length < 1000 then g (.ins c (putN f x.1 ns xs).1 (putN f x.1 ns xs).2) ρ x.2 else .stuck
  | _ => .stuck
theorem din_nil : DIn X E Γ [] tNext iNil := ⟨pss_nil, fun pot M0 H0 B M σ H ρ π x d D S s0 hd p h => h M σ H S s0 hd p⟩
/-- a held thing changes -/
theorem SOk.mutx {mg : Str → Option Value} {K : PySem.W.Frag} {pot : Option Addr} {M M0 : List Addr} {H H0 B : Hp} {σ : L2.St} {ρ : Rho} {x : Addr} {d d' : D} {o' : HO} (S : SOk mg K Γ pot M0 H0 B M σ H ρ) (hd : Held mg K .o Γ pot H0 M σ H ρ (.ref x) d) (q : HoR mg K (less H M) o' d') :
    SOk mg K Γ pot M0 H0 B M σ (upd H x o') ρ ∧ Held mg K .o Γ pot H0 M σ (upd H x o') ρ (.ref x) d' := by
  obtain ⟨x', ex, m, ⟨n, oo, h1, h2⟩, hz, no⟩ := hd
  cases ex
  have I := S.env
  have own' : Own mg K pot M (upd H x o') x d' := ⟨n, o', upd_same, (q.mono (less_in m)).mono (less_upd (List.mem_cons_self ..))⟩
  refine ⟨⟨⟨I.ls, I.lr, fun j e g1 g2 => ?_, fun j e g1 g2 => ?_, I.p, fun j e g1 g2 => ?_, I.ap, fun a ha => ?_, I.pm⟩, fun a o g1 g2 => ?_, S.sub, S.ow, S.m0, fun a o e => less_upd m a o (S.bs a o e)⟩, x, rfl, m, own', hz, no⟩
  · obtain ⟨w, w1, w2⟩ := I.f j e g1 g2
    exact ⟨w, w1, w2.mono (less_upd m)⟩
  · obtain ⟨a, w1, w2, w3, oj, w5, w6⟩ := I.o j e g1 g2
    have na : a ≠ x := fun z => no j e g1 g2 (by rw [← z]; exact w1)
    exact ⟨a, w1, w2, w3, oj, by rw [upd_ne na]; exact w5, w6.mono (less_upd (List.mem_cons_of_mem _ m))⟩
  · obtain ⟨a, ns, w1, w2, w3⟩ := I.s j e g1 g2
    exact ⟨a, ns, w1, w2, sqL_mono (less_upd m) w3⟩
  · by_cases z : a = x
    · rw [z]
      exact .of upd_same q.nt
    · obtain ⟨o, e, n⟩ := I.al a ha
      exact .of (by rw [upd_ne z]; exact e) n
  · have z : a ≠ x := fun z => by
      rw [z, hz] at g2
      cases g2
    rw [upd_ne z]
    exact S.gr a o g1 g2
theorem din_fld (c : Str) (fs : List Str) {f y : Str} {sts : List Stmt} {us : TS} {g : Fi} (hC : ClsF X.K X.mg c fs) (he : DE X E .f Γ e te fe) (hn : DIn X E Γ sts us g) (hf : f ∈ fs := by decide) (hN : X.N[0]? = some y := by rfl) (hv : Vis X.env.scope y := by first | exact Or.inl rfl | exact Or.inr (Or.inl rfl) | exact Or.inr (Or.inr rfl))
    (hd : (y == ("__debug__" : Str)) = false := by decide) (hcd : (y == ("__classdict__" : Str)) = false := by decide) (hs : swapsWith e (some (.Attribute (.Name y p) f p2)) pos.line X.env = pure false := by rfl) :
    DIn X E Γ (.Assign [.Attribute (.Name y p) f p2] e pos :: sts) (tSeq (sFld X.K (tVar 0) te f) us) (iFld f fe fun d ρ π => match d with | .ins c' _ _ => if c' = c then g d ρ π else .stuck | _ => .stuck) :=
  ⟨pss_cons (ps_fld (pe_var hN hv hd hcd) he.pe hs) hn.pss, fun pot M0 H0 B M σ H ρ π x d D S s0 hh pp q => by
    unfold iFld at q
    refine he.sem pot M σ H ρ π S.env pp _ ?_
    cases ef : fe ρ π with
    | err c ns xs π' =>
      rw [ef] at q
      exact PErr.out q S
    | stuck =>
      rw [ef] at q
      exact q
    | ok z =>
      obtain ⟨z, π1⟩ := z
      rw [ef] at q
      simp only [Res.bind_ok] at q
      intro v H1 g1 p1 r1
      have S1 := S.grow g1 p1
      have h1 := hh.carry S.env.pm g1 (.inl rfl)
      cases d with
      | ins c' ns xs =>
        by_cases hlen : ns.length < 1000
        · by_cases hcc : c' = c
          · subst hcc
            simp only [hlen, if_true] at q
            obtain ⟨x', ex, m, ⟨n, oo, k1, k2⟩, hz, no⟩ := id h1
            cases ex
            cases k2 with
            | @ins C dx fs' c ds mC rr =>
              obtain ⟨C', mC', cl, nos⟩ := hC
              rw [mC] at mC'
              cases mC'
              have rr' := rr.mono (less_sub (N := M) fun a q => List.mem_cons_of_mem _ q)
              obtain ⟨i1, i2⟩ := putN_r (f := f) (v := v) (z := z) r1 rr'
              obtain ⟨S2, h2⟩ := S1.mutx h1 (o' := .ins C dx (putF f v fs')) (d' := .ins c' (putN f z (fs'.map (·.1)) xs).1 (putN f z (fs'.map (·.1)) xs).2) (by
                rw [← i1]
                exact .ins mC i2)
              have p2 : PotAt pot (upd H1 x (.ins C dx (putF f v fs'))) π1 := p1.mut n
              exact ⟨_, s0, x, C, dx, fs', rfl, k1, cl, nos f hf, by simpa using hlen, hn.sem pot M0 H0 B M σ _ ρ π1 x _ D S2 s0 h2 p2 q⟩
          · simp only [hlen, if_true, hcc, if_false] at q
        · simp only [hlen, if_false] at q
      | _ => exact q.elim⟩
end
end DL
set_option maxHeartbeats 2000000
namespace DL
open PySem PySem.Spec PyProof.Rows L2
def but (H : Hp) (x : Addr) : Hp := fun a => if a = x then none else H a
theorem but_ne {H : Hp} {x a : Addr} (h : a ≠ x) : but H x a = H a := by
  unfold but
  rw [if_neg h]
theorem but_self {H : Hp} {x : Addr} : but H x x = none := by
  unfold but
  rw [if_pos rfl]
theorem but_some {H : Hp} {x a : Addr} {o : HO} (h : but H x a = some o) : a ≠ x ∧ H a = some o := by
  by_cases e : a = x
  · rw [e, but_self] at h
    cases h
  · rw [but_ne e] at h
    exact ⟨e, h⟩
section
variable (mg : Str → Option Value) (K : PySem.W.Frag)
/-- what a class's __init__ promises -/
def SpI (c : Str) (ks : List Ak) (m : Fd) : Sp := fun vs H Q E => vs.length = ks.length + 1 ∧ ∃ x C dx ws pot M ds π, vs = .ref x :: ws ∧ mg c = some (.ref C) ∧ H x = some (.ins C dx []) ∧ x ∉ M ∧ pot ≠ some x ∧
  Args mg K pot M (but H x) ks ws ds ∧ (∀ a ∈ M, Al (but H x) a) ∧ (∀ a, pot = some a → a ∈ M) ∧ PotAt pot (but H x) π ∧
  (match m ds π with
    | .ok (d, π1) => ∀ H', Grow pot (but H x) H' → PotAt pot H' π1 → Own mg K pot M H' x d → Q .non H'
    | .err c ns xs π1 => PErr mg K pot M (but H x) c ns xs π1 E
    | .stuck => False)
end
/-- a class with what its making gives -/
structure DMk (P : Program) (w : World) (K : PySem.W.Frag) (mg : Str → Option Value) (base : Heap) (k : Nat) (c qual : Str) (st : Stmt) (ps : List Str) (ks : List Ak) (m : Fd) : Prop where
  ex : ∃ C fI fd, mg c = some (.ref C) ∧ Mk K C fI ∧ Fun K "__init__" qual st fI fd ∧ FnG P w K mg base k fI fd ps (SpI mg K c ks m)
def runI (n : Nat) (c : Str) (fi : Fi) : Fd := fun ds π => (fi (.ins c [] []) (startD n (.non :: ds)) π).bind fun x => .ok (x.1.1, x.2)
section
variable {P : Program} {w : World} {K : PySem.W.Frag} {mg : Str → Option Value} {base : Heap} {k : Nat}
theorem Args.of_rpl {pot : Option Addr} {M : List Addr} {H : Hp} : ∀ {ks : List Ak} {vs : List V} {ds : List D}, RpL mg K (less H M) vs ds → vs.length = ks.length → (∀ k ∈ ks, k = Ak.f) → Args mg K pot M H ks vs ds
  | [], _, _, .nil, _, _ => .nil
  | k :: ks, _, _, .cons h r, hl, hk => by
    have e : k = .f := hk k (List.mem_cons_self ..)
    subst e
    exact .cons h (Args.of_rpl r (by simpa using hl) fun k h => hk k (List.mem_cons_of_mem _ h))
theorem dmk_of {c qual : Str} {st : Stmt} {ps N : List Str} {ks : List Ak} {fi : Fi} (Γ : List Md) (hf : ∃ C fI fd, mg c = some (.ref C) ∧ Mk K C fI ∧ Fun K "__init__" qual st fI fd) (S : FnScope N ps (defScope st)) (hp : ps.length = ks.length + 1) (hl : Γ.length = N.length) (hk : ks.length + 1 ≤ N.length)
    (hm : modesOk (.b :: ks) Γ = true) (hks : ∀ k ∈ ks, k = Ak.f) (hno : ∀ m ∈ Γ, m ≠ Md.o)
    (hb : ∀ (f : Addr) (cdv : Value) (A : Around) (outer : List Env) (s : Shared) (H : Hp) (E : XK), XOk (cxOf (L2.CX P w) P w K mg base N qual (defScope st) f cdv A outer s H E) E k →
      ∃ ts, DIn (cxOf (L2.CX P w) P w K mg base N qual (defScope st) f cdv A outer s H E) E Γ (defBody st) ts fi) :
    DMk P w K mg base (k + 1) c qual st ps ks (runI N.length c fi) := by
  obtain ⟨C0, fI, fd, h0, hM, h2⟩ := hf
  refine ⟨C0, fI, fd, h0, hM, h2, ?_⟩
  obtain ⟨oc, od, kV, doc, pm, an, cdv, ct, osl, rfl, lk, hcd⟩ := h2.ex
  refine fn_ofG lk hcd S (fun vs H Q E h => by rw [h.1, hp]) fun A outer s H vs Q E room gd want => ?_
  obtain ⟨_, x, C, dx, ws, pot, M, ds, π, rfl, mC, hx, nx, npx, ar, al, pmm, pt, post⟩ := want
  have o : XOk (cxOf (L2.CX P w) P w K mg base N qual (defScope st) fI cdv A outer s H E) E k :=
    ⟨room, gd, rfl, passes_call (takes_of rfl rfl rfl rfl) fun _ _ _ _ z => z, passes_of rfl, S.nd⟩
  obtain ⟨ts, B⟩ := hb fI cdv A outer s H E o
  refine ⟨ts, B.pss, ?_⟩
  have own0 : Own mg K pot (x :: M) H x (.ins c [] []) := ⟨npx, _, hx, .ins (fs := []) mC .nil⟩
  have sm : Same (less (but H x) M) (less H (x :: M)) := fun a u e => by
    obtain ⟨e1, e2⟩ := less_some.mp e
    obtain ⟨e3, e4⟩ := but_some e2
    refine less_some.mpr ⟨fun m => ?_, e4⟩
    rcases List.mem_cons.mp m with z | m
    · exact e3 z
    · exact e1 m
  have ar2 : Args mg K pot (x :: M) H (.b :: ks) (.ref x :: ws) (.non :: ds) ∨ True := .inr trivial
  have rl := (ar.rpl hks).mono sm
  have I0 : EnvOk mg K Γ pot (x :: M) (L2.start N (.ref x :: ws)) H (startD N.length (.non :: ds)) := by
    have a1 : Args mg K pot (x :: M) H ks ws ds := .of_rpl rl ar.length hks
    have a2 : Args mg K pot (x :: M) H (.b :: ks) (.ref x :: ws) (.ins c [] [] :: ds) := .cons (.inr ⟨x, rfl, own0⟩) a1
    have I := env_start hm hl hk a2 (fun a ha => by
      rcases List.mem_cons.mp ha with z | ha
      · rw [z]
        exact .of hx fun _ e => by cases e
      · obtain ⟨o, e, n⟩ := al a ha
        exact .of (but_some e).2 n) (fun a e => List.mem_cons_of_mem _ (pmm a e))
    have g0 : Γ[0]? = some .u := by
      obtain ⟨m1, _⟩ := Bool.and_eq_true_iff.mp hm
      have m1 := of_decide_eq_true m1
      have e : (Γ.take (Ak.b :: ks).length)[0]? = Γ[0]? := List.getElem?_take_of_lt (by simp)
      rw [← e, m1]
      rfl
    have oth : ∀ (j : Nat) (m : Md), m ≠ .u → Γ[j]? = some m → j ≠ 0 := fun j m hm h z => by
      rw [z, g0] at h
      cases h
      exact hm rfl
    have at_ : ∀ j, j ≠ 0 → (startD N.length (.non :: ds))[j]? = (startD N.length (.ins c [] [] :: ds))[j]? := fun j hj => by
      unfold startD
      cases j with
      | zero => exact absurd rfl hj
      | succ j => simp
    refine ⟨I.ls, by rw [← I.lr]; simp [startD], fun j d h1 h2 => I.f j d h1 (by rw [← at_ j (oth j _ (by simp) h1)]; exact h2), fun j d h1 h2 => absurd rfl (hno _ (List.mem_of_getElem? h1)), I.p, fun j d h1 h2 => I.s j d h1 (by rw [← at_ j (oth j _ (by simp) h1)]; exact h2), fun i j a d e h1 => absurd rfl (hno _ (List.mem_of_getElem? h1)), I.al, I.pm⟩
  have S0 : SOk mg K Γ pot M (but H x) (fun _ => none) (x :: M) (L2.start N (.ref x :: ws)) H (startD N.length (.non :: ds)) :=
    ⟨I0, fun a u _ e => (but_some e).2, fun a h => List.mem_cons_of_mem _ h, fun i d a h1 => absurd rfl (hno _ (List.mem_of_getElem? h1)), fun a h => (al a h).nn, fun a u e => by cases e⟩
  have hd : Held mg K .o Γ pot (but H x) (x :: M) (L2.start N (.ref x :: ws)) H (startD N.length (.non :: ds)) (.ref x) (.ins c [] []) :=
    ⟨x, rfl, List.mem_cons_self .., own0, but_self, fun i e h1 => absurd rfl (hno _ (List.mem_of_getElem? h1))⟩
  have pt2 : PotAt pot H π := fun a e => (but_some (pt a e)).2
  refine B.sem pot M (but H x) (fun _ => none) (x :: M) _ H _ π x _ _ S0 (by rw [start_at (by simp)]; rfl) hd pt2 ?_
  unfold runI at post
  cases ef : fi (.ins c [] []) (startD N.length (.non :: ds)) π with
  | err c ns xs π' =>
    rw [ef] at post
    exact post
  | stuck =>
    rw [ef] at post
    exact post
  | ok y =>
    obtain ⟨⟨d', ρ'⟩, π1⟩ := y
    rw [ef] at post
    intro M' σ' H' S' s0 h' p'
    obtain ⟨x', ex, _, ⟨n, oo, k1, k2⟩, _, _⟩ := h'
    cases ex
    refine post H' S'.gr p' ⟨n, oo, k1, k2.mono (less_sub fun a ha => ?_)⟩
    rcases List.mem_cons.mp ha with z | ha
    · rw [z]
      exact List.mem_cons_self ..
    · exact List.mem_cons_of_mem _ (S'.sub a ha)
theorem DMk.mono {j : Nat} {c qual : Str} {st : Stmt} {ps : List Str} {ks : List Ak} {m : Fd} (F : DMk P w K mg base j c qual st ps ks m) (h : j ≤ k) : DMk P w K mg base k c qual st ps ks m := by
  obtain ⟨C, f, fd, h0, h1, h2, h3⟩ := F.ex
  exact ⟨C, f, fd, h0, h1, h2, h3.mono h⟩
end
section
variable {X : Cx} {E : XK} {Γ : List Md} {pos p : Pos} {k j : Nat} {ks : List Ak} {tA : TA} {fA : Ea} {e : Expr} {es : List Expr}
theorem run_makeG {pins : List (Addr × Obj)} {σ : L2.St} {H : Hp} {s : Shared} {Q : VK} {us : List Value} {vs : List V} {C f : Addr} {fd : FuncData} {ps : List Str} {sp : Sp} (M : Mk X.K C f) (F : FnG X.prog X.w X.K X.mg X.base j f fd ps sp) (o : XOk X E k) (hj : j + 1 ≤ k)
    (hb : ∀ (s : Shared) (us : List Value), us.length = ps.length → BindsTo s fd ⟨us, []⟩ (ps.zip us)) (I : Inv X pins σ H s) (r : Vals vs us)
    (h : ∀ x dx, H x = none → H dx = none → dx ≠ x → sp (.ref x :: vs) (upd (upd H dx (.own x)) x (.ins C dx [])) (fun v H2 => v = .non ∧ Q (.ref x) H2) E) :
    wpAny (model X.prog X.w) X.A (call (.ref C) us) (EP X pins σ Q) X.xe s := by
  have want := h (s.heap.objs.size + 1) s.heap.objs.size (I.hok.fresh (Nat.le_succ _)) (I.hok.fresh (Nat.le_refl _)) (Nat.ne_of_lt (Nat.lt_succ_self _))
  have J := Inv.made (C := C) I
  have rel : Vals (V.ref (s.heap.objs.size + 1) :: vs) (Value.ref (s.heap.objs.size + 1) :: us) := .cons rfl r
  have len : (Value.ref (s.heap.objs.size + 1) :: us).length = ps.length := by
    rw [← F.len _ _ _ _ want]
    exact rel.length.symm
  have room := (o.room.mono hj).make C us []
  have run := F.run (X.A.under (.builtin "type.__call__" ⟨.ref C :: us, []⟩)) X.stack _ _ ⟨Value.ref (s.heap.objs.size + 1) :: us, []⟩ (Value.ref (s.heap.objs.size + 1) :: us) _ _ E room (by first | exact o.gd | (show (X.A.under _).guards = some []; simp [Around.under, o.gd])) (J.env0.make C us []) (hb _ _ len) rel want
  refine wpAny_call (make_map (f := f) I.kIn M.makes M.init (beq_iff_eq.mp M.fn) (codeAny_mono run fun r s' z => ?_))
  match r, z with
  | .error er, z => exact o.pass pins σ _ _ er s' J z
  | .ok .next, z => exact z.elim
  | .ok .brk, z => exact z.elim
  | .ok .cont, z => exact z.elim
  | .ok (.ret u), z =>
    obtain ⟨v, H', I3, rv, ev, q3⟩ := J.after z
    subst ev
    exact ⟨rv, V.ref (s.heap.objs.size + 1), H', I3, rfl, q3⟩
def tMkD (mg : Str → Option Value) (K : PySem.W.Frag) (c : Str) (ks : List Ak) (m : Fd) (E : XK) (t : TA) : TE := fun σ H Q => t σ H fun vs H1 => ∀ C, mg c = some (.ref C) → ∀ x dx, H1 x = none → H1 dx = none → dx ≠ x →
  SpI mg K c ks m (.ref x :: vs) (upd (upd H1 dx (.own x)) x (.ins C dx [])) (fun v H2 => v = .non ∧ Q (.ref x) H2) E
theorem sem_mk {c : Str} {m : Fd} (hA : SemA X.mg X.K E ks Γ tA fA) : SemE X.mg X.K E .o Γ (tMkD X.mg X.K c ks m E tA) (eGo m fA) := fun pot M σ H ρ π I p Q h => by
  refine PostA.seq (ks := ks) (te := tA σ H) h p (fun Q' hq => hA pot M σ H ρ π I p Q' hq) fun ds π1 vs H1 _ g1 p1 r1 h1 => ?_
  intro C mC x dx hx hdx hne
  have I1 := I.grow g1 p1
  have hb : but (upd (upd H1 dx (.own x)) x (.ins C dx [])) x = upd H1 dx (.own x) := funext fun a => by
    by_cases z : a = x
    · rw [z, but_self, upd_ne (Ne.symm hne)]
      exact hx.symm
    · rw [but_ne z, upd_ne z]
  have gr : Grow pot H1 (upd H1 dx (.own x)) := .new hdx
  refine ⟨by simp [r1.length], x, C, dx, vs, pot, M, ds, π1, rfl, mC, upd_same, fun m => (I1.al x m).nn hx, fun e => p1.has x e hx, ?_⟩
  rw [hb]
  refine ⟨r1.grow I.pm gr, fun a ha => ?_, I.pm, p1.new hdx, ?_⟩
  · by_cases z : a = dx
    · rw [z]
      exact .of upd_same fun _ e => by cases e
    · obtain ⟨o, e, n⟩ := I1.al a ha
      exact .of (by rw [upd_ne z]; exact e) n
  · cases em : m ds π1 with
    | ok y =>
      obtain ⟨d, π2⟩ := y
      rw [em] at h1
      exact fun H' g' p' own => ⟨rfl, h1 (.ref x) H' (gr.trans g') p' ⟨x, rfl, hx, own⟩⟩
    | err c ns xs π' =>
      rw [em] at h1
      exact PErr.back h1 gr
    | stuck =>
      rw [em] at h1
      exact h1
/-- C(e, ..) -/
theorem de_new {c qual : Str} {st : Stmt} {ps : List Str} {m : Fd} (F : DMk X.prog X.w X.K X.mg X.base j c qual st ps ks m) (o : XOk X E k)
    (hb : ∀ (kV doc pm : Value) (an : Option Addr) (cdv ct : Value) (us : List Value), us.length = ps.length → bindArgs (PySem.W.fnOf "__init__" qual (defArgs st) (defBody st) (defScope st) .none kV doc pm an cdv ct) ⟨us, []⟩ = pure (ps.zip us))
    (hA : DA X E ks Γ (e :: es) tA fA) (hj : j + 1 ≤ k := by decide) (hg : Gl X c := by rfl) (hdb : (c == ("__debug__" : Str)) = false := by decide) (he : starEach (e :: es) X.env = (false, eval e X.env) :: starEach es X.env := by rfl) (hpl : (backTo pos (starEach es X.env)).any (·.1) = false := by rfl) :
    DE X E .o Γ (.Call (.Name c p) (e :: es) [] pos) (tMkD X.mg X.K c ks m E tA) (eGo m fA) :=
  ⟨⟨fun pins s σ H Q I h => by
    obtain ⟨C, f, fd, h0, hM, h2, h3⟩ := F.ex
    refine wpAny_Call_Name_kw (ld_glob I hg h0 ?_ hdb)
    refine PySem.W.callWith_K (h₀ := X.base) I.ok.mod.kin hM.kp (thn (hA.pa.run pos pins s σ H _ I h) fun us s1 ⟨vs, H1, I1, rl, q⟩ => ⟨I1.kIn, ?_⟩) he hpl
    refine run_makeG hM h3 o hj (fun s us hl => ?_) I1 rl (q C h0)
    obtain ⟨oc, od, kV, doc, pm, an, cdv, ct, osl, rfl, lk, hcd⟩ := h2.ex
    exact .of_eq (hb kV doc pm an cdv ct us hl)⟩, sem_mk hA.sem⟩
end
end DL
set_option maxHeartbeats 2000000
namespace DL
open PySem PySem.Spec PyProof.Rows L2
section
variable {P : Program} {w : World} {K : PySem.W.Frag} {mg : Str → Option Value} {base : Heap} {k : Nat} {x qual : Str} {st : Stmt} {ps N : List Str} {ks : List Ak} {r : Rm}
/-- a method of a class with what it gives -/
structure DMe (P : Program) (w : World) (K : PySem.W.Frag) (mg : Str → Option Value) (base : Heap) (k : Nat) (c x qual : Str) (st : Stmt) (ps : List Str) (ks : List Ak) (r : Rm) (m : Fd) : Prop where
  ex : ∃ C f fd, mg c = some (.ref C) ∧ Cls K C ∧ Meth K C x f ∧ Fun K x qual st f fd ∧ FnG P w K mg base k f fd ps (SpD mg K (.f :: ks) r m)
theorem DMe.mono {j : Nat} {c : Str} {m : Fd} (F : DMe P w K mg base j c x qual st ps ks r m) (h : j ≤ k) : DMe P w K mg base k c x qual st ps ks r m := by
  obtain ⟨C, f, fd, h0, h1, h2, h3, h4⟩ := F.ex
  exact ⟨C, f, fd, h0, h1, h2, h3, h4.mono h⟩
end
end DL
set_option maxHeartbeats 2000000
namespace DL
open PySem PySem.Spec PyProof.Rows L2
section
variable {X : Cx} {E : XK} {k : Nat}
def rInT (K : PySem.W.Frag) : R2 := fun x y H Q => ∃ d ds, Dp K H x d ∧ Dp K H y (.tuple ds) ∧ SeqAt.shaped d = true ∧ SeqAt.shaped (.tuple ds) = true ∧ Q (.bl (ds.any fun z => PyData.eqv z d)) H
def rNotInT (K : PySem.W.Frag) : R2 := fun x y H Q => ∃ d ds, Dp K H x d ∧ Dp K H y (.tuple ds) ∧ SeqAt.shaped d = true ∧ SeqAt.shaped (.tuple ds) = true ∧ Q (.bl (!ds.any fun z => PyData.eqv z d)) H
theorem op_inT (hu : X.A.units + 65 < cLine) : OpR X (compareOp .In) (rInT X.K) := fun pins s σ H x y v u Q I rx ry h => by
  obtain ⟨d, ds, hd, he, sd, se, q⟩ := h
  obtain ⟨as, r1⟩ := Dp.reads I d x v hd rx
  obtain ⟨bs, r2⟩ := Dp.reads I (.tuple ds) y u he ry
  exact SeqAt.in_tuple_reads r2 r1 (SeqAt.canLay_of_shaped se) (SeqAt.canLay_of_shaped sd) (room_in_shaped sd hu) ⟨.bl _, H, I, rfl, q⟩
theorem op_notInT (hu : X.A.units + 65 < cLine) : OpR X (compareOp .NotIn) (rNotInT X.K) := fun pins s σ H x y v u Q I rx ry h => by
  obtain ⟨d, ds, hd, he, sd, se, q⟩ := h
  obtain ⟨as, r1⟩ := Dp.reads I d x v hd rx
  obtain ⟨bs, r2⟩ := Dp.reads I (.tuple ds) y u he ry
  exact SeqAt.notIn_tuple_reads r2 r1 (SeqAt.canLay_of_shaped se) (SeqAt.canLay_of_shaped sd) (room_in_shaped sd hu) ⟨.bl _, H, I, rfl, q⟩
def inDT (d : D) (e : D) : Option Bool := match toPy d, toPy e with
  | some p, some (.list qs) => if SeqAt.shaped p && SeqAt.shaped (.list qs) then some (qs.any fun z => PyData.eqv z p) else none
  | some p, some (.tuple qs) => if SeqAt.shaped p && SeqAt.shaped (.tuple qs) then some (qs.any fun z => PyData.eqv z p) else none
  | _, _ => none
def opInA (d e : D) : Option D := (inDT d e).map .bl
def opNotInA (d e : D) : Option D := (inDT d e).map fun b => .bl (!b)
theorem o_inA (x : XOk X E k) : OpOk X (compareOp .In) (fun x y H Q => rInD X.K x y H Q ∨ rInT X.K x y H Q) .f opInA := ⟨(op_inD x.u65).or (op_inT x.u65), fun pot M H x y d e z al pm ph rx ry hz Q q => by
  unfold opInA inDT at hz
  split at hz
  · rename_i p qs e1 e2
    split at hz
    · rename_i hs
      cases hz
      obtain ⟨s1, s2⟩ := Bool.and_eq_true_iff.mp hs
      exact .inl ⟨p, qs, (rb_rp rx).dp e1, (rb_rp ry).dp e2, s1, s2, q _ H (Same.refl H) (.bl _)⟩
    · cases hz
  · rename_i p qs e1 e2
    split at hz
    · rename_i hs
      cases hz
      obtain ⟨s1, s2⟩ := Bool.and_eq_true_iff.mp hs
      exact .inr ⟨p, qs, (rb_rp rx).dp e1, (rb_rp ry).dp e2, s1, s2, q _ H (Same.refl H) (.bl _)⟩
    · cases hz
  · cases hz⟩
theorem o_notInA (x : XOk X E k) : OpOk X (compareOp .NotIn) (fun x y H Q => rNotInD X.K x y H Q ∨ rNotInT X.K x y H Q) .f opNotInA := ⟨(op_notInD x.u65).or (op_notInT x.u65), fun pot M H x y d e z al pm ph rx ry hz Q q => by
  unfold opNotInA inDT at hz
  split at hz
  · rename_i p qs e1 e2
    split at hz
    · rename_i hs
      cases hz
      obtain ⟨s1, s2⟩ := Bool.and_eq_true_iff.mp hs
      exact .inl ⟨p, qs, (rb_rp rx).dp e1, (rb_rp ry).dp e2, s1, s2, q _ H (Same.refl H) (.bl _)⟩
    · cases hz
  · rename_i p qs e1 e2
    split at hz
    · rename_i hs
      cases hz
      obtain ⟨s1, s2⟩ := Bool.and_eq_true_iff.mp hs
      exact .inr ⟨p, qs, (rb_rp rx).dp e1, (rb_rp ry).dp e2, s1, s2, q _ H (Same.refl H) (.bl _)⟩
    · cases hz
  · cases hz⟩
theorem truth_numbers {prog : Program} {w : World} {A : Around} {ns : List Int} {its : List Value} (r : Vals (ns.map V.int) its) : TruthOf prog w A (fun i v => its.toArray[i]? = some v) (fun i => (ns.getD i 0) != 0) := fun i v s Q E hv hq => by
  have hv' : its[i]? = some v := by simpa using hv
  have hi : i < its.length := (List.getElem?_eq_some_iff.mp hv').1
  have hl := r.length
  rw [List.length_map] at hl
  have hn : ns[i]? = some (ns[i]'(by omega)) := List.getElem?_eq_getElem (by omega)
  obtain ⟨u, hu, t, e⟩ := r.get (i := i) (x := .int (ns[i]'(by omega))) (by rw [List.getElem?_map, hn]; rfl)
  rw [hv'] at hu
  cases hu
  subst e
  have hg : ns.getD i 0 = ns[i]'(by omega) := by rw [List.getD_eq_getElem?_getD, hn]; rfl
  have hq' : Q (ns.getD i 0 != 0) s := hq
  rw [hg] at hq'
  exact PySem.P.truthy_int hq'
theorem any_nat : ∀ ns : List Int, (List.range ns.length).any (fun i => (ns.getD i 0) != 0) = ns.any (fun n => n != 0)
  | [] => rfl
  | b :: bs => by
    rw [List.length_cons, List.range_succ_eq_map, List.any_cons, List.any_map, List.any_cons, ← any_nat bs]
    rfl
/-- any(xs), xs a list of ints or a tuple of them -/
def rAnyN (K : PySem.W.Frag) : List V → Hp → VK → Prop := fun vs H Q => ∃ (S : Src) (ns : List Int), vs = [V.ref S.a] ∧ S.sq K H (ns.map V.int) ∧ Q (.bl (ns.any fun n => n != 0)) H
theorem cr_anyN (x : XOk X E k) : CallR X (.builtin "any") (rAnyN X.K) := fun pins s σ H vs us Q I r h => by
  obtain ⟨⟨b, a⟩, ns, rfl, hs, q⟩ := h
  rw [Vals.ref1 r]
  cases b with
  | true =>
    obtain ⟨its, rv, hl, _⟩ := I.list (show SqL X.K H a _ from hs)
    have hlen := rv.length
    refine call_any_walk (iter_any hl.isList fun s₂ e2 st hne => ?_)
    subst e2
    refine ⟨_, _, _, _, _, _, _, rfl, Walks.list (A := X.A.in1) (I.ok.hd x.calm) _ a hne its.toArray, st, truth_numbers rv, fun h' tk hk => ?_⟩
    refine ⟨.bl _, H, I.kept fun b o eo => hk b o (fun hmem => ?_) (Heap.get?_push_of_some _ eo), ?_, q⟩
    · rcases List.mem_cons.mp hmem with e1 | hmem
      · exact absurd (e1 ▸ Heap.lt_size eo) (Nat.lt_irrefl _)
      · cases hmem
    · show Value.bool _ = Value.bool _
      rw [← any_nat, List.size_toArray, ← hlen, List.length_map]
  | false =>
    obtain ⟨its, rv, hl, _⟩ := I.tuple (show SqT X.K H a _ from hs)
    have hlen := rv.length
    have hlt : a < s.heap.objs.size := by obtain ⟨_, e, _⟩ := hl; exact Heap.lt_size e
    have hl' : s.heap.IsTuple a its.toArray := hl
    refine call_any_walk (wpAny_pyIter_tuple hl' ?_)
    refine ⟨_, _, _, _, _, _, _, rfl, Walks.tuple (A := X.A.in1) (I.ok.hd x.calm) _ a (Nat.ne_of_lt hlt) its.toArray, ⟨⟨_, Heap.get?_push_size _ rfl, rfl, rfl⟩, hl'.push _⟩, truth_numbers rv, fun h' tk hk => ?_⟩
    refine ⟨.bl _, H, I.kept fun b o eo => hk b o (fun hmem => ?_) (Heap.get?_push_of_some _ eo), ?_, q⟩
    · rcases List.mem_cons.mp hmem with e1 | hmem
      · exact absurd (e1 ▸ Heap.lt_size eo) (Nat.lt_irrefl _)
      · cases hmem
    · show Value.bool _ = Value.bool _
      rw [← any_nat, List.size_toArray, ← hlen, List.length_map]
def asIntsS : D → Option (List Int)
  | .lst xs => asInts xs
  | .tup xs => asInts xs
  | _ => none
/-- any: of bools in a list, or of ints -/
def fAnyA : List D → Option D
  | [d] => match asIntsS d with
    | some ns => some (.bl (ns.any fun n => n != 0))
    | none => fAny [d]
  | _ => none
theorem c_anyA (x : XOk X E k) : CallOk X (.builtin "any") (fun xs H Q => rAny X.K xs H Q ∨ rAnyN X.K xs H Q) [.b] .f fAnyA := ⟨(cr_any x.calm).or (cr_anyN x), fun pot M H vs ds z al pm ph a hz Q q => by
  obtain ⟨v, d, rfl, rfl, h⟩ := arg1 a
  unfold fAnyA at hz
  simp only at hz
  split at hz
  · rename_i ns e
    cases hz
    cases d with
    | lst xs =>
      rw [asInts_eq (show asInts xs = some ns from e)] at h
      obtain ⟨p, ys, rfl, h1, r1⟩ := rb_lst h
      rw [r1.iz] at h1
      exact .inr ⟨⟨true, p⟩, ns, rfl, .inl (.inl h1), q _ H (Same.refl H) (.bl _)⟩
    | tup xs =>
      rw [asInts_eq (show asInts xs = some ns from e)] at h
      obtain ⟨p, ys, rfl, h1, r1⟩ := rb_tup h
      rw [r1.iz] at h1
      exact .inr ⟨⟨false, p⟩, ns, rfl, sqT_mono less_le h1, q _ H (Same.refl H) (.bl _)⟩
    | _ => cases e
  · exact .inl ((c_any x).2 pot M H [v] [d] z al pm ph (.cons h .nil) hz Q q)⟩
end
end DL
set_option maxHeartbeats 2000000
namespace DL
open PySem PySem.Spec PyProof.Rows L2 C8
/-- what the text says of a class that isinstance asks for: no builtin is below it, and of the classes cs only it -/
structure ClsI (K : PySem.W.Frag) (mg : Str → Option Value) (c : Str) (cs : List Str) : Prop where
  ex : ∃ C, mg c = some (.ref C) ∧ (∀ n ∈ tyNames, PySem.W.kitOne K (.type n) (.ref C) = some false) ∧
    ∀ c' ∈ cs, ∃ C', mg c' = some (.ref C') ∧ InsC K C' ∧ PySem.W.kitOne K (.ref C') (.ref C) = some (c' == c)
def fIsC (c : Str) (cs : List Str) : D → Option D
  | .ins c' _ _ => if c' ∈ cs then some (.bl (c' == c)) else none
  | _ => some (.bl false)
theorem fIsC_ty {c : Str} {cs : List Str} {d : D} {n : String} (h : tyName d = some n) : fIsC c cs d = some (.bl false) := by
  cases d <;> first | rfl | cases h
def tIsC (mg : Str → Option Value) (K : PySem.W.Frag) (c : Str) (ta : TE) : TE := fun σ H Q => ∃ C, mg c = some (.ref C) ∧ tCB (rIsiY K) (tCons ta (tCons (tC (.ref C)) tNil)) σ H Q
section
variable {X : Cx} {E : XK} {Γ : List Md} {ra : Rm} {a : Expr} {ta : TE} {fa : Ed} {pos p px : Pos}
theorem de_isC {c : Str} (cs : List Str) (hC : ClsI X.K X.mg c cs) (hm : X.mg "isinstance" = none) (ha : DE X E ra Γ a ta fa) (hg : Gl X "isinstance" := by rfl) (hgT : Gl X c := by rfl)
    (hdb : (c == ("__debug__" : Str)) = false := by decide) (hs : starEach [a, .Name c px] X.env = (false, eval a X.env) :: starEach [.Name c px] X.env := by rfl) (hs2 : starEach [.Name c px] X.env = (false, eval (.Name c px) X.env) :: starEach [] X.env := by rfl)
    (hpl : (backTo pos (starEach [.Name c px] X.env)).any (·.1) = false := by rfl) :
    DE X E .f Γ (.Call (.Name "isinstance" p) [a, .Name c px] [] pos) (tIsC X.mg X.K c ta) (eUn (fIsC c cs) fa) :=
  ⟨⟨fun pins s σ H Q I h => by
    obtain ⟨C, hc, h⟩ := h
    exact (pe_callB call_isiY hg hm (by decide +kernel) (pa_cons ha.pe (pa_cons (pe_gc (v := .ref C) hgT ⟨_, hc, (rfl : RelV (.ref C) (Value.ref C))⟩ hdb) pa_nil hs2) hs) (by decide) (by decide) hs hpl).run pins s σ H Q I h⟩,
  fun pot M σ H ρ π I p Q h => by
    obtain ⟨C, hc, hn, ho⟩ := hC.ex
    refine (show _ from ⟨C, hc, ?_⟩ : tIsC X.mg X.K c ta σ H Q)
    refine Post.seq (r' := ra) (te := ta σ H) h p (fun Q' hq => ha.sem pot M σ H ρ π I p Q' hq) fun d π1 v H1 _ g1 p1 r1 h1 => ?_
    cases et : tyName d with
    | some n =>
      rw [fIsC_ty et, ofO_some, Res.bind_ok] at h1
      exact ⟨v, .ref C, .type n, .ref C, false, rfl, .own C, rb_ty r1.toB et, hn n (tyName_mem et), h1 _ H1 .refl p1 (.bl _)⟩
    | none =>
      cases d with
      | ins c' ns xs =>
        simp only [fIsC] at h1
        split at h1
        · rename_i hin
          rw [ofO_some, Res.bind_ok] at h1
          obtain ⟨y, C1, dx, gs, rfl, m, hy, rfl, rr⟩ := rb_ins r1.toB
          obtain ⟨C', m', ic, k1⟩ := ho c' hin
          rw [m] at m'
          cases m'
          exact ⟨.ref y, .ref C, .ref C1, .ref C, _, rfl, .own C, .inl (.base (.ins hy ic.cl ic.ha ic.hn ic.htk ic.hm)), k1, h1 _ H1 .refl p1 (.bl _)⟩
        · rw [ofO_none, Res.bind_stuck] at h1
          exact h1.elim
      | _ => cases et⟩
end
end DL
set_option maxHeartbeats 2000000
namespace DL
open PySem PySem.Spec PyProof.Rows L2 C8
def iCk (c : Str) (g : Fi) : Fi := fun d ρ π => match d with
  | .ins c' _ _ => if c' = c then g d ρ π else .stuck
  | _ => .stuck
section
variable {X : Cx} {E : XK} {Γ : List Md} {e : Expr} {te : TE} {fe : Ed} {pos p p2 : Pos}
theorem din_fldC (c : Str) (fs : List Str) {f y : Str} {sts : List Stmt} {us : TS} {g : Fi} (hC : ClsF X.K X.mg c fs) (he : DE X E .f Γ e te fe) (hn : DIn X E Γ sts us g) (hf : f ∈ fs := by decide) (hN : X.N[0]? = some y := by rfl) (hv : Vis X.env.scope y := by first | exact Or.inl rfl | exact Or.inr (Or.inl rfl) | exact Or.inr (Or.inr rfl))
    (hd : (y == ("__debug__" : Str)) = false := by decide) (hcd : (y == ("__classdict__" : Str)) = false := by decide) (hs : swapsWith e (some (.Attribute (.Name y p) f p2)) pos.line X.env = pure false := by rfl) :
    DIn X E Γ (.Assign [.Attribute (.Name y p) f p2] e pos :: sts) (tSeq (sFld X.K (tVar 0) te f) us) (iFld f fe (iCk c g)) := din_fld c fs hC he hn hf hN hv hd hcd hs
end
theorem fa_cons {α : Type} {p : α → Prop} {a : α} {l : List α} (h : p a) (t : ∀ x ∈ l, p x) : ∀ x ∈ a :: l, p x := List.forall_mem_cons.mpr ⟨h, t⟩
theorem fa_nil {α : Type} {p : α → Prop} : ∀ x ∈ ([] : List α), p x := fun _ h => nomatch h
end DL
set_option maxHeartbeats 2000000
namespace DL
open PySem PySem.Spec PyProof.Rows L2 C8
open Sem (wp)
section
variable {prog : Program} {w : World} {A : Around} {E : Value → Shared → Prop} {s : Shared}
theorem args_min4 (a b c d : Value) : argsOk "min" ⟨[a, b, c, d], []⟩ := by unfold argsOk; kernel_rfl
theorem call_min_four {a b c d : Value} {Q : Value → Shared → Prop}
    (h : wpAny (model prog w) A.in1 (pyIter (.ref s.heap.objs.size)) (fun it s₂ => ∃ I fp wr n P St bt, it = .ref I ∧ Walks prog w A.in1 I fp wr n P St ∧ St 0 s₂.heap ∧ (∀ b ∈ fp, b < s₂.heap.objs.size) ∧ 0 < n ∧ CmpOf prog w A.in1 .Lt P bt ∧
      ∀ v h' tk, P (argBest bt (n - 1)) v → (∀ b o, b ∉ wr → s₂.heap.get? b = some o → h'.get? b = some o) → Q v { s₂ with heap := h', toks := tk }) E
      { s with heap := s.heap.push { cls := .type "tuple", data := .seq #[a, b, c, d] } }) :
    wpAny (model prog w) A (call (.builtin "min") [a, b, c, d]) Q E s := by
  have hname : (toString "min" ++ toString ".loop" : String) = "min.loop" := by decide
  refine call_function_tree PySem.F.kind_min PySem.F.plain_min PySem.F.entry_min (args_min4 _ _ _ _) ?_
  show wpAny _ A.in1 (Builtin.Builtins.bindParams "min" ["key", "default"] 0 ⟨[], []⟩ >>= _) _ _ s
  refine wpAny_bind (wpAny_of_eq (show Builtin.Builtins.bindParams "min" ["key", "default"] 0 ⟨[], []⟩ = pure [none, none] from rfl) ?_)
  show wpAny _ A.in1 (newTuple [a, b, c, d] >>= _) _ _ s
  refine wpAny_bind (wpAny_newObj_type ?_)
  refine wpAny_bind (wpAny_mono h (fun it s₂ h₂ => ?_) fun _ _ e => e)
  obtain ⟨I, fp, wr, n, P, St, bt, rfl, W, hst, hfp, hn, hcmp, hQ⟩ := h₂
  refine wpAny_bind (wpAny_newObj_type ?_)
  have hSf : s₂.heap.objs.size ∉ fp := fun hm => Nat.lt_irrefl _ (hfp _ hm)
  rw [hname]
  refine wpAny_pure ⟨plainId_quiet PySem.F.plain_min_loop _, codeAny_min_loop_first W bt hcmp s₂.heap.objs.size hSf hn (W.frame _ _ _ hst fun b _ o e => Heap.get?_push_of_some _ e) (Heap.get?_push_size _ rfl) fun v h' tk hP hk => ?_⟩
  exact hQ v h' tk hP fun b o hbw e => hk b o hbw (Nat.ne_of_lt (Heap.lt_size e)) (Heap.get?_push_of_some _ e)
theorem min_four_ints {a b c d : Int} {t u x y : Tok} {Q : Value → Shared → Prop} (hh : A.handled = none)
    (h : ∀ h' tk v, (∀ d o, s.heap.get? d = some o → h'.get? d = some o) → (∃ tv, v = .int (min (min (min a b) c) d) tv) → Q v { s with heap := h', toks := tk }) :
    wpAny (model prog w) A (call (.builtin "min") [.int a t, .int b u, .int c x, .int d y]) Q E s := by
  have hT : (s.heap.push { cls := .type "tuple", data := .seq #[.int a t, .int b u, .int c x, .int d y] }).IsTuple s.heap.objs.size (intItems #[(a, t), (b, u), (c, x), (d, y)]) := ⟨_, Heap.get?_push_size _ rfl, rfl, 0, by simp [intItems]⟩
  refine call_min_four (wpAny_pyIter_tuple hT ?_)
  have hsz : (s.heap.push { cls := .type "tuple", data := .seq #[.int a t, .int b u, .int c x, .int d y] }).objs.size = s.heap.objs.size + 1 := Heap.size_push ..
  refine ⟨_, [_, s.heap.objs.size], [_], _, _, _, _, rfl, Walks.tuple (A := A.in1) hh _ s.heap.objs.size (by rw [hsz]; exact Nat.ne_of_lt (Nat.lt_succ_self _)) (intItems #[(a, t), (b, u), (c, x), (d, y)]),
    ⟨⟨_, Heap.get?_push_size _ rfl, rfl, rfl⟩, hT.push _⟩, fun d hd => ?_, by simp [intItems], CmpOf.ints_lt (numAt #[(a, t), (b, u), (c, x), (d, y)]) (fun _ _ => intItems_at), fun v h' tk hP hk => ?_⟩
  · show d < ((s.heap.push _).push _).objs.size
    rw [Heap.size_push, hsz]
    rcases List.mem_cons.mp hd with rfl | hd
    · rw [hsz]; exact Nat.lt_succ_self _
    · rcases List.mem_cons.mp hd with rfl | hd
      · exact Nat.lt_succ_of_lt (Nat.lt_succ_self _)
      · cases hd
  · have hold : ∀ d o, s.heap.get? d = some o → h'.get? d = some o := fun d o e => by
      refine hk d o (fun hm => ?_) (Heap.get?_push_of_some _ (Heap.get?_push_of_some _ e))
      rcases List.mem_cons.mp hm with e1 | hm
      · have := Heap.lt_size e; rw [e1, hsz] at this; exact Nat.lt_irrefl _ (Nat.lt_of_succ_lt this)
      · cases hm
    refine h h' tk v hold ?_
    have hP' : (intItems #[(a, t), (b, u), (c, x), (d, y)])[argBest (fun i j => decide (numAt #[(a, t), (b, u), (c, x), (d, y)] i < numAt #[(a, t), (b, u), (c, x), (d, y)] j)) 3]? = some v := by
      have hsz2 : (intItems #[(a, t), (b, u), (c, x), (d, y)]).size - 1 = 3 := by simp [intItems]
      rw [← hsz2]; exact hP
    by_cases h1 : b < a <;> by_cases h2 : c < a <;> by_cases h3 : c < b <;> by_cases h4 : d < a <;> by_cases h5 : d < b <;> by_cases h6 : d < c <;>
      simp [argBest, numAt, intItems, h1, h2, h3, h4, h5, h6] at hP' <;> exact ⟨_, by rw [← hP']; congr 1; omega⟩
end
def fMin4 : List D → Option D
  | [.int a, .int b, .int c, .int d] => some (.int (min (min (min a b) c) d))
  | _ => none
section
variable {X : Cx} {E : XK} {k : Nat}
theorem vals4 {a b c d : V} {us : List Value} (r : Vals [a, b, c, d] us) : ∃ u1 u2 u3 u4, us = [u1, u2, u3, u4] ∧ RelV a u1 ∧ RelV b u2 ∧ RelV c u3 ∧ RelV d u4 := by
  cases r with
  | cons r1 r => cases r with
    | cons r2 r => cases r with
      | cons r3 r => cases r with
        | cons r4 r => cases r; exact ⟨_, _, _, _, rfl, r1, r2, r3, r4⟩
def rMin4 : List V → Hp → VK → Prop := fun xs H Q => ∃ a b c d, xs = [.int a, .int b, .int c, .int d] ∧ Q (.int (min (min (min a b) c) d)) H
theorem call_min4 (hc : X.calm = true) : CallR X (.builtin "min") rMin4 := by
  intro pins s σ H xs us Q I r h
  obtain ⟨a, b, c, d, rfl, q⟩ := h
  obtain ⟨u1, u2, u3, u4, rfl, ⟨t1, rfl⟩, ⟨t2, rfl⟩, ⟨t3, rfl⟩, ⟨t4, rfl⟩⟩ := vals4 r
  exact min_four_ints (I.ok.hd hc) fun h' tk v k ⟨tv, e⟩ => ⟨_, H, I.kept k, by rw [e]; exact ⟨_, rfl⟩, q⟩
theorem c_min4 (x : XOk X E k) : CallOk X (.builtin "min") rMin4 [.b, .b, .b, .b] .f fMin4 := ⟨call_min4 x.calm, fun pot M H vs ds z al pm ph a hz Q q => by
  cases a with
  | cons h1 a => cases a with
    | cons h2 a => cases a with
      | cons h3 a => cases a with
        | cons h4 a =>
          cases a
          unfold fMin4 at hz
          split at hz
          · rename_i e
            cases e
            cases hz
            exact ⟨_, _, _, _, by rw [rb_int h1, rb_int h2, rb_int h3, rb_int h4], q _ H (Same.refl H) (.int _)⟩
          · cases hz⟩
end
end DL
set_option maxHeartbeats 2000000
namespace DL
open PySem PySem.Spec PyProof.Rows L2
mutual
/-- no list in it -/
def noL : D → Bool
  | .lst _ => false
  | .tup ds => noLs ds
  | .dic _ ds => noLs ds
  | .ins _ _ ds => noLs ds
  | _ => true
def noLs : List D → Bool
  | [] => true
  | d :: ds => noL d && noLs ds
end
section
variable {mg : Str → Option Value} {K : PySem.W.Frag} {pot : Option Addr} {M M' : List Addr} {H : Hp}
def Lent (M M' : List Addr) (H : Hp) : Prop := ∀ a, a ∉ M' → a ∈ M → ∃ xs, H a = some (.lst xs)
theorem Lent.at (l : Lent M M' H) {a : Addr} {o : HO} (h : less H M' a = some o) (ho : ∀ xs, o ≠ .lst xs) : less H M a = some o := by
  obtain ⟨h1, h2⟩ := less_some.mp h
  refine less_some.mpr ⟨fun h3 => ?_, h2⟩
  obtain ⟨xs, e⟩ := l a h1 h3
  rw [h2] at e
  exact ho xs (Option.some.inj e)
theorem Lent.rd (l : Lent M M' H) {a : Addr} {o : HO} (h : Rd (less H M') a o) (ho : ∀ xs, o ≠ .lst xs) : Rd (less H M) a o := by
  rcases h with h | ⟨ob, h⟩
  · exact .inl (l.at h ho)
  · exact .inr ⟨ob, l.at h fun xs e => by cases e⟩
mutual
theorem Lent.rp (l : Lent M M' H) : ∀ {v : V} {d : D}, Rp mg K (less H M') v d → noL d = true → Rp mg K (less H M) v d
  | _, _, .non, _ => .non
  | _, _, .bl b, _ => .bl b
  | _, _, .int i, _ => .int i
  | _, _, .str x, _ => .str x
  | _, _, .lst h1 h2, e => by cases e
  | _, _, .tup h1 h2, e => by
    rw [noL] at e
    exact .tup (l.at h1 fun xs q => by cases q) (Lent.rpl l h2 e)
  | _, _, .dicK h1 h2, e => by
    rw [noL] at e
    exact .dicK (l.rd h1 fun xs q => by cases q) (Lent.rpl l h2 e)
  | _, _, .dicT h1 h2, e => by
    rw [noL] at e
    exact .dicT (l.rd h1 fun xs q => by cases q) (Lent.rpl l h2 e)
  | _, _, .ins m h1 h2, e => by
    rw [noL] at e
    exact .ins m (l.at h1 fun xs q => by cases q) (Lent.rpl l h2 e)
theorem Lent.rpl (l : Lent M M' H) : ∀ {vs : List V} {ds : List D}, RpL mg K (less H M') vs ds → noLs ds = true → RpL mg K (less H M) vs ds
  | _, _, .nil, _ => .nil
  | _, _, .cons h t, e => by
    rw [noLs, Bool.and_eq_true] at e
    exact .cons (Lent.rp l h e.1) (Lent.rpl l t e.2)
end
theorem Lent.cons (l : Lent M M' H) (p : Addr) : Lent (p :: M) (p :: M') H := fun a h1 h2 => by
  rw [List.mem_cons, not_or] at h1
  rcases List.mem_cons.mp h2 with h2 | h2
  · exact absurd h2 h1.1
  · exact l a h1.2 h2
/-- what an own thing holds has no list -/
def noI : D → Bool
  | .lst ds => noLs ds
  | .dic _ ds => noLs ds
  | .ins _ _ ds => noLs ds
  | _ => false
theorem Lent.hor (l : Lent M M' H) {o : HO} {d : D} (h : HoR mg K (less H M') o d) (e : noI d = true) : HoR mg K (less H M) o d := by
  cases h with
  | lst h => exact .lst (l.rpl h e)
  | dicK h => exact .dicK (l.rpl h e)
  | dicT h => exact .dicT (l.rpl h e)
  | ins m h => exact .ins m (l.rpl h e)
end
def noR (r : Rm) (d : D) : Bool := match r with
  | .o => noI d
  | .t => false
  | _ => noL d
def chk (r : Rm) : Res (D × Pot) → Res (D × Pot)
  | .ok x => if noR r x.1 = true then .ok x else .stuck
  | .err c ns xs π => if noLs xs = true then .err c ns xs π else .stuck
  | .stuck => .stuck
def lentOk : List Ak → List D → Bool
  | .b :: ks, .lst _ :: ds => lentOk ks ds
  | .b :: _, _ => false
  | _ :: ks, _ :: ds => lentOk ks ds
  | _, _ => true
/-- the callee's kinds: what is lent is data there -/
def lendK : List Ak → List Ak
  | .b :: ks => .f :: lendK ks
  | k :: ks => k :: lendK ks
  | [] => []
def eGoL (r : Rm) (ks : List Ak) (m : Fd) (a : Ea) : Ed := fun ρ π => (a ρ π).bind fun x => if lentOk ks x.1 = true then chk r (m x.1 x.2) else .stuck
section
variable {mg : Str → Option Value} {K : PySem.W.Frag} {pot : Option Addr} {M : List Addr} {H : Hp}
/-- M without what is lent -/
theorem args_lend (pm : ∀ a, pot = some a → a ∈ M) : ∀ {ks : List Ak} {vs : List V} {ds : List D}, Args mg K pot M H ks vs ds → lentOk ks ds = true →
    ∀ M1 : List Addr, (∀ a ∈ M1, a ∈ M) → (∀ a, pot = some a → a ∈ M1) → Lent M M1 H → ∃ M', (∀ a ∈ M', a ∈ M1) ∧ (∀ a, pot = some a → a ∈ M') ∧ Lent M M' H ∧ Args mg K pot M' H (lendK ks) vs ds
  | _, _, _, .nil, _, M1, h1, h2, h3 => ⟨M1, fun a h => h, h2, h3, .nil⟩
  | .b :: ks, v :: vs, d :: ds, .cons r t, e, M1, h1, h2, h3 => by
    cases d with
    | lst xs =>
      simp only [lentOk] at e
      rcases (show Rb mg K pot M H v (.lst xs) from r) with r | ⟨p, rfl, np, o, ho, hr⟩
      · obtain ⟨M', a1, a2, a3, a4⟩ := args_lend pm t e M1 h1 h2 h3
        exact ⟨M', a1, a2, a3, .cons (show Rp mg K (less H M') v (.lst xs) from Rp.mono (less_sub fun a h => h1 a (a1 a h)) r) a4⟩
      · cases hr with
        | lst hr =>
          obtain ⟨M', a1, a2, a3, a4⟩ := args_lend pm t e (M1.filter (fun a => a ≠ p)) (fun a h => h1 a (List.mem_filter.mp h).1)
            (fun a q => List.mem_filter.mpr ⟨h2 a q, by simp only [ne_eq, decide_not, Bool.not_eq_eq_eq_not, Bool.not_true, decide_eq_false_iff_not]; exact fun z => np (by rw [q, z])⟩)
            (fun a n1 n2 => by
              by_cases q : a = p
              · exact ⟨_, by rw [q]; exact ho⟩
              · exact h3 a (fun z => n1 (List.mem_filter.mpr ⟨z, by simp [q]⟩)) n2)
          refine ⟨M', fun a h => (List.mem_filter.mp (a1 a h)).1, a2, a3, .cons (show Rp mg K (less H M') (.ref p) (.lst xs) from .lst (less_some.mpr ⟨fun z => ?_, ho⟩) (hr.mono (less_sub fun a h => List.mem_cons_of_mem _ (h1 a (List.mem_filter.mp (a1 a h)).1)))) a4⟩
          have := (List.mem_filter.mp (a1 p z)).2
          simp at this
    | _ => cases e
  | .f :: ks, v :: vs, d :: ds, .cons r t, e, M1, h1, h2, h3 => by
    have e' : lentOk ks ds = true := by cases d <;> exact e
    obtain ⟨M', a1, a2, a3, a4⟩ := args_lend pm t e' M1 h1 h2 h3
    exact ⟨M', a1, a2, a3, .cons (show Rp mg K (less H M') v d from Rp.mono (less_sub fun a h => h1 a (a1 a h)) (show Rp mg K (less H M) v d from r)) a4⟩
  | .p :: ks, v :: vs, d :: ds, .cons r t, e, M1, h1, h2, h3 => by
    have e' : lentOk ks ds = true := by cases d <;> exact e
    obtain ⟨M', a1, a2, a3, a4⟩ := args_lend pm t e' M1 h1 h2 h3
    exact ⟨M', a1, a2, a3, .cons (show ArgR mg K pot M' H .p v d from r) a4⟩
  | .s :: ks, v :: vs, d :: ds, .cons r t, e, M1, h1, h2, h3 => by
    have e' : lentOk ks ds = true := by cases d <;> exact e
    obtain ⟨M', a1, a2, a3, a4⟩ := args_lend pm t e' M1 h1 h2 h3
    obtain ⟨p, ns, z1, z2, z3⟩ := (show ArgR mg K pot M H .s v d from r)
    exact ⟨M', a1, a2, a3, .cons (show ArgR mg K pot M' H .s v d from ⟨p, ns, z1, z2, (less_sub fun a h => h1 a (a1 a h)).seq z3⟩) a4⟩
end
section
variable {mg : Str → Option Value} {K : PySem.W.Frag} {pot : Option Addr} {M M' : List Addr} {H : Hp} {Q : VK} {E : XK} {r : Rm}
theorem Lent.grow {H' : Hp} (l : Lent M M' H) (pm : ∀ a, pot = some a → a ∈ M') (g : Grow pot H H') : Lent M M' H' := fun a h1 h2 => by
  obtain ⟨xs, e⟩ := l a h1 h2
  exact ⟨xs, g a _ (fun q => h1 (pm a q)) e⟩
theorem post_lend {x : Res (D × Pot)} (l : Lent M M' H) (pm : ∀ a, pot = some a → a ∈ M') (h : Post mg K r pot M H (chk r x) Q E) : Post mg K r pot M' H x Q E := by
  cases x with
  | stuck => exact h
  | ok y =>
    obtain ⟨d, π⟩ := y
    simp only [chk] at h
    split at h
    · rename_i hn
      intro v H' g p rr
      have l' := l.grow pm g
      refine h v H' g p ?_
      cases r with
      | t => cases hn
      | f => exact l'.rp rr hn
      | b =>
        rcases (show Rb mg K pot M' H' v d from rr) with q | ⟨b, rfl, np, o, ho, hr⟩
        · exact .inl (l'.rp q hn)
        · cases hr with
          | lst hr => cases hn
          | dicK hr =>
            simp only [noR, noL] at hn
            exact .inr ⟨b, rfl, np, _, ho, .dicK ((l'.cons b).rpl hr hn)⟩
          | dicT hr =>
            simp only [noR, noL] at hn
            exact .inr ⟨b, rfl, np, _, ho, .dicT ((l'.cons b).rpl hr hn)⟩
          | ins m hr =>
            simp only [noR, noL] at hn
            exact .inr ⟨b, rfl, np, _, ho, .ins m ((l'.cons b).rpl hr hn)⟩
      | o =>
        obtain ⟨b, e1, e2, np, o, ho, hr⟩ := rr
        exact ⟨b, e1, e2, np, o, ho, (l'.cons b).hor hr hn⟩
    · exact h.elim
  | err c ns xs π =>
    simp only [chk] at h
    split at h
    · rename_i hn
      intro cv dd H' g p er
      have l' := l.grow pm g
      refine h cv dd H' g p ?_
      obtain ⟨C, m, e, q⟩ := er
      refine ⟨C, m, e, ?_⟩
      rcases q with q | ⟨a, fs, q1, q2, q3, q4, q5⟩
      · exact .inl q
      · refine .inr ⟨a, fs, q1, q2, fun z => ?_, q4, l'.rpl q5 hn⟩
        obtain ⟨xs', e'⟩ := l' a q3 z
        rw [q2] at e'
        cases e'
    · exact h.elim
end
section
variable {X : Cx} {E : XK} {Γ : List Md} {r : Rm} {p pos : Pos} {k j : Nat} {ks kl : List Ak} {tA : TA} {fA : Ea} {e : Expr} {es : List Expr} {x : Str} {st : Stmt} {ps kn : List Str} {m : Fd} {tK : TA} {fK : Ea} {kws : List Keyword}
theorem sem_goL (hk : lendK ks = kl) (hA : SemA X.mg X.K E ks Γ tA fA) : SemE X.mg X.K E r Γ (tGo X.mg X.K kl r m E tA) (eGoL r ks m fA) := fun pot M σ H ρ π I p Q h => by
  refine PostA.seq (ks := ks) (te := tA σ H) h p (fun Q' hq => hA pot M σ H ρ π I p Q' hq) fun ds π1 vs H1 _ g1 p1 r1 h1 => ?_
  simp only at h1
  split at h1
  · rename_i hl
    obtain ⟨M', a1, a2, a3, a4⟩ := args_lend I.pm r1 hl M (fun a h => h) I.pm (fun a n y => absurd y n)
    rw [hk] at a4
    exact ⟨a4.length, pot, M', ds, π1, a4, fun a h => (I.grow g1 p1).al a (a1 a h), a2, p1, post_lend a3 a2 h1⟩
  · exact h1.elim
theorem de_callL (F : DFn X.prog X.w X.K X.mg X.base j x st ps kl r m) (o : XOk X E k)
    (hb : ∀ (kV doc pm : Value) (an : Option Addr) (cdv ct : Value) (us : List Value), us.length = ps.length → bindArgs (PySem.W.fnOf x x (defArgs st) (defBody st) (defScope st) .none kV doc pm an cdv ct) ⟨us, []⟩ = pure (ps.zip us))
    (hA : DA X E ks Γ (e :: es) tA fA) (hk : lendK ks = kl := by rfl) (hj : j ≤ k := by decide) (hg : Gl X x := by rfl) (hdb : (x == ("__debug__" : Str)) = false := by decide) (he : starEach (e :: es) X.env = (false, eval e X.env) :: starEach es X.env := by rfl) (hpl : (backTo pos (starEach es X.env)).any (·.1) = false := by rfl) :
    DE X E r Γ (.Call (.Name x p) (e :: es) [] pos) (tGo X.mg X.K kl r m E tA) (eGoL r ks m fA) :=
  ⟨⟨fun pins s σ H Q I h => by
    obtain ⟨f, fd, h1, h2, h3⟩ := F.ex
    refine wpAny_Call_Name_kw (ld_glob I hg h1 ?_ hdb)
    refine PySem.W.callWith_K (h₀ := X.base) I.ok.mod.kin h2.kp (thn (hA.pa.run pos pins s σ H _ I h) fun us s1 ⟨vs, H1, I1, rl, q⟩ => ⟨I1.kIn, ?_⟩) he hpl
    have hl : us.length = ps.length := by
      rw [← rl.length]
      exact h3.len _ _ _ _ q
    have bd : BindsTo s1 fd ⟨us, ([] : List Str).zip ([] : List Value)⟩ (ps.zip (us ++ [])) := by
      obtain ⟨oc, od, kV, doc, pm, an, cdv, ct, osl, rfl, lk, hcd⟩ := h2.ex
      rw [List.append_nil]
      exact .of_eq (hb kV doc pm an cdv ct us hl)
    exact run_go (args := ⟨us, []⟩) (kn := []) (ws := []) h3 o hj bd I1 (by rw [List.append_nil]; exact rl) q⟩, sem_goL hk hA.sem⟩
end
end DL
set_option maxHeartbeats 2000000
namespace DL
open PySem PySem.Spec PyProof.Rows L2
def rp {α : Type} (π : Pot) : Res (α × Pot) → Res (α × Pot)
  | .ok a => .ok (a.1, π)
  | .err c ns xs _ => .err c ns xs π
  | .stuck => .stuck
def PA {α : Type} (m : Pot → Res (α × Pot)) : Prop := ∀ π π', m π' = rp π' (m π)
def PX {α : Type} (m : Rho → Pot → Res (α × Pot)) : Prop := ∀ ρ, PA (m ρ)
def PF (m : Fd) : Prop := ∀ ds, PA (m ds)
def PI (m : Fi) : Prop := ∀ d ρ, PA (m d ρ)
section
variable {α β : Type}
theorem pa_ok (a : α) : PA fun π => .ok (a, π) := fun _ _ => rfl
theorem pa_st : PA fun _ => (Res.stuck : Res (α × Pot)) := fun _ _ => rfl
theorem pa_bind {m : Pot → Res (α × Pot)} {k : α × Pot → Res (β × Pot)} (h : PA m) (hk : ∀ a, PA fun π => k (a, π)) : PA fun π => (m π).bind k := fun π π' => by
  show (m π').bind k = rp π' ((m π).bind k)
  rw [h π π']
  cases m π with
  | ok a => exact hk a.1 a.2 π'
  | err c ns xs q => rfl
  | stuck => rfl
theorem pa_ofO {γ : Type} {o : Option γ} {k : γ → Pot → Res (β × Pot)} (hk : ∀ a, PA (k a)) : PA fun π => (ofO o).bind fun a => k a π := by
  cases o with
  | none => exact pa_st
  | some a => exact hk a
theorem pa_ofO1 {γ : Type} {o : Option γ} {f : γ → β} : PA fun π => (ofO o).bind fun a => (.ok (f a, π) : Res (β × Pot)) := pa_ofO fun a => pa_ok _
theorem pa_if {c : Prop} {i : Pot → Decidable c} {m n : Pot → Res (α × Pot)} (h : PA m) (h2 : PA n) : PA fun π => @ite _ c (i π) (m π) (n π) := by
  by_cases q : c
  · simp only [if_pos q]
    exact h
  · simp only [if_neg q]
    exact h2
theorem pa_safe {m : Pot → Res (α × Pot)} (h : PA m) : PA fun π => safe (m π) := fun π π' => by
  show safe (m π') = rp π' (safe (m π))
  rw [h π π']
  cases m π <;> rfl
end
section
variable {a b c : Ed} {t t2 : Et} {x : Ea} {fi : Ei} {l u : Eo} {s s2 : Fs} {m : Fd} {g g' : D → D → Option D} {fg : D → Rho → Option Rho}
theorem pu_var {i : Nat} : PX (eVar i) := fun ρ => by
  unfold eVar
  split
  · exact pa_ok _
  · exact pa_st
theorem pu_c {d : D} : PX (eC d) := fun ρ => pa_ok _
theorem pu_bin (ha : PX a) (hb : PX b) : PX (eBin g a b) := by
  intro ρ
  unfold eBin
  repeat' first
    | exact pa_ok _
    | exact pa_st
    | exact pa_ofO1
    | refine pa_bind (ha _) fun x => ?_
    | exact ha _
    | refine pa_bind (pa_chk (ha _)) fun x => ?_
    | refine pa_bind (hb _) fun x => ?_
    | exact hb _
    | refine pa_bind (pa_chk (hb _)) fun x => ?_
    | (apply pa_if)
    | (apply pa_ofO; intro k)
    | (dsimp only)
    | split
theorem pu_un {g : D → Option D} (ha : PX a) : PX (eUn g a) := by
  intro ρ
  unfold eUn
  repeat' first
    | exact pa_ok _
    | exact pa_st
    | exact pa_ofO1
    | refine pa_bind (ha _) fun x => ?_
    | exact ha _
    | refine pa_bind (pa_chk (ha _)) fun x => ?_
    | (apply pa_if)
    | (apply pa_ofO; intro k)
    | (dsimp only)
    | split
theorem pu_and (ha : PX a) (hb : PX b) : PX (eAnd a b) := by
  intro ρ
  unfold eAnd
  repeat' first
    | exact pa_ok _
    | exact pa_st
    | exact pa_ofO1
    | refine pa_bind (ha _) fun x => ?_
    | exact ha _
    | refine pa_bind (pa_chk (ha _)) fun x => ?_
    | refine pa_bind (hb _) fun x => ?_
    | exact hb _
    | refine pa_bind (pa_chk (hb _)) fun x => ?_
    | (apply pa_if)
    | (apply pa_ofO; intro k)
    | (dsimp only)
    | split
theorem pu_or (ha : PX a) (hb : PX b) : PX (eOr a b) := by
  intro ρ
  unfold eOr
  repeat' first
    | exact pa_ok _
    | exact pa_st
    | exact pa_ofO1
    | refine pa_bind (ha _) fun x => ?_
    | exact ha _
    | refine pa_bind (pa_chk (ha _)) fun x => ?_
    | refine pa_bind (hb _) fun x => ?_
    | exact hb _
    | refine pa_bind (pa_chk (hb _)) fun x => ?_
    | (apply pa_if)
    | (apply pa_ofO; intro k)
    | (dsimp only)
    | split
theorem pu_not (ha : PX a) : PX (eNot a) := by
  intro ρ
  unfold eNot
  repeat' first
    | exact pa_ok _
    | exact pa_st
    | exact pa_ofO1
    | refine pa_bind (ha _) fun x => ?_
    | exact ha _
    | refine pa_bind (pa_chk (ha _)) fun x => ?_
    | (apply pa_if)
    | (apply pa_ofO; intro k)
    | (dsimp only)
    | split
theorem pu_eif (ht : PX t) (ha : PX a) (hb : PX b) : PX (eIf t a b) := by
  intro ρ
  unfold eIf
  repeat' first
    | exact pa_ok _
    | exact pa_st
    | exact pa_ofO1
    | refine pa_bind (ht _) fun x => ?_
    | exact ht _
    | refine pa_bind (pa_chk (ht _)) fun x => ?_
    | refine pa_bind (ha _) fun x => ?_
    | exact ha _
    | refine pa_bind (pa_chk (ha _)) fun x => ?_
    | refine pa_bind (hb _) fun x => ?_
    | exact hb _
    | refine pa_bind (pa_chk (hb _)) fun x => ?_
    | (apply pa_if)
    | (apply pa_ofO; intro k)
    | (dsimp only)
    | split
theorem pu_anil : PX aNil := by
  intro ρ
  unfold aNil
  repeat' first
    | exact pa_ok _
    | exact pa_st
    | exact pa_ofO1
    | (apply pa_if)
    | (apply pa_ofO; intro k)
    | (dsimp only)
    | split
theorem pu_acons (ha : PX a) (hx : PX x) : PX (aCons a x) := by
  intro ρ
  unfold aCons
  repeat' first
    | exact pa_ok _
    | exact pa_st
    | exact pa_ofO1
    | refine pa_bind (ha _) fun x => ?_
    | exact ha _
    | refine pa_bind (pa_chk (ha _)) fun x => ?_
    | refine pa_bind (hx _) fun x => ?_
    | exact hx _
    | refine pa_bind (pa_chk (hx _)) fun x => ?_
    | (apply pa_if)
    | (apply pa_ofO; intro k)
    | (dsimp only)
    | split
theorem pu_tup (hx : PX x) : PX (eTup x) := by
  intro ρ
  unfold eTup
  repeat' first
    | exact pa_ok _
    | exact pa_st
    | exact pa_ofO1
    | refine pa_bind (hx _) fun x => ?_
    | exact hx _
    | refine pa_bind (pa_chk (hx _)) fun x => ?_
    | (apply pa_if)
    | (apply pa_ofO; intro k)
    | (dsimp only)
    | split
theorem pu_lst (hx : PX x) : PX (eLst x) := by
  intro ρ
  unfold eLst
  repeat' first
    | exact pa_ok _
    | exact pa_st
    | exact pa_ofO1
    | refine pa_bind (hx _) fun x => ?_
    | exact hx _
    | refine pa_bind (pa_chk (hx _)) fun x => ?_
    | (apply pa_if)
    | (apply pa_ofO; intro k)
    | (dsimp only)
    | split
theorem pu_app {g : List D → Option D} (hx : PX x) : PX (eApp g x) := by
  intro ρ
  unfold eApp
  repeat' first
    | exact pa_ok _
    | exact pa_st
    | exact pa_ofO1
    | refine pa_bind (hx _) fun x => ?_
    | exact hx _
    | refine pa_bind (pa_chk (hx _)) fun x => ?_
    | (apply pa_if)
    | (apply pa_ofO; intro k)
    | (dsimp only)
    | split
theorem pu_tof (ha : PX a) : PX (tOf a) := by
  intro ρ
  unfold tOf
  repeat' first
    | exact pa_ok _
    | exact pa_st
    | exact pa_ofO1
    | refine pa_bind (ha _) fun x => ?_
    | exact ha _
    | refine pa_bind (pa_chk (ha _)) fun x => ?_
    | (apply pa_if)
    | (apply pa_ofO; intro k)
    | (dsimp only)
    | split
theorem pu_tbl (ha : PX a) : PX (tBl a) := by
  intro ρ
  unfold tBl
  repeat' first
    | exact pa_ok _
    | exact pa_st
    | exact pa_ofO1
    | refine pa_bind (ha _) fun x => ?_
    | exact ha _
    | refine pa_bind (pa_chk (ha _)) fun x => ?_
    | (apply pa_if)
    | (apply pa_ofO; intro k)
    | (dsimp only)
    | split
theorem pu_tand (ha : PX t) (hb : PX t2) : PX (tAndD t t2) := by
  intro ρ
  unfold tAndD
  repeat' first
    | exact pa_ok _
    | exact pa_st
    | exact pa_ofO1
    | refine pa_bind (ha _) fun x => ?_
    | exact ha _
    | refine pa_bind (pa_chk (ha _)) fun x => ?_
    | refine pa_bind (hb _) fun x => ?_
    | exact hb _
    | refine pa_bind (pa_chk (hb _)) fun x => ?_
    | (apply pa_if)
    | (apply pa_ofO; intro k)
    | (dsimp only)
    | split
theorem pu_tor (ha : PX t) (hb : PX t2) : PX (tOrD t t2) := by
  intro ρ
  unfold tOrD
  repeat' first
    | exact pa_ok _
    | exact pa_st
    | exact pa_ofO1
    | refine pa_bind (ha _) fun x => ?_
    | exact ha _
    | refine pa_bind (pa_chk (ha _)) fun x => ?_
    | refine pa_bind (hb _) fun x => ?_
    | exact hb _
    | refine pa_bind (pa_chk (hb _)) fun x => ?_
    | (apply pa_if)
    | (apply pa_ofO; intro k)
    | (dsimp only)
    | split
theorem pu_tnot (ha : PX t) : PX (tNotD t) := by
  intro ρ
  unfold tNotD
  repeat' first
    | exact pa_ok _
    | exact pa_st
    | exact pa_ofO1
    | refine pa_bind (ha _) fun x => ?_
    | exact ha _
    | refine pa_bind (pa_chk (ha _)) fun x => ?_
    | (apply pa_if)
    | (apply pa_ofO; intro k)
    | (dsimp only)
    | split
theorem pu_true : PX tTrue := by
  intro ρ
  unfold tTrue
  repeat' first
    | exact pa_ok _
    | exact pa_st
    | exact pa_ofO1
    | (apply pa_if)
    | (apply pa_ofO; intro k)
    | (dsimp only)
    | split
theorem pu_chain (ha : PX a) (hb : PX b) (hc : PX c) : PX (eChain g g' a b c) := by
  intro ρ
  unfold eChain
  repeat' first
    | exact pa_ok _
    | exact pa_st
    | exact pa_ofO1
    | refine pa_bind (ha _) fun x => ?_
    | exact ha _
    | refine pa_bind (pa_chk (ha _)) fun x => ?_
    | refine pa_bind (hb _) fun x => ?_
    | exact hb _
    | refine pa_bind (pa_chk (hb _)) fun x => ?_
    | refine pa_bind (hc _) fun x => ?_
    | exact hc _
    | refine pa_bind (pa_chk (hc _)) fun x => ?_
    | (apply pa_if)
    | (apply pa_ofO; intro k)
    | (dsimp only)
    | split
theorem pu_onone : PX oNone := by
  intro ρ
  unfold oNone
  repeat' first
    | exact pa_ok _
    | exact pa_st
    | exact pa_ofO1
    | (apply pa_if)
    | (apply pa_ofO; intro k)
    | (dsimp only)
    | split
theorem pu_osome (ha : PX a) : PX (oSome a) := by
  intro ρ
  unfold oSome
  repeat' first
    | exact pa_ok _
    | exact pa_st
    | exact pa_ofO1
    | refine pa_bind (ha _) fun x => ?_
    | exact ha _
    | refine pa_bind (pa_chk (ha _)) fun x => ?_
    | (apply pa_if)
    | (apply pa_ofO; intro k)
    | (dsimp only)
    | split
theorem pu_sl (ha : PX a) (hl : PX l) (hu : PX u) : PX (eSl a l u) := by
  intro ρ
  unfold eSl
  repeat' first
    | exact pa_ok _
    | exact pa_st
    | exact pa_ofO1
    | refine pa_bind (ha _) fun x => ?_
    | exact ha _
    | refine pa_bind (pa_chk (ha _)) fun x => ?_
    | refine pa_bind (hl _) fun x => ?_
    | exact hl _
    | refine pa_bind (pa_chk (hl _)) fun x => ?_
    | refine pa_bind (hu _) fun x => ?_
    | exact hu _
    | refine pa_bind (pa_chk (hu _)) fun x => ?_
    | (apply pa_if)
    | (apply pa_ofO; intro k)
    | (dsimp only)
    | split
theorem pu_ival (ha : PX a) : PX (iVal a) := by
  intro ρ
  unfold iVal
  repeat' first
    | exact pa_ok _
    | exact pa_st
    | exact pa_ofO1
    | refine pa_bind (ha _) fun x => ?_
    | exact ha _
    | refine pa_bind (pa_chk (ha _)) fun x => ?_
    | (apply pa_if)
    | (apply pa_ofO; intro k)
    | (dsimp only)
    | split
theorem pu_irng (hx : PX x) : PX (iRng x) := by
  intro ρ
  unfold iRng
  repeat' first
    | exact pa_ok _
    | exact pa_st
    | exact pa_ofO1
    | refine pa_bind (hx _) fun x => ?_
    | exact hx _
    | refine pa_bind (pa_chk (hx _)) fun x => ?_
    | (apply pa_if)
    | (apply pa_ofO; intro k)
    | (dsimp only)
    | split
theorem pu_irngdown (hx : PX x) : PX (iRngDown x) := by
  intro ρ
  unfold iRngDown
  repeat' first
    | exact pa_ok _
    | exact pa_st
    | exact pa_ofO1
    | refine pa_bind (hx _) fun x => ?_
    | exact hx _
    | refine pa_bind (pa_chk (hx _)) fun x => ?_
    | (apply pa_if)
    | (apply pa_ofO; intro k)
    | (dsimp only)
    | split
theorem pu_ienumd (hx : PX x) : PX (iEnumD x) := by
  intro ρ
  unfold iEnumD
  repeat' first
    | exact pa_ok _
    | exact pa_st
    | exact pa_ofO1
    | refine pa_bind (hx _) fun x => ?_
    | exact hx _
    | refine pa_bind (pa_chk (hx _)) fun x => ?_
    | (apply pa_if)
    | (apply pa_ofO; intro k)
    | (dsimp only)
    | split
theorem pa_lcgo (ht : PX t) (ha : PX a) (ρ : Rho) : ∀ ds, PA fun π => lcGo fg t a ρ ds π
  | [] => pa_ok _
  | d :: ds => by
    unfold lcGo
    apply pa_ofO
    intro ρ1
    refine pa_bind (pa_safe (ht ρ1)) fun b => ?_
    dsimp only
    apply pa_if
    · refine pa_bind (pa_safe (ha ρ1)) fun x => ?_
      dsimp only
      refine pa_bind (pa_lcgo ht ha ρ ds) fun r => ?_
      exact pa_ok (x :: r)
    · exact pa_lcgo ht ha ρ ds
theorem pu_lc {vs : List Nat} (hi : PX fi) (ht : PX t) (ha : PX a) : PX (eLC fi fg t a vs) := by
  intro ρ
  unfold eLC
  repeat' first
    | refine pa_bind (pa_lcgo ht ha _ _) fun x => ?_
    | exact pa_ok _
    | exact pa_st
    | exact pa_ofO1
    | refine pa_bind (hi _) fun x => ?_
    | exact hi _
    | refine pa_bind (pa_chk (hi _)) fun x => ?_
    | refine pa_bind (ht _) fun x => ?_
    | exact ht _
    | refine pa_bind (pa_chk (ht _)) fun x => ?_
    | refine pa_bind (ha _) fun x => ?_
    | exact ha _
    | refine pa_bind (pa_chk (ha _)) fun x => ?_
    | (apply pa_if)
    | (apply pa_ofO; intro k)
    | (dsimp only)
    | split
theorem pu_go (hm : PF m) (hx : PX x) : PX (eGo m x) := by
  intro ρ
  unfold eGo
  repeat' first
    | exact pa_ok _
    | exact pa_st
    | exact pa_ofO1
    | exact hm _
    | exact pa_chk (hm _)
    | refine pa_bind (hx _) fun x => ?_
    | exact hx _
    | refine pa_bind (pa_chk (hx _)) fun x => ?_
    | (apply pa_if)
    | (apply pa_ofO; intro k)
    | (dsimp only)
    | split
theorem pa_chk {r : Rm} {m : Pot → Res (D × Pot)} (h : PA m) : PA fun π => chk r (m π) := fun π π' => by
  show chk r (m π') = rp π' (chk r (m π))
  rw [h π π']
  cases m π with
  | ok a =>
    show (if noR r a.1 = true then _ else _) = rp π' (if noR r a.1 = true then _ else _)
    split <;> rfl
  | err c ns xs q =>
    show (if noLs xs = true then _ else _) = rp π' (if noLs xs = true then _ else _)
    split <;> rfl
  | stuck => rfl
theorem pu_next : PX sNext := by
  intro ρ
  unfold sNext
  repeat' first
    | exact pa_ok _
    | exact pa_st
    | exact pa_ofO1
    | (apply pa_if)
    | (apply pa_ofO; intro k)
    | (dsimp only)
    | split
theorem pu_stuck : PX sStuck := by
  intro ρ
  unfold sStuck
  repeat' first
    | exact pa_ok _
    | exact pa_st
    | exact pa_ofO1
    | (apply pa_if)
    | (apply pa_ofO; intro k)
    | (dsimp only)
    | split
theorem pu_ret (ha : PX a) : PX (sRet a) := by
  intro ρ
  unfold sRet
  repeat' first
    | exact pa_ok _
    | exact pa_st
    | exact pa_ofO1
    | refine pa_bind (ha _) fun x => ?_
    | exact ha _
    | refine pa_bind (pa_chk (ha _)) fun x => ?_
    | (apply pa_if)
    | (apply pa_ofO; intro k)
    | (dsimp only)
    | split
theorem pu_expr (ha : PX a) : PX (sExpr a) := by
  intro ρ
  unfold sExpr
  repeat' first
    | exact pa_ok _
    | exact pa_st
    | exact pa_ofO1
    | refine pa_bind (ha _) fun x => ?_
    | exact ha _
    | refine pa_bind (pa_chk (ha _)) fun x => ?_
    | (apply pa_if)
    | (apply pa_ofO; intro k)
    | (dsimp only)
    | split
theorem pu_set {i : Nat} (ha : PX a) : PX (sSet i a) := by
  intro ρ
  unfold sSet
  repeat' first
    | exact pa_ok _
    | exact pa_st
    | exact pa_ofO1
    | refine pa_bind (ha _) fun x => ?_
    | exact ha _
    | refine pa_bind (pa_chk (ha _)) fun x => ?_
    | (apply pa_if)
    | (apply pa_ofO; intro k)
    | (dsimp only)
    | split
theorem pu_par {i j : Nat} (ha : PX a) (hb : PX b) : PX (sPar i j a b) := by
  intro ρ
  unfold sPar
  repeat' first
    | exact pa_ok _
    | exact pa_st
    | exact pa_ofO1
    | refine pa_bind (ha _) fun x => ?_
    | exact ha _
    | refine pa_bind (pa_chk (ha _)) fun x => ?_
    | refine pa_bind (hb _) fun x => ?_
    | exact hb _
    | refine pa_bind (pa_chk (hb _)) fun x => ?_
    | (apply pa_if)
    | (apply pa_ofO; intro k)
    | (dsimp only)
    | split
theorem pu_unp (ha : PX a) : PX (sUnp a fg) := by
  intro ρ
  unfold sUnp
  repeat' first
    | exact pa_ok _
    | exact pa_st
    | exact pa_ofO1
    | refine pa_bind (ha _) fun x => ?_
    | exact ha _
    | refine pa_bind (pa_chk (ha _)) fun x => ?_
    | (apply pa_if)
    | (apply pa_ofO; intro k)
    | (dsimp only)
    | split
theorem pu_if (ht : PX t) (hs : PX s) (hs2 : PX s2) : PX (sIf t s s2) := by
  intro ρ
  unfold sIf
  repeat' first
    | exact pa_ok _
    | exact pa_st
    | exact pa_ofO1
    | refine pa_bind (ht _) fun x => ?_
    | exact ht _
    | refine pa_bind (pa_chk (ht _)) fun x => ?_
    | refine pa_bind (hs _) fun x => ?_
    | exact hs _
    | refine pa_bind (pa_chk (hs _)) fun x => ?_
    | refine pa_bind (hs2 _) fun x => ?_
    | exact hs2 _
    | refine pa_bind (pa_chk (hs2 _)) fun x => ?_
    | (apply pa_if)
    | (apply pa_ofO; intro k)
    | (dsimp only)
    | split
theorem pu_seq (hs : PX s) (hs2 : PX s2) : PX (sSeq s s2) := by
  intro ρ
  unfold sSeq
  repeat' first
    | exact pa_ok _
    | exact pa_st
    | exact pa_ofO1
    | refine pa_bind (hs _) fun x => ?_
    | exact hs _
    | refine pa_bind (pa_chk (hs _)) fun x => ?_
    | refine pa_bind (hs2 _) fun x => ?_
    | exact hs2 _
    | refine pa_bind (pa_chk (hs2 _)) fun x => ?_
    | (apply pa_if)
    | (apply pa_ofO; intro k)
    | (dsimp only)
    | split
theorem pa_forgo (hs : PX s) : ∀ ds ρ, PA fun π => forGo fg s ds ρ π
  | [], ρ => pa_ok _
  | d :: ds, ρ => pa_ofO fun ρ1 => pa_bind (hs ρ1) fun y => by
    cases y with
    | nx ρ2 => exact pa_forgo hs ds ρ2
    | ct ρ2 => exact pa_forgo hs ds ρ2
    | bk ρ2 => exact pa_ok _
    | rt d => exact pa_ok _
theorem pu_for (hi : PX fi) (hs : PX s) : PX (sFor fi fg s) := by
  intro ρ
  unfold sFor
  repeat' first
    | exact pa_forgo hs _ _
    | exact pa_ok _
    | exact pa_st
    | exact pa_ofO1
    | refine pa_bind (hi _) fun x => ?_
    | exact hi _
    | refine pa_bind (pa_chk (hi _)) fun x => ?_
    | refine pa_bind (hs _) fun x => ?_
    | exact hs _
    | refine pa_bind (pa_chk (hs _)) fun x => ?_
    | (apply pa_if)
    | (apply pa_ofO; intro k)
    | (dsimp only)
    | split
theorem pa_whilego (ht : PX t) (hs : PX s) : ∀ n ρ, PA fun π => whileGo t s n ρ π
  | 0, ρ => pa_st
  | n + 1, ρ => by
    unfold whileGo
    refine pa_bind (ht ρ) fun x => ?_
    dsimp only
    apply pa_if
    · refine pa_bind (hs ρ) fun y => ?_
      cases y with
      | nx ρ2 => exact pa_whilego ht hs n ρ2
      | ct ρ2 => exact pa_whilego ht hs n ρ2
      | bk ρ2 => exact pa_ok _
      | rt d => exact pa_ok _
    · exact pa_ok _
theorem pu_while (ht : PX t) (hs : PX s) : PX (sWhile t s) := fun ρ => pa_whilego ht hs _ _
theorem pu_mut {i : Nat} {f : D → List D → Option (List D)} (ha : PX a) : PX (sMut i a f) := by
  intro ρ
  unfold sMut
  repeat' first
    | exact pa_ok _
    | exact pa_st
    | exact pa_ofO1
    | refine pa_bind (ha _) fun x => ?_
    | exact ha _
    | refine pa_bind (pa_chk (ha _)) fun x => ?_
    | (apply pa_if)
    | (apply pa_ofO; intro k)
    | (dsimp only)
    | split
theorem pu_sapp {i : Nat} (ha : PX a) : PX (sApp i a) := pu_mut ha
theorem pu_ext {i : Nat} (ha : PX a) : PX (sExt i a) := pu_mut ha
theorem pu_augix {i : Nat} {g : Int → Int → Int} (ha : PX a) (hb : PX b) : PX (sAugIx i g a b) := by
  intro ρ
  unfold sAugIx
  repeat' first
    | exact pa_ok _
    | exact pa_st
    | exact pa_ofO1
    | refine pa_bind (ha _) fun x => ?_
    | exact ha _
    | refine pa_bind (pa_chk (ha _)) fun x => ?_
    | refine pa_bind (hb _) fun x => ?_
    | exact hb _
    | refine pa_bind (pa_chk (hb _)) fun x => ?_
    | (apply pa_if)
    | (apply pa_ofO; intro k)
    | (dsimp only)
    | split
theorem pu_aug {i : Nat} {g : Int → Int → Int} (ha : PX a) : PX (sAug i g a) := by
  intro ρ
  unfold sAug
  repeat' first
    | exact pa_ok _
    | exact pa_st
    | exact pa_ofO1
    | refine pa_bind (ha _) fun x => ?_
    | exact ha _
    | refine pa_bind (pa_chk (ha _)) fun x => ?_
    | (apply pa_if)
    | (apply pa_ofO; intro k)
    | (dsimp only)
    | split
theorem pu_runD {n : Nat} {r : Rm} (hs : PX s) : PF (runD n r s) := by
  intro ds
  unfold runD
  repeat' first
    | exact pa_ok _
    | exact pa_st
    | exact pa_ofO1
    | refine pa_bind (hs _) fun x => ?_
    | exact hs _
    | refine pa_bind (pa_chk (hs _)) fun x => ?_
    | (apply pa_if)
    | (apply pa_ofO; intro k)
    | (dsimp only)
    | split
theorem pu_inil : PI iNil := fun d ρ => pa_ok _
theorem pu_ifld {f : Str} {fi : Fi} (ha : PX a) (h : PI fi) : PI (iFld f a fi) := by
  intro d ρ
  unfold iFld
  repeat' first
    | exact pa_ok _
    | exact pa_st
    | exact pa_ofO1
    | refine pa_bind (ha _) fun x => ?_
    | exact ha _
    | refine pa_bind (pa_chk (ha _)) fun x => ?_
    | exact h _ _
    | refine pa_bind (h _ _) fun x => ?_
    | (apply pa_if)
    | (apply pa_ofO; intro k)
    | (dsimp only)
    | split
theorem pu_ick {c : Str} {fi : Fi} (h : PI fi) : PI (iCk c fi) := by
  intro d ρ
  unfold iCk
  repeat' first
    | exact pa_ok _
    | exact pa_st
    | exact pa_ofO1
    | exact h _ _
    | refine pa_bind (h _ _) fun x => ?_
    | (apply pa_if)
    | (apply pa_ofO; intro k)
    | (dsimp only)
    | split
theorem pu_runI {n : Nat} {c : Str} {fi : Fi} (h : PI fi) : PF (runI n c fi) := by
  intro ds
  unfold runI
  repeat' first
    | exact pa_ok _
    | exact pa_st
    | exact pa_ofO1
    | exact h _ _
    | refine pa_bind (h _ _) fun x => ?_
    | (apply pa_if)
    | (apply pa_ofO; intro k)
    | (dsimp only)
    | split
end
/-- what a pure meaning gives at some pot it gives at each one -/
theorem PF.ok {m : Fd} (h : PF m) {ds : List D} {π0 π1 : Pot} {d : D} (e : m ds π0 = .ok (d, π1)) (π : Pot) : m ds π = .ok (d, π) := by
  rw [h ds π0 π, e]
  rfl
def isT : Res (D × Pot) → Bool
  | .ok (.bl b, _) => b
  | _ => false
theorem isT_ok {r : Res (D × Pot)} (h : isT r = true) : ∃ π, r = .ok (.bl true, π) := by
  unfold isT at h
  split at h
  · subst h
    exact ⟨_, rfl⟩
  · cases h
theorem PF.t {m : Fd} (h : PF m) {ds : List D} {π0 : Pot} (e : isT (m ds π0) = true) (π : Pot) : m ds π = .ok (.bl true, π) := by
  obtain ⟨π1, e1⟩ := isT_ok e
  exact h.ok e1 π
end DL
set_option maxHeartbeats 2000000
namespace DL
open PySem PySem.Spec PyProof.Rows L2
mutual
def beqD : D → D → Bool
  | .non, .non => true
  | .bl a, .bl b => a == b
  | .int a, .int b => decide (a = b)
  | .str a, .str b => decide (a = b)
  | .lst xs, .lst ys => beqL xs ys
  | .tup xs, .tup ys => beqL xs ys
  | .dic ks xs, .dic ls ys => decide (ks = ls) && beqL xs ys
  | .ins c ns xs, .ins d ms ys => decide (c = d) && decide (ns = ms) && beqL xs ys
  | _, _ => false
def beqL : List D → List D → Bool
  | [], [] => true
  | x :: xs, y :: ys => beqD x y && beqL xs ys
  | _, _ => false
end
mutual
theorem beqD_eq : ∀ {a b : D}, beqD a b = true → a = b
  | .non, b, h => by
    cases b <;> simp [beqD] at h
    rfl
  | .bl a, b, h => by
    cases b <;> simp [beqD] at h
    rw [h]
  | .int a, b, h => by
    cases b <;> simp [beqD] at h
    rw [h]
  | .str a, b, h => by
    cases b <;> simp [beqD] at h
    rw [h]
  | .lst xs, b, h => by
    cases b <;> simp [beqD] at h
    rw [beqL_eq h]
  | .tup xs, b, h => by
    cases b <;> simp [beqD] at h
    rw [beqL_eq h]
  | .dic ks xs, b, h => by
    cases b <;> simp [beqD] at h
    rw [h.1, beqL_eq h.2]
  | .ins c ns xs, b, h => by
    cases b <;> simp [beqD] at h
    rw [h.1.1, h.1.2, beqL_eq h.2]
theorem beqL_eq : ∀ {xs ys : List D}, beqL xs ys = true → xs = ys
  | [], ys, h => by
    cases ys <;> simp [beqL] at h
    rfl
  | x :: xs, ys, h => by
    cases ys <;> simp [beqL] at h
    rw [beqD_eq h.1, beqL_eq h.2]
end
def isR (r : Res (D × Pot)) (d : D) : Bool := match r with
  | .ok (e, _) => beqD e d
  | _ => false
theorem isR_ok {r : Res (D × Pot)} {d : D} (h : isR r d = true) : ∃ π, r = .ok (d, π) := by
  unfold isR at h
  split at h
  · rw [← beqD_eq h]
    exact ⟨_, rfl⟩
  · cases h
theorem PF.r {m : Fd} (h : PF m) {ds : List D} {π0 : Pot} {d : D} (e : isR (m ds π0) d = true) (π : Pot) : m ds π = .ok (d, π) := by
  obtain ⟨π1, e1⟩ := isR_ok e
  exact h.ok e1 π
/-- a piece that ends with a value -/
def isO (r : Res (Out × Pot)) (d : D) : Bool := match r with
  | .ok (.rt e, _) => beqD e d
  | _ => false
theorem PX.o {m : Fs} (h : PX m) {ρ : Rho} {π0 : Pot} {d : D} (e : isO (m ρ π0) d = true) (π : Pot) : m ρ π = .ok (.rt d, π) := by
  rw [h ρ π0 π]
  unfold isO at e
  split at e
  · rename_i q
    rw [q, beqD_eq e]
    rfl
  · cases e
theorem PX.r {m : Ed} (h : PX m) {ρ : Rho} {π0 : Pot} {d : D} (e : isR (m ρ π0) d = true) (π : Pot) : m ρ π = .ok (d, π) := by
  obtain ⟨π1, e1⟩ := isR_ok e
  rw [h ρ π0 π, e1]
  rfl
theorem kit_ty {K : PySem.W.Frag} {C : Addr} {T : String} {b : Bool} (i : PySem.W.isClsIn K C = true) (t : PySem.W.typeIn K (.ref C) = some (.type "type")) (s : PySem.W.subIn K (.type T) (.ref C) = some b) : PySem.W.kitOne K (.type T) (.ref C) = some b := by
  unfold PySem.W.kitOne
  rw [if_neg (by intro h; cases h)]
  unfold PySem.W.kitCls
  unfold PySem.W.isClsIn at i
  simp only [i, t, Bool.true_and, beq_self_eq_true, if_true]
  exact s
theorem kit_self {K : PySem.W.Frag} {C : Addr} : PySem.W.kitOne K (.ref C) (.ref C) = some true := by
  unfold PySem.W.kitOne
  rw [if_pos (by simp)]
theorem kit_ref {K : PySem.W.Frag} {C D : Addr} {b : Bool} (n : (D == C) = false) (i : PySem.W.isClsIn K C = true) (t : PySem.W.typeIn K (.ref C) = some (.type "type")) (s : PySem.W.subIn K (.ref D) (.ref C) = some b) : PySem.W.kitOne K (.ref D) (.ref C) = some b := by
  unfold PySem.W.kitOne
  rw [if_neg (by
    intro h
    have h : (Value.ref D) = .ref C := by simpa using h
    cases h
    simp at n)]
  unfold PySem.W.kitCls
  unfold PySem.W.isClsIn at i
  simp only [i, t, Bool.true_and, beq_self_eq_true, if_true]
  exact s
end DL
set_option maxHeartbeats 2000000
namespace DL
open PySem PySem.Spec PyProof.Rows L2
section
variable {mg : Str → Option Value} {K : PySem.W.Frag} {pot : Option Addr} {M M0 M1 : List Addr} {H H0 H1 H2 B : Hp} {π π1 : Pot} {Γ Γl Γ' : List Md} {σ : L2.St} {ρ : Rho} {v : V} {d : D} {r : Rm} {E : XK}
/-- a slot is no longer looked at -/
theorem SOk.forget (S : SOk mg K Γ pot M0 H0 B M σ H ρ) (i : Nat) : SOk mg K (Γ.set i .u) pot M0 H0 B M σ H ρ := by
  have I := S.env
  have key : ∀ {j : Nat} {m : Md}, m ≠ .u → (Γ.set i .u)[j]? = some m → Γ[j]? = some m := fun {j m} n h => by
    rcases set_at h with ⟨_, e, _⟩ | ⟨_, e⟩
    · exact absurd e n
    · exact e
  exact ⟨⟨by simp [I.ls], by simp [I.lr], fun j e h => I.f j e (key (by decide) h), fun j e h => I.o j e (key (by decide) h), fun j h => I.p j (key (by decide) h), fun j e h => I.s j e (key (by decide) h), fun j k a b c h1 h2 => I.ap j k a b c (key (by decide) h1) (key (by decide) h2), I.al, I.pm⟩,
    S.gr, S.sub, fun j e a h => S.ow j e a (key (by decide) h), S.m0, S.bs⟩
end
section
variable {X : Cx} {E : XK} {r r' ra rb rc : Rm} {Γl Γ Γ1 Γ' : List Md} {pos : Pos} {k : Nat} {e a b c : Expr} {te ta tb tc ti : TE} {fe fa fb fc fk : Ed} {st : Stmt} {sts body : List Stmt} {ts us : TS} {fs gs : Fs} {tt : TT} {ft : Et}
theorem Res.bind_assoc {α β γ : Type} (x : Res α) (f : α → Res β) (g : β → Res γ) : (x.bind f).bind g = x.bind fun a => (f a).bind g := by
  cases x <;> rfl
theorem SOk.swap {mg : Str → Option Value} {K : PySem.W.Frag} {pot : Option Addr} {M M0 : List Addr} {H H0 B : Hp} {Γ : List Md} {σ : L2.St} {ρ : Rho} {d : D} {i j : Nat} {q : Addr} (S : SOk mg K (Γ.set j .u) pot M0 H0 B M σ H ρ) (hij : i ≠ j) (hi : Γ[i]? = some .o) (hj : Γ[j]? = some .o) (er : ρ[i]? = some (some d)) (ej : ρ[j]? = some (some d)) (e1 : σ[i]? = some (some (.ref q))) (e2 : σ[j]? = some (some (.ref q))) :
    SOk mg K (Γ.set i .u) pot M0 H0 B M σ H ρ := by
  have hi' : (Γ.set j .u)[i]? = some .o := by rw [List.getElem?_set_ne hij.symm]; exact hi
  obtain ⟨q', e3, m, ow⟩ := S.env.o i d hi' er
  rw [e1] at e3
  cases e3
  have S1 := S.forget i
  have hd1 : Held mg K .o ((Γ.set j .u).set i .u) pot H0 M σ H ρ (.ref q) d := ⟨q, rfl, m, ow, S.ow i d q hi' er e1, fun l e g1 g2 g3 => by
    rcases set_at g1 with ⟨_, z, _⟩ | ⟨n, g1⟩
    · cases z
    · exact n (S.env.ap i l q d e hi' g1 er g2 e1 g3)⟩
  have hjl : j < ((Γ.set j .u).set i .u).length := by
    simp only [List.length_set]
    exact (List.getElem?_eq_some_iff.mp hj).1
  have S2 := S1.put (r := .o) (i := j) hjl hd1
  have eΓ : (((Γ.set j .u).set i .u).set j Rm.o.md) = Γ.set i .u := by
    rw [List.set_comm _ _ hij.symm, List.set_set, List.set_comm _ _ hij]
    congr 1
    exact set_same hj
  have eσ : σ.set j (some (.ref q)) = σ := by
    apply List.ext_getElem?
    intro l
    by_cases e : j = l
    · subst e
      rw [List.getElem?_set_self (List.getElem?_eq_some_iff.mp e2).1, e2]
    · rw [List.getElem?_set_ne e]
  have eρ : ρ.set j (some d) = ρ := by
    apply List.ext_getElem?
    intro l
    by_cases e : j = l
    · subst e
      rw [List.getElem?_set_self (List.getElem?_eq_some_iff.mp ej).1, ej]
    · rw [List.getElem?_set_ne e]
  rw [eΓ, eσ, eρ] at S2
  exact S2
/-- the loop, once what is walked is there -/
theorem for_run {tg : Expr} {is : List Nat} {g : TG} {fg : D → Rho → Option Rho} (hg : DG X Γ tg is g fg) (hb : DSs X E r Γ Γ Γ body ts fs) {pot : Option Addr} {M0 M : List Addr} {H0 B H1 : Hp} {σ : L2.St} {ρ : Rho} {π1 : Pot} {D' : Ends} {J : It} {items : List D} {G : Hp → Prop} {Y : Nat → Hp → V → Hp → Prop}
    (S1 : SOk X.mg X.K Γ pot M0 H0 B M σ H1 ρ) (p1 : PotAt pot H1 π1) (W : WalkD X.mg X.K false pot M H1 J items G Y) (h1 : PostS X.mg X.K r Γl Γ pot M0 H0 B (forGo fg fs items ρ π1) D' E) :
    ∃ W : Nat → Nat → L2.St → Hp → Prop, (∃ m, W 0 m σ H1) ∧ ∀ i m σ H, W i m σ H →
      (J.stop i H ∧ D'.nx σ H) ∨ (J.go i H ∧ ∃ N : L2.St → Hp → Prop, (∀ σ' H', N σ' H' → ∃ m', m' < m ∧ W (i + 1) m' σ' H') ∧ ∀ x H', J.yld i H x H' → g x σ H' fun σ2 H2 => ts { D' with nx := N, ct := N, bk := D'.nx } σ2 H2) := by
  refine for_it W.walk (fun i σ2 H2 => ∃ M2 ρ2 π2, SOk X.mg X.K Γ pot M0 H0 (less H1 M) M2 σ2 H2 ρ2 ∧ PotAt pot H2 π2 ∧ PostS X.mg X.K r Γl Γ pot M0 H0 B (forGo fg fs (items.drop i) ρ2 π2) D' E)
    ⟨M, ρ, π1, ⟨S1.env, S1.gr, S1.sub, S1.ow, S1.m0, Same.refl _⟩, p1, by rw [List.drop_zero]; exact h1⟩ (fun i σ2 H2 _ ⟨M2, ρ2, π2, S2, _, _⟩ => W.stay H2 M2 (fun z => by cases z) S2.bs) ?_ ?_
  · rintro i xv σ2 H2 H3 hlt ⟨M2, ρ2, π2, S2, p2, h2⟩ hy
    obtain ⟨sm, d, hd, rd⟩ := W.item i H2 xv H3 M2 (fun z => by cases z) S2.bs S2.env.al hlt hy
    have S3 := S2.grow (.of_same sm) (p2.same sm)
    have edr : items.drop i = d :: items.drop (i + 1) := by
      rw [List.drop_eq_getElem_cons hlt]
      congr 1
      have := List.getElem?_eq_getElem hlt
      rw [hd] at this
      exact (Option.some.inj this).symm
    rw [edr] at h2
    unfold forGo at h2
    cases e1 : fg d ρ2 with
    | none =>
      rw [e1] at h2
      exact h2.elim
    | some ρ3 =>
      rw [e1] at h2
      simp only [ofO_some, Res.bind_ok] at h2
      refine hg.sem pot M2 σ2 H3 ρ2 xv d S3.env rd ρ3 e1 _ fun σ3 I3 s1 s2 => ?_
      have S4 : SOk X.mg X.K Γ pot M0 H0 (less H1 M) M2 σ3 H3 ρ3 := ⟨I3, S3.gr, S3.sub, fun j e a w1 w2 w3 => by
        have nj : j ∉ is := fun z => by
          rw [hg.fs j z] at w1
          cases w1
        rw [s1 j nj] at w3
        rw [s2 j nj] at w2
        exact S3.ow j e a w1 w2 w3, S3.m0, S3.bs⟩
      refine hb.sem pot M0 H0 (less H1 M) M2 σ3 H3 ρ3 π2 _ S4 (p2.same sm) ?_
      cases e2 : fs ρ3 π2 with
      | err c ns xs π' =>
        rw [e2] at h2
        exact h2
      | stuck =>
        rw [e2] at h2
        exact h2
      | ok y =>
        obtain ⟨y, π3⟩ := y
        rw [e2] at h2
        simp only [Res.bind_ok] at h2
        cases y with
        | nx ρ4 => exact fun M4 σ4 H4 S5 p5 => ⟨M4, ρ4, π3, S5, p5, h2⟩
        | ct ρ4 => exact fun M4 σ4 H4 S5 p5 => ⟨M4, ρ4, π3, S5, p5, h2⟩
        | bk ρ4 => exact fun M4 σ4 H4 S5 p5 => h2 M4 σ4 H4 ⟨S5.env, S5.gr, S5.sub, S5.ow, S5.m0, fun a u e => S5.bs a u (S1.bs a u e)⟩ p5
        | rt d => exact h2
  · rintro σ2 H2 ⟨M2, ρ2, π2, S2, p2, h2⟩
    rw [List.drop_length] at h2
    exact h2 M2 σ2 H2 ⟨S2.env, S2.gr, S2.sub, S2.ow, S2.m0, fun a u e => S2.bs a u (S1.bs a u e)⟩ p2
/-- y = x; for .. in (what looks at x): .. -/
theorem dss_moveFor (i j : Nat) {x y : Str} {p px : Pos} {pos2 : Pos} {tg iter : Expr} {wi : TI} {fi : Ei} {is : List Nat} {g : TG} {fg : D → Rho → Option Rho} (o : XOk X E k)
    (hit : DI false X E (Γ.set j .u) tg iter wi fi) (hg : DG X (Γ.set i .u) tg is g fg) (hb : DSs X E r (Γ.set i .u) (Γ.set i .u) (Γ.set i .u) body ts fs) (hr : DSs X E r Γl (Γ.set i .u) Γ' sts us gs) (hij : i ≠ j := by decide) (hi : Γ[i]? = some .o := by rfl) (hj : Γ[j]? = some .o := by rfl) (hNi : X.N[i]? = some x := by rfl) (hNj : X.N[j]? = some y := by rfl)
    (hv : Vis X.env.scope x := by first | exact Or.inl rfl | exact Or.inr (Or.inl rfl) | exact Or.inr (Or.inr rfl)) (hd : (x == ("__debug__" : Str)) = false := by decide) (hcd : (x == ("__classdict__" : Str)) = false := by decide)
    (hx : Loc X.env.scope y := by first | exact Or.inl rfl | exact Or.inr rfl)
    (hs : swapsWith (.Name x px) (some (.Name y p)) pos.line X.env = pure false := by rfl) (hf : X.fn y = true ∨ X.env.scope.names.lookup y = some .local := by first | exact .inl rfl | exact .inr rfl) (hfs : ∀ x, foldedSetIterable iter X.env x = pure x := by intro _; rfl) :
    DSs X E r Γl Γ Γ' (.Assign [.Name y p] (.Name x px) pos :: .For tg iter body [] pos2 :: sts) (tSeq (tAsg (tVar i) (gName j)) (tSeq (tFor wi g ts) us)) (sSeq (sSet j (eVar i)) (sSeq (sFor fi fg fs) gs)) :=
  ⟨pss_cons (ps_set o.nd hNj hx (pe_var hNi hv hd hcd) hs hf) (pss_cons (ps_for o.own o.calm hit.pi hg.pg hb.pss hfs) hr.pss), fun pot M0 H0 B M σ H ρ π D S p h => by
    cases er : ρ[i]? with
    | none =>
      simp only [sSeq, sSet, eVar, er] at h
      exact h.elim
    | some od => cases od with
      | none =>
        simp only [sSeq, sSet, eVar, er] at h
        exact h.elim
      | some d =>
        have h : PostS X.mg X.K r Γl Γ' pot M0 H0 B ((fi (ρ.set j (some d)) π).bind fun z => (forGo fg fs z.1 (ρ.set j (some d)) z.2).bind fun x => match x.1 with
            | .nx ρ1 => gs ρ1 x.2
            | .bk ρ1 => .ok (.bk ρ1, x.2)
            | .ct ρ1 => .ok (.ct ρ1, x.2)
            | .rt d => .ok (.rt d, x.2)) D E := by
          simp only [sSeq, sSet, eVar, er, Res.bind_ok, sFor, Res.bind_assoc] at h
          exact h
        obtain ⟨q, e1, m, ow⟩ := S.env.o i d hi er
        refine ⟨.ref q, e1, ?_⟩
        have hjl : j < (Γ.set j .u).length := by
          rw [List.length_set]
          exact (List.getElem?_eq_some_iff.mp hj).1
        have S0 := (S.forget j).put (r := .b) (i := j) (v := .ref q) (d := d) hjl trivial
        rw [List.set_set] at S0
        have s1 : (σ.set j (some (.ref q)))[i]? = some (some (.ref q)) := by rw [List.getElem?_set_ne hij.symm]; exact e1
        have s2 : (σ.set j (some (.ref q)))[j]? = some (some (.ref q)) := List.getElem?_set_self (by rw [S.env.ls]; exact (List.getElem?_eq_some_iff.mp hj).1)
        have s3 : (ρ.set j (some d))[i]? = some (some d) := by rw [List.getElem?_set_ne hij.symm]; exact er
        have s4 : (ρ.set j (some d))[j]? = some (some d) := List.getElem?_set_self (by rw [S.env.lr]; exact (List.getElem?_eq_some_iff.mp hj).1)
        refine PostS.seqI (Γ := Γ.set j .u) (w := false) (te := wi (σ.set j (some (.ref q))) H) h S0 (fun Q' hq => hit.sem pot M _ H _ π S0.env p Q' hq) fun items π1 J H1 G Y _ g1 p1 W h1 => ?_
        have S1 := (S0.grow g1 p1).swap hij hi hj s3 s4 s1 s2
        refine for_run (Γl := Γl) hg hb S1 p1 W ?_
        cases ex : forGo fg fs items (ρ.set j (some d)) π1 with
        | err c ns xs π' =>
          simp only [ex] at h1
          exact h1
        | stuck =>
          simp only [ex] at h1
          exact h1
        | ok z =>
          obtain ⟨z, π2⟩ := z
          simp only [ex, Res.bind_ok] at h1
          cases z with
          | nx ρ1 => exact fun M1 σ1 H1 S1 p1 => hr.sem pot M0 H0 B M1 σ1 H1 ρ1 π2 D S1 p1 h1
          | bk ρ1 => exact h1
          | ct ρ1 => exact h1
          | rt d => exact h1⟩
end
end DL
set_option maxHeartbeats 2000000
namespace DL
open PySem PySem.Spec PyProof.Rows L2
/-- a default's worth: None or a number -/
def dv1 : D → V
  | .int i => .int i
  | _ => .non
def dOk : D → Bool
  | .int _ => true
  | .non => true
  | _ => false
/-- a def with defaults, as it stands behind the top -/
structure FunDd (K : PySem.W.Frag) (x : Str) (st : Stmt) (dd : List D) (f : Addr) (fd : FuncData) : Prop where
  ex : ∃ (oc : Value) (od : Option Addr) (T : Addr) (kV doc pm : Value) (an : Option Addr) (cdv ct : Value) (osl : Array (Option Value)) (its : List Value),
    fd = PySem.W.fnOf x x (defArgs st) (defBody st) (defScope st) (.ref T) kV doc pm an cdv ct ∧ K.lookup f = some ⟨oc, od, .func fd, osl⟩ ∧ PySem.W.codeIn K cdv x = true ∧ ∃ (o : Obj) (n : Nat), K.lookup T = some o ∧ o.data = .seq its.toArray n ∧ Vals (dd.map dv1) its
  kp : PySem.W.keepIn K (.ref f) = true
theorem fund_mk {K : PySem.W.Frag} {x : Str} {st : Stmt} {dd : List D} {f T : Addr} {oc : Value} {od : Option Addr} {kV doc pm : Value} {an : Option Addr} {cdv ct : Value} {osl : Array (Option Value)} {its : List Value} {ot : Value} {odt : Option Addr} {n : Nat} {slt : Array (Option Value)}
    (l : K.lookup f = some ⟨oc, od, .func (PySem.W.fnOf x x (defArgs st) (defBody st) (defScope st) (.ref T) kV doc pm an cdv ct), osl⟩) (c : PySem.W.codeIn K cdv x = true) (k : PySem.W.keepIn K (.ref f) = true)
    (t : K.lookup T = some ⟨ot, odt, .seq its.toArray n, slt⟩) (v : Vals (dd.map dv1) its) : FunDd K x st dd f (PySem.W.fnOf x x (defArgs st) (defBody st) (defScope st) (.ref T) kV doc pm an cdv ct) :=
  ⟨⟨oc, od, T, kV, doc, pm, an, cdv, ct, osl, its, rfl, l, c, _, n, t, rfl, v⟩, k⟩
structure DFnD (P : Program) (w : World) (K : PySem.W.Frag) (mg : Str → Option Value) (base : Heap) (k : Nat) (x : Str) (st : Stmt) (ps : List Str) (ks : List Ak) (r : Rm) (dd : List D) (m : Fd) : Prop where
  ex : ∃ f fd, mg x = some (.ref f) ∧ FunDd K x st dd f fd ∧ FnG P w K mg base k f fd ps (SpD mg K ks r m)
section
variable {P : Program} {w : World} {K : PySem.W.Frag} {mg : Str → Option Value} {base : Heap} {k : Nat} {x : Str} {st : Stmt} {ps N : List Str} {ks : List Ak} {r : Rm}
theorem dfn_ofD {fs : Fs} {dd : List D} (Γ Γ' : List Md) (hf : ∃ f fd, mg x = some (.ref f) ∧ FunDd K x st dd f fd) (S : FnScope N ps (defScope st)) (hp : ks.length = ps.length) (hl : Γ.length = N.length) (hk : ks.length ≤ N.length) (hm : modesOk ks Γ = true)
    (hr : (r = .f ∨ r = .o) ∨ r = .t)
    (hb : ∀ (f : Addr) (cdv : Value) (A : Around) (outer : List Env) (s : Shared) (H : Hp) (E : XK), XOk (cxOf (L2.CX P w) P w K mg base N x (defScope st) f cdv A outer s H E) E k →
      ∃ ts, DSs (cxOf (L2.CX P w) P w K mg base N x (defScope st) f cdv A outer s H E) E r Γ Γ Γ' (defBody st) ts fs) :
    DFnD P w K mg base (k + 1) x st ps ks r dd (runD N.length r fs) := by
  obtain ⟨f, fd, h1, h2⟩ := hf
  refine ⟨f, fd, h1, h2, ?_⟩
  obtain ⟨oc, od, T, kV, doc, pm, an, cdv, ct, osl, its, rfl, lk, hcd, _⟩ := h2.ex
  refine fn_ofG lk hcd S (fun vs H Q E h => by rw [h.1, hp]) fun A outer s H vs Q E room gd want => ?_
  obtain ⟨_, pot, M, ds, π, ar, al, pm, pt, post⟩ := want
  have o : XOk (cxOf (L2.CX P w) P w K mg base N x (defScope st) f cdv A outer s H E) E k :=
    ⟨room, gd, rfl, passes_call (takes_of rfl rfl rfl rfl) fun _ _ _ _ z => z, passes_of rfl, S.nd⟩
  obtain ⟨ts, B⟩ := hb f cdv A outer s H E o
  refine ⟨ts, B.pss, ?_⟩
  have I := env_start hm hl hk ar al pm
  refine B.sem pot M H (fun _ => none) M _ H _ π _ ⟨I, .refl, fun a h => h, fun i d a h1 h2 h3 => ?_, fun a h => (al a h).nn, fun a u e => by cases e⟩ pt ?_
  · exfalso
    obtain ⟨k', v, q1, _⟩ := ar.at (startD_at h2)
    obtain ⟨m1, _⟩ := Bool.and_eq_true_iff.mp hm
    have m1 := of_decide_eq_true m1
    have hi := (List.getElem?_eq_some_iff.mp q1).1
    have e : (Γ.take ks.length)[i]? = Γ[i]? := List.getElem?_take_of_lt hi
    rw [h1, m1, List.getElem?_map, q1] at e
    cases k' <;> cases e
  · unfold runD at post
    cases ef : fs (startD N.length ds) π with
    | err c ns xs π' =>
      rw [ef] at post
      exact post
    | stuck =>
      rw [ef] at post
      exact post
    | ok y =>
      obtain ⟨y, π1⟩ := y
      rw [ef] at post
      cases y with
      | rt d => exact fun v H' g p q => post v H' g p q
      | nx ρ =>
        simp only [Res.bind_ok] at post
        split at post
        · rename_i hrf
          subst hrf
          exact fun M' σ' H' S' p' => post .non H' S'.gr p' .non
        · exact post.elim
      | bk ρ => exact post.elim
      | ct ρ => exact post.elim
end
section
variable {X : Cx} {E : XK} {Γ : List Md} {r : Rm} {e : Expr} {es : List Expr} {pos p : Pos} {k j : Nat} {ks ks' : List Ak} {tA : TA} {fA : Ea} {x : Str} {st : Stmt} {ps : List Str} {m : Fd} {dd : List D}
def tGoD (mg : Str → Option Value) (K : PySem.W.Frag) (dd : List D) (ks : List Ak) (r : Rm) (m : Fd) (E : XK) (t : TA) : TE := fun σ H Q => t σ H fun vs H1 => SpD mg K ks r m (vs ++ dd.map dv1) H1 Q E
def eGoD (dd : List D) (m : Fd) (a : Ea) : Ed := fun ρ π => (a ρ π).bind fun x => m (x.1 ++ dd) x.2
theorem args_dd {mg : Str → Option Value} {K : PySem.W.Frag} {pot : Option Addr} {M : List Addr} {H : Hp} : ∀ {dd : List D}, dd.all dOk = true → Args mg K pot M H (dd.map fun _ => Ak.f) (dd.map dv1) dd
  | [], _ => .nil
  | d :: dd, h => by
    simp only [List.all_cons, Bool.and_eq_true] at h
    refine .cons ?_ (args_dd h.2)
    cases d <;> simp [dOk] at h
    · exact Rp.non
    · exact Rp.int _
theorem args_app {mg : Str → Option Value} {K : PySem.W.Frag} {pot : Option Addr} {M : List Addr} {H : Hp} : ∀ {ks ks' : List Ak} {vs vs' : List V} {ds ds' : List D}, Args mg K pot M H ks vs ds → Args mg K pot M H ks' vs' ds' → Args mg K pot M H (ks ++ ks') (vs ++ vs') (ds ++ ds')
  | _, _, _, _, _, _, .nil, b => b
  | _, _, _, _, _, _, .cons a as, b => .cons a (args_app as b)
theorem sem_goD (hd : dd.all dOk = true) (hA : SemA X.mg X.K E ks Γ tA fA) : SemE X.mg X.K E r Γ (tGoD X.mg X.K dd (ks ++ dd.map fun _ => Ak.f) r m E tA) (eGoD dd m fA) := fun pot M σ H ρ π I p Q h => by
  refine PostA.seq (ks := ks) (te := tA σ H) h p (fun Q' hq => hA pot M σ H ρ π I p Q' hq) fun ds π1 vs H1 _ g1 p1 r1 h1 => ?_
  have a := args_app r1 (args_dd (mg := X.mg) (K := X.K) (pot := pot) (M := M) (H := H1) hd)
  exact ⟨a.length, pot, M, _, π1, a, (I.grow g1 p1).al, I.pm, p1, h1⟩
/-- f(e, ..): the last ones by their defaults -/
theorem de_callD (n j' : Nat) (F : DFnD X.prog X.w X.K X.mg X.base j x st ps (ks ++ (dd.drop j').map fun _ => Ak.f) r dd m) (o : XOk X E k)
    (hb : ∀ (T : Addr) (kV doc pm : Value) (an : Option Addr) (cdv ct : Value) (us its : List Value), us.length = n → its.length = dd.length →
      ∃ k, bindArgs (PySem.W.fnOf x x (defArgs st) (defBody st) (defScope st) (.ref T) kV doc pm an cdv ct) ⟨us, []⟩ = seqItems? (.ref T) >>= k ∧ k (some its.toArray) = pure (ps.zip (us ++ its.drop j')))
    (hA : DA X E ks Γ (e :: es) tA fA) (hd : (dd.drop j').all dOk = true := by rfl) (hn : n + (dd.drop j').length = ps.length := by rfl) (hj : j ≤ k := by decide) (hg : Gl X x := by rfl) (hdb : (x == ("__debug__" : Str)) = false := by decide) (he : starEach (e :: es) X.env = (false, eval e X.env) :: starEach es X.env := by rfl) (hpl : (backTo pos (starEach es X.env)).any (·.1) = false := by rfl) :
    DE X E r Γ (.Call (.Name x p) (e :: es) [] pos) (tGoD X.mg X.K (dd.drop j') (ks ++ (dd.drop j').map fun _ => Ak.f) r m E tA) (eGoD (dd.drop j') m fA) :=
  ⟨⟨fun pins s σ H Q I h => by
    obtain ⟨f, fd, h1, h2, h3⟩ := F.ex
    refine wpAny_Call_Name_kw (ld_glob I hg h1 ?_ hdb)
    refine PySem.W.callWith_K (h₀ := X.base) I.ok.mod.kin h2.kp (thn (hA.pa.run pos pins s σ H _ I h) fun us s1 ⟨vs, H1, I1, rl, q⟩ => ⟨I1.kIn, ?_⟩) he hpl
    have hl := h3.len _ _ _ _ q
    rw [List.length_append, List.length_map, rl.length] at hl
    have hl' : us.length = n := by omega
    obtain ⟨oc, od, T, kV, doc, pm, an, cdv, ct, osl, its, rfl, lk, hcd, ob, nn, lT, oT, rT⟩ := h2.ex
    have l1 : its.length = dd.length := by rw [← rT.length, List.length_map]
    have bd : BindsTo s1 (PySem.W.fnOf x x (defArgs st) (defBody st) (defScope st) (.ref T) kV doc pm an cdv ct) ⟨us, []⟩ (ps.zip (us ++ its.drop j')) := by
      obtain ⟨kk, e1, e2⟩ := hb T kV doc pm an cdv ct us its hl' l1
      refine BindsTo.of_looks fun M => ?_
      rw [e1]
      exact looks_items I1.kIn lT oT (.of_pure e2)
    have rl' : Vals (vs ++ (dd.drop j').map dv1) (us ++ its.drop j') := by
      rw [List.map_drop]; exact rl.append (rT.drop j')
    refine wpAny_call (codeAny_mono (h3.run X.A X.stack s1 H1 _ (us ++ its.drop j') _ Q E (o.room.mono hj) o.gd I1.env0 bd rl' q) fun res s' z => ?_)
    match res, z with
    | .error e, z => exact o.pass pins σ H1 s1 e s' I1 z
    | .ok (.ret u), z => exact I1.after z⟩, sem_goD hd hA.sem⟩
variable {hm : Fd}
theorem pu_goD (hm : PF m) (hx : PX fA) : PX (eGoD dd m fA) := by
  intro ρ
  unfold eGoD
  refine pa_bind (hx _) fun x => ?_
  exact hm (x ++ dd)
end
end DL
set_option maxHeartbeats 2000000
namespace DL
open PySem PySem.Spec PyProof.Rows L2
def gL (n : Nat) (b : List D → Rho → Option Rho) : D → Rho → Option Rho := fun d ρ => match d with
  | .lst ds => if ds.length = n then b ds ρ else none
  | _ => none
section
variable {X : Cx} {E : XK} {Γ : List Md} {pos : Pos} {k : Nat}
theorem dg_lst {es : List Expr} {is : List Nat} {gs : TGs} {fgs : List D → Rho → Option Rho} {kk : Nat} (hc : X.calm = true) (b : DGs X Γ es is gs fgs)
    (hn : (assignEach es X.env).length = es.length := by rfl) (hst : (assignEach es X.env).findIdx? (·.1) = none := by rfl) : DG X Γ (.Tuple es kk pos) is (gLst X.K es.length gs) (gL es.length fgs) :=
  ⟨pg_lst hc b.pgs hn hst, b.fs, fun pot M σ H ρ v d I r ρ' h Q q => by
    cases d with
    | lst ds =>
      unfold gL at h
      simp only at h
      split at h
      · rename_i hl
        cases r with
        | lst h1 h2 =>
          exact ⟨_, _, rfl, .inl (.inl (less_le _ _ h1)), by rw [h2.length]; exact hl, b.sem pot M σ H ρ _ ds I h2 ρ' h Q q⟩
      · cases h
    | _ => cases h⟩
@[simp] theorem gL_ap (n : Nat) (b : List D → Rho → Option Rho) (ds : List D) (ρ : Rho) : gL n b (.lst ds) ρ = if ds.length = n then b ds ρ else none := rfl
end
end DL
set_option maxHeartbeats 2000000
namespace DL
open PySem PySem.Spec PyProof.Rows L2
end DL
set_option maxHeartbeats 2000000
namespace DL
open PySem PySem.Spec PyProof.Rows L2 C8
theorem kit_own {K : PySem.W.Frag} {C : Addr} {T : String} {b : Bool} (m : PySem.W.kitMeta T = true) (s : PySem.W.subIn K (.ref C) (.type T) = some b) : PySem.W.kitOne K (.ref C) (.type T) = some b := by
  unfold PySem.W.kitOne
  rw [if_neg (by intro h; cases h)]
  unfold PySem.W.kitCls
  simp only [m, if_true]
  exact s
/-- own classes that are below none of these builtins -/
structure ClsT (K : PySem.W.Frag) (mg : Str → Option Value) (cs : List Str) : Prop where
  ex : ∀ c' ∈ cs, ∃ C', mg c' = some (.ref C') ∧ InsC K C' ∧ ∀ n ∈ tyNames, PySem.W.kitOne K (.ref C') (.type n) = some false
def fIsA (cs : List Str) (ns : List String) (d : D) : Option D := match d with
  | .ins c' _ _ => if c' ∈ cs then some (.bl false) else none
  | _ => fIs ns d
theorem fIsA_ty {cs : List Str} {ns : List String} {d : D} {n : String} (h : tyName d = some n) : fIsA cs ns d = fIs ns d := by
  cases d <;> first | rfl | cases h
theorem kitAny_false {K : PySem.W.Frag} {C : Addr} (h : ∀ n ∈ tyNames, PySem.W.kitOne K (.ref C) (.type n) = some false) : ∀ {bs : List String}, (∀ b ∈ bs, b ∈ tyNames) → PySem.W.kitAny K (.ref C) (bs.map Value.type) = some false
  | [], _ => kitAny_nil
  | b :: bs, hb => kitAny_cons (h b (hb b (by simp))) (fun _ => kitAny_false h fun x hx => hb x (by simp [hx])) fun e => by cases e
section
variable {X : Cx} {E : XK} {Γ : List Md} {ra : Rm} {a : Expr} {ta : TE} {fa : Ed} {pos p : Pos}
theorem de_isiA {x : Str} {T : String} {px : Pos} (cs : List Str) (hC : ClsT X.K X.mg cs) (hm : X.mg "isinstance" = none) (hmT : X.mg x = none) (ha : DE X E ra Γ a ta fa) (hg : Gl X "isinstance" := by rfl) (hgT : Gl X x := by rfl) (hvT : bootBuiltins x = some (.type T) := by decide +kernel) (hT : tyOkB T = true := by decide +kernel) (hTn : T ∈ tyNames := by decide +kernel)
    (hn : x ≠ "__name__" := by decide) (hdb : (x == ("__debug__" : Str)) = false := by decide) (hs : starEach [a, .Name x px] X.env = (false, eval a X.env) :: starEach [.Name x px] X.env := by rfl) (hs2 : starEach [.Name x px] X.env = (false, eval (.Name x px) X.env) :: starEach [] X.env := by rfl)
    (hpl : (backTo pos (starEach [.Name x px] X.env)).any (·.1) = false := by rfl) :
    DE X E .f Γ (.Call (.Name "isinstance" p) [a, .Name x px] [] pos) (tCB (rIsiY X.K) (tCons ta (tCons (tC (.ty T)) tNil))) (eUn (fIsA cs [T]) fa) :=
  ⟨pe_callB call_isiY hg hm (by decide +kernel) (pa_cons ha.pe (pa_cons (pe_bltn hgT hmT hvT rfl hn hdb) pa_nil hs2) hs) (by decide) (by decide) hs hpl, fun pot M σ H ρ π I p Q h => by
    refine Post.seq (r' := ra) (te := ta σ H) h p (fun Q' hq => ha.sem pot M σ H ρ π I p Q' hq) fun d π1 v H1 _ g1 p1 r1 h1 => ?_
    cases et : tyName d with
    | none =>
      cases d with
      | ins c' ns xs =>
        simp only [fIsA] at h1
        split at h1
        · rename_i hin
          rw [ofO_some, Res.bind_ok] at h1
          obtain ⟨y, C1, dx, gs, rfl, m, hy, rfl, rr⟩ := rb_ins r1.toB
          obtain ⟨C', m', ic, k1⟩ := hC.ex c' hin
          rw [m] at m'
          cases m'
          exact ⟨.ref y, .ty T, .ref C1, .type T, _, rfl, .ty T, .inl (.base (.ins hy ic.cl ic.ha ic.hn ic.htk ic.hm)), k1 T hTn, h1 _ H1 .refl p1 (.bl _)⟩
        · rw [ofO_none, Res.bind_stuck] at h1
          exact h1.elim
      | _ => cases et
    | some n =>
      rw [fIsA_ty et] at h1
      simp only [fIs, et, Option.map_some, ofO_some, Res.bind_ok] at h1
      refine ⟨v, .ty T, .type n, .type T, isTyB n T, rfl, .ty T, rb_ty r1.toB et, kit_name et hT, ?_⟩
      have e1 : ([T].any fun b => isTyB n b) = isTyB n T := by simp
      rw [e1] at h1
      exact h1 _ H1 .refl p1 (.bl _)⟩
theorem de_isi2A {x y : Str} {T U : String} {px py pt : Pos} {j : Nat} (cs : List Str) (hC : ClsT X.K X.mg cs) (hm : X.mg "isinstance" = none) (hmT : X.mg x = none) (hmU : X.mg y = none) (ha : DE X E ra Γ a ta fa) (hg : Gl X "isinstance" := by rfl) (hgT : Gl X x := by rfl) (hgU : Gl X y := by rfl) (hvT : bootBuiltins x = some (.type T) := by decide +kernel) (hvU : bootBuiltins y = some (.type U) := by decide +kernel) (hT : [T, U].all tyOkB = true := by decide +kernel) (hTn : ∀ b ∈ [T, U], b ∈ tyNames := by decide +kernel)
    (hn : x ≠ "__name__" := by decide) (hdb : (x == ("__debug__" : Str)) = false := by decide) (hnU : y ≠ "__name__" := by decide) (hdbU : (y == ("__debug__" : Str)) = false := by decide)
    (hs : starEach [a, .Tuple [.Name x px, .Name y py] j pt] X.env = (false, eval a X.env) :: starEach [.Tuple [.Name x px, .Name y py] j pt] X.env := by rfl) (hs2 : starEach [.Tuple [.Name x px, .Name y py] j pt] X.env = (false, eval (.Tuple [.Name x px, .Name y py] j pt) X.env) :: starEach [] X.env := by rfl)
    (hs3 : starEach [.Name x px, .Name y py] X.env = (false, eval (.Name x px) X.env) :: starEach [.Name y py] X.env := by rfl) (hs4 : starEach [.Name y py] X.env = (false, eval (.Name y py) X.env) :: starEach [] X.env := by rfl)
    (hpl : (backTo pos (starEach [.Tuple [.Name x px, .Name y py] j pt] X.env)).any (·.1) = false := by rfl) :
    DE X E .f Γ (.Call (.Name "isinstance" p) [a, .Tuple [.Name x px, .Name y py] j pt] [] pos) (tCB (rIsiTY X.K) (tCons ta (tCons (tTup (tCons (tC (.ty T)) (tCons (tC (.ty U)) tNil))) tNil))) (eUn (fIsA cs [T, U]) fa) :=
  ⟨pe_callB call_isiTY hg hm (by decide +kernel) (pa_cons ha.pe (pa_cons (pe_tup (pa_cons (pe_bltn hgT hmT hvT rfl hn hdb) (pa_cons (pe_bltn hgU hmU hvU rfl hnU hdbU) pa_nil hs4) hs3)) pa_nil hs2) hs) (by decide) (by decide) hs hpl, fun pot M σ H ρ π I p Q h => by
    refine Post.seq (r' := ra) (te := ta σ H) h p (fun Q' hq => ha.sem pot M σ H ρ π I p Q' hq) fun d π1 v H1 _ g1 p1 r1 h1 => ?_
    cases et : tyName d with
    | none =>
      cases d with
      | ins c' ns xs =>
        simp only [fIsA] at h1
        split at h1
        · rename_i hin
          rw [ofO_some, Res.bind_ok] at h1
          refine ⟨by show 2 ≤ sizeLine; rw [sizeLine_eq]; omega, fun l hn => ?_⟩
          obtain ⟨y, C1, dx, gs, rfl, m, hy, rfl, rr⟩ := rb_ins r1.toB
          obtain ⟨C', m', ic, k1⟩ := hC.ex c' hin
          rw [m] at m'
          cases m'
          have hy' : upd H1 l (.tup ([T, U].map V.ty)) y = some (.ins C1 dx gs) := by
            rw [upd_ne (ne_of_none hy hn)]
            exact hy
          exact ⟨.ref y, l, [T, U].map V.ty, .ref C1, [T, U].map Value.type, _, rfl, upd_same, cls_all _, .inl (.base (.ins hy' ic.cl ic.ha ic.hn ic.htk ic.hm)), kitAny_false k1 hTn, h1 _ _ (.new hn) (p1.new hn) (.bl _)⟩
        · rw [ofO_none, Res.bind_stuck] at h1
          exact h1.elim
      | _ => cases et
    | some n =>
      rw [fIsA_ty et] at h1
      simp only [fIs, et, Option.map_some, ofO_some, Res.bind_ok] at h1
      refine ⟨by show 2 ≤ sizeLine; rw [sizeLine_eq]; omega, fun l hn => ?_⟩
      refine ⟨v, l, [T, U].map V.ty, .type n, [T, U].map Value.type, _, rfl, upd_same, cls_all _, ?_, kit_names et hT, h1 _ _ (.new hn) (p1.new hn) (.bl _)⟩
      exact rb_ty (r1.toB.grow I.pm (.new hn)) et⟩
end
@[simp] theorem fIsA_non (cs : List Str) (ns : List String) : fIsA cs ns .non = some (.bl (ns.any fun b => isTyB "NoneType" b)) := rfl
@[simp] theorem fIsA_bl (cs : List Str) (ns : List String) (i : Bool) : fIsA cs ns (.bl i) = some (.bl (ns.any fun b => isTyB "bool" b)) := rfl
@[simp] theorem fIsA_int (cs : List Str) (ns : List String) (i : Int) : fIsA cs ns (.int i) = some (.bl (ns.any fun b => isTyB "int" b)) := rfl
@[simp] theorem fIsA_str (cs : List Str) (ns : List String) (i : Str) : fIsA cs ns (.str i) = some (.bl (ns.any fun b => isTyB "str" b)) := rfl
@[simp] theorem fIsA_lst (cs : List Str) (ns : List String) (i : List D) : fIsA cs ns (.lst i) = some (.bl (ns.any fun b => isTyB "list" b)) := rfl
@[simp] theorem fIsA_tup (cs : List Str) (ns : List String) (i : List D) : fIsA cs ns (.tup i) = some (.bl (ns.any fun b => isTyB "tuple" b)) := rfl
@[simp] theorem fIsA_dic (cs : List Str) (ns : List String) (a : List DKey) (i : List D) : fIsA cs ns (.dic a i) = some (.bl (ns.any fun b => isTyB "dict" b)) := rfl
@[simp] theorem fIsA_ins (cs : List Str) (ns : List String) (c : Str) (a : List Str) (i : List D) : fIsA cs ns (.ins c a i) = if c ∈ cs then some (.bl false) else none := rfl
end DL
set_option maxHeartbeats 2000000
namespace DL
open PySem PySem.Spec PyProof.Rows L2
def fStrA : List D → Option D
  | [.int i] => if i.natAbs.log2 < 1920 then some (.str (Str.ofString (toString i))) else none
  | ds => fStr ds
@[simp] theorem fStrA_lst (xs : List D) : fStrA [.lst xs] = fStr [.lst xs] := rfl
@[simp] theorem fStrA_tup (xs : List D) : fStrA [.tup xs] = fStr [.tup xs] := rfl
end DL
set_option maxHeartbeats 2000000
namespace DL
open PySem PySem.Spec PyProof.Rows L2
section
variable {X : Cx} {E : XK} {Γ Γl Γ' : List Md} {r : Rm} {a b : Expr} {ta tb : TE} {fa fb : Ed} {pos p : Pos}
/-- a new list out of a new tuple -/
theorem de_ixT (k : Int) (ha : DE X E .t Γ a ta fa) (hb : DE X E .f Γ b tb (eC (.int k))) (hs : PlainIx b := by intro _ _; rfl) : DE X E .o Γ (.Subscript a b pos) (tOp (rIx X.K) ta tb) (eBin opIx fa (eC (.int k))) :=
  ⟨pe_ix ix_seq ha.pe hb.pe hs, fun pot M σ H ρ π I p Q h => by
    refine (show ta σ H (fun x H1 => tb σ H1 fun y H2 => rIx X.K x y H2 Q) from ?_)
    refine ha.sem pot M σ H ρ π I p _ ?_
    unfold eBin at h
    cases e : fa ρ π with
    | err c ns xs π' =>
      rw [e] at h
      exact h
    | stuck =>
      rw [e] at h
      exact h
    | ok y =>
      obtain ⟨d, π1⟩ := y
      rw [e] at h
      intro v H1 g1 p1 ow
      obtain ⟨q, ps, ds, rfl, rfl, h1, h2, h3, h4, h5, h7, h6⟩ := ow
      refine hb.sem pot M σ H1 ρ π1 (I.grow g1 p1) p1 _ ?_
      intro y H2 g2 p2 ry
      have hy := rb_int (RpR.toB (r := .f) ry)
      subst hy
      have h' : Post X.mg X.K .o pot M H ((ofO (L2.atI ds k)).bind fun z => .ok (z, π1)) Q E := h
      cases ez : L2.atI ds k with
      | none =>
        rw [ez] at h'
        exact h'.elim
      | some z =>
        rw [ez] at h'
        unfold L2.atI at ez
        simp only [Option.bind_eq_some_iff] at ez
        obtain ⟨j, j1, j2⟩ := ez
        have hj : j < ps.length := by
          have := (List.getElem?_eq_some_iff.mp j2).1
          omega
        have jp := List.getElem?_eq_getElem hj
        obtain ⟨a1, a2, a3, o, a4, a5⟩ := h6 j _ z jp j2
        have hq2 : H2 q = some (.tup (ps.map V.ref)) := g2 q _ h7 h1
        refine .inr (.inl ⟨q, ps.map V.ref, k, .ref ps[j], rfl, rfl, .inl (.inl hq2), ?_, ?_⟩)
        · unfold L2.atI
          rw [List.length_map, ← h5, j1]
          show (ps.map V.ref)[j]? = _
          rw [List.getElem?_map, jp]; rfl
        · refine h' _ H2 (g1.trans g2) p2 ⟨_, rfl, a2, a1, o, g2 _ _ a1 a4, ?_⟩
          refine (a5.mono (less_sub fun x hx => ?_)).mono (less_grow (fun x hx => List.mem_cons_of_mem _ (I.pm x hx)) g2)
          rcases List.mem_cons.mp hx with z | hx
          · rw [z]; exact List.mem_append_left _ (List.getElem_mem hj)
          · exact List.mem_append_right _ hx⟩
/-- two own lists are handed back in a tuple -/
theorem ds_rett (i j : Nat) {x y : Str} {px py pt : Pos} {kk : Nat} (hij : i ≠ j := by decide) (hNi : X.N[i]? = some x := by rfl) (hNj : X.N[j]? = some y := by rfl) (hi : Γ[i]? = some .o := by rfl) (hj : Γ[j]? = some .o := by rfl)
    (hvx : Vis X.env.scope x := by first | exact Or.inl rfl | exact Or.inr (Or.inl rfl) | exact Or.inr (Or.inr rfl)) (hvy : Vis X.env.scope y := by first | exact Or.inl rfl | exact Or.inr (Or.inl rfl) | exact Or.inr (Or.inr rfl))
    (hd : (x == ("__debug__" : Str)) = false := by decide) (hcd : (x == ("__classdict__" : Str)) = false := by decide) (hdy : (y == ("__debug__" : Str)) = false := by decide) (hcdy : (y == ("__classdict__" : Str)) = false := by decide)
    (hs : starEach [.Name x px, .Name y py] X.env = (false, eval (.Name x px) X.env) :: starEach [.Name y py] X.env := by rfl) (hs2 : starEach [.Name y py] X.env = (false, eval (.Name y py) X.env) :: starEach [] X.env := by rfl) :
    DS X E .t Γl Γ Γ' (.Return (some (.Tuple [.Name x px, .Name y py] kk pt)) pos) (tRet (tTup (tCons (tVar i) (tCons (tVar j) tNil)))) (sRet (eTup (aCons (eVar i) (aCons (eVar j) aNil)))) :=
  ⟨ps_ret (pe_tup (pa_cons (pe_var hNi hvx hd hcd) (pa_cons (pe_var hNj hvy hdy hcdy) pa_nil hs2) hs)), fun pot M0 H0 B M σ H ρ π DD S p h => by
    unfold sRet eTup at h
    simp only [aCons, aNil, eVar] at h
    cases eri : ρ[i]? with
    | none =>
      rw [eri] at h
      exact h.elim
    | some od =>
      cases od with
      | none =>
        rw [eri] at h
        exact h.elim
      | some d =>
        cases erj : ρ[j]? with
        | none =>
          rw [eri, erj] at h
          exact h.elim
        | some oe =>
          cases oe with
          | none =>
            rw [eri, erj] at h
            exact h.elim
          | some e =>
            rw [eri, erj] at h
            obtain ⟨a, ea, ma, na, oa, a1, a2⟩ := S.env.o i d hi eri
            obtain ⟨b, eb, mb, nb, ob, b1, b2⟩ := S.env.o j e hj erj
            have hz : ([d, e] : List D).length ≤ sizeLine := by rw [sizeLine_eq]; simp
            have h' : ∀ v H', Grow pot H0 H' → PotAt pot H' π → RpR X.mg X.K .t pot M0 H0 H' v (.tup [d, e]) → DD.rt v H' := by
              have : PostS X.mg X.K .t Γl Γ' pot M0 H0 B (((if ([d, e] : List D).length ≤ sizeLine then (.ok (D.tup [d, e], π) : Res (D × Pot)) else .stuck)).bind fun x => .ok (.rt x.1, x.2)) DD E := h
              rw [if_pos hz] at this
              exact this
            have hab : a ≠ b := fun z => hij (S.env.ap i j a d e hi hj eri erj ea (by rw [z]; exact eb))
            refine ⟨_, ea, _, eb, hz, fun q hn => h' _ _ (S.gr.trans (.new hn)) (p.new hn) ?_⟩
            have hqM : q ∉ M := fun z => (S.env.al q z).nn hn
            have n1 : a ≠ q := fun z => hqM (z ▸ ma)
            have n2 : b ≠ q := fun z => hqM (z ▸ mb)
            have hq0 : H0 q = none := by
              cases z : H0 q with
              | none => rfl
              | some o =>
                by_cases hpq : pot = some q
                · exact absurd (S.env.pm q hpq) hqM
                · rw [S.gr q o hpq z] at hn; cases hn
            have sub : Same (less H M) (less (upd H q (.tup [V.ref a, V.ref b])) ([a, b] ++ M0)) := fun c o hc => by
              obtain ⟨c1, c2⟩ := less_some.mp hc
              refine less_some.mpr ⟨fun z => ?_, ?_⟩
              · rcases List.mem_append.mp z with z | z
                · simp at z
                  rcases z with z | z
                  · exact c1 (z ▸ ma)
                  · exact c1 (z ▸ mb)
                · exact c1 (S.sub c z)
              · rw [upd_ne (fun z => by rw [z, hn] at c2; cases c2)]; exact c2
            have self : ∀ x, x ∈ M → Same (less H (x :: M)) (less H M) := fun x hx => less_sub fun c hc => List.mem_cons_of_mem _ hc
            refine ⟨q, [a, b], [d, e], rfl, rfl, upd_same, hq0, fun z => hqM (S.sub q z), ?_, rfl, fun z => hqM (S.env.pm q z), fun i' p' e' g1 g2 => ?_⟩
            · simp; exact ⟨fun z => n1 z.symm, fun z => n2 z.symm⟩
            · match i' with
              | 0 =>
                simp at g1 g2
                subst g1 g2
                exact ⟨na, S.ow i d a hi eri ea, fun z => S.m0 a z (S.ow i d a hi eri ea), oa, by rw [upd_ne n1]; exact a1, (a2.mono (self a ma)).mono sub⟩
              | 1 =>
                simp at g1 g2
                subst g1 g2
                exact ⟨nb, S.ow j e b hj erj eb, fun z => S.m0 b z (S.ow j e b hj erj eb), ob, by rw [upd_ne n2]; exact b1, (b2.mono (self b mb)).mono sub⟩
              | i' + 2 => simp at g1⟩
end
end DL
set_option maxHeartbeats 2000000
namespace DL
open PySem PySem.Spec PyProof.Rows L2
def atomD : D → Bool
  | .non | .bl _ | .int _ | .str _ => true
  | _ => false
def eAtom (fe : Ed) : Ed := fun ρ π => match fe ρ π with
  | .ok x => if atomD x.1 = true then .ok x else .stuck
  | _ => .stuck
@[simp] theorem eAtom_ap (fe : Ed) (ρ : Rho) (π : Pot) : eAtom fe ρ π = match fe ρ π with
  | .ok x => if atomD x.1 = true then .ok x else .stuck
  | _ => .stuck := rfl
@[simp] theorem atomD_bl (b : Bool) : atomD (.bl b) = true := rfl
@[simp] theorem atomD_int (b : Int) : atomD (.int b) = true := rfl
@[simp] theorem atomD_str (b : Str) : atomD (.str b) = true := rfl
@[simp] theorem atomD_non : atomD .non = true := rfl
end DL
set_option maxHeartbeats 2000000
namespace DL
open PySem PySem.Spec PyProof.Rows L2
section
variable {mg : Str → Option Value} {K : PySem.W.Frag} {pot : Option Addr} {M : List Addr} {H H1 H' : Hp} {v : V} {d : D} {Γ : List Md} {σ : L2.St} {ρ : Rho} {π : Pot} {E : XK}
def canI (mg : Str → Option Value) (K : PySem.W.Frag) (w : Bool) (E : XK) (Γ : List Md) (fi : Ei) : TI := fun σ H R => ∃ pot M ρ π, EnvOk mg K Γ pot M σ H ρ ∧ PotAt pot H π ∧ PostI mg K w pot M H (fi ρ π) R E
theorem DI.can {w : Bool} {X : Cx} {tg iter : Expr} {wi : TI} {fi : Ei} (h : DI w X E Γ tg iter wi fi) : DI w X E Γ tg iter (canI X.mg X.K w E Γ fi) fi :=
  ⟨⟨fun pins s σ H R I q => by
    obtain ⟨pot, M, ρ, π, h1, h2, h3⟩ := q
    exact h.pi.run pins s σ H R I (h.sem pot M σ H ρ π h1 h2 R h3)⟩, fun pot M σ H ρ π I p Q q => ⟨pot, M, ρ, π, I, p, q⟩⟩
end
end DL
set_option maxHeartbeats 2000000
namespace DL
open PySem PySem.Spec PyProof.Rows L2
/-- an own object of a class -/
def isInO (c : Str) : D → Bool
  | .ins c' _ _ => decide (c' = c)
  | _ => false
def cmpO (neg : Bool) (g : D → D → Option D) : List (Str × Fd) → D → D → Pot → Res (D × Pot)
  | [], d, e, π => (ofO (g d e)).bind fun z => .ok (z, π)
  | (c, m) :: cs, d, e, π => if (isInO c d && isInO c e) = true then (m [d, e] π).bind fun z => match z.1 with
    | .bl t => .ok (.bl (if neg then !t else t), z.2)
    | _ => .stuck else cmpO neg g cs d e π
def eCmpO (neg : Bool) (g : D → D → Option D) (cs : List (Str × Fd)) (a b : Ed) : Ed := fun ρ π => (a ρ π).bind fun x => (b ρ x.2).bind fun y => cmpO neg g cs x.1 y.1 y.2
@[simp] theorem eCmpO_ap (neg : Bool) (g : D → D → Option D) (cs : List (Str × Fd)) (a b : Ed) (ρ : Rho) (π : Pot) : eCmpO neg g cs a b ρ π = (a ρ π).bind fun x => (b ρ x.2).bind fun y => cmpO neg g cs x.1 y.1 y.2 := rfl
end DL
set_option maxHeartbeats 2000000
namespace DL
open PySem PySem.Spec PyProof.Rows L2
def tupZ (ns : List Int) : D := .tup (ns.map D.int)
def asTs : List D → Option (List (List Int))
  | [] => some []
  | .tup xs :: r => (asInts xs).bind fun ns => (asTs r).map (ns :: ·)
  | _ => none
theorem asTs_eq : ∀ {ds : List D} {L : List (List Int)}, asTs ds = some L → ds = L.map tupZ
  | [], L, h => by cases h; rfl
  | d :: r, L, h => by
    cases d with
    | tup xs =>
      simp only [asTs, Option.bind_eq_some_iff, Option.map_eq_some_iff] at h
      obtain ⟨ns, h1, L', h2, rfl⟩ := h
      rw [List.map_cons, ← asTs_eq h2, tupZ, ← asInts_eq h1]
    | _ => cases h
def insT (x : List Int) : List (List Int) → List (List Int)
  | [] => [x]
  | y :: r => if TS.code 1024 x ≤ TS.code 1024 y then x :: y :: r else y :: insT x r
def sortT : List (List Int) → List (List Int)
  | [] => []
  | x :: r => insT x (sortT r)
theorem insT_perm (x : List Int) : ∀ L, (insT x L).Perm (x :: L)
  | [] => .refl _
  | y :: r => by
    unfold insT
    split
    · exact .refl _
    · exact ((insT_perm x r).cons y).trans (.swap x y r)
theorem sortT_perm : ∀ L, (sortT L).Perm L
  | [] => .refl _
  | x :: r => (insT_perm x _).trans ((sortT_perm r).cons x)
def leT (x y : List Int) : Prop := TS.code 1024 x ≤ TS.code 1024 y
theorem insT_sorted (x : List Int) : ∀ L, L.Pairwise leT → (insT x L).Pairwise leT
  | [], _ => List.pairwise_singleton ..
  | y :: r, h => by
    rw [List.pairwise_cons] at h
    unfold insT
    split
    · rename_i q
      rw [List.pairwise_cons, List.pairwise_cons]
      refine ⟨fun z hz => ?_, h⟩
      rcases List.mem_cons.mp hz with rfl | hz
      · exact q
      · exact Int.le_trans q (h.1 z hz)
    · rename_i q
      rw [List.pairwise_cons]
      refine ⟨fun z hz => ?_, insT_sorted x r h.2⟩
      rcases List.mem_cons.mp ((insT_perm x r).mem_iff.mp hz) with rfl | hz
      · exact Int.le_of_lt (Int.not_le.mp q)
      · exact h.1 z hz
theorem sortT_sorted : ∀ L, (sortT L).Pairwise leT
  | [] => .nil
  | x :: r => insT_sorted x _ (sortT_sorted r)
theorem code_inj {B : Int} : ∀ {ns ms : List Int}, ns.length = ms.length → TS.Bd B ns → TS.Bd B ms → TS.code B ns = TS.code B ms → ns = ms
  | [], [], _, _, _, _ => rfl
  | x :: ns, y :: ms, hl, h1, h2, h => by
    have hl' : ns.length = ms.length := by simpa using hl
    have e : x = y := by
      apply Classical.byContradiction
      intro hn
      rcases Int.lt_or_gt_of_ne hn with q | q
      · have := TS.code_lt hl' h1.tail h2.tail q; omega
      · have := TS.code_lt hl'.symm h2.tail h1.tail q; omega
    subst e
    have : TS.code B ns = TS.code B ms := by
      have h' : x * B ^ ns.length + TS.code B ns = x * B ^ ms.length + TS.code B ms := h
      rw [hl'] at h'
      omega
    rw [code_inj hl' h1.tail h2.tail this]
def fitT (d : Nat) (ns : List Int) : Bool := decide (ns.length = d) && ns.all fun n => decide (0 ≤ n) && decide (n < 1024)
theorem fitT_bd {d : Nat} {ns : List Int} (h : fitT d ns = true) : ns.length = d ∧ TS.Bd 1024 ns := by
  unfold fitT at h
  simp only [Bool.and_eq_true, decide_eq_true_eq, List.all_eq_true] at h
  exact ⟨h.1, fun m hm => h.2 m hm⟩
theorem sorted_T {d : Nat} : ∀ {L Z : List (List Int)}, L.Perm Z → L.Pairwise leT → Z.Pairwise leT → (∀ x ∈ Z, fitT d x = true) → L = Z
  | [], Z, hp, _, _, _ => (List.nil_perm.mp hp).symm
  | x :: L, [], hp, _, _, _ => absurd hp (by simp)
  | x :: L, z :: Z, hp, h1, h2, hb => by
    rw [List.pairwise_cons] at h1 h2
    have hx : x ∈ z :: Z := hp.mem_iff.mp (List.mem_cons_self ..)
    have hz : z ∈ x :: L := hp.mem_iff.mpr (List.mem_cons_self ..)
    have a : leT z x := by
      rcases List.mem_cons.mp hx with rfl | m
      · exact Int.le_refl _
      · exact h2.1 x m
    have b : leT x z := by
      rcases List.mem_cons.mp hz with rfl | m
      · exact Int.le_refl _
      · exact h1.1 z m
    obtain ⟨l1, d1⟩ := fitT_bd (hb x hx)
    obtain ⟨l2, d2⟩ := fitT_bd (hb z (List.mem_cons_self ..))
    have e : x = z := code_inj (l1.trans l2.symm) d1 d2 (Int.le_antisymm b a)
    subst e
    rw [sorted_T (List.Perm.cons_inv hp) h1.2 h2.2 fun y hy => hb y (List.mem_cons_of_mem _ hy)]
def fSortA : List D → Option D
  | [.lst xs] => match asInts xs with
    | some ns => some (.lst ((sortI ns).map D.int))
    | none => match asTs xs with
      | some L => if L.length < 64 then (if L.all (fitT 2) = true then some (.lst ((sortT L).map tupZ)) else if L.all (fitT 3) = true then some (.lst ((sortT L).map tupZ)) else none) else none
      | none => none
  | [.tup xs] => (asInts xs).map fun ns => .lst ((sortI ns).map D.int)
  | _ => none
section
open SrtO
/-- sorted of a tuple -/
theorem sorted_tup {prog : Program} {w : World} {A : Around} {E : Value → Shared → Prop} {s : Shared} {l : Addr} {vs : List Value} {ltv : Value → Value → Bool} {Q : Value → Shared → Prop} (O : Swo ltv) (tup : IsTup s.heap l vs.toArray) (few : vs.length ≤ sizeLine)
    (cmp : 2 ≤ vs.length → ∀ (hp : Heap) (a : Addr), SortableO prog w A.in1.in1 { s with heap := hp } a vs ltv)
    (fin : ∀ (out : List Value) (h1 h2 : Heap) (ep : Nat), Srtd ltv out → Stb ltv out vs → (∀ b o, s.heap.get? b = some o → h1.get? b = some o) → (∀ b o, h1.get? b = some o → h2.get? b = some o) → h2.get? h1.objs.size = some (seqObj "list" out.toArray ep) → Q (.ref h1.objs.size) { s with heap := h2 }) :
    wpAny (model prog w) A (call (.builtin "sorted") [.ref l]) Q E s := by
  obtain ⟨ob, at1, cl1, num, dt1⟩ := tup
  refine Calls.call_function_entry kind_sorted plain_sorted entry_sorted (args_sorted1 (.ref l)) ?_
  unfold Builtin.«sorted»
  refine wpAny_bind (wpAny_pure (wpAny_bind (wpAny_collect_seq l (.inr rfl) at1 cl1 dt1 (fun h1 old => ?_) (by simpa using few))))
  have laid : (h1.push (seqObj "list" vs.toArray 0)).get? h1.objs.size = some (seqObj "list" vs.toArray 0) := Heap.get?_push_size _ rfl
  refine wpAny_bind (wpAny_newList ?_ (by simpa using few))
  refine wpAny_bind (wpAny_holding (wpAny_call_entry slot_list_sort ⟨_, laid, rfl⟩ entry_list_sort (list_sort_ord O (n := 0) laid few (fun two => cmp two _ _) fun out srt stb => ⟨_, rfl, ?_⟩) (args_list_sort (.ref h1.objs.size))))
  obtain ⟨ep, there⟩ := PyProof.Rows.sortedHeap_at (out := out.toArray) laid
  refine wpAny_pure ⟨_, rfl, fin out h1 _ ep srt stb old (fun b o e => ?_) there⟩
  have lt := Heap.lt_size e
  rw [PyProof.Rows.sortedHeap_old (fun z => absurd lt (by rw [z]; exact Nat.lt_irrefl _)) (by rw [Heap.size_push]; exact Nat.lt_succ_of_lt lt)]
  exact Heap.get?_push_of_some _ e
def rSortedTp (K : PySem.W.Frag) : List V → Hp → VK → Prop := fun vs H Q => ∃ (a : Addr) (ns : List Int), vs = [V.ref a] ∧ SqT K H a (ns.map V.int) ∧
  ∀ (ns' : List Int) (p : Addr), ns'.Perm ns → ns'.Pairwise (· ≤ ·) → H p = none → Q (.ref p) (upd H p (.lst (ns'.map V.int)))
theorem cr_sortedTp {X : Cx} : CallR X (.builtin "sorted") (rSortedTp X.K) := by
  intro pins s σ H vs us Q I r h
  obtain ⟨a, ns, rfl, hs, q⟩ := h
  obtain ⟨its, rv, hl, hz⟩ := I.tuple hs
  rw [Vals.ref1 r]
  have hi := rv.ints
  refine sorted_tup SrtO.swo_int hl (by rw [← rv.length]; exact hz) (fun h2 h₁ a' => SrtO.ints_sortable hi h2) fun out hp1 hp2 ep h1 h2 old1 old2 at2 => ?_
  obtain ⟨k1, k2, k3⟩ := SrtO.ints_out hi h1 h2
  have hlen : ((out.map SrtO.iv).map V.int).length ≤ sizeLine := by
    rw [List.length_map, k2.length_eq]
    rw [List.length_map] at hz
    exact hz
  have I1 : L2.Inv X pins σ H { s with heap := hp1, toks := s.toks } := I.kept old1
  exact ⟨.ref hp1.objs.size, upd H hp1.objs.size (.lst ((out.map SrtO.iv).map V.int)), I1.laid (t' := s.toks) old2 (Nat.le_refl _) ⟨hlen, out, ep, vals_of_ints k1, at2⟩, rfl, q _ _ k2 k3 I1.fresh⟩
end
section
variable {X : Cx} {mg : Str → Option Value} {K : PySem.W.Frag} {H : Hp} {M : List Addr} {pot : Option Addr}
theorem rpL_perm {H : Hp} {xs ys : List V} (p : ys.Perm xs) : ∀ {ds : List D}, RpL mg K H xs ds → ∃ es, es.Perm ds ∧ RpL mg K H ys es := by
  induction p with
  | nil => intro ds r; exact ⟨ds, .refl _, r⟩
  | cons x _ ih =>
    intro ds r
    cases r with
    | cons a t =>
      obtain ⟨es, h1, h2⟩ := ih t
      exact ⟨_, h1.cons _, .cons a h2⟩
  | swap x y l =>
    intro ds r
    cases r with
    | cons a t => cases t with
      | cons b t => exact ⟨_, .swap _ _ _, .cons b (.cons a t)⟩
  | trans _ _ ih1 ih2 =>
    intro ds r
    obtain ⟨es, h1, h2⟩ := ih2 r
    obtain ⟨fs, h3, h4⟩ := ih1 h2
    exact ⟨fs, h3.trans h1, h4⟩
/-- data that are tuples of ints, as the heap has them -/
theorem rp_tupZ {v : V} {ns : List Int} (r : Rp mg K H v (tupZ ns)) : TupI K H v ns := by
  obtain ⟨p, xs, rfl, h1, h2⟩ := rb_tup (pot := none) (M := []) (H := H) (.inl (r.mono fun a o h => less_some.mpr ⟨by simp, h⟩))
  exact ⟨p, rfl, sqT_mono (H := less H []) less_le (by rw [← h2.iz]; exact h1)⟩
theorem sq_le {a : Addr} {xs : List V} (h : SqT K (less H M) a xs) : SqT K H a xs := sqT_mono less_le h
theorem tupI_le {v : V} {ns : List Int} (h : TupI K (less H M) v ns) : TupI K H v ns := by
  obtain ⟨t, e, h⟩ := h
  exact ⟨t, e, sq_le h⟩
theorem pair_codes : ∀ {ys : List V} {L : List (List Int)}, RpL mg K (less H M) ys (L.map tupZ) → ys.Pairwise (fun x y => ∀ n m, TupI K H x n → TupI K H y m → TS.code 1024 n ≤ TS.code 1024 m) → L.Pairwise leT
  | [], [], _, _ => .nil
  | y :: ys, n :: L, r, h => by
    cases r with
    | cons a t =>
      rw [List.pairwise_cons] at h ⊢
      refine ⟨fun m hm => ?_, pair_codes t h.2⟩
      obtain ⟨i, hi⟩ := List.getElem?_of_mem hm
      obtain ⟨w, e1, e2⟩ := t.get (i := i) (d := tupZ m) (by rw [List.getElem?_map, hi]; rfl)
      exact h.1 w (List.mem_of_getElem? e1) n m (tupI_le (rp_tupZ a)) (tupI_le (rp_tupZ e2))
theorem perm_unmap {es : List D} {L : List (List Int)} (h : es.Perm (L.map tupZ)) : ∃ L' : List (List Int), es = L'.map tupZ ∧ L'.Perm L := by
  have hinj : ∀ es : List D, (∀ e ∈ es, ∃ n, e = tupZ n) → ∃ L' : List (List Int), es = L'.map tupZ := fun es => by
    induction es with
    | nil => intro _; exact ⟨[], rfl⟩
    | cons e es ih =>
      intro he
      obtain ⟨n, rfl⟩ := he e (List.mem_cons_self ..)
      obtain ⟨L', rfl⟩ := ih fun x hx => he x (List.mem_cons_of_mem _ hx)
      exact ⟨n :: L', rfl⟩
  obtain ⟨L', rfl⟩ := hinj es fun e he => by
    obtain ⟨n, _, rfl⟩ := List.mem_map.mp (h.mem_iff.mp he)
    exact ⟨n, rfl⟩
  refine ⟨L', rfl, ?_⟩
  have hi : Function.Injective tupZ := fun a b e => by
    have e' : a.map D.int = b.map D.int := by simpa [tupZ] using e
    exact (List.map_inj_right (fun x y h => by cases h; rfl)).mp e'
  have back : ∀ l : List (List Int), (l.map tupZ).map (fun d => ((match d with | .tup xs => (asInts xs).getD [] | _ => []) : List Int)) = l := fun l => by
    rw [List.map_map]
    conv => rhs; rw [← List.map_id l]
    apply List.map_congr_left
    intro ns _
    have : asInts (ns.map D.int) = some ns := by
      induction ns with
      | nil => rfl
      | cons x ns ih => simp [asInts, ih]
    simp [tupZ, this]
  have := h.map (fun d => ((match d with | .tup xs => (asInts xs).getD [] | _ => []) : List Int))
  rwa [back, back] at this
theorem sortU_ok {d : Nat} {v : V} {L : List (List Int)} (hL : L.length < 64) (hf : L.all (fitT d) = true) (ph : ∀ a, pot = some a → H a ≠ none) (h : Rb mg K pot M H v (.lst (L.map tupZ))) {Q : VK}
    (q : ∀ w H', Same H H' → RpR mg K .o pot M H H' w (.lst ((sortT L).map tupZ)) → Q w H') : rSortU K d 1024 [v] H Q := by
  obtain ⟨p, xs, rfl, h1, r1⟩ := rb_lst h
  have hf' : ∀ x ∈ L, fitT d x = true := List.all_eq_true.mp hf
  refine ⟨p, xs, rfl, .inl (.inl h1), by rw [r1.length, List.length_map]; exact hL, fun x hx => ?_, fun ys c hp hs hn => ?_⟩
  · obtain ⟨i, hi⟩ := List.getElem?_of_mem hx
    obtain ⟨e, e1, e2⟩ := r1.getV hi
    rw [List.getElem?_map, Option.map_eq_some_iff] at e1
    obtain ⟨ns, e3, rfl⟩ := e1
    obtain ⟨l1, l2⟩ := fitT_bd (hf' ns (List.mem_of_getElem? e3))
    exact ⟨ns, tupI_le (rp_tupZ e2), l1, l2⟩
  · obtain ⟨es, p1, r2⟩ := rpL_perm hp r1
    obtain ⟨L', rfl, p2⟩ := perm_unmap p1
    have e : L' = sortT L := sorted_T (d := d) (p2.trans (sortT_perm L).symm) (pair_codes r2 hs) (sortT_sorted L) fun x hx => hf' x ((sortT_perm L).mem_iff.mp hx)
    subst e
    exact q _ _ (same_upd hn) (new_lst ph hn r2)
theorem c_sortA : CallOk X (.builtin "sorted") (fun vs H Q => rSortedI X.K vs H Q ∨ rSortU X.K 2 1024 vs H Q ∨ rSortU X.K 3 1024 vs H Q ∨ rSortedTp X.K vs H Q) [.b] .o fSortA := ⟨cr_sortedI.or ((cr_sortT (by decide)).or ((cr_sortT (by decide)).or cr_sortedTp)), fun pot M H vs ds z al pm ph a hz Q q => by
  obtain ⟨v, d, rfl, rfl, h⟩ := arg1 a
  unfold fSortA at hz
  split at hz
  · rename_i xs e
    cases e
    split at hz
    · rename_i ns en
      cases hz
      have hz' : fSortI [.lst xs] = some (.lst ((sortI ns).map D.int)) := by simp [fSortI, onInts, en]
      exact .inl (c_sortI.2 pot M H _ _ _ al pm ph (.cons h .nil) hz' Q q)
    · split at hz
      · rename_i L eL
        rw [asTs_eq eL] at h
        split at hz
        · rename_i hl
          split at hz
          · rename_i h2
            cases hz
            exact .inr (.inl (sortU_ok hl h2 ph h q))
          · split at hz
            · rename_i h3
              cases hz
              exact .inr (.inr (.inl (sortU_ok hl h3 ph h q)))
            · cases hz
        · cases hz
      · cases hz
  · rename_i xs e
    cases e
    cases en : asInts xs with
    | none => rw [en] at hz; cases hz
    | some ns =>
      rw [en] at hz
      cases hz
      have hx := asInts_eq en
      subst hx
      obtain ⟨ad, ys, rfl, hq, r1⟩ := rb_tup h
      have hy := r1.iz
      subst hy
      have e : DL.iz ns = ns.map D.int := rfl
      exact .inr (.inr (.inr ⟨ad, ns, rfl, sqT_mono less_le hq, fun ns' p hp hs hn => by
        have : ns' = sortI ns := sorted_same (hp.trans (sortI_perm ns).symm) hs (sortI_sorted ns)
        subst this
        exact q _ _ (same_upd hn) (new_lst ph hn (RpL.of_ints _))⟩))
  · cases hz⟩
end
@[simp] theorem fSortA_izT (ns : List Int) : fSortA [.tup (ns.map D.int)] = some (.lst ((sortI ns).map D.int)) := by
  simp [fSortA, asInts_iz]
@[simp] theorem fSortA_iz (ns : List Int) : fSortA [.lst (ns.map D.int)] = some (.lst ((sortI ns).map D.int)) := by
  simp [fSortA, asInts_iz]
end DL
set_option maxHeartbeats 4000000
namespace DL
open PySem PySem.Spec PyProof.Rows L2
/-- what may be locked -/
inductive Lkb : HO → Prop
  | k (kvs : List (Key × V)) : Lkb (.dK kvs)
  | t (kvs : List (List Key × V)) : Lkb (.dT kvs)
/-- two heaps that differ in locks alone -/
def Sim (H H' : Hp) : Prop := ∀ a, H a = H' a ∨ ∃ od u, Lkb u ∧ ((H a = some u ∧ H' a = some (.frz od u)) ∨ (H' a = some u ∧ H a = some (.frz od u)))
section
variable {mg : Str → Option Value} {K : PySem.W.Frag} {H H' : Hp}
theorem Sim.same (s : Sim H H') {a : Addr} {o : HO} (h : H a = some o) (n1 : ¬ Lkb o) (n2 : ∀ od u, Lkb u → o ≠ .frz od u) : H' a = some o := by
  rcases s a with e | ⟨od, u, hu, ⟨e, _⟩ | ⟨_, e⟩⟩
  · rw [← e]; exact h
  · rw [h] at e; cases e; exact (n1 hu).elim
  · rw [h] at e; cases e; exact (n2 _ _ hu rfl).elim
theorem Sim.rd (s : Sim H H') {a : Addr} {u : HO} (h : Rd H a u) (n1 : ¬ Lkb u) (n2 : ∀ od u', Lkb u' → u ≠ .frz od u') : Rd H' a u := by
  rcases h with h | ⟨o, h⟩
  · exact .inl (s.same h n1 n2)
  · refine .inr ⟨o, s.same h (fun e => by cases e) fun od u' hu' e => ?_⟩
    cases e
    exact n1 hu'
end
end DL
set_option maxHeartbeats 4000000
namespace DL
open PySem PySem.Spec PyProof.Rows L2
end DL
set_option maxHeartbeats 4000000
namespace DL
open PySem PySem.Spec PyProof.Rows L2
def tLook (ft : Et) : Et := fun ρ π => match ft ρ π with
  | .ok x => .ok x
  | _ => .stuck
@[simp] theorem tLook_ap (ft : Et) (ρ : Rho) (π : Pot) : tLook ft ρ π = match ft ρ π with
  | .ok x => .ok x
  | _ => .stuck := rfl
end DL
set_option maxHeartbeats 4000000
namespace DL
open PySem PySem.Spec PyProof.Rows L2
end DL
set_option maxHeartbeats 4000000
namespace DL
open PySem PySem.Spec PyProof.Rows L2
end DL
set_option maxHeartbeats 4000000
namespace DL
open PySem PySem.Spec PyProof.Rows L2
end DL
set_option maxHeartbeats 4000000
namespace DL
open PySem PySem.Spec PyProof.Rows L2
end DL
set_option maxHeartbeats 4000000
namespace DL
open PySem PySem.Spec PyProof.Rows L2
end DL
set_option maxHeartbeats 4000000
namespace DL
open PySem PySem.Spec PyProof.Rows L2
end DL
set_option maxHeartbeats 4000000
namespace DL
open PySem PySem.Spec PyProof.Rows L2
end DL
set_option maxHeartbeats 4000000
namespace DL
open PySem PySem.Spec PyProof.Rows L2
end DL
set_option maxHeartbeats 4000000
namespace DL
open PySem PySem.Spec PyProof.Rows L2
end DL
set_option maxHeartbeats 4000000
namespace DL
open PySem PySem.Spec PyProof.Rows L2
end DL
set_option maxHeartbeats 4000000
namespace DL
open PySem PySem.Spec PyProof.Rows L2
end DL
set_option maxHeartbeats 4000000
namespace DL
open PySem PySem.Spec PyProof.Rows L2
end DL
set_option maxHeartbeats 2000000
namespace DL
open PySem PySem.Spec PyProof.Rows L2
def GrowM (q : Addr) (pot : Option Addr) (H H' : Hp) : Prop := ∀ a o, pot ≠ some a → a ≠ q → H a = some o → H' a = some o
theorem GrowM.refl {q : Addr} {pot : Option Addr} {H : Hp} : GrowM q pot H H := fun _ _ _ _ h => h
theorem GrowM.of {q : Addr} {pot : Option Addr} {H H' : Hp} (g : Grow pot H H') : GrowM q pot H H' := fun a o n _ h => g a o n h
theorem GrowM.trans {q : Addr} {pot : Option Addr} {H H1 H2 : Hp} (g : GrowM q pot H H1) (h : GrowM q pot H1 H2) : GrowM q pot H H2 := fun a o n m e => h a o n m (g a o n m e)
end DL
namespace DL
open PySem PySem.Spec PyProof.Rows L2
end DL
set_option maxHeartbeats 4000000
namespace DL
open PySem PySem.Spec PyProof.Rows L2
def joinD : List Ed → Str → Ed
  | [], acc => fun _ π => .ok (.str acc, π)
  | f :: fs, acc => fun ρ π => (f ρ π).bind fun x => match x.1 with
    | .str y => if (acc ++ y).length ≤ sizeLine then joinD fs (acc ++ y) ρ x.2 else .stuck
    | _ => .stuck
section
variable {X : Cx} {E : XK} {Γ : List Md} {pos p : Pos} {k j : Nat} {e : Expr} {te : TE} {fe : Ed}
inductive DJ (X : Cx) (E : XK) (Γ : List Md) : List Expr → List TE → List Ed → Prop where
  | nil : DJ X E Γ [] [] []
  | cons {e : Expr} {t : TE} {f : Ed} {es : List Expr} {ts : List TE} {fs : List Ed} (h : DE X E .f Γ e t f) (r : DJ X E Γ es ts fs) : DJ X E Γ (e :: es) (t :: ts) (f :: fs)
theorem DJ.sem {es : List Expr} {ts : List TE} {fs : List Ed} (h : DJ X E Γ es ts fs) : ∀ (acc : Str) pot M σ H ρ π, EnvOk X.mg X.K Γ pot M σ H ρ → PotAt pot H π → ∀ Q : Str → Hp → Prop, Post X.mg X.K .f pot M H (joinD fs acc ρ π) (fun v H' => ∀ y, v = .str y → Q y H') E → tJs ts acc σ H Q := by
  induction h with
  | nil => exact fun acc pot M σ H ρ π I p Q h => h (.str acc) H .refl p (.str _) acc rfl
  | @cons e t f es ts fs he r ih =>
    intro acc pot M σ H ρ π I p Q h
    refine Post.seq (r' := .f) (te := t σ H) h p (fun Q' hq => he.sem pot M σ H ρ π I p Q' hq) fun d π1 v H1 _ g1 p1 r1 h1 => ?_
    dsimp only at h1
    cases d with
    | str y =>
      simp only at h1
      split at h1
      · rename_i hl
        cases (show Rp X.mg X.K (less H1 M) v (.str y) from r1)
        exact ⟨y, rfl, hl, ih (acc ++ y) pot M σ H1 ρ π1 (I.grow g1 p1) p1 Q h1⟩
      · exact h1.elim
    | _ => exact h1.elim
variable {c qual x : Str} {st : Stmt} {ps : List Str} {m : Fd}
end
end DL
set_option maxHeartbeats 4000000
namespace DL
open PySem PySem.Spec PyProof.Rows L2
end DL
set_option maxHeartbeats 4000000
namespace DL
open PySem PySem.Spec PyProof.Rows L2
end DL
set_option maxHeartbeats 4000000
namespace DL
open PySem PySem.Spec PyProof.Rows L2
theorem KT.at_ {H : Hp} {kvs : List (List Key × V)} {xs : List (List Key × Addr × Value)} (r : KT H kvs xs) : kvs.length = xs.length ∧ ∀ i (h1 : i < kvs.length) (h2 : i < xs.length), kvs[i].1 = xs[i].1 ∧ RelV kvs[i].2 xs[i].2.2 := by
  induction r with
  | nil => exact ⟨rfl, fun i h1 => absurd h1 (Nat.not_lt_zero i)⟩
  | cons h _ ih =>
    refine ⟨by simp [ih.1], fun i h1 h2 => ?_⟩
    cases i with
    | zero => exact ⟨h.1, h.2.2⟩
    | succ i => exact ih.2 i (Nat.lt_of_succ_lt_succ h1) (Nat.lt_of_succ_lt_succ h2)
end DL
set_option maxHeartbeats 4000000
namespace DL
open PySem PySem.Spec PyProof.Rows L2
section
variable {X : Cx} {E : XK} {Γ : List Md} {pos : Pos} {k j : Nat} {a b : Expr} {ta tb : TE} {fa fb : Ed} {c qual : Str} {st : Stmt} {ps : List Str} {m : Fd}
def neTO (c : Str) (m : Fd) (d e : D) (π : Pot) : Res (D × Pot) := match d, e with
  | .tup [.int i, x], .tup [.int j, y] => if i = j ∧ isInO c x = true ∧ isInO c y = true then (match m [x, y] π with
    | .ok (.bl true, π') => if π' = π then .ok (.bl false, π) else .stuck
    | _ => .stuck) else .stuck
  | _, _ => .stuck
def eNeTO (c : Str) (m : Fd) (a b : Ed) : Ed := fun ρ π => (a ρ π).bind fun x => (b ρ x.2).bind fun y => neTO c m x.1 y.1 y.2
end
@[simp] theorem eNeTO_ap (c : Str) (m : Fd) (a b : Ed) (ρ : Rho) (π : Pot) : eNeTO c m a b ρ π = (a ρ π).bind fun x => (b ρ x.2).bind fun y => neTO c m x.1 y.1 y.2 := rfl
end DL
set_option maxHeartbeats 4000000
namespace DL
open PySem PySem.Spec PyProof.Rows L2
end DL
set_option maxHeartbeats 4000000
namespace DL
open PySem PySem.Spec PyProof.Rows L2
theorem dfn_stuck {P : Program} {w : World} {K : PySem.W.Frag} {mg : Str → Option Value} {base : Heap} {k : Nat} {x : Str} {st : Stmt} {ps : List Str} {ks : List Ak} {r : Rm} (hf : ∃ f fd, mg x = some (.ref f) ∧ Fun K x x st f fd) : DFn P w K mg base k x st ps ks r (fun _ _ => .stuck) := by
  obtain ⟨f, fd, h1, h2⟩ := hf
  refine ⟨f, fd, h1, h2, ⟨fun vs H Q E h => ?_, fun A outer s H args us vs Q E _ _ _ _ _ h => ?_⟩⟩
  · obtain ⟨_, _, _, _, _, _, _, _, _, h⟩ := h
    exact h.elim
  · obtain ⟨_, _, _, _, _, _, _, _, _, h⟩ := h
    exact h.elim
end DL
set_option maxHeartbeats 2000000
namespace DL
open PySem PySem.Spec PyProof.Rows L2
section
open PySem.SeqAt
theorem firstLt_lex : ∀ (ns ms : List Int), firstLt (fun j => ns.getD j 0 == ms.getD j 0) (fun j => decide (ns.getD j 0 < ms.getD j 0)) (decide (ns.length < ms.length)) (List.range (min ns.length ms.length)) = HT.lexLt ns ms
  | [], [] => rfl
  | [], m :: ms => by simp [firstLt, HT.lexLt_nil_cons]
  | n :: ns, [] => by simp [firstLt, HT.lexLt_cons_nil]
  | n :: ns, m :: ms => by
    have ih := firstLt_lex ns ms
    have e : min (n :: ns).length (m :: ms).length = min ns.length ms.length + 1 := by simp [Nat.succ_min_succ]
    rw [e, List.range_succ_eq_map, HT.lexLt_cons]
    by_cases q : n = m
    · rw [if_pos q, firstLt_yes (by simp [q]), PySem.W.firstLt_map]
      simpa using ih
    · rw [if_neg q, firstLt_no (by simpa using q)]
      simp
/-- an int list of the heap -/
def IsLi (h : Heap) (v : Value) (ns : List Int) : Prop := ∃ (a : Addr) (its : Array Value), v = .ref a ∧ h.IsList a its ∧ IntsAre its.toList ns
section
variable {prog : Program} {w : World} {A : Around} {E : Value → Shared → Prop} {s : Shared}
theorem li_at {its : Array Value} {ns : List Int} (i : IntsAre its.toList ns) {j : Nat} (h : j < its.size) : ∃ t, its[j] = .int (ns.getD j 0) t :=
  PyProof.Rows.IntsAre.int_at i _ _ (by simp [h])
theorem lt_li {v u : Value} {ns ms : List Int} {Q : Bool → Shared → Prop} (hu : A.units < cLine) (hv : IsLi s.heap v ns) (hw : IsLi s.heap u ms) (h : Q (HT.lexLt ns ms) s) : wpAny (model prog w) A (keyLt' oneType' v u) Q E s := by
  obtain ⟨a, its, rfl, ha, ia⟩ := hv
  obtain ⟨b, its2, rfl, hb, ib⟩ := hw
  have e1 : its.size = ns.length := by rw [← Array.length_toList]; exact ia.length
  have e2 : its2.size = ms.length := by rw [← Array.length_toList]; exact ib.length
  rw [keyLt'_oneType, PyProof.Rows.oneLt'_eq]
  simp only [if_true]
  refine wpAny_bind (wpAny_cRoomFor hu ?_)
  obtain ⟨o, ho, hc, hd⟩ := id ha
  refine wpAny_bind (wpAny_callSpecialIfBound?_slot (T := "list") ⟨_, ho, hc⟩ F.slot_list_lt (call_list_lt (e := fun j => ns.getD j 0 == ms.getD j 0) (r := fun j => decide (ns.getD j 0 < ms.getD j 0)) ha hb (fun j j1 j2 => ?_) (fun j j1 j2 hj => ?_) ?_))
  · obtain ⟨t, et⟩ := li_at ia j1
    obtain ⟨t', et'⟩ := li_at ib j2
    rw [et, et']
    exact SeqAt.EqAt.int_int _ _ _ _
  · obtain ⟨t, et⟩ := li_at ia j1
    obtain ⟨t', et'⟩ := li_at ib j2
    rw [et, et']
    exact fun _ _ _ _ q => PyProof.Rows.lt_int q
  · rw [e1, e2, firstLt_lex]
    exact wpAny_truthy_bool h
theorem li_type {h : Heap} {M : Model} {v : Value} {ns : List Int} (x : IsLi h v ns) : PySem.W.Looks M h (typeOf v) (.type "list") := by
  obtain ⟨a, its, rfl, ⟨⟨cls, dd, data, sl⟩, ho, hc, _⟩, _⟩ := x
  simp only at hc
  subst hc
  exact (PySem.W.Looks.ld ho).andThen .now
theorem li_keeps {h h' : Heap} {v : Value} {ns : List Int} (x : IsLi h v ns) (k : ∀ b o, v = .ref b → h.get? b = some o → h'.get? b = some o) : IsLi h' v ns := by
  obtain ⟨a, its, rfl, ⟨o, ho, r⟩, i⟩ := x
  exact ⟨a, its, rfl, ⟨o, k _ _ rfl ho, r⟩, i⟩
theorem li_sortable {a : Addr} {vs : List Value} {k : Value → List Int} (h2 : 2 ≤ vs.length) (hu : A.units < cLine) (hv : ∀ v ∈ vs, IsLi s.heap v (k v)) (ha : ∀ v ∈ vs, v ≠ .ref a) :
    SrtO.SortableO prog w A s a vs fun v u => HT.lexLt (k v) (k u) := by
  intro h' keep
  have hv' : ∀ v ∈ vs, IsLi h' v (k v) := fun v hm => li_keeps (hv v hm) fun b o e g => keep b o (fun z => ha v hm (by rw [e, z])) g
  refine ⟨oneType', fun Q E hq => ?_, fun p q hp hq => ?_⟩
  · exact PySem.W.kas_kind (s := { s with heap := h' }) (T := .type "list") h2 (fun v hm => li_type (hv' v hm)) (by decide) (by decide) hq
  · exact lt_li (Q := fun r s' => s' = { s with heap := h' } ∧ r = HT.lexLt (k p.1) (k q.1)) (E := fun _ _ => False) hu (hv' p.1 hp) (hv' q.1 hq) ⟨rfl, rfl⟩
end
end
/-- the ints that a list of H holds -/
def lsI (H : Hp) : V → List Int
  | .ref t => match H t with
    | some (.lst xs) => xs.map fun v => match v with | .int i => i | _ => 0
    | _ => []
  | _ => []
theorem lsI_ref {H : Hp} {t : Addr} {ns : List Int} (h : H t = some (.lst (ns.map V.int))) : lsI H (.ref t) = ns := by
  simp only [lsI, h, List.map_map]
  exact (List.map_congr_left fun _ _ => rfl).trans (List.map_id ns)
/-- sorted(xs), xs a list of lists of ints -/
def rSortLL : List V → Hp → VK → Prop := fun vs H Q => ∃ (a : Addr) (xs : List V), vs = [V.ref a] ∧ H a = some (.lst xs) ∧ (∀ x ∈ xs, ∃ t ns, x = .ref t ∧ H t = some (.lst (List.map V.int ns))) ∧
  ∀ (ys : List V) (p : Addr), ys.Perm xs → ys.Pairwise (fun x y => HT.lexLt (lsI H y) (lsI H x) = false) → H p = none → Q (.ref p) (upd H p (.lst ys))
theorem cr_sortLL {X : Cx} (hu : X.A.units + 65 < cLine) : CallR X (.builtin "sorted") rSortLL := by
  intro pins s σ H vs us Q I r h
  obtain ⟨a, xs, rfl, hs, hx, q⟩ := h
  obtain ⟨hz, its, n, rv, hob⟩ := I.hok a _ hs
  rw [Vals.ref1 r]
  obtain ⟨e1, e2⟩ := bkV_refs rv fun x m => by
    obtain ⟨t, ns, e, _⟩ := hx x m
    exact ⟨t, e⟩
  have hl : s.heap.IsList a its.toArray := ⟨_, hob, rfl, n, rfl⟩
  have hk : ∀ u ∈ its, IsLi s.heap u (lsI H (bkV u)) := fun u hm => by
    obtain ⟨t, rfl⟩ := e2 u hm
    have hm' : V.ref t ∈ xs := by
      rw [e1]
      exact List.mem_map.mpr ⟨_, hm, rfl⟩
    obtain ⟨t', ns, e, ht⟩ := hx _ hm'
    cases e
    obtain ⟨_, its2, n2, r2, ho2⟩ := I.hok t _ ht
    rw [show bkV (.ref t) = V.ref t from rfl, lsI_ref ht]
    exact ⟨t, its2.toArray, rfl, ⟨_, ho2, rfl, n2, rfl⟩, by simpa using r2.ints⟩
  refine SrtO.sorted_ord (NtL.swo_lexL fun u => lsI H (bkV u)) hl (by rw [← rv.length]; exact hz) (fun h2 h₁ a' ha' kk => ?_) fun out h1 h2 => ?_
  · refine li_sortable (s := { s with heap := h₁ }) h2 (by show X.A.units + 1 + 1 < cLine; omega) (fun v hv => li_keeps (hk v hv) fun b o _ g => (kk b o g).2) fun v hv e => ?_
    obtain ⟨t, its2, e', ⟨o, ho, _⟩, _⟩ := hk v hv
    rw [e] at e'
    cases e'
    exact (kk _ o ho).1 rfl
  · obtain ⟨ep, he'⟩ := PyProof.Rows.sortedAll_at s.heap its out.toArray
    have h3 : ∀ u ∈ out, ∃ a, u = Value.ref a := fun u hu => e2 u (h2.perm.mem_iff.mp hu)
    have hp : (out.map bkV).Perm xs := by
      rw [e1]
      exact h2.perm.map bkV
    have hlen : (out.map bkV).length ≤ sizeLine := by
      rw [hp.length_eq]
      exact hz
    exact ⟨.ref _, upd H (s.heap.objs.size + 1) (.lst (out.map bkV)), I.laid (t' := s.toks) (fun _ _ => PyProof.Rows.sortedAll_old) (Nat.le_succ _) ⟨hlen, out, ep, bkV_vals h3, he'⟩, rfl, q _ _ hp (List.pairwise_map.mpr (h1.imp fun {x y} z => z)) (I.hok.fresh (Nat.le_succ _))⟩
def lstZ (ns : List Int) : D := .lst (ns.map D.int)
def asLs : List D → Option (List (List Int))
  | [] => some []
  | .lst xs :: r => (asInts xs).bind fun ns => (asLs r).map (ns :: ·)
  | _ => none
theorem asLs_eq : ∀ {ds : List D} {L : List (List Int)}, asLs ds = some L → ds = L.map lstZ
  | [], L, h => by cases h; rfl
  | d :: r, L, h => by
    cases d with
    | lst xs =>
      simp only [asLs, Option.bind_eq_some_iff, Option.map_eq_some_iff] at h
      obtain ⟨ns, h1, L', h2, rfl⟩ := h
      rw [List.map_cons, ← asLs_eq h2, lstZ, ← asInts_eq h1]
    | _ => cases h
@[simp] theorem asLs_lstZ : ∀ L : List (List Int), asLs (L.map lstZ) = some L
  | [] => rfl
  | ns :: L => by
    show asLs (.lst (ns.map D.int) :: L.map lstZ) = _
    simp [asLs, asLs_lstZ L]
def insL (x : List Int) : List (List Int) → List (List Int)
  | [] => [x]
  | y :: r => if HT.lexLt y x = true then y :: insL x r else x :: y :: r
def sortL : List (List Int) → List (List Int)
  | [] => []
  | x :: r => insL x (sortL r)
theorem insL_perm (x : List Int) : ∀ L, (insL x L).Perm (x :: L)
  | [] => .refl _
  | y :: r => by
    unfold insL
    split
    · exact ((insL_perm x r).cons y).trans (.swap x y r)
    · exact .refl _
theorem sortL_perm : ∀ L, (sortL L).Perm L
  | [] => .refl _
  | x :: r => (insL_perm x _).trans ((sortL_perm r).cons x)
def leL (x y : List Int) : Prop := HT.lexLt y x = false
theorem leL_trans {x y z : List Int} (h1 : leL x y) (h2 : leL y z) : leL x z := NtL.lex_tr _ _ _ h1 h2
theorem insL_sorted (x : List Int) : ∀ L, L.Pairwise leL → (insL x L).Pairwise leL
  | [], _ => List.pairwise_singleton ..
  | y :: r, h => by
    rw [List.pairwise_cons] at h
    unfold insL
    split
    · rename_i q
      rw [List.pairwise_cons]
      refine ⟨fun z hz => ?_, insL_sorted x r h.2⟩
      rcases List.mem_cons.mp ((insL_perm x r).mem_iff.mp hz) with rfl | hz
      · exact NtL.lex_asym _ _ q
      · exact h.1 z hz
    · rename_i q
      have q' : leL x y := by
        show HT.lexLt y x = false
        simpa using q
      rw [List.pairwise_cons, List.pairwise_cons]
      refine ⟨fun z hz => ?_, h⟩
      rcases List.mem_cons.mp hz with rfl | hz
      · exact q'
      · exact leL_trans q' (h.1 z hz)
theorem sortL_sorted : ∀ L, (sortL L).Pairwise leL
  | [] => .nil
  | x :: r => insL_sorted x _ (sortL_sorted r)
theorem leL_anti : ∀ {x y : List Int}, leL x y → leL y x → x = y
  | [], [], _, _ => rfl
  | [], y :: ys, h, h' => by unfold leL at h'; rw [HT.lexLt_nil_cons] at h'; cases h'
  | x :: xs, [], h, h' => by unfold leL at h; rw [HT.lexLt_nil_cons] at h; cases h
  | x :: xs, y :: ys, h, h' => by
    unfold leL at h h'
    rw [HT.lexLt_cons] at h h'
    by_cases e : x = y
    · subst e
      rw [if_pos rfl] at h h'
      rw [leL_anti h h']
    · rw [if_neg (Ne.symm e)] at h
      rw [if_neg e] at h'
      have a := of_decide_eq_false h
      have b := of_decide_eq_false h'
      exact absurd (by omega) e
theorem lex_irr (x : List Int) : HT.lexLt x x = false := (NtL.swo_lexL id).refl x
theorem sorted_L : ∀ {L Z : List (List Int)}, L.Perm Z → L.Pairwise leL → Z.Pairwise leL → L = Z
  | [], Z, hp, _, _ => (List.nil_perm.mp hp).symm
  | x :: L, [], hp, _, _ => absurd hp (by simp)
  | x :: L, z :: Z, hp, h1, h2 => by
    rw [List.pairwise_cons] at h1 h2
    have hx : x ∈ z :: Z := hp.mem_iff.mp (List.mem_cons_self ..)
    have hz : z ∈ x :: L := hp.mem_iff.mpr (List.mem_cons_self ..)
    have a : leL z x := by
      rcases List.mem_cons.mp hx with rfl | m
      · exact lex_irr _
      · exact h2.1 x m
    have b : leL x z := by
      rcases List.mem_cons.mp hz with rfl | m
      · exact lex_irr _
      · exact h1.1 z m
    have e : x = z := leL_anti b a
    subst e
    rw [sorted_L (List.Perm.cons_inv hp) h1.2 h2.2]
def fSortB (ds : List D) : Option D := match ds with
  | [.lst xs] => match asInts xs with
    | some ns => some (.lst ((sortI ns).map D.int))
    | none => match asLs xs with
      | some L => some (.lst ((sortL L).map lstZ))
      | none => fSortA [.lst xs]
  | _ => fSortA ds
@[simp] theorem fSortB_iz (ns : List Int) : fSortB [.lst (ns.map D.int)] = some (.lst ((sortI ns).map D.int)) := by
  simp [fSortB, asInts_iz]
@[simp] theorem fSortB_tup (xs : List D) : fSortB [.tup xs] = fSortA [.tup xs] := rfl
section
variable {X : Cx} {E : XK} {k : Nat} {mg : Str → Option Value} {K : PySem.W.Frag} {H : Hp} {M : List Addr} {pot : Option Addr}
theorem rp_lstZ {v : V} {ns : List Int} (r : Rp mg K (less H M) v (lstZ ns)) : ∃ t, v = .ref t ∧ H t = some (.lst (ns.map V.int)) := by
  obtain ⟨p, xs, rfl, h1, h2⟩ := rb_lst (pot := none) (.inl r)
  exact ⟨p, rfl, by rw [h1, h2.iz]⟩
theorem perm_unmapL {es : List D} {L : List (List Int)} (h : es.Perm (L.map lstZ)) : ∃ L' : List (List Int), es = L'.map lstZ ∧ L'.Perm L := by
  have hinj : ∀ es : List D, (∀ e ∈ es, ∃ n, e = lstZ n) → ∃ L' : List (List Int), es = L'.map lstZ := fun es => by
    induction es with
    | nil => intro _; exact ⟨[], rfl⟩
    | cons e es ih =>
      intro he
      obtain ⟨n, rfl⟩ := he e (List.mem_cons_self ..)
      obtain ⟨L', rfl⟩ := ih fun x hx => he x (List.mem_cons_of_mem _ hx)
      exact ⟨n :: L', rfl⟩
  obtain ⟨L', rfl⟩ := hinj es fun e he => by
    obtain ⟨n, _, rfl⟩ := List.mem_map.mp (h.mem_iff.mp he)
    exact ⟨n, rfl⟩
  refine ⟨L', rfl, ?_⟩
  have back : ∀ l : List (List Int), (l.map lstZ).map (fun d => ((match d with | .lst xs => (asInts xs).getD [] | _ => []) : List Int)) = l := fun l => by
    rw [List.map_map]
    conv => rhs; rw [← List.map_id l]
    apply List.map_congr_left
    intro ns _
    simp [lstZ]
  have := h.map (fun d => ((match d with | .lst xs => (asInts xs).getD [] | _ => []) : List Int))
  rwa [back, back] at this
theorem pair_lex : ∀ {ys : List V} {L : List (List Int)}, RpL mg K (less H M) ys (L.map lstZ) → ys.Pairwise (fun x y => HT.lexLt (lsI H y) (lsI H x) = false) → L.Pairwise leL
  | [], [], _, _ => .nil
  | y :: ys, n :: L, r, h => by
    cases r with
    | cons a t =>
      rw [List.pairwise_cons] at h ⊢
      refine ⟨fun m hm => ?_, pair_lex t h.2⟩
      obtain ⟨i, hi⟩ := List.getElem?_of_mem hm
      obtain ⟨w, e1, e2⟩ := t.get (i := i) (d := lstZ m) (by rw [List.getElem?_map, hi]; rfl)
      have := h.1 w (List.mem_of_getElem? e1)
      obtain ⟨p, rfl, hp⟩ := rp_lstZ a
      obtain ⟨q, rfl, hq⟩ := rp_lstZ e2
      rw [lsI_ref hp, lsI_ref hq] at this
      exact this
theorem c_sortB (x0 : XOk X E k) : CallOk X (.builtin "sorted") (fun vs H Q => (rSortedI X.K vs H Q ∨ rSortU X.K 2 1024 vs H Q ∨ rSortU X.K 3 1024 vs H Q ∨ rSortedTp X.K vs H Q) ∨ rSortLL vs H Q) [.b] .o fSortB := ⟨c_sortA.1.or (cr_sortLL x0.u65), fun pot M H vs ds z al pm ph a hz Q q => by
  obtain ⟨v, d, rfl, rfl, h⟩ := arg1 a
  cases d with
  | lst xs =>
    have other : fSortA [.lst xs] = some z → _ := fun hz' => Or.inl (b := rSortLL [v] H Q) (c_sortA.2 pot M H _ _ _ al pm ph (.cons h .nil) hz' Q q)
    unfold fSortB at hz
    simp only at hz
    cases en : asInts xs with
    | some ns =>
      rw [en] at hz
      refine other ?_
      simp only [fSortA, en]
      exact hz
    | none =>
      rw [en] at hz
      cases eL : asLs xs with
      | none =>
        rw [eL] at hz
        exact other hz
      | some L =>
        rw [eL] at hz
        cases hz
        rw [asLs_eq eL] at h
        obtain ⟨p, us, rfl, h1, r1⟩ := rb_lst h
        refine .inr ⟨p, us, rfl, h1, fun x hx => ?_, fun ys c hp hs hn => ?_⟩
        · obtain ⟨i, hi⟩ := List.getElem?_of_mem hx
          obtain ⟨e, e1, e2⟩ := r1.getV hi
          rw [List.getElem?_map, Option.map_eq_some_iff] at e1
          obtain ⟨ns, e3, rfl⟩ := e1
          obtain ⟨t, e4, e5⟩ := rp_lstZ e2
          exact ⟨t, ns, e4, e5⟩
        · obtain ⟨es, p1, r2⟩ := rpL_perm hp r1
          obtain ⟨L', rfl, p2⟩ := perm_unmapL p1
          have e : L' = sortL L := sorted_L (p2.trans (sortL_perm L).symm) (pair_lex r2 hs) (sortL_sorted L)
          subst e
          exact q _ _ (same_upd hn) (new_lst ph hn r2)
  | tup xs => exact .inl (c_sortA.2 pot M H _ _ _ al pm ph (.cons h .nil) hz Q q)
  | _ => simp [fSortB, fSortA] at hz⟩
end
end DL
set_option maxHeartbeats 4000000
namespace LW
open PySem PySem.Spec PyProof.Rows L2 DL
def topS (i : Nat) : Stmt := PySem.Challenge.pw_pointrows_k58_whole_rows_of_any_points.main.body.getD i (.Pass ⟨0, 0, 0, 0⟩)
abbrev s_l_draw : Stmt := topS 78
def f_l_draw : Fs := (sSeq (sIf (tBl (eBin (cmpI fun i j => decide (j < i)) ePot0 (eC (.int 0)))) (sSeq (sPotDm 2 (eVar 1)) (sRet (eVar 2))) sNext) (sSeq (sPot1 (eBin opMod (eApp fInt (aCons (eBin opAdd (eBin opMulA ePot1
    (eC (.int 39373))) (eC (.int 7103))) aNil)) (eC (.int 2147483587)))) (sRet (eBin opMod (eApp fInt (aCons (eBin opFdivW (eBin opMod (eApp fInt (aCons (eBin opMulA ePot1 ePot1) aNil)) (eC (.int
    2147483563))) (eC (.int 17))) aNil)) (eVar 1)))))
def m_l_draw : Fd := runD 3 .f f_l_draw
abbrev s_l_gcd : Stmt := topS 81
def f_l_gcd_b1 : Fs := (sPar 0 1 (eVar 1) (eBin opMod (eApp fInt (aCons (eVar 0) aNil)) (eVar 1)))
theorem pu_f_l_gcd_b1 : PX f_l_gcd_b1 := (pu_par pu_var (pu_bin (pu_app (pu_acons pu_var pu_anil)) pu_var))
def f_l_gcd : Fs := (sSeq (sWhile (tBl (eBin (cmpI fun i j => decide (j < i)) (eVar 1) (eC (.int 0)))) f_l_gcd_b1) (sRet (eVar 0)))
def m_l_gcd : Fd := runD 2 .f f_l_gcd
theorem pu_f_l_gcd : PX f_l_gcd := (pu_seq (pu_while (pu_tbl (pu_bin pu_var pu_c)) pu_f_l_gcd_b1) (pu_ret pu_var))
theorem pu_m_l_gcd : PF m_l_gcd := pu_runD pu_f_l_gcd
abbrev s_l_told : Stmt := topS 82
def f_l_told_t1 : Et := (tBl (eBin opNe (eVar 2) (eC (.int 0))))
theorem pu_f_l_told_t1 : PX f_l_told_t1 := (pu_tbl (pu_bin pu_var pu_c))
def f_l_told_e1 : Ed := (eVar 2)
theorem pu_f_l_told_e1 : PX f_l_told_e1 := pu_var
def f_l_told_e2 : Ed := (eBin opFdivW (eVar 2) (eVar 1))
theorem pu_f_l_told_e2 : PX f_l_told_e2 := (pu_bin pu_var pu_var)
def f_l_told : Fs := (sSeq (sSet 1 (eGo m_l_gcd (aCons (eGo m_l_gcd (aCons (eApp fAbs (aCons (eBin opIx (eVar 0) (eC (.int 0))) aNil)) (aCons (eApp fAbs (aCons (eBin opIx (eVar 0) (eC (.int 1))) aNil)) aNil))) (aCons (eApp
    fAbs (aCons (eBin opIx (eVar 0) (eC (.int 2))) aNil)) aNil)))) (sSeq (sIf (tBl (eBin (cmpI fun i j => decide (i < j)) (eBin opIx (eLC (iVal (eVar 0)) (gN 2) f_l_told_t1 f_l_told_e1 [2]) (eC (.int
    0))) (eC (.int 0)))) (sSet 1 (eBin opSub (eC (.int 0)) (eVar 1))) sNext) (sRet (eApp fTuple (aCons (eLC (iVal (eVar 0)) (gN 2) tTrue f_l_told_e2 [2]) aNil)))))
def m_l_told : Fd := runD 3 .f f_l_told
theorem pu_f_l_told : PX f_l_told := (pu_seq (pu_set (pu_go pu_m_l_gcd (pu_acons (pu_go pu_m_l_gcd (pu_acons (pu_app (pu_acons (pu_bin pu_var pu_c) pu_anil)) (pu_acons (pu_app (pu_acons (pu_bin pu_var pu_c) pu_anil)) pu_anil))) (pu_acons
    (pu_app (pu_acons (pu_bin pu_var pu_c) pu_anil)) pu_anil)))) (pu_seq (pu_if (pu_tbl (pu_bin (pu_bin (pu_lc (pu_ival pu_var) pu_f_l_told_t1 pu_f_l_told_e1) pu_c) pu_c)) (pu_set (pu_bin pu_c pu_var))
    pu_next) (pu_ret (pu_app (pu_acons (pu_lc (pu_ival pu_var) pu_true pu_f_l_told_e2) pu_anil)))))
theorem pu_m_l_told : PF m_l_told := pu_runD pu_f_l_told
abbrev s_l_points : Stmt := topS 83
def f_l_points_b1 : Fs := (sSeq (sSet 4 (eBin opSub (eGo m_l_draw (aCons (eC .non) (aCons (eC (.int 7)) aNil))) (eC (.int 3)))) (sSeq (sSet 5 (eLst (aCons (eTup (aCons (eC (.int 1)) (aCons (eVar 4) (aCons (eBin opMulA (eVar 4)
    (eVar 4)) aNil)))) (aCons (eTup (aCons (eVar 4) (aCons (eC (.int 0)) (aCons (eC (.int 1)) aNil)))) (aCons (eTup (aCons (eVar 4) (aCons (eBin opSub (eGo m_l_draw (aCons (eC .non) (aCons (eC (.int 7))
    aNil))) (eC (.int 3))) (aCons (eGo m_l_draw (aCons (eC .non) (aCons (eC (.int 3)) aNil))) aNil)))) (aCons (eTup (aCons (eC (.int 1)) (aCons (eVar 4) (aCons (eC (.int 2)) aNil)))) aNil)))))) (sSeq
    (sSet 6 (eIf (tBl (eBin (cmpI fun i j => decide (j < i)) (eGo m_l_draw (aCons (eC .non) (aCons (eC (.int 3)) aNil))) (eC (.int 0)))) (eBin opIx (eVar 5) (eVar 2)) (eBin opIx (eVar 5) (eC (.int 2)))))
    (sIf (tAndD (tBl (eBin opNe (eVar 6) (eTup (aCons (eC (.int 0)) (aCons (eC (.int 0)) (aCons (eC (.int 0)) aNil)))))) (tBl (eBin opNotInA (eGo m_l_told (aCons (eVar 6) aNil)) (eVar 1)))) (sApp 1 (eGo
    m_l_told (aCons (eVar 6) aNil))) sNext))))
theorem f_l_points_b1_ap (ρ : Rho) (π : Pot) : f_l_points_b1 ρ π = (sSeq (sSet 4 (eBin opSub (eGo m_l_draw (aCons (eC .non) (aCons (eC (.int 7)) aNil))) (eC (.int 3)))) (sSeq (sSet 5 (eLst (aCons (eTup (aCons (eC (.int 1)) (aCons (eVar 4) (aCons (eBin opMulA (eVar 4)
    (eVar 4)) aNil)))) (aCons (eTup (aCons (eVar 4) (aCons (eC (.int 0)) (aCons (eC (.int 1)) aNil)))) (aCons (eTup (aCons (eVar 4) (aCons (eBin opSub (eGo m_l_draw (aCons (eC .non) (aCons (eC (.int 7))
    aNil))) (eC (.int 3))) (aCons (eGo m_l_draw (aCons (eC .non) (aCons (eC (.int 3)) aNil))) aNil)))) (aCons (eTup (aCons (eC (.int 1)) (aCons (eVar 4) (aCons (eC (.int 2)) aNil)))) aNil)))))) (sSeq
    (sSet 6 (eIf (tBl (eBin (cmpI fun i j => decide (j < i)) (eGo m_l_draw (aCons (eC .non) (aCons (eC (.int 3)) aNil))) (eC (.int 0)))) (eBin opIx (eVar 5) (eVar 2)) (eBin opIx (eVar 5) (eC (.int 2)))))
    (sIf (tAndD (tBl (eBin opNe (eVar 6) (eTup (aCons (eC (.int 0)) (aCons (eC (.int 0)) (aCons (eC (.int 0)) aNil)))))) (tBl (eBin opNotInA (eGo m_l_told (aCons (eVar 6) aNil)) (eVar 1)))) (sApp 1 (eGo
    m_l_told (aCons (eVar 6) aNil))) sNext)))) ρ π := rfl
def f_l_points : Fs := (sSeq (sPar 1 2 (eLst aNil) (eGo m_l_draw (aCons (eC .non) (aCons (eC (.int 4)) aNil)))) (sSeq (sFor (iRng (aCons (eBin opAdd (eC (.int 3)) (eGo m_l_draw (aCons (eC .non) (aCons (eC (.int 6)) aNil))))
    aNil)) (gN 3) f_l_points_b1) (sRet (eIf (tBl (eBin opNe (eVar 1) (eLst aNil))) (eVar 1) (eLst (aCons (eTup (aCons (eC (.int 1)) (aCons (eC (.int 0)) (aCons (eC (.int 0)) aNil)))) aNil))))))
def m_l_points : Fd := runD 7 .f f_l_points
abbrev s_p_is_list : Stmt := topS 18
def f_p_is_list : Fs := (sRet (eUn (fIsA ["Spots"] ["list", "tuple"]) (eVar 0)))
def m_p_is_list : Fd := runD 1 .f f_p_is_list
theorem pu_f_p_is_list : PX f_p_is_list := (pu_ret (pu_un pu_var))
theorem pu_m_p_is_list : PF m_p_is_list := pu_runD pu_f_p_is_list
abbrev s_p_divisor_of : Stmt := topS 21
def f_p_divisor_of_b1 : Fs := (sSeq (sSet 1 (eApp fGcd (aCons (eVar 1) (aCons (eVar 2) aNil)))) (sIf (tBl (eBin opEq (eVar 1) (eC (.int 1)))) (sRet (eC (.int 1))) sNext))
theorem pu_f_p_divisor_of_b1 : PX f_p_divisor_of_b1 := (pu_seq (pu_set (pu_app (pu_acons pu_var (pu_acons pu_var pu_anil)))) (pu_if (pu_tbl (pu_bin pu_var pu_c)) (pu_ret pu_c) pu_next))
def f_p_divisor_of : Fs := (sSeq (sSet 1 (eC (.int 0))) (sSeq (sFor (iVal (eVar 0)) (gN 2) f_p_divisor_of_b1) (sRet (eVar 1))))
def m_p_divisor_of : Fd := runD 3 .f f_p_divisor_of
theorem pu_f_p_divisor_of : PX f_p_divisor_of := (pu_seq (pu_set pu_c) (pu_seq (pu_for (pu_ival pu_var) pu_f_p_divisor_of_b1) (pu_ret pu_var)))
theorem pu_m_p_divisor_of : PF m_p_divisor_of := pu_runD pu_f_p_divisor_of
abbrev s_p_plain : Stmt := topS 22
def f_p_plain_e1 : Ed := (eBin opFdivW (eVar 2) (eVar 1))
theorem f_p_plain_e1_ap (ρ : Rho) (π : Pot) : f_p_plain_e1 ρ π = (eBin opFdivW (eVar 2) (eVar 1)) ρ π := rfl
theorem pu_f_p_plain_e1 : PX f_p_plain_e1 := (pu_bin pu_var pu_var)
def f_p_plain : Fs := (sSeq (sSet 1 (eGo m_p_divisor_of (aCons (eVar 0) aNil))) (sRet (eIf (tBl (eBin (cmpI fun i j => decide (j < i)) (eVar 1) (eC (.int 1)))) (eLC (iVal (eVar 0)) (gN 2) tTrue f_p_plain_e1 [2]) (eApp fList
    (aCons (eVar 0) aNil)))))
def m_p_plain : Fd := runD 3 .o f_p_plain
theorem pu_f_p_plain : PX f_p_plain := (pu_seq (pu_set (pu_go pu_m_p_divisor_of (pu_acons pu_var pu_anil))) (pu_ret (pu_eif (pu_tbl (pu_bin pu_var pu_c)) (pu_lc (pu_ival pu_var) pu_true pu_f_p_plain_e1) (pu_app (pu_acons pu_var pu_anil)))))
theorem pu_m_p_plain : PF m_p_plain := pu_runD pu_f_p_plain
abbrev s_p_lead_place : Stmt := topS 23
def f_p_lead_place_b1 : Fs := (sIf (tBl (eBin opNe (eVar 2) (eC (.int 0)))) (sRet (eVar 1)) sNext)
theorem pu_f_p_lead_place_b1 : PX f_p_lead_place_b1 := (pu_if (pu_tbl (pu_bin pu_var pu_c)) (pu_ret pu_var) pu_next)
def f_p_lead_place : Fs := (sSeq (sFor (iEnumD (aCons (eVar 0) aNil)) (gT 2 (gsCons (gN 1) (gsCons (gN 2) gsNil))) f_p_lead_place_b1) (sRet (eC .non)))
def m_p_lead_place : Fd := runD 3 .f f_p_lead_place
theorem pu_f_p_lead_place : PX f_p_lead_place := (pu_seq (pu_for (pu_ienumd (pu_acons pu_var pu_anil)) pu_f_p_lead_place_b1) (pu_ret pu_c))
theorem pu_m_p_lead_place : PF m_p_lead_place := pu_runD pu_f_p_lead_place
abbrev s_p_signed : Stmt := topS 24
def f_p_signed_e1 : Ed := (eBin opSub (eC (.int 0)) (eVar 3))
theorem f_p_signed_e1_ap (ρ : Rho) (π : Pot) : f_p_signed_e1 ρ π = (eBin opSub (eC (.int 0)) (eVar 3)) ρ π := rfl
theorem pu_f_p_signed_e1 : PX f_p_signed_e1 := (pu_bin pu_c pu_var)
def f_p_signed : Fs := (sSeq (sSet 1 (eGo m_p_plain (aCons (eVar 0) aNil))) (sSeq (sSet 2 (eGo m_p_lead_place (aCons (eVar 1) aNil))) (sRet (eIf (tOrD (tBl (eBin opIsN (eVar 2) (eC .non))) (tBl (eBin (cmpI fun i j => decide
    (j < i)) (eBin opIx (eVar 1) (eVar 2)) (eC (.int 0))))) (eVar 1) (eLC (iVal (eVar 1)) (gN 3) tTrue f_p_signed_e1 [3])))))
def m_p_signed : Fd := runD 4 .f f_p_signed
theorem pu_f_p_signed : PX f_p_signed := (pu_seq (pu_set (pu_go pu_m_p_plain (pu_acons pu_var pu_anil))) (pu_seq (pu_set (pu_go pu_m_p_lead_place (pu_acons pu_var pu_anil))) (pu_ret (pu_eif (pu_tor (pu_tbl (pu_bin pu_var pu_c)) (pu_tbl
    (pu_bin (pu_bin pu_var pu_var) pu_c))) pu_var (pu_lc (pu_ival pu_var) pu_true pu_f_p_signed_e1)))))
theorem pu_m_p_signed : PF m_p_signed := pu_runD pu_f_p_signed
abbrev s_p_told_of : Stmt := topS 31
def f_p_told_of : Fs := (sRet (eApp fTuple (aCons (eGo m_p_signed (aCons (eVar 0) aNil)) aNil)))
def m_p_told_of : Fd := runD 1 .f f_p_told_of
theorem pu_f_p_told_of : PX f_p_told_of := (pu_ret (pu_app (pu_acons (pu_go pu_m_p_signed (pu_acons pu_var pu_anil)) pu_anil)))
theorem pu_m_p_told_of : PF m_p_told_of := pu_runD pu_f_p_told_of
abbrev s_p_is_integer : Stmt := topS 16
def f_p_is_integer : Fs := (sRet (eAnd (eUn (fIsA ["Spots"] ["int"]) (eVar 0)) (eNot (eUn (fIsA ["Spots"] ["bool"]) (eVar 0)))))
def m_p_is_integer : Fd := runD 1 .f f_p_is_integer
theorem pu_f_p_is_integer : PX f_p_is_integer := (pu_ret (pu_and (pu_un pu_var) (pu_not (pu_un pu_var))))
theorem pu_m_p_is_integer : PF m_p_is_integer := pu_runD pu_f_p_is_integer
abbrev s_p_are_point : Stmt := topS 30
def f_p_are_point_e1 : Ed := (eGo m_p_is_integer (aCons (eVar 1) aNil))
theorem pu_f_p_are_point_e1 : PX f_p_are_point_e1 := (pu_go pu_m_p_is_integer (pu_acons pu_var pu_anil))
def f_p_are_point_e2 : Ed := (eBin opNe (eVar 1) (eC (.int 0)))
theorem pu_f_p_are_point_e2 : PX f_p_are_point_e2 := (pu_bin pu_var pu_c)
def f_p_are_point : Fs := (sSeq (sIf (tOrD (tNotD (tOf (eGo m_p_is_list (aCons (eVar 0) aNil)))) (tOrD (tBl (eBin opNe (eApp fLen (aCons (eVar 0) aNil)) (eC (.int 3)))) (tNotD (tOf (eApp fAll (aCons (eLC (iVal (eVar 0)) (gN 1)
    tTrue f_p_are_point_e1 [1]) aNil)))))) (sRet (eC (.bl false))) sNext) (sRet (eApp fAnyA (aCons (eLC (iVal (eVar 0)) (gN 1) tTrue f_p_are_point_e2 [1]) aNil))))
def m_p_are_point : Fd := runD 2 .f f_p_are_point
theorem pu_f_p_are_point : PX f_p_are_point := (pu_seq (pu_if (pu_tor (pu_tnot (pu_tof (pu_go pu_m_p_is_list (pu_acons pu_var pu_anil)))) (pu_tor (pu_tbl (pu_bin (pu_app (pu_acons pu_var pu_anil)) pu_c)) (pu_tnot (pu_tof (pu_app (pu_acons (pu_lc
    (pu_ival pu_var) pu_true pu_f_p_are_point_e1) pu_anil)))))) (pu_ret pu_c) pu_next) (pu_ret (pu_app (pu_acons (pu_lc (pu_ival pu_var) pu_true pu_f_p_are_point_e2) pu_anil))))
theorem pu_m_p_are_point : PF m_p_are_point := pu_runD pu_f_p_are_point
abbrev s_p_told_points : Stmt := topS 37
def f_p_told_points_b1 : Fs := (sSeq (sIf (tOrD (tNotD (tOf (eGo m_p_are_point (aCons (eVar 3) aNil)))) (tBl (eBin opInA (eGo m_p_told_of (aCons (eVar 3) aNil)) (eVar 1)))) sStuck sNext) (sApp 1 (eGo m_p_told_of (aCons (eVar 3)
    aNil))))
theorem pu_f_p_told_points_b1 : PX f_p_told_points_b1 := (pu_seq (pu_if (pu_tor (pu_tnot (pu_tof (pu_go pu_m_p_are_point (pu_acons pu_var pu_anil)))) (pu_tbl (pu_bin (pu_go pu_m_p_told_of (pu_acons pu_var pu_anil)) pu_var))) pu_stuck pu_next) (pu_sapp (pu_go
    pu_m_p_told_of (pu_acons pu_var pu_anil))))
def f_p_told_points : Fs := (sSeq (sIf (tOf (eUn (fIsC "Told" ["Spots"]) (eVar 0))) (sRet (eUn (fldD "Told" "told_points") (eVar 0))) sNext) (sSeq (sIf (tOrD (tNotD (tOf (eGo m_p_is_list (aCons (eVar 0) aNil)))) (tNotD (tBl
    (eChain (cmpI fun i j => decide (i ≤ j)) (cmpI fun i j => decide (i ≤ j)) (eC (.int 1)) (eApp fLen (aCons (eVar 0) aNil)) (eC (.int 24)))))) sStuck sNext) (sSeq (sSet 1 (eLst aNil)) (sSeq (sFor
    (iEnumD (aCons (eVar 0) aNil)) (gT 2 (gsCons (gN 2) (gsCons (gN 3) gsNil))) f_p_told_points_b1) (sRet (eApp fTuple (aCons (eVar 1) aNil)))))))
def m_p_told_points : Fd := runD 4 .f f_p_told_points
theorem pu_f_p_told_points : PX f_p_told_points := (pu_seq (pu_if (pu_tof (pu_un pu_var)) (pu_ret (pu_un pu_var)) pu_next) (pu_seq (pu_if (pu_tor (pu_tnot (pu_tof (pu_go pu_m_p_is_list (pu_acons pu_var pu_anil)))) (pu_tnot (pu_tbl (pu_chain pu_c
    (pu_app (pu_acons pu_var pu_anil)) pu_c)))) pu_stuck pu_next) (pu_seq (pu_set (pu_lst pu_anil)) (pu_seq (pu_for (pu_ienumd (pu_acons pu_var pu_anil)) pu_f_p_told_points_b1) (pu_ret (pu_app (pu_acons
    pu_var pu_anil)))))))
theorem pu_m_p_told_points : PF m_p_told_points := pu_runD pu_f_p_told_points
abbrev s_i_Spots : Stmt := inClass (topS 38) 0
def f_i_Spots : Fi := (iFld "own_points" (eGo m_p_told_points (aCons (eVar 1) aNil)) (iCk "Spots" iNil))
def m_i_Spots : Fd := runI 2 "Spots" f_i_Spots
theorem pu_f_i_Spots : PI f_i_Spots := (pu_ifld (pu_go pu_m_p_told_points (pu_acons pu_var pu_anil)) (pu_ick pu_inil))
theorem pu_m_i_Spots : PF m_i_Spots := pu_runI pu_f_i_Spots
abbrev s_p_want_spots : Stmt := topS 40
def f_p_want_spots : Fs := (sIf (tNotD (tOf (eUn (fIsC "Spots" ["Spots"]) (eVar 0)))) sStuck sNext)
def m_p_want_spots : Fd := runD 1 .f f_p_want_spots
abbrev s_p_less : Stmt := topS 25
def f_p_less_e1 : Ed := (eBin opSub (eBin opMulA (eVar 4) (eVar 6)) (eBin opMulA (eVar 5) (eVar 7)))
theorem f_p_less_e1_ap (ρ : Rho) (π : Pot) : f_p_less_e1 ρ π = (eBin opSub (eBin opMulA (eVar 4) (eVar 6)) (eBin opMulA (eVar 5) (eVar 7))) ρ π := rfl
def f_p_less : Fs := (sSeq (sSet 3 (eApp fGcd (aCons (eBin opIx (eVar 1) (eVar 2)) (aCons (eBin opIx (eVar 0) (eVar 2)) aNil)))) (sSeq (sUnp (eTup (aCons (eBin opFdivW (eBin opIx (eVar 1) (eVar 2)) (eVar 3)) (aCons (eBin
    opFdivW (eBin opIx (eVar 0) (eVar 2)) (eVar 3)) aNil))) (gT 2 (gsCons (gN 4) (gsCons (gN 5) gsNil)))) (sRet (eLC (iZipD (aCons (eVar 0) (aCons (eVar 1) aNil))) (gT 2 (gsCons (gN 6) (gsCons (gN 7)
    gsNil))) tTrue f_p_less_e1 [6, 7]))))
def m_p_less : Fd := runD 8 .o f_p_less
abbrev s_p_cleared : Stmt := topS 26
def f_p_cleared_b1 : Fs := (sIf (tBl (eBin opNe (eBin opIx (eVar 2) (eVar 3)) (eC (.int 0)))) (sSet 2 (eGo m_p_less (aCons (eVar 2) (aCons (eVar 4) (aCons (eVar 3) aNil))))) sNext)
def f_p_cleared : Fs := (sSeq (sSet 2 (eVar 1)) (sSeq (sFor (iVal (eVar 0)) (gT 2 (gsCons (gN 3) (gsCons (gN 4) gsNil))) f_p_cleared_b1) (sRet (eGo m_p_plain (aCons (eVar 2) aNil)))))
def m_p_cleared : Fd := runD 5 .o f_p_cleared
abbrev s_p_echelon : Stmt := topS 27
def f_p_echelon_b1 : Fs := (sSeq (sSet 5 (eGoL .o [.b, .f] m_p_cleared (aCons (eVar 1) (aCons (eVar 4) aNil)))) (sSeq (sSet 6 (eGo m_p_lead_place (aCons (eVar 5) aNil))) (sIf (tBl (eBin opNotN (eVar 6) (eC .non))) (sSeq (sApp 1
    (eTup (aCons (eVar 6) (aCons (eVar 5) aNil)))) (sApp 2 (eVar 3))) sNext)))
def f_p_echelon : Fs := (sSeq (sPar 1 2 (eLst aNil) (eLst aNil)) (sSeq (sFor (iEnumD (aCons (eVar 0) aNil)) (gT 2 (gsCons (gN 3) (gsCons (gN 4) gsNil))) f_p_echelon_b1) (sRet (eTup (aCons (eVar 1) (aCons (eVar 2) aNil))))))
def m_p_echelon : Fd := runD 7 .t f_p_echelon
abbrev s_p_rank_of : Stmt := topS 28
def f_p_rank_of : Fs := (sRet (eApp fLen (aCons (eBin opIx (eGo m_p_echelon (aCons (eVar 0) aNil)) (eC (.int 0))) aNil)))
def m_p_rank_of : Fd := runD 1 .f f_p_rank_of
abbrev s_p_powers_of : Stmt := topS 33
def f_p_powers_of_b1 : Fs := (sApp 5 (eBin opMulA (eBin opIx (eVar 5) (eUn opNeg (eC (.int 1)))) (eVar 0)))
def f_p_powers_of : Fs := (sSeq (sPar 2 3 (eBin opMulA (eVar 0) (eVar 0)) (eBin opMulA (eBin opMulA (eVar 0) (eVar 0)) (eVar 0))) (sSeq (sSet 4 (eLst (aCons (eC (.int 1)) (aCons (eVar 0) (aCons (eVar 2) (aCons (eVar 3) (aCons
    (eBin opMulA (eVar 2) (eVar 2)) (aCons (eBin opMulA (eVar 2) (eVar 3)) (aCons (eBin opMulA (eVar 3) (eVar 3)) aNil))))))))) (sSeq (sIf (tBl (eBin (cmpI fun i j => decide (i < j)) (eVar 1) (eApp fLen
    (aCons (eVar 4) aNil)))) (sRet (eSl (eVar 4) oNone (oSome (eBin opAdd (eVar 1) (eC (.int 1)))))) sNext) (sSeq (sSet 5 (eVar 4)) (sSeq (sFor (iRng (aCons (eBin opSub (eBin opAdd (eVar 1) (eC (.int
    1))) (eApp fLen (aCons (eVar 4) aNil))) aNil)) (gN 6) f_p_powers_of_b1) (sRet (eVar 5)))))))
def m_p_powers_of : Fd := runD 7 .f f_p_powers_of
abbrev s_p_triples_of : Stmt := topS 43
def f_p_triples_of_e1 : Ed := (eTup (aCons (eVar 2) (aCons (eVar 3) (aCons (eBin opSub (eBin opSub (eVar 0) (eVar 2)) (eVar 3)) aNil))))
theorem pu_f_p_triples_of_e1 : PX f_p_triples_of_e1 := (pu_tup (pu_acons pu_var (pu_acons pu_var (pu_acons (pu_bin (pu_bin pu_var pu_var) pu_var) pu_anil))))
def f_p_triples_of_b1 : Fs := (sExt 1 (eLC (iRngDown (aCons (eBin opSub (eVar 0) (eVar 2)) (aCons (eUn opNeg (eC (.int 1))) (aCons (eUn opNeg (eC (.int 1))) aNil)))) (gN 3) tTrue f_p_triples_of_e1 [3]))
theorem pu_f_p_triples_of_b1 : PX f_p_triples_of_b1 := (pu_ext (pu_lc (pu_irngdown (pu_acons (pu_bin pu_var pu_var) (pu_acons (pu_un pu_c) (pu_acons (pu_un pu_c) pu_anil)))) pu_true pu_f_p_triples_of_e1))
def f_p_triples_of : Fs := (sSeq (sSet 1 (eLst aNil)) (sSeq (sFor (iRngDown (aCons (eVar 0) (aCons (eUn opNeg (eC (.int 1))) (aCons (eUn opNeg (eC (.int 1))) aNil)))) (gN 2) f_p_triples_of_b1) (sRet (eApp fTuple (aCons (eVar 1)
    aNil)))))
def m_p_triples_of : Fd := runD 4 .f f_p_triples_of
theorem pu_f_p_triples_of : PX f_p_triples_of := (pu_seq (pu_set (pu_lst pu_anil)) (pu_seq (pu_for (pu_irngdown (pu_acons pu_var (pu_acons (pu_un pu_c) (pu_acons (pu_un pu_c) pu_anil)))) pu_f_p_triples_of_b1) (pu_ret (pu_app (pu_acons pu_var
    pu_anil)))))
theorem pu_m_p_triples_of : PF m_p_triples_of := pu_runD pu_f_p_triples_of
abbrev s_p_letters_at : Stmt := topS 44
def f_p_letters_at_e1 : Ed := (eGo m_p_powers_of (aCons (eVar 5) (aCons (eVar 1) aNil)))
def f_p_letters_at_e2 : Ed := (eBin opMulA (eBin opMulA (eBin opIx (eVar 2) (eVar 6)) (eBin opIx (eVar 3) (eVar 7))) (eBin opIx (eVar 4) (eVar 8)))
def f_p_letters_at : Fs := (sSeq (sUnp (eLC (iVal (eVar 0)) (gN 5) tTrue f_p_letters_at_e1 [5]) (gL 3 (gsCons (gN 2) (gsCons (gN 3) (gsCons (gN 4) gsNil))))) (sRet (eLC (iVal (eGo m_p_triples_of (aCons (eVar 1) aNil))) (gT 3
    (gsCons (gN 6) (gsCons (gN 7) (gsCons (gN 8) gsNil)))) tTrue f_p_letters_at_e2 [6, 7, 8])))
def m_p_letters_at : Fd := runD 9 .o f_p_letters_at
abbrev s_p_condition_rows : Stmt := topS 46
def f_p_condition_rows_e1 : Ed := (eGo m_p_letters_at (aCons (eVar 2) (aCons (eVar 1) aNil)))
def f_p_condition_rows : Fs := (sRet (eLC (iVal (eVar 0)) (gN 2) tTrue f_p_condition_rows_e1 [2]))
def m_p_condition_rows : Fd := runD 3 .o f_p_condition_rows
abbrev s_p_rank_at : Stmt := topS 47
def f_p_rank_at : Fs := (sRet (eGo m_p_rank_of (aCons (eGo m_p_condition_rows (aCons (eVar 0) (aCons (eVar 1) aNil))) aNil)))
def m_p_rank_at : Fd := runD 2 .f f_p_rank_at
abbrev s_p_row_by : Stmt := topS 51
def f_p_row_by_b1 : Fs := (sSeq (sSet 4 (eGo m_p_rank_at (aCons (eVar 0) (aCons (eVar 3) aNil)))) (sSeq (sApp 1 (eBin opSub (eVar 4) (eVar 2))) (sSeq (sIf (tBl (eBin opEq (eVar 4) (eApp fLen (aCons (eVar 0) aNil)))) (sRet (eVar
    1)) sNext) (sSet 2 (eVar 4)))))
theorem f_p_row_by_b1_ap (ρ : Rho) (π : Pot) : f_p_row_by_b1 ρ π = (sSeq (sSet 4 (eGo m_p_rank_at (aCons (eVar 0) (aCons (eVar 3) aNil)))) (sSeq (sApp 1 (eBin opSub (eVar 4) (eVar 2))) (sSeq (sIf (tBl (eBin opEq (eVar 4) (eApp fLen (aCons (eVar 0) aNil)))) (sRet (eVar
    1)) sNext) (sSet 2 (eVar 4))))) ρ π := rfl
def f_p_row_by : Fs := (sSeq (sPar 1 2 (eLst aNil) (eC (.int 0))) (sSeq (sFor (iRng (aCons (eBin opAdd (eC (.int 8)) (eC (.int 1))) aNil)) (gN 3) f_p_row_by_b1) sStuck))
def m_p_row_by : Fd := runD 5 .o f_p_row_by
abbrev s_p_row : Stmt := topS 53
def f_p_row : Fs := (sSeq (sExpr (eGo m_p_want_spots (aCons (eVar 0) aNil))) (sRet (eGo m_p_row_by (aCons (eUn (fldD "Spots" "own_points") (eVar 0)) aNil))))
def m_p_row : Fd := runD 1 .o f_p_row
abbrev s_p_lengths_of : Stmt := topS 70
def f_p_lengths_of_t1 : Et := (tBl (eBin (cmpI fun i j => decide (j < i)) (eVar 2) (eVar 1)))
theorem pu_f_p_lengths_of_t1 : PX f_p_lengths_of_t1 := (pu_tbl (pu_bin pu_var pu_var))
def f_p_lengths_of_e1 : Ed := (eVar 2)
theorem pu_f_p_lengths_of_e1 : PX f_p_lengths_of_e1 := pu_var
def f_p_lengths_of_e2 : Ed := (eApp fLen (aCons (eLC (iVal (eVar 0)) (gN 2) f_p_lengths_of_t1 f_p_lengths_of_e1 [2]) aNil))
theorem pu_f_p_lengths_of_e2 : PX f_p_lengths_of_e2 := (pu_app (pu_acons (pu_lc (pu_ival pu_var) pu_f_p_lengths_of_t1 pu_f_p_lengths_of_e1) pu_anil))
def f_p_lengths_of : Fs := (sRet (eLC (iRng (aCons (eApp fMaxL (aCons (eVar 0) aNil)) aNil)) (gN 1) tTrue f_p_lengths_of_e2 [1]))
def m_p_lengths_of : Fd := runD 3 .o f_p_lengths_of
theorem pu_f_p_lengths_of : PX f_p_lengths_of := (pu_ret (pu_lc (pu_irng (pu_acons (pu_app (pu_acons pu_var pu_anil)) pu_anil)) pu_true pu_f_p_lengths_of_e2))
theorem pu_m_p_lengths_of : PF m_p_lengths_of := pu_runD pu_f_p_lengths_of
abbrev s_p_is_count : Stmt := topS 17
def f_p_is_count : Fs := (sRet (eAnd (eGo m_p_is_integer (aCons (eVar 0) aNil)) (eBin (cmpI fun i j => decide (j ≤ i)) (eVar 0) (eC (.int 0)))))
def m_p_is_count : Fd := runD 1 .f f_p_is_count
theorem pu_f_p_is_count : PX f_p_is_count := (pu_ret (pu_and (pu_go pu_m_p_is_integer (pu_acons pu_var pu_anil)) (pu_bin pu_var pu_c)))
theorem pu_m_p_is_count : PF m_p_is_count := pu_runD pu_f_p_is_count
abbrev s_p_is_counts : Stmt := topS 59
def f_p_is_counts_e1 : Ed := (eGo m_p_is_count (aCons (eVar 1) aNil))
theorem pu_f_p_is_counts_e1 : PX f_p_is_counts_e1 := (pu_go pu_m_p_is_count (pu_acons pu_var pu_anil))
def f_p_is_counts : Fs := (sRet (eAnd (eGo m_p_is_list (aCons (eVar 0) aNil)) (eAnd (eBin (cmpI fun i j => decide (j < i)) (eApp fLen (aCons (eVar 0) aNil)) (eC (.int 0))) (eApp fAll (aCons (eLC (iVal (eVar 0)) (gN 1) tTrue
    f_p_is_counts_e1 [1]) aNil)))))
def m_p_is_counts : Fd := runD 2 .f f_p_is_counts
theorem pu_f_p_is_counts : PX f_p_is_counts := (pu_ret (pu_and (pu_go pu_m_p_is_list (pu_acons pu_var pu_anil)) (pu_and (pu_bin (pu_app (pu_acons pu_var pu_anil)) pu_c) (pu_app (pu_acons (pu_lc (pu_ival pu_var) pu_true pu_f_p_is_counts_e1)
    pu_anil)))))
theorem pu_m_p_is_counts : PF m_p_is_counts := pu_runD pu_f_p_is_counts
abbrev s_p_goes_on : Stmt := topS 60
def f_p_goes_on : Fs := (sRet (eOr (eChain (cmpI fun i j => decide (i < j)) (cmpI fun i j => decide (i ≤ j)) (eC (.int 0)) (eVar 0) (eVar 1)) (eAnd (eVar 2) (eBin opEq (eVar 0) (eBin opAdd (eVar 1) (eC (.int 1)))))))
def m_p_goes_on : Fd := runD 3 .f f_p_goes_on
theorem pu_f_p_goes_on : PX f_p_goes_on := (pu_ret (pu_or (pu_chain pu_c pu_var pu_var) (pu_and pu_var (pu_bin pu_var (pu_bin pu_var pu_c)))))
theorem pu_m_p_goes_on : PF m_p_goes_on := pu_runD pu_f_p_goes_on
abbrev s_p_fault_of : Stmt := topS 61
def f_p_fault_of_b1 : Fs := (sSeq (sAug 1 (fun i j => i + j) (eVar 5)) (sSeq (sIf (tOrD (tNotD (tOf (eGo m_p_goes_on (aCons (eVar 5) (aCons (eVar 2) (aCons (eVar 3) aNil)))))) (tOrD (tBl (eBin (cmpI fun i j => decide (j < i))
    (eVar 1) (eC (.int 24)))) (tBl (eBin (cmpI fun i j => decide (j ≤ i)) (eVar 4) (eC (.int 9)))))) (sRet (eVar 4)) sNext) (sSeq (sSet 3 (eAnd (eVar 3) (eBin (cmpI fun i j => decide (j < i)) (eVar 5)
    (eVar 2)))) (sSet 2 (eVar 5)))))
theorem pu_f_p_fault_of_b1 : PX f_p_fault_of_b1 := (pu_seq (pu_aug pu_var) (pu_seq (pu_if (pu_tor (pu_tnot (pu_tof (pu_go pu_m_p_goes_on (pu_acons pu_var (pu_acons pu_var (pu_acons pu_var pu_anil)))))) (pu_tor (pu_tbl (pu_bin pu_var pu_c)) (pu_tbl
    (pu_bin pu_var pu_c)))) (pu_ret pu_var) pu_next) (pu_seq (pu_set (pu_and pu_var (pu_bin pu_var pu_var))) (pu_set pu_var))))
def f_p_fault_of : Fs := (sSeq (sUnp (eTup (aCons (eC (.int 0)) (aCons (eC (.int 0)) (aCons (eC (.bl true)) aNil)))) (gT 3 (gsCons (gN 1) (gsCons (gN 2) (gsCons (gN 3) gsNil))))) (sSeq (sFor (iEnumD (aCons (eVar 0) aNil)) (gT
    2 (gsCons (gN 4) (gsCons (gN 5) gsNil))) f_p_fault_of_b1) (sRet (eC .non))))
def m_p_fault_of : Fd := runD 6 .f f_p_fault_of
theorem pu_f_p_fault_of : PX f_p_fault_of := (pu_seq (pu_unp (pu_tup (pu_acons pu_c (pu_acons pu_c (pu_acons pu_c pu_anil))))) (pu_seq (pu_for (pu_ienumd (pu_acons pu_var pu_anil)) pu_f_p_fault_of_b1) (pu_ret pu_c)))
theorem pu_m_p_fault_of : PF m_p_fault_of := pu_runD pu_f_p_fault_of
abbrev s_p_is_row : Stmt := topS 62
def f_p_is_row : Fs := (sRet (eAnd (eGo m_p_is_counts (aCons (eVar 0) aNil)) (eBin opIsN (eGo m_p_fault_of (aCons (eVar 0) aNil)) (eC .non))))
def m_p_is_row : Fd := runD 1 .f f_p_is_row
theorem pu_f_p_is_row : PX f_p_is_row := (pu_ret (pu_and (pu_go pu_m_p_is_counts (pu_acons pu_var pu_anil)) (pu_bin (pu_go pu_m_p_fault_of (pu_acons pu_var pu_anil)) pu_c)))
theorem pu_m_p_is_row : PF m_p_is_row := pu_runD pu_f_p_is_row
abbrev s_p_want_row : Stmt := topS 63
def f_p_want_row : Fs := (sSeq (sIf (tNotD (tOf (eGo m_p_is_row (aCons (eVar 0) aNil)))) sStuck sNext) (sRet (eApp fList (aCons (eVar 0) aNil))))
def m_p_want_row : Fd := runD 1 .o f_p_want_row
theorem pu_f_p_want_row : PX f_p_want_row := (pu_seq (pu_if (pu_tnot (pu_tof (pu_go pu_m_p_is_row (pu_acons pu_var pu_anil)))) pu_stuck pu_next) (pu_ret (pu_app (pu_acons pu_var pu_anil))))
theorem pu_m_p_want_row : PF m_p_want_row := pu_runD pu_f_p_want_row
abbrev s_p_lengths : Stmt := topS 71
def f_p_lengths : Fs := (sRet (eGo m_p_lengths_of (aCons (eGo m_p_want_row (aCons (eVar 0) aNil)) aNil)))
def m_p_lengths : Fd := runD 1 .o f_p_lengths
theorem pu_f_p_lengths : PX f_p_lengths := (pu_ret (pu_go pu_m_p_lengths_of (pu_acons (pu_go pu_m_p_want_row (pu_acons pu_var pu_anil)) pu_anil)))
theorem pu_m_p_lengths : PF m_p_lengths := pu_runD pu_f_p_lengths
abbrev s_l_can : Stmt := topS 80
def f_l_can_e1 : Ed := (eAnd (eUn (fIsA ["Spots"] ["int"]) (eVar 4)) (eAnd (eNot (eUn (fIsA ["Spots"] ["bool"]) (eVar 4))) (eBin (cmpI fun i j => decide (j < i)) (eVar 4) (eC (.int 0)))))
theorem pu_f_l_can_e1 : PX f_l_can_e1 := (pu_and (pu_un pu_var) (pu_and (pu_not (pu_un pu_var)) (pu_bin pu_var pu_c)))
def f_l_can_t1 : Et := (tBl (eBin (cmpI fun i j => decide (j < i)) (eVar 4) (eVar 1)))
theorem pu_f_l_can_t1 : PX f_l_can_t1 := (pu_tbl (pu_bin pu_var pu_var))
def f_l_can_e2 : Ed := (eVar 3)
theorem pu_f_l_can_e2 : PX f_l_can_e2 := pu_var
def f_l_can_b1 : Fs := (sSeq (sSet 2 (eLC (iEnumD (aCons (eVar 0) aNil)) (gT 2 (gsCons (gN 3) (gsCons (gN 4) gsNil))) f_l_can_t1 f_l_can_e2 [3, 4])) (sIf (tBl (eBin opNe (eVar 2) (eBin fRg2 (eVar 1) (eBin opAdd (eVar 1)
    (eApp fLen (aCons (eVar 2) aNil)))))) (sRet (eC (.bl false))) sNext))
theorem pu_f_l_can_b1 : PX f_l_can_b1 := (pu_seq (pu_set (pu_lc (pu_ienumd (pu_acons pu_var pu_anil)) pu_f_l_can_t1 pu_f_l_can_e2)) (pu_if (pu_tbl (pu_bin pu_var (pu_bin pu_var (pu_bin pu_var (pu_app (pu_acons pu_var pu_anil)))))) (pu_ret
    pu_c) pu_next))
def f_l_can : Fs := (sSeq (sIf (tOrD (tNotD (tOf (eUn (fIsA ["Spots"] ["list", "tuple"]) (eVar 0)))) (tNotD (tBl (eChain (cmpI fun i j => decide (i ≤ j)) (cmpI fun i j => decide (i ≤ j)) (eC (.int 1)) (eApp fLen (aCons
    (eVar 0) aNil)) (eC (.int 9)))))) (sRet (eC (.bl false))) sNext) (sSeq (sIf (tOrD (tNotD (tOf (eApp fAll (aCons (eLC (iVal (eVar 0)) (gN 4) tTrue f_l_can_e1 [4]) aNil)))) (tBl (eBin (cmpI fun i j =>
    decide (j < i)) (eApp fSum (aCons (eVar 0) aNil)) (eC (.int 24))))) (sRet (eC (.bl false))) sNext) (sSeq (sFor (iRng (aCons (eApp fMaxL (aCons (eVar 0) aNil)) aNil)) (gN 1) f_l_can_b1) (sRet (eC (.bl
    true))))))
def m_l_can : Fd := runD 5 .f f_l_can
theorem pu_f_l_can : PX f_l_can := (pu_seq (pu_if (pu_tor (pu_tnot (pu_tof (pu_un pu_var))) (pu_tnot (pu_tbl (pu_chain pu_c (pu_app (pu_acons pu_var pu_anil)) pu_c)))) (pu_ret pu_c) pu_next) (pu_seq (pu_if (pu_tor (pu_tnot (pu_tof
    (pu_app (pu_acons (pu_lc (pu_ival pu_var) pu_true pu_f_l_can_e1) pu_anil)))) (pu_tbl (pu_bin (pu_app (pu_acons pu_var pu_anil)) pu_c))) (pu_ret pu_c) pu_next) (pu_seq (pu_for (pu_irng (pu_acons
    (pu_app (pu_acons pu_var pu_anil)) pu_anil)) pu_f_l_can_b1) (pu_ret pu_c))))
theorem pu_m_l_can : PF m_l_can := pu_runD pu_f_l_can
abbrev s_p_fault : Stmt := topS 64
def f_p_fault : Fs := (sSeq (sIf (tNotD (tOf (eGo m_p_is_counts (aCons (eVar 0) aNil)))) sStuck sNext) (sRet (eGo m_p_fault_of (aCons (eVar 0) aNil))))
def m_p_fault : Fd := runD 1 .f f_p_fault
theorem pu_f_p_fault : PX f_p_fault := (pu_seq (pu_if (pu_tnot (pu_tof (pu_go pu_m_p_is_counts (pu_acons pu_var pu_anil)))) pu_stuck pu_next) (pu_ret (pu_go pu_m_p_fault_of (pu_acons pu_var pu_anil))))
theorem pu_m_p_fault : PF m_p_fault := pu_runD pu_f_p_fault
abbrev s_p_want_many : Stmt := topS 19
def f_p_want_many : Fs := (sSeq (sIf (tOrD (tNotD (tOf (eGo m_p_is_count (aCons (eVar 0) aNil)))) (tBl (eBin (cmpI fun i j => decide (i < j)) (eVar 0) (eVar 2)))) sStuck sNext) (sIf (tAndD (tBl (eBin opNotN (eVar 1) (eC .non)))
    (tBl (eBin (cmpI fun i j => decide (j < i)) (eVar 0) (eVar 1)))) sStuck sNext))
def m_p_want_many : Fd := runD 3 .f f_p_want_many
theorem pu_f_p_want_many : PX f_p_want_many := (pu_seq (pu_if (pu_tor (pu_tnot (pu_tof (pu_go pu_m_p_is_count (pu_acons pu_var pu_anil)))) (pu_tbl (pu_bin pu_var pu_var))) pu_stuck pu_next) (pu_if (pu_tand (pu_tbl (pu_bin pu_var pu_c)) (pu_tbl
    (pu_bin pu_var pu_var))) pu_stuck pu_next))
theorem pu_m_p_want_many : PF m_p_want_many := pu_runD pu_f_p_want_many
abbrev s_p_row_of : Stmt := topS 72
def f_p_row_of_b1 : Fs := (sAugIx 1 (fun i j => i + j) (eVar 4) (eC (.int 1)))
theorem pu_f_p_row_of_b1 : PX f_p_row_of_b1 := (pu_augix pu_var pu_c)
def f_p_row_of_b2 : Fs := (sFor (iRng (aCons (eVar 2) (aCons (eBin opAdd (eVar 2) (eVar 3)) aNil))) (gN 4) f_p_row_of_b1)
theorem pu_f_p_row_of_b2 : PX f_p_row_of_b2 := (pu_for (pu_irng (pu_acons pu_var (pu_acons (pu_bin pu_var pu_var) pu_anil))) pu_f_p_row_of_b1)
def f_p_row_of : Fs := (sSeq (sSet 1 (eBin opRep (eLst (aCons (eC (.int 0)) aNil)) (eBin opIx (eVar 0) (eC (.int 0))))) (sSeq (sFor (iEnumD (aCons (eVar 0) aNil)) (gT 2 (gsCons (gN 2) (gsCons (gN 3) gsNil))) f_p_row_of_b2)
    (sRet (eVar 1))))
def m_p_row_of : Fd := runD 5 .o f_p_row_of
theorem pu_f_p_row_of : PX f_p_row_of := (pu_seq (pu_set (pu_bin (pu_lst (pu_acons pu_c pu_anil)) (pu_bin pu_var pu_c))) (pu_seq (pu_for (pu_ienumd (pu_acons pu_var pu_anil)) pu_f_p_row_of_b2) (pu_ret pu_var)))
theorem pu_m_p_row_of : PF m_p_row_of := pu_runD pu_f_p_row_of
abbrev s_p_parts_of : Stmt := topS 74
def m_p_parts_of_0 : Fd := fun _ _ => .stuck
theorem pu_m_p_parts_of_0 : PF m_p_parts_of_0 := fun _ => pa_st
def f_p_parts_of_1_e1 : Ed := (eBin opAdd (eLst (aCons (eVar 3) aNil)) (eVar 4))
theorem pu_f_p_parts_of_1_e1 : PX f_p_parts_of_1_e1 := (pu_bin (pu_lst (pu_acons pu_var pu_anil)) pu_var)
def f_p_parts_of_1_b1 : Fs := (sExt 2 (eLC (iVal (eGo m_p_parts_of_0 (aCons (eBin opSub (eVar 0) (eVar 3)) (aCons (eBin opSub (eVar 3) (eC (.int 1))) aNil)))) (gN 4) tTrue f_p_parts_of_1_e1 [4]))
theorem pu_f_p_parts_of_1_b1 : PX f_p_parts_of_1_b1 := (pu_ext (pu_lc (pu_ival (pu_go pu_m_p_parts_of_0 (pu_acons (pu_bin pu_var pu_var) (pu_acons (pu_bin pu_var pu_c) pu_anil)))) pu_true pu_f_p_parts_of_1_e1))
def f_p_parts_of_1 : Fs := (sSeq (sIf (tBl (eBin opEq (eVar 0) (eC (.int 0)))) (sRet (eLst (aCons (eLst aNil) aNil))) sNext) (sSeq (sSet 2 (eLst aNil)) (sSeq (sFor (iRngDown (aCons (eApp fMin2 (aCons (eVar 0) (aCons (eVar 1)
    aNil))) (aCons (eC (.int 0)) (aCons (eUn opNeg (eC (.int 1))) aNil)))) (gN 3) f_p_parts_of_1_b1) (sRet (eVar 2)))))
def m_p_parts_of_1 : Fd := runD 5 .o f_p_parts_of_1
theorem pu_f_p_parts_of_1 : PX f_p_parts_of_1 := (pu_seq (pu_if (pu_tbl (pu_bin pu_var pu_c)) (pu_ret (pu_lst (pu_acons (pu_lst pu_anil) pu_anil))) pu_next) (pu_seq (pu_set (pu_lst pu_anil)) (pu_seq (pu_for (pu_irngdown (pu_acons (pu_app (pu_acons
    pu_var (pu_acons pu_var pu_anil))) (pu_acons pu_c (pu_acons (pu_un pu_c) pu_anil)))) pu_f_p_parts_of_1_b1) (pu_ret pu_var))))
theorem pu_m_p_parts_of_1 : PF m_p_parts_of_1 := pu_runD pu_f_p_parts_of_1
def f_p_parts_of_2_e1 : Ed := (eBin opAdd (eLst (aCons (eVar 3) aNil)) (eVar 4))
theorem pu_f_p_parts_of_2_e1 : PX f_p_parts_of_2_e1 := (pu_bin (pu_lst (pu_acons pu_var pu_anil)) pu_var)
def f_p_parts_of_2_b1 : Fs := (sExt 2 (eLC (iVal (eGo m_p_parts_of_1 (aCons (eBin opSub (eVar 0) (eVar 3)) (aCons (eBin opSub (eVar 3) (eC (.int 1))) aNil)))) (gN 4) tTrue f_p_parts_of_2_e1 [4]))
theorem pu_f_p_parts_of_2_b1 : PX f_p_parts_of_2_b1 := (pu_ext (pu_lc (pu_ival (pu_go pu_m_p_parts_of_1 (pu_acons (pu_bin pu_var pu_var) (pu_acons (pu_bin pu_var pu_c) pu_anil)))) pu_true pu_f_p_parts_of_2_e1))
def f_p_parts_of_2 : Fs := (sSeq (sIf (tBl (eBin opEq (eVar 0) (eC (.int 0)))) (sRet (eLst (aCons (eLst aNil) aNil))) sNext) (sSeq (sSet 2 (eLst aNil)) (sSeq (sFor (iRngDown (aCons (eApp fMin2 (aCons (eVar 0) (aCons (eVar 1)
    aNil))) (aCons (eC (.int 0)) (aCons (eUn opNeg (eC (.int 1))) aNil)))) (gN 3) f_p_parts_of_2_b1) (sRet (eVar 2)))))
def m_p_parts_of_2 : Fd := runD 5 .o f_p_parts_of_2
theorem pu_f_p_parts_of_2 : PX f_p_parts_of_2 := (pu_seq (pu_if (pu_tbl (pu_bin pu_var pu_c)) (pu_ret (pu_lst (pu_acons (pu_lst pu_anil) pu_anil))) pu_next) (pu_seq (pu_set (pu_lst pu_anil)) (pu_seq (pu_for (pu_irngdown (pu_acons (pu_app (pu_acons
    pu_var (pu_acons pu_var pu_anil))) (pu_acons pu_c (pu_acons (pu_un pu_c) pu_anil)))) pu_f_p_parts_of_2_b1) (pu_ret pu_var))))
theorem pu_m_p_parts_of_2 : PF m_p_parts_of_2 := pu_runD pu_f_p_parts_of_2
def f_p_parts_of_3_e1 : Ed := (eBin opAdd (eLst (aCons (eVar 3) aNil)) (eVar 4))
theorem pu_f_p_parts_of_3_e1 : PX f_p_parts_of_3_e1 := (pu_bin (pu_lst (pu_acons pu_var pu_anil)) pu_var)
def f_p_parts_of_3_b1 : Fs := (sExt 2 (eLC (iVal (eGo m_p_parts_of_2 (aCons (eBin opSub (eVar 0) (eVar 3)) (aCons (eBin opSub (eVar 3) (eC (.int 1))) aNil)))) (gN 4) tTrue f_p_parts_of_3_e1 [4]))
theorem pu_f_p_parts_of_3_b1 : PX f_p_parts_of_3_b1 := (pu_ext (pu_lc (pu_ival (pu_go pu_m_p_parts_of_2 (pu_acons (pu_bin pu_var pu_var) (pu_acons (pu_bin pu_var pu_c) pu_anil)))) pu_true pu_f_p_parts_of_3_e1))
def f_p_parts_of_3 : Fs := (sSeq (sIf (tBl (eBin opEq (eVar 0) (eC (.int 0)))) (sRet (eLst (aCons (eLst aNil) aNil))) sNext) (sSeq (sSet 2 (eLst aNil)) (sSeq (sFor (iRngDown (aCons (eApp fMin2 (aCons (eVar 0) (aCons (eVar 1)
    aNil))) (aCons (eC (.int 0)) (aCons (eUn opNeg (eC (.int 1))) aNil)))) (gN 3) f_p_parts_of_3_b1) (sRet (eVar 2)))))
def m_p_parts_of_3 : Fd := runD 5 .o f_p_parts_of_3
theorem pu_f_p_parts_of_3 : PX f_p_parts_of_3 := (pu_seq (pu_if (pu_tbl (pu_bin pu_var pu_c)) (pu_ret (pu_lst (pu_acons (pu_lst pu_anil) pu_anil))) pu_next) (pu_seq (pu_set (pu_lst pu_anil)) (pu_seq (pu_for (pu_irngdown (pu_acons (pu_app (pu_acons
    pu_var (pu_acons pu_var pu_anil))) (pu_acons pu_c (pu_acons (pu_un pu_c) pu_anil)))) pu_f_p_parts_of_3_b1) (pu_ret pu_var))))
theorem pu_m_p_parts_of_3 : PF m_p_parts_of_3 := pu_runD pu_f_p_parts_of_3
def f_p_parts_of_4_e1 : Ed := (eBin opAdd (eLst (aCons (eVar 3) aNil)) (eVar 4))
theorem pu_f_p_parts_of_4_e1 : PX f_p_parts_of_4_e1 := (pu_bin (pu_lst (pu_acons pu_var pu_anil)) pu_var)
def f_p_parts_of_4_b1 : Fs := (sExt 2 (eLC (iVal (eGo m_p_parts_of_3 (aCons (eBin opSub (eVar 0) (eVar 3)) (aCons (eBin opSub (eVar 3) (eC (.int 1))) aNil)))) (gN 4) tTrue f_p_parts_of_4_e1 [4]))
theorem pu_f_p_parts_of_4_b1 : PX f_p_parts_of_4_b1 := (pu_ext (pu_lc (pu_ival (pu_go pu_m_p_parts_of_3 (pu_acons (pu_bin pu_var pu_var) (pu_acons (pu_bin pu_var pu_c) pu_anil)))) pu_true pu_f_p_parts_of_4_e1))
def f_p_parts_of_4 : Fs := (sSeq (sIf (tBl (eBin opEq (eVar 0) (eC (.int 0)))) (sRet (eLst (aCons (eLst aNil) aNil))) sNext) (sSeq (sSet 2 (eLst aNil)) (sSeq (sFor (iRngDown (aCons (eApp fMin2 (aCons (eVar 0) (aCons (eVar 1)
    aNil))) (aCons (eC (.int 0)) (aCons (eUn opNeg (eC (.int 1))) aNil)))) (gN 3) f_p_parts_of_4_b1) (sRet (eVar 2)))))
def m_p_parts_of_4 : Fd := runD 5 .o f_p_parts_of_4
theorem pu_f_p_parts_of_4 : PX f_p_parts_of_4 := (pu_seq (pu_if (pu_tbl (pu_bin pu_var pu_c)) (pu_ret (pu_lst (pu_acons (pu_lst pu_anil) pu_anil))) pu_next) (pu_seq (pu_set (pu_lst pu_anil)) (pu_seq (pu_for (pu_irngdown (pu_acons (pu_app (pu_acons
    pu_var (pu_acons pu_var pu_anil))) (pu_acons pu_c (pu_acons (pu_un pu_c) pu_anil)))) pu_f_p_parts_of_4_b1) (pu_ret pu_var))))
theorem pu_m_p_parts_of_4 : PF m_p_parts_of_4 := pu_runD pu_f_p_parts_of_4
def f_p_parts_of_5_e1 : Ed := (eBin opAdd (eLst (aCons (eVar 3) aNil)) (eVar 4))
theorem pu_f_p_parts_of_5_e1 : PX f_p_parts_of_5_e1 := (pu_bin (pu_lst (pu_acons pu_var pu_anil)) pu_var)
def f_p_parts_of_5_b1 : Fs := (sExt 2 (eLC (iVal (eGo m_p_parts_of_4 (aCons (eBin opSub (eVar 0) (eVar 3)) (aCons (eBin opSub (eVar 3) (eC (.int 1))) aNil)))) (gN 4) tTrue f_p_parts_of_5_e1 [4]))
theorem pu_f_p_parts_of_5_b1 : PX f_p_parts_of_5_b1 := (pu_ext (pu_lc (pu_ival (pu_go pu_m_p_parts_of_4 (pu_acons (pu_bin pu_var pu_var) (pu_acons (pu_bin pu_var pu_c) pu_anil)))) pu_true pu_f_p_parts_of_5_e1))
def f_p_parts_of_5 : Fs := (sSeq (sIf (tBl (eBin opEq (eVar 0) (eC (.int 0)))) (sRet (eLst (aCons (eLst aNil) aNil))) sNext) (sSeq (sSet 2 (eLst aNil)) (sSeq (sFor (iRngDown (aCons (eApp fMin2 (aCons (eVar 0) (aCons (eVar 1)
    aNil))) (aCons (eC (.int 0)) (aCons (eUn opNeg (eC (.int 1))) aNil)))) (gN 3) f_p_parts_of_5_b1) (sRet (eVar 2)))))
def m_p_parts_of_5 : Fd := runD 5 .o f_p_parts_of_5
theorem pu_f_p_parts_of_5 : PX f_p_parts_of_5 := (pu_seq (pu_if (pu_tbl (pu_bin pu_var pu_c)) (pu_ret (pu_lst (pu_acons (pu_lst pu_anil) pu_anil))) pu_next) (pu_seq (pu_set (pu_lst pu_anil)) (pu_seq (pu_for (pu_irngdown (pu_acons (pu_app (pu_acons
    pu_var (pu_acons pu_var pu_anil))) (pu_acons pu_c (pu_acons (pu_un pu_c) pu_anil)))) pu_f_p_parts_of_5_b1) (pu_ret pu_var))))
theorem pu_m_p_parts_of_5 : PF m_p_parts_of_5 := pu_runD pu_f_p_parts_of_5
def f_p_parts_of_6_e1 : Ed := (eBin opAdd (eLst (aCons (eVar 3) aNil)) (eVar 4))
theorem pu_f_p_parts_of_6_e1 : PX f_p_parts_of_6_e1 := (pu_bin (pu_lst (pu_acons pu_var pu_anil)) pu_var)
def f_p_parts_of_6_b1 : Fs := (sExt 2 (eLC (iVal (eGo m_p_parts_of_5 (aCons (eBin opSub (eVar 0) (eVar 3)) (aCons (eBin opSub (eVar 3) (eC (.int 1))) aNil)))) (gN 4) tTrue f_p_parts_of_6_e1 [4]))
theorem pu_f_p_parts_of_6_b1 : PX f_p_parts_of_6_b1 := (pu_ext (pu_lc (pu_ival (pu_go pu_m_p_parts_of_5 (pu_acons (pu_bin pu_var pu_var) (pu_acons (pu_bin pu_var pu_c) pu_anil)))) pu_true pu_f_p_parts_of_6_e1))
def f_p_parts_of_6 : Fs := (sSeq (sIf (tBl (eBin opEq (eVar 0) (eC (.int 0)))) (sRet (eLst (aCons (eLst aNil) aNil))) sNext) (sSeq (sSet 2 (eLst aNil)) (sSeq (sFor (iRngDown (aCons (eApp fMin2 (aCons (eVar 0) (aCons (eVar 1)
    aNil))) (aCons (eC (.int 0)) (aCons (eUn opNeg (eC (.int 1))) aNil)))) (gN 3) f_p_parts_of_6_b1) (sRet (eVar 2)))))
def m_p_parts_of_6 : Fd := runD 5 .o f_p_parts_of_6
theorem pu_f_p_parts_of_6 : PX f_p_parts_of_6 := (pu_seq (pu_if (pu_tbl (pu_bin pu_var pu_c)) (pu_ret (pu_lst (pu_acons (pu_lst pu_anil) pu_anil))) pu_next) (pu_seq (pu_set (pu_lst pu_anil)) (pu_seq (pu_for (pu_irngdown (pu_acons (pu_app (pu_acons
    pu_var (pu_acons pu_var pu_anil))) (pu_acons pu_c (pu_acons (pu_un pu_c) pu_anil)))) pu_f_p_parts_of_6_b1) (pu_ret pu_var))))
theorem pu_m_p_parts_of_6 : PF m_p_parts_of_6 := pu_runD pu_f_p_parts_of_6
def f_p_parts_of_7_e1 : Ed := (eBin opAdd (eLst (aCons (eVar 3) aNil)) (eVar 4))
theorem pu_f_p_parts_of_7_e1 : PX f_p_parts_of_7_e1 := (pu_bin (pu_lst (pu_acons pu_var pu_anil)) pu_var)
def f_p_parts_of_7_b1 : Fs := (sExt 2 (eLC (iVal (eGo m_p_parts_of_6 (aCons (eBin opSub (eVar 0) (eVar 3)) (aCons (eBin opSub (eVar 3) (eC (.int 1))) aNil)))) (gN 4) tTrue f_p_parts_of_7_e1 [4]))
theorem pu_f_p_parts_of_7_b1 : PX f_p_parts_of_7_b1 := (pu_ext (pu_lc (pu_ival (pu_go pu_m_p_parts_of_6 (pu_acons (pu_bin pu_var pu_var) (pu_acons (pu_bin pu_var pu_c) pu_anil)))) pu_true pu_f_p_parts_of_7_e1))
def f_p_parts_of_7 : Fs := (sSeq (sIf (tBl (eBin opEq (eVar 0) (eC (.int 0)))) (sRet (eLst (aCons (eLst aNil) aNil))) sNext) (sSeq (sSet 2 (eLst aNil)) (sSeq (sFor (iRngDown (aCons (eApp fMin2 (aCons (eVar 0) (aCons (eVar 1)
    aNil))) (aCons (eC (.int 0)) (aCons (eUn opNeg (eC (.int 1))) aNil)))) (gN 3) f_p_parts_of_7_b1) (sRet (eVar 2)))))
def m_p_parts_of_7 : Fd := runD 5 .o f_p_parts_of_7
theorem pu_f_p_parts_of_7 : PX f_p_parts_of_7 := (pu_seq (pu_if (pu_tbl (pu_bin pu_var pu_c)) (pu_ret (pu_lst (pu_acons (pu_lst pu_anil) pu_anil))) pu_next) (pu_seq (pu_set (pu_lst pu_anil)) (pu_seq (pu_for (pu_irngdown (pu_acons (pu_app (pu_acons
    pu_var (pu_acons pu_var pu_anil))) (pu_acons pu_c (pu_acons (pu_un pu_c) pu_anil)))) pu_f_p_parts_of_7_b1) (pu_ret pu_var))))
theorem pu_m_p_parts_of_7 : PF m_p_parts_of_7 := pu_runD pu_f_p_parts_of_7
def f_p_parts_of_8_e1 : Ed := (eBin opAdd (eLst (aCons (eVar 3) aNil)) (eVar 4))
theorem pu_f_p_parts_of_8_e1 : PX f_p_parts_of_8_e1 := (pu_bin (pu_lst (pu_acons pu_var pu_anil)) pu_var)
def f_p_parts_of_8_b1 : Fs := (sExt 2 (eLC (iVal (eGo m_p_parts_of_7 (aCons (eBin opSub (eVar 0) (eVar 3)) (aCons (eBin opSub (eVar 3) (eC (.int 1))) aNil)))) (gN 4) tTrue f_p_parts_of_8_e1 [4]))
theorem pu_f_p_parts_of_8_b1 : PX f_p_parts_of_8_b1 := (pu_ext (pu_lc (pu_ival (pu_go pu_m_p_parts_of_7 (pu_acons (pu_bin pu_var pu_var) (pu_acons (pu_bin pu_var pu_c) pu_anil)))) pu_true pu_f_p_parts_of_8_e1))
def f_p_parts_of_8 : Fs := (sSeq (sIf (tBl (eBin opEq (eVar 0) (eC (.int 0)))) (sRet (eLst (aCons (eLst aNil) aNil))) sNext) (sSeq (sSet 2 (eLst aNil)) (sSeq (sFor (iRngDown (aCons (eApp fMin2 (aCons (eVar 0) (aCons (eVar 1)
    aNil))) (aCons (eC (.int 0)) (aCons (eUn opNeg (eC (.int 1))) aNil)))) (gN 3) f_p_parts_of_8_b1) (sRet (eVar 2)))))
def m_p_parts_of_8 : Fd := runD 5 .o f_p_parts_of_8
theorem pu_f_p_parts_of_8 : PX f_p_parts_of_8 := (pu_seq (pu_if (pu_tbl (pu_bin pu_var pu_c)) (pu_ret (pu_lst (pu_acons (pu_lst pu_anil) pu_anil))) pu_next) (pu_seq (pu_set (pu_lst pu_anil)) (pu_seq (pu_for (pu_irngdown (pu_acons (pu_app (pu_acons
    pu_var (pu_acons pu_var pu_anil))) (pu_acons pu_c (pu_acons (pu_un pu_c) pu_anil)))) pu_f_p_parts_of_8_b1) (pu_ret pu_var))))
theorem pu_m_p_parts_of_8 : PF m_p_parts_of_8 := pu_runD pu_f_p_parts_of_8
def f_p_parts_of_9_e1 : Ed := (eBin opAdd (eLst (aCons (eVar 3) aNil)) (eVar 4))
theorem pu_f_p_parts_of_9_e1 : PX f_p_parts_of_9_e1 := (pu_bin (pu_lst (pu_acons pu_var pu_anil)) pu_var)
def f_p_parts_of_9_b1 : Fs := (sExt 2 (eLC (iVal (eGo m_p_parts_of_8 (aCons (eBin opSub (eVar 0) (eVar 3)) (aCons (eBin opSub (eVar 3) (eC (.int 1))) aNil)))) (gN 4) tTrue f_p_parts_of_9_e1 [4]))
theorem pu_f_p_parts_of_9_b1 : PX f_p_parts_of_9_b1 := (pu_ext (pu_lc (pu_ival (pu_go pu_m_p_parts_of_8 (pu_acons (pu_bin pu_var pu_var) (pu_acons (pu_bin pu_var pu_c) pu_anil)))) pu_true pu_f_p_parts_of_9_e1))
def f_p_parts_of_9 : Fs := (sSeq (sIf (tBl (eBin opEq (eVar 0) (eC (.int 0)))) (sRet (eLst (aCons (eLst aNil) aNil))) sNext) (sSeq (sSet 2 (eLst aNil)) (sSeq (sFor (iRngDown (aCons (eApp fMin2 (aCons (eVar 0) (aCons (eVar 1)
    aNil))) (aCons (eC (.int 0)) (aCons (eUn opNeg (eC (.int 1))) aNil)))) (gN 3) f_p_parts_of_9_b1) (sRet (eVar 2)))))
def m_p_parts_of_9 : Fd := runD 5 .o f_p_parts_of_9
theorem pu_f_p_parts_of_9 : PX f_p_parts_of_9 := (pu_seq (pu_if (pu_tbl (pu_bin pu_var pu_c)) (pu_ret (pu_lst (pu_acons (pu_lst pu_anil) pu_anil))) pu_next) (pu_seq (pu_set (pu_lst pu_anil)) (pu_seq (pu_for (pu_irngdown (pu_acons (pu_app (pu_acons
    pu_var (pu_acons pu_var pu_anil))) (pu_acons pu_c (pu_acons (pu_un pu_c) pu_anil)))) pu_f_p_parts_of_9_b1) (pu_ret pu_var))))
theorem pu_m_p_parts_of_9 : PF m_p_parts_of_9 := pu_runD pu_f_p_parts_of_9
def f_p_parts_of_10_e1 : Ed := (eBin opAdd (eLst (aCons (eVar 3) aNil)) (eVar 4))
theorem pu_f_p_parts_of_10_e1 : PX f_p_parts_of_10_e1 := (pu_bin (pu_lst (pu_acons pu_var pu_anil)) pu_var)
def f_p_parts_of_10_b1 : Fs := (sExt 2 (eLC (iVal (eGo m_p_parts_of_9 (aCons (eBin opSub (eVar 0) (eVar 3)) (aCons (eBin opSub (eVar 3) (eC (.int 1))) aNil)))) (gN 4) tTrue f_p_parts_of_10_e1 [4]))
theorem pu_f_p_parts_of_10_b1 : PX f_p_parts_of_10_b1 := (pu_ext (pu_lc (pu_ival (pu_go pu_m_p_parts_of_9 (pu_acons (pu_bin pu_var pu_var) (pu_acons (pu_bin pu_var pu_c) pu_anil)))) pu_true pu_f_p_parts_of_10_e1))
def f_p_parts_of_10 : Fs := (sSeq (sIf (tBl (eBin opEq (eVar 0) (eC (.int 0)))) (sRet (eLst (aCons (eLst aNil) aNil))) sNext) (sSeq (sSet 2 (eLst aNil)) (sSeq (sFor (iRngDown (aCons (eApp fMin2 (aCons (eVar 0) (aCons (eVar 1)
    aNil))) (aCons (eC (.int 0)) (aCons (eUn opNeg (eC (.int 1))) aNil)))) (gN 3) f_p_parts_of_10_b1) (sRet (eVar 2)))))
def m_p_parts_of_10 : Fd := runD 5 .o f_p_parts_of_10
theorem pu_f_p_parts_of_10 : PX f_p_parts_of_10 := (pu_seq (pu_if (pu_tbl (pu_bin pu_var pu_c)) (pu_ret (pu_lst (pu_acons (pu_lst pu_anil) pu_anil))) pu_next) (pu_seq (pu_set (pu_lst pu_anil)) (pu_seq (pu_for (pu_irngdown (pu_acons (pu_app (pu_acons
    pu_var (pu_acons pu_var pu_anil))) (pu_acons pu_c (pu_acons (pu_un pu_c) pu_anil)))) pu_f_p_parts_of_10_b1) (pu_ret pu_var))))
theorem pu_m_p_parts_of_10 : PF m_p_parts_of_10 := pu_runD pu_f_p_parts_of_10
def f_p_parts_of_11_e1 : Ed := (eBin opAdd (eLst (aCons (eVar 3) aNil)) (eVar 4))
theorem pu_f_p_parts_of_11_e1 : PX f_p_parts_of_11_e1 := (pu_bin (pu_lst (pu_acons pu_var pu_anil)) pu_var)
def f_p_parts_of_11_b1 : Fs := (sExt 2 (eLC (iVal (eGo m_p_parts_of_10 (aCons (eBin opSub (eVar 0) (eVar 3)) (aCons (eBin opSub (eVar 3) (eC (.int 1))) aNil)))) (gN 4) tTrue f_p_parts_of_11_e1 [4]))
theorem pu_f_p_parts_of_11_b1 : PX f_p_parts_of_11_b1 := (pu_ext (pu_lc (pu_ival (pu_go pu_m_p_parts_of_10 (pu_acons (pu_bin pu_var pu_var) (pu_acons (pu_bin pu_var pu_c) pu_anil)))) pu_true pu_f_p_parts_of_11_e1))
def f_p_parts_of_11 : Fs := (sSeq (sIf (tBl (eBin opEq (eVar 0) (eC (.int 0)))) (sRet (eLst (aCons (eLst aNil) aNil))) sNext) (sSeq (sSet 2 (eLst aNil)) (sSeq (sFor (iRngDown (aCons (eApp fMin2 (aCons (eVar 0) (aCons (eVar 1)
    aNil))) (aCons (eC (.int 0)) (aCons (eUn opNeg (eC (.int 1))) aNil)))) (gN 3) f_p_parts_of_11_b1) (sRet (eVar 2)))))
def m_p_parts_of_11 : Fd := runD 5 .o f_p_parts_of_11
theorem pu_f_p_parts_of_11 : PX f_p_parts_of_11 := (pu_seq (pu_if (pu_tbl (pu_bin pu_var pu_c)) (pu_ret (pu_lst (pu_acons (pu_lst pu_anil) pu_anil))) pu_next) (pu_seq (pu_set (pu_lst pu_anil)) (pu_seq (pu_for (pu_irngdown (pu_acons (pu_app (pu_acons
    pu_var (pu_acons pu_var pu_anil))) (pu_acons pu_c (pu_acons (pu_un pu_c) pu_anil)))) pu_f_p_parts_of_11_b1) (pu_ret pu_var))))
theorem pu_m_p_parts_of_11 : PF m_p_parts_of_11 := pu_runD pu_f_p_parts_of_11
abbrev s_p_rows_of : Stmt := topS 75
def f_p_rows_of_e1 : Ed := (eGo m_p_row_of (aCons (eVar 1) aNil))
theorem pu_f_p_rows_of_e1 : PX f_p_rows_of_e1 := (pu_go pu_m_p_row_of (pu_acons pu_var pu_anil))
def f_p_rows_of : Fs := (sSeq (sExpr (eGoD (List.drop 2 [.non, .int 0]) m_p_want_many (aCons (eVar 0) (aCons (eC (.int 24)) (aCons (eC (.int 1)) aNil))))) (sRet (eApp fSortB (aCons (eLC (iVal (eGo m_p_parts_of_11 (aCons (eVar
    0) (aCons (eC (.int 9)) aNil)))) (gN 1) tTrue f_p_rows_of_e1 [1]) aNil))))
def m_p_rows_of : Fd := runD 2 .o f_p_rows_of
theorem pu_f_p_rows_of : PX f_p_rows_of := (pu_seq (pu_expr (pu_goD pu_m_p_want_many (pu_acons pu_var (pu_acons pu_c (pu_acons pu_c pu_anil))))) (pu_ret (pu_app (pu_acons (pu_lc (pu_ival (pu_go pu_m_p_parts_of_11 (pu_acons pu_var (pu_acons pu_c
    pu_anil)))) pu_true pu_f_p_rows_of_e1) pu_anil))))
theorem pu_m_p_rows_of : PF m_p_rows_of := pu_runD pu_f_p_rows_of
abbrev s_p_many_through : Stmt := topS 48
def f_p_many_through : Fs := (sRet (eBin opSub (eApp fLen (aCons (eGo m_p_triples_of (aCons (eVar 1) aNil)) aNil)) (eGo m_p_rank_at (aCons (eVar 0) (aCons (eVar 1) aNil)))))
def m_p_many_through : Fd := runD 2 .f f_p_many_through
abbrev s_p_top_of : Stmt := topS 52
def f_p_top_of_b1 : Fs := (sSet 1 (eBin opAdd (eVar 1) (eC (.int 1))))
def f_p_top_of : Fs := (sSeq (sSet 1 (eC (.int 0))) (sSeq (sWhile (tBl (eBin opEq (eGo m_p_many_through (aCons (eVar 0) (aCons (eVar 1) aNil))) (eC (.int 0)))) f_p_top_of_b1) (sRet (eVar 1))))
def m_p_top_of : Fd := runD 2 .f f_p_top_of
abbrev s_p_top : Stmt := topS 54
def f_p_top : Fs := (sSeq (sExpr (eGo m_p_want_spots (aCons (eVar 0) aNil))) (sRet (eGo m_p_top_of (aCons (eUn (fldD "Spots" "own_points") (eVar 0)) aNil))))
def m_p_top : Fd := runD 1 .f f_p_top
abbrev s_p_end : Stmt := topS 55
def f_p_end : Fs := (sSeq (sExpr (eGo m_p_want_spots (aCons (eVar 0) aNil))) (sRet (eBin opSub (eApp fLen (aCons (eGo m_p_row_by (aCons (eUn (fldD "Spots" "own_points") (eVar 0)) aNil)) aNil)) (eC (.int 1)))))
def m_p_end : Fd := runD 1 .f f_p_end
abbrev s_p_stair_points : Stmt := topS 68
def f_p_stair_points_e1 : Ed := (eTup (aCons (eBin opSub (eVar 2) (eVar 4)) (aCons (eVar 4) (aCons (eC (.int 1)) aNil))))
theorem pu_f_p_stair_points_e1 : PX f_p_stair_points_e1 := (pu_tup (pu_acons (pu_bin pu_var pu_var) (pu_acons pu_var (pu_acons pu_c pu_anil))))
def f_p_stair_points_b1 : Fs := (sExt 1 (eLC (iRng (aCons (eVar 3) aNil)) (gN 4) tTrue f_p_stair_points_e1 [4]))
theorem pu_f_p_stair_points_b1 : PX f_p_stair_points_b1 := (pu_ext (pu_lc (pu_irng (pu_acons pu_var pu_anil)) pu_true pu_f_p_stair_points_e1))
def f_p_stair_points : Fs := (sSeq (sSet 1 (eLst aNil)) (sSeq (sFor (iEnumD (aCons (eVar 0) aNil)) (gT 2 (gsCons (gN 2) (gsCons (gN 3) gsNil))) f_p_stair_points_b1) (sRet (eVar 1))))
def m_p_stair_points : Fd := runD 5 .o f_p_stair_points
theorem pu_f_p_stair_points : PX f_p_stair_points := (pu_seq (pu_set (pu_lst pu_anil)) (pu_seq (pu_for (pu_ienumd (pu_acons pu_var pu_anil)) pu_f_p_stair_points_b1) (pu_ret pu_var)))
theorem pu_m_p_stair_points : PF m_p_stair_points := pu_runD pu_f_p_stair_points
abbrev s_p_stair : Stmt := topS 69
def f_p_stair : Fs := (sRet (eGo m_i_Spots (aCons (eGo m_p_stair_points (aCons (eGo m_p_want_row (aCons (eVar 0) aNil)) aNil)) aNil)))
def m_p_stair : Fd := runD 1 .o f_p_stair
theorem pu_f_p_stair : PX f_p_stair := (pu_ret (pu_go pu_m_i_Spots (pu_acons (pu_go pu_m_p_stair_points (pu_acons (pu_go pu_m_p_want_row (pu_acons pu_var pu_anil)) pu_anil)) pu_anil)))
theorem pu_m_p_stair : PF m_p_stair := pu_runD pu_f_p_stair
abbrev s_l_more : Stmt := topS 84
def f_l_more_b1 : Fs := (sApp 2 (eBin opEq (eVar 1) (eBin opAdd (eBin opAdd (eSl (eVar 0) oNone (oSome (eVar 3))) (eLst (aCons (eBin opAdd (eBin opIx (eVar 0) (eVar 3)) (eC (.int 1))) aNil))) (eSl (eVar 0) (oSome (eBin opAdd
    (eVar 3) (eC (.int 1)))) oNone))))
theorem pu_f_l_more_b1 : PX f_l_more_b1 := (pu_sapp (pu_bin pu_var (pu_bin (pu_bin (pu_sl pu_var pu_onone (pu_osome pu_var)) (pu_lst (pu_acons (pu_bin (pu_bin pu_var pu_var) pu_c) pu_anil))) (pu_sl pu_var (pu_osome (pu_bin pu_var pu_c))
    pu_onone))))
def f_l_more : Fs := (sSeq (sSet 2 (eLst (aCons (eBin opEq (eVar 1) (eBin opAdd (eVar 0) (eLst (aCons (eC (.int 1)) aNil)))) aNil))) (sSeq (sFor (iRng (aCons (eApp fLen (aCons (eVar 0) aNil)) aNil)) (gN 3) f_l_more_b1)
    (sRet (eApp fAnyA (aCons (eVar 2) aNil)))))
def m_l_more : Fd := runD 4 .f f_l_more
theorem pu_f_l_more : PX f_l_more := (pu_seq (pu_set (pu_lst (pu_acons (pu_bin pu_var (pu_bin pu_var (pu_lst (pu_acons pu_c pu_anil)))) pu_anil))) (pu_seq (pu_for (pu_irng (pu_acons (pu_app (pu_acons pu_var pu_anil)) pu_anil))
    pu_f_l_more_b1) (pu_ret (pu_app (pu_acons pu_var pu_anil)))))
theorem pu_m_l_more : PF m_l_more := pu_runD pu_f_l_more
abbrev s_p_box_row : Stmt := topS 65
def f_p_box_row_e1 : Ed := (eApp fMin4 (aCons (eBin opAdd (eVar 3) (eC (.int 1))) (aCons (eVar 0) (aCons (eVar 1) (aCons (eBin opSub (eBin opSub (eVar 2) (eC (.int 1))) (eVar 3)) aNil)))))
theorem pu_f_p_box_row_e1 : PX f_p_box_row_e1 := (pu_app (pu_acons (pu_bin pu_var pu_c) (pu_acons pu_var (pu_acons pu_var (pu_acons (pu_bin (pu_bin pu_var pu_c) pu_var) pu_anil)))))
def f_p_box_row : Fs := (sSeq (sSet 2 (eBin opAdd (eVar 0) (eVar 1))) (sRet (eLC (iRng (aCons (eBin opSub (eVar 2) (eC (.int 1))) aNil)) (gN 3) tTrue f_p_box_row_e1 [3])))
def m_p_box_row : Fd := runD 4 .o f_p_box_row
theorem pu_f_p_box_row : PX f_p_box_row := (pu_seq (pu_set (pu_bin pu_var pu_var)) (pu_ret (pu_lc (pu_irng (pu_acons (pu_bin pu_var pu_c) pu_anil)) pu_true pu_f_p_box_row_e1)))
theorem pu_m_p_box_row : PF m_p_box_row := pu_runD pu_f_p_box_row
abbrev s_p_box_of : Stmt := topS 66
def f_p_box_of : Fs := (sSeq (sSet 1 (eGo m_p_want_row (aCons (eVar 0) aNil))) (sSeq (sSet 2 (eApp fMaxL (aCons (eVar 1) aNil))) (sSeq (sSet 3 (eBin opSub (eBin opAdd (eApp fLen (aCons (eVar 1) aNil)) (eC (.int 1))) (eVar
    2))) (sRet (eIf (tAndD (tBl (eBin (cmpI fun i j => decide (j ≤ i)) (eVar 3) (eVar 2))) (tBl (eBin opEq (eGo m_p_box_row (aCons (eVar 2) (aCons (eVar 3) aNil))) (eVar 1)))) (eTup (aCons (eVar 2)
    (aCons (eVar 3) aNil))) (eC .non))))))
def m_p_box_of : Fd := runD 4 .f f_p_box_of
theorem pu_f_p_box_of : PX f_p_box_of := (pu_seq (pu_set (pu_go pu_m_p_want_row (pu_acons pu_var pu_anil))) (pu_seq (pu_set (pu_app (pu_acons pu_var pu_anil))) (pu_seq (pu_set (pu_bin (pu_bin (pu_app (pu_acons pu_var pu_anil)) pu_c) pu_var))
    (pu_ret (pu_eif (pu_tand (pu_tbl (pu_bin pu_var pu_var)) (pu_tbl (pu_bin (pu_go pu_m_p_box_row (pu_acons pu_var (pu_acons pu_var pu_anil))) pu_var))) (pu_tup (pu_acons pu_var (pu_acons pu_var
    pu_anil))) pu_c)))))
theorem pu_m_p_box_of : PF m_p_box_of := pu_runD pu_f_p_box_of
abbrev s_l_right : Stmt := topS 85
def f_l_right_t1 : Et := (tBl (eBin (cmpI fun i j => decide (j ≤ i)) (eBin opIx (eVar 5) (eVar 11)) (eBin opIx (eVar 5) (eBin opSub (eVar 11) (eC (.int 1))))))
theorem f_l_right_t1_ap (ρ : Rho) (π : Pot) : f_l_right_t1 ρ π = (tBl (eBin (cmpI fun i j => decide (j ≤ i)) (eBin opIx (eVar 5) (eVar 11)) (eBin opIx (eVar 5) (eBin opSub (eVar 11) (eC (.int 1)))))) ρ π := rfl
def f_l_right_e1 : Ed := (eVar 11)
def f_l_right_b1 : Fs := (sSeq (sSet 9 (eIf (tBl (eBin (cmpI fun i j => decide (i < j)) (eVar 6) (eApp fLen (aCons (eVar 1) aNil)))) (eGo m_p_row (aCons (eGo m_i_Spots (aCons (eSl (eVar 1) oNone (oSome (eVar 6))) aNil)) aNil))
    (eVar 4))) (sSeq (sIf (tAndD (tBl (eBin (cmpI fun i j => decide (j < i)) (eVar 6) (eC (.int 1)))) (tNotD (tOf (eGo m_l_more (aCons (eVar 3) (aCons (eVar 9) aNil)))))) (sRet (eC (.bl false))) sNext)
    (sSet 3 (eVar 9))))
theorem f_l_right_b1_ap (ρ : Rho) (π : Pot) : f_l_right_b1 ρ π = (sSeq (sSet 9 (eIf (tBl (eBin (cmpI fun i j => decide (i < j)) (eVar 6) (eApp fLen (aCons (eVar 1) aNil)))) (eGo m_p_row (aCons (eGo m_i_Spots (aCons (eSl (eVar 1) oNone (oSome (eVar 6))) aNil)) aNil))
    (eVar 4))) (sSeq (sIf (tAndD (tBl (eBin (cmpI fun i j => decide (j < i)) (eVar 6) (eC (.int 1)))) (tNotD (tOf (eGo m_l_more (aCons (eVar 3) (aCons (eVar 9) aNil)))))) (sRet (eC (.bl false))) sNext)
    (sSet 3 (eVar 9)))) ρ π := rfl
def f_l_right_t2 : Et := (tBl (eBin opEq (eBin opMulA (eBin opIx (eVar 10) (eC (.int 0))) (eBin opIx (eVar 10) (eC (.int 2)))) (eBin opMulA (eBin opIx (eVar 10) (eC (.int 1))) (eBin opIx (eVar 10) (eC (.int 1))))))
theorem f_l_right_t2_ap (ρ : Rho) (π : Pot) : f_l_right_t2 ρ π = (tBl (eBin opEq (eBin opMulA (eBin opIx (eVar 10) (eC (.int 0))) (eBin opIx (eVar 10) (eC (.int 2)))) (eBin opMulA (eBin opIx (eVar 10) (eC (.int 1))) (eBin opIx (eVar 10) (eC (.int 1)))))) ρ π := rfl
def f_l_right_e2 : Ed := (eVar 10)
theorem f_l_right_e2_ap (ρ : Rho) (π : Pot) : f_l_right_e2 ρ π = (eVar 10) ρ π := rfl
def f_l_right_t3 : Et := (tBl (eBin opEq (eBin opIx (eVar 10) (eC (.int 1))) (eC (.int 0))))
theorem f_l_right_t3_ap (ρ : Rho) (π : Pot) : f_l_right_t3 ρ π = (tBl (eBin opEq (eBin opIx (eVar 10) (eC (.int 1))) (eC (.int 0)))) ρ π := rfl
def f_l_right_r1 : Fs := (sSeq (sPar 2 3 (eGo m_i_Spots (aCons (eVar 1) aNil)) (eLst aNil)) (sSeq (sSet 4 (eGo m_p_row (aCons (eVar 2) aNil))) (sSeq (sIf (tOrD (tNotD (tOf (eGo m_l_can (aCons (eVar 4) aNil)))) (tOrD (tBl (eBin
    opNotB (eGo m_p_is_row (aCons (eVar 4) aNil)) (eC (.bl true)))) (tOrD (tBl (eBin opNotN (eGo m_p_fault (aCons (eVar 4) aNil)) (eC .non))) (tBl (eBin opNotInA (eVar 4) (eGo m_p_rows_of (aCons (eApp
    fLen (aCons (eVar 1) aNil)) aNil))))))) (sRet (eC (.bl false))) sNext) (sSeq (sSet 5 (eGo m_p_lengths (aCons (eVar 4) aNil))) (sSeq (sIf (tOrD (tBl (eBin opNe (eApp fSum (aCons (eVar 5) aNil)) (eApp
    fLen (aCons (eVar 1) aNil)))) (tBl (eBin opNe (eLC (iRng (aCons (eC (.int 1)) (aCons (eApp fLen (aCons (eVar 5) aNil)) aNil))) (gN 11) f_l_right_t1 f_l_right_e1 [11]) (eLst aNil)))) (sRet (eC (.bl
    false))) sNext) (sSeq (sIf (tOrD (tBl (eBin opNe (eGo m_p_row (aCons (eGo m_p_stair (aCons (eVar 4) aNil)) aNil)) (eVar 4))) (tOrD (tBl (eBin opNe (eApp fMaxL (aCons (eVar 4) aNil)) (eGo m_p_top
    (aCons (eVar 2) aNil)))) (tBl (eBin opNe (eGo m_p_end (aCons (eVar 2) aNil)) (eBin opSub (eApp fLen (aCons (eVar 4) aNil)) (eC (.int 1))))))) (sRet (eC (.bl false))) sNext) (sSeq (sFor (iRng (aCons
    (eC (.int 1)) (aCons (eBin opAdd (eApp fLen (aCons (eVar 1) aNil)) (eC (.int 1))) aNil))) (gN 6) f_l_right_b1) (sSeq (sSet 7 (eApp fLen (aCons (eLC (iVal (eVar 1)) (gN 10) f_l_right_t2 f_l_right_e2
    [10]) aNil))) (sSeq (sSet 8 (eApp fLen (aCons (eLC (iVal (eVar 1)) (gN 10) f_l_right_t3 f_l_right_e2 [10]) aNil))) (sSeq (sIf (tAndD (tBl (eBin opEq (eVar 7) (eApp fLen (aCons (eVar 1) aNil))))
    (tAndD (tBl (eBin (cmpI fun i j => decide (j < i)) (eVar 7) (eC (.int 4)))) (tBl (eBin opNe (eVar 4) (eBin opAdd (eBin opAdd (eLst (aCons (eC (.int 1)) aNil)) (eBin opRep (eLst (aCons (eC (.int 2))
    aNil)) (eBin opFdivW (eBin opSub (eVar 7) (eC (.int 1))) (eC (.int 2))))) (eBin opRep (eLst (aCons (eC (.int 1)) aNil)) (eIf (tBl (eBin opEq (eBin opMulA (eBin opFdivW (eVar 7) (eC (.int 2))) (eC
    (.int 2))) (eVar 7))) (eC (.int 1)) (eC (.int 0))))))))) (sRet (eC (.bl false))) sNext) (sSeq (sIf (tAndD (tBl (eBin opEq (eVar 8) (eApp fLen (aCons (eVar 1) aNil)))) (tOrD (tBl (eBin opNe (eVar 4)
    (eBin opRep (eLst (aCons (eC (.int 1)) aNil)) (eVar 8)))) (tBl (eBin opNe (eGo m_p_box_of (aCons (eVar 4) aNil)) (eTup (aCons (eC (.int 1)) (aCons (eVar 8) aNil))))))) (sRet (eC (.bl false))) sNext)
    (sRet (eC (.bl true))))))))))))))
theorem f_l_right_r1_ap (ρ : Rho) (π : Pot) : f_l_right_r1 ρ π = (sSeq (sPar 2 3 (eGo m_i_Spots (aCons (eVar 1) aNil)) (eLst aNil)) (sSeq (sSet 4 (eGo m_p_row (aCons (eVar 2) aNil))) (sSeq (sIf (tOrD (tNotD (tOf (eGo m_l_can (aCons (eVar 4) aNil)))) (tOrD (tBl (eBin
    opNotB (eGo m_p_is_row (aCons (eVar 4) aNil)) (eC (.bl true)))) (tOrD (tBl (eBin opNotN (eGo m_p_fault (aCons (eVar 4) aNil)) (eC .non))) (tBl (eBin opNotInA (eVar 4) (eGo m_p_rows_of (aCons (eApp
    fLen (aCons (eVar 1) aNil)) aNil))))))) (sRet (eC (.bl false))) sNext) (sSeq (sSet 5 (eGo m_p_lengths (aCons (eVar 4) aNil))) (sSeq (sIf (tOrD (tBl (eBin opNe (eApp fSum (aCons (eVar 5) aNil)) (eApp
    fLen (aCons (eVar 1) aNil)))) (tBl (eBin opNe (eLC (iRng (aCons (eC (.int 1)) (aCons (eApp fLen (aCons (eVar 5) aNil)) aNil))) (gN 11) f_l_right_t1 f_l_right_e1 [11]) (eLst aNil)))) (sRet (eC (.bl
    false))) sNext) (sSeq (sIf (tOrD (tBl (eBin opNe (eGo m_p_row (aCons (eGo m_p_stair (aCons (eVar 4) aNil)) aNil)) (eVar 4))) (tOrD (tBl (eBin opNe (eApp fMaxL (aCons (eVar 4) aNil)) (eGo m_p_top
    (aCons (eVar 2) aNil)))) (tBl (eBin opNe (eGo m_p_end (aCons (eVar 2) aNil)) (eBin opSub (eApp fLen (aCons (eVar 4) aNil)) (eC (.int 1))))))) (sRet (eC (.bl false))) sNext) (sSeq (sFor (iRng (aCons
    (eC (.int 1)) (aCons (eBin opAdd (eApp fLen (aCons (eVar 1) aNil)) (eC (.int 1))) aNil))) (gN 6) f_l_right_b1) (sSeq (sSet 7 (eApp fLen (aCons (eLC (iVal (eVar 1)) (gN 10) f_l_right_t2 f_l_right_e2
    [10]) aNil))) (sSeq (sSet 8 (eApp fLen (aCons (eLC (iVal (eVar 1)) (gN 10) f_l_right_t3 f_l_right_e2 [10]) aNil))) (sSeq (sIf (tAndD (tBl (eBin opEq (eVar 7) (eApp fLen (aCons (eVar 1) aNil))))
    (tAndD (tBl (eBin (cmpI fun i j => decide (j < i)) (eVar 7) (eC (.int 4)))) (tBl (eBin opNe (eVar 4) (eBin opAdd (eBin opAdd (eLst (aCons (eC (.int 1)) aNil)) (eBin opRep (eLst (aCons (eC (.int 2))
    aNil)) (eBin opFdivW (eBin opSub (eVar 7) (eC (.int 1))) (eC (.int 2))))) (eBin opRep (eLst (aCons (eC (.int 1)) aNil)) (eIf (tBl (eBin opEq (eBin opMulA (eBin opFdivW (eVar 7) (eC (.int 2))) (eC
    (.int 2))) (eVar 7))) (eC (.int 1)) (eC (.int 0))))))))) (sRet (eC (.bl false))) sNext) (sSeq (sIf (tAndD (tBl (eBin opEq (eVar 8) (eApp fLen (aCons (eVar 1) aNil)))) (tOrD (tBl (eBin opNe (eVar 4)
    (eBin opRep (eLst (aCons (eC (.int 1)) aNil)) (eVar 8)))) (tBl (eBin opNe (eGo m_p_box_of (aCons (eVar 4) aNil)) (eTup (aCons (eC (.int 1)) (aCons (eVar 8) aNil))))))) (sRet (eC (.bl false))) sNext)
    (sRet (eC (.bl true)))))))))))))) ρ π := rfl
def f_l_right : Fs := (sSeq (sSet 1 (eGo m_l_points (aCons (eC .non) aNil))) f_l_right_r1)
def m_l_right : Fd := runD 12 .f f_l_right
abbrev s_l_pot : Stmt := topS 77
def f_l_pot : Fs := (sSeq (sSet 2 (eBin opAdd (eBin opMulA (eC (.int 353)) (eVar 1)) (eC (.int 101)))) (sSeq (sIf (tBl (eBin (cmpI fun i j => decide (i < j)) (eVar 1) (eApp fLen (aCons (eVar 0) aNil)))) (sSet 2 (eApp fAbs
    (aCons (eBin opIx (eVar 0) (eVar 1)) aNil))) sNext) (sRet (eLst (aCons (eApp fMax2 (aCons (eC (.int 0)) (aCons (eBin opSub (eVar 2) (eBin opPow (eC (.int 10)) (eC (.int 18)))) aNil))) (aCons (eBin
    opAdd (eBin opMod (eApp fInt (aCons (eBin opAdd (eBin opAdd (eBin opMulA (eBin opMod (eApp fInt (aCons (eVar 2) aNil)) (eC (.int 2147483549))) (eC (.int 40014))) (eBin opMulA (eC (.int 7103)) (eVar
    1))) (eC (.int 31))) aNil)) (eC (.int 2147483563))) (eC (.int 1))) aNil))))))
def m_l_pot : Fd := runD 3 .o f_l_pot
abbrev s_law_ : Stmt := topS 86
def f_law_ : Fs := (sRet (eGoPot m_l_right (eGo m_l_pot (aCons (eVar 0) (aCons (eC (.int 0)) aNil)))))
def m_law_ : Fd := runD 1 .f f_law_
structure Top (K : PySem.W.Frag) (mg : Str → Option Value) : Prop where
  cl_Told : ClsF K mg "Told" ["told_points"]
  cl_Spots : ClsF K mg "Spots" ["own_points"]
  ci_Spots : ClsI K mg "Spots" ["Spots"]
  ci_Told : ClsI K mg "Told" ["Spots"]
  cT : ClsT K mg ["Spots"]
  g_gcd : mg "gcd" = some (.builtin "math.gcd")
  f_l_draw : ∃ f fd, mg "_law_draw" = some (.ref f) ∧ Fun K "_law_draw" "_law_draw" s_l_draw f fd
  f_l_gcd : ∃ f fd, mg "_law_gcd" = some (.ref f) ∧ Fun K "_law_gcd" "_law_gcd" s_l_gcd f fd
  f_l_told : ∃ f fd, mg "_law_told" = some (.ref f) ∧ Fun K "_law_told" "_law_told" s_l_told f fd
  f_l_points : ∃ f fd, mg "_law_points" = some (.ref f) ∧ Fun K "_law_points" "_law_points" s_l_points f fd
  f_p_is_list : ∃ f fd, mg "is_list" = some (.ref f) ∧ Fun K "is_list" "is_list" s_p_is_list f fd
  f_p_divisor_of : ∃ f fd, mg "divisor_of" = some (.ref f) ∧ Fun K "divisor_of" "divisor_of" s_p_divisor_of f fd
  f_p_plain : ∃ f fd, mg "plain" = some (.ref f) ∧ Fun K "plain" "plain" s_p_plain f fd
  f_p_lead_place : ∃ f fd, mg "lead_place" = some (.ref f) ∧ Fun K "lead_place" "lead_place" s_p_lead_place f fd
  f_p_signed : ∃ f fd, mg "signed" = some (.ref f) ∧ Fun K "signed" "signed" s_p_signed f fd
  f_p_told_of : ∃ f fd, mg "told_of" = some (.ref f) ∧ Fun K "told_of" "told_of" s_p_told_of f fd
  f_p_is_integer : ∃ f fd, mg "is_integer" = some (.ref f) ∧ Fun K "is_integer" "is_integer" s_p_is_integer f fd
  f_p_are_point : ∃ f fd, mg "are_point" = some (.ref f) ∧ Fun K "are_point" "are_point" s_p_are_point f fd
  f_p_told_points : ∃ f fd, mg "told_points" = some (.ref f) ∧ Fun K "told_points" "told_points" s_p_told_points f fd
  f_i_Spots : ∃ C f fd, mg "Spots" = some (.ref C) ∧ Mk K C f ∧ Fun K "__init__" "Spots.__init__" s_i_Spots f fd
  f_p_want_spots : ∃ f fd, mg "want_spots" = some (.ref f) ∧ Fun K "want_spots" "want_spots" s_p_want_spots f fd
  f_p_less : ∃ f fd, mg "less" = some (.ref f) ∧ Fun K "less" "less" s_p_less f fd
  f_p_cleared : ∃ f fd, mg "cleared" = some (.ref f) ∧ Fun K "cleared" "cleared" s_p_cleared f fd
  f_p_echelon : ∃ f fd, mg "echelon" = some (.ref f) ∧ Fun K "echelon" "echelon" s_p_echelon f fd
  f_p_rank_of : ∃ f fd, mg "rank_of" = some (.ref f) ∧ Fun K "rank_of" "rank_of" s_p_rank_of f fd
  f_p_powers_of : ∃ f fd, mg "powers_of" = some (.ref f) ∧ Fun K "powers_of" "powers_of" s_p_powers_of f fd
  f_p_triples_of : ∃ f fd, mg "triples_of" = some (.ref f) ∧ Fun K "triples_of" "triples_of" s_p_triples_of f fd
  f_p_letters_at : ∃ f fd, mg "letters_at" = some (.ref f) ∧ Fun K "letters_at" "letters_at" s_p_letters_at f fd
  f_p_condition_rows : ∃ f fd, mg "condition_rows" = some (.ref f) ∧ Fun K "condition_rows" "condition_rows" s_p_condition_rows f fd
  f_p_rank_at : ∃ f fd, mg "rank_at" = some (.ref f) ∧ Fun K "rank_at" "rank_at" s_p_rank_at f fd
  f_p_row_by : ∃ f fd, mg "row_by" = some (.ref f) ∧ Fun K "row_by" "row_by" s_p_row_by f fd
  f_p_row : ∃ f fd, mg "row" = some (.ref f) ∧ Fun K "row" "row" s_p_row f fd
  f_p_lengths_of : ∃ f fd, mg "lengths_of" = some (.ref f) ∧ Fun K "lengths_of" "lengths_of" s_p_lengths_of f fd
  f_p_is_count : ∃ f fd, mg "is_count" = some (.ref f) ∧ Fun K "is_count" "is_count" s_p_is_count f fd
  f_p_is_counts : ∃ f fd, mg "is_counts" = some (.ref f) ∧ Fun K "is_counts" "is_counts" s_p_is_counts f fd
  f_p_goes_on : ∃ f fd, mg "goes_on" = some (.ref f) ∧ Fun K "goes_on" "goes_on" s_p_goes_on f fd
  f_p_fault_of : ∃ f fd, mg "fault_of" = some (.ref f) ∧ Fun K "fault_of" "fault_of" s_p_fault_of f fd
  f_p_is_row : ∃ f fd, mg "is_row" = some (.ref f) ∧ Fun K "is_row" "is_row" s_p_is_row f fd
  f_p_want_row : ∃ f fd, mg "want_row" = some (.ref f) ∧ Fun K "want_row" "want_row" s_p_want_row f fd
  f_p_lengths : ∃ f fd, mg "lengths" = some (.ref f) ∧ Fun K "lengths" "lengths" s_p_lengths f fd
  f_l_can : ∃ f fd, mg "_law_can" = some (.ref f) ∧ Fun K "_law_can" "_law_can" s_l_can f fd
  f_p_fault : ∃ f fd, mg "fault" = some (.ref f) ∧ Fun K "fault" "fault" s_p_fault f fd
  f_p_want_many : ∃ f fd, mg "want_many" = some (.ref f) ∧ FunDd K "want_many" s_p_want_many [.non, .int 0] f fd
  f_p_row_of : ∃ f fd, mg "row_of" = some (.ref f) ∧ Fun K "row_of" "row_of" s_p_row_of f fd
  f_p_parts_of : ∃ f fd, mg "parts_of" = some (.ref f) ∧ Fun K "parts_of" "parts_of" s_p_parts_of f fd
  f_p_rows_of : ∃ f fd, mg "rows_of" = some (.ref f) ∧ Fun K "rows_of" "rows_of" s_p_rows_of f fd
  f_p_many_through : ∃ f fd, mg "many_through" = some (.ref f) ∧ Fun K "many_through" "many_through" s_p_many_through f fd
  f_p_top_of : ∃ f fd, mg "top_of" = some (.ref f) ∧ Fun K "top_of" "top_of" s_p_top_of f fd
  f_p_top : ∃ f fd, mg "top" = some (.ref f) ∧ Fun K "top" "top" s_p_top f fd
  f_p_end : ∃ f fd, mg "end" = some (.ref f) ∧ Fun K "end" "end" s_p_end f fd
  f_p_stair_points : ∃ f fd, mg "stair_points" = some (.ref f) ∧ Fun K "stair_points" "stair_points" s_p_stair_points f fd
  f_p_stair : ∃ f fd, mg "stair" = some (.ref f) ∧ Fun K "stair" "stair" s_p_stair f fd
  f_l_more : ∃ f fd, mg "_law_more" = some (.ref f) ∧ Fun K "_law_more" "_law_more" s_l_more f fd
  f_p_box_row : ∃ f fd, mg "box_row" = some (.ref f) ∧ Fun K "box_row" "box_row" s_p_box_row f fd
  f_p_box_of : ∃ f fd, mg "box_of" = some (.ref f) ∧ Fun K "box_of" "box_of" s_p_box_of f fd
  f_l_right : ∃ f fd, mg "_law_right" = some (.ref f) ∧ Fun K "_law_right" "_law_right" s_l_right f fd
  f_l_pot : ∃ f fd, mg "_law_pot" = some (.ref f) ∧ Fun K "_law_pot" "_law_pot" s_l_pot f fd
  f_law_ : ∃ f fd, mg "law" = some (.ref f) ∧ Fun K "law" "law" s_law_ f fd
  b_abs : mg "abs" = none
  b_all : mg "all" = none
  b_any : mg "any" = none
  b_bool : mg "bool" = none
  b_divmod : mg "divmod" = none
  b_enumerate : mg "enumerate" = none
  b_int : mg "int" = none
  b_isinstance : mg "isinstance" = none
  b_len : mg "len" = none
  b_list : mg "list" = none
  b_max : mg "max" = none
  b_min : mg "min" = none
  b_range : mg "range" = none
  b_sorted : mg "sorted" = none
  b_sum : mg "sum" = none
  b_tuple : mg "tuple" = none
  b_zip : mg "zip" = none
  c_MOST_END : ∃ u, mg "MOST_END" = some u ∧ RelV (.int 8) u
  c_MOST_PLACES : ∃ u, mg "MOST_PLACES" = some u ∧ RelV (.int 9) u
  c_MOST_POINTS : ∃ u, mg "MOST_POINTS" = some u ∧ RelV (.int 24) u
  c_MOST_SUM : ∃ u, mg "MOST_SUM" = some u ∧ RelV (.int 24) u
theorem top_mk {K : PySem.W.Frag} {h : Heap} {mg : Str → Option Value} (X : K.In h) (G : h.Ns mainGlobals mg)
    (oN : PySem.W.specialIn K (.builtin "object.__class__") "__get__" = some (some (.builtin "getset_descriptor.__get__"))) (oT : PySem.W.takesIn K (.builtin "object.__class__") = some true)
    {C_Spots : Addr} (aC_Spots : PySem.W.nsIn K mainGlobals "Spots" = some (some (.ref C_Spots)))
    (pg_Spots : PySem.W.plainGet K C_Spots Str.empty = true) (hd_Spots : PySem.W.hasDictIn K C_Spots = true) (po_Spots : PySem.W.plainOver K C_Spots = true) (sa_Spots : PySem.W.findIn K (.ref C_Spots) "__setattr__" = some (some (.builtin "object.__setattr__")))
    (mk_Spots : PySem.W.makesIn K C_Spots = true) (kc_Spots : PySem.W.keepIn K (.ref C_Spots) = true)
    (ha_Spots : PySem.W.findIn K (.ref C_Spots) "__class__" = some (some (.builtin "object.__class__"))) (hm_Spots : PySem.W.mroIn K C_Spots (.type "object") = some true)
    {C_Told : Addr} (aC_Told : PySem.W.nsIn K mainGlobals "Told" = some (some (.ref C_Told)))
    (pg_Told : PySem.W.plainGet K C_Told Str.empty = true) (hd_Told : PySem.W.hasDictIn K C_Told = true) (po_Told : PySem.W.plainOver K C_Told = true) (sa_Told : PySem.W.findIn K (.ref C_Told) "__setattr__" = some (some (.builtin "object.__setattr__")))
    (nf_Told_told_points : PySem.W.findIn K (.ref C_Told) "told_points" = some none)
    (nf_Spots_own_points : PySem.W.findIn K (.ref C_Spots) "own_points" = some none)
    (ic_Spots : PySem.W.isClsIn K C_Spots = true) (ty_Spots : PySem.W.typeIn K (.ref C_Spots) = some (.type "type"))
    (kt_Spots_NoneType : PySem.W.subIn K (.type "NoneType") (.ref C_Spots) = some false)
    (kt_Spots_bool : PySem.W.subIn K (.type "bool") (.ref C_Spots) = some false)
    (kt_Spots_int : PySem.W.subIn K (.type "int") (.ref C_Spots) = some false)
    (kt_Spots_str : PySem.W.subIn K (.type "str") (.ref C_Spots) = some false)
    (kt_Spots_list : PySem.W.subIn K (.type "list") (.ref C_Spots) = some false)
    (kt_Spots_tuple : PySem.W.subIn K (.type "tuple") (.ref C_Spots) = some false)
    (kt_Spots_dict : PySem.W.subIn K (.type "dict") (.ref C_Spots) = some false)
    (ic_Told : PySem.W.isClsIn K C_Told = true) (ty_Told : PySem.W.typeIn K (.ref C_Told) = some (.type "type"))
    (kt_Told_NoneType : PySem.W.subIn K (.type "NoneType") (.ref C_Told) = some false)
    (kt_Told_bool : PySem.W.subIn K (.type "bool") (.ref C_Told) = some false)
    (kt_Told_int : PySem.W.subIn K (.type "int") (.ref C_Told) = some false)
    (kt_Told_str : PySem.W.subIn K (.type "str") (.ref C_Told) = some false)
    (kt_Told_list : PySem.W.subIn K (.type "list") (.ref C_Told) = some false)
    (kt_Told_tuple : PySem.W.subIn K (.type "tuple") (.ref C_Told) = some false)
    (kt_Told_dict : PySem.W.subIn K (.type "dict") (.ref C_Told) = some false)
    (ne_Told_Spots : (C_Spots == C_Told) = false) (ks_Told_Spots : PySem.W.subIn K (.ref C_Spots) (.ref C_Told) = some false)
    (st_Spots_NoneType : PySem.W.subIn K (.ref C_Spots) (.type "NoneType") = some false)
    (st_Spots_bool : PySem.W.subIn K (.ref C_Spots) (.type "bool") = some false)
    (st_Spots_int : PySem.W.subIn K (.ref C_Spots) (.type "int") = some false)
    (st_Spots_str : PySem.W.subIn K (.ref C_Spots) (.type "str") = some false)
    (st_Spots_list : PySem.W.subIn K (.ref C_Spots) (.type "list") = some false)
    (st_Spots_tuple : PySem.W.subIn K (.ref C_Spots) (.type "tuple") = some false)
    (st_Spots_dict : PySem.W.subIn K (.ref C_Spots) (.type "dict") = some false)
    (hg_gcd : PySem.W.nsIn K mainGlobals "gcd" = some (some (.builtin "math.gcd")))
    {f0 : Addr} {od0 an0 : Option Addr} {sl0 : Array (Option Value)} {oc0 kV0 dc0 pm0 cd0 ct0 : Value}
    (a0 : PySem.W.nsIn K mainGlobals "_law_draw" = some (some (.ref f0)))
    (l0 : K.lookup f0 = some ⟨oc0, od0, .func (PySem.W.fnOf "_law_draw" "_law_draw" (defArgs s_l_draw) (defBody s_l_draw) (defScope s_l_draw) .none kV0 dc0 pm0 an0 cd0 ct0), sl0⟩) (c0 : PySem.W.codeIn K cd0 "_law_draw" = true) (k0 : PySem.W.keepIn K (.ref f0) = true)
    {f1 : Addr} {od1 an1 : Option Addr} {sl1 : Array (Option Value)} {oc1 kV1 dc1 pm1 cd1 ct1 : Value}
    (a1 : PySem.W.nsIn K mainGlobals "_law_gcd" = some (some (.ref f1)))
    (l1 : K.lookup f1 = some ⟨oc1, od1, .func (PySem.W.fnOf "_law_gcd" "_law_gcd" (defArgs s_l_gcd) (defBody s_l_gcd) (defScope s_l_gcd) .none kV1 dc1 pm1 an1 cd1 ct1), sl1⟩) (c1 : PySem.W.codeIn K cd1 "_law_gcd" = true) (k1 : PySem.W.keepIn K (.ref f1) = true)
    {f2 : Addr} {od2 an2 : Option Addr} {sl2 : Array (Option Value)} {oc2 kV2 dc2 pm2 cd2 ct2 : Value}
    (a2 : PySem.W.nsIn K mainGlobals "_law_told" = some (some (.ref f2)))
    (l2 : K.lookup f2 = some ⟨oc2, od2, .func (PySem.W.fnOf "_law_told" "_law_told" (defArgs s_l_told) (defBody s_l_told) (defScope s_l_told) .none kV2 dc2 pm2 an2 cd2 ct2), sl2⟩) (c2 : PySem.W.codeIn K cd2 "_law_told" = true) (k2 : PySem.W.keepIn K (.ref f2) = true)
    {f3 : Addr} {od3 an3 : Option Addr} {sl3 : Array (Option Value)} {oc3 kV3 dc3 pm3 cd3 ct3 : Value}
    (a3 : PySem.W.nsIn K mainGlobals "_law_points" = some (some (.ref f3)))
    (l3 : K.lookup f3 = some ⟨oc3, od3, .func (PySem.W.fnOf "_law_points" "_law_points" (defArgs s_l_points) (defBody s_l_points) (defScope s_l_points) .none kV3 dc3 pm3 an3 cd3 ct3), sl3⟩) (c3 : PySem.W.codeIn K cd3 "_law_points" = true) (k3 : PySem.W.keepIn K (.ref f3) = true)
    {f4 : Addr} {od4 an4 : Option Addr} {sl4 : Array (Option Value)} {oc4 kV4 dc4 pm4 cd4 ct4 : Value}
    (a4 : PySem.W.nsIn K mainGlobals "is_list" = some (some (.ref f4)))
    (l4 : K.lookup f4 = some ⟨oc4, od4, .func (PySem.W.fnOf "is_list" "is_list" (defArgs s_p_is_list) (defBody s_p_is_list) (defScope s_p_is_list) .none kV4 dc4 pm4 an4 cd4 ct4), sl4⟩) (c4 : PySem.W.codeIn K cd4 "is_list" = true) (k4 : PySem.W.keepIn K (.ref f4) = true)
    {f5 : Addr} {od5 an5 : Option Addr} {sl5 : Array (Option Value)} {oc5 kV5 dc5 pm5 cd5 ct5 : Value}
    (a5 : PySem.W.nsIn K mainGlobals "divisor_of" = some (some (.ref f5)))
    (l5 : K.lookup f5 = some ⟨oc5, od5, .func (PySem.W.fnOf "divisor_of" "divisor_of" (defArgs s_p_divisor_of) (defBody s_p_divisor_of) (defScope s_p_divisor_of) .none kV5 dc5 pm5 an5 cd5 ct5), sl5⟩) (c5 : PySem.W.codeIn K cd5 "divisor_of" = true) (k5 : PySem.W.keepIn K (.ref f5) = true)
    {f6 : Addr} {od6 an6 : Option Addr} {sl6 : Array (Option Value)} {oc6 kV6 dc6 pm6 cd6 ct6 : Value}
    (a6 : PySem.W.nsIn K mainGlobals "plain" = some (some (.ref f6)))
    (l6 : K.lookup f6 = some ⟨oc6, od6, .func (PySem.W.fnOf "plain" "plain" (defArgs s_p_plain) (defBody s_p_plain) (defScope s_p_plain) .none kV6 dc6 pm6 an6 cd6 ct6), sl6⟩) (c6 : PySem.W.codeIn K cd6 "plain" = true) (k6 : PySem.W.keepIn K (.ref f6) = true)
    {f7 : Addr} {od7 an7 : Option Addr} {sl7 : Array (Option Value)} {oc7 kV7 dc7 pm7 cd7 ct7 : Value}
    (a7 : PySem.W.nsIn K mainGlobals "lead_place" = some (some (.ref f7)))
    (l7 : K.lookup f7 = some ⟨oc7, od7, .func (PySem.W.fnOf "lead_place" "lead_place" (defArgs s_p_lead_place) (defBody s_p_lead_place) (defScope s_p_lead_place) .none kV7 dc7 pm7 an7 cd7 ct7), sl7⟩) (c7 : PySem.W.codeIn K cd7 "lead_place" = true) (k7 : PySem.W.keepIn K (.ref f7) = true)
    {f8 : Addr} {od8 an8 : Option Addr} {sl8 : Array (Option Value)} {oc8 kV8 dc8 pm8 cd8 ct8 : Value}
    (a8 : PySem.W.nsIn K mainGlobals "signed" = some (some (.ref f8)))
    (l8 : K.lookup f8 = some ⟨oc8, od8, .func (PySem.W.fnOf "signed" "signed" (defArgs s_p_signed) (defBody s_p_signed) (defScope s_p_signed) .none kV8 dc8 pm8 an8 cd8 ct8), sl8⟩) (c8 : PySem.W.codeIn K cd8 "signed" = true) (k8 : PySem.W.keepIn K (.ref f8) = true)
    {f9 : Addr} {od9 an9 : Option Addr} {sl9 : Array (Option Value)} {oc9 kV9 dc9 pm9 cd9 ct9 : Value}
    (a9 : PySem.W.nsIn K mainGlobals "told_of" = some (some (.ref f9)))
    (l9 : K.lookup f9 = some ⟨oc9, od9, .func (PySem.W.fnOf "told_of" "told_of" (defArgs s_p_told_of) (defBody s_p_told_of) (defScope s_p_told_of) .none kV9 dc9 pm9 an9 cd9 ct9), sl9⟩) (c9 : PySem.W.codeIn K cd9 "told_of" = true) (k9 : PySem.W.keepIn K (.ref f9) = true)
    {f10 : Addr} {od10 an10 : Option Addr} {sl10 : Array (Option Value)} {oc10 kV10 dc10 pm10 cd10 ct10 : Value}
    (a10 : PySem.W.nsIn K mainGlobals "is_integer" = some (some (.ref f10)))
    (l10 : K.lookup f10 = some ⟨oc10, od10, .func (PySem.W.fnOf "is_integer" "is_integer" (defArgs s_p_is_integer) (defBody s_p_is_integer) (defScope s_p_is_integer) .none kV10 dc10 pm10 an10 cd10 ct10), sl10⟩) (c10 : PySem.W.codeIn K cd10 "is_integer" = true) (k10 : PySem.W.keepIn K (.ref f10) = true)
    {f11 : Addr} {od11 an11 : Option Addr} {sl11 : Array (Option Value)} {oc11 kV11 dc11 pm11 cd11 ct11 : Value}
    (a11 : PySem.W.nsIn K mainGlobals "are_point" = some (some (.ref f11)))
    (l11 : K.lookup f11 = some ⟨oc11, od11, .func (PySem.W.fnOf "are_point" "are_point" (defArgs s_p_are_point) (defBody s_p_are_point) (defScope s_p_are_point) .none kV11 dc11 pm11 an11 cd11 ct11), sl11⟩) (c11 : PySem.W.codeIn K cd11 "are_point" = true) (k11 : PySem.W.keepIn K (.ref f11) = true)
    {f12 : Addr} {od12 an12 : Option Addr} {sl12 : Array (Option Value)} {oc12 kV12 dc12 pm12 cd12 ct12 : Value}
    (a12 : PySem.W.nsIn K mainGlobals "told_points" = some (some (.ref f12)))
    (l12 : K.lookup f12 = some ⟨oc12, od12, .func (PySem.W.fnOf "told_points" "told_points" (defArgs s_p_told_points) (defBody s_p_told_points) (defScope s_p_told_points) .none kV12 dc12 pm12 an12 cd12 ct12), sl12⟩) (c12 : PySem.W.codeIn K cd12 "told_points" = true) (k12 : PySem.W.keepIn K (.ref f12) = true)
    {f13 : Addr} {od13 an13 : Option Addr} {sl13 : Array (Option Value)} {oc13 kV13 dc13 pm13 cd13 ct13 : Value}
    (a13 : PySem.W.findIn K (.ref C_Spots) "__init__" = some (some (.ref f13))) (i13 : PySem.W.isFn K (.ref f13) = true)
    (l13 : K.lookup f13 = some ⟨oc13, od13, .func (PySem.W.fnOf "__init__" "Spots.__init__" (defArgs s_i_Spots) (defBody s_i_Spots) (defScope s_i_Spots) .none kV13 dc13 pm13 an13 cd13 ct13), sl13⟩) (c13 : PySem.W.codeIn K cd13 "Spots.__init__" = true) (k13 : PySem.W.keepIn K (.ref f13) = true)
    {f14 : Addr} {od14 an14 : Option Addr} {sl14 : Array (Option Value)} {oc14 kV14 dc14 pm14 cd14 ct14 : Value}
    (a14 : PySem.W.nsIn K mainGlobals "want_spots" = some (some (.ref f14)))
    (l14 : K.lookup f14 = some ⟨oc14, od14, .func (PySem.W.fnOf "want_spots" "want_spots" (defArgs s_p_want_spots) (defBody s_p_want_spots) (defScope s_p_want_spots) .none kV14 dc14 pm14 an14 cd14 ct14), sl14⟩) (c14 : PySem.W.codeIn K cd14 "want_spots" = true) (k14 : PySem.W.keepIn K (.ref f14) = true)
    {f15 : Addr} {od15 an15 : Option Addr} {sl15 : Array (Option Value)} {oc15 kV15 dc15 pm15 cd15 ct15 : Value}
    (a15 : PySem.W.nsIn K mainGlobals "less" = some (some (.ref f15)))
    (l15 : K.lookup f15 = some ⟨oc15, od15, .func (PySem.W.fnOf "less" "less" (defArgs s_p_less) (defBody s_p_less) (defScope s_p_less) .none kV15 dc15 pm15 an15 cd15 ct15), sl15⟩) (c15 : PySem.W.codeIn K cd15 "less" = true) (k15 : PySem.W.keepIn K (.ref f15) = true)
    {f16 : Addr} {od16 an16 : Option Addr} {sl16 : Array (Option Value)} {oc16 kV16 dc16 pm16 cd16 ct16 : Value}
    (a16 : PySem.W.nsIn K mainGlobals "cleared" = some (some (.ref f16)))
    (l16 : K.lookup f16 = some ⟨oc16, od16, .func (PySem.W.fnOf "cleared" "cleared" (defArgs s_p_cleared) (defBody s_p_cleared) (defScope s_p_cleared) .none kV16 dc16 pm16 an16 cd16 ct16), sl16⟩) (c16 : PySem.W.codeIn K cd16 "cleared" = true) (k16 : PySem.W.keepIn K (.ref f16) = true)
    {f17 : Addr} {od17 an17 : Option Addr} {sl17 : Array (Option Value)} {oc17 kV17 dc17 pm17 cd17 ct17 : Value}
    (a17 : PySem.W.nsIn K mainGlobals "echelon" = some (some (.ref f17)))
    (l17 : K.lookup f17 = some ⟨oc17, od17, .func (PySem.W.fnOf "echelon" "echelon" (defArgs s_p_echelon) (defBody s_p_echelon) (defScope s_p_echelon) .none kV17 dc17 pm17 an17 cd17 ct17), sl17⟩) (c17 : PySem.W.codeIn K cd17 "echelon" = true) (k17 : PySem.W.keepIn K (.ref f17) = true)
    {f18 : Addr} {od18 an18 : Option Addr} {sl18 : Array (Option Value)} {oc18 kV18 dc18 pm18 cd18 ct18 : Value}
    (a18 : PySem.W.nsIn K mainGlobals "rank_of" = some (some (.ref f18)))
    (l18 : K.lookup f18 = some ⟨oc18, od18, .func (PySem.W.fnOf "rank_of" "rank_of" (defArgs s_p_rank_of) (defBody s_p_rank_of) (defScope s_p_rank_of) .none kV18 dc18 pm18 an18 cd18 ct18), sl18⟩) (c18 : PySem.W.codeIn K cd18 "rank_of" = true) (k18 : PySem.W.keepIn K (.ref f18) = true)
    {f19 : Addr} {od19 an19 : Option Addr} {sl19 : Array (Option Value)} {oc19 kV19 dc19 pm19 cd19 ct19 : Value}
    (a19 : PySem.W.nsIn K mainGlobals "powers_of" = some (some (.ref f19)))
    (l19 : K.lookup f19 = some ⟨oc19, od19, .func (PySem.W.fnOf "powers_of" "powers_of" (defArgs s_p_powers_of) (defBody s_p_powers_of) (defScope s_p_powers_of) .none kV19 dc19 pm19 an19 cd19 ct19), sl19⟩) (c19 : PySem.W.codeIn K cd19 "powers_of" = true) (k19 : PySem.W.keepIn K (.ref f19) = true)
    {f20 : Addr} {od20 an20 : Option Addr} {sl20 : Array (Option Value)} {oc20 kV20 dc20 pm20 cd20 ct20 : Value}
    (a20 : PySem.W.nsIn K mainGlobals "triples_of" = some (some (.ref f20)))
    (l20 : K.lookup f20 = some ⟨oc20, od20, .func (PySem.W.fnOf "triples_of" "triples_of" (defArgs s_p_triples_of) (defBody s_p_triples_of) (defScope s_p_triples_of) .none kV20 dc20 pm20 an20 cd20 ct20), sl20⟩) (c20 : PySem.W.codeIn K cd20 "triples_of" = true) (k20 : PySem.W.keepIn K (.ref f20) = true)
    {f21 : Addr} {od21 an21 : Option Addr} {sl21 : Array (Option Value)} {oc21 kV21 dc21 pm21 cd21 ct21 : Value}
    (a21 : PySem.W.nsIn K mainGlobals "letters_at" = some (some (.ref f21)))
    (l21 : K.lookup f21 = some ⟨oc21, od21, .func (PySem.W.fnOf "letters_at" "letters_at" (defArgs s_p_letters_at) (defBody s_p_letters_at) (defScope s_p_letters_at) .none kV21 dc21 pm21 an21 cd21 ct21), sl21⟩) (c21 : PySem.W.codeIn K cd21 "letters_at" = true) (k21 : PySem.W.keepIn K (.ref f21) = true)
    {f22 : Addr} {od22 an22 : Option Addr} {sl22 : Array (Option Value)} {oc22 kV22 dc22 pm22 cd22 ct22 : Value}
    (a22 : PySem.W.nsIn K mainGlobals "condition_rows" = some (some (.ref f22)))
    (l22 : K.lookup f22 = some ⟨oc22, od22, .func (PySem.W.fnOf "condition_rows" "condition_rows" (defArgs s_p_condition_rows) (defBody s_p_condition_rows) (defScope s_p_condition_rows) .none kV22 dc22 pm22 an22 cd22 ct22), sl22⟩) (c22 : PySem.W.codeIn K cd22 "condition_rows" = true) (k22 : PySem.W.keepIn K (.ref f22) = true)
    {f23 : Addr} {od23 an23 : Option Addr} {sl23 : Array (Option Value)} {oc23 kV23 dc23 pm23 cd23 ct23 : Value}
    (a23 : PySem.W.nsIn K mainGlobals "rank_at" = some (some (.ref f23)))
    (l23 : K.lookup f23 = some ⟨oc23, od23, .func (PySem.W.fnOf "rank_at" "rank_at" (defArgs s_p_rank_at) (defBody s_p_rank_at) (defScope s_p_rank_at) .none kV23 dc23 pm23 an23 cd23 ct23), sl23⟩) (c23 : PySem.W.codeIn K cd23 "rank_at" = true) (k23 : PySem.W.keepIn K (.ref f23) = true)
    {f24 : Addr} {od24 an24 : Option Addr} {sl24 : Array (Option Value)} {oc24 kV24 dc24 pm24 cd24 ct24 : Value}
    (a24 : PySem.W.nsIn K mainGlobals "row_by" = some (some (.ref f24)))
    (l24 : K.lookup f24 = some ⟨oc24, od24, .func (PySem.W.fnOf "row_by" "row_by" (defArgs s_p_row_by) (defBody s_p_row_by) (defScope s_p_row_by) .none kV24 dc24 pm24 an24 cd24 ct24), sl24⟩) (c24 : PySem.W.codeIn K cd24 "row_by" = true) (k24 : PySem.W.keepIn K (.ref f24) = true)
    {f25 : Addr} {od25 an25 : Option Addr} {sl25 : Array (Option Value)} {oc25 kV25 dc25 pm25 cd25 ct25 : Value}
    (a25 : PySem.W.nsIn K mainGlobals "row" = some (some (.ref f25)))
    (l25 : K.lookup f25 = some ⟨oc25, od25, .func (PySem.W.fnOf "row" "row" (defArgs s_p_row) (defBody s_p_row) (defScope s_p_row) .none kV25 dc25 pm25 an25 cd25 ct25), sl25⟩) (c25 : PySem.W.codeIn K cd25 "row" = true) (k25 : PySem.W.keepIn K (.ref f25) = true)
    {f26 : Addr} {od26 an26 : Option Addr} {sl26 : Array (Option Value)} {oc26 kV26 dc26 pm26 cd26 ct26 : Value}
    (a26 : PySem.W.nsIn K mainGlobals "lengths_of" = some (some (.ref f26)))
    (l26 : K.lookup f26 = some ⟨oc26, od26, .func (PySem.W.fnOf "lengths_of" "lengths_of" (defArgs s_p_lengths_of) (defBody s_p_lengths_of) (defScope s_p_lengths_of) .none kV26 dc26 pm26 an26 cd26 ct26), sl26⟩) (c26 : PySem.W.codeIn K cd26 "lengths_of" = true) (k26 : PySem.W.keepIn K (.ref f26) = true)
    {f27 : Addr} {od27 an27 : Option Addr} {sl27 : Array (Option Value)} {oc27 kV27 dc27 pm27 cd27 ct27 : Value}
    (a27 : PySem.W.nsIn K mainGlobals "is_count" = some (some (.ref f27)))
    (l27 : K.lookup f27 = some ⟨oc27, od27, .func (PySem.W.fnOf "is_count" "is_count" (defArgs s_p_is_count) (defBody s_p_is_count) (defScope s_p_is_count) .none kV27 dc27 pm27 an27 cd27 ct27), sl27⟩) (c27 : PySem.W.codeIn K cd27 "is_count" = true) (k27 : PySem.W.keepIn K (.ref f27) = true)
    {f28 : Addr} {od28 an28 : Option Addr} {sl28 : Array (Option Value)} {oc28 kV28 dc28 pm28 cd28 ct28 : Value}
    (a28 : PySem.W.nsIn K mainGlobals "is_counts" = some (some (.ref f28)))
    (l28 : K.lookup f28 = some ⟨oc28, od28, .func (PySem.W.fnOf "is_counts" "is_counts" (defArgs s_p_is_counts) (defBody s_p_is_counts) (defScope s_p_is_counts) .none kV28 dc28 pm28 an28 cd28 ct28), sl28⟩) (c28 : PySem.W.codeIn K cd28 "is_counts" = true) (k28 : PySem.W.keepIn K (.ref f28) = true)
    {f29 : Addr} {od29 an29 : Option Addr} {sl29 : Array (Option Value)} {oc29 kV29 dc29 pm29 cd29 ct29 : Value}
    (a29 : PySem.W.nsIn K mainGlobals "goes_on" = some (some (.ref f29)))
    (l29 : K.lookup f29 = some ⟨oc29, od29, .func (PySem.W.fnOf "goes_on" "goes_on" (defArgs s_p_goes_on) (defBody s_p_goes_on) (defScope s_p_goes_on) .none kV29 dc29 pm29 an29 cd29 ct29), sl29⟩) (c29 : PySem.W.codeIn K cd29 "goes_on" = true) (k29 : PySem.W.keepIn K (.ref f29) = true)
    {f30 : Addr} {od30 an30 : Option Addr} {sl30 : Array (Option Value)} {oc30 kV30 dc30 pm30 cd30 ct30 : Value}
    (a30 : PySem.W.nsIn K mainGlobals "fault_of" = some (some (.ref f30)))
    (l30 : K.lookup f30 = some ⟨oc30, od30, .func (PySem.W.fnOf "fault_of" "fault_of" (defArgs s_p_fault_of) (defBody s_p_fault_of) (defScope s_p_fault_of) .none kV30 dc30 pm30 an30 cd30 ct30), sl30⟩) (c30 : PySem.W.codeIn K cd30 "fault_of" = true) (k30 : PySem.W.keepIn K (.ref f30) = true)
    {f31 : Addr} {od31 an31 : Option Addr} {sl31 : Array (Option Value)} {oc31 kV31 dc31 pm31 cd31 ct31 : Value}
    (a31 : PySem.W.nsIn K mainGlobals "is_row" = some (some (.ref f31)))
    (l31 : K.lookup f31 = some ⟨oc31, od31, .func (PySem.W.fnOf "is_row" "is_row" (defArgs s_p_is_row) (defBody s_p_is_row) (defScope s_p_is_row) .none kV31 dc31 pm31 an31 cd31 ct31), sl31⟩) (c31 : PySem.W.codeIn K cd31 "is_row" = true) (k31 : PySem.W.keepIn K (.ref f31) = true)
    {f32 : Addr} {od32 an32 : Option Addr} {sl32 : Array (Option Value)} {oc32 kV32 dc32 pm32 cd32 ct32 : Value}
    (a32 : PySem.W.nsIn K mainGlobals "want_row" = some (some (.ref f32)))
    (l32 : K.lookup f32 = some ⟨oc32, od32, .func (PySem.W.fnOf "want_row" "want_row" (defArgs s_p_want_row) (defBody s_p_want_row) (defScope s_p_want_row) .none kV32 dc32 pm32 an32 cd32 ct32), sl32⟩) (c32 : PySem.W.codeIn K cd32 "want_row" = true) (k32 : PySem.W.keepIn K (.ref f32) = true)
    {f33 : Addr} {od33 an33 : Option Addr} {sl33 : Array (Option Value)} {oc33 kV33 dc33 pm33 cd33 ct33 : Value}
    (a33 : PySem.W.nsIn K mainGlobals "lengths" = some (some (.ref f33)))
    (l33 : K.lookup f33 = some ⟨oc33, od33, .func (PySem.W.fnOf "lengths" "lengths" (defArgs s_p_lengths) (defBody s_p_lengths) (defScope s_p_lengths) .none kV33 dc33 pm33 an33 cd33 ct33), sl33⟩) (c33 : PySem.W.codeIn K cd33 "lengths" = true) (k33 : PySem.W.keepIn K (.ref f33) = true)
    {f34 : Addr} {od34 an34 : Option Addr} {sl34 : Array (Option Value)} {oc34 kV34 dc34 pm34 cd34 ct34 : Value}
    (a34 : PySem.W.nsIn K mainGlobals "_law_can" = some (some (.ref f34)))
    (l34 : K.lookup f34 = some ⟨oc34, od34, .func (PySem.W.fnOf "_law_can" "_law_can" (defArgs s_l_can) (defBody s_l_can) (defScope s_l_can) .none kV34 dc34 pm34 an34 cd34 ct34), sl34⟩) (c34 : PySem.W.codeIn K cd34 "_law_can" = true) (k34 : PySem.W.keepIn K (.ref f34) = true)
    {f35 : Addr} {od35 an35 : Option Addr} {sl35 : Array (Option Value)} {oc35 kV35 dc35 pm35 cd35 ct35 : Value}
    (a35 : PySem.W.nsIn K mainGlobals "fault" = some (some (.ref f35)))
    (l35 : K.lookup f35 = some ⟨oc35, od35, .func (PySem.W.fnOf "fault" "fault" (defArgs s_p_fault) (defBody s_p_fault) (defScope s_p_fault) .none kV35 dc35 pm35 an35 cd35 ct35), sl35⟩) (c35 : PySem.W.codeIn K cd35 "fault" = true) (k35 : PySem.W.keepIn K (.ref f35) = true)
    {f36 : Addr} {od36 an36 : Option Addr} {sl36 : Array (Option Value)} {oc36 kV36 dc36 pm36 cd36 ct36 : Value}
    (a36 : PySem.W.nsIn K mainGlobals "want_many" = some (some (.ref f36)))
    {T36 : Addr} {ot36 : Value} {odt36 : Option Addr} {nt36 : Nat} {slt36 : Array (Option Value)} {tk36_1 : Tok}(l36 : K.lookup f36 = some ⟨oc36, od36, .func (PySem.W.fnOf "want_many" "want_many" (defArgs s_p_want_many) (defBody s_p_want_many) (defScope s_p_want_many) (.ref T36) kV36 dc36 pm36 an36 cd36 ct36), sl36⟩) (c36 : PySem.W.codeIn K cd36 "want_many" = true) (k36 : PySem.W.keepIn K (.ref f36) = true)
    (t36 : K.lookup T36 = some ⟨ot36, odt36, .seq #[.none, .int 0 tk36_1] nt36, slt36⟩)
    {f37 : Addr} {od37 an37 : Option Addr} {sl37 : Array (Option Value)} {oc37 kV37 dc37 pm37 cd37 ct37 : Value}
    (a37 : PySem.W.nsIn K mainGlobals "row_of" = some (some (.ref f37)))
    (l37 : K.lookup f37 = some ⟨oc37, od37, .func (PySem.W.fnOf "row_of" "row_of" (defArgs s_p_row_of) (defBody s_p_row_of) (defScope s_p_row_of) .none kV37 dc37 pm37 an37 cd37 ct37), sl37⟩) (c37 : PySem.W.codeIn K cd37 "row_of" = true) (k37 : PySem.W.keepIn K (.ref f37) = true)
    {f38 : Addr} {od38 an38 : Option Addr} {sl38 : Array (Option Value)} {oc38 kV38 dc38 pm38 cd38 ct38 : Value}
    (a38 : PySem.W.nsIn K mainGlobals "parts_of" = some (some (.ref f38)))
    (l38 : K.lookup f38 = some ⟨oc38, od38, .func (PySem.W.fnOf "parts_of" "parts_of" (defArgs s_p_parts_of) (defBody s_p_parts_of) (defScope s_p_parts_of) .none kV38 dc38 pm38 an38 cd38 ct38), sl38⟩) (c38 : PySem.W.codeIn K cd38 "parts_of" = true) (k38 : PySem.W.keepIn K (.ref f38) = true)
    {f39 : Addr} {od39 an39 : Option Addr} {sl39 : Array (Option Value)} {oc39 kV39 dc39 pm39 cd39 ct39 : Value}
    (a39 : PySem.W.nsIn K mainGlobals "rows_of" = some (some (.ref f39)))
    (l39 : K.lookup f39 = some ⟨oc39, od39, .func (PySem.W.fnOf "rows_of" "rows_of" (defArgs s_p_rows_of) (defBody s_p_rows_of) (defScope s_p_rows_of) .none kV39 dc39 pm39 an39 cd39 ct39), sl39⟩) (c39 : PySem.W.codeIn K cd39 "rows_of" = true) (k39 : PySem.W.keepIn K (.ref f39) = true)
    {f40 : Addr} {od40 an40 : Option Addr} {sl40 : Array (Option Value)} {oc40 kV40 dc40 pm40 cd40 ct40 : Value}
    (a40 : PySem.W.nsIn K mainGlobals "many_through" = some (some (.ref f40)))
    (l40 : K.lookup f40 = some ⟨oc40, od40, .func (PySem.W.fnOf "many_through" "many_through" (defArgs s_p_many_through) (defBody s_p_many_through) (defScope s_p_many_through) .none kV40 dc40 pm40 an40 cd40 ct40), sl40⟩) (c40 : PySem.W.codeIn K cd40 "many_through" = true) (k40 : PySem.W.keepIn K (.ref f40) = true)
    {f41 : Addr} {od41 an41 : Option Addr} {sl41 : Array (Option Value)} {oc41 kV41 dc41 pm41 cd41 ct41 : Value}
    (a41 : PySem.W.nsIn K mainGlobals "top_of" = some (some (.ref f41)))
    (l41 : K.lookup f41 = some ⟨oc41, od41, .func (PySem.W.fnOf "top_of" "top_of" (defArgs s_p_top_of) (defBody s_p_top_of) (defScope s_p_top_of) .none kV41 dc41 pm41 an41 cd41 ct41), sl41⟩) (c41 : PySem.W.codeIn K cd41 "top_of" = true) (k41 : PySem.W.keepIn K (.ref f41) = true)
    {f42 : Addr} {od42 an42 : Option Addr} {sl42 : Array (Option Value)} {oc42 kV42 dc42 pm42 cd42 ct42 : Value}
    (a42 : PySem.W.nsIn K mainGlobals "top" = some (some (.ref f42)))
    (l42 : K.lookup f42 = some ⟨oc42, od42, .func (PySem.W.fnOf "top" "top" (defArgs s_p_top) (defBody s_p_top) (defScope s_p_top) .none kV42 dc42 pm42 an42 cd42 ct42), sl42⟩) (c42 : PySem.W.codeIn K cd42 "top" = true) (k42 : PySem.W.keepIn K (.ref f42) = true)
    {f43 : Addr} {od43 an43 : Option Addr} {sl43 : Array (Option Value)} {oc43 kV43 dc43 pm43 cd43 ct43 : Value}
    (a43 : PySem.W.nsIn K mainGlobals "end" = some (some (.ref f43)))
    (l43 : K.lookup f43 = some ⟨oc43, od43, .func (PySem.W.fnOf "end" "end" (defArgs s_p_end) (defBody s_p_end) (defScope s_p_end) .none kV43 dc43 pm43 an43 cd43 ct43), sl43⟩) (c43 : PySem.W.codeIn K cd43 "end" = true) (k43 : PySem.W.keepIn K (.ref f43) = true)
    {f44 : Addr} {od44 an44 : Option Addr} {sl44 : Array (Option Value)} {oc44 kV44 dc44 pm44 cd44 ct44 : Value}
    (a44 : PySem.W.nsIn K mainGlobals "stair_points" = some (some (.ref f44)))
    (l44 : K.lookup f44 = some ⟨oc44, od44, .func (PySem.W.fnOf "stair_points" "stair_points" (defArgs s_p_stair_points) (defBody s_p_stair_points) (defScope s_p_stair_points) .none kV44 dc44 pm44 an44 cd44 ct44), sl44⟩) (c44 : PySem.W.codeIn K cd44 "stair_points" = true) (k44 : PySem.W.keepIn K (.ref f44) = true)
    {f45 : Addr} {od45 an45 : Option Addr} {sl45 : Array (Option Value)} {oc45 kV45 dc45 pm45 cd45 ct45 : Value}
    (a45 : PySem.W.nsIn K mainGlobals "stair" = some (some (.ref f45)))
    (l45 : K.lookup f45 = some ⟨oc45, od45, .func (PySem.W.fnOf "stair" "stair" (defArgs s_p_stair) (defBody s_p_stair) (defScope s_p_stair) .none kV45 dc45 pm45 an45 cd45 ct45), sl45⟩) (c45 : PySem.W.codeIn K cd45 "stair" = true) (k45 : PySem.W.keepIn K (.ref f45) = true)
    {f46 : Addr} {od46 an46 : Option Addr} {sl46 : Array (Option Value)} {oc46 kV46 dc46 pm46 cd46 ct46 : Value}
    (a46 : PySem.W.nsIn K mainGlobals "_law_more" = some (some (.ref f46)))
    (l46 : K.lookup f46 = some ⟨oc46, od46, .func (PySem.W.fnOf "_law_more" "_law_more" (defArgs s_l_more) (defBody s_l_more) (defScope s_l_more) .none kV46 dc46 pm46 an46 cd46 ct46), sl46⟩) (c46 : PySem.W.codeIn K cd46 "_law_more" = true) (k46 : PySem.W.keepIn K (.ref f46) = true)
    {f47 : Addr} {od47 an47 : Option Addr} {sl47 : Array (Option Value)} {oc47 kV47 dc47 pm47 cd47 ct47 : Value}
    (a47 : PySem.W.nsIn K mainGlobals "box_row" = some (some (.ref f47)))
    (l47 : K.lookup f47 = some ⟨oc47, od47, .func (PySem.W.fnOf "box_row" "box_row" (defArgs s_p_box_row) (defBody s_p_box_row) (defScope s_p_box_row) .none kV47 dc47 pm47 an47 cd47 ct47), sl47⟩) (c47 : PySem.W.codeIn K cd47 "box_row" = true) (k47 : PySem.W.keepIn K (.ref f47) = true)
    {f48 : Addr} {od48 an48 : Option Addr} {sl48 : Array (Option Value)} {oc48 kV48 dc48 pm48 cd48 ct48 : Value}
    (a48 : PySem.W.nsIn K mainGlobals "box_of" = some (some (.ref f48)))
    (l48 : K.lookup f48 = some ⟨oc48, od48, .func (PySem.W.fnOf "box_of" "box_of" (defArgs s_p_box_of) (defBody s_p_box_of) (defScope s_p_box_of) .none kV48 dc48 pm48 an48 cd48 ct48), sl48⟩) (c48 : PySem.W.codeIn K cd48 "box_of" = true) (k48 : PySem.W.keepIn K (.ref f48) = true)
    {f49 : Addr} {od49 an49 : Option Addr} {sl49 : Array (Option Value)} {oc49 kV49 dc49 pm49 cd49 ct49 : Value}
    (a49 : PySem.W.nsIn K mainGlobals "_law_right" = some (some (.ref f49)))
    (l49 : K.lookup f49 = some ⟨oc49, od49, .func (PySem.W.fnOf "_law_right" "_law_right" (defArgs s_l_right) (defBody s_l_right) (defScope s_l_right) .none kV49 dc49 pm49 an49 cd49 ct49), sl49⟩) (c49 : PySem.W.codeIn K cd49 "_law_right" = true) (k49 : PySem.W.keepIn K (.ref f49) = true)
    {f50 : Addr} {od50 an50 : Option Addr} {sl50 : Array (Option Value)} {oc50 kV50 dc50 pm50 cd50 ct50 : Value}
    (a50 : PySem.W.nsIn K mainGlobals "_law_pot" = some (some (.ref f50)))
    (l50 : K.lookup f50 = some ⟨oc50, od50, .func (PySem.W.fnOf "_law_pot" "_law_pot" (defArgs s_l_pot) (defBody s_l_pot) (defScope s_l_pot) .none kV50 dc50 pm50 an50 cd50 ct50), sl50⟩) (c50 : PySem.W.codeIn K cd50 "_law_pot" = true) (k50 : PySem.W.keepIn K (.ref f50) = true)
    {f51 : Addr} {od51 an51 : Option Addr} {sl51 : Array (Option Value)} {oc51 kV51 dc51 pm51 cd51 ct51 : Value}
    (a51 : PySem.W.nsIn K mainGlobals "law" = some (some (.ref f51)))
    (l51 : K.lookup f51 = some ⟨oc51, od51, .func (PySem.W.fnOf "law" "law" (defArgs s_law_) (defBody s_law_) (defScope s_law_) .none kV51 dc51 pm51 an51 cd51 ct51), sl51⟩) (c51 : PySem.W.codeIn K cd51 "law" = true) (k51 : PySem.W.keepIn K (.ref f51) = true)
    (hb_abs : PySem.W.nsIn K mainGlobals "abs" = some none)
    (hb_all : PySem.W.nsIn K mainGlobals "all" = some none)
    (hb_any : PySem.W.nsIn K mainGlobals "any" = some none)
    (hb_bool : PySem.W.nsIn K mainGlobals "bool" = some none)
    (hb_divmod : PySem.W.nsIn K mainGlobals "divmod" = some none)
    (hb_enumerate : PySem.W.nsIn K mainGlobals "enumerate" = some none)
    (hb_int : PySem.W.nsIn K mainGlobals "int" = some none)
    (hb_isinstance : PySem.W.nsIn K mainGlobals "isinstance" = some none)
    (hb_len : PySem.W.nsIn K mainGlobals "len" = some none)
    (hb_list : PySem.W.nsIn K mainGlobals "list" = some none)
    (hb_max : PySem.W.nsIn K mainGlobals "max" = some none)
    (hb_min : PySem.W.nsIn K mainGlobals "min" = some none)
    (hb_range : PySem.W.nsIn K mainGlobals "range" = some none)
    (hb_sorted : PySem.W.nsIn K mainGlobals "sorted" = some none)
    (hb_sum : PySem.W.nsIn K mainGlobals "sum" = some none)
    (hb_tuple : PySem.W.nsIn K mainGlobals "tuple" = some none)
    (hb_zip : PySem.W.nsIn K mainGlobals "zip" = some none)
    {tk_MOST_END : Tok} (hc_MOST_END : PySem.W.nsIn K mainGlobals "MOST_END" = some (some (.int 8 tk_MOST_END)))
    {tk_MOST_PLACES : Tok} (hc_MOST_PLACES : PySem.W.nsIn K mainGlobals "MOST_PLACES" = some (some (.int 9 tk_MOST_PLACES)))
    {tk_MOST_POINTS : Tok} (hc_MOST_POINTS : PySem.W.nsIn K mainGlobals "MOST_POINTS" = some (some (.int 24 tk_MOST_POINTS)))
    {tk_MOST_SUM : Tok} (hc_MOST_SUM : PySem.W.nsIn K mainGlobals "MOST_SUM" = some (some (.int 24 tk_MOST_SUM))) : Top K mg :=
  { cl_Told := ⟨C_Told, PySem.W.mg_of X G aC_Told, ⟨pg_Told, hd_Told, po_Told, sa_Told⟩, (fa_cons nf_Told_told_points fa_nil)⟩,
    cl_Spots := ⟨C_Spots, PySem.W.mg_of X G aC_Spots, ⟨pg_Spots, hd_Spots, po_Spots, sa_Spots⟩, (fa_cons nf_Spots_own_points fa_nil)⟩,
    ci_Spots := ⟨C_Spots, PySem.W.mg_of X G aC_Spots, (fa_cons (kit_ty ic_Spots ty_Spots kt_Spots_NoneType) (fa_cons (kit_ty ic_Spots ty_Spots kt_Spots_bool) (fa_cons (kit_ty ic_Spots ty_Spots kt_Spots_int) (fa_cons (kit_ty ic_Spots ty_Spots kt_Spots_str) (fa_cons (kit_ty ic_Spots ty_Spots kt_Spots_list) (fa_cons (kit_ty ic_Spots ty_Spots kt_Spots_tuple) (fa_cons (kit_ty ic_Spots ty_Spots kt_Spots_dict) fa_nil))))))), (fa_cons ⟨C_Spots, PySem.W.mg_of X G aC_Spots, ⟨⟨pg_Spots, hd_Spots, po_Spots, sa_Spots⟩, ha_Spots, oN, oT, hm_Spots, kit_self⟩, kit_self⟩ fa_nil)⟩,
    ci_Told := ⟨C_Told, PySem.W.mg_of X G aC_Told, (fa_cons (kit_ty ic_Told ty_Told kt_Told_NoneType) (fa_cons (kit_ty ic_Told ty_Told kt_Told_bool) (fa_cons (kit_ty ic_Told ty_Told kt_Told_int) (fa_cons (kit_ty ic_Told ty_Told kt_Told_str) (fa_cons (kit_ty ic_Told ty_Told kt_Told_list) (fa_cons (kit_ty ic_Told ty_Told kt_Told_tuple) (fa_cons (kit_ty ic_Told ty_Told kt_Told_dict) fa_nil))))))), (fa_cons ⟨C_Spots, PySem.W.mg_of X G aC_Spots, ⟨⟨pg_Spots, hd_Spots, po_Spots, sa_Spots⟩, ha_Spots, oN, oT, hm_Spots, kit_self⟩, (kit_ref ne_Told_Spots ic_Told ty_Told ks_Told_Spots)⟩ fa_nil)⟩,
    cT := ⟨(fa_cons ⟨C_Spots, PySem.W.mg_of X G aC_Spots, ⟨⟨pg_Spots, hd_Spots, po_Spots, sa_Spots⟩, ha_Spots, oN, oT, hm_Spots, kit_self⟩, (fa_cons (kit_own (by decide +kernel) st_Spots_NoneType) (fa_cons (kit_own (by decide +kernel) st_Spots_bool) (fa_cons (kit_own (by decide +kernel) st_Spots_int) (fa_cons (kit_own (by decide +kernel) st_Spots_str) (fa_cons (kit_own (by decide +kernel) st_Spots_list) (fa_cons (kit_own (by decide +kernel) st_Spots_tuple) (fa_cons (kit_own (by decide +kernel) st_Spots_dict) fa_nil)))))))⟩ fa_nil)⟩,
    g_gcd := PySem.W.mg_of X G hg_gcd,
    f_l_draw := ⟨f0, _, PySem.W.mg_of X G a0, fun_mk (st := s_l_draw) l0 c0 k0⟩,
    f_l_gcd := ⟨f1, _, PySem.W.mg_of X G a1, fun_mk (st := s_l_gcd) l1 c1 k1⟩,
    f_l_told := ⟨f2, _, PySem.W.mg_of X G a2, fun_mk (st := s_l_told) l2 c2 k2⟩,
    f_l_points := ⟨f3, _, PySem.W.mg_of X G a3, fun_mk (st := s_l_points) l3 c3 k3⟩,
    f_p_is_list := ⟨f4, _, PySem.W.mg_of X G a4, fun_mk (st := s_p_is_list) l4 c4 k4⟩,
    f_p_divisor_of := ⟨f5, _, PySem.W.mg_of X G a5, fun_mk (st := s_p_divisor_of) l5 c5 k5⟩,
    f_p_plain := ⟨f6, _, PySem.W.mg_of X G a6, fun_mk (st := s_p_plain) l6 c6 k6⟩,
    f_p_lead_place := ⟨f7, _, PySem.W.mg_of X G a7, fun_mk (st := s_p_lead_place) l7 c7 k7⟩,
    f_p_signed := ⟨f8, _, PySem.W.mg_of X G a8, fun_mk (st := s_p_signed) l8 c8 k8⟩,
    f_p_told_of := ⟨f9, _, PySem.W.mg_of X G a9, fun_mk (st := s_p_told_of) l9 c9 k9⟩,
    f_p_is_integer := ⟨f10, _, PySem.W.mg_of X G a10, fun_mk (st := s_p_is_integer) l10 c10 k10⟩,
    f_p_are_point := ⟨f11, _, PySem.W.mg_of X G a11, fun_mk (st := s_p_are_point) l11 c11 k11⟩,
    f_p_told_points := ⟨f12, _, PySem.W.mg_of X G a12, fun_mk (st := s_p_told_points) l12 c12 k12⟩,
    f_i_Spots := ⟨C_Spots, f13, _, PySem.W.mg_of X G aC_Spots, ⟨mk_Spots, a13, i13, kc_Spots⟩, fun_mk (st := s_i_Spots) l13 c13 k13⟩,
    f_p_want_spots := ⟨f14, _, PySem.W.mg_of X G a14, fun_mk (st := s_p_want_spots) l14 c14 k14⟩,
    f_p_less := ⟨f15, _, PySem.W.mg_of X G a15, fun_mk (st := s_p_less) l15 c15 k15⟩,
    f_p_cleared := ⟨f16, _, PySem.W.mg_of X G a16, fun_mk (st := s_p_cleared) l16 c16 k16⟩,
    f_p_echelon := ⟨f17, _, PySem.W.mg_of X G a17, fun_mk (st := s_p_echelon) l17 c17 k17⟩,
    f_p_rank_of := ⟨f18, _, PySem.W.mg_of X G a18, fun_mk (st := s_p_rank_of) l18 c18 k18⟩,
    f_p_powers_of := ⟨f19, _, PySem.W.mg_of X G a19, fun_mk (st := s_p_powers_of) l19 c19 k19⟩,
    f_p_triples_of := ⟨f20, _, PySem.W.mg_of X G a20, fun_mk (st := s_p_triples_of) l20 c20 k20⟩,
    f_p_letters_at := ⟨f21, _, PySem.W.mg_of X G a21, fun_mk (st := s_p_letters_at) l21 c21 k21⟩,
    f_p_condition_rows := ⟨f22, _, PySem.W.mg_of X G a22, fun_mk (st := s_p_condition_rows) l22 c22 k22⟩,
    f_p_rank_at := ⟨f23, _, PySem.W.mg_of X G a23, fun_mk (st := s_p_rank_at) l23 c23 k23⟩,
    f_p_row_by := ⟨f24, _, PySem.W.mg_of X G a24, fun_mk (st := s_p_row_by) l24 c24 k24⟩,
    f_p_row := ⟨f25, _, PySem.W.mg_of X G a25, fun_mk (st := s_p_row) l25 c25 k25⟩,
    f_p_lengths_of := ⟨f26, _, PySem.W.mg_of X G a26, fun_mk (st := s_p_lengths_of) l26 c26 k26⟩,
    f_p_is_count := ⟨f27, _, PySem.W.mg_of X G a27, fun_mk (st := s_p_is_count) l27 c27 k27⟩,
    f_p_is_counts := ⟨f28, _, PySem.W.mg_of X G a28, fun_mk (st := s_p_is_counts) l28 c28 k28⟩,
    f_p_goes_on := ⟨f29, _, PySem.W.mg_of X G a29, fun_mk (st := s_p_goes_on) l29 c29 k29⟩,
    f_p_fault_of := ⟨f30, _, PySem.W.mg_of X G a30, fun_mk (st := s_p_fault_of) l30 c30 k30⟩,
    f_p_is_row := ⟨f31, _, PySem.W.mg_of X G a31, fun_mk (st := s_p_is_row) l31 c31 k31⟩,
    f_p_want_row := ⟨f32, _, PySem.W.mg_of X G a32, fun_mk (st := s_p_want_row) l32 c32 k32⟩,
    f_p_lengths := ⟨f33, _, PySem.W.mg_of X G a33, fun_mk (st := s_p_lengths) l33 c33 k33⟩,
    f_l_can := ⟨f34, _, PySem.W.mg_of X G a34, fun_mk (st := s_l_can) l34 c34 k34⟩,
    f_p_fault := ⟨f35, _, PySem.W.mg_of X G a35, fun_mk (st := s_p_fault) l35 c35 k35⟩,
    f_p_want_many := ⟨f36, _, PySem.W.mg_of X G a36, fund_mk (st := s_p_want_many) (its := [.none, .int 0 tk36_1]) l36 c36 k36 t36 (.cons rfl (.cons ⟨_, rfl⟩ .nil))⟩,
    f_p_row_of := ⟨f37, _, PySem.W.mg_of X G a37, fun_mk (st := s_p_row_of) l37 c37 k37⟩,
    f_p_parts_of := ⟨f38, _, PySem.W.mg_of X G a38, fun_mk (st := s_p_parts_of) l38 c38 k38⟩,
    f_p_rows_of := ⟨f39, _, PySem.W.mg_of X G a39, fun_mk (st := s_p_rows_of) l39 c39 k39⟩,
    f_p_many_through := ⟨f40, _, PySem.W.mg_of X G a40, fun_mk (st := s_p_many_through) l40 c40 k40⟩,
    f_p_top_of := ⟨f41, _, PySem.W.mg_of X G a41, fun_mk (st := s_p_top_of) l41 c41 k41⟩,
    f_p_top := ⟨f42, _, PySem.W.mg_of X G a42, fun_mk (st := s_p_top) l42 c42 k42⟩,
    f_p_end := ⟨f43, _, PySem.W.mg_of X G a43, fun_mk (st := s_p_end) l43 c43 k43⟩,
    f_p_stair_points := ⟨f44, _, PySem.W.mg_of X G a44, fun_mk (st := s_p_stair_points) l44 c44 k44⟩,
    f_p_stair := ⟨f45, _, PySem.W.mg_of X G a45, fun_mk (st := s_p_stair) l45 c45 k45⟩,
    f_l_more := ⟨f46, _, PySem.W.mg_of X G a46, fun_mk (st := s_l_more) l46 c46 k46⟩,
    f_p_box_row := ⟨f47, _, PySem.W.mg_of X G a47, fun_mk (st := s_p_box_row) l47 c47 k47⟩,
    f_p_box_of := ⟨f48, _, PySem.W.mg_of X G a48, fun_mk (st := s_p_box_of) l48 c48 k48⟩,
    f_l_right := ⟨f49, _, PySem.W.mg_of X G a49, fun_mk (st := s_l_right) l49 c49 k49⟩,
    f_l_pot := ⟨f50, _, PySem.W.mg_of X G a50, fun_mk (st := s_l_pot) l50 c50 k50⟩,
    f_law_ := ⟨f51, _, PySem.W.mg_of X G a51, fun_mk (st := s_law_) l51 c51 k51⟩,
    b_abs := PySem.W.mg_none_of X G hb_abs,
    b_all := PySem.W.mg_none_of X G hb_all,
    b_any := PySem.W.mg_none_of X G hb_any,
    b_bool := PySem.W.mg_none_of X G hb_bool,
    b_divmod := PySem.W.mg_none_of X G hb_divmod,
    b_enumerate := PySem.W.mg_none_of X G hb_enumerate,
    b_int := PySem.W.mg_none_of X G hb_int,
    b_isinstance := PySem.W.mg_none_of X G hb_isinstance,
    b_len := PySem.W.mg_none_of X G hb_len,
    b_list := PySem.W.mg_none_of X G hb_list,
    b_max := PySem.W.mg_none_of X G hb_max,
    b_min := PySem.W.mg_none_of X G hb_min,
    b_range := PySem.W.mg_none_of X G hb_range,
    b_sorted := PySem.W.mg_none_of X G hb_sorted,
    b_sum := PySem.W.mg_none_of X G hb_sum,
    b_tuple := PySem.W.mg_none_of X G hb_tuple,
    b_zip := PySem.W.mg_none_of X G hb_zip,
    c_MOST_END := ⟨_, PySem.W.mg_of X G hc_MOST_END, _, rfl⟩,
    c_MOST_PLACES := ⟨_, PySem.W.mg_of X G hc_MOST_PLACES, _, rfl⟩,
    c_MOST_POINTS := ⟨_, PySem.W.mg_of X G hc_MOST_POINTS, _, rfl⟩,
    c_MOST_SUM := ⟨_, PySem.W.mg_of X G hc_MOST_SUM, _, rfl⟩ }
section
variable {P : Program} {w : World} {K : PySem.W.Frag} {mg : Str → Option Value} {base : Heap}
theorem d_l_draw (T : Top K mg) : DFn P w K mg base 1 "_law_draw" s_l_draw ["_law_pot_here", "_law_size"] [.p, .f] .f m_l_draw :=
  dfn_of (N := ["_law_pot_here", "_law_size", "_law_digit"]) [.p, .f, .f] [.p, .f, .f] T.f_l_draw ⟨rfl, rfl, rfl, by decide, rfl, by decide, by decide⟩ rfl rfl (by decide) rfl (by first | exact .inl (.inl rfl) | exact .inl (.inr rfl) | exact .inr rfl) fun f cdv A outer s H E o =>
  ⟨_, (dss_cons (ds_if (dt_cmp o_gt (de_pot0 0) de_int) (dss_cons (ds_potdm 0 2 o T.b_divmod (de_var 1)) (dss_one (ds_ret (de_var 2)))) dss_nil) (dss_cons (ds_pot1 0 (de_bin o_mod (de_callTy c_int T.b_int
    (da_b (de_bin o_add (de_bin o_mulA (de_pot1 0) de_int) de_int) da_nil)) de_int)) (dss_one (ds_ret (de_bin o_mod (de_callTy c_int T.b_int (da_b (de_bin o_fdivW (de_bin o_mod (de_callTy c_int T.b_int
    (da_b (de_bin o_mulA (de_pot1 0) (de_pot1 0)) da_nil)) de_int) de_int) da_nil)) (de_var 1))))))⟩
theorem b_l_draw : ∀ (kV doc pm : Value) (an : Option Addr) (cdv ct : Value) (us : List Value), us.length = 2 → bindArgs (PySem.W.fnOf "_law_draw" "_law_draw" (defArgs s_l_draw) (defBody s_l_draw) (defScope s_l_draw) .none kV doc pm an cdv ct) ⟨us, []⟩ = pure ((["_law_pot_here", "_law_size"] : List Str).zip us) := fun _ _ _ _ _ _ us hl => match us, hl with | [_, _], _ => rfl
theorem d_l_gcd (T : Top K mg) : DFn P w K mg base 1 "_law_gcd" s_l_gcd ["_law_one", "_law_other"] [.f, .f] .f m_l_gcd :=
  dfn_of (N := ["_law_one", "_law_other"]) [.f, .f] [.f, .f] T.f_l_gcd ⟨rfl, rfl, rfl, by decide, rfl, by decide, by decide⟩ rfl rfl (by decide) rfl (by first | exact .inl (.inl rfl) | exact .inl (.inr rfl) | exact .inr rfl) fun f cdv A outer s H E o =>
  ⟨_, (dss_cons (ds_while o (dt_cmp o_gt (de_var 1) de_int) (dss_one (ds_par 0 1 o (de_var 1) (de_bin o_mod (de_callTy c_int T.b_int (da_b (de_var 0) da_nil)) (de_var 1))))) (dss_one (ds_ret (de_var 0))))⟩
theorem b_l_gcd : ∀ (kV doc pm : Value) (an : Option Addr) (cdv ct : Value) (us : List Value), us.length = 2 → bindArgs (PySem.W.fnOf "_law_gcd" "_law_gcd" (defArgs s_l_gcd) (defBody s_l_gcd) (defScope s_l_gcd) .none kV doc pm an cdv ct) ⟨us, []⟩ = pure ((["_law_one", "_law_other"] : List Str).zip us) := fun _ _ _ _ _ _ us hl => match us, hl with | [_, _], _ => rfl
theorem d_l_told (T : Top K mg) : DFn P w K mg base 2 "_law_told" s_l_told ["_law_point"] [.f] .f m_l_told :=
  dfn_of (N := ["_law_point", "_law_share", "_law_number"]) [.f, .f, .f] [.f, .f, .f] T.f_l_told ⟨rfl, rfl, rfl, by decide, rfl, by decide, by decide⟩ rfl rfl (by decide) rfl (by first | exact .inl (.inl rfl) | exact .inl (.inr rfl) | exact .inr rfl) fun f cdv A outer s H E o =>
  ⟨_, (dss_cons (ds_set 1 o (de_call (d_l_gcd T) o b_l_gcd (da_f (de_call (d_l_gcd T) o b_l_gcd (da_f (de_callB c_abs T.b_abs (da_b (de_ix (de_var 0) de_int) da_nil)) (da_f (de_callB c_abs T.b_abs (da_b
    (de_ix (de_var 0) de_int) da_nil)) da_nil))) (da_f (de_callB c_abs T.b_abs (da_b (de_ix (de_var 0) de_int) da_nil)) da_nil)))) (dss_cons (ds_if (dt_cmp o_lt (de_ix (de_lc (own := [("_law_number",
    2)]) o (di_seq (de_var 0)) (blk_of (by rfl)) (fun _ _ _ _ _ => ⟨_, (dg_name 2 (XOk.blk o).nd)⟩) (fun _ _ _ _ _ => ⟨_, (dts_one (dt_cmp (o_ne (XOk.blk o)) (de_var 2) de_int))⟩) (fun _ _ _ _ _ => ⟨_,
    (de_var 2)⟩)) de_int) de_int) (dss_one (ds_set 1 o (de_bin o_sub de_int (de_var 1)))) dss_nil) (dss_one (ds_ret (de_callTy c_tuple T.b_tuple (da_b (de_lc (own := [("_law_number", 2)]) o (di_seq
    (de_var 0)) (blk_of (by rfl)) (fun _ _ _ _ _ => ⟨_, (dg_name 2 (XOk.blk o).nd)⟩) (fun _ _ _ _ _ => ⟨_, dts_nil⟩) (fun _ _ _ _ _ => ⟨_, (de_bin o_fdivW (de_var 2) (de_var 1))⟩)) da_nil))))))⟩
theorem b_l_told : ∀ (kV doc pm : Value) (an : Option Addr) (cdv ct : Value) (us : List Value), us.length = 1 → bindArgs (PySem.W.fnOf "_law_told" "_law_told" (defArgs s_l_told) (defBody s_l_told) (defScope s_l_told) .none kV doc pm an cdv ct) ⟨us, []⟩ = pure ((["_law_point"] : List Str).zip us) := fun _ _ _ _ _ _ us hl => match us, hl with | [_], _ => rfl
theorem d_l_points (T : Top K mg) : DFn P w K mg base 3 "_law_points" s_l_points ["_law_pot_here"] [.p] .f m_l_points :=
  dfn_of (N := ["_law_pot_here", "_law_found", "_law_way", "_law_turn", "_law_step", "_law_some", "_law_point"]) [.p, .o, .f, .f, .f, .f, .f] [.p, .f, .f, .f, .f, .f, .f] T.f_l_points ⟨rfl, rfl, rfl, by decide, rfl, by decide, by decide⟩ rfl rfl (by decide) rfl (by first | exact .inl (.inl rfl) | exact .inl (.inr rfl) | exact .inr rfl) fun f cdv A outer s H E o =>
  ⟨_, (dss_cons (ds_par 1 2 o (de_lst da_nil) (de_call (d_l_draw T) o b_l_draw (da_p 0 (da_f de_int da_nil)))) (dss_cons (ds_for o (di_range1 T.b_range (da_f (de_bin o_add de_int (de_call (d_l_draw T) o
    b_l_draw (da_p 0 (da_f de_int da_nil)))) da_nil)) (dg_name 3 o.nd) (dss_cons (ds_set 4 o (de_bin o_sub (de_call (d_l_draw T) o b_l_draw (da_p 0 (da_f de_int da_nil))) de_int)) (dss_cons (ds_set 5 o
    ((de_lst (da_f (de_tup (da_f de_int (da_f (de_var 4) (da_f (de_bin o_mulA (de_var 4) (de_var 4)) da_nil)))) (da_f (de_tup (da_f (de_var 4) (da_f de_int (da_f de_int da_nil)))) (da_f (de_tup (da_f
    (de_var 4) (da_f (de_bin o_sub (de_call (d_l_draw T) o b_l_draw (da_p 0 (da_f de_int da_nil))) de_int) (da_f (de_call (d_l_draw T) o b_l_draw (da_p 0 (da_f de_int da_nil))) da_nil)))) (da_f (de_tup
    (da_f de_int (da_f (de_var 4) (da_f de_int da_nil)))) da_nil)))))).toF) (dss_cons (ds_set 6 o (de_if (dt_cmp o_gt (de_call (d_l_draw T) o b_l_draw (da_p 0 (da_f de_int da_nil))) de_int) (de_ix
    (de_var 5) (de_var 2)) (de_ix (de_var 5) de_int))) (dss_one (ds_if (DW.dt (dw_and (dt_cmp (o_ne o) (de_var 6) (de_tup (da_f de_int (da_f de_int (da_f de_int da_nil))))) (dw_and1 (dt_cmp (o_notInA o)
    (de_call (d_l_told T) o b_l_told (da_f (de_var 6) da_nil)) (de_varo 1))))) (dss_one (ds_app 1 (de_call (d_l_told T) o b_l_told (da_f (de_var 6) da_nil)))) dss_nil)))))) (dss_frz 1 (dss_one (ds_ret
    (de_if (dt_cmp (o_ne o) (de_var 1) (de_lst da_nil)) (de_var 1) ((de_lst (da_f (de_tup (da_f de_int (da_f de_int (da_f de_int da_nil)))) da_nil))).toF))))))⟩
theorem b_l_points : ∀ (kV doc pm : Value) (an : Option Addr) (cdv ct : Value) (us : List Value), us.length = 1 → bindArgs (PySem.W.fnOf "_law_points" "_law_points" (defArgs s_l_points) (defBody s_l_points) (defScope s_l_points) .none kV doc pm an cdv ct) ⟨us, []⟩ = pure ((["_law_pot_here"] : List Str).zip us) := fun _ _ _ _ _ _ us hl => match us, hl with | [_], _ => rfl
theorem d_p_is_list (T : Top K mg) : DFn P w K mg base 1 "is_list" s_p_is_list ["value"] [.f] .f m_p_is_list :=
  dfn_of (N := ["value"]) [.f] [.f] T.f_p_is_list ⟨rfl, rfl, rfl, by decide, rfl, by decide, by decide⟩ rfl rfl (by decide) rfl (by first | exact .inl (.inl rfl) | exact .inl (.inr rfl) | exact .inr rfl) fun f cdv A outer s H E o =>
  ⟨_, (dss_one (ds_ret (de_isi2A (T := "list") (U := "tuple") ["Spots"] T.cT T.b_isinstance T.b_list T.b_tuple (de_var 0))))⟩
theorem b_p_is_list : ∀ (kV doc pm : Value) (an : Option Addr) (cdv ct : Value) (us : List Value), us.length = 1 → bindArgs (PySem.W.fnOf "is_list" "is_list" (defArgs s_p_is_list) (defBody s_p_is_list) (defScope s_p_is_list) .none kV doc pm an cdv ct) ⟨us, []⟩ = pure ((["value"] : List Str).zip us) := fun _ _ _ _ _ _ us hl => match us, hl with | [_], _ => rfl
theorem d_p_divisor_of (T : Top K mg) : DFn P w K mg base 1 "divisor_of" s_p_divisor_of ["row"] [.f] .f m_p_divisor_of :=
  dfn_of (N := ["row", "found", "number"]) [.f, .f, .f] [.f, .f, .f] T.f_p_divisor_of ⟨rfl, rfl, rfl, by decide, rfl, by decide, by decide⟩ rfl rfl (by decide) rfl (by first | exact .inl (.inl rfl) | exact .inl (.inr rfl) | exact .inr rfl) fun f cdv A outer s H E o =>
  ⟨_, (dss_cons (ds_set 1 o de_int) (dss_cons (ds_for o (di_seq (de_var 0)) (dg_name 2 o.nd) (dss_cons (ds_set 1 o (de_callG c_gcd T.g_gcd (da_b (de_var 1) (da_b (de_var 2) da_nil)))) (dss_one (ds_if (dt_cmp
    (o_eq o) (de_var 1) de_int) (dss_one (ds_ret de_int)) dss_nil)))) (dss_one (ds_ret (de_var 1)))))⟩
theorem b_p_divisor_of : ∀ (kV doc pm : Value) (an : Option Addr) (cdv ct : Value) (us : List Value), us.length = 1 → bindArgs (PySem.W.fnOf "divisor_of" "divisor_of" (defArgs s_p_divisor_of) (defBody s_p_divisor_of) (defScope s_p_divisor_of) .none kV doc pm an cdv ct) ⟨us, []⟩ = pure ((["row"] : List Str).zip us) := fun _ _ _ _ _ _ us hl => match us, hl with | [_], _ => rfl
theorem d_p_plain (T : Top K mg) : DFn P w K mg base 2 "plain" s_p_plain ["row"] [.f] .o m_p_plain :=
  dfn_of (N := ["row", "divisor", "number"]) [.f, .f, .f] [.f, .f, .f] T.f_p_plain ⟨rfl, rfl, rfl, by decide, rfl, by decide, by decide⟩ rfl rfl (by decide) rfl (by first | exact .inl (.inl rfl) | exact .inl (.inr rfl) | exact .inr rfl) fun f cdv A outer s H E o =>
  ⟨_, (dss_cons (ds_set 1 o (de_call (d_p_divisor_of T) o b_p_divisor_of (da_f (de_var 0) da_nil))) (dss_one (ds_ret (de_if (dt_cmp o_gt (de_var 1) de_int) (de_lc (own := [("number", 2)]) o (di_seq (de_var
    0)) (blk_of (by rfl)) (fun _ _ _ _ _ => ⟨_, (dg_name 2 (XOk.blk o).nd)⟩) (fun _ _ _ _ _ => ⟨_, dts_nil⟩) (fun _ _ _ _ _ => ⟨_, (de_bin o_fdivW (de_var 2) (de_var 1))⟩)) (de_callTy c_list T.b_list
    (da_b (de_var 0) da_nil))))))⟩
theorem b_p_plain : ∀ (kV doc pm : Value) (an : Option Addr) (cdv ct : Value) (us : List Value), us.length = 1 → bindArgs (PySem.W.fnOf "plain" "plain" (defArgs s_p_plain) (defBody s_p_plain) (defScope s_p_plain) .none kV doc pm an cdv ct) ⟨us, []⟩ = pure ((["row"] : List Str).zip us) := fun _ _ _ _ _ _ us hl => match us, hl with | [_], _ => rfl
theorem d_p_lead_place (T : Top K mg) : DFn P w K mg base 1 "lead_place" s_p_lead_place ["row"] [.f] .f m_p_lead_place :=
  dfn_of (N := ["row", "place", "number"]) [.f, .f, .f] [.f, .f, .f] T.f_p_lead_place ⟨rfl, rfl, rfl, by decide, rfl, by decide, by decide⟩ rfl rfl (by decide) rfl (by first | exact .inl (.inl rfl) | exact .inl (.inr rfl) | exact .inr rfl) fun f cdv A outer s H E o =>
  ⟨_, (dss_cons (ds_for o (di_enum T.b_enumerate (da_f (de_var 0) da_nil)) (dg_tup o.calm (dgs_cons (dg_name 1 o.nd) (dgs_cons (dg_name 2 o.nd) dgs_nil))) (dss_one (ds_if (dt_cmp (o_ne o) (de_var 2) de_int)
    (dss_one (ds_ret (de_var 1))) dss_nil))) (dss_one (ds_ret de_non)))⟩
theorem b_p_lead_place : ∀ (kV doc pm : Value) (an : Option Addr) (cdv ct : Value) (us : List Value), us.length = 1 → bindArgs (PySem.W.fnOf "lead_place" "lead_place" (defArgs s_p_lead_place) (defBody s_p_lead_place) (defScope s_p_lead_place) .none kV doc pm an cdv ct) ⟨us, []⟩ = pure ((["row"] : List Str).zip us) := fun _ _ _ _ _ _ us hl => match us, hl with | [_], _ => rfl
theorem d_p_signed (T : Top K mg) : DFn P w K mg base 3 "signed" s_p_signed ["row"] [.f] .f m_p_signed :=
  dfn_of (N := ["row", "found", "place", "number"]) [.f, .f, .f, .f] [.f, .f, .f, .f] T.f_p_signed ⟨rfl, rfl, rfl, by decide, rfl, by decide, by decide⟩ rfl rfl (by decide) rfl (by first | exact .inl (.inl rfl) | exact .inl (.inr rfl) | exact .inr rfl) fun f cdv A outer s H E o =>
  ⟨_, (dss_cons (ds_set 1 o ((de_call (d_p_plain T) o b_p_plain (da_f (de_var 0) da_nil))).toF) (dss_cons (ds_set 2 o (de_call (d_p_lead_place T) o b_p_lead_place (da_f (de_var 1) da_nil))) (dss_one (ds_ret
    (de_if (DW.dt (dw_or (dt_cmp o_isN (de_var 2) de_non) (dw_or1 (dt_cmp o_gt (de_ix (de_var 1) (de_var 2)) de_int)))) (de_var 1) ((de_lc (own := [("number", 3)]) o (di_seq (de_var 1)) (blk_of (by rfl))
    (fun _ _ _ _ _ => ⟨_, (dg_name 3 (XOk.blk o).nd)⟩) (fun _ _ _ _ _ => ⟨_, dts_nil⟩) (fun _ _ _ _ _ => ⟨_, (de_bin o_sub de_int (de_var 3))⟩))).toF)))))⟩
theorem b_p_signed : ∀ (kV doc pm : Value) (an : Option Addr) (cdv ct : Value) (us : List Value), us.length = 1 → bindArgs (PySem.W.fnOf "signed" "signed" (defArgs s_p_signed) (defBody s_p_signed) (defScope s_p_signed) .none kV doc pm an cdv ct) ⟨us, []⟩ = pure ((["row"] : List Str).zip us) := fun _ _ _ _ _ _ us hl => match us, hl with | [_], _ => rfl
theorem d_p_told_of (T : Top K mg) : DFn P w K mg base 4 "told_of" s_p_told_of ["point"] [.f] .f m_p_told_of :=
  dfn_of (N := ["point"]) [.f] [.f] T.f_p_told_of ⟨rfl, rfl, rfl, by decide, rfl, by decide, by decide⟩ rfl rfl (by decide) rfl (by first | exact .inl (.inl rfl) | exact .inl (.inr rfl) | exact .inr rfl) fun f cdv A outer s H E o =>
  ⟨_, (dss_one (ds_ret (de_callTy c_tuple T.b_tuple (da_b (de_call (d_p_signed T) o b_p_signed (da_f (de_var 0) da_nil)) da_nil))))⟩
theorem b_p_told_of : ∀ (kV doc pm : Value) (an : Option Addr) (cdv ct : Value) (us : List Value), us.length = 1 → bindArgs (PySem.W.fnOf "told_of" "told_of" (defArgs s_p_told_of) (defBody s_p_told_of) (defScope s_p_told_of) .none kV doc pm an cdv ct) ⟨us, []⟩ = pure ((["point"] : List Str).zip us) := fun _ _ _ _ _ _ us hl => match us, hl with | [_], _ => rfl
theorem d_p_is_integer (T : Top K mg) : DFn P w K mg base 1 "is_integer" s_p_is_integer ["value"] [.f] .f m_p_is_integer :=
  dfn_of (N := ["value"]) [.f] [.f] T.f_p_is_integer ⟨rfl, rfl, rfl, by decide, rfl, by decide, by decide⟩ rfl rfl (by decide) rfl (by first | exact .inl (.inl rfl) | exact .inl (.inr rfl) | exact .inr rfl) fun f cdv A outer s H E o =>
  ⟨_, (dss_one (ds_ret (de_and (de_isiA (T := "int") ["Spots"] T.cT T.b_isinstance T.b_int (de_var 0)) (de_one (de_not (de_isiA (T := "bool") ["Spots"] T.cT T.b_isinstance T.b_bool (de_var 0)))))))⟩
theorem b_p_is_integer : ∀ (kV doc pm : Value) (an : Option Addr) (cdv ct : Value) (us : List Value), us.length = 1 → bindArgs (PySem.W.fnOf "is_integer" "is_integer" (defArgs s_p_is_integer) (defBody s_p_is_integer) (defScope s_p_is_integer) .none kV doc pm an cdv ct) ⟨us, []⟩ = pure ((["value"] : List Str).zip us) := fun _ _ _ _ _ _ us hl => match us, hl with | [_], _ => rfl
theorem d_p_are_point (T : Top K mg) : DFn P w K mg base 2 "are_point" s_p_are_point ["value"] [.f] .f m_p_are_point :=
  dfn_of (N := ["value", "number"]) [.f, .f] [.f, .f] T.f_p_are_point ⟨rfl, rfl, rfl, by decide, rfl, by decide, by decide⟩ rfl rfl (by decide) rfl (by first | exact .inl (.inl rfl) | exact .inl (.inr rfl) | exact .inr rfl) fun f cdv A outer s H E o =>
  ⟨_, (dss_cons (ds_if (DW.dt (dw_or (dt_not (dt_of (de_call (d_p_is_list T) o b_p_is_list (da_f (de_var 0) da_nil)))) (dw_or (dt_cmp (o_ne o) (de_callB c_len T.b_len (da_b (de_var 0) da_nil)) de_int)
    (dw_or1 (dt_not (dt_of (de_callB (c_all o) T.b_all (da_b (de_lc (own := [("number", 1)]) o (di_seq (de_var 0)) (blk_of (by rfl)) (fun _ _ _ _ _ => ⟨_, (dg_name 1 (XOk.blk o).nd)⟩) (fun _ _ _ _ _ =>
    ⟨_, dts_nil⟩) (fun _ _ _ _ _ => ⟨_, (de_call (d_p_is_integer T) (XOk.blk o) b_p_is_integer (da_f (de_var 1) da_nil))⟩)) da_nil)))))))) (dss_one (ds_ret de_bl)) dss_nil) (dss_one (ds_ret (de_callB
    (c_anyA o) T.b_any (da_b (de_lc (own := [("number", 1)]) o (di_seq (de_var 0)) (blk_of (by rfl)) (fun _ _ _ _ _ => ⟨_, (dg_name 1 (XOk.blk o).nd)⟩) (fun _ _ _ _ _ => ⟨_, dts_nil⟩) (fun _ _ _ _ _ =>
    ⟨_, (de_cmp (o_ne (XOk.blk o)) (de_var 1) de_int)⟩)) da_nil)))))⟩
theorem b_p_are_point : ∀ (kV doc pm : Value) (an : Option Addr) (cdv ct : Value) (us : List Value), us.length = 1 → bindArgs (PySem.W.fnOf "are_point" "are_point" (defArgs s_p_are_point) (defBody s_p_are_point) (defScope s_p_are_point) .none kV doc pm an cdv ct) ⟨us, []⟩ = pure ((["value"] : List Str).zip us) := fun _ _ _ _ _ _ us hl => match us, hl with | [_], _ => rfl
theorem d_p_told_points (T : Top K mg) : DFn P w K mg base 5 "told_points" s_p_told_points ["value"] [.f] .f m_p_told_points :=
  dfn_of (N := ["value", "found", "position", "point"]) [.f, .o, .f, .f] [.f, .o, .f, .f] T.f_p_told_points ⟨rfl, rfl, rfl, by decide, rfl, by decide, by decide⟩ rfl rfl (by decide) rfl (by first | exact .inl (.inl rfl) | exact .inl (.inr rfl) | exact .inr rfl) fun f cdv A outer s H E o =>
  ⟨_, (dss_cons (ds_if (dt_of (de_isC ["Spots"] T.ci_Told T.b_isinstance (de_var 0))) (dss_one (ds_ret (de_fld "Told" ["told_points"] T.cl_Told (de_var 0)))) dss_nil) (dss_cons (ds_if (DW.dt (dw_or (dt_not
    (dt_of (de_call (d_p_is_list T) o b_p_is_list (da_f (de_var 0) da_nil)))) (dw_or1 (dt_not (dt_chain o_le o_le de_int (de_callB c_len T.b_len (da_b (de_var 0) da_nil)) (de_glob T.c_MOST_POINTS fun _
    => .int _)))))) (dss_one ds_never) dss_nil) (dss_cons (ds_set 1 o (de_lst da_nil)) (dss_cons (ds_for o (di_enum T.b_enumerate (da_f (de_var 0) da_nil)) (dg_tup o.calm (dgs_cons (dg_name 2 o.nd)
    (dgs_cons (dg_name 3 o.nd) dgs_nil))) (dss_cons (ds_if (DW.dt (dw_or (dt_not (dt_of (de_call (d_p_are_point T) o b_p_are_point (da_f (de_var 3) da_nil)))) (dw_or1 (dt_cmp (o_inA o) (de_call
    (d_p_told_of T) o b_p_told_of (da_f (de_var 3) da_nil)) (de_varo 1))))) (dss_one ds_never) dss_nil) (dss_one (ds_app 1 (de_call (d_p_told_of T) o b_p_told_of (da_f (de_var 3) da_nil)))))) (dss_one
    (ds_ret (de_callTy c_tuple T.b_tuple (da_b (de_varo 1) da_nil))))))))⟩
theorem b_p_told_points : ∀ (kV doc pm : Value) (an : Option Addr) (cdv ct : Value) (us : List Value), us.length = 1 → bindArgs (PySem.W.fnOf "told_points" "told_points" (defArgs s_p_told_points) (defBody s_p_told_points) (defScope s_p_told_points) .none kV doc pm an cdv ct) ⟨us, []⟩ = pure ((["value"] : List Str).zip us) := fun _ _ _ _ _ _ us hl => match us, hl with | [_], _ => rfl
theorem d_i_Spots (T : Top K mg) : DMk P w K mg base 6 "Spots" "Spots.__init__" s_i_Spots ["self", "points"] [.f] m_i_Spots :=
  dmk_of (N := ["self", "points"]) [.u, .f] T.f_i_Spots ⟨rfl, rfl, rfl, by decide, rfl, by decide, by decide⟩ rfl rfl (by decide) rfl (by decide) (by decide) fun f cdv A outer s H E o =>
  ⟨_, (din_fldC "Spots" ["own_points"] T.cl_Spots (de_call (d_p_told_points T) o b_p_told_points (da_f (de_var 1) da_nil)) din_nil)⟩
theorem b_i_Spots : ∀ (kV doc pm : Value) (an : Option Addr) (cdv ct : Value) (us : List Value), us.length = 2 → bindArgs (PySem.W.fnOf "__init__" "Spots.__init__" (defArgs s_i_Spots) (defBody s_i_Spots) (defScope s_i_Spots) .none kV doc pm an cdv ct) ⟨us, []⟩ = pure ((["self", "points"] : List Str).zip us) := fun _ _ _ _ _ _ us hl => match us, hl with | [_, _], _ => rfl
theorem d_p_want_spots (T : Top K mg) : DFn P w K mg base 1 "want_spots" s_p_want_spots ["value"] [.f] .f m_p_want_spots :=
  dfn_of (N := ["value"]) [.f] [.f] T.f_p_want_spots ⟨rfl, rfl, rfl, by decide, rfl, by decide, by decide⟩ rfl rfl (by decide) rfl (by first | exact .inl (.inl rfl) | exact .inl (.inr rfl) | exact .inr rfl) fun f cdv A outer s H E o =>
  ⟨_, (dss_one (ds_if (dt_not (dt_of (de_isC ["Spots"] T.ci_Spots T.b_isinstance (de_var 0)))) (dss_one ds_never) dss_nil))⟩
theorem b_p_want_spots : ∀ (kV doc pm : Value) (an : Option Addr) (cdv ct : Value) (us : List Value), us.length = 1 → bindArgs (PySem.W.fnOf "want_spots" "want_spots" (defArgs s_p_want_spots) (defBody s_p_want_spots) (defScope s_p_want_spots) .none kV doc pm an cdv ct) ⟨us, []⟩ = pure ((["value"] : List Str).zip us) := fun _ _ _ _ _ _ us hl => match us, hl with | [_], _ => rfl
theorem d_p_less (T : Top K mg) : DFn P w K mg base 1 "less" s_p_less ["row", "pivot", "place"] [.f, .f, .f] .o m_p_less :=
  dfn_of (N := ["row", "pivot", "place", "shared", "near", "far", "number", "taken"]) [.f, .f, .f, .f, .f, .f, .f, .f] [.f, .f, .f, .f, .f, .f, .f, .f] T.f_p_less ⟨rfl, rfl, rfl, by decide, rfl, by decide, by decide⟩ rfl rfl (by decide) rfl (by first | exact .inl (.inl rfl) | exact .inl (.inr rfl) | exact .inr rfl) fun f cdv A outer s H E o =>
  ⟨_, (dss_cons (ds_set 3 o (de_callG c_gcd T.g_gcd (da_b (de_ix (de_var 1) (de_var 2)) (da_b (de_ix (de_var 0) (de_var 2)) da_nil)))) (dss_cons (ds_unp (de_tup (da_f (de_bin o_fdivW (de_ix (de_var 1)
    (de_var 2)) (de_var 3)) (da_f (de_bin o_fdivW (de_ix (de_var 0) (de_var 2)) (de_var 3)) da_nil))) (dg_tup o.calm (dgs_cons (dg_name 4 o.nd) (dgs_cons (dg_name 5 o.nd) dgs_nil)))) (dss_one (ds_ret
    (de_lc (own := [("number", 6), ("taken", 7)]) o (di_zip T.b_zip (da_f (de_var 0) (da_f (de_var 1) da_nil))) (blk_of (by rfl)) (fun _ _ _ _ _ => ⟨_, (dg_tup (XOk.blk o).calm (dgs_cons (dg_name 6
    (XOk.blk o).nd) (dgs_cons (dg_name 7 (XOk.blk o).nd) dgs_nil)))⟩) (fun _ _ _ _ _ => ⟨_, dts_nil⟩) (fun _ _ _ _ _ => ⟨_, (de_bin o_sub (de_bin o_mulA (de_var 4) (de_var 6)) (de_bin o_mulA (de_var 5)
    (de_var 7)))⟩))))))⟩
theorem b_p_less : ∀ (kV doc pm : Value) (an : Option Addr) (cdv ct : Value) (us : List Value), us.length = 3 → bindArgs (PySem.W.fnOf "less" "less" (defArgs s_p_less) (defBody s_p_less) (defScope s_p_less) .none kV doc pm an cdv ct) ⟨us, []⟩ = pure ((["row", "pivot", "place"] : List Str).zip us) := fun _ _ _ _ _ _ us hl => match us, hl with | [_, _, _], _ => rfl
theorem d_p_cleared (T : Top K mg) : DFn P w K mg base 3 "cleared" s_p_cleared ["found", "row"] [.f, .f] .o m_p_cleared :=
  dfn_of (N := ["found", "row", "here", "place", "pivot"]) [.f, .f, .f, .f, .f] [.f, .f, .f, .f, .f] T.f_p_cleared ⟨rfl, rfl, rfl, by decide, rfl, by decide, by decide⟩ rfl rfl (by decide) rfl (by first | exact .inl (.inl rfl) | exact .inl (.inr rfl) | exact .inr rfl) fun f cdv A outer s H E o =>
  ⟨_, (dss_cons (ds_set 2 o (de_var 1)) (dss_cons (ds_for o (di_seq (de_var 0)) (dg_tup o.calm (dgs_cons (dg_name 3 o.nd) (dgs_cons (dg_name 4 o.nd) dgs_nil))) (dss_one (ds_if (dt_cmp (o_ne o) (de_ix (de_var
    2) (de_var 3)) de_int) (dss_one (ds_set 2 o ((de_call (d_p_less T) o b_p_less (da_f (de_var 2) (da_f (de_var 4) (da_f (de_var 3) da_nil))))).toF)) dss_nil))) (dss_one (ds_ret (de_call (d_p_plain T) o
    b_p_plain (da_f (de_var 2) da_nil))))))⟩
theorem b_p_cleared : ∀ (kV doc pm : Value) (an : Option Addr) (cdv ct : Value) (us : List Value), us.length = 2 → bindArgs (PySem.W.fnOf "cleared" "cleared" (defArgs s_p_cleared) (defBody s_p_cleared) (defScope s_p_cleared) .none kV doc pm an cdv ct) ⟨us, []⟩ = pure ((["found", "row"] : List Str).zip us) := fun _ _ _ _ _ _ us hl => match us, hl with | [_, _], _ => rfl
theorem d_p_echelon (T : Top K mg) : DFn P w K mg base 4 "echelon" s_p_echelon ["rows"] [.f] .t m_p_echelon :=
  dfn_of (N := ["rows", "found", "positions", "position", "row", "here", "place"]) [.f, .o, .o, .f, .f, .f, .f] [.f, .o, .o, .f, .f, .f, .f] T.f_p_echelon ⟨rfl, rfl, rfl, by decide, rfl, by decide, by decide⟩ rfl rfl (by decide) rfl (by first | exact .inl (.inl rfl) | exact .inl (.inr rfl) | exact .inr rfl) fun f cdv A outer s H E o =>
  ⟨_, (dss_cons (ds_par 1 2 o (de_lst da_nil) (de_lst da_nil)) (dss_cons (ds_for o (di_enum T.b_enumerate (da_f (de_var 0) da_nil)) (dg_tup o.calm (dgs_cons (dg_name 3 o.nd) (dgs_cons (dg_name 4 o.nd)
    dgs_nil))) (dss_cons (ds_set 5 o ((de_callL (d_p_cleared T) o b_p_cleared (da_b (de_varo 1) (da_f (de_var 4) da_nil)))).toF) (dss_cons (ds_set 6 o (de_call (d_p_lead_place T) o b_p_lead_place (da_f
    (de_var 5) da_nil))) (dss_one (ds_if (dt_cmp o_notN (de_var 6) de_non) (dss_cons (ds_app 1 (de_tup (da_f (de_var 6) (da_f (de_var 5) da_nil)))) (dss_one (ds_app 2 (de_var 3)))) dss_nil))))) (dss_one
    (ds_rett 1 2))))⟩
theorem b_p_echelon : ∀ (kV doc pm : Value) (an : Option Addr) (cdv ct : Value) (us : List Value), us.length = 1 → bindArgs (PySem.W.fnOf "echelon" "echelon" (defArgs s_p_echelon) (defBody s_p_echelon) (defScope s_p_echelon) .none kV doc pm an cdv ct) ⟨us, []⟩ = pure ((["rows"] : List Str).zip us) := fun _ _ _ _ _ _ us hl => match us, hl with | [_], _ => rfl
theorem d_p_rank_of (T : Top K mg) : DFn P w K mg base 5 "rank_of" s_p_rank_of ["rows"] [.f] .f m_p_rank_of :=
  dfn_of (N := ["rows"]) [.f] [.f] T.f_p_rank_of ⟨rfl, rfl, rfl, by decide, rfl, by decide, by decide⟩ rfl rfl (by decide) rfl (by first | exact .inl (.inl rfl) | exact .inl (.inr rfl) | exact .inr rfl) fun f cdv A outer s H E o =>
  ⟨_, (dss_one (ds_ret (de_callB c_len T.b_len (da_b (de_ixT 0 (de_call (d_p_echelon T) o b_p_echelon (da_f (de_var 0) da_nil)) de_int) da_nil))))⟩
theorem b_p_rank_of : ∀ (kV doc pm : Value) (an : Option Addr) (cdv ct : Value) (us : List Value), us.length = 1 → bindArgs (PySem.W.fnOf "rank_of" "rank_of" (defArgs s_p_rank_of) (defBody s_p_rank_of) (defScope s_p_rank_of) .none kV doc pm an cdv ct) ⟨us, []⟩ = pure ((["rows"] : List Str).zip us) := fun _ _ _ _ _ _ us hl => match us, hl with | [_], _ => rfl
theorem d_p_powers_of (T : Top K mg) : DFn P w K mg base 1 "powers_of" s_p_powers_of ["number", "most"] [.f, .f] .f m_p_powers_of :=
  dfn_of (N := ["number", "most", "two", "three", "low", "found", "turn"]) [.f, .f, .f, .f, .o, .o, .f] [.f, .f, .f, .f, .u, .f, .f] T.f_p_powers_of ⟨rfl, rfl, rfl, by decide, rfl, by decide, by decide⟩ rfl rfl (by decide) rfl (by first | exact .inl (.inl rfl) | exact .inl (.inr rfl) | exact .inr rfl) fun f cdv A outer s H E o =>
  ⟨_, (dss_cons (ds_par 2 3 o (de_bin o_mulA (de_var 0) (de_var 0)) (de_bin o_mulA (de_bin o_mulA (de_var 0) (de_var 0)) (de_var 0))) (dss_cons (ds_set 4 o (de_lst (da_f de_int (da_f (de_var 0) (da_f (de_var
    2) (da_f (de_var 3) (da_f (de_bin o_mulA (de_var 2) (de_var 2)) (da_f (de_bin o_mulA (de_var 2) (de_var 3)) (da_f (de_bin o_mulA (de_var 3) (de_var 3)) da_nil))))))))) (dss_cons (ds_if (dt_cmp o_lt
    (de_var 1) (de_callB c_len T.b_len (da_b (de_varo 4) da_nil))) (dss_one (ds_ret (de_slice (de_varo 4) do_none (do_some (de_bin o_add (de_var 1) de_int))))) dss_nil) (dss_moveFor 4 5 o (di_range1
    T.b_range (da_f (de_bin o_sub (de_bin o_add (de_var 1) de_int) (de_callB c_len T.b_len (da_b (de_varo 4) da_nil))) da_nil)) (dg_name 6 o.nd) (dss_one (ds_app 5 (de_bin o_mulA (de_ix (de_varo 5)
    (de_un o_neg de_int)) (de_var 0)))) (dss_frz 5 (dss_one (ds_ret (de_var 5))))))))⟩
theorem b_p_powers_of : ∀ (kV doc pm : Value) (an : Option Addr) (cdv ct : Value) (us : List Value), us.length = 2 → bindArgs (PySem.W.fnOf "powers_of" "powers_of" (defArgs s_p_powers_of) (defBody s_p_powers_of) (defScope s_p_powers_of) .none kV doc pm an cdv ct) ⟨us, []⟩ = pure ((["number", "most"] : List Str).zip us) := fun _ _ _ _ _ _ us hl => match us, hl with | [_, _], _ => rfl
theorem d_p_triples_of (T : Top K mg) : DFn P w K mg base 1 "triples_of" s_p_triples_of ["degree"] [.f] .f m_p_triples_of :=
  dfn_of (N := ["degree", "found", "first", "second"]) [.f, .o, .f, .f] [.f, .o, .f, .f] T.f_p_triples_of ⟨rfl, rfl, rfl, by decide, rfl, by decide, by decide⟩ rfl rfl (by decide) rfl (by first | exact .inl (.inl rfl) | exact .inl (.inr rfl) | exact .inr rfl) fun f cdv A outer s H E o =>
  ⟨_, (dss_cons (ds_set 1 o (de_lst da_nil)) (dss_cons (ds_for o (di_rangeDn T.b_range (da_f (de_var 0) (da_f (de_un o_neg de_int) (da_f (de_un o_neg de_int) da_nil)))) (dg_name 2 o.nd) (dss_one (ds_ext 1
    (de_lc (own := [("second", 3)]) o (di_rangeDn T.b_range (da_f (de_bin o_sub (de_var 0) (de_var 2)) (da_f (de_un o_neg de_int) (da_f (de_un o_neg de_int) da_nil)))) (blk_of (by rfl)) (fun _ _ _ _ _ =>
    ⟨_, (dg_name 3 (XOk.blk o).nd)⟩) (fun _ _ _ _ _ => ⟨_, dts_nil⟩) (fun _ _ _ _ _ => ⟨_, (de_tup (da_f (de_var 2) (da_f (de_var 3) (da_f (de_bin o_sub (de_bin o_sub (de_var 0) (de_var 2)) (de_var 3))
    da_nil))))⟩))))) (dss_one (ds_ret (de_callTy c_tuple T.b_tuple (da_b (de_varo 1) da_nil))))))⟩
theorem b_p_triples_of : ∀ (kV doc pm : Value) (an : Option Addr) (cdv ct : Value) (us : List Value), us.length = 1 → bindArgs (PySem.W.fnOf "triples_of" "triples_of" (defArgs s_p_triples_of) (defBody s_p_triples_of) (defScope s_p_triples_of) .none kV doc pm an cdv ct) ⟨us, []⟩ = pure ((["degree"] : List Str).zip us) := fun _ _ _ _ _ _ us hl => match us, hl with | [_], _ => rfl
theorem d_p_letters_at (T : Top K mg) : DFn P w K mg base 2 "letters_at" s_p_letters_at ["point", "degree"] [.f, .f] .o m_p_letters_at :=
  dfn_of (N := ["point", "degree", "first", "second", "third", "number", "i", "j", "k"]) [.f, .f, .f, .f, .f, .f, .f, .f, .f] [.f, .f, .f, .f, .f, .f, .f, .f, .f] T.f_p_letters_at ⟨rfl, rfl, rfl, by decide, rfl, by decide, by decide⟩ rfl rfl (by decide) rfl (by first | exact .inl (.inl rfl) | exact .inl (.inr rfl) | exact .inr rfl) fun f cdv A outer s H E o =>
  ⟨_, (dss_cons (ds_unp ((de_lc (own := [("number", 5)]) o (di_seq (de_var 0)) (blk_of (by rfl)) (fun _ _ _ _ _ => ⟨_, (dg_name 5 (XOk.blk o).nd)⟩) (fun _ _ _ _ _ => ⟨_, dts_nil⟩) (fun _ _ _ _ _ => ⟨_,
    (de_call (d_p_powers_of T) (XOk.blk o) b_p_powers_of (da_f (de_var 5) (da_f (de_var 1) da_nil)))⟩))).toF (dg_lst o.calm (dgs_cons (dg_name 2 o.nd) (dgs_cons (dg_name 3 o.nd) (dgs_cons (dg_name 4
    o.nd) dgs_nil))))) (dss_one (ds_ret (de_lc (own := [("i", 6), ("j", 7), ("k", 8)]) o (di_seq (de_call (d_p_triples_of T) o b_p_triples_of (da_f (de_var 1) da_nil))) (blk_of (by rfl)) (fun _ _ _ _ _
    => ⟨_, (dg_tup (XOk.blk o).calm (dgs_cons (dg_name 6 (XOk.blk o).nd) (dgs_cons (dg_name 7 (XOk.blk o).nd) (dgs_cons (dg_name 8 (XOk.blk o).nd) dgs_nil))))⟩) (fun _ _ _ _ _ => ⟨_, dts_nil⟩) (fun _ _ _
    _ _ => ⟨_, (de_bin o_mulA (de_bin o_mulA (de_ix (de_var 2) (de_var 6)) (de_ix (de_var 3) (de_var 7))) (de_ix (de_var 4) (de_var 8)))⟩)))))⟩
theorem b_p_letters_at : ∀ (kV doc pm : Value) (an : Option Addr) (cdv ct : Value) (us : List Value), us.length = 2 → bindArgs (PySem.W.fnOf "letters_at" "letters_at" (defArgs s_p_letters_at) (defBody s_p_letters_at) (defScope s_p_letters_at) .none kV doc pm an cdv ct) ⟨us, []⟩ = pure ((["point", "degree"] : List Str).zip us) := fun _ _ _ _ _ _ us hl => match us, hl with | [_, _], _ => rfl
theorem d_p_condition_rows (T : Top K mg) : DFn P w K mg base 3 "condition_rows" s_p_condition_rows ["points", "degree"] [.f, .f] .o m_p_condition_rows :=
  dfn_of (N := ["points", "degree", "point"]) [.f, .f, .f] [.f, .f, .f] T.f_p_condition_rows ⟨rfl, rfl, rfl, by decide, rfl, by decide, by decide⟩ rfl rfl (by decide) rfl (by first | exact .inl (.inl rfl) | exact .inl (.inr rfl) | exact .inr rfl) fun f cdv A outer s H E o =>
  ⟨_, (dss_one (ds_ret (de_lc (own := [("point", 2)]) o (di_seq (de_var 0)) (blk_of (by rfl)) (fun _ _ _ _ _ => ⟨_, (dg_name 2 (XOk.blk o).nd)⟩) (fun _ _ _ _ _ => ⟨_, dts_nil⟩) (fun _ _ _ _ _ => ⟨_,
    ((de_call (d_p_letters_at T) (XOk.blk o) b_p_letters_at (da_f (de_var 2) (da_f (de_var 1) da_nil)))).toF⟩))))⟩
theorem b_p_condition_rows : ∀ (kV doc pm : Value) (an : Option Addr) (cdv ct : Value) (us : List Value), us.length = 2 → bindArgs (PySem.W.fnOf "condition_rows" "condition_rows" (defArgs s_p_condition_rows) (defBody s_p_condition_rows) (defScope s_p_condition_rows) .none kV doc pm an cdv ct) ⟨us, []⟩ = pure ((["points", "degree"] : List Str).zip us) := fun _ _ _ _ _ _ us hl => match us, hl with | [_, _], _ => rfl
theorem d_p_rank_at (T : Top K mg) : DFn P w K mg base 6 "rank_at" s_p_rank_at ["points", "degree"] [.f, .f] .f m_p_rank_at :=
  dfn_of (N := ["points", "degree"]) [.f, .f] [.f, .f] T.f_p_rank_at ⟨rfl, rfl, rfl, by decide, rfl, by decide, by decide⟩ rfl rfl (by decide) rfl (by first | exact .inl (.inl rfl) | exact .inl (.inr rfl) | exact .inr rfl) fun f cdv A outer s H E o =>
  ⟨_, (dss_one (ds_ret (de_call (d_p_rank_of T) o b_p_rank_of (da_f ((de_call (d_p_condition_rows T) o b_p_condition_rows (da_f (de_var 0) (da_f (de_var 1) da_nil)))).toF da_nil))))⟩
theorem b_p_rank_at : ∀ (kV doc pm : Value) (an : Option Addr) (cdv ct : Value) (us : List Value), us.length = 2 → bindArgs (PySem.W.fnOf "rank_at" "rank_at" (defArgs s_p_rank_at) (defBody s_p_rank_at) (defScope s_p_rank_at) .none kV doc pm an cdv ct) ⟨us, []⟩ = pure ((["points", "degree"] : List Str).zip us) := fun _ _ _ _ _ _ us hl => match us, hl with | [_, _], _ => rfl
theorem d_p_row_by (T : Top K mg) : DFn P w K mg base 7 "row_by" s_p_row_by ["points"] [.f] .o m_p_row_by :=
  dfn_of (N := ["points", "found", "last", "degree", "here"]) [.f, .o, .f, .f, .f] [.f, .o, .f, .f, .f] T.f_p_row_by ⟨rfl, rfl, rfl, by decide, rfl, by decide, by decide⟩ rfl rfl (by decide) rfl (by first | exact .inl (.inl rfl) | exact .inl (.inr rfl) | exact .inr rfl) fun f cdv A outer s H E o =>
  ⟨_, (dss_cons (ds_par 1 2 o (de_lst da_nil) de_int) (dss_cons (ds_for o (di_range1 T.b_range (da_f (de_bin o_add (de_glob T.c_MOST_END fun _ => .int _) de_int) da_nil)) (dg_name 3 o.nd) (dss_cons (ds_set 4
    o (de_call (d_p_rank_at T) o b_p_rank_at (da_f (de_var 0) (da_f (de_var 3) da_nil)))) (dss_cons (ds_app 1 (de_bin o_sub (de_var 4) (de_var 2))) (dss_cons (ds_if (dt_cmp (o_eq o) (de_var 4) (de_callB
    c_len T.b_len (da_b (de_var 0) da_nil))) (dss_one (ds_reto 1)) dss_nil) (dss_one (ds_set 2 o (de_var 4))))))) (dss_one ds_never)))⟩
theorem b_p_row_by : ∀ (kV doc pm : Value) (an : Option Addr) (cdv ct : Value) (us : List Value), us.length = 1 → bindArgs (PySem.W.fnOf "row_by" "row_by" (defArgs s_p_row_by) (defBody s_p_row_by) (defScope s_p_row_by) .none kV doc pm an cdv ct) ⟨us, []⟩ = pure ((["points"] : List Str).zip us) := fun _ _ _ _ _ _ us hl => match us, hl with | [_], _ => rfl
theorem d_p_row (T : Top K mg) : DFn P w K mg base 8 "row" s_p_row ["spots"] [.f] .o m_p_row :=
  dfn_of (N := ["spots"]) [.f] [.f] T.f_p_row ⟨rfl, rfl, rfl, by decide, rfl, by decide, by decide⟩ rfl rfl (by decide) rfl (by first | exact .inl (.inl rfl) | exact .inl (.inr rfl) | exact .inr rfl) fun f cdv A outer s H E o =>
  ⟨_, (dss_cons (ds_expr (de_call (d_p_want_spots T) o b_p_want_spots (da_f (de_var 0) da_nil))) (dss_one (ds_ret (de_call (d_p_row_by T) o b_p_row_by (da_f (de_fld "Spots" ["own_points"] T.cl_Spots (de_var
    0)) da_nil)))))⟩
theorem b_p_row : ∀ (kV doc pm : Value) (an : Option Addr) (cdv ct : Value) (us : List Value), us.length = 1 → bindArgs (PySem.W.fnOf "row" "row" (defArgs s_p_row) (defBody s_p_row) (defScope s_p_row) .none kV doc pm an cdv ct) ⟨us, []⟩ = pure ((["spots"] : List Str).zip us) := fun _ _ _ _ _ _ us hl => match us, hl with | [_], _ => rfl
theorem d_p_lengths_of (T : Top K mg) : DFn P w K mg base 1 "lengths_of" s_p_lengths_of ["row"] [.f] .o m_p_lengths_of :=
  dfn_of (N := ["row", "second", "number"]) [.f, .f, .f] [.f, .f, .f] T.f_p_lengths_of ⟨rfl, rfl, rfl, by decide, rfl, by decide, by decide⟩ rfl rfl (by decide) rfl (by first | exact .inl (.inl rfl) | exact .inl (.inr rfl) | exact .inr rfl) fun f cdv A outer s H E o =>
  ⟨_, (dss_one (ds_ret (de_lc (own := [("second", 1)]) o (di_range1 T.b_range (da_f (de_callB (c_maxL o) T.b_max (da_b (de_var 0) da_nil)) da_nil)) (blk_of (by rfl)) (fun _ _ _ _ _ => ⟨_, (dg_name 1 (XOk.blk
    o).nd)⟩) (fun _ _ _ _ _ => ⟨_, dts_nil⟩) (fun _ _ _ _ _ => ⟨_, (de_callB c_len T.b_len (da_b (de_lc (own := [("number", 2)]) (XOk.blk o) (di_seq (de_var 0)) (blk_of (by rfl)) (fun _ _ _ _ _ => ⟨_,
    (dg_name 2 (XOk.blk (XOk.blk o)).nd)⟩) (fun _ _ _ _ _ => ⟨_, (dts_one (dt_cmp o_gt (de_var 2) (de_var 1)))⟩) (fun _ _ _ _ _ => ⟨_, (de_var 2)⟩)) da_nil))⟩))))⟩
theorem b_p_lengths_of : ∀ (kV doc pm : Value) (an : Option Addr) (cdv ct : Value) (us : List Value), us.length = 1 → bindArgs (PySem.W.fnOf "lengths_of" "lengths_of" (defArgs s_p_lengths_of) (defBody s_p_lengths_of) (defScope s_p_lengths_of) .none kV doc pm an cdv ct) ⟨us, []⟩ = pure ((["row"] : List Str).zip us) := fun _ _ _ _ _ _ us hl => match us, hl with | [_], _ => rfl
theorem d_p_is_count (T : Top K mg) : DFn P w K mg base 2 "is_count" s_p_is_count ["value"] [.f] .f m_p_is_count :=
  dfn_of (N := ["value"]) [.f] [.f] T.f_p_is_count ⟨rfl, rfl, rfl, by decide, rfl, by decide, by decide⟩ rfl rfl (by decide) rfl (by first | exact .inl (.inl rfl) | exact .inl (.inr rfl) | exact .inr rfl) fun f cdv A outer s H E o =>
  ⟨_, (dss_one (ds_ret (de_and (de_call (d_p_is_integer T) o b_p_is_integer (da_f (de_var 0) da_nil)) (de_one (de_cmp o_ge (de_var 0) de_int)))))⟩
theorem b_p_is_count : ∀ (kV doc pm : Value) (an : Option Addr) (cdv ct : Value) (us : List Value), us.length = 1 → bindArgs (PySem.W.fnOf "is_count" "is_count" (defArgs s_p_is_count) (defBody s_p_is_count) (defScope s_p_is_count) .none kV doc pm an cdv ct) ⟨us, []⟩ = pure ((["value"] : List Str).zip us) := fun _ _ _ _ _ _ us hl => match us, hl with | [_], _ => rfl
theorem d_p_is_counts (T : Top K mg) : DFn P w K mg base 3 "is_counts" s_p_is_counts ["value"] [.f] .f m_p_is_counts :=
  dfn_of (N := ["value", "number"]) [.f, .f] [.f, .f] T.f_p_is_counts ⟨rfl, rfl, rfl, by decide, rfl, by decide, by decide⟩ rfl rfl (by decide) rfl (by first | exact .inl (.inl rfl) | exact .inl (.inr rfl) | exact .inr rfl) fun f cdv A outer s H E o =>
  ⟨_, (dss_one (ds_ret (de_and (de_call (d_p_is_list T) o b_p_is_list (da_f (de_var 0) da_nil)) (de_and (de_cmp o_gt (de_callB c_len T.b_len (da_b (de_var 0) da_nil)) de_int) (de_one (de_callB (c_all o)
    T.b_all (da_b (de_lc (own := [("number", 1)]) o (di_seq (de_var 0)) (blk_of (by rfl)) (fun _ _ _ _ _ => ⟨_, (dg_name 1 (XOk.blk o).nd)⟩) (fun _ _ _ _ _ => ⟨_, dts_nil⟩) (fun _ _ _ _ _ => ⟨_, (de_call
    (d_p_is_count T) (XOk.blk o) b_p_is_count (da_f (de_var 1) da_nil))⟩)) da_nil)))))))⟩
theorem b_p_is_counts : ∀ (kV doc pm : Value) (an : Option Addr) (cdv ct : Value) (us : List Value), us.length = 1 → bindArgs (PySem.W.fnOf "is_counts" "is_counts" (defArgs s_p_is_counts) (defBody s_p_is_counts) (defScope s_p_is_counts) .none kV doc pm an cdv ct) ⟨us, []⟩ = pure ((["value"] : List Str).zip us) := fun _ _ _ _ _ _ us hl => match us, hl with | [_], _ => rfl
theorem d_p_goes_on (T : Top K mg) : DFn P w K mg base 1 "goes_on" s_p_goes_on ["number", "ahead", "is_rising"] [.f, .f, .f] .f m_p_goes_on :=
  dfn_of (N := ["number", "ahead", "is_rising"]) [.f, .f, .f] [.f, .f, .f] T.f_p_goes_on ⟨rfl, rfl, rfl, by decide, rfl, by decide, by decide⟩ rfl rfl (by decide) rfl (by first | exact .inl (.inl rfl) | exact .inl (.inr rfl) | exact .inr rfl) fun f cdv A outer s H E o =>
  ⟨_, (dss_one (ds_ret (de_or (de_chain o_lt o_le de_int (de_var 0) (de_var 1)) (de_one (de_and (de_var 2) (de_one (de_cmp (o_eq o) (de_var 0) (de_bin o_add (de_var 1) de_int))))))))⟩
theorem b_p_goes_on : ∀ (kV doc pm : Value) (an : Option Addr) (cdv ct : Value) (us : List Value), us.length = 3 → bindArgs (PySem.W.fnOf "goes_on" "goes_on" (defArgs s_p_goes_on) (defBody s_p_goes_on) (defScope s_p_goes_on) .none kV doc pm an cdv ct) ⟨us, []⟩ = pure ((["number", "ahead", "is_rising"] : List Str).zip us) := fun _ _ _ _ _ _ us hl => match us, hl with | [_, _, _], _ => rfl
theorem d_p_fault_of (T : Top K mg) : DFn P w K mg base 2 "fault_of" s_p_fault_of ["numbers"] [.f] .f m_p_fault_of :=
  dfn_of (N := ["numbers", "total", "ahead", "is_rising", "place", "number"]) [.f, .f, .f, .f, .f, .f] [.f, .f, .f, .f, .f, .f] T.f_p_fault_of ⟨rfl, rfl, rfl, by decide, rfl, by decide, by decide⟩ rfl rfl (by decide) rfl (by first | exact .inl (.inl rfl) | exact .inl (.inr rfl) | exact .inr rfl) fun f cdv A outer s H E o =>
  ⟨_, (dss_cons (ds_unp (de_tup (da_f de_int (da_f de_int (da_f de_bl da_nil)))) (dg_tup o.calm (dgs_cons (dg_name 1 o.nd) (dgs_cons (dg_name 2 o.nd) (dgs_cons (dg_name 3 o.nd) dgs_nil))))) (dss_cons (ds_for
    o (di_enum T.b_enumerate (da_f (de_var 0) da_nil)) (dg_tup o.calm (dgs_cons (dg_name 4 o.nd) (dgs_cons (dg_name 5 o.nd) dgs_nil))) (dss_cons (ds_aug 1 (g := fun i j => i + j) o ip_add (de_var 5))
    (dss_cons (ds_if (DW.dt (dw_or (dt_not (dt_of (de_call (d_p_goes_on T) o b_p_goes_on (da_f (de_var 5) (da_f (de_var 2) (da_f (de_var 3) da_nil)))))) (dw_or (dt_cmp o_gt (de_var 1) (de_glob
    T.c_MOST_SUM fun _ => .int _)) (dw_or1 (dt_cmp o_ge (de_var 4) (de_glob T.c_MOST_PLACES fun _ => .int _)))))) (dss_one (ds_ret (de_var 4))) dss_nil) (dss_cons (ds_set 3 o (de_and (de_var 3) (de_one
    (de_cmp o_gt (de_var 5) (de_var 2))))) (dss_one (ds_set 2 o (de_var 5))))))) (dss_one (ds_ret de_non))))⟩
theorem b_p_fault_of : ∀ (kV doc pm : Value) (an : Option Addr) (cdv ct : Value) (us : List Value), us.length = 1 → bindArgs (PySem.W.fnOf "fault_of" "fault_of" (defArgs s_p_fault_of) (defBody s_p_fault_of) (defScope s_p_fault_of) .none kV doc pm an cdv ct) ⟨us, []⟩ = pure ((["numbers"] : List Str).zip us) := fun _ _ _ _ _ _ us hl => match us, hl with | [_], _ => rfl
theorem d_p_is_row (T : Top K mg) : DFn P w K mg base 4 "is_row" s_p_is_row ["value"] [.f] .f m_p_is_row :=
  dfn_of (N := ["value"]) [.f] [.f] T.f_p_is_row ⟨rfl, rfl, rfl, by decide, rfl, by decide, by decide⟩ rfl rfl (by decide) rfl (by first | exact .inl (.inl rfl) | exact .inl (.inr rfl) | exact .inr rfl) fun f cdv A outer s H E o =>
  ⟨_, (dss_one (ds_ret (de_and (de_call (d_p_is_counts T) o b_p_is_counts (da_f (de_var 0) da_nil)) (de_one (de_cmp o_isN (de_call (d_p_fault_of T) o b_p_fault_of (da_f (de_var 0) da_nil)) de_non)))))⟩
theorem b_p_is_row : ∀ (kV doc pm : Value) (an : Option Addr) (cdv ct : Value) (us : List Value), us.length = 1 → bindArgs (PySem.W.fnOf "is_row" "is_row" (defArgs s_p_is_row) (defBody s_p_is_row) (defScope s_p_is_row) .none kV doc pm an cdv ct) ⟨us, []⟩ = pure ((["value"] : List Str).zip us) := fun _ _ _ _ _ _ us hl => match us, hl with | [_], _ => rfl
theorem d_p_want_row (T : Top K mg) : DFn P w K mg base 5 "want_row" s_p_want_row ["value"] [.f] .o m_p_want_row :=
  dfn_of (N := ["value"]) [.f] [.f] T.f_p_want_row ⟨rfl, rfl, rfl, by decide, rfl, by decide, by decide⟩ rfl rfl (by decide) rfl (by first | exact .inl (.inl rfl) | exact .inl (.inr rfl) | exact .inr rfl) fun f cdv A outer s H E o =>
  ⟨_, (dss_cons (ds_if (dt_not (dt_of (de_call (d_p_is_row T) o b_p_is_row (da_f (de_var 0) da_nil)))) (dss_one ds_never) dss_nil) (dss_one (ds_ret (de_callTy c_list T.b_list (da_b (de_var 0) da_nil)))))⟩
theorem b_p_want_row : ∀ (kV doc pm : Value) (an : Option Addr) (cdv ct : Value) (us : List Value), us.length = 1 → bindArgs (PySem.W.fnOf "want_row" "want_row" (defArgs s_p_want_row) (defBody s_p_want_row) (defScope s_p_want_row) .none kV doc pm an cdv ct) ⟨us, []⟩ = pure ((["value"] : List Str).zip us) := fun _ _ _ _ _ _ us hl => match us, hl with | [_], _ => rfl
theorem d_p_lengths (T : Top K mg) : DFn P w K mg base 6 "lengths" s_p_lengths ["row"] [.f] .o m_p_lengths :=
  dfn_of (N := ["row"]) [.f] [.f] T.f_p_lengths ⟨rfl, rfl, rfl, by decide, rfl, by decide, by decide⟩ rfl rfl (by decide) rfl (by first | exact .inl (.inl rfl) | exact .inl (.inr rfl) | exact .inr rfl) fun f cdv A outer s H E o =>
  ⟨_, (dss_one (ds_ret (de_call (d_p_lengths_of T) o b_p_lengths_of (da_f ((de_call (d_p_want_row T) o b_p_want_row (da_f (de_var 0) da_nil))).toF da_nil))))⟩
theorem b_p_lengths : ∀ (kV doc pm : Value) (an : Option Addr) (cdv ct : Value) (us : List Value), us.length = 1 → bindArgs (PySem.W.fnOf "lengths" "lengths" (defArgs s_p_lengths) (defBody s_p_lengths) (defScope s_p_lengths) .none kV doc pm an cdv ct) ⟨us, []⟩ = pure ((["row"] : List Str).zip us) := fun _ _ _ _ _ _ us hl => match us, hl with | [_], _ => rfl
theorem d_l_can (T : Top K mg) : DFn P w K mg base 1 "_law_can" s_l_can ["_law_value"] [.f] .f m_l_can :=
  dfn_of (N := ["_law_value", "_law_j", "_law_places", "_law_at", "_law_number"]) [.f, .f, .f, .f, .f] [.f, .f, .f, .f, .f] T.f_l_can ⟨rfl, rfl, rfl, by decide, rfl, by decide, by decide⟩ rfl rfl (by decide) rfl (by first | exact .inl (.inl rfl) | exact .inl (.inr rfl) | exact .inr rfl) fun f cdv A outer s H E o =>
  ⟨_, (dss_cons (ds_if (DW.dt (dw_or (dt_not (dt_of (de_isi2A (T := "list") (U := "tuple") ["Spots"] T.cT T.b_isinstance T.b_list T.b_tuple (de_var 0)))) (dw_or1 (dt_not (dt_chain o_le o_le de_int (de_callB
    c_len T.b_len (da_b (de_var 0) da_nil)) de_int))))) (dss_one (ds_ret de_bl)) dss_nil) (dss_cons (ds_if (DW.dt (dw_or (dt_not (dt_of (de_callB (c_all o) T.b_all (da_b (de_lc (own := [("_law_number",
    4)]) o (di_seq (de_var 0)) (blk_of (by rfl)) (fun _ _ _ _ _ => ⟨_, (dg_name 4 (XOk.blk o).nd)⟩) (fun _ _ _ _ _ => ⟨_, dts_nil⟩) (fun _ _ _ _ _ => ⟨_, (de_and (de_isiA (T := "int") ["Spots"] T.cT
    T.b_isinstance T.b_int (de_var 4)) (de_and (de_not (de_isiA (T := "bool") ["Spots"] T.cT T.b_isinstance T.b_bool (de_var 4))) (de_one (de_cmp o_gt (de_var 4) de_int))))⟩)) da_nil)))) (dw_or1 (dt_cmp
    o_gt (de_callB (c_sum o) T.b_sum (da_b (de_var 0) da_nil)) de_int)))) (dss_one (ds_ret de_bl)) dss_nil) (dss_cons (ds_for o (di_range1 T.b_range (da_f (de_callB (c_maxL o) T.b_max (da_b (de_var 0)
    da_nil)) da_nil)) (dg_name 1 o.nd) (dss_cons (ds_setLcR 2 (r' := .f) (.inl rfl) (own := [("_law_at", 3), ("_law_number", 4)]) o (di_enum T.b_enumerate (da_f (de_var 0) da_nil)) (blk_of (by rfl)) (fun
    _ _ _ _ _ => ⟨_, (dg_tup (XOk.blk o).calm (dgs_cons (dg_name 3 (XOk.blk o).nd) (dgs_cons (dg_name 4 (XOk.blk o).nd) dgs_nil)))⟩) (fun _ _ _ _ _ => ⟨_, (dts_one (dt_cmp o_gt (de_var 4) (de_var 1)))⟩)
    (fun _ _ _ _ _ => ⟨_, (de_var 3)⟩)) (dss_one (ds_if (dt_cmp (o_ne o) (de_var 2) (de_listRg2 o T.b_list T.b_range (de_var 1) (de_bin o_add (de_var 1) (de_callB c_len T.b_len (da_b (de_var 2)
    da_nil))))) (dss_one (ds_ret de_bl)) dss_nil)))) (dss_one (ds_ret de_bl)))))⟩
theorem b_l_can : ∀ (kV doc pm : Value) (an : Option Addr) (cdv ct : Value) (us : List Value), us.length = 1 → bindArgs (PySem.W.fnOf "_law_can" "_law_can" (defArgs s_l_can) (defBody s_l_can) (defScope s_l_can) .none kV doc pm an cdv ct) ⟨us, []⟩ = pure ((["_law_value"] : List Str).zip us) := fun _ _ _ _ _ _ us hl => match us, hl with | [_], _ => rfl
theorem d_p_fault (T : Top K mg) : DFn P w K mg base 4 "fault" s_p_fault ["value"] [.f] .f m_p_fault :=
  dfn_of (N := ["value"]) [.f] [.f] T.f_p_fault ⟨rfl, rfl, rfl, by decide, rfl, by decide, by decide⟩ rfl rfl (by decide) rfl (by first | exact .inl (.inl rfl) | exact .inl (.inr rfl) | exact .inr rfl) fun f cdv A outer s H E o =>
  ⟨_, (dss_cons (ds_if (dt_not (dt_of (de_call (d_p_is_counts T) o b_p_is_counts (da_f (de_var 0) da_nil)))) (dss_one ds_never) dss_nil) (dss_one (ds_ret (de_call (d_p_fault_of T) o b_p_fault_of (da_f
    (de_var 0) da_nil)))))⟩
theorem b_p_fault_k : ∀ (kV doc pm : Value) (an : Option Addr) (cdv ct : Value) (us : List Value), us.length = 1 → bindArgs (PySem.W.fnOf "fault" "fault" (defArgs s_p_fault) (defBody s_p_fault) (defScope s_p_fault) .none kV doc pm an cdv ct) ⟨[], (["value"] : List Str).zip us⟩ = pure ((["value"] : List Str).zip us) := fun _ _ _ _ _ _ us hl => match us, hl with | [_], _ => rfl
theorem d_p_want_many (T : Top K mg) : DFnD P w K mg base 3 "want_many" s_p_want_many ["value", "most", "least"] [.f, .f, .f] .f [.non, .int 0] m_p_want_many :=
  dfn_ofD (N := ["value", "most", "least"]) [.f, .f, .f] [.f, .f, .f] T.f_p_want_many ⟨rfl, rfl, rfl, by decide, rfl, by decide, by decide⟩ rfl rfl (by decide) rfl (by first | exact .inl (.inl rfl) | exact .inl (.inr rfl) | exact .inr rfl) fun f cdv A outer s H E o =>
  ⟨_, (dss_cons (ds_if (DW.dt (dw_or (dt_not (dt_of (de_call (d_p_is_count T) o b_p_is_count (da_f (de_var 0) da_nil)))) (dw_or1 (dt_cmp o_lt (de_var 0) (de_var 2))))) (dss_one ds_never) dss_nil) (dss_one
    (ds_if (DW.dt (dw_and (dt_cmp o_notN (de_var 1) de_non) (dw_and1 (dt_cmp o_gt (de_var 0) (de_var 1))))) (dss_one ds_never) dss_nil)))⟩
theorem d_p_row_of (T : Top K mg) : DFn P w K mg base 1 "row_of" s_p_row_of ["sizes"] [.f] .o m_p_row_of :=
  dfn_of (N := ["sizes", "found", "second", "size", "place"]) [.f, .o, .f, .f, .f] [.f, .o, .f, .f, .f] T.f_p_row_of ⟨rfl, rfl, rfl, by decide, rfl, by decide, by decide⟩ rfl rfl (by decide) rfl (by first | exact .inl (.inl rfl) | exact .inl (.inr rfl) | exact .inr rfl) fun f cdv A outer s H E o =>
  ⟨_, (dss_cons (ds_set 1 o (de_bin o_rep (de_lst (da_f de_int da_nil)) (de_ix (de_var 0) de_int))) (dss_cons (ds_for o (di_enum T.b_enumerate (da_f (de_var 0) da_nil)) (dg_tup o.calm (dgs_cons (dg_name 2
    o.nd) (dgs_cons (dg_name 3 o.nd) dgs_nil))) (dss_one (ds_for o (di_range2 T.b_range (da_f (de_var 2) (da_f (de_bin o_add (de_var 2) (de_var 3)) da_nil))) (dg_name 4 o.nd) (dss_one (ds_augix 1 (g :=
    fun i j => i + j) ip_add (de_var 4) de_int))))) (dss_one (ds_reto 1))))⟩
theorem b_p_row_of : ∀ (kV doc pm : Value) (an : Option Addr) (cdv ct : Value) (us : List Value), us.length = 1 → bindArgs (PySem.W.fnOf "row_of" "row_of" (defArgs s_p_row_of) (defBody s_p_row_of) (defScope s_p_row_of) .none kV doc pm an cdv ct) ⟨us, []⟩ = pure ((["sizes"] : List Str).zip us) := fun _ _ _ _ _ _ us hl => match us, hl with | [_], _ => rfl
theorem b_p_parts_of_0 : ∀ (kV doc pm : Value) (an : Option Addr) (cdv ct : Value) (us : List Value), us.length = 2 → bindArgs (PySem.W.fnOf "parts_of" "parts_of" (defArgs s_p_parts_of) (defBody s_p_parts_of) (defScope s_p_parts_of) .none kV doc pm an cdv ct) ⟨us, []⟩ = pure ((["many", "most"] : List Str).zip us) := fun _ _ _ _ _ _ us hl => match us, hl with | [_, _], _ => rfl
theorem d_p_parts_of_0 (T : Top K mg) : DFn P w K mg base 1 "parts_of" s_p_parts_of ["many", "most"] [.f, .f] .o m_p_parts_of_0 := dfn_stuck T.f_p_parts_of
theorem d_p_parts_of_1 (T : Top K mg) : DFn P w K mg base 2 "parts_of" s_p_parts_of ["many", "most"] [.f, .f] .o m_p_parts_of_1 :=
  dfn_of (N := ["many", "most", "found", "first", "rest"]) [.f, .f, .o, .f, .f] [.f, .f, .o, .f, .f] T.f_p_parts_of ⟨rfl, rfl, rfl, by decide, rfl, by decide, by decide⟩ rfl rfl (by decide) rfl (by first | exact .inl (.inl rfl) | exact .inl (.inr rfl) | exact .inr rfl) fun f cdv A outer s H E o =>
  ⟨_, (dss_cons (ds_if (dt_cmp (o_eq o) (de_var 0) de_int) (dss_one (ds_ret (de_lst (da_f ((de_lst da_nil)).toF da_nil)))) dss_nil) (dss_cons (ds_set 2 o (de_lst da_nil)) (dss_cons (ds_for o (di_rangeDn
    T.b_range (da_f (de_callB (c_min2 o) T.b_min (da_b (de_var 0) (da_b (de_var 1) da_nil))) (da_f de_int (da_f (de_un o_neg de_int) da_nil)))) (dg_name 3 o.nd) (dss_one (ds_ext 2 (de_lc (own :=
    [("rest", 4)]) o (di_seq ((de_call (d_p_parts_of_0 T) o b_p_parts_of_0 (da_f (de_bin o_sub (de_var 0) (de_var 3)) (da_f (de_bin o_sub (de_var 3) de_int) da_nil)))).toF) (blk_of (by rfl)) (fun _ _ _ _
    _ => ⟨_, (dg_name 4 (XOk.blk o).nd)⟩) (fun _ _ _ _ _ => ⟨_, dts_nil⟩) (fun _ _ _ _ _ => ⟨_, (de_bin o_add (de_lst (da_f (de_var 3) da_nil)) (de_var 4))⟩))))) (dss_one (ds_reto 2)))))⟩
theorem b_p_parts_of_1 : ∀ (kV doc pm : Value) (an : Option Addr) (cdv ct : Value) (us : List Value), us.length = 2 → bindArgs (PySem.W.fnOf "parts_of" "parts_of" (defArgs s_p_parts_of) (defBody s_p_parts_of) (defScope s_p_parts_of) .none kV doc pm an cdv ct) ⟨us, []⟩ = pure ((["many", "most"] : List Str).zip us) := fun _ _ _ _ _ _ us hl => match us, hl with | [_, _], _ => rfl
theorem d_p_parts_of_2 (T : Top K mg) : DFn P w K mg base 3 "parts_of" s_p_parts_of ["many", "most"] [.f, .f] .o m_p_parts_of_2 :=
  dfn_of (N := ["many", "most", "found", "first", "rest"]) [.f, .f, .o, .f, .f] [.f, .f, .o, .f, .f] T.f_p_parts_of ⟨rfl, rfl, rfl, by decide, rfl, by decide, by decide⟩ rfl rfl (by decide) rfl (by first | exact .inl (.inl rfl) | exact .inl (.inr rfl) | exact .inr rfl) fun f cdv A outer s H E o =>
  ⟨_, (dss_cons (ds_if (dt_cmp (o_eq o) (de_var 0) de_int) (dss_one (ds_ret (de_lst (da_f ((de_lst da_nil)).toF da_nil)))) dss_nil) (dss_cons (ds_set 2 o (de_lst da_nil)) (dss_cons (ds_for o (di_rangeDn
    T.b_range (da_f (de_callB (c_min2 o) T.b_min (da_b (de_var 0) (da_b (de_var 1) da_nil))) (da_f de_int (da_f (de_un o_neg de_int) da_nil)))) (dg_name 3 o.nd) (dss_one (ds_ext 2 (de_lc (own :=
    [("rest", 4)]) o (di_seq ((de_call (d_p_parts_of_1 T) o b_p_parts_of_1 (da_f (de_bin o_sub (de_var 0) (de_var 3)) (da_f (de_bin o_sub (de_var 3) de_int) da_nil)))).toF) (blk_of (by rfl)) (fun _ _ _ _
    _ => ⟨_, (dg_name 4 (XOk.blk o).nd)⟩) (fun _ _ _ _ _ => ⟨_, dts_nil⟩) (fun _ _ _ _ _ => ⟨_, (de_bin o_add (de_lst (da_f (de_var 3) da_nil)) (de_var 4))⟩))))) (dss_one (ds_reto 2)))))⟩
theorem b_p_parts_of_2 : ∀ (kV doc pm : Value) (an : Option Addr) (cdv ct : Value) (us : List Value), us.length = 2 → bindArgs (PySem.W.fnOf "parts_of" "parts_of" (defArgs s_p_parts_of) (defBody s_p_parts_of) (defScope s_p_parts_of) .none kV doc pm an cdv ct) ⟨us, []⟩ = pure ((["many", "most"] : List Str).zip us) := fun _ _ _ _ _ _ us hl => match us, hl with | [_, _], _ => rfl
theorem d_p_parts_of_3 (T : Top K mg) : DFn P w K mg base 4 "parts_of" s_p_parts_of ["many", "most"] [.f, .f] .o m_p_parts_of_3 :=
  dfn_of (N := ["many", "most", "found", "first", "rest"]) [.f, .f, .o, .f, .f] [.f, .f, .o, .f, .f] T.f_p_parts_of ⟨rfl, rfl, rfl, by decide, rfl, by decide, by decide⟩ rfl rfl (by decide) rfl (by first | exact .inl (.inl rfl) | exact .inl (.inr rfl) | exact .inr rfl) fun f cdv A outer s H E o =>
  ⟨_, (dss_cons (ds_if (dt_cmp (o_eq o) (de_var 0) de_int) (dss_one (ds_ret (de_lst (da_f ((de_lst da_nil)).toF da_nil)))) dss_nil) (dss_cons (ds_set 2 o (de_lst da_nil)) (dss_cons (ds_for o (di_rangeDn
    T.b_range (da_f (de_callB (c_min2 o) T.b_min (da_b (de_var 0) (da_b (de_var 1) da_nil))) (da_f de_int (da_f (de_un o_neg de_int) da_nil)))) (dg_name 3 o.nd) (dss_one (ds_ext 2 (de_lc (own :=
    [("rest", 4)]) o (di_seq ((de_call (d_p_parts_of_2 T) o b_p_parts_of_2 (da_f (de_bin o_sub (de_var 0) (de_var 3)) (da_f (de_bin o_sub (de_var 3) de_int) da_nil)))).toF) (blk_of (by rfl)) (fun _ _ _ _
    _ => ⟨_, (dg_name 4 (XOk.blk o).nd)⟩) (fun _ _ _ _ _ => ⟨_, dts_nil⟩) (fun _ _ _ _ _ => ⟨_, (de_bin o_add (de_lst (da_f (de_var 3) da_nil)) (de_var 4))⟩))))) (dss_one (ds_reto 2)))))⟩
theorem b_p_parts_of_3 : ∀ (kV doc pm : Value) (an : Option Addr) (cdv ct : Value) (us : List Value), us.length = 2 → bindArgs (PySem.W.fnOf "parts_of" "parts_of" (defArgs s_p_parts_of) (defBody s_p_parts_of) (defScope s_p_parts_of) .none kV doc pm an cdv ct) ⟨us, []⟩ = pure ((["many", "most"] : List Str).zip us) := fun _ _ _ _ _ _ us hl => match us, hl with | [_, _], _ => rfl
theorem d_p_parts_of_4 (T : Top K mg) : DFn P w K mg base 5 "parts_of" s_p_parts_of ["many", "most"] [.f, .f] .o m_p_parts_of_4 :=
  dfn_of (N := ["many", "most", "found", "first", "rest"]) [.f, .f, .o, .f, .f] [.f, .f, .o, .f, .f] T.f_p_parts_of ⟨rfl, rfl, rfl, by decide, rfl, by decide, by decide⟩ rfl rfl (by decide) rfl (by first | exact .inl (.inl rfl) | exact .inl (.inr rfl) | exact .inr rfl) fun f cdv A outer s H E o =>
  ⟨_, (dss_cons (ds_if (dt_cmp (o_eq o) (de_var 0) de_int) (dss_one (ds_ret (de_lst (da_f ((de_lst da_nil)).toF da_nil)))) dss_nil) (dss_cons (ds_set 2 o (de_lst da_nil)) (dss_cons (ds_for o (di_rangeDn
    T.b_range (da_f (de_callB (c_min2 o) T.b_min (da_b (de_var 0) (da_b (de_var 1) da_nil))) (da_f de_int (da_f (de_un o_neg de_int) da_nil)))) (dg_name 3 o.nd) (dss_one (ds_ext 2 (de_lc (own :=
    [("rest", 4)]) o (di_seq ((de_call (d_p_parts_of_3 T) o b_p_parts_of_3 (da_f (de_bin o_sub (de_var 0) (de_var 3)) (da_f (de_bin o_sub (de_var 3) de_int) da_nil)))).toF) (blk_of (by rfl)) (fun _ _ _ _
    _ => ⟨_, (dg_name 4 (XOk.blk o).nd)⟩) (fun _ _ _ _ _ => ⟨_, dts_nil⟩) (fun _ _ _ _ _ => ⟨_, (de_bin o_add (de_lst (da_f (de_var 3) da_nil)) (de_var 4))⟩))))) (dss_one (ds_reto 2)))))⟩
theorem b_p_parts_of_4 : ∀ (kV doc pm : Value) (an : Option Addr) (cdv ct : Value) (us : List Value), us.length = 2 → bindArgs (PySem.W.fnOf "parts_of" "parts_of" (defArgs s_p_parts_of) (defBody s_p_parts_of) (defScope s_p_parts_of) .none kV doc pm an cdv ct) ⟨us, []⟩ = pure ((["many", "most"] : List Str).zip us) := fun _ _ _ _ _ _ us hl => match us, hl with | [_, _], _ => rfl
theorem d_p_parts_of_5 (T : Top K mg) : DFn P w K mg base 6 "parts_of" s_p_parts_of ["many", "most"] [.f, .f] .o m_p_parts_of_5 :=
  dfn_of (N := ["many", "most", "found", "first", "rest"]) [.f, .f, .o, .f, .f] [.f, .f, .o, .f, .f] T.f_p_parts_of ⟨rfl, rfl, rfl, by decide, rfl, by decide, by decide⟩ rfl rfl (by decide) rfl (by first | exact .inl (.inl rfl) | exact .inl (.inr rfl) | exact .inr rfl) fun f cdv A outer s H E o =>
  ⟨_, (dss_cons (ds_if (dt_cmp (o_eq o) (de_var 0) de_int) (dss_one (ds_ret (de_lst (da_f ((de_lst da_nil)).toF da_nil)))) dss_nil) (dss_cons (ds_set 2 o (de_lst da_nil)) (dss_cons (ds_for o (di_rangeDn
    T.b_range (da_f (de_callB (c_min2 o) T.b_min (da_b (de_var 0) (da_b (de_var 1) da_nil))) (da_f de_int (da_f (de_un o_neg de_int) da_nil)))) (dg_name 3 o.nd) (dss_one (ds_ext 2 (de_lc (own :=
    [("rest", 4)]) o (di_seq ((de_call (d_p_parts_of_4 T) o b_p_parts_of_4 (da_f (de_bin o_sub (de_var 0) (de_var 3)) (da_f (de_bin o_sub (de_var 3) de_int) da_nil)))).toF) (blk_of (by rfl)) (fun _ _ _ _
    _ => ⟨_, (dg_name 4 (XOk.blk o).nd)⟩) (fun _ _ _ _ _ => ⟨_, dts_nil⟩) (fun _ _ _ _ _ => ⟨_, (de_bin o_add (de_lst (da_f (de_var 3) da_nil)) (de_var 4))⟩))))) (dss_one (ds_reto 2)))))⟩
theorem b_p_parts_of_5 : ∀ (kV doc pm : Value) (an : Option Addr) (cdv ct : Value) (us : List Value), us.length = 2 → bindArgs (PySem.W.fnOf "parts_of" "parts_of" (defArgs s_p_parts_of) (defBody s_p_parts_of) (defScope s_p_parts_of) .none kV doc pm an cdv ct) ⟨us, []⟩ = pure ((["many", "most"] : List Str).zip us) := fun _ _ _ _ _ _ us hl => match us, hl with | [_, _], _ => rfl
theorem d_p_parts_of_6 (T : Top K mg) : DFn P w K mg base 7 "parts_of" s_p_parts_of ["many", "most"] [.f, .f] .o m_p_parts_of_6 :=
  dfn_of (N := ["many", "most", "found", "first", "rest"]) [.f, .f, .o, .f, .f] [.f, .f, .o, .f, .f] T.f_p_parts_of ⟨rfl, rfl, rfl, by decide, rfl, by decide, by decide⟩ rfl rfl (by decide) rfl (by first | exact .inl (.inl rfl) | exact .inl (.inr rfl) | exact .inr rfl) fun f cdv A outer s H E o =>
  ⟨_, (dss_cons (ds_if (dt_cmp (o_eq o) (de_var 0) de_int) (dss_one (ds_ret (de_lst (da_f ((de_lst da_nil)).toF da_nil)))) dss_nil) (dss_cons (ds_set 2 o (de_lst da_nil)) (dss_cons (ds_for o (di_rangeDn
    T.b_range (da_f (de_callB (c_min2 o) T.b_min (da_b (de_var 0) (da_b (de_var 1) da_nil))) (da_f de_int (da_f (de_un o_neg de_int) da_nil)))) (dg_name 3 o.nd) (dss_one (ds_ext 2 (de_lc (own :=
    [("rest", 4)]) o (di_seq ((de_call (d_p_parts_of_5 T) o b_p_parts_of_5 (da_f (de_bin o_sub (de_var 0) (de_var 3)) (da_f (de_bin o_sub (de_var 3) de_int) da_nil)))).toF) (blk_of (by rfl)) (fun _ _ _ _
    _ => ⟨_, (dg_name 4 (XOk.blk o).nd)⟩) (fun _ _ _ _ _ => ⟨_, dts_nil⟩) (fun _ _ _ _ _ => ⟨_, (de_bin o_add (de_lst (da_f (de_var 3) da_nil)) (de_var 4))⟩))))) (dss_one (ds_reto 2)))))⟩
theorem b_p_parts_of_6 : ∀ (kV doc pm : Value) (an : Option Addr) (cdv ct : Value) (us : List Value), us.length = 2 → bindArgs (PySem.W.fnOf "parts_of" "parts_of" (defArgs s_p_parts_of) (defBody s_p_parts_of) (defScope s_p_parts_of) .none kV doc pm an cdv ct) ⟨us, []⟩ = pure ((["many", "most"] : List Str).zip us) := fun _ _ _ _ _ _ us hl => match us, hl with | [_, _], _ => rfl
theorem d_p_parts_of_7 (T : Top K mg) : DFn P w K mg base 8 "parts_of" s_p_parts_of ["many", "most"] [.f, .f] .o m_p_parts_of_7 :=
  dfn_of (N := ["many", "most", "found", "first", "rest"]) [.f, .f, .o, .f, .f] [.f, .f, .o, .f, .f] T.f_p_parts_of ⟨rfl, rfl, rfl, by decide, rfl, by decide, by decide⟩ rfl rfl (by decide) rfl (by first | exact .inl (.inl rfl) | exact .inl (.inr rfl) | exact .inr rfl) fun f cdv A outer s H E o =>
  ⟨_, (dss_cons (ds_if (dt_cmp (o_eq o) (de_var 0) de_int) (dss_one (ds_ret (de_lst (da_f ((de_lst da_nil)).toF da_nil)))) dss_nil) (dss_cons (ds_set 2 o (de_lst da_nil)) (dss_cons (ds_for o (di_rangeDn
    T.b_range (da_f (de_callB (c_min2 o) T.b_min (da_b (de_var 0) (da_b (de_var 1) da_nil))) (da_f de_int (da_f (de_un o_neg de_int) da_nil)))) (dg_name 3 o.nd) (dss_one (ds_ext 2 (de_lc (own :=
    [("rest", 4)]) o (di_seq ((de_call (d_p_parts_of_6 T) o b_p_parts_of_6 (da_f (de_bin o_sub (de_var 0) (de_var 3)) (da_f (de_bin o_sub (de_var 3) de_int) da_nil)))).toF) (blk_of (by rfl)) (fun _ _ _ _
    _ => ⟨_, (dg_name 4 (XOk.blk o).nd)⟩) (fun _ _ _ _ _ => ⟨_, dts_nil⟩) (fun _ _ _ _ _ => ⟨_, (de_bin o_add (de_lst (da_f (de_var 3) da_nil)) (de_var 4))⟩))))) (dss_one (ds_reto 2)))))⟩
theorem b_p_parts_of_7 : ∀ (kV doc pm : Value) (an : Option Addr) (cdv ct : Value) (us : List Value), us.length = 2 → bindArgs (PySem.W.fnOf "parts_of" "parts_of" (defArgs s_p_parts_of) (defBody s_p_parts_of) (defScope s_p_parts_of) .none kV doc pm an cdv ct) ⟨us, []⟩ = pure ((["many", "most"] : List Str).zip us) := fun _ _ _ _ _ _ us hl => match us, hl with | [_, _], _ => rfl
theorem d_p_parts_of_8 (T : Top K mg) : DFn P w K mg base 9 "parts_of" s_p_parts_of ["many", "most"] [.f, .f] .o m_p_parts_of_8 :=
  dfn_of (N := ["many", "most", "found", "first", "rest"]) [.f, .f, .o, .f, .f] [.f, .f, .o, .f, .f] T.f_p_parts_of ⟨rfl, rfl, rfl, by decide, rfl, by decide, by decide⟩ rfl rfl (by decide) rfl (by first | exact .inl (.inl rfl) | exact .inl (.inr rfl) | exact .inr rfl) fun f cdv A outer s H E o =>
  ⟨_, (dss_cons (ds_if (dt_cmp (o_eq o) (de_var 0) de_int) (dss_one (ds_ret (de_lst (da_f ((de_lst da_nil)).toF da_nil)))) dss_nil) (dss_cons (ds_set 2 o (de_lst da_nil)) (dss_cons (ds_for o (di_rangeDn
    T.b_range (da_f (de_callB (c_min2 o) T.b_min (da_b (de_var 0) (da_b (de_var 1) da_nil))) (da_f de_int (da_f (de_un o_neg de_int) da_nil)))) (dg_name 3 o.nd) (dss_one (ds_ext 2 (de_lc (own :=
    [("rest", 4)]) o (di_seq ((de_call (d_p_parts_of_7 T) o b_p_parts_of_7 (da_f (de_bin o_sub (de_var 0) (de_var 3)) (da_f (de_bin o_sub (de_var 3) de_int) da_nil)))).toF) (blk_of (by rfl)) (fun _ _ _ _
    _ => ⟨_, (dg_name 4 (XOk.blk o).nd)⟩) (fun _ _ _ _ _ => ⟨_, dts_nil⟩) (fun _ _ _ _ _ => ⟨_, (de_bin o_add (de_lst (da_f (de_var 3) da_nil)) (de_var 4))⟩))))) (dss_one (ds_reto 2)))))⟩
theorem b_p_parts_of_8 : ∀ (kV doc pm : Value) (an : Option Addr) (cdv ct : Value) (us : List Value), us.length = 2 → bindArgs (PySem.W.fnOf "parts_of" "parts_of" (defArgs s_p_parts_of) (defBody s_p_parts_of) (defScope s_p_parts_of) .none kV doc pm an cdv ct) ⟨us, []⟩ = pure ((["many", "most"] : List Str).zip us) := fun _ _ _ _ _ _ us hl => match us, hl with | [_, _], _ => rfl
theorem d_p_parts_of_9 (T : Top K mg) : DFn P w K mg base 10 "parts_of" s_p_parts_of ["many", "most"] [.f, .f] .o m_p_parts_of_9 :=
  dfn_of (N := ["many", "most", "found", "first", "rest"]) [.f, .f, .o, .f, .f] [.f, .f, .o, .f, .f] T.f_p_parts_of ⟨rfl, rfl, rfl, by decide, rfl, by decide, by decide⟩ rfl rfl (by decide) rfl (by first | exact .inl (.inl rfl) | exact .inl (.inr rfl) | exact .inr rfl) fun f cdv A outer s H E o =>
  ⟨_, (dss_cons (ds_if (dt_cmp (o_eq o) (de_var 0) de_int) (dss_one (ds_ret (de_lst (da_f ((de_lst da_nil)).toF da_nil)))) dss_nil) (dss_cons (ds_set 2 o (de_lst da_nil)) (dss_cons (ds_for o (di_rangeDn
    T.b_range (da_f (de_callB (c_min2 o) T.b_min (da_b (de_var 0) (da_b (de_var 1) da_nil))) (da_f de_int (da_f (de_un o_neg de_int) da_nil)))) (dg_name 3 o.nd) (dss_one (ds_ext 2 (de_lc (own :=
    [("rest", 4)]) o (di_seq ((de_call (d_p_parts_of_8 T) o b_p_parts_of_8 (da_f (de_bin o_sub (de_var 0) (de_var 3)) (da_f (de_bin o_sub (de_var 3) de_int) da_nil)))).toF) (blk_of (by rfl)) (fun _ _ _ _
    _ => ⟨_, (dg_name 4 (XOk.blk o).nd)⟩) (fun _ _ _ _ _ => ⟨_, dts_nil⟩) (fun _ _ _ _ _ => ⟨_, (de_bin o_add (de_lst (da_f (de_var 3) da_nil)) (de_var 4))⟩))))) (dss_one (ds_reto 2)))))⟩
theorem b_p_parts_of_9 : ∀ (kV doc pm : Value) (an : Option Addr) (cdv ct : Value) (us : List Value), us.length = 2 → bindArgs (PySem.W.fnOf "parts_of" "parts_of" (defArgs s_p_parts_of) (defBody s_p_parts_of) (defScope s_p_parts_of) .none kV doc pm an cdv ct) ⟨us, []⟩ = pure ((["many", "most"] : List Str).zip us) := fun _ _ _ _ _ _ us hl => match us, hl with | [_, _], _ => rfl
theorem d_p_parts_of_10 (T : Top K mg) : DFn P w K mg base 11 "parts_of" s_p_parts_of ["many", "most"] [.f, .f] .o m_p_parts_of_10 :=
  dfn_of (N := ["many", "most", "found", "first", "rest"]) [.f, .f, .o, .f, .f] [.f, .f, .o, .f, .f] T.f_p_parts_of ⟨rfl, rfl, rfl, by decide, rfl, by decide, by decide⟩ rfl rfl (by decide) rfl (by first | exact .inl (.inl rfl) | exact .inl (.inr rfl) | exact .inr rfl) fun f cdv A outer s H E o =>
  ⟨_, (dss_cons (ds_if (dt_cmp (o_eq o) (de_var 0) de_int) (dss_one (ds_ret (de_lst (da_f ((de_lst da_nil)).toF da_nil)))) dss_nil) (dss_cons (ds_set 2 o (de_lst da_nil)) (dss_cons (ds_for o (di_rangeDn
    T.b_range (da_f (de_callB (c_min2 o) T.b_min (da_b (de_var 0) (da_b (de_var 1) da_nil))) (da_f de_int (da_f (de_un o_neg de_int) da_nil)))) (dg_name 3 o.nd) (dss_one (ds_ext 2 (de_lc (own :=
    [("rest", 4)]) o (di_seq ((de_call (d_p_parts_of_9 T) o b_p_parts_of_9 (da_f (de_bin o_sub (de_var 0) (de_var 3)) (da_f (de_bin o_sub (de_var 3) de_int) da_nil)))).toF) (blk_of (by rfl)) (fun _ _ _ _
    _ => ⟨_, (dg_name 4 (XOk.blk o).nd)⟩) (fun _ _ _ _ _ => ⟨_, dts_nil⟩) (fun _ _ _ _ _ => ⟨_, (de_bin o_add (de_lst (da_f (de_var 3) da_nil)) (de_var 4))⟩))))) (dss_one (ds_reto 2)))))⟩
theorem b_p_parts_of_10 : ∀ (kV doc pm : Value) (an : Option Addr) (cdv ct : Value) (us : List Value), us.length = 2 → bindArgs (PySem.W.fnOf "parts_of" "parts_of" (defArgs s_p_parts_of) (defBody s_p_parts_of) (defScope s_p_parts_of) .none kV doc pm an cdv ct) ⟨us, []⟩ = pure ((["many", "most"] : List Str).zip us) := fun _ _ _ _ _ _ us hl => match us, hl with | [_, _], _ => rfl
theorem d_p_parts_of_11 (T : Top K mg) : DFn P w K mg base 12 "parts_of" s_p_parts_of ["many", "most"] [.f, .f] .o m_p_parts_of_11 :=
  dfn_of (N := ["many", "most", "found", "first", "rest"]) [.f, .f, .o, .f, .f] [.f, .f, .o, .f, .f] T.f_p_parts_of ⟨rfl, rfl, rfl, by decide, rfl, by decide, by decide⟩ rfl rfl (by decide) rfl (by first | exact .inl (.inl rfl) | exact .inl (.inr rfl) | exact .inr rfl) fun f cdv A outer s H E o =>
  ⟨_, (dss_cons (ds_if (dt_cmp (o_eq o) (de_var 0) de_int) (dss_one (ds_ret (de_lst (da_f ((de_lst da_nil)).toF da_nil)))) dss_nil) (dss_cons (ds_set 2 o (de_lst da_nil)) (dss_cons (ds_for o (di_rangeDn
    T.b_range (da_f (de_callB (c_min2 o) T.b_min (da_b (de_var 0) (da_b (de_var 1) da_nil))) (da_f de_int (da_f (de_un o_neg de_int) da_nil)))) (dg_name 3 o.nd) (dss_one (ds_ext 2 (de_lc (own :=
    [("rest", 4)]) o (di_seq ((de_call (d_p_parts_of_10 T) o b_p_parts_of_10 (da_f (de_bin o_sub (de_var 0) (de_var 3)) (da_f (de_bin o_sub (de_var 3) de_int) da_nil)))).toF) (blk_of (by rfl)) (fun _ _ _
    _ _ => ⟨_, (dg_name 4 (XOk.blk o).nd)⟩) (fun _ _ _ _ _ => ⟨_, dts_nil⟩) (fun _ _ _ _ _ => ⟨_, (de_bin o_add (de_lst (da_f (de_var 3) da_nil)) (de_var 4))⟩))))) (dss_one (ds_reto 2)))))⟩
theorem b_p_parts_of_11 : ∀ (kV doc pm : Value) (an : Option Addr) (cdv ct : Value) (us : List Value), us.length = 2 → bindArgs (PySem.W.fnOf "parts_of" "parts_of" (defArgs s_p_parts_of) (defBody s_p_parts_of) (defScope s_p_parts_of) .none kV doc pm an cdv ct) ⟨us, []⟩ = pure ((["many", "most"] : List Str).zip us) := fun _ _ _ _ _ _ us hl => match us, hl with | [_, _], _ => rfl
theorem d_p_rows_of (T : Top K mg) : DFn P w K mg base 13 "rows_of" s_p_rows_of ["many"] [.f] .o m_p_rows_of :=
  dfn_of (N := ["many", "sizes"]) [.f, .f] [.f, .f] T.f_p_rows_of ⟨rfl, rfl, rfl, by decide, rfl, by decide, by decide⟩ rfl rfl (by decide) rfl (by first | exact .inl (.inl rfl) | exact .inl (.inr rfl) | exact .inr rfl) fun f cdv A outer s H E o =>
  ⟨_, (dss_cons (ds_expr (de_callD (ks := [.f, .f, .f]) 3 2 (d_p_want_many T) o (fun _ _ _ _ _ _ _ us its h1 h2 => match us, its, h1, h2 with | [_, _, _], [_, _], _, _ => ⟨_, rfl, rfl⟩) (da_f (de_var 0)
    (da_f (de_glob T.c_MOST_SUM fun _ => .int _) (da_f de_int da_nil))))) (dss_one (ds_ret (de_callB (c_sortB o) T.b_sorted (da_b (de_lc (own := [("sizes", 1)]) o (di_seq ((de_call (d_p_parts_of_11 T) o
    b_p_parts_of_11 (da_f (de_var 0) (da_f (de_glob T.c_MOST_PLACES fun _ => .int _) da_nil)))).toF) (blk_of (by rfl)) (fun _ _ _ _ _ => ⟨_, (dg_name 1 (XOk.blk o).nd)⟩) (fun _ _ _ _ _ => ⟨_, dts_nil⟩)
    (fun _ _ _ _ _ => ⟨_, ((de_call (d_p_row_of T) (XOk.blk o) b_p_row_of (da_f (de_var 1) da_nil))).toF⟩)) da_nil)))))⟩
theorem b_p_rows_of : ∀ (kV doc pm : Value) (an : Option Addr) (cdv ct : Value) (us : List Value), us.length = 1 → bindArgs (PySem.W.fnOf "rows_of" "rows_of" (defArgs s_p_rows_of) (defBody s_p_rows_of) (defScope s_p_rows_of) .none kV doc pm an cdv ct) ⟨us, []⟩ = pure ((["many"] : List Str).zip us) := fun _ _ _ _ _ _ us hl => match us, hl with | [_], _ => rfl
theorem d_p_many_through (T : Top K mg) : DFn P w K mg base 7 "many_through" s_p_many_through ["points", "degree"] [.f, .f] .f m_p_many_through :=
  dfn_of (N := ["points", "degree"]) [.f, .f] [.f, .f] T.f_p_many_through ⟨rfl, rfl, rfl, by decide, rfl, by decide, by decide⟩ rfl rfl (by decide) rfl (by first | exact .inl (.inl rfl) | exact .inl (.inr rfl) | exact .inr rfl) fun f cdv A outer s H E o =>
  ⟨_, (dss_one (ds_ret (de_bin o_sub (de_callB c_len T.b_len (da_b (de_call (d_p_triples_of T) o b_p_triples_of (da_f (de_var 1) da_nil)) da_nil)) (de_call (d_p_rank_at T) o b_p_rank_at (da_f (de_var 0)
    (da_f (de_var 1) da_nil))))))⟩
theorem b_p_many_through : ∀ (kV doc pm : Value) (an : Option Addr) (cdv ct : Value) (us : List Value), us.length = 2 → bindArgs (PySem.W.fnOf "many_through" "many_through" (defArgs s_p_many_through) (defBody s_p_many_through) (defScope s_p_many_through) .none kV doc pm an cdv ct) ⟨us, []⟩ = pure ((["points", "degree"] : List Str).zip us) := fun _ _ _ _ _ _ us hl => match us, hl with | [_, _], _ => rfl
theorem d_p_top_of (T : Top K mg) : DFn P w K mg base 8 "top_of" s_p_top_of ["points"] [.f] .f m_p_top_of :=
  dfn_of (N := ["points", "degree"]) [.f, .f] [.f, .f] T.f_p_top_of ⟨rfl, rfl, rfl, by decide, rfl, by decide, by decide⟩ rfl rfl (by decide) rfl (by first | exact .inl (.inl rfl) | exact .inl (.inr rfl) | exact .inr rfl) fun f cdv A outer s H E o =>
  ⟨_, (dss_cons (ds_set 1 o de_int) (dss_cons (ds_while o (dt_cmp (o_eq o) (de_call (d_p_many_through T) o b_p_many_through (da_f (de_var 0) (da_f (de_var 1) da_nil))) de_int) (dss_one (ds_set 1 o (de_bin
    o_add (de_var 1) de_int)))) (dss_one (ds_ret (de_var 1)))))⟩
theorem b_p_top_of : ∀ (kV doc pm : Value) (an : Option Addr) (cdv ct : Value) (us : List Value), us.length = 1 → bindArgs (PySem.W.fnOf "top_of" "top_of" (defArgs s_p_top_of) (defBody s_p_top_of) (defScope s_p_top_of) .none kV doc pm an cdv ct) ⟨us, []⟩ = pure ((["points"] : List Str).zip us) := fun _ _ _ _ _ _ us hl => match us, hl with | [_], _ => rfl
theorem d_p_top (T : Top K mg) : DFn P w K mg base 9 "top" s_p_top ["spots"] [.f] .f m_p_top :=
  dfn_of (N := ["spots"]) [.f] [.f] T.f_p_top ⟨rfl, rfl, rfl, by decide, rfl, by decide, by decide⟩ rfl rfl (by decide) rfl (by first | exact .inl (.inl rfl) | exact .inl (.inr rfl) | exact .inr rfl) fun f cdv A outer s H E o =>
  ⟨_, (dss_cons (ds_expr (de_call (d_p_want_spots T) o b_p_want_spots (da_f (de_var 0) da_nil))) (dss_one (ds_ret (de_call (d_p_top_of T) o b_p_top_of (da_f (de_fld "Spots" ["own_points"] T.cl_Spots (de_var
    0)) da_nil)))))⟩
theorem b_p_top : ∀ (kV doc pm : Value) (an : Option Addr) (cdv ct : Value) (us : List Value), us.length = 1 → bindArgs (PySem.W.fnOf "top" "top" (defArgs s_p_top) (defBody s_p_top) (defScope s_p_top) .none kV doc pm an cdv ct) ⟨us, []⟩ = pure ((["spots"] : List Str).zip us) := fun _ _ _ _ _ _ us hl => match us, hl with | [_], _ => rfl
theorem d_p_end (T : Top K mg) : DFn P w K mg base 8 "end" s_p_end ["spots"] [.f] .f m_p_end :=
  dfn_of (N := ["spots"]) [.f] [.f] T.f_p_end ⟨rfl, rfl, rfl, by decide, rfl, by decide, by decide⟩ rfl rfl (by decide) rfl (by first | exact .inl (.inl rfl) | exact .inl (.inr rfl) | exact .inr rfl) fun f cdv A outer s H E o =>
  ⟨_, (dss_cons (ds_expr (de_call (d_p_want_spots T) o b_p_want_spots (da_f (de_var 0) da_nil))) (dss_one (ds_ret (de_bin o_sub (de_callB c_len T.b_len (da_b (de_call (d_p_row_by T) o b_p_row_by (da_f
    (de_fld "Spots" ["own_points"] T.cl_Spots (de_var 0)) da_nil)) da_nil)) de_int))))⟩
theorem b_p_end : ∀ (kV doc pm : Value) (an : Option Addr) (cdv ct : Value) (us : List Value), us.length = 1 → bindArgs (PySem.W.fnOf "end" "end" (defArgs s_p_end) (defBody s_p_end) (defScope s_p_end) .none kV doc pm an cdv ct) ⟨us, []⟩ = pure ((["spots"] : List Str).zip us) := fun _ _ _ _ _ _ us hl => match us, hl with | [_], _ => rfl
theorem d_p_stair_points (T : Top K mg) : DFn P w K mg base 1 "stair_points" s_p_stair_points ["row"] [.f] .o m_p_stair_points :=
  dfn_of (N := ["row", "found", "place", "number", "second"]) [.f, .o, .f, .f, .f] [.f, .o, .f, .f, .f] T.f_p_stair_points ⟨rfl, rfl, rfl, by decide, rfl, by decide, by decide⟩ rfl rfl (by decide) rfl (by first | exact .inl (.inl rfl) | exact .inl (.inr rfl) | exact .inr rfl) fun f cdv A outer s H E o =>
  ⟨_, (dss_cons (ds_set 1 o (de_lst da_nil)) (dss_cons (ds_for o (di_enum T.b_enumerate (da_f (de_var 0) da_nil)) (dg_tup o.calm (dgs_cons (dg_name 2 o.nd) (dgs_cons (dg_name 3 o.nd) dgs_nil))) (dss_one
    (ds_ext 1 (de_lc (own := [("second", 4)]) o (di_range1 T.b_range (da_f (de_var 3) da_nil)) (blk_of (by rfl)) (fun _ _ _ _ _ => ⟨_, (dg_name 4 (XOk.blk o).nd)⟩) (fun _ _ _ _ _ => ⟨_, dts_nil⟩) (fun _
    _ _ _ _ => ⟨_, (de_tup (da_f (de_bin o_sub (de_var 2) (de_var 4)) (da_f (de_var 4) (da_f de_int da_nil))))⟩))))) (dss_one (ds_reto 1))))⟩
theorem b_p_stair_points : ∀ (kV doc pm : Value) (an : Option Addr) (cdv ct : Value) (us : List Value), us.length = 1 → bindArgs (PySem.W.fnOf "stair_points" "stair_points" (defArgs s_p_stair_points) (defBody s_p_stair_points) (defScope s_p_stair_points) .none kV doc pm an cdv ct) ⟨us, []⟩ = pure ((["row"] : List Str).zip us) := fun _ _ _ _ _ _ us hl => match us, hl with | [_], _ => rfl
theorem d_p_stair (T : Top K mg) : DFn P w K mg base 8 "stair" s_p_stair ["row"] [.f] .o m_p_stair :=
  dfn_of (N := ["row"]) [.f] [.f] T.f_p_stair ⟨rfl, rfl, rfl, by decide, rfl, by decide, by decide⟩ rfl rfl (by decide) rfl (by first | exact .inl (.inl rfl) | exact .inl (.inr rfl) | exact .inr rfl) fun f cdv A outer s H E o =>
  ⟨_, (dss_one (ds_ret (de_new (d_i_Spots T) o b_i_Spots (da_f ((de_call (d_p_stair_points T) o b_p_stair_points (da_f ((de_call (d_p_want_row T) o b_p_want_row (da_f (de_var 0) da_nil))).toF da_nil))).toF
    da_nil))))⟩
theorem b_p_stair : ∀ (kV doc pm : Value) (an : Option Addr) (cdv ct : Value) (us : List Value), us.length = 1 → bindArgs (PySem.W.fnOf "stair" "stair" (defArgs s_p_stair) (defBody s_p_stair) (defScope s_p_stair) .none kV doc pm an cdv ct) ⟨us, []⟩ = pure ((["row"] : List Str).zip us) := fun _ _ _ _ _ _ us hl => match us, hl with | [_], _ => rfl
theorem d_l_more (T : Top K mg) : DFn P w K mg base 1 "_law_more" s_l_more ["_law_less", "_law_numbers"] [.f, .f] .f m_l_more :=
  dfn_of (N := ["_law_less", "_law_numbers", "_law_found", "_law_at"]) [.f, .f, .o, .f] [.f, .f, .o, .f] T.f_l_more ⟨rfl, rfl, rfl, by decide, rfl, by decide, by decide⟩ rfl rfl (by decide) rfl (by first | exact .inl (.inl rfl) | exact .inl (.inr rfl) | exact .inr rfl) fun f cdv A outer s H E o =>
  ⟨_, (dss_cons (ds_set 2 o (de_lst (da_f (de_cmp (o_eq o) (de_var 1) (de_bin o_add (de_var 0) (de_lst (da_f de_int da_nil)))) da_nil))) (dss_cons (ds_for o (di_range1 T.b_range (da_f (de_callB c_len T.b_len
    (da_b (de_var 0) da_nil)) da_nil)) (dg_name 3 o.nd) (dss_one (ds_app 2 (de_cmp (o_eq o) (de_var 1) (de_bin o_add (de_bin o_add (de_slice (de_var 0) do_none (do_some (de_var 3))) (de_lst (da_f (de_bin
    o_add (de_ix (de_var 0) (de_var 3)) de_int) da_nil))) (de_slice (de_var 0) (do_some (de_bin o_add (de_var 3) de_int)) do_none)))))) (dss_one (ds_ret (de_callB (c_anyA o) T.b_any (da_b (de_varo 2)
    da_nil))))))⟩
theorem b_l_more : ∀ (kV doc pm : Value) (an : Option Addr) (cdv ct : Value) (us : List Value), us.length = 2 → bindArgs (PySem.W.fnOf "_law_more" "_law_more" (defArgs s_l_more) (defBody s_l_more) (defScope s_l_more) .none kV doc pm an cdv ct) ⟨us, []⟩ = pure ((["_law_less", "_law_numbers"] : List Str).zip us) := fun _ _ _ _ _ _ us hl => match us, hl with | [_, _], _ => rfl
theorem d_p_box_row (T : Top K mg) : DFn P w K mg base 1 "box_row" s_p_box_row ["first", "second"] [.f, .f] .o m_p_box_row :=
  dfn_of (N := ["first", "second", "both", "place"]) [.f, .f, .f, .f] [.f, .f, .f, .f] T.f_p_box_row ⟨rfl, rfl, rfl, by decide, rfl, by decide, by decide⟩ rfl rfl (by decide) rfl (by first | exact .inl (.inl rfl) | exact .inl (.inr rfl) | exact .inr rfl) fun f cdv A outer s H E o =>
  ⟨_, (dss_cons (ds_set 2 o (de_bin o_add (de_var 0) (de_var 1))) (dss_one (ds_ret (de_lc (own := [("place", 3)]) o (di_range1 T.b_range (da_f (de_bin o_sub (de_var 2) de_int) da_nil)) (blk_of (by rfl)) (fun
    _ _ _ _ _ => ⟨_, (dg_name 3 (XOk.blk o).nd)⟩) (fun _ _ _ _ _ => ⟨_, dts_nil⟩) (fun _ _ _ _ _ => ⟨_, (de_callB (c_min4 (XOk.blk o)) T.b_min (da_b (de_bin o_add (de_var 3) de_int) (da_b (de_var 0)
    (da_b (de_var 1) (da_b (de_bin o_sub (de_bin o_sub (de_var 2) de_int) (de_var 3)) da_nil)))))⟩)))))⟩
theorem b_p_box_row : ∀ (kV doc pm : Value) (an : Option Addr) (cdv ct : Value) (us : List Value), us.length = 2 → bindArgs (PySem.W.fnOf "box_row" "box_row" (defArgs s_p_box_row) (defBody s_p_box_row) (defScope s_p_box_row) .none kV doc pm an cdv ct) ⟨us, []⟩ = pure ((["first", "second"] : List Str).zip us) := fun _ _ _ _ _ _ us hl => match us, hl with | [_, _], _ => rfl
theorem d_p_box_of (T : Top K mg) : DFn P w K mg base 6 "box_of" s_p_box_of ["row"] [.f] .f m_p_box_of :=
  dfn_of (N := ["row", "numbers", "side", "other"]) [.f, .f, .f, .f] [.f, .f, .f, .f] T.f_p_box_of ⟨rfl, rfl, rfl, by decide, rfl, by decide, by decide⟩ rfl rfl (by decide) rfl (by first | exact .inl (.inl rfl) | exact .inl (.inr rfl) | exact .inr rfl) fun f cdv A outer s H E o =>
  ⟨_, (dss_cons (ds_set 1 o ((de_call (d_p_want_row T) o b_p_want_row (da_f (de_var 0) da_nil))).toF) (dss_cons (ds_set 2 o (de_callB (c_maxL o) T.b_max (da_b (de_var 1) da_nil))) (dss_cons (ds_set 3 o
    (de_bin o_sub (de_bin o_add (de_callB c_len T.b_len (da_b (de_var 1) da_nil)) de_int) (de_var 2))) (dss_one (ds_ret (de_if (DW.dt (dw_and (dt_cmp o_ge (de_var 3) (de_var 2)) (dw_and1 (dt_cmp (o_eq o)
    (de_call (d_p_box_row T) o b_p_box_row (da_f (de_var 2) (da_f (de_var 3) da_nil))) (de_var 1))))) (de_tup (da_f (de_var 2) (da_f (de_var 3) da_nil))) de_non))))))⟩
theorem b_p_box_of : ∀ (kV doc pm : Value) (an : Option Addr) (cdv ct : Value) (us : List Value), us.length = 1 → bindArgs (PySem.W.fnOf "box_of" "box_of" (defArgs s_p_box_of) (defBody s_p_box_of) (defScope s_p_box_of) .none kV doc pm an cdv ct) ⟨us, []⟩ = pure ((["row"] : List Str).zip us) := fun _ _ _ _ _ _ us hl => match us, hl with | [_], _ => rfl
theorem d_l_right (T : Top K mg) : DFn P w K mg base 14 "_law_right" s_l_right ["_law_pot_here"] [.p] .f m_l_right :=
  dfn_of (N := ["_law_pot_here", "_law_points_here", "_law_spots", "_law_ahead", "_law_told_here", "_law_sizes", "_law_many", "_law_on", "_law_flat", "_law_here", "_law_point", "_law_at"]) [.p, .f, .f, .f, .f, .f, .f, .f, .f, .f, .f, .f] [.p, .f, .f, .f, .f, .f, .f, .f, .f, .f, .f, .f] T.f_l_right ⟨rfl, rfl, rfl, by decide, rfl, by decide, by decide⟩ rfl rfl (by decide) rfl (by first | exact .inl (.inl rfl) | exact .inl (.inr rfl) | exact .inr rfl) fun f cdv A outer s H E o =>
  ⟨_, (dss_cons (ds_set 1 o (de_call (d_l_points T) o b_l_points (da_p 0 da_nil))) (dss_cons (ds_par 2 3 o ((de_new (d_i_Spots T) o b_i_Spots (da_f (de_var 1) da_nil))).toF ((de_lst da_nil)).toF) (dss_cons
    (ds_set 4 o ((de_call (d_p_row T) o b_p_row (da_f (de_var 2) da_nil))).toF) (dss_cons (ds_if (DW.dt (dw_or (dt_not (dt_of (de_call (d_l_can T) o b_l_can (da_f (de_var 4) da_nil)))) (dw_or (dt_cmp
    o_notB (de_call (d_p_is_row T) o b_p_is_row (da_f (de_var 4) da_nil)) de_bl) (dw_or (dt_cmp o_notN (de_callK (d_p_fault T) o b_p_fault_k (dk_f (de_var 4) dk_nil)) de_non) (dw_or1 (dt_cmp (o_notInA o)
    (de_var 4) (de_call (d_p_rows_of T) o b_p_rows_of (da_f (de_callB c_len T.b_len (da_b (de_var 1) da_nil)) da_nil)))))))) (dss_one (ds_ret de_bl)) dss_nil) (dss_cons (ds_set 5 o ((de_call (d_p_lengths
    T) o b_p_lengths (da_f (de_var 4) da_nil))).toF) (dss_cons (ds_if (DW.dt (dw_or (dt_cmp (o_ne o) (de_callB (c_sum o) T.b_sum (da_b (de_var 5) da_nil)) (de_callB c_len T.b_len (da_b (de_var 1)
    da_nil))) (dw_or1 (dt_cmp (o_ne o) (de_lc (own := [("_law_at", 11)]) o (di_range2 T.b_range (da_f de_int (da_f (de_callB c_len T.b_len (da_b (de_var 5) da_nil)) da_nil))) (blk_of (by rfl)) (fun _ _ _
    _ _ => ⟨_, (dg_name 11 (XOk.blk o).nd)⟩) (fun _ _ _ _ _ => ⟨_, (dts_one (dt_cmp o_ge (de_ix (de_var 5) (de_var 11)) (de_ix (de_var 5) (de_bin o_sub (de_var 11) de_int))))⟩) (fun _ _ _ _ _ => ⟨_,
    (de_var 11)⟩)) (de_lst da_nil))))) (dss_one (ds_ret de_bl)) dss_nil) (dss_cons (ds_if (DW.dt (dw_or (dt_cmp (o_ne o) (de_call (d_p_row T) o b_p_row (da_f ((de_call (d_p_stair T) o b_p_stair (da_f
    (de_var 4) da_nil))).toF da_nil)) (de_var 4)) (dw_or (dt_cmp (o_ne o) (de_callB (c_maxL o) T.b_max (da_b (de_var 4) da_nil)) (de_call (d_p_top T) o b_p_top (da_f (de_var 2) da_nil))) (dw_or1 (dt_cmp
    (o_ne o) (de_call (d_p_end T) o b_p_end (da_f (de_var 2) da_nil)) (de_bin o_sub (de_callB c_len T.b_len (da_b (de_var 4) da_nil)) de_int)))))) (dss_one (ds_ret de_bl)) dss_nil) (dss_cons (ds_for o
    (di_range2 T.b_range (da_f de_int (da_f (de_bin o_add (de_callB c_len T.b_len (da_b (de_var 1) da_nil)) de_int) da_nil))) (dg_name 6 o.nd) (dss_cons (ds_set 9 o (de_if (dt_cmp o_lt (de_var 6)
    (de_callB c_len T.b_len (da_b (de_var 1) da_nil))) ((de_call (d_p_row T) o b_p_row (da_f ((de_new (d_i_Spots T) o b_i_Spots (da_f (de_slice (de_var 1) do_none (do_some (de_var 6))) da_nil))).toF
    da_nil))).toF (de_var 4))) (dss_cons (ds_if (DW.dt (dw_and (dt_cmp o_gt (de_var 6) de_int) (dw_and1 (dt_not (dt_of (de_call (d_l_more T) o b_l_more (da_f (de_var 3) (da_f (de_var 9) da_nil))))))))
    (dss_one (ds_ret de_bl)) dss_nil) (dss_one (ds_set 3 o (de_var 9)))))) (dss_cons (ds_set 7 o (de_callB c_len T.b_len (da_b (de_lc (own := [("_law_point", 10)]) o (di_seq (de_var 1)) (blk_of (by rfl))
    (fun _ _ _ _ _ => ⟨_, (dg_name 10 (XOk.blk o).nd)⟩) (fun _ _ _ _ _ => ⟨_, (dts_one (dt_cmp (o_eq (XOk.blk o)) (de_bin o_mulA (de_ix (de_var 10) de_int) (de_ix (de_var 10) de_int)) (de_bin o_mulA
    (de_ix (de_var 10) de_int) (de_ix (de_var 10) de_int))))⟩) (fun _ _ _ _ _ => ⟨_, (de_var 10)⟩)) da_nil))) (dss_cons (ds_set 8 o (de_callB c_len T.b_len (da_b (de_lc (own := [("_law_point", 10)]) o
    (di_seq (de_var 1)) (blk_of (by rfl)) (fun _ _ _ _ _ => ⟨_, (dg_name 10 (XOk.blk o).nd)⟩) (fun _ _ _ _ _ => ⟨_, (dts_one (dt_cmp (o_eq (XOk.blk o)) (de_ix (de_var 10) de_int) de_int))⟩) (fun _ _ _ _
    _ => ⟨_, (de_var 10)⟩)) da_nil))) (dss_cons (ds_if (DW.dt (dw_and (dt_cmp (o_eq o) (de_var 7) (de_callB c_len T.b_len (da_b (de_var 1) da_nil))) (dw_and (dt_cmp o_gt (de_var 7) de_int) (dw_and1
    (dt_cmp (o_ne o) (de_var 4) (de_bin o_add (de_bin o_add (de_lst (da_f de_int da_nil)) (de_bin o_rep (de_lst (da_f de_int da_nil)) (de_bin o_fdivW (de_bin o_sub (de_var 7) de_int) de_int))) (de_bin
    o_rep (de_lst (da_f de_int da_nil)) (de_if (dt_cmp (o_eq o) (de_bin o_mulA (de_bin o_fdivW (de_var 7) de_int) de_int) (de_var 7)) de_int de_int)))))))) (dss_one (ds_ret de_bl)) dss_nil) (dss_cons
    (ds_if (DW.dt (dw_and (dt_cmp (o_eq o) (de_var 8) (de_callB c_len T.b_len (da_b (de_var 1) da_nil))) (dw_and1 (DW.dt (dw_or (dt_cmp (o_ne o) (de_var 4) (de_bin o_rep (de_lst (da_f de_int da_nil))
    (de_var 8))) (dw_or1 (dt_cmp (o_ne o) (de_call (d_p_box_of T) o b_p_box_of (da_f (de_var 4) da_nil)) (de_tup (da_f de_int (da_f (de_var 8) da_nil)))))))))) (dss_one (ds_ret de_bl)) dss_nil) (dss_one
    (ds_ret de_bl))))))))))))))⟩
theorem b_l_right : ∀ (kV doc pm : Value) (an : Option Addr) (cdv ct : Value) (us : List Value), us.length = 1 → bindArgs (PySem.W.fnOf "_law_right" "_law_right" (defArgs s_l_right) (defBody s_l_right) (defScope s_l_right) .none kV doc pm an cdv ct) ⟨us, []⟩ = pure ((["_law_pot_here"] : List Str).zip us) := fun _ _ _ _ _ _ us hl => match us, hl with | [_], _ => rfl
theorem d_l_pot (T : Top K mg) : DFn P w K mg base 1 "_law_pot" s_l_pot ["_law_script", "_law_k"] [.s, .f] .o m_l_pot :=
  dfn_of (N := ["_law_script", "_law_k", "_law_cell"]) [.s, .f, .f] [.s, .f, .f] T.f_l_pot ⟨rfl, rfl, rfl, by decide, rfl, by decide, by decide⟩ rfl rfl (by decide) rfl (by first | exact .inl (.inl rfl) | exact .inl (.inr rfl) | exact .inr rfl) fun f cdv A outer s H E o =>
  ⟨_, (dss_cons (ds_set 2 o (de_bin o_add (de_bin o_mulA de_int (de_var 1)) de_int)) (dss_cons (ds_if (dt_cmp o_lt (de_var 1) (de_callB c_lenS T.b_len (da_s 0 da_nil))) (dss_one (ds_set 2 o (de_callB c_abs
    T.b_abs (da_b (de_six 0 (de_var 1)) da_nil)))) dss_nil) (dss_one (ds_ret (de_lst (da_f (de_callB (c_max2 o) T.b_max (da_b de_int (da_b (de_bin o_sub (de_var 2) (de_bin o_pow de_int de_int)) da_nil)))
    (da_f (de_bin o_add (de_bin o_mod (de_callTy c_int T.b_int (da_b (de_bin o_add (de_bin o_add (de_bin o_mulA (de_bin o_mod (de_callTy c_int T.b_int (da_b (de_var 2) da_nil)) de_int) de_int) (de_bin
    o_mulA de_int (de_var 1))) de_int) da_nil)) de_int) de_int) da_nil)))))))⟩
theorem b_l_pot : ∀ (kV doc pm : Value) (an : Option Addr) (cdv ct : Value) (us : List Value), us.length = 2 → bindArgs (PySem.W.fnOf "_law_pot" "_law_pot" (defArgs s_l_pot) (defBody s_l_pot) (defScope s_l_pot) .none kV doc pm an cdv ct) ⟨us, []⟩ = pure ((["_law_script", "_law_k"] : List Str).zip us) := fun _ _ _ _ _ _ us hl => match us, hl with | [_, _], _ => rfl
theorem d_law_ (T : Top K mg) : DFn P w K mg base 15 "law" s_law_ ["_law_script"] [.s] .f m_law_ :=
  dfn_of (N := ["_law_script"]) [.s] [.s] T.f_law_ ⟨rfl, rfl, rfl, by decide, rfl, by decide, by decide⟩ rfl rfl (by decide) rfl (by first | exact .inl (.inl rfl) | exact .inl (.inr rfl) | exact .inr rfl) fun f cdv A outer s H E o =>
  ⟨_, (dss_one (ds_ret (de_callPot (d_l_right T) o b_l_right (de_call (d_l_pot T) o b_l_pot (da_s 0 (da_f de_int da_nil))))))⟩
theorem b_law_ : ∀ (kV doc pm : Value) (an : Option Addr) (cdv ct : Value) (us : List Value), us.length = 1 → bindArgs (PySem.W.fnOf "law" "law" (defArgs s_law_) (defBody s_law_) (defScope s_law_) .none kV doc pm an cdv ct) ⟨us, []⟩ = pure ((["_law_script"] : List Str).zip us) := fun _ _ _ _ _ _ us hl => match us, hl with | [_], _ => rfl
end
end LW
set_option maxHeartbeats 2000000
namespace DL
open PySem PySem.Spec PyProof.Rows L2
theorem runD_ok {n : Nat} {r : Rm} {fs : Fs} {ds : List D} {π π' : Pot} {d : D} (h : fs (startD n ds) π = .ok (.rt d, π')) : runD n r fs ds π = .ok (d, π') := by
  unfold runD
  rw [h]
  rfl
theorem sl_is : sizeLine = 16777216 := sizeLine_eq
theorem sSeq_nx {a b : Fs} {ρ ρ' : Rho} {π π' : Pot} (h : a ρ π = .ok (.nx ρ', π')) : sSeq a b ρ π = b ρ' π' := by
  unfold sSeq
  rw [h]
  rfl
theorem lcGo_filter {α : Type} {enc : α → D} {fg : D → Rho → Option Rho} {ft : Et} {fe : Ed} {ρ : Rho} {π : Pot} {ρ1 : α → Rho} {p : α → Bool} {g : α → D} : ∀ {xs : List α}, (∀ x ∈ xs, fg (enc x) ρ = some (ρ1 x)) → (∀ x ∈ xs, ft (ρ1 x) π = .ok (p x, π)) → (∀ x ∈ xs, p x = true → fe (ρ1 x) π = .ok (g x, π)) →
    lcGo fg ft fe ρ (xs.map enc) π = .ok ((xs.filter p).map g, π)
  | [], _, _, _ => rfl
  | x :: xs, h1, h2, h3 => by
    have ih := lcGo_filter (xs := xs) (fun y hy => h1 y (List.mem_cons_of_mem _ hy)) (fun y hy => h2 y (List.mem_cons_of_mem _ hy)) (fun y hy => h3 y (List.mem_cons_of_mem _ hy))
    simp only [List.map_cons, lcGo, h1 x (List.mem_cons_self ..), ofO_some, Res.bind_ok, h2 x (List.mem_cons_self ..), safe_ok]
    cases hp : p x with
    | true =>
      rw [List.filter_cons, if_pos hp, List.map_cons]
      simp only [if_true, h3 x (List.mem_cons_self ..) hp, safe_ok, Res.bind_ok, ih]
    | false =>
      simp only [Bool.false_eq_true, if_false, ih, List.filter_cons, hp]
theorem lcGo_map {α : Type} {enc : α → D} {fg : D → Rho → Option Rho} {fe : Ed} {ρ : Rho} {π : Pot} {ρ1 : α → Rho} {g : α → D} {xs : List α} (h1 : ∀ x ∈ xs, fg (enc x) ρ = some (ρ1 x)) (h3 : ∀ x ∈ xs, fe (ρ1 x) π = .ok (g x, π)) :
    lcGo fg tTrue fe ρ (xs.map enc) π = .ok (xs.map g, π) := by
  have := lcGo_filter (ft := tTrue) (p := fun _ => true) h1 (fun x hx => rfl) (fun x hx _ => h3 x hx)
  rwa [List.filter_eq_self.mpr (fun _ _ => rfl)] at this
theorem divOk_small {i j : Int} (h : 0 < j) (h2 : j < 1073741824) : divOk i j = true := by
  unfold divOk Builtin.divisionGoesByPylong
  have e : j.natAbs.log2 < 30 := by
    rw [Nat.log2_lt (by omega)]
    omega
  have e2 : (if (j == 0) = true then 0 else j.natAbs.log2 / 30 + 1) ≤ 300 := by
    split <;> omega
  simp only [Bool.and_eq_true, decide_eq_true_eq, Bool.not_eq_true', Bool.and_eq_false_imp]
  refine ⟨h, fun q => ?_⟩
  omega
theorem opFdivW_s {i j : Int} (h : 0 < j) (h2 : j < 1152921504606846976) : opFdivW (.int i) (.int j) = some (.int (i / j)) := by
  unfold opFdivW
  have e : j.natAbs.log2 < 9000 := by
    have : j.natAbs.log2 < 60 := by
      rw [Nat.log2_lt (by omega)]
      omega
    omega
  simp [h, e]
theorem opMod_s {i j : Int} (h : 0 < j) : opMod (.int i) (.int j) = some (.int (i % j)) := by
  simp [opMod, h]
theorem opMulA_l {i j : Int} (h : -18446744073709551616 < i) (h2 : i < 18446744073709551616) : opMulA (.int i) (.int j) = some (.int (i * j)) := by
  simp [opMulA, small, h, h2]
theorem opMulA_r {i j : Int} (h : -18446744073709551616 < j) (h2 : j < 18446744073709551616) : opMulA (.int i) (.int j) = some (.int (i * j)) := by
  simp [opMulA, small, h, h2]
mutual
def plainD : D → Bool
  | .non | .bl _ | .int _ => true
  | .str x => PyData.strOk x
  | .lst xs | .tup xs => plainL xs
  | _ => false
def plainL : List D → Bool
  | [] => true
  | x :: xs => plainD x && plainL xs
def deepD : D → Nat
  | .lst xs | .tup xs => deepL xs + 1
  | _ => 0
def deepL : List D → Nat
  | [] => 0
  | x :: xs => max (deepD x) (deepL xs)
end
mutual
theorem plain_py : ∀ {d : D}, plainD d = true → ∃ p, toPy d = some p ∧ p.canLay0 = true ∧ p.depth = deepD d
  | .non, _ => ⟨_, rfl, rfl, rfl⟩
  | .bl _, _ => ⟨_, rfl, rfl, rfl⟩
  | .int _, _ => ⟨_, rfl, rfl, rfl⟩
  | .str x, h => ⟨_, rfl, (by simpa [PyData.canLay0, plainD] using h), rfl⟩
  | .lst xs, h => by
    obtain ⟨ps, h1, h2, h3⟩ := plain_pyL (xs := xs) (by simpa [plainD] using h)
    exact ⟨.list ps, by simp [toPy, h1], by simpa [PyData.canLay0] using h2, by simp [PyData.depth, deepD, h3]⟩
  | .tup xs, h => by
    obtain ⟨ps, h1, h2, h3⟩ := plain_pyL (xs := xs) (by simpa [plainD] using h)
    exact ⟨.tuple ps, by simp [toPy, h1], by simpa [PyData.canLay0] using h2, by simp [PyData.depth, deepD, h3]⟩
  | .dic _ _, h => by cases h
  | .ins _ _ _, h => by cases h
theorem plain_pyL : ∀ {xs : List D}, plainL xs = true → ∃ ps, toPyL xs = some ps ∧ PyData.canLayAll0 ps = true ∧ PyData.depthAll ps = deepL xs
  | [], _ => ⟨[], rfl, rfl, rfl⟩
  | x :: xs, h => by
    simp only [plainL, Bool.and_eq_true] at h
    obtain ⟨p, h1, h2, h3⟩ := plain_py h.1
    obtain ⟨ps, h4, h5, h6⟩ := plain_pyL h.2
    exact ⟨p :: ps, by simp [toPyL, h1, h4], by simp [PyData.canLayAll0, h2, h5], by simp [PyData.depthAll, deepL, h3, h6]⟩
end
/-- data that may be held against other data -/
def cmpOk (d : D) : Bool := plainD d && decide (deepD d ≤ 64)
theorem eqP_refl {d : D} (h : cmpOk d = true) : eqP d d = some true := by
  unfold cmpOk at h
  simp only [Bool.and_eq_true, decide_eq_true_eq] at h
  obtain ⟨p, h1, h2, h3⟩ := plain_py h.1
  unfold eqP
  rw [h1]
  simp [SeqAt.shaped, h2, h3, h.2, SeqAt.eqv_refl p h2]
theorem eqD_refl {d : D} (h : cmpOk d = true) : eqD d d = some true := by
  unfold eqD
  split
  · rename_i h2
    simp_all
  · rename_i h2
    simp_all
  · exact eqP_refl h
theorem opNe_refl {d : D} (h : cmpOk d = true) : opNe d d = some (.bl false) := by simp [opNe, eqD_refl h]
end DL
set_option maxHeartbeats 2000000
namespace DL
open PySem PySem.Spec PyProof.Rows L2
@[simp] theorem eVar_ap (i : Nat) (ρ : Rho) (π : Pot) : eVar i ρ π = match ρ[i]? with
  | some (some d) => .ok (d, π)
  | _ => .stuck := rfl
@[simp] theorem eC_ap (d : D) (ρ : Rho) (π : Pot) : eC d ρ π = .ok (d, π) := rfl
@[simp] theorem eBin_ap (g : D → D → Option D) (a b : Ed) (ρ : Rho) (π : Pot) : eBin g a b ρ π = (a ρ π).bind fun x => (b ρ x.2).bind fun y => (ofO (g x.1 y.1)).bind fun z => .ok (z, y.2) := rfl
@[simp] theorem eUn_ap (g : D → Option D) (a : Ed) (ρ : Rho) (π : Pot) : eUn g a ρ π = (a ρ π).bind fun x => (ofO (g x.1)).bind fun z => .ok (z, x.2) := rfl
@[simp] theorem eAnd_ap (a b : Ed) (ρ : Rho) (π : Pot) : eAnd a b ρ π = (a ρ π).bind fun x => (ofO (truth x.1)).bind fun k => if k = true then b ρ x.2 else .ok x := rfl
@[simp] theorem eOr_ap (a b : Ed) (ρ : Rho) (π : Pot) : eOr a b ρ π = (a ρ π).bind fun x => (ofO (truth x.1)).bind fun k => if k = true then .ok x else b ρ x.2 := rfl
@[simp] theorem eNot_ap (a : Ed) (ρ : Rho) (π : Pot) : eNot a ρ π = (a ρ π).bind fun x => (ofO (truth x.1)).bind fun k => .ok (.bl (!k), x.2) := rfl
@[simp] theorem eIf_ap (t : Et) (a b : Ed) (ρ : Rho) (π : Pot) : eIf t a b ρ π = (t ρ π).bind fun x => if x.1 = true then a ρ x.2 else b ρ x.2 := rfl
@[simp] theorem aNil_ap (ρ : Rho) (π : Pot) : aNil  ρ π = .ok ([], π) := rfl
@[simp] theorem aCons_ap (a : Ed) (b : Ea) (ρ : Rho) (π : Pot) : aCons a b ρ π = (a ρ π).bind fun x => (b ρ x.2).bind fun y => .ok (x.1 :: y.1, y.2) := rfl
@[simp] theorem eTup_ap (a : Ea) (ρ : Rho) (π : Pot) : eTup a ρ π = (a ρ π).bind fun x => if x.1.length ≤ sizeLine then .ok (.tup x.1, x.2) else .stuck := rfl
@[simp] theorem eLst_ap (a : Ea) (ρ : Rho) (π : Pot) : eLst a ρ π = (a ρ π).bind fun x => if x.1.length ≤ sizeLine then .ok (.lst x.1, x.2) else .stuck := rfl
@[simp] theorem eApp_ap (g : List D → Option D) (a : Ea) (ρ : Rho) (π : Pot) : eApp g a ρ π = (a ρ π).bind fun x => (ofO (g x.1)).bind fun z => .ok (z, x.2) := rfl
@[simp] theorem tOf_ap (a : Ed) (ρ : Rho) (π : Pot) : tOf a ρ π = (a ρ π).bind fun x => (ofO (truth x.1)).bind fun k => .ok (k, x.2) := rfl
@[simp] theorem tBl_ap (a : Ed) (ρ : Rho) (π : Pot) : tBl a ρ π = (a ρ π).bind fun x => match x.1 with
  | .bl k => .ok (k, x.2)
  | _ => .stuck := rfl
@[simp] theorem tAndD_ap (a b : Et) (ρ : Rho) (π : Pot) : tAndD a b ρ π = (a ρ π).bind fun x => if x.1 = true then b ρ x.2 else .ok (false, x.2) := rfl
@[simp] theorem tOrD_ap (a b : Et) (ρ : Rho) (π : Pot) : tOrD a b ρ π = (a ρ π).bind fun x => if x.1 = true then .ok (true, x.2) else b ρ x.2 := rfl
@[simp] theorem tNotD_ap (a : Et) (ρ : Rho) (π : Pot) : tNotD a ρ π = (a ρ π).bind fun x => .ok (!x.1, x.2) := rfl
@[simp] theorem eChain_ap (g g' : D → D → Option D) (a b c : Ed) (ρ : Rho) (π : Pot) : eChain g g' a b c ρ π = (a ρ π).bind fun x => (b ρ x.2).bind fun y => (ofO (g x.1 y.1)).bind fun z => match z with
  | .bl true => (c ρ y.2).bind fun u => (ofO (g' y.1 u.1)).bind fun q => .ok (q, u.2)
  | .bl false => .ok (.bl false, y.2)
  | _ => .stuck := rfl
@[simp] theorem iVal_ap (a : Ed) (ρ : Rho) (π : Pot) : iVal a ρ π = (a ρ π).bind fun x => (ofO (seqOf x.1)).bind fun z => .ok (z, x.2) := rfl
@[simp] theorem iEnumD_ap (a : Ea) (ρ : Rho) (π : Pot) : iEnumD a ρ π = (a ρ π).bind fun x => match x.1 with
  | [d] => (ofO (seqOf d)).bind fun z => .ok (numbered 0 z, x.2)
  | _ => .stuck := rfl
@[simp] theorem iRng_ap (a : Ea) (ρ : Rho) (π : Pot) : iRng a ρ π = (a ρ π).bind fun x => (ofO (rng x.1)).bind fun z => .ok (z, x.2) := rfl
@[simp] theorem iRngDown_ap (a : Ea) (ρ : Rho) (π : Pot) : iRngDown a ρ π = (a ρ π).bind fun x => (ofO (rngDown x.1)).bind fun z => .ok (z, x.2) := rfl
@[simp] theorem eLC_ap (fi : Ei) (fg : D → Rho → Option Rho) (ft : Et) (fe : Ed) (vs : List Nat) (ρ : Rho) (π : Pot) : eLC fi fg ft fe vs ρ π = (fi ρ π).bind fun x => if x.1.length < sizeLine then (lcGo fg ft fe (wipeD ρ vs) x.1 x.2).bind fun r => .ok (.lst r.1, r.2) else .stuck := rfl
@[simp] theorem tTrue_ap (ρ : Rho) (π : Pot) : tTrue  ρ π = .ok (true, π) := rfl
@[simp] theorem sNext_ap (ρ : Rho) (π : Pot) : sNext  ρ π = .ok (.nx ρ, π) := rfl
@[simp] theorem sSeq_ap (a b : Fs) (ρ : Rho) (π : Pot) : sSeq a b ρ π = (a ρ π).bind fun x => match x.1 with
  | .nx ρ1 => b ρ1 x.2
  | .bk ρ1 => .ok (.bk ρ1, x.2)
  | .ct ρ1 => .ok (.ct ρ1, x.2)
  | .rt d => .ok (.rt d, x.2) := rfl
@[simp] theorem sSet_ap (i : Nat) (fe : Ed) (ρ : Rho) (π : Pot) : sSet i fe ρ π = (fe ρ π).bind fun x => .ok (.nx (ρ.set i (some x.1)), x.2) := rfl
@[simp] theorem sPar_ap (i j : Nat) (fa fb : Ed) (ρ : Rho) (π : Pot) : sPar i j fa fb ρ π = (fa ρ π).bind fun x => (fb ρ x.2).bind fun y => .ok (.nx ((ρ.set i (some x.1)).set j (some y.1)), y.2) := rfl
@[simp] theorem sPar3_ap (i j l : Nat) (fa fb fc : Ed) (ρ : Rho) (π : Pot) : sPar3 i j l fa fb fc ρ π = (fa ρ π).bind fun x => (fb ρ x.2).bind fun y => (fc ρ y.2).bind fun z => .ok (.nx (((ρ.set i (some x.1)).set j (some y.1)).set l (some z.1)), z.2) := rfl
@[simp] theorem sUnp_ap (fe : Ed) (fg : D → Rho → Option Rho) (ρ : Rho) (π : Pot) : sUnp fe fg ρ π = (fe ρ π).bind fun x => (ofO (fg x.1 ρ)).bind fun ρ1 => .ok (.nx ρ1, x.2) := rfl
@[simp] theorem sExpr_ap (fe : Ed) (ρ : Rho) (π : Pot) : sExpr fe ρ π = (fe ρ π).bind fun x => .ok (.nx ρ, x.2) := rfl
@[simp] theorem sRet_ap (fe : Ed) (ρ : Rho) (π : Pot) : sRet fe ρ π = (fe ρ π).bind fun x => .ok (.rt x.1, x.2) := rfl
@[simp] theorem sRetN_ap (ρ : Rho) (π : Pot) : sRetN  ρ π = .ok (.rt .non, π) := rfl
@[simp] theorem sIf_ap (ft : Et) (a b : Fs) (ρ : Rho) (π : Pot) : sIf ft a b ρ π = (ft ρ π).bind fun x => if x.1 = true then a ρ x.2 else b ρ x.2 := rfl
@[simp] theorem sBreak_ap (ρ : Rho) (π : Pot) : sBreak  ρ π = .ok (.bk ρ, π) := rfl
@[simp] theorem sCont_ap (ρ : Rho) (π : Pot) : sCont  ρ π = .ok (.ct ρ, π) := rfl
@[simp] theorem sStuck_ap (ρ : Rho) (π : Pot) : sStuck  ρ π = .stuck := rfl
@[simp] theorem sFor_ap (fi : Ei) (fg : D → Rho → Option Rho) (fb : Fs) (ρ : Rho) (π : Pot) : sFor fi fg fb ρ π = (fi ρ π).bind fun x => forGo fg fb x.1 ρ x.2 := rfl
@[simp] theorem sAugIx_ap (i : Nat) (g : Int → Int → Int) (fk fe : Ed) (ρ : Rho) (π : Pot) : sAugIx i g fk fe ρ π = match ρ[i]? with
  | some (some (.lst ds)) => (fk ρ π).bind fun y => (ofO (intAt ds y.1)).bind fun a => (fe ρ y.2).bind fun x => match x.1 with
    | .int b => .ok (.nx (ρ.set i (some (.lst (ds.set a.1 (.int (g a.2 b)))))), x.2)
    | _ => .stuck
  | _ => .stuck := rfl
@[simp] theorem sAug_ap (i : Nat) (g : Int → Int → Int) (fe : Ed) (ρ : Rho) (π : Pot) : sAug i g fe ρ π = match ρ[i]? with
  | some (some (.int a)) => (fe ρ π).bind fun x => match x.1 with
    | .int b => .ok (.nx (ρ.set i (some (.int (g a b)))), x.2)
    | _ => .stuck
  | _ => .stuck := rfl
@[simp] theorem ePot0_ap (ρ : Rho) (π : Pot) : ePot0  ρ π = .ok (.int π.1, π) := rfl
@[simp] theorem ePot1_ap (ρ : Rho) (π : Pot) : ePot1  ρ π = .ok (.int π.2, π) := rfl
@[simp] theorem sPot1_ap (fe : Ed) (ρ : Rho) (π : Pot) : sPot1 fe ρ π = (fe ρ π).bind fun x => match x.1 with
  | .int n => .ok (.nx ρ, (x.2.1, n))
  | _ => .stuck := rfl
@[simp] theorem sPotDm_ap (j : Nat) (fe : Ed) (ρ : Rho) (π : Pot) : sPotDm j fe ρ π = (fe ρ π).bind fun x => match x.1 with
  | .int n => if divOk π.1 n then .ok (.nx (ρ.set j (some (.int (π.1 % n)))), (π.1 / n, x.2.2)) else .stuck
  | _ => .stuck := rfl
@[simp] theorem runD_ap (n : Nat) (r : Rm) (fs : Fs) (ds : List D) (π : Pot) : runD n r fs ds π = (fs (startD n ds) π).bind fun x => match x.1 with
  | .rt d => .ok (d, x.2)
  | .nx _ => if r = .f then .ok (.non, x.2) else .stuck
  | _ => .stuck := rfl
@[simp] theorem eGo_ap (m : Fd) (a : Ea) (ρ : Rho) (π : Pot) : eGo m a ρ π = (a ρ π).bind fun x => m x.1 x.2 := rfl
@[simp] theorem oNone_ap (ρ : Rho) (π : Pot) : oNone  ρ π = .ok (none, π) := rfl
@[simp] theorem oSome_ap (a : Ed) (ρ : Rho) (π : Pot) : oSome a ρ π = (a ρ π).bind fun x => match x.1 with
  | .int i => .ok (some i, x.2)
  | _ => .stuck := rfl
@[simp] theorem eSl_ap (a : Ed) (l u : Eo) (ρ : Rho) (π : Pot) : eSl a l u ρ π = (a ρ π).bind fun x => (l ρ x.2).bind fun y => (u ρ y.2).bind fun z => (ofO (fCut x.1 y.1 z.1)).bind fun w => .ok (w, z.2) := rfl
@[simp] theorem eSix_ap (i : Nat) (fb : Ed) (ρ : Rho) (π : Pot) : eSix i fb ρ π = (fb ρ π).bind fun y => match ρ[i]? with
  | some (some d) => (ofO (opIx d y.1)).bind fun z => .ok (z, y.2)
  | _ => .stuck := rfl
@[simp] theorem eGoPot_ap (m : Fd) (a : Ed) (ρ : Rho) (π : Pot) : eGoPot m a ρ π = (a ρ π).bind fun x => match x.1 with
  | .lst [.int u, .int v] => (safe (m [.non] (u, v))).bind fun y => .ok (y.1, x.2)
  | _ => .stuck := rfl
@[simp] theorem sApp_ap (i : Nat) (fe : Ed) (ρ : Rho) (π : Pot) : sApp i fe ρ π = match ρ[i]? with
  | some (some (.lst ds)) => (fe ρ π).bind fun x => (ofO (appD x.1 ds)).bind fun es => .ok (.nx (ρ.set i (some (.lst es))), x.2)
  | _ => .stuck := rfl
@[simp] theorem sExt_ap (i : Nat) (fe : Ed) (ρ : Rho) (π : Pot) : sExt i fe ρ π = match ρ[i]? with
  | some (some (.lst ds)) => (fe ρ π).bind fun x => (ofO (extD x.1 ds)).bind fun es => .ok (.nx (ρ.set i (some (.lst es))), x.2)
  | _ => .stuck := rfl
@[simp] theorem sSetIx_ap (i : Nat) (fe fk : Ed) (ρ : Rho) (π : Pot) : sSetIx i fe fk ρ π = match ρ[i]? with
  | some (some (.lst ds)) => (fe ρ π).bind fun y => (fk ρ y.2).bind fun x => (ofO (setD y.1 x.1 ds)).bind fun es => .ok (.nx (ρ.set i (some (.lst es))), x.2)
  | _ => .stuck := rfl
@[simp] theorem truth_non : truth .non = some false := rfl
@[simp] theorem truth_bl (b : Bool) : truth (.bl b) = some b := rfl
@[simp] theorem truth_int (i : Int) : truth (.int i) = some (i != 0) := rfl
@[simp] theorem truth_lst (xs : List D) : truth (.lst xs) = some (!xs.isEmpty) := rfl
@[simp] theorem truth_tup (xs : List D) : truth (.tup xs) = some (!xs.isEmpty) := rfl
@[simp] theorem cmpI_ap (p : Int → Int → Bool) (i j : Int) : cmpI p (.int i) (.int j) = some (.bl (p i j)) := rfl
@[simp] theorem opSub_ap (i j : Int) : opSub (.int i) (.int j) = some (.int (i - j)) := rfl
@[simp] theorem opNeg_ap (i : Int) : opNeg (.int i) = some (.int (-i)) := rfl
@[simp] theorem gN_ap (i : Nat) (d : D) (ρ : Rho) : gN i d ρ = some (ρ.set i (some d)) := rfl
@[simp] theorem gsNil_ap (ρ : Rho) : gsNil [] ρ = some ρ := rfl
@[simp] theorem gsCons_ap (a : D → Rho → Option Rho) (b : List D → Rho → Option Rho) (d : D) (r : List D) (ρ : Rho) : gsCons a b (d :: r) ρ = (a d ρ).bind (b r) := rfl
@[simp] theorem gT_ap (n : Nat) (b : List D → Rho → Option Rho) (ds : List D) (ρ : Rho) : gT n b (.tup ds) ρ = if ds.length = n then b ds ρ else none := rfl
@[simp] theorem fInt_ap (i : Int) : fInt [.int i] = some (.int i) := rfl
@[simp] theorem fAbs_ap (i : Int) : fAbs [.int i] = some (.int (if i < 0 then -i else i)) := rfl
@[simp] theorem fMax2_ap (i j : Int) : fMax2 [.int i, .int j] = some (.int (if j > i then j else i)) := rfl
@[simp] theorem fMin2_ap (i j : Int) : fMin2 [.int i, .int j] = some (.int (if j < i then j else i)) := rfl
@[simp] theorem fList_lst (xs : List D) : fList [.lst xs] = some (.lst xs) := rfl
@[simp] theorem fList_tup (xs : List D) : fList [.tup xs] = some (.lst xs) := rfl
@[simp] theorem fTuple_lst (xs : List D) : fTuple [.lst xs] = some (.tup xs) := rfl
@[simp] theorem fTuple_tup (xs : List D) : fTuple [.tup xs] = some (.tup xs) := rfl
@[simp] theorem isNonD_ap (d : D) : opIsN d .non = some (.bl (isNonD d)) := rfl
@[simp] theorem notNonD_ap (d : D) : opNotN d .non = some (.bl (!isNonD d)) := rfl
@[simp] theorem isNonD_non : isNonD .non = true := rfl
@[simp] theorem isNonD_int (i : Int) : isNonD (.int i) = false := rfl
@[simp] theorem isNonD_bl (i : Bool) : isNonD (.bl i) = false := rfl
@[simp] theorem isNonD_str (i : Str) : isNonD (.str i) = false := rfl
@[simp] theorem isNonD_lst (i : List D) : isNonD (.lst i) = false := rfl
@[simp] theorem isNonD_tup (i : List D) : isNonD (.tup i) = false := rfl
@[simp] theorem opNotB_ap (a b : Bool) : opNotB (.bl a) (.bl b) = some (.bl (!decide (a = b))) := rfl
@[simp] theorem isTyB_ap (a b : String) : isTyB a b = (a == b || (a == "bool" && b == "int")) := rfl
@[simp] theorem fIs_non (ns : List String) : fIs ns .non = some (.bl (ns.any fun b => isTyB "NoneType" b)) := rfl
@[simp] theorem fIs_bl (ns : List String) (i : Bool) : fIs ns (.bl i) = some (.bl (ns.any fun b => isTyB "bool" b)) := rfl
@[simp] theorem fIs_int (ns : List String) (i : Int) : fIs ns (.int i) = some (.bl (ns.any fun b => isTyB "int" b)) := rfl
@[simp] theorem fIs_str (ns : List String) (i : Str) : fIs ns (.str i) = some (.bl (ns.any fun b => isTyB "str" b)) := rfl
@[simp] theorem fIs_lst (ns : List String) (i : List D) : fIs ns (.lst i) = some (.bl (ns.any fun b => isTyB "list" b)) := rfl
@[simp] theorem fIs_tup (ns : List String) (i : List D) : fIs ns (.tup i) = some (.bl (ns.any fun b => isTyB "tuple" b)) := rfl
@[simp] theorem fIs_dic (ns : List String) (a : List DKey) (i : List D) : fIs ns (.dic a i) = some (.bl (ns.any fun b => isTyB "dict" b)) := rfl
@[simp] theorem seqOf_lst (xs : List D) : seqOf (.lst xs) = some xs := rfl
@[simp] theorem seqOf_tup (xs : List D) : seqOf (.tup xs) = some xs := rfl
@[simp] theorem wipeD_nil (ρ : Rho) : wipeD ρ [] = ρ := rfl
@[simp] theorem wipeD_cons (ρ : Rho) (v : Nat) (vs : List Nat) : wipeD ρ (v :: vs) = (wipeD ρ vs).set v none := rfl
@[simp] theorem startD_ap (n : Nat) (ds : List D) : startD n ds = ds.map some ++ List.replicate (n - ds.length) none := rfl
@[simp] theorem opAdd_int (i j : Int) : opAdd (.int i) (.int j) = some (.int (i + j)) := rfl
@[simp] theorem sl_ok {n : Nat} (h : n ≤ 16777216) : (n ≤ sizeLine) = True := by
  rw [sizeLine_eq]
  exact eq_true h
@[simp] theorem sl_lt {n : Nat} (h : n < 16777216) : (n < sizeLine) = True := by
  rw [sizeLine_eq]
  exact eq_true h
@[simp] theorem fLen_lst (xs : List D) : fLen [.lst xs] = some (.int xs.length) := rfl
@[simp] theorem fLen_tup (xs : List D) : fLen [.tup xs] = some (.int xs.length) := rfl
@[simp] theorem fSum_iz (ns : List Int) : fSum [.lst (ns.map D.int)] = some (.int ns.sum) := by simp [fSum, onInts]
theorem fMaxL_iz {ns : List Int} (h : ns ≠ []) : fMaxL [.lst (ns.map D.int)] = some (.int (maxI ns)) := by simp [fMaxL, onInts, h]
@[simp] theorem fSortI_iz (ns : List Int) : fSortI [.lst (ns.map D.int)] = some (.lst ((sortI ns).map D.int)) := by simp [fSortI, onInts]
@[simp] theorem fAll_bl {α : Type} (xs : List α) (p : α → Bool) : fAll [.lst (xs.map fun x => .bl (p x))] = some (.bl (xs.all p)) := by
  have e : (xs.map fun x => D.bl (p x)) = (xs.map p).map D.bl := by simp
  rw [e]
  show (asBls ((xs.map p).map D.bl)).map (fun bs => D.bl (bs.all id)) = _
  rw [asBls_bl]
  simp
@[simp] theorem fAny_bl {α : Type} (xs : List α) (p : α → Bool) : fAny [.lst (xs.map fun x => .bl (p x))] = some (.bl (xs.any p)) := by
  have e : (xs.map fun x => D.bl (p x)) = (xs.map p).map D.bl := by simp
  rw [e]
  show (asBls ((xs.map p).map D.bl)).map (fun bs => D.bl (bs.any id)) = _
  rw [asBls_bl]
  simp
theorem rng_1 {j : Int} (h : -1000000000000 ≤ j) (h2 : j ≤ 1000000000000) : rng [.int j] = some ((List.range j.toNat).map fun (i : Nat) => .int (i : Int)) := by
  have : mid62 j = true := by
    unfold mid62
    exact decide_eq_true (by omega)
  simp [rng, this, rangeD]
theorem rng_2 {i j : Int} (h : -1000000000000 ≤ i) (h2 : i ≤ 1000000000000) (h3 : -1000000000000 ≤ j) (h4 : j ≤ 1000000000000) : rng [.int i, .int j] = some ((List.range (j - i).toNat).map fun (t : Nat) => .int (i + (t : Int))) := by
  have q1 : mid62 i = true := by
    unfold mid62
    exact decide_eq_true (by omega)
  have q2 : mid62 j = true := by
    unfold mid62
    exact decide_eq_true (by omega)
  simp [rng, q1, q2, rangeD]
theorem atI_in {α : Type} {xs : List α} {i : Int} {v : α} (h : 0 ≤ i) (e : xs[i.toNat]? = some v) : L2.atI xs i = some v := by
  have := L2.atI_nat (xs := xs) (j := i.toNat) e
  rwa [Int.toNat_of_nonneg h] at this
theorem opIx_iz {ns : List Int} {i v : Int} (h : 0 ≤ i) (e : ns[i.toNat]? = some v) : opIx (.lst (ns.map D.int)) (.int i) = some (.int v) := by
  show L2.atI (ns.map D.int) i = _
  exact atI_in h (by rw [List.getElem?_map, e]; rfl)
theorem cut_to {xs : List D} {k : Int} (h : 0 ≤ k) : cutD xs none (some k) = xs.take k.toNat := by
  unfold cutD HT.sIx
  simp only [List.drop_zero, Nat.sub_zero]
  rw [if_neg (by omega)]
  by_cases q : k.toNat ≤ xs.length
  · rw [Nat.min_eq_left q]
  · rw [Nat.min_eq_right (by omega), List.take_length, List.take_of_length_le (by omega)]
theorem fCut_to {xs : List D} {k : Int} (h : 0 ≤ k) : fCut (.lst xs) none (some k) = some (.lst (xs.take k.toNat)) := by
  simp [fCut, cut_to h]
theorem appD_ok {d : D} {xs : List D} (h : xs.length < 16777216) : appD d xs = some (xs ++ [d]) := by
  simp [appD, sizeLine_eq, h]
@[simp] theorem fRev_iz (ns : List Int) : fRev (.lst (ns.map D.int)) = some (.lst (ns.reverse.map D.int)) := by
  simp [fRev]
@[simp] theorem opEq_nil : opEq (.lst []) (.lst []) = some (.bl true) := rfl
@[simp] theorem opNe_nil : opNe (.lst []) (.lst []) = some (.bl false) := rfl
@[simp] theorem opEq_str (x y : Str) : opEq (.str x) (.str y) = some (.bl (decide (x = y))) := rfl
@[simp] theorem opNe_str (x y : Str) : opNe (.str x) (.str y) = some (.bl (!decide (x = y))) := rfl
@[simp] theorem opEq_int (x y : Int) : opEq (.int x) (.int y) = some (.bl (decide (x = y))) := rfl
@[simp] theorem opNe_int (x y : Int) : opNe (.int x) (.int y) = some (.bl (!decide (x = y))) := rfl
@[simp] theorem opEq_bl (x y : Bool) : opEq (.bl x) (.bl y) = some (.bl (decide (x = y))) := by cases x <;> cases y <;> rfl
@[simp] theorem opNe_bl (x y : Bool) : opNe (.bl x) (.bl y) = some (.bl (!decide (x = y))) := by cases x <;> cases y <;> rfl
/-- lists of ints -/
theorem eqv_ints : ∀ (xs ys : List Int), PyData.eqvAll (xs.map PyData.int) (ys.map PyData.int) = decide (xs = ys)
  | [], [] => rfl
  | [], y :: ys => by simp [PyData.eqvAll]
  | x :: xs, [] => by simp [PyData.eqvAll]
  | x :: xs, y :: ys => by
    simp only [List.map_cons, PyData.eqvAll, PyData.eqv, eqv_ints xs ys, List.cons.injEq]
    by_cases e : x = y <;> by_cases f : xs = ys <;> simp [e, f]
theorem toPyL_iz : ∀ (ns : List Int), toPyL (ns.map D.int) = some (ns.map PyData.int)
  | [] => rfl
  | n :: ns => by
    show (match some (PyData.int n), toPyL (ns.map D.int) with | some p, some ps => some (p :: ps) | _, _ => none) = _
    rw [toPyL_iz ns]
    rfl
theorem shaped_iz (ns : List Int) : SeqAt.shaped (.list (ns.map PyData.int)) = true := by
  have h1 : PyData.canLayAll0 (ns.map PyData.int) = true := by
    induction ns with
    | nil => rfl
    | cons n ns ih => simpa [PyData.canLayAll0, PyData.canLay0] using ih
  have h2 : PyData.depthAll (ns.map PyData.int) = 0 := by
    induction ns with
    | nil => rfl
    | cons n ns ih =>
      simp only [List.map_cons, PyData.depthAll, PyData.depth, ih (by simpa [PyData.canLayAll0, PyData.canLay0] using h1)]
      rfl
  simp [SeqAt.shaped, PyData.canLay0, h1, PyData.depth, h2]
theorem eqD_iz (xs ys : List Int) : eqD (.lst (xs.map D.int)) (.lst (ys.map D.int)) = some (decide (xs = ys)) := by
  show eqP _ _ = _
  unfold eqP
  simp only [toPy, toPyL_iz, Option.map_some, shaped_iz, Bool.and_self, if_true, PyData.eqv, eqv_ints]
@[simp] theorem opEq_iz (xs ys : List Int) : opEq (.lst (xs.map D.int)) (.lst (ys.map D.int)) = some (.bl (decide (xs = ys))) := by simp [opEq, eqD_iz]
@[simp] theorem opNe_iz (xs ys : List Int) : opNe (.lst (xs.map D.int)) (.lst (ys.map D.int)) = some (.bl (!decide (xs = ys))) := by simp [opNe, eqD_iz]
end DL
set_option maxHeartbeats 2000000
namespace LW
open PySem PySem.Spec PyProof.Rows L2 DL
theorem draw_ex {n : Int} {a : D} (π : Pot) (h : 0 < n) (h2 : n < 1073741824) : ∃ v π', m_l_draw [a, .int n] π = .ok (.int v, π') ∧ 0 ≤ v ∧ v < n := by
  obtain ⟨u, v⟩ := π
  by_cases hu : 0 < u
  · refine ⟨u % n, (u / n, v), ?_, Int.emod_nonneg _ (by omega), Int.emod_lt_of_pos _ h⟩
    unfold m_l_draw f_l_draw
    simp [divOk_small h h2, hu]
  · obtain ⟨s, hs⟩ : ∃ s, s = (v * 39373 + 7103) % 2147483587 := ⟨_, rfl⟩
    have q : 0 ≤ s ∧ s < 2147483587 := by
      rw [hs]
      exact ⟨Int.emod_nonneg _ (by decide), Int.emod_lt_of_pos _ (by decide)⟩
    have q1 : opMulA (.int s) (.int s) = some (.int (s * s)) := opMulA_l (by omega) (by omega)
    refine ⟨(s * s % 2147483563 / 17) % n, (u, s), ?_, Int.emod_nonneg _ (by omega), Int.emod_lt_of_pos _ h⟩
    unfold m_l_draw f_l_draw
    simp [opMulA_r, opMod_s, opFdivW_s, h, hu, ← hs, q1]
theorem pot_eq (ns : List Int) (k : Nat) (hl : ns.length ≤ 63) (hk : k ≤ 100) (π : Pot) : ∃ u v : Int, m_l_pot [.lst (ns.map D.int), .int (k : Int)] π = .ok (.lst [.int u, .int v], π) := by
  have m1 : opMulA (.int 353) (.int (k : Int)) = some (.int (353 * (k : Int))) := opMulA_l (by decide) (by decide)
  have m2 : opMulA (.int 7103) (.int (k : Int)) = some (.int (7103 * (k : Int))) := opMulA_l (by decide) (by decide)
  have po : opPow (.int 10) (.int 18) = some (.int 1000000000000000000) := by rfl
  have lL : (ns.map D.int).length = ns.length := List.length_map _
  have key : ∀ cell : Int, ∃ u v : Int, (eLst (aCons (eApp fMax2 (aCons (eC (.int 0)) (aCons (eBin opSub (eVar 2) (eBin opPow (eC (.int 10)) (eC (.int 18)))) aNil))) (aCons (eBin opAdd (eBin opMod (eApp fInt (aCons (eBin opAdd (eBin opAdd (eBin opMulA (eBin opMod (eApp fInt (aCons (eVar 2) aNil)) (eC (.int 2147483549))) (eC (.int 40014))) (eBin opMulA (eC (.int 7103)) (eVar 1))) (eC (.int 31))) aNil)) (eC (.int 2147483563))) (eC (.int 1))) aNil))) [some (.lst (ns.map D.int)), some (.int (k : Int)), some (.int cell)] π = .ok (.lst [.int u, .int v], π) := fun cell => by
    refine ⟨if cell - 1000000000000000000 > 0 then cell - 1000000000000000000 else 0, (cell % 2147483549 * 40014 + 7103 * (k : Int) + 31) % 2147483563 + 1, ?_⟩
    simp -implicitDefEqProofs [po, m2, opMod_s, opMulA_r]
  by_cases h : k < ns.length
  · have ix := opIx_iz (ns := ns) (i := (k : Int)) (by omega) (List.getElem?_eq_getElem (show (k : Int).toNat < ns.length by omega))
    obtain ⟨x, ex⟩ : ∃ x, x = ns[(k : Int).toNat]'(by omega) := ⟨_, rfl⟩
    rw [← ex] at ix
    obtain ⟨u, v, e⟩ := key (if x < 0 then -x else x)
    refine ⟨u, v, ?_⟩
    obtain ⟨L, hL⟩ : ∃ L, L = ns.map D.int := ⟨_, rfl⟩
    rw [← hL] at ix e lL
    rw [← hL]
    unfold m_l_pot f_l_pot
    simp -implicitDefEqProofs [-eLst_ap, m1, lL, h, ix, e]
  · obtain ⟨u, v, e⟩ := key (353 * k + 101)
    refine ⟨u, v, ?_⟩
    obtain ⟨L, hL⟩ : ∃ L, L = ns.map D.int := ⟨_, rfl⟩
    rw [← hL] at e lL
    rw [← hL]
    unfold m_l_pot f_l_pot
    simp -implicitDefEqProofs [-eLst_ap, m1, lL, h, e]
/-- the one turn is right: so is the law -/
theorem good_of (h : ∀ π, ∃ π', m_l_right [.non] π = .ok (.bl true, π')) : ∀ ns : List Int, ns.length ≤ 63 → ∃ π, m_law_ [.lst (DL.iz ns)] (0, 0) = .ok (.bl true, π) := by
  intro ns hl
  obtain ⟨u, v, e⟩ := pot_eq ns 0 hl (by first | rfl | omega) (0, 0)
  obtain ⟨π2, e2⟩ := h (u, v)
  refine ⟨(0, 0), ?_⟩
  have e' : m_l_pot [.lst (ns.map D.int), .int 0] (0, 0) = .ok (.lst [.int u, .int v], (0, 0)) := e
  unfold m_law_ f_law_
  simp -implicitDefEqProofs [e', e2]
end LW
namespace RK
abbrev V := Nat → Int
def zr : V := fun _ => 0
def ad (u v : V) : V := fun j => u j + v j
def sm (a : Int) (u : V) : V := fun j => a * u j
/-- sums over the rationals, of whole vectors -/
inductive Sp (W : List V) : V → Prop
  | mem {w} : w ∈ W → Sp W w
  | zero : Sp W zr
  | add {u v} : Sp W u → Sp W v → Sp W (ad u v)
  | smul {u} (a : Int) : Sp W u → Sp W (sm a u)
  | div {u} (a : Int) : a ≠ 0 → Sp W (sm a u) → Sp W u
theorem Sp.trans {W X : List V} (h : ∀ w ∈ W, Sp X w) {v} (hv : Sp W v) : Sp X v := by
  induction hv with
  | mem hw => exact h _ hw
  | zero => exact Sp.zero
  | add _ _ i j => exact i.add j
  | smul a _ i => exact i.smul a
  | div a ha _ i => exact i.div a ha
theorem Sp.mono {W X : List V} (h : ∀ w ∈ W, w ∈ X) {v} (hv : Sp W v) : Sp X v :=
  hv.trans fun w hw => Sp.mem (h w hw)
theorem Sp.congr {W : List V} {u v : V} (hu : Sp W u) (h : ∀ j, u j = v j) : Sp W v := by
  have : u = v := funext h
  exact this ▸ hu
theorem Sp.lin {W : List V} {u v : V} (hu : Sp W u) (hv : Sp W v) (a b : Int) {x : V}
    (h : ∀ j, x j = a * u j + b * v j) : Sp W x :=
  ((hu.smul a).add (hv.smul b)).congr fun j => (h j).symm
theorem Sp.dlin {W : List V} {u v : V} (hu : Sp W u) (hv : Sp W v) (a b d : Int) (hd : d ≠ 0) {x : V}
    (h : ∀ j, d * x j = a * u j + b * v j) : Sp W x :=
  Sp.div d hd (Sp.lin hu hv a b h)
theorem Sp.nil {v : V} (h : Sp [] v) (j) : v j = 0 := by
  induction h with
  | mem hw => simp at hw
  | zero => rfl
  | add _ _ i k => simp [ad, i, k]
  | smul a _ i => simp [sm, i]
  | div a ha _ i => simp only [sm] at i; exact (Int.mul_eq_zero.mp i).resolve_left ha
theorem Sp.split {w : V} {W : List V} {v : V} (h : Sp (w :: W) v) :
    ∃ (d a : Int) (y : V), d ≠ 0 ∧ Sp W y ∧ ∀ j, d * v j = a * w j + y j := by
  induction h with
  | mem hw =>
    rcases List.mem_cons.mp hw with rfl | hw
    · exact ⟨1, 1, zr, by decide, Sp.zero, fun j => by simp [zr]⟩
    · exact ⟨1, 0, _, by decide, Sp.mem hw, fun j => by simp⟩
  | zero => exact ⟨1, 0, zr, by decide, Sp.zero, fun j => by simp [zr]⟩
  | add _ _ i k =>
    obtain ⟨d, a, y, hd, hy, e⟩ := i
    obtain ⟨d', a', y', hd', hy', e'⟩ := k
    refine ⟨d * d', a * d' + a' * d, _, Int.mul_ne_zero hd hd', (hy.smul d').add (hy'.smul d), fun j => ?_⟩
    have e1 := e j; have e2 := e' j
    simp only [ad, sm]; grind
  | smul c _ i =>
    obtain ⟨d, a, y, hd, hy, e⟩ := i
    refine ⟨d, c * a, _, hd, hy.smul c, fun j => ?_⟩
    have e1 := e j
    simp only [sm]; grind
  | div c hc _ i =>
    obtain ⟨d, a, y, hd, hy, e⟩ := i
    refine ⟨d * c, a, y, Int.mul_ne_zero hd hc, hy, fun j => ?_⟩
    have e1 := e j
    simp only [sm] at e1; grind
/-- linear maps -/
structure Lin (T : V → V) : Prop where
  z : ∀ j, T zr j = 0
  a : ∀ u v j, T (ad u v) j = T u j + T v j
  s : ∀ c u j, T (sm c u) j = c * T u j
theorem Sp.map {T : V → V} (hT : Lin T) {W : List V} {v} (h : Sp W v) : Sp (W.map T) (T v) := by
  induction h with
  | mem hw => exact Sp.mem (List.mem_map_of_mem hw)
  | zero => exact Sp.zero.congr fun j => by simp [hT.z, zr]
  | add _ _ i k => exact (i.add k).congr fun j => by simp [hT.a, ad]
  | smul c _ i => exact (i.smul c).congr fun j => by simp [hT.s, sm]
  | div c hc _ i => exact Sp.div c hc (i.congr fun j => by simp [hT.s, sm])
def Ind : List V → Prop
  | [] => True
  | w :: W => ¬ Sp W w ∧ Ind W
theorem Ind.swap {u v : V} {W} (h : Ind (u :: v :: W)) : Ind (v :: u :: W) := by
  obtain ⟨hu, hv, hW⟩ := h
  refine ⟨fun hs => ?_, fun hs => hu (hs.mono (by simp +contextual)), hW⟩
  obtain ⟨d, a, y, hd, hy, e⟩ := hs.split
  by_cases ha : a = 0
  · subst ha
    exact hv (Sp.dlin hy hy 1 0 d hd fun j => by have := e j; grind)
  · refine hu (Sp.dlin (u := v) (v := y) (Sp.mem (by simp)) (hy.mono (by simp +contextual)) d (-1) a ha
      fun j => by have := e j; grind)
theorem Ind.perm {A B : List V} (p : A.Perm B) : Ind A → Ind B := by
  induction p with
  | nil => exact id
  | cons x p ih => exact fun h => ⟨fun hs => h.1 (hs.mono fun w hw => p.mem_iff.mpr hw), ih h.2⟩
  | swap x y l => exact Ind.swap
  | trans _ _ i k => exact fun h => k (i h)
theorem Ind.shear {b : V} {B : List V} (f : V → V)
    (hf : ∀ v ∈ B, ∃ c e : Int, c ≠ 0 ∧ ∀ j, f v j = c * v j + e * b j)
    (h : Ind (B ++ [b])) : Ind (B.map f) := by
  induction B with
  | nil => trivial
  | cons v B ih =>
    refine ⟨fun hs => h.1 ?_, ih (fun v hv => hf v (by simp [hv])) h.2⟩
    have hs' : Sp (B ++ [b]) (f v) := hs.trans fun w hw => by
      obtain ⟨x, hx, rfl⟩ := List.mem_map.mp hw
      obtain ⟨c, e, _, he⟩ := hf x (by simp [hx])
      exact Sp.lin (Sp.mem (by simp [hx])) (Sp.mem (w := b) (by simp)) c e he
    obtain ⟨c, e, hc, he⟩ := hf v (by simp)
    exact Sp.dlin hs' (Sp.mem (w := b) (by simp)) 1 (-e) c hc fun j => by have := he j; grind
theorem steinitz (W : List V) : ∀ (B : List V), Ind B → (∀ b ∈ B, Sp W b) → B.length ≤ W.length := by
  induction W with
  | nil =>
    intro B hB hs
    cases B with
    | nil => simp
    | cons b B =>
      exact absurd (Sp.zero.congr fun j => ((hs b (by simp)).nil j).symm) hB.1
  | cons w W ih =>
    intro B hB hs
    by_cases hall : ∀ b ∈ B, Sp W b
    · exact Nat.le_succ_of_le (ih B hB hall)
    · have ⟨b, hb, hnb⟩ : ∃ b ∈ B, ¬ Sp W b := by
        apply Classical.byContradiction; intro hc; apply hall; intro b hb
        apply Classical.byContradiction; intro hn; exact hc ⟨b, hb, hn⟩
      obtain ⟨B1, B2, rfl⟩ := List.append_of_mem hb
      have hp : (B1 ++ b :: B2).Perm ((B1 ++ B2) ++ [b]) :=
        List.perm_middle.trans (List.perm_append_singleton _ _).symm
      have hB' := Ind.perm hp hB
      obtain ⟨d, a, y, hd, hy, e⟩ := (hs b hb).split
      have ha : a ≠ 0 := by
        rintro rfl
        exact hnb (Sp.dlin hy hy 1 0 d hd fun j => by have := e j; grind)
      have hch : ∀ v : V, ∃ f : V, (v ∈ B1 ++ B2 → (∃ c e : Int, c ≠ 0 ∧ ∀ j, f j = c * v j + e * b j) ∧ Sp W f) := by
        intro v
        by_cases hv : v ∈ B1 ++ B2
        · obtain ⟨d', a', y', hd', hy', e'⟩ := (hs v (hp.mem_iff.mpr (by simp at hv ⊢; grind))).split
          refine ⟨fun j => (a * d') * v j + (- (a' * d)) * b j, fun _ => ⟨⟨_, _, Int.mul_ne_zero ha hd', fun j => rfl⟩, ?_⟩⟩
          exact Sp.lin hy' hy a (-a') fun j => by
            have e1 := e j; have e2 := e' j; grind
        · exact ⟨zr, fun h => absurd h hv⟩
      have ⟨f, hf⟩ : ∃ f : V → V, ∀ v ∈ B1 ++ B2, (∃ c e : Int, c ≠ 0 ∧ ∀ j, f v j = c * v j + e * b j) ∧ Sp W (f v) :=
        ⟨fun v => Classical.choose (hch v), fun v hv => Classical.choose_spec (hch v) hv⟩
      have hI := Ind.shear f (fun v hv => (hf v hv).1) hB'
      have := ih _ hI (fun x hx => by obtain ⟨v, hv, rfl⟩ := List.mem_map.mp hx; exact (hf v hv).2)
      simp only [List.length_map, List.length_append, List.length_cons] at this ⊢
      omega
theorem basis_ex (L : List V) : ∃ B : List V, (∀ b ∈ B, b ∈ L) ∧ Ind B ∧ ∀ v ∈ L, Sp B v := by
  induction L with
  | nil => exact ⟨[], by simp, trivial, by simp⟩
  | cons v L ih =>
    obtain ⟨B, h1, h2, h3⟩ := ih
    by_cases h : Sp B v
    · refine ⟨B, fun b hb => by simp [h1 b hb], h2, fun x hx => ?_⟩
      rcases List.mem_cons.mp hx with rfl | hx
      · exact h
      · exact h3 x hx
    · refine ⟨v :: B, fun b hb => ?_, ⟨h, h2⟩, fun x hx => ?_⟩
      · rcases List.mem_cons.mp hb with rfl | hb
        · simp
        · simp [h1 b hb]
      · rcases List.mem_cons.mp hx with rfl | hx
        · exact Sp.mem (by simp)
        · exact (h3 x hx).mono (by simp +contextual)
noncomputable def rk (L : List V) : Nat := (Classical.choose (basis_ex L)).length
theorem rk_spec (L : List V) : ∃ B : List V, (∀ b ∈ B, b ∈ L) ∧ Ind B ∧ (∀ v ∈ L, Sp B v) ∧ B.length = rk L :=
  ⟨_, (Classical.choose_spec (basis_ex L)).1, (Classical.choose_spec (basis_ex L)).2.1,
    (Classical.choose_spec (basis_ex L)).2.2, rfl⟩
theorem rk_of_basis {L B : List V} (hI : Ind B) (h1 : ∀ b ∈ B, Sp L b) (h2 : ∀ v ∈ L, Sp B v) : rk L = B.length := by
  obtain ⟨C, c1, c2, c3, e⟩ := rk_spec L
  rw [← e]
  apply Nat.le_antisymm
  · exact steinitz B C c2 fun c hc => h2 c (c1 c hc)
  · exact steinitz C B hI fun b hb => (h1 b hb).trans c3
theorem ind_le_rk {L B : List V} (hI : Ind B) (h1 : ∀ b ∈ B, Sp L b) : B.length ≤ rk L := by
  obtain ⟨C, c1, c2, c3, e⟩ := rk_spec L
  rw [← e]; exact steinitz C B hI fun b hb => (h1 b hb).trans c3
theorem rk_le_of {L W : List V} (h : ∀ v ∈ L, Sp W v) : rk L ≤ W.length := by
  obtain ⟨C, c1, c2, c3, e⟩ := rk_spec L
  rw [← e]; exact steinitz W C c2 fun c hc => h c (c1 c hc)
theorem rk_le_span {L W : List V} (h : ∀ v ∈ L, Sp W v) : rk L ≤ rk W := by
  obtain ⟨C, c1, c2, c3, e⟩ := rk_spec W
  rw [← e]; exact rk_le_of fun v hv => (h v hv).trans c3
theorem rk_congr {L W : List V} (h : ∀ v ∈ L, Sp W v) (h' : ∀ v ∈ W, Sp L v) : rk L = rk W :=
  Nat.le_antisymm (rk_le_span h) (rk_le_span h')
theorem rk_le_length (L : List V) : rk L ≤ L.length := rk_le_of fun _ hv => Sp.mem hv
theorem rk_ind {B : List V} (h : Ind B) : rk B = B.length :=
  rk_of_basis h (fun _ hb => Sp.mem hb) (fun _ hb => Sp.mem hb)
theorem rk_mono {L W : List V} (h : ∀ v ∈ L, v ∈ W) : rk L ≤ rk W := rk_le_span fun v hv => Sp.mem (h v hv)
theorem rk_perm {L W : List V} (h : ∀ v, v ∈ L ↔ v ∈ W) : rk L = rk W :=
  Nat.le_antisymm (rk_mono fun v hv => (h v).mp hv) (rk_mono fun v hv => (h v).mpr hv)
theorem ind_of_rk {L : List V} (h : rk L = L.length) : Ind L := by
  induction L with
  | nil => trivial
  | cons v L ih =>
    have hl := rk_le_length L
    simp only [List.length_cons] at h
    refine ⟨fun hs => ?_, ih ?_⟩
    · have : rk (v :: L) ≤ L.length := rk_le_of fun x hx => by
        rcases List.mem_cons.mp hx with rfl | hx
        · exact hs
        · exact Sp.mem hx
      omega
    · obtain ⟨C, c1, c2, c3, e⟩ := rk_spec L
      have : rk (v :: L) ≤ (v :: C).length := rk_le_of fun x hx => by
        rcases List.mem_cons.mp hx with rfl | hx
        · exact Sp.mem (by simp)
        · exact (c3 x hx).mono (by simp +contextual)
      simp only [List.length_cons] at this
      omega
/-- each of the one a multiple (not by 0) of one of the other, both ways -/
theorem rk_scale {L W : List V} (h : ∀ v ∈ L, ∃ w ∈ W, ∃ c d : Int, c ≠ 0 ∧ ∀ j, c * v j = d * w j)
    (h' : ∀ v ∈ W, ∃ w ∈ L, ∃ c d : Int, c ≠ 0 ∧ ∀ j, c * v j = d * w j) : rk L = rk W := by
  apply rk_congr
  · intro v hv; obtain ⟨w, hw, c, d, hc, e⟩ := h v hv
    exact Sp.dlin (Sp.mem hw) (Sp.mem hw) d 0 c hc fun j => by have := e j; grind
  · intro v hv; obtain ⟨w, hw, c, d, hc, e⟩ := h' v hv
    exact Sp.dlin (Sp.mem hw) (Sp.mem hw) d 0 c hc fun j => by have := e j; grind
end RK
namespace RK
/-- pivots: places and vectors, the later ones nought at the places of the earlier ones -/
def Tri : List (Nat × V) → Prop
  | [] => True
  | p :: ps => p.2 p.1 ≠ 0 ∧ (∀ q ∈ ps, q.2 p.1 = 0) ∧ Tri ps
theorem tri_snoc {ps : List (Nat × V)} (h : Tri ps) {p : Nat} {v : V} (hp : v p ≠ 0) (hz : ∀ q ∈ ps, v q.1 = 0) :
    Tri (ps ++ [(p, v)]) := by
  induction ps with
  | nil => exact ⟨hp, by simp, trivial⟩
  | cons q ps ih =>
    refine ⟨h.1, fun x hx => ?_, ih h.2.2 fun x hx => hz x (by simp [hx])⟩
    rcases List.mem_append.mp hx with hx | hx
    · exact h.2.1 x hx
    · simp at hx; subst hx; exact hz q (by simp)
theorem Sp.van {W : List V} {j : Nat} (h : ∀ w ∈ W, w j = 0) {v : V} (hv : Sp W v) : v j = 0 := by
  induction hv with
  | mem hw => exact h _ hw
  | zero => rfl
  | add _ _ i k => simp [ad, i, k]
  | smul a _ i => simp [sm, i]
  | div a ha _ i => simp only [sm] at i; exact (Int.mul_eq_zero.mp i).resolve_left ha
theorem tri_ind {ps : List (Nat × V)} (h : Tri ps) : Ind (ps.map (·.2)) := by
  induction ps with
  | nil => trivial
  | cons p ps ih =>
    refine ⟨fun hs => h.1 (hs.van fun w hw => ?_), ih h.2.2⟩
    obtain ⟨q, hq, rfl⟩ := List.mem_map.mp hw
    exact h.2.1 q hq
/-- a sum of pivots that is nought at all their places is nought -/
theorem tri_zero {ps : List (Nat × V)} (h : Tri ps) {v : V} (hv : Sp (ps.map (·.2)) v) (hz : ∀ p ∈ ps, v p.1 = 0) :
    ∀ j, v j = 0 := by
  induction ps generalizing v with
  | nil => exact hv.nil
  | cons p ps ih =>
    obtain ⟨d, a, y, hd, hy, e⟩ := hv.split
    have hyp : y p.1 = 0 := hy.van fun w hw => by
      obtain ⟨q, hq, rfl⟩ := List.mem_map.mp hw
      exact h.2.1 q hq
    have ha : a = 0 := by
      have := e p.1
      rw [hz p (by simp), hyp] at this
      have h1 := h.1
      have h2 : a * p.2 p.1 = 0 := by
        have t := this; rw [Int.mul_zero, Int.add_zero] at t; exact t.symm
      exact (Int.mul_eq_zero.mp h2).resolve_right h1
    subst ha
    have hv' : Sp (ps.map (·.2)) v := Sp.dlin hy hy 1 0 d hd fun j => by have := e j; grind
    exact ih h.2.2 hv' fun q hq => hz q (by simp [hq])
/-- sums with whole coefficients -/
def lc : List Int → List V → V
  | c :: cs, v :: vs => fun j => c * v j + lc cs vs j
  | _, _ => zr
theorem lc_sp (cs : List Int) (vs : List V) : Sp vs (lc cs vs) := by
  induction vs generalizing cs with
  | nil => cases cs <;> exact Sp.zero
  | cons v vs ih =>
    cases cs with
    | nil => exact Sp.zero
    | cons c cs =>
      exact Sp.lin (Sp.mem (w := v) (by simp)) ((ih cs).mono (by simp +contextual)) c 1 fun j => by simp [lc]
theorem lc_ind {vs : List V} (h : Ind vs) (cs : List Int) (hl : cs.length = vs.length) (hz : ∀ j, lc cs vs j = 0) :
    ∀ c ∈ cs, c = 0 := by
  induction vs generalizing cs with
  | nil => cases cs with
    | nil => simp
    | cons c cs => simp at hl
  | cons v vs ih =>
    cases cs with
    | nil => simp
    | cons c cs =>
      have hc : c = 0 := by
        apply Classical.byContradiction
        intro hc
        refine h.1 (Sp.dlin (lc_sp cs vs) (lc_sp cs vs) (-1) 0 c hc fun j => ?_)
        have := hz j; simp only [lc] at this; grind
      subst hc
      intro c hc
      rcases List.mem_cons.mp hc with rfl | hc
      · rfl
      · exact ih h.2 cs (by simpa using hl) (fun j => by have := hz j; simpa [lc] using this) c hc
theorem lc_sub (cs ds : List Int) (vs : List V) (hl : cs.length = ds.length) (j) :
    lc (cs.zipWith (· - ·) ds) vs j = lc cs vs j - lc ds vs j := by
  induction vs generalizing cs ds with
  | nil => cases cs <;> cases ds <;> simp [lc, zr]
  | cons v vs ih =>
    cases cs with
    | nil => cases ds with
      | nil => simp [lc, zr]
      | cons d ds => simp at hl
    | cons c cs => cases ds with
      | nil => simp at hl
      | cons d ds =>
        simp only [List.zipWith_cons_cons, lc]
        rw [ih cs ds (by simpa using hl)]; grind
theorem natAbs_mul_le {a b : Int} {x y : Nat} (ha : a.natAbs ≤ x) (hb : b.natAbs ≤ y) : (a * b).natAbs ≤ x * y := by
  rw [Int.natAbs_mul]; exact Nat.mul_le_mul ha hb
theorem lc_bound (cs : List Int) (vs : List V) (N B j : Nat) (hc : ∀ c ∈ cs, c.natAbs ≤ N)
    (hv : ∀ v ∈ vs, (v j).natAbs ≤ B) : (lc cs vs j).natAbs ≤ vs.length * (N * B) := by
  induction vs generalizing cs with
  | nil => cases cs <;> simp [lc, zr]
  | cons v vs ih =>
    cases cs with
    | nil => simp [lc, zr]
    | cons c cs =>
      have h1 := ih cs (fun c hc' => hc c (by simp [hc'])) (fun v hv' => hv v (by simp [hv']))
      have h2 := natAbs_mul_le (hc c (by simp)) (hv v (by simp))
      have h3 := Int.natAbs_add_le (c * v j) (lc cs vs j)
      simp only [lc, List.length_cons, Nat.succ_mul]
      omega
theorem pigeon (M : Nat) (f : Nat → Nat) (h : ∀ i, i ≤ M → f i < M) : ∃ i j, i < j ∧ j ≤ M ∧ f i = f j := by
  induction M generalizing f with
  | zero => exact absurd (h 0 (Nat.le_refl _)) (Nat.not_lt_zero _)
  | succ M ih =>
    by_cases hx : ∃ i, i ≤ M ∧ f i = f (M + 1)
    · obtain ⟨i, hi, e⟩ := hx
      exact ⟨i, M + 1, by omega, Nat.le_refl _, e⟩
    · have hne : ∀ i, i ≤ M → f i ≠ f (M + 1) := fun i hi e => hx ⟨i, hi, e⟩
      have hM := h (M + 1) (Nat.le_refl _)
      obtain ⟨i, j, hij, hj, e⟩ := ih (fun i => if f i = M then f (M + 1) else f i) (fun i hi => by
        have h1 := h i (by omega); have h2 := hne i hi
        by_cases he : f i = M
        · simp [he]; omega
        · simp [he]; omega)
      refine ⟨i, j, hij, by omega, ?_⟩
      have h1 := hne i (by omega); have h2 := hne j (by omega)
      by_cases hi : f i = M <;> by_cases hj' : f j = M <;> simp [hi, hj'] at e <;> omega
/-- digits, the lowest first -/
def dg (D : Nat) : Nat → Nat → List Nat
  | 0, _ => []
  | k + 1, x => x % D :: dg D k (x / D)
theorem dg_length (D k x) : (dg D k x).length = k := by
  induction k generalizing x with
  | zero => rfl
  | succ k ih => simp [dg, ih]
theorem dg_lt {D : Nat} (hD : 0 < D) (k x) : ∀ d ∈ dg D k x, d < D := by
  induction k generalizing x with
  | zero => simp [dg]
  | succ k ih =>
    intro d hd
    simp only [dg, List.mem_cons] at hd
    rcases hd with rfl | hd
    · exact Nat.mod_lt _ hD
    · exact ih _ d hd
theorem dg_inj {D : Nat} (k x y : Nat) (hx : x < D ^ k) (hy : y < D ^ k) (h : dg D k x = dg D k y) : x = y := by
  induction k generalizing x y with
  | zero => simp at hx hy; omega
  | succ k ih =>
    simp only [dg, List.cons.injEq] at h
    have h1 : x / D = y / D := ih _ _ (Nat.div_lt_of_lt_mul (by rw [Nat.pow_succ, Nat.mul_comm] at hx; exact hx))
      (Nat.div_lt_of_lt_mul (by rw [Nat.pow_succ, Nat.mul_comm] at hy; exact hy)) h.2
    have e1 := Nat.div_add_mod x D; have e2 := Nat.div_add_mod y D
    rw [← e1, ← e2, h1, h.1]
/-- a list of numbers as one number -/
def cde (D : Nat) : List Nat → Nat
  | [] => 0
  | x :: xs => x + D * cde D xs
theorem cde_lt {D : Nat} (xs : List Nat) (h : ∀ x ∈ xs, x < D) : cde D xs < D ^ xs.length := by
  induction xs with
  | nil => simp [cde]
  | cons x xs ih =>
    have h1 := h x (by simp)
    have h2 := ih fun x hx => h x (by simp [hx])
    simp only [cde, List.length_cons, Nat.pow_succ]
    have : D * (cde D xs + 1) ≤ D * D ^ xs.length := Nat.mul_le_mul_left _ h2
    rw [Nat.mul_comm (D ^ xs.length) D]
    grind
theorem cde_inj {D : Nat} (xs ys : List Nat) (hl : xs.length = ys.length) (hx : ∀ x ∈ xs, x < D) (hy : ∀ y ∈ ys, y < D)
    (h : cde D xs = cde D ys) : xs = ys := by
  induction xs generalizing ys with
  | nil => cases ys with
    | nil => rfl
    | cons y ys => simp at hl
  | cons x xs ih =>
    cases ys with
    | nil => simp at hl
    | cons y ys =>
      simp only [cde] at h
      have h1 := hx x (by simp); have h2 := hy y (by simp)
      have m1 : (x + D * cde D xs) % D = x := by rw [Nat.add_mul_mod_self_left, Nat.mod_eq_of_lt h1]
      have m2 : (y + D * cde D ys) % D = y := by rw [Nat.add_mul_mod_self_left, Nat.mod_eq_of_lt h2]
      have exy : x = y := by rw [← m1, ← m2, h]
      subst exy
      have : cde D xs = cde D ys := Nat.eq_of_mul_eq_mul_left (by omega : 0 < D) (by omega)
      rw [ih ys (by simpa using hl) (fun x hx' => hx x (by simp [hx'])) (fun y hy' => hy y (by simp [hy'])) this]
/-- a small sum that is nought at fewer places than there are rows -/
theorem siegel (vs : List V) (ps : List Nat) (B : Nat) (hB : 1 ≤ B) (hlt : ps.length < vs.length)
    (hb : ∀ v ∈ vs, ∀ j, (v j).natAbs ≤ B) :
    ∃ cs : List Int, cs.length = vs.length ∧ (∃ c ∈ cs, c ≠ 0) ∧
      (∀ c ∈ cs, c.natAbs ≤ (2 * vs.length * B) ^ ps.length) ∧ ∀ p ∈ ps, lc cs vs p = 0 := by
  let k := vs.length
  let q := ps.length
  let N := (2 * k * B) ^ q
  let K := k * (N * B)
  let D := 2 * K + 1
  have hk : 1 ≤ k := by show 1 ≤ vs.length; omega
  have hcs : ∀ x, ((dg (N + 1) k x).map Int.ofNat).length = vs.length := fun x => by simp [dg_length, k]
  let cs : Nat → List Int := fun x => (dg (N + 1) k x).map Int.ofNat
  have hbnd : ∀ x, ∀ c ∈ cs x, c.natAbs ≤ N := by
    intro x c hc
    obtain ⟨d, hd, rfl⟩ := List.mem_map.mp hc
    have := dg_lt (Nat.succ_pos N) k x d hd
    simp only [Int.ofNat_eq_natCast, Int.natAbs_natCast]; omega
  have hval : ∀ x p, (lc (cs x) vs p).natAbs ≤ K := fun x p => lc_bound _ _ N B p (hbnd x) fun v hv => hb v hv p
  let im : Nat → List Nat := fun x => ps.map fun p => (lc (cs x) vs p + K).toNat
  have him : ∀ x, ∀ y ∈ im x, y < D := by
    intro x y hy
    obtain ⟨p, _, rfl⟩ := List.mem_map.mp hy
    have := hval x p
    show (lc (cs x) vs p + (K : Int)).toNat < 2 * K + 1
    omega
  have hNK : D ^ q < (N + 1) ^ k := by
    have h1 : D ≤ (2 * k * B) * (N + 1) := by
      show 2 * (k * (N * B)) + 1 ≤ _
      have : 1 ≤ k * B := Nat.mul_le_mul hk hB
      have e : 2 * k * B * (N + 1) = 2 * (k * (N * B)) + 2 * (k * B) := by grind
      omega
    have h2 : D ^ q ≤ N * (N + 1) ^ q := by
      have := Nat.pow_le_pow_left h1 q
      rwa [Nat.mul_pow] at this
    have h3 : N * (N + 1) ^ q < (N + 1) ^ (q + 1) := by
      rw [Nat.pow_succ, Nat.mul_comm]
      exact Nat.mul_lt_mul_of_pos_left (Nat.lt_succ_self N) (Nat.pow_pos (Nat.succ_pos N))
    exact Nat.lt_of_lt_of_le (Nat.lt_of_le_of_lt h2 h3) (Nat.pow_le_pow_right (Nat.succ_pos N) hlt)
  obtain ⟨x, y, hxy, hy, e⟩ := pigeon (D ^ q) (fun x => cde D (im x)) (fun i _ => by
    have := cde_lt (im i) (him i)
    simpa [im] using this)
  have hlen : ∀ x, (im x).length = ps.length := fun x => by simp [im]
  have him2 : im x = im y := cde_inj _ _ (by rw [hlen, hlen]) (him x) (him y) e
  refine ⟨(cs x).zipWith (· - ·) (cs y), by simp [cs, dg_length, k], ?_, ?_, ?_⟩
  · apply Classical.byContradiction
    intro hn
    have hall : ∀ c ∈ (cs x).zipWith (· - ·) (cs y), c = 0 := fun c hc => Classical.byContradiction fun h => hn ⟨c, hc, h⟩
    have hgen : ∀ (a b : List Nat), a.length = b.length →
        (∀ c ∈ (a.map Int.ofNat).zipWith (· - ·) (b.map Int.ofNat), c = 0) → a = b := by
      intro a
      induction a with
      | nil => intro b hl _; cases b with
        | nil => rfl
        | cons _ _ => simp at hl
      | cons a as ih => intro b hl h; cases b with
        | nil => simp at hl
        | cons b bs =>
          have h1 := h ((a : Int) - b) (by simp)
          rw [ih bs (by simpa using hl) fun c hc => h c (by
            simp only [List.map_cons, List.zipWith_cons_cons, List.mem_cons]; exact Or.inr hc)]
          have : a = b := by omega
          rw [this]
    have := dg_inj k x y (by omega) (by omega) (hgen _ _ (by simp [dg_length]) hall)
    omega
  · intro c hc
    obtain ⟨i, hi, rfl⟩ := List.mem_iff_getElem.mp hc
    rw [List.getElem_zipWith]
    have hgx : ∀ x i (hi : i < (cs x).length), ∃ m : Nat, (cs x)[i] = (m : Int) ∧ m ≤ N := by
      intro x i hi
      have hm := List.getElem_mem hi
      obtain ⟨d, hd, e⟩ := List.mem_map.mp hm
      have := dg_lt (Nat.succ_pos N) k x d hd
      exact ⟨d, e.symm, by omega⟩
    simp only [List.length_zipWith] at hi
    obtain ⟨m, e1, h1⟩ := hgx x i (by omega)
    obtain ⟨m', e2, h2⟩ := hgx y i (by omega)
    rw [e1, e2]
    show _ ≤ N
    omega
  · intro p hp
    rw [lc_sub _ _ _ (by simp [cs, dg_length])]
    have hz : (lc (cs x) vs p + K).toNat = (lc (cs y) vs p + K).toNat := by
      have hgen : ∀ (l : List Nat), l.map (fun p => (lc (cs x) vs p + K).toNat) = l.map (fun p => (lc (cs y) vs p + K).toNat) →
          ∀ p ∈ l, (lc (cs x) vs p + K).toNat = (lc (cs y) vs p + K).toNat := by
        intro l
        induction l with
        | nil => simp
        | cons a l ih =>
          intro h p hp
          simp only [List.map_cons, List.cons.injEq] at h
          rcases List.mem_cons.mp hp with rfl | hp
          · exact h.1
          · exact ih h.2 p hp
      exact hgen ps him2 p hp
    have h1 := hval x p; have h2 := hval y p
    omega
/-- a primitive sum of k rows that is nought at k - 1 pivots' places is small -/
theorem pivot_bound {R : List V} {B : Nat} (hB : 1 ≤ B) (hb : ∀ r ∈ R, ∀ j, (r j).natAbs ≤ B)
    {ps : List (Nat × V)} (ht : Tri ps) (hs : ∀ p ∈ ps, Sp R p.2) (hl : R.length = ps.length + 1)
    {u : V} {p : Nat} (hu : Sp R u) (hp : u p ≠ 0) (hz : ∀ q ∈ ps, u q.1 = 0)
    (hprim : ∀ d : Int, (∀ j, d ∣ u j) → d.natAbs = 1) (j : Nat) :
    (u j).natAbs ≤ (2 * R.length * B) ^ R.length := by
  have ht' : Tri (ps ++ [(p, u)]) := tri_snoc ht hp hz
  have hI := tri_ind ht'
  have hsp : ∀ v ∈ (ps ++ [(p, u)]).map (·.2), Sp R v := by
    intro v hv
    obtain ⟨q, hq, rfl⟩ := List.mem_map.mp hv
    rcases List.mem_append.mp hq with hq | hq
    · exact hs q hq
    · simp at hq; subst hq; exact hu
  have hrk : rk R = R.length := Nat.le_antisymm (rk_le_length R) (by
    have := ind_le_rk hI hsp
    simp at this; omega)
  have hIR := ind_of_rk hrk
  obtain ⟨cs, h1, ⟨c, hc, hc0⟩, h3, h4⟩ := siegel R (ps.map (·.1)) B hB (by simp; omega) hb
  have hback : ∀ r ∈ R, Sp ((ps ++ [(p, u)]).map (·.2)) r := by
    intro r hr
    apply Classical.byContradiction
    intro hn
    have : Ind (r :: (ps ++ [(p, u)]).map (·.2)) := ⟨hn, hI⟩
    have := steinitz R _ this (fun b hb => by
      rcases List.mem_cons.mp hb with rfl | hb
      · exact Sp.mem hr
      · exact hsp b hb)
    simp at this; omega
  have hw : Sp ((ps ++ [(p, u)]).map (·.2)) (lc cs R) := (lc_sp cs R).trans hback
  have hw' : Sp (u :: ps.map (·.2)) (lc cs R) := hw.mono (by simp; grind)
  obtain ⟨d, a, y, hd, hy, e⟩ := hw'.split
  have hy0 := tri_zero ht hy fun q hq => by
    have h5 := h4 q.1 (by simp; exact ⟨_, hq⟩)
    have := e q.1
    rw [h5, hz q hq] at this
    omega
  have e' : ∀ j, d * lc cs R j = a * u j := fun j => by have := e j; rw [hy0 j] at this; omega
  have hane : a ≠ 0 := by
    rintro rfl
    have := lc_ind hIR cs h1 (fun j => by
      have := e' j
      have : d * lc cs R j = 0 := by omega
      exact (Int.mul_eq_zero.mp this).resolve_left hd) c hc
    exact hc0 this
  -- d divides a
  have hdiv : d ∣ a := by
    let g : Int := Int.gcd d a
    have hg : g ≠ 0 := by
      show ((Int.gcd d a : Nat) : Int) ≠ 0
      simp [Int.gcd_eq_zero_iff, hd]
    obtain ⟨d', hd'⟩ : g ∣ d := Int.gcd_dvd_left ..
    obtain ⟨a', ha'⟩ : g ∣ a := Int.gcd_dvd_right ..
    have hcop : Int.gcd d' a' = 1 := by
      have h5 : Int.gcd d a = g.natAbs * Int.gcd d' a' := by
        rw [show Int.gcd d a = Int.gcd (g * d') (g * a') by rw [← hd', ← ha'], Int.gcd_mul_left]
      have h6 : g.natAbs = Int.gcd d a := by simp [g]
      have h7 : 0 < Int.gcd d a := by
        rw [← h6]; exact Int.natAbs_pos.mpr hg
      rw [h6] at h5
      exact Nat.eq_of_mul_eq_mul_left h7 (by omega)
    have hall : ∀ j, d' ∣ u j := by
      intro j
      have h8 := e' j
      rw [hd', ha', Int.mul_assoc, Int.mul_assoc] at h8
      have h9 := Int.eq_of_mul_eq_mul_left hg h8
      have : d' ∣ a' * u j := ⟨_, h9.symm⟩
      exact by
        have h10 := Int.dvd_gcd_mul_iff_dvd_mul.mpr this
        simpa [hcop] using h10
    have := hprim d' hall
    rw [hd', ha']
    exact Int.mul_dvd_mul_left g (Int.natAbs_dvd.mp (by rw [this]; exact ⟨a', by simp⟩))
  obtain ⟨m, rfl⟩ := hdiv
  have hm : m ≠ 0 := fun h => hane (by simp [h])
  have e'' : lc cs R j = m * u j := by
    have := e' j
    rw [Int.mul_assoc] at this
    exact Int.eq_of_mul_eq_mul_left hd this
  have hle : (u j).natAbs ≤ (lc cs R j).natAbs := by
    rw [e'', Int.natAbs_mul]
    exact Nat.le_mul_of_pos_left _ (Int.natAbs_pos.mpr hm)
  have hb2 := lc_bound cs R _ B j h3 fun v hv => hb v hv j
  simp only [List.length_map] at hb2
  have hk : R.length = ps.length + 1 := hl
  have : R.length * ((2 * R.length * B) ^ ps.length * B) ≤ (2 * R.length * B) ^ R.length := by
    rw [show (2 * R.length * B) ^ R.length = (2 * R.length * B) ^ ps.length * (2 * R.length * B) by
      conv => lhs; rw [hk]
      rw [Nat.pow_succ, ← hk]]
    generalize (2 * R.length * B) ^ ps.length = X
    have : R.length * (X * B) = X * (R.length * B) := by grind
    rw [this]
    exact Nat.mul_le_mul_left _ (Nat.mul_le_mul_right _ (by omega))
  omega
end RK
namespace RK
/-- rows as vectors -/
def vz (l : List Int) : V := fun j => l.getD j 0
theorem vz_out {l : List Int} {j} (h : l.length ≤ j) : vz l j = 0 := by simp [vz, List.getD, h]
theorem vz_mem {l : List Int} {j} (h : j < l.length) : vz l j ∈ l := by
  simp only [vz, List.getD, List.getElem?_eq_getElem h, Option.getD_some]; exact List.getElem_mem h
theorem vz_get {l : List Int} {j} (h : j < l.length) : l[j] = vz l j := by
  simp only [vz, List.getD, List.getElem?_eq_getElem h, Option.getD_some]
/-- all numbers of a row are small -/
def Bd (B : Nat) (l : List Int) : Prop := ∀ x ∈ l, x.natAbs ≤ B
theorem Bd.vz {B l} (h : Bd B l) (j) : (vz l j).natAbs ≤ B := by
  by_cases hj : j < l.length
  · exact h _ (vz_mem hj)
  · rw [vz_out (by omega)]; simp
theorem Bd.of {B l} (h : ∀ j, (RK.vz l j).natAbs ≤ B) : Bd B l := by
  intro x hx
  obtain ⟨j, hj, rfl⟩ := List.mem_iff_getElem.mp hx
  rw [vz_get hj]; exact h j
theorem Bd.le {B C l} (h : Bd B l) (hc : B ≤ C) : Bd C l := fun x hx => Nat.le_trans (h x hx) hc
def gcdF (g : Nat) (l : List Int) : Nat := l.foldl (fun g x => Int.gcd g x) g
def gcdL (l : List Int) : Nat := gcdF 0 l
theorem gcdF_cons (g : Nat) (x l) : gcdF g (x :: l) = gcdF (Int.gcd g x) l := rfl
theorem gcdF_dvd (l : List Int) (g : Nat) : gcdF g l ∣ g ∧ ∀ x ∈ l, (gcdF g l : Int) ∣ x := by
  induction l generalizing g with
  | nil => simp [gcdF]
  | cons a l ih =>
    obtain ⟨h1, h2⟩ := ih (Int.gcd g a)
    simp only [gcdF_cons]
    refine ⟨Nat.dvd_trans h1 ?_, fun x hx => ?_⟩
    · have := Int.gcd_dvd_left (a := (g : Int)) (b := a)
      exact Int.natCast_dvd_natCast.mp this
    · rcases List.mem_cons.mp hx with rfl | hx
      · exact Int.dvd_trans (Int.natCast_dvd_natCast.mpr h1) (Int.gcd_dvd_right ..)
      · exact h2 x hx
theorem gcdF_dvd_of (l : List Int) (g : Nat) (d : Int) (hg : d ∣ (g : Int)) (h : ∀ x ∈ l, d ∣ x) : d ∣ (gcdF g l : Nat) := by
  induction l generalizing g with
  | nil => exact hg
  | cons a l ih =>
    simp only [gcdF_cons]
    exact ih _ (Int.dvd_coe_gcd hg (h a (by simp))) fun x hx => h x (by simp [hx])
theorem gcdL_dvd (l : List Int) : ∀ x ∈ l, (gcdL l : Int) ∣ x := (gcdF_dvd l 0).2
theorem dvd_gcdL {l : List Int} {d : Int} (h : ∀ x ∈ l, d ∣ x) : d ∣ (gcdL l : Nat) := gcdF_dvd_of l 0 d (by simp) h
theorem gcdL_zero {l : List Int} : gcdL l = 0 ↔ ∀ x ∈ l, x = 0 := by
  constructor
  · intro h x hx
    have := gcdL_dvd l x hx
    rw [h] at this; simpa using this
  · intro h
    have := dvd_gcdL (l := l) (d := 0) fun x hx => by rw [h x hx]; exact Int.dvd_refl 0
    have := Int.zero_dvd.mp this
    omega
theorem gcdL_le {l : List Int} {B} (h : Bd B l) : gcdL l ≤ B := by
  by_cases h0 : gcdL l = 0
  · omega
  · have ⟨x, hx, hx0⟩ : ∃ x ∈ l, x ≠ 0 := by
      apply Classical.byContradiction; intro hn; apply h0; rw [gcdL_zero]
      intro x hx; apply Classical.byContradiction; intro h; exact hn ⟨x, hx, h⟩
    have h1 := Int.natAbs_dvd_natAbs.mpr (gcdL_dvd l x hx)
    have h2 := Nat.le_of_dvd (Int.natAbs_pos.mpr hx0) h1
    have := h x hx
    simp at h2; omega
/-- divided by what divides all -/
def divL (d : Int) (l : List Int) : List Int := l.map (· / d)
theorem divL_vz {d : Int} {l : List Int} (h : ∀ x ∈ l, d ∣ x) (j) : d * vz (divL d l) j = vz l j := by
  by_cases hj : j < l.length
  · have h2 : j < (divL d l).length := by simpa [divL] using hj
    rw [← vz_get h2, ← vz_get hj]
    simp only [divL, List.getElem_map]
    exact Int.mul_ediv_cancel' (h _ (List.getElem_mem hj))
  · rw [vz_out (by simp [divL]; omega), vz_out (by omega)]; simp
def plainZ (l : List Int) : List Int := if 1 < gcdL l then divL (gcdL l) l else l
theorem plainZ_length (l) : (plainZ l).length = l.length := by unfold plainZ; split <;> simp [divL]
theorem plainZ_eq (l : List Int) : ∃ d : Int, d ≠ 0 ∧ ∀ j, vz l j = d * vz (plainZ l) j := by
  unfold plainZ
  split
  · rename_i h
    exact ⟨gcdL l, by omega, fun j => (divL_vz (gcdL_dvd l) j).symm⟩
  · exact ⟨1, by decide, fun j => by simp⟩
/-- what is left when a row is divided by its own divisor has none -/
theorem prim_of {l m : List Int} {d : Nat} (hd : d = max 1 (gcdL l)) (h : ∀ j, vz l j = d * vz m j) 
    {p} (hp : vz l p ≠ 0) : ∀ e : Int, (∀ j, e ∣ vz m j) → e.natAbs = 1 := by
  intro e he
  have h0 : gcdL l ≠ 0 := by
    intro h0
    rw [gcdL_zero] at h0
    have : p < l.length := by apply Classical.byContradiction; intro hn; exact hp (vz_out (by omega))
    exact hp (h0 _ (vz_mem this))
  have hd' : d = gcdL l := by omega
  have h1 : (d : Int) * e ∣ (gcdL l : Nat) := dvd_gcdL fun x hx => by
    obtain ⟨j, hj, rfl⟩ := List.mem_iff_getElem.mp hx
    rw [vz_get hj, h j]
    exact Int.mul_dvd_mul_left _ (he j)
  rw [← hd'] at h1
  obtain ⟨c, hc⟩ := h1
  have h2 : (d : Int) ≠ 0 := by omega
  have h3 : (1 : Int) = e * c := by
    have : (d : Int) * 1 = d * (e * c) := by rw [← Int.mul_assoc, ← hc]; simp
    exact Int.eq_of_mul_eq_mul_left h2 this
  have h4 := congrArg Int.natAbs h3
  rw [Int.natAbs_mul] at h4
  exact Nat.eq_one_of_mul_eq_one_right h4.symm
theorem plainZ_prim {l : List Int} {p} (hp : vz (plainZ l) p ≠ 0) : ∀ e : Int, (∀ j, e ∣ vz (plainZ l) j) → e.natAbs = 1 := by
  obtain ⟨d, hd, he⟩ := plainZ_eq l
  have hp' : vz l p ≠ 0 := by rw [he p]; exact Int.mul_ne_zero hd hp
  refine prim_of (l := l) (d := max 1 (gcdL l)) rfl (fun j => ?_) hp'
  unfold plainZ
  split
  · rename_i h
    rw [show ((max 1 (gcdL l) : Nat) : Int) = gcdL l by omega]
    exact (divL_vz (gcdL_dvd l) j).symm
  · have : gcdL l ≠ 0 := by
      intro h0; rw [gcdL_zero] at h0
      have : p < l.length := by apply Classical.byContradiction; intro hn; exact hp' (vz_out (by omega))
      exact hp' (h0 _ (vz_mem this))
    rw [show ((max 1 (gcdL l) : Nat) : Int) = 1 by omega]; simp
def leadZ (l : List Int) : Option Nat := l.findIdx? (fun x => x != 0)
theorem leadZ_some {l : List Int} {p} (h : leadZ l = some p) : p < l.length ∧ vz l p ≠ 0 := by
  unfold leadZ at h
  rw [List.findIdx?_eq_some_iff_getElem] at h
  obtain ⟨h1, h2, _⟩ := h
  refine ⟨h1, ?_⟩
  rw [← vz_get h1]; simpa using h2
theorem leadZ_none {l : List Int} (h : leadZ l = none) : ∀ j, vz l j = 0 := by
  unfold leadZ at h
  rw [List.findIdx?_eq_none_iff] at h
  intro j
  by_cases hj : j < l.length
  · have := h _ (vz_mem hj); simpa using this
  · exact vz_out (by omega)
/-- c x + e y, number by number -/
def cmbZ (c e : Int) (x y : List Int) : List Int := List.zipWith (fun a b => c * a - e * b) x y
theorem cmbZ_length (c e x y) : (cmbZ c e x y).length = min x.length y.length := by simp [cmbZ]
theorem cmbZ_vz {c e : Int} {x y : List Int} (h : x.length = y.length) (j) : vz (cmbZ c e x y) j = c * vz x j - e * vz y j := by
  by_cases hj : j < x.length
  · have h2 : j < (cmbZ c e x y).length := by rw [cmbZ_length]; omega
    rw [← vz_get h2, ← vz_get hj, ← vz_get (by omega : j < y.length)]
    simp [cmbZ]
  · rw [vz_out (by rw [cmbZ_length]; omega), vz_out (by omega), vz_out (by omega)]; simp
theorem cmbZ_bd {c e : Int} {x y : List Int} {Q M : Nat} (hl : x.length = y.length) (hc : c.natAbs ≤ Q) (he : e.natAbs ≤ M)
    (hx : Bd M x) (hy : Bd Q y) : Bd (2 * Q * M) (cmbZ c e x y) := by
  apply Bd.of; intro j
  rw [cmbZ_vz hl]
  have h1 := natAbs_mul_le hc (hx.vz j)
  have h2 := natAbs_mul_le he (hy.vz j)
  have h3 := Int.natAbs_sub_le (c * vz x j) (e * vz y j)
  have : 2 * Q * M = Q * M + M * Q := by grind
  omega
def lessZ (x f : List Int) (p : Nat) : List Int :=
  cmbZ (vz f p / Int.gcd (vz f p) (vz x p)) (vz x p / Int.gcd (vz f p) (vz x p)) x f
theorem div_natAbs_le (a : Int) (d : Nat) : (a / (d : Int)).natAbs ≤ a.natAbs := by
  rcases Nat.eq_zero_or_pos d with rfl | h
  · simp
  · by_cases hd : (d : Int) ∣ a
    · obtain ⟨c, rfl⟩ := hd
      rw [Int.mul_ediv_cancel_left _ (by omega), Int.natAbs_mul]
      exact Nat.le_mul_of_pos_left _ (by simpa using h)
    · exact Int.natAbs_ediv_le_natAbs a d
theorem lessZ_spec {x f : List Int} {p : Nat} (hl : x.length = f.length) (hf : vz f p ≠ 0) :
    ∃ c e : Int, c ≠ 0 ∧ (∀ j, vz (lessZ x f p) j = c * vz x j - e * vz f j) ∧ vz (lessZ x f p) p = 0 ∧ (lessZ x f p).length = x.length ∧
      ∀ Q M, Bd Q f → Bd M x → Bd (2 * Q * M) (lessZ x f p) := by
  have hg : Int.gcd (vz f p) (vz x p) ≠ 0 := by simp [Int.gcd_eq_zero_iff, hf]
  obtain ⟨a, ha⟩ := Int.gcd_dvd_left (a := vz f p) (b := vz x p)
  obtain ⟨b, hb⟩ := Int.gcd_dvd_right (a := vz f p) (b := vz x p)
  have e1 : vz f p / Int.gcd (vz f p) (vz x p) = a := by
    conv => lhs; lhs; rw [ha]
    exact Int.mul_ediv_cancel_left _ (by omega)
  have e2 : vz x p / Int.gcd (vz f p) (vz x p) = b := by
    conv => lhs; lhs; rw [hb]
    exact Int.mul_ediv_cancel_left _ (by omega)
  refine ⟨a, b, ?_, fun j => by simp only [lessZ]; rw [e1, e2, cmbZ_vz hl], ?_, by simp [lessZ, cmbZ_length]; omega, fun Q M hQ hM => ?_⟩
  · rintro rfl; exact hf (by rw [ha]; simp)
  · simp only [lessZ]; rw [e1, e2, cmbZ_vz hl]
    generalize (Int.gcd (vz f p) (vz x p)) = g at ha hb
    rw [ha, hb]; grind
  · exact cmbZ_bd hl (Nat.le_trans (div_natAbs_le _ _) (hQ.vz p)) (Nat.le_trans (div_natAbs_le _ _) (hM.vz p)) hM hQ
/-- what a list of pivots is to be for rows of a length -/
def Piv (w Q : Nat) (found : List (Nat × List Int)) : Prop := ∀ q ∈ found, q.1 < w ∧ q.2.length = w ∧ vz q.2 q.1 ≠ 0 ∧ Bd Q q.2
abbrev tv (found : List (Nat × List Int)) : List (Nat × V) := found.map fun q => (q.1, vz q.2)
def clr1 (h : List Int) (q : Nat × List Int) : List Int := if vz h q.1 ≠ 0 then lessZ h q.2 q.1 else h
def clrZ (found : List (Nat × List Int)) (h : List Int) : List Int := found.foldl clr1 h
theorem clr1_spec {w Q} {h : List Int} {q : Nat × List Int} (hq : q.2.length = w ∧ vz q.2 q.1 ≠ 0 ∧ Bd Q q.2) (hQ : 1 ≤ Q) (hl : h.length = w) :
    ∃ c e : Int, c ≠ 0 ∧ (∀ j, vz (clr1 h q) j = c * vz h j - e * vz q.2 j) ∧ vz (clr1 h q) q.1 = 0 ∧ (clr1 h q).length = w ∧
      ∀ M, Bd M h → Bd (2 * Q * M) (clr1 h q) := by
  unfold clr1
  split
  · obtain ⟨c, e, h1, h2, h3, h4, h5⟩ := lessZ_spec (x := h) (by rw [hl, hq.1]) hq.2.1
    exact ⟨c, e, h1, h2, h3, by omega, fun M hM => h5 Q M hq.2.2 hM⟩
  · rename_i hz
    refine ⟨1, 0, by decide, fun j => by simp, by simpa using hz, hl, fun M hM => hM.le ?_⟩
    exact Nat.le_mul_of_pos_left _ (by omega)
theorem clrZ_spec {w Q} (hQ : 1 ≤ Q) (found : List (Nat × List Int)) (hp : Piv w Q found) (ht : Tri (tv found)) (h : List Int) (hl : h.length = w) :
    (∃ (c : Int) (y : V), c ≠ 0 ∧ Sp ((tv found).map (·.2)) y ∧ ∀ j, vz (clrZ found h) j = c * vz h j + y j) ∧
    (∀ q ∈ found, vz (clrZ found h) q.1 = 0) ∧ (clrZ found h).length = w ∧
    (∀ j, vz h j = 0 → (∀ q ∈ found, vz q.2 j = 0) → vz (clrZ found h) j = 0) ∧
    ∀ M, Bd M h → Bd ((2 * Q) ^ found.length * M) (clrZ found h) := by
  induction found generalizing h with
  | nil => exact ⟨⟨1, zr, by decide, Sp.zero, fun j => by simp [clrZ, zr]⟩, by simp, hl, fun j hj _ => hj, fun M hM => by simpa [clrZ] using hM⟩
  | cons q found ih =>
    obtain ⟨hq1, hq2, hq3, hq4⟩ := hp q (by simp)
    obtain ⟨c, e, c0, hc, hz, hlen, hb⟩ := clr1_spec (h := h) ⟨hq2, hq3, hq4⟩ hQ hl
    obtain ⟨⟨c', y, c0', hy, hc'⟩, hz', hlen', hk, hb'⟩ := ih (fun x hx => hp x (by simp [hx])) ht.2.2 (clr1 h q) hlen
    have hfold : clrZ (q :: found) h = clrZ found (clr1 h q) := rfl
    rw [hfold]
    refine ⟨⟨c' * c, _, Int.mul_ne_zero c0' c0, ((Sp.mem (w := vz q.2) (by simp)).smul (-(c' * e))).add (hy.mono (by simp +contextual)), fun j => ?_⟩, ?_, hlen', ?_, ?_⟩
    · rw [hc', hc]; simp only [ad, sm]; grind
    · intro x hx
      rcases List.mem_cons.mp hx with rfl | hx
      · exact hk _ hz fun y hy => ht.2.1 (y.1, vz y.2) (List.mem_map.mpr ⟨y, hy, rfl⟩)
      · exact hz' x hx
    · intro j hj hall
      refine hk j ?_ fun x hx => hall x (by simp [hx])
      rw [hc, hj, hall q (by simp)]; simp
    · intro M hM
      have := hb' _ (hb M hM)
      rwa [List.length_cons, Nat.pow_succ, Nat.mul_assoc]
def stepZ (found : List (Nat × List Int)) (r : List Int) : List (Nat × List Int) :=
  match leadZ (plainZ (clrZ found r)) with
  | none => found
  | some p => found ++ [(p, plainZ (clrZ found r))]
structure Inv (w B Q : Nat) (rows : List (List Int)) (found : List (Nat × List Int)) : Prop where
  own : ∃ I : List (List Int), I.length = found.length ∧ (∀ r ∈ I, r ∈ rows) ∧ ∀ q ∈ found, Sp (I.map vz) (vz q.2)
  tri : Tri (tv found)
  piv : Piv w Q found
  all : ∀ r ∈ rows, Sp ((tv found).map (·.2)) (vz r)
theorem pow_grow {a b c d : Nat} (h1 : 1 ≤ a) (h2 : a ≤ b) (h3 : c ≤ d) : a ^ c ≤ b ^ d :=
  Nat.le_trans (Nat.pow_le_pow_left h2 c) (Nat.pow_le_pow_right (by omega) h3)
theorem step_inv {w B n : Nat} (hB : 1 ≤ B) (hn : 1 ≤ n) {rows found} (hi : Inv w B ((2 * n * B) ^ n) rows found) (hlt : found.length < n)
    (hrb : ∀ r ∈ rows, Bd B r) {r : List Int} (hl : r.length = w) (hb : Bd B r) : Inv w B ((2 * n * B) ^ n) (rows ++ [r]) (stepZ found r) := by
  have hQ : 1 ≤ (2 * n * B) ^ n := Nat.one_le_pow _ _ (Nat.mul_pos (by omega) hB)
  obtain ⟨⟨c, y, c0, hy, hc⟩, hz, hlen, _, _⟩ := clrZ_spec hQ found hi.piv hi.tri r hl
  obtain ⟨d, d0, hd⟩ := plainZ_eq (clrZ found r)
  obtain ⟨I, hI1, hI2, hI3⟩ := hi.own
  unfold stepZ
  generalize hu : plainZ (clrZ found r) = u at *
  have hul : u.length = w := by rw [← hu, plainZ_length, hlen]
  have huz : ∀ q ∈ found, vz u q.1 = 0 := fun q hq => by
    have h1 := hz q hq; rw [hd] at h1; exact (Int.mul_eq_zero.mp h1).resolve_left d0
  have hur : Sp (vz u :: (tv found).map (·.2)) (vz r) := by
    refine Sp.dlin (u := vz u) (v := y) (Sp.mem (by simp)) (hy.mono (by simp +contextual)) d (-1) c c0 fun j => ?_
    have h1 := hc j; rw [hd] at h1; grind
  have hus : Sp (vz r :: I.map vz) (vz u) := by
    have hy' : Sp (vz r :: I.map vz) y := hy.trans fun v hv => by
      simp only [tv, List.map_map, List.mem_map, Function.comp] at hv
      obtain ⟨q, hq, rfl⟩ := hv
      exact (hI3 q hq).mono (by simp +contextual)
    refine Sp.dlin (u := vz r) (v := y) (Sp.mem (by simp)) hy' c 1 d d0 fun j => ?_
    have h1 := hc j; rw [hd] at h1; grind
  split
  · rename_i hnone
    have h0 := leadZ_none hnone
    refine ⟨⟨I, hI1, fun r hr => by simp [hI2 r hr], hI3⟩, hi.tri, hi.piv, fun x hx => ?_⟩
    rcases List.mem_append.mp hx with hx | hx
    · exact hi.all x hx
    · simp at hx; subst hx
      refine hur.trans fun v hv => ?_
      rcases List.mem_cons.mp hv with rfl | hv
      · exact Sp.zero.congr fun j => (h0 j).symm
      · exact Sp.mem hv
  · rename_i p hsome
    obtain ⟨hp1, hp2⟩ := leadZ_some hsome
    have hub : Bd ((2 * n * B) ^ n) u := by
      apply Bd.of; intro j
      have hpb := pivot_bound (R := vz r :: I.map vz) (B := B) hB (by
        intro v hv j
        simp only [List.mem_cons, List.mem_map] at hv
        rcases hv with rfl | ⟨x, hx, rfl⟩
        · exact hb.vz j
        · exact (hrb x (hI2 x hx)).vz j) hi.tri (fun q hq => by
          obtain ⟨x, hx, rfl⟩ := List.mem_map.mp hq
          exact (hI3 x hx).mono (by simp +contextual)) (by simp [hI1]) hus hp2 (fun q hq => by
          obtain ⟨x, hx, rfl⟩ := List.mem_map.mp hq
          exact huz x hx) (hu ▸ plainZ_prim (hu.symm ▸ hp2)) j
      refine Nat.le_trans hpb ?_
      simp only [List.length_cons, List.length_map, hI1]
      refine pow_grow (Nat.mul_pos (by omega) hB) (Nat.mul_le_mul_right _ (by omega)) (by omega)
    refine ⟨⟨I ++ [r], by simp [hI1], ?_, ?_⟩, ?_, ?_, ?_⟩
    · intro x hx
      rcases List.mem_append.mp hx with hx | hx
      · simp [hI2 x hx]
      · simp at hx; simp [hx]
    · intro q hq
      rcases List.mem_append.mp hq with hq | hq
      · exact (hI3 q hq).mono (by simp +contextual)
      · simp at hq; subst hq
        exact hus.mono (by simp +contextual)
    · have := tri_snoc hi.tri (p := p) (v := vz u) hp2 (fun q hq => by
        obtain ⟨x, hx, rfl⟩ := List.mem_map.mp hq
        exact huz x hx)
      simpa [tv] using this
    · intro q hq
      rcases List.mem_append.mp hq with hq | hq
      · exact hi.piv q hq
      · simp at hq; subst hq
        exact ⟨by omega, hul, hp2, hub⟩
    · intro x hx
      rcases List.mem_append.mp hx with hx | hx
      · exact (hi.all x hx).mono (by simp +contextual)
      · simp at hx; subst hx
        exact hur.mono (by simp; grind)
def echZ (rows : List (List Int)) : List (Nat × List Int) := rows.foldl stepZ []
theorem stepZ_len (found r) : (stepZ found r).length ≤ found.length + 1 := by unfold stepZ; split <;> simp
theorem echF_inv {w B n : Nat} (hB : 1 ≤ B) (hn : 1 ≤ n) (rs : List (List Int)) : ∀ (rows : List (List Int)) (found), Inv w B ((2 * n * B) ^ n) rows found →
    found.length + rs.length ≤ n → (∀ r ∈ rows, Bd B r) → (∀ r ∈ rs, r.length = w ∧ Bd B r) →
    Inv w B ((2 * n * B) ^ n) (rows ++ rs) (rs.foldl stepZ found) := by
  induction rs with
  | nil => intro rows found hi _ _ _; simpa using hi
  | cons r rs ih =>
    intro rows found hi hl hb hr
    simp only [List.length_cons] at hl
    have h1 := step_inv hB hn hi (by omega) hb (hr r (by simp)).1 (hr r (by simp)).2
    have := ih (rows ++ [r]) (stepZ found r) h1 (by have := stepZ_len found r; omega) (fun x hx => by
      rcases List.mem_append.mp hx with hx | hx
      · exact hb x hx
      · simp at hx; exact hx ▸ (hr r (by simp)).2) fun x hx => hr x (by simp [hx])
    simpa using this
theorem inv_nil (w B Q) : Inv w B Q [] [] := ⟨⟨[], rfl, by simp, by simp⟩, trivial, by simp [Piv], by simp⟩
theorem ech_inv {w B n : Nat} (hB : 1 ≤ B) (hn : 1 ≤ n) (rs : List (List Int)) (hl : rs.length ≤ n) (hr : ∀ r ∈ rs, r.length = w ∧ Bd B r) :
    Inv w B ((2 * n * B) ^ n) rs (echZ rs) := by
  have := echF_inv hB hn rs [] [] (inv_nil w B _) (by simpa using hl) (by simp) hr
  simpa [echZ] using this
theorem Inv.rank {w B Q rows found} (h : Inv w B Q rows found) : found.length = rk (rows.map vz) := by
  obtain ⟨I, h1, h2, h3⟩ := h.own
  rw [rk_of_basis (tri_ind h.tri) ?_ ?_]
  · simp [tv]
  · intro b hb
    simp only [tv, List.map_map, List.mem_map, Function.comp] at hb
    obtain ⟨q, hq, rfl⟩ := hb
    refine (h3 q hq).mono fun v hv => ?_
    obtain ⟨x, hx, rfl⟩ := List.mem_map.mp hv
    exact List.mem_map_of_mem (h2 x hx)
  · intro v hv
    obtain ⟨x, hx, rfl⟩ := List.mem_map.mp hv
    exact h.all x hx
/-- a bound that every list of rows has -/
theorem bd_ex (rs : List (List Int)) : ∃ B, 1 ≤ B ∧ ∀ r ∈ rs, Bd B r := by
  induction rs with
  | nil => exact ⟨1, by simp, by simp⟩
  | cons r rs ih =>
    obtain ⟨B, h1, h2⟩ := ih
    have ⟨C, hC⟩ : ∃ C, Bd C r := by
      clear h2
      induction r with
      | nil => exact ⟨0, by simp [Bd]⟩
      | cons x r ih =>
        obtain ⟨C, hC⟩ := ih
        refine ⟨C + x.natAbs, fun y hy => ?_⟩
        rcases List.mem_cons.mp hy with rfl | hy
        · omega
        · have := hC y hy; omega
    refine ⟨B + C, by omega, fun x hx => ?_⟩
    rcases List.mem_cons.mp hx with rfl | hx
    · exact hC.le (by omega)
    · exact (h2 x hx).le (by omega)
theorem echZ_rank {w : Nat} (rs : List (List Int)) (hr : ∀ r ∈ rs, r.length = w) : (echZ rs).length = rk (rs.map vz) := by
  obtain ⟨B, h1, h2⟩ := bd_ex rs
  exact (ech_inv (n := rs.length + 1) h1 (by omega) rs (by omega) fun r h => ⟨hr r h, h2 r h⟩).rank
end RK
namespace RK
/-- the other way of taking a row off another one -/
def lwless (here other : List Int) (p : Nat) : List Int :=
  divL (max 1 (gcdL (cmbZ (vz other p) (vz here p) here other)) : Nat) (cmbZ (vz other p) (vz here p) here other)
theorem lwless_spec {w p : Nat} {here other : List Int} (h1 : here.length = w) (h2 : other.length = w) :
    (∃ d : Int, d ≠ 0 ∧ ∀ j, d * vz (lwless here other p) j = vz other p * vz here j - vz here p * vz other j) ∧ (lwless here other p).length = w ∧
      ((∀ j, vz (lwless here other p) j = 0) ∨ ∀ e : Int, (∀ j, e ∣ vz (lwless here other p) j) → e.natAbs = 1) := by
  obtain ⟨l, hl⟩ : ∃ l, l = cmbZ (vz other p) (vz here p) here other := ⟨_, rfl⟩
  have hv : ∀ j, vz l j = vz other p * vz here j - vz here p * vz other j := fun j => by rw [hl]; exact cmbZ_vz (by omega) j
  have hlen : l.length = w := by rw [hl, cmbZ_length]; omega
  unfold lwless
  rw [← hl]
  have hdv : ∀ x ∈ l, ((max 1 (gcdL l) : Nat) : Int) ∣ x := by
    intro x hx
    by_cases h0 : gcdL l = 0
    · rw [gcdL_zero.mp h0 x hx]; exact Int.dvd_zero _
    · rw [show max 1 (gcdL l) = gcdL l by omega]; exact gcdL_dvd l x hx
  have he := divL_vz hdv
  refine ⟨⟨((max 1 (gcdL l) : Nat) : Int), by omega, fun j => by rw [he, hv]⟩, by simp [divL, hlen], ?_⟩
  by_cases hz : ∀ j, vz l j = 0
  · left; intro j
    have := he j; rw [hz j] at this
    exact (Int.mul_eq_zero.mp this).resolve_left (by omega)
  · right
    have ⟨q, hq⟩ : ∃ q, vz l q ≠ 0 := by
      apply Classical.byContradiction; intro hn; exact hz fun j => Classical.byContradiction fun h => hn ⟨j, h⟩
    exact prim_of (l := l) rfl (fun j => (he j).symm) hq
def lwmap (here : List Int) (p : Nat) (left : List (List Int)) : List (List Int) :=
  left.map fun o => if vz o p ≠ 0 then lwless here o p else o
/-- what holds of each line that is left -/
def LEl (w B : Nat) (ps : List (Nat × V)) (I : List V) (x : List Int) : Prop :=
  x.length = w ∧ (∃ r : V, (∀ j, (r j).natAbs ≤ B) ∧ Sp (r :: I) (vz x)) ∧ (∀ p ∈ ps, vz x p.1 = 0) ∧
    (Bd B x ∨ (∀ j, vz x j = 0) ∨ ∀ e : Int, (∀ j, e ∣ vz x j) → e.natAbs = 1)
structure LInv (w B : Nat) (ps : List (Nat × V)) (I : List V) (left : List (List Int)) : Prop where
  tri : Tri ps
  len : I.length = ps.length
  sp : ∀ p ∈ ps, Sp I p.2
  bd : ∀ v ∈ I, ∀ j, (v j).natAbs ≤ B
  el : ∀ x ∈ left, LEl w B ps I x
theorem LInv.next {w B : Nat} {ps I left here} (h : LInv w B ps I (left ++ [here])) {p : Nat} (hp : vz here p ≠ 0) :
    ∃ ps' I', ps'.length = ps.length + 1 ∧ LInv w B ps' I' (lwmap here p left) := by
  obtain ⟨h1, ⟨r, hr, hs⟩, h3, h4⟩ := h.el here (by simp)
  refine ⟨ps ++ [(p, vz here)], r :: I, by simp, tri_snoc h.tri hp h3, by simp [h.len], ?_, ?_, ?_⟩
  · intro q hq
    rcases List.mem_append.mp hq with hq | hq
    · exact (h.sp q hq).mono (by simp +contextual)
    · simp at hq; subst hq; exact hs
  · intro v hv
    rcases List.mem_cons.mp hv with rfl | hv
    · exact hr
    · exact h.bd v hv
  · intro x hx
    obtain ⟨o, ho, rfl⟩ := List.mem_map.mp hx
    obtain ⟨g1, ⟨s, gs, gsp⟩, g3, g4⟩ := h.el o (by simp [ho])
    split
    · rename_i hop
      obtain ⟨⟨d, d0, hd⟩, l2, l3⟩ := lwless_spec (p := p) h1 g1
      refine ⟨l2, ⟨s, gs, ?_⟩, ?_, .inr l3⟩
      · exact Sp.dlin (hs.mono (by simp +contextual)) (gsp.mono (by simp; grind)) (vz o p) (-vz here p) d d0 fun j => by
          have := hd j; grind
      · intro q hq
        have := hd q.1
        have hz : vz here q.1 = 0 ∨ q.1 = p := by
          rcases List.mem_append.mp hq with hq | hq
          · exact .inl (h3 q hq)
          · simp at hq; exact .inr (by rw [hq])
        have : d * vz (lwless here o p) q.1 = 0 := by
          rcases List.mem_append.mp hq with hq | hq
          · rw [this, h3 q hq, g3 q hq]; simp
          · simp at hq; rw [this, hq]; simp; grind
        exact (Int.mul_eq_zero.mp this).resolve_left d0
    · rename_i hop
      refine ⟨g1, ⟨s, gs, gsp.mono (by simp; grind)⟩, ?_, g4⟩
      intro q hq
      rcases List.mem_append.mp hq with hq | hq
      · exact g3 q hq
      · simp at hq; rw [hq]; simpa using hop
end RK
namespace RK
theorem Sp.coef {W : List V} {v : V} (h : Sp W v) : ∃ (d : Int) (cs : List Int), d ≠ 0 ∧ cs.length = W.length ∧ ∀ j, d * v j = lc cs W j := by
  induction W generalizing v with
  | nil => exact ⟨1, [], by decide, rfl, fun j => by simp [h.nil j, lc, zr]⟩
  | cons w W ih =>
    obtain ⟨d, a, y, hd, hy, e⟩ := h.split
    obtain ⟨d', cs, hd', hl, e'⟩ := ih hy
    refine ⟨d' * d, (d' * a) :: cs, Int.mul_ne_zero hd' hd, by simp [hl], fun j => ?_⟩
    have h1 := e j; have h2 := e' j
    simp only [lc]; rw [← h2]; grind
theorem ind_of_lc {vs : List V} (h : ∀ cs : List Int, cs.length = vs.length → (∀ j, lc cs vs j = 0) → ∀ c ∈ cs, c = 0) : Ind vs := by
  induction vs with
  | nil => trivial
  | cons v vs ih =>
    refine ⟨fun hs => ?_, ih fun cs hl hz => ?_⟩
    · obtain ⟨d, cs, hd, hl, e⟩ := hs.coef
      have := h ((-d) :: cs) (by simp [hl]) (fun j => by have := e j; simp only [lc]; grind) (-d) (by simp)
      omega
    · intro c hc
      exact h (0 :: cs) (by simp [hl]) (fun j => by simpa [lc] using hz j) c (by simp [hc])
/-- a list whose members come of a map is a map of a list -/
theorem unmap {α β : Type} {f : α → β} {L : List α} : ∀ {C : List β}, (∀ b ∈ C, b ∈ L.map f) → ∃ ps : List α, C = ps.map f ∧ ∀ p ∈ ps, p ∈ L
  | [], _ => ⟨[], rfl, by simp⟩
  | b :: C, h => by
    obtain ⟨ps, e, hp⟩ := unmap (C := C) fun x hx => h x (by simp [hx])
    obtain ⟨a, ha, rfl⟩ := List.mem_map.mp (h b (by simp))
    exact ⟨a :: ps, by simp [e], fun p hp' => by
      rcases List.mem_cons.mp hp' with rfl | hp'
      · exact ha
      · exact hp p hp'⟩
abbrev Pt := Int × Int × Int
abbrev Tr := Nat × Nat × Nat
def mono (m : Tr) (p : Pt) : Int := p.1 ^ m.1 * p.2.1 ^ m.2.1 * p.2.2 ^ m.2.2
/-- the triples of a degree, falling -/
def trs (d : Nat) : List Tr := (List.range (d + 1)).flatMap fun a => (List.range (a + 1)).map fun b => (d - a, a - b, b)
theorem mem_trs {d : Nat} {m : Tr} : m ∈ trs d ↔ m.1 + m.2.1 + m.2.2 = d := by
  unfold trs
  simp only [List.mem_flatMap, List.mem_range, List.mem_map]
  constructor
  · rintro ⟨a, ha, b, hb, rfl⟩
    dsimp only; omega
  · intro h
    refine ⟨m.2.1 + m.2.2, by omega, m.2.2, by omega, ?_⟩
    ext <;> dsimp only <;> omega
theorem trs_length (d : Nat) : 2 * (trs d).length = (d + 1) * (d + 2) := by
  have key : ∀ (d n : Nat), 2 * ((List.range n).flatMap fun a => (List.range (a + 1)).map fun b => ((d - a, a - b, b) : Tr)).length = n * (n + 1) := by
    intro d n
    induction n with
    | zero => rfl
    | succ n ih =>
      rw [List.range_succ, List.flatMap_append, List.length_append, Nat.mul_add, ih]
      simp
      grind
  exact key d (d + 1)
def cnd (d : Nat) (p : Pt) : List Int := (trs d).map fun m => mono m p
theorem cnd_length (d p) : (cnd d p).length = (trs d).length := by simp [cnd]
/-- a sum over points -/
def sumc : List Int → List Pt → (Pt → Int) → Int
  | c :: cs, p :: ps, f => c * f p + sumc cs ps f
  | _, _, _ => 0
theorem lc_sumc (cs : List Int) (ps : List Pt) (g : Pt → V) (j : Nat) : lc cs (ps.map g) j = sumc cs ps fun p => g p j := by
  induction ps generalizing cs with
  | nil => cases cs <;> simp [lc, sumc, zr]
  | cons p ps ih => cases cs with
    | nil => simp [lc, sumc, zr]
    | cons c cs => simp [lc, sumc, ih]
theorem sumc_congr {cs : List Int} {ps : List Pt} {f g : Pt → Int} (h : ∀ p ∈ ps, f p = g p) : sumc cs ps f = sumc cs ps g := by
  induction ps generalizing cs with
  | nil => cases cs <;> rfl
  | cons p ps ih => cases cs with
    | nil => rfl
    | cons c cs => simp only [sumc]; rw [h p (by simp), ih fun q hq => h q (by simp [hq])]
theorem sumc_lin (cs : List Int) (ps : List Pt) (f g : Pt → Int) (a b : Int) : sumc cs ps (fun p => a * f p + b * g p) = a * sumc cs ps f + b * sumc cs ps g := by
  induction ps generalizing cs with
  | nil => cases cs <;> simp [sumc]
  | cons p ps ih => cases cs with
    | nil => simp [sumc]
    | cons c cs => simp only [sumc, ih]; grind
theorem sumc_smul (cs : List Int) (ps : List Pt) (l f : Pt → Int) : sumc (cs.zipWith (· * ·) (ps.map l)) ps f = sumc cs ps fun p => l p * f p := by
  induction ps generalizing cs with
  | nil => cases cs <;> simp [sumc]
  | cons p ps ih => cases cs with
    | nil => simp [sumc]
    | cons c cs => simp only [List.map_cons, List.zipWith_cons_cons, sumc, ih]; grind
theorem cnd_zero {cs : List Int} {ps : List Pt} {d : Nat} : (∀ j, lc cs (ps.map fun p => vz (cnd d p)) j = 0) ↔ ∀ m, m ∈ trs d → sumc cs ps (mono m) = 0 := by
  constructor
  · intro h m hm
    obtain ⟨j, hj, rfl⟩ := List.getElem_of_mem hm
    have := h j
    rw [lc_sumc] at this
    rw [← this]
    exact sumc_congr fun p _ => by simp [vz, cnd, List.getD, hj]
  · intro h j
    rw [lc_sumc]
    by_cases hj : j < (trs d).length
    · rw [← h _ (List.getElem_mem hj)]
      exact sumc_congr fun p _ => by simp [vz, cnd, List.getD, hj]
    · have : ∀ cs, sumc cs ps (fun _ => 0) = 0 := fun cs => by
        have := sumc_lin cs ps (fun _ => 0) (fun _ => 0) 0 0
        simpa using this
      rw [← this cs]
      exact sumc_congr fun p _ => vz_out (by simp [cnd]; omega)
/-- linear forms -/
def lf (a : Pt) (p : Pt) : Int := a.1 * p.1 + a.2.1 * p.2.1 + a.2.2 * p.2.2
theorem mono_x (m : Tr) (p : Pt) : mono (m.1 + 1, m.2.1, m.2.2) p = p.1 * mono m p := by simp [mono, Int.pow_succ]; grind
theorem mono_y (m : Tr) (p : Pt) : mono (m.1, m.2.1 + 1, m.2.2) p = p.2.1 * mono m p := by simp [mono, Int.pow_succ]; grind
theorem mono_z (m : Tr) (p : Pt) : mono (m.1, m.2.1, m.2.2 + 1) p = p.2.2 * mono m p := by simp [mono, Int.pow_succ]; grind
/-- a relation at a degree, times a line, is one at the degree below -/
theorem rel_line {cs : List Int} {ps : List Pt} {d : Nat} (h : ∀ m, m ∈ trs (d + 1) → sumc cs ps (mono m) = 0) (a : Pt) :
    ∀ m, m ∈ trs d → sumc (cs.zipWith (· * ·) (ps.map (lf a))) ps (mono m) = 0 := by
  intro m hm
  rw [mem_trs] at hm
  rw [sumc_smul]
  have e : (fun p => lf a p * mono m p) = fun p => a.1 * mono (m.1 + 1, m.2.1, m.2.2) p + 1 * (a.2.1 * mono (m.1, m.2.1 + 1, m.2.2) p + a.2.2 * mono (m.1, m.2.1, m.2.2 + 1) p) := by
    funext p
    rw [mono_x, mono_y, mono_z]; simp only [lf]; grind
  rw [e, sumc_lin, sumc_lin, h _ (mem_trs.mpr (by dsimp only; omega)), h _ (mem_trs.mpr (by dsimp only; omega)), h _ (mem_trs.mpr (by dsimp only; omega))]
  simp
theorem zip_mul_zero {cs : List Int} {ps : List Pt} {l : Pt → Int} (hl : cs.length = ps.length) (h : ∀ c ∈ cs.zipWith (· * ·) (ps.map l), c = 0) :
    ∀ i (h1 : i < cs.length) (h2 : i < ps.length), cs[i] * l ps[i] = 0 := by
  intro i h1 h2
  apply h
  have : (cs.zipWith (· * ·) (ps.map l))[i]'(by simp; omega) = cs[i] * l ps[i] := by simp
  rw [← this]; exact List.getElem_mem _
def nz (p : Pt) : Prop := p.1 ≠ 0 ∨ p.2.1 ≠ 0 ∨ p.2.2 ≠ 0
/-- what is independent at a degree is so at the next one -/
theorem ind_up {ps : List Pt} (hp : ∀ p ∈ ps, nz p) {d : Nat} (h : Ind (ps.map fun p => vz (cnd d p))) : Ind (ps.map fun p => vz (cnd (d + 1) p)) := by
  apply ind_of_lc
  intro cs hl hz
  rw [cnd_zero] at hz
  have hl' : cs.length = ps.length := by simpa using hl
  have key : ∀ a : Pt, ∀ i (h1 : i < cs.length) (h2 : i < ps.length), cs[i] * lf a ps[i] = 0 := fun a =>
    zip_mul_zero hl' (lc_ind h _ (by simp; omega) (cnd_zero.mpr (rel_line hz a)))
  intro c hc
  obtain ⟨i, hi, rfl⟩ := List.getElem_of_mem hc
  have q1 := key (1, 0, 0) i hi (by omega)
  have q2 := key (0, 1, 0) i hi (by omega)
  have q3 := key (0, 0, 1) i hi (by omega)
  simp only [lf] at q1 q2 q3
  have hn := hp _ (List.getElem_mem (show i < ps.length by omega))
  apply Classical.byContradiction
  intro hc0
  rcases hn with hn | hn | hn
  · exact hn ((Int.mul_eq_zero.mp (by simpa using q1)).resolve_left hc0)
  · exact hn ((Int.mul_eq_zero.mp (by simpa using q2)).resolve_left hc0)
  · exact hn ((Int.mul_eq_zero.mp (by simpa using q3)).resolve_left hc0)
/-- the number of independent conditions -/
noncomputable def hh (d : Nat) (ps : List Pt) : Nat := rk (ps.map fun p => vz (cnd d p))
theorem hh_basis (d : Nat) (ps : List Pt) : ∃ qs : List Pt, (∀ q ∈ qs, q ∈ ps) ∧ Ind (qs.map fun p => vz (cnd d p)) ∧ qs.length = hh d ps ∧ ∀ p ∈ ps, Sp (qs.map fun p => vz (cnd d p)) (vz (cnd d p)) := by
  obtain ⟨B, h1, h2, h3, h4⟩ := rk_spec (ps.map fun p => vz (cnd d p))
  obtain ⟨qs, rfl, hq⟩ := unmap h1
  exact ⟨qs, hq, h2, by rw [hh, ← h4]; simp, fun p hp => h3 _ (List.mem_map.mpr ⟨p, hp, rfl⟩)⟩
theorem hh_up {ps : List Pt} (hp : ∀ p ∈ ps, nz p) (d : Nat) : hh d ps ≤ hh (d + 1) ps := by
  obtain ⟨qs, h1, h2, h3, _⟩ := hh_basis d ps
  have := ind_le_rk (L := ps.map fun p => vz (cnd (d + 1) p)) (ind_up (fun p hp' => hp p (h1 p hp')) h2) fun b hb => by
    obtain ⟨q, hq, rfl⟩ := List.mem_map.mp hb
    exact Sp.mem (List.mem_map.mpr ⟨q, h1 q hq, rfl⟩)
  rw [← h3]
  simpa [hh] using this
theorem hh_mono {ps qs : List Pt} (h : ∀ p ∈ ps, p ∈ qs) (d : Nat) : hh d ps ≤ hh d qs :=
  rk_mono fun v hv => by
    obtain ⟨p, hp, rfl⟩ := List.mem_map.mp hv
    exact List.mem_map.mpr ⟨p, h p hp, rfl⟩
theorem hh_perm {ps qs : List Pt} (h : ∀ p, p ∈ ps ↔ p ∈ qs) (d : Nat) : hh d ps = hh d qs :=
  Nat.le_antisymm (hh_mono (fun p hp => (h p).mp hp) d) (hh_mono (fun p hp => (h p).mpr hp) d)
theorem hh_le_length (ps : List Pt) (d : Nat) : hh d ps ≤ ps.length := by simpa [hh] using rk_le_length (ps.map fun p => vz (cnd d p))
def crs (p q : Pt) : Pt := (p.2.1 * q.2.2 - p.2.2 * q.2.1, p.2.2 * q.1 - p.1 * q.2.2, p.1 * q.2.1 - p.2.1 * q.1)
/-- points that are no multiples of one another -/
def unl (p q : Pt) : Prop := nz (crs p q)
theorem pow_nz {x : Int} (h : x ≠ 0) (n : Nat) : x ^ n ≠ 0 := by
  induction n with
  | zero => simp
  | succ n ih => rw [Int.pow_succ]; exact Int.mul_ne_zero ih h
/-- few points never fail -/
theorem rel_few {ps : List Pt} (hp : ∀ p ∈ ps, nz p) (hu : ps.Pairwise unl) : ∀ {d : Nat} {cs : List Int}, ps.length ≤ d + 1 → cs.length = ps.length →
    (∀ m, m ∈ trs d → sumc cs ps (mono m) = 0) → ∀ c ∈ cs, c = 0 := by
  induction ps with
  | nil => intro d cs _ hl _; cases cs with
    | nil => simp
    | cons c cs => simp at hl
  | cons q ps ih =>
    intro d cs hd hl hz
    cases cs with
    | nil => simp
    | cons c cs =>
      have hl' : cs.length = ps.length := by simpa using hl
      have hq := hp q (by simp)
      have hu1 := (List.pairwise_cons.mp hu).1
      have hrest : ∀ x ∈ cs, x = 0 := by
        cases d with
        | zero =>
          have : ps = [] := by cases ps with
            | nil => rfl
            | cons p ps => simp at hd
          subst this
          have : cs = [] := by cases cs with
            | nil => rfl
            | cons p ps => simp at hl'
          simp [this]
        | succ d =>
          have key : ∀ a : Pt, lf a q = 0 → ∀ i (h1 : i < cs.length) (h2 : i < ps.length), cs[i] * lf a ps[i] = 0 := by
            intro a ha
            apply zip_mul_zero hl'
            apply ih (fun p hp' => hp p (by simp [hp'])) (List.pairwise_cons.mp hu).2 (d := d) (by simp at hd; omega) (by simp; omega)
            intro m hm
            have := rel_line hz a m hm
            simpa [sumc, ha] using this
          intro x hx
          obtain ⟨i, hi, rfl⟩ := List.getElem_of_mem hx
          have hi2 : i < ps.length := by omega
          have q1 := key (0, q.2.2, -q.2.1) (by simp only [lf]; grind) i hi hi2
          have q2 := key (-q.2.2, 0, q.1) (by simp only [lf]; grind) i hi hi2
          have q3 := key (q.2.1, -q.1, 0) (by simp only [lf]; grind) i hi hi2
          simp only [lf] at q1 q2 q3
          have hn := hu1 _ (List.getElem_mem hi2)
          apply Classical.byContradiction
          intro hc0
          unfold unl nz crs at hn
          dsimp only at hn
          have r1 := (Int.mul_eq_zero.mp q1).resolve_left hc0
          have r2 := (Int.mul_eq_zero.mp q2).resolve_left hc0
          have r3 := (Int.mul_eq_zero.mp q3).resolve_left hc0
          revert r1 r2 r3 hn
          generalize ps[i] = P
          obtain ⟨x, y, z⟩ := P
          obtain ⟨a, b, c⟩ := q
          intro hn r1 r2 r3
          dsimp only at r1 r2 r3 hn
          rcases hn with hn | hn | hn <;> apply hn <;> grind
      have hs0 : ∀ (cs : List Int) (ps : List Pt) (f : Pt → Int), (∀ x ∈ cs, x = 0) → sumc cs ps f = 0 := by
        intro cs
        induction cs with
        | nil => intro ps f _; rfl
        | cons c cs ih' => intro ps f h; cases ps with
          | nil => rfl
          | cons p ps => simp only [sumc]; rw [h c (by simp), ih' ps f fun x hx => h x (by simp [hx])]; simp
      have hc : c = 0 := by
        have z := fun m hm => by have := hz m hm; rwa [sumc, hs0 cs ps _ hrest, Int.add_zero] at this
        apply Classical.byContradiction
        intro hc0
        rcases hq with hn | hn | hn
        · have := z (d, 0, 0) (mem_trs.mpr (by simp))
          exact Int.mul_ne_zero hc0 (pow_nz hn d) (by simpa [mono] using this)
        · have := z (0, d, 0) (mem_trs.mpr (by simp))
          exact Int.mul_ne_zero hc0 (pow_nz hn d) (by simpa [mono] using this)
        · have := z (0, 0, d) (mem_trs.mpr (by simp))
          exact Int.mul_ne_zero hc0 (pow_nz hn d) (by simpa [mono] using this)
      intro x hx
      rcases List.mem_cons.mp hx with rfl | hx
      · exact hc
      · exact hrest x hx
theorem hh_few {ps : List Pt} (hp : ∀ p ∈ ps, nz p) (hu : ps.Pairwise unl) {d : Nat} (h : ps.length ≤ d + 1) : hh d ps = ps.length := by
  have : Ind (ps.map fun p => vz (cnd d p)) := ind_of_lc fun cs hl hz => rel_few hp hu h (by simpa using hl) (cnd_zero.mp hz)
  rw [hh, rk_ind this, List.length_map]
theorem hh_zero {ps : List Pt} (h : ps ≠ []) : hh 0 ps = 1 := by
  obtain ⟨p, hp⟩ := List.exists_mem_of_ne_nil ps h
  have : hh 0 ps = hh 0 [p] := by
    apply rk_congr
    · intro v hv
      obtain ⟨q, hq, rfl⟩ := List.mem_map.mp hv
      exact (Sp.mem (w := vz (cnd 0 p)) (by simp)).congr fun j => by simp [cnd, trs, mono]
    · intro v hv
      obtain ⟨q, hq, rfl⟩ := List.mem_map.mp hv
      simp at hq
      exact Sp.mem (List.mem_map.mpr ⟨p, hp, by rw [hq]⟩)
  rw [this]
  have i : Ind ([p].map fun p => vz (cnd 0 p)) := ⟨fun hs => by
    have := hs.nil 0
    simp [vz, cnd, trs, mono] at this, trivial⟩
  rw [hh, rk_ind i]; rfl
theorem hh_le_trs (ps : List Pt) (d : Nat) : hh d ps ≤ (trs d).length := by
  apply Nat.le_trans (rk_le_of (W := (List.range (trs d).length).map fun i => (fun j => if j = i then 1 else 0 : V)) ?_)
  · simp
  · intro v hv
    obtain ⟨p, hp, rfl⟩ := List.mem_map.mp hv
    have key : ∀ n, Sp ((List.range n).map fun i => (fun j => if j = i then 1 else 0 : V)) (fun j => if j < n then vz (cnd d p) j else 0) := by
      intro n
      induction n with
      | zero => exact Sp.zero.congr fun j => by simp [zr]
      | succ n ih =>
        refine Sp.lin (ih.mono ?_) (Sp.mem (w := fun j => if j = n then 1 else 0) (List.mem_map.mpr ⟨n, by simp, rfl⟩)) 1 (vz (cnd d p) n) fun j => ?_
        · intro w hw
          obtain ⟨i, hi, rfl⟩ := List.mem_map.mp hw
          simp at hi
          exact List.mem_map.mpr ⟨i, by simp; omega, rfl⟩
        · by_cases h1 : j < n
          · simp [h1, show j < n + 1 by omega, show j ≠ n by omega]
          · by_cases h2 : j = n
            · simp [h2]
            · simp [h1, h2, show ¬ j < n + 1 by omega]
    refine (key (trs d).length).congr fun j => ?_
    split
    · rfl
    · rw [vz_out (by rw [cnd_length]; omega)]
end RK
namespace RK
def Prim (l : List Int) : Prop := ∀ e : Int, (∀ j, e ∣ vz l j) → e.natAbs = 1
def IsTold (l : List Int) : Prop := Prim l ∧ ∃ p, leadZ l = some p ∧ 0 < vz l p
def signZ (l : List Int) : List Int := match leadZ l with
  | none => l
  | some p => if 0 < vz l p then l else l.map (0 - ·)
def toldL (l : List Int) : List Int := signZ (plainZ l)
theorem signZ_length (l) : (signZ l).length = l.length := by
  unfold signZ
  split
  · rfl
  · split <;> simp
theorem toldL_length (l) : (toldL l).length = l.length := by rw [toldL, signZ_length, plainZ_length]
def lp (p : Pt) : List Int := [p.1, p.2.1, p.2.2]
def pt (l : List Int) : Pt := (vz l 0, vz l 1, vz l 2)
theorem pt_lp (p : Pt) : pt (lp p) = p := rfl
theorem lp_pt {l : List Int} (h : l.length = 3) : lp (pt l) = l := by
  match l, h with
  | [a, b, c], _ => rfl
theorem lp_inj {p q : Pt} (h : lp p = lp q) : p = q := by rw [← pt_lp p, h, pt_lp]
def told (p : Pt) : Pt := pt (toldL (lp p))
theorem lp_told (p : Pt) : lp (told p) = toldL (lp p) := lp_pt (by rw [toldL_length]; rfl)
def isT (p : Pt) : Prop := IsTold (lp p)
def smul (c : Int) (p : Pt) : Pt := (c * p.1, c * p.2.1, c * p.2.2)
def row3 (r p : Pt) : Int := r.1 * p.1 + r.2.1 * p.2.1 + r.2.2 * p.2.2
abbrev Tb := Pt × Pt × Pt
def tap (t : Tb) (p : Pt) : Pt := (row3 t.1 p, row3 t.2.1 p, row3 t.2.2 p)
/-- a table that leads nothing to nought -/
def inj (t : Tb) : Prop := ∀ p, nz p → nz (tap t p)
end RK
namespace RK
end RK
namespace RK
def keepZ (found : List (Nat × List Int)) (r : List Int) : Bool := (leadZ (plainZ (clrZ found r))).isSome
def posZ (found : List (Nat × List Int)) (k : Nat) : List (List Int) → List Nat
  | [] => []
  | r :: rs => if keepZ found r then k :: posZ (stepZ found r) (k + 1) rs else posZ (stepZ found r) (k + 1) rs
end RK
namespace RK
theorem lc_smul (a : Int) (cs : List Int) (vs : List V) (j) : lc (cs.map (a * ·)) vs j = a * lc cs vs j := by
  induction vs generalizing cs with
  | nil => cases cs <;> simp [lc, zr]
  | cons v vs ih => cases cs with
    | nil => simp [lc, zr]
    | cons c cs => simp only [List.map_cons, lc, ih]; grind
theorem common_den {α : Type} {R : List V} {row : α → V} : ∀ {A : List α}, (∀ a ∈ A, Sp R (row a)) → ∃ (D : Int) (cf : α → List Int), D ≠ 0 ∧ ∀ a ∈ A, (cf a).length = R.length ∧ ∀ j, D * row a j = lc (cf a) R j
  | [], _ => ⟨1, fun _ => [], by decide, by simp⟩
  | a :: A, h => by
    classical
    obtain ⟨D, cf, hD, hc⟩ := common_den (A := A) fun x hx => h x (by simp [hx])
    obtain ⟨d, cs, hd, hl, he⟩ := (h a (by simp)).coef
    refine ⟨d * D, fun x => if x ∈ A then (cf x).map (d * ·) else cs.map (D * ·), Int.mul_ne_zero hd hD, fun x hx => ?_⟩
    by_cases hm : x ∈ A
    · simp only [if_pos hm]
      obtain ⟨h1, h2⟩ := hc x hm
      refine ⟨by simp [h1], fun j => ?_⟩
      rw [lc_smul, ← h2]; grind
    · have : x = a := by
        rcases List.mem_cons.mp hx with h | h
        · exact h
        · exact absurd h hm
      subst this
      simp only [if_neg hm]
      refine ⟨by simp [hl], fun j => ?_⟩
      rw [lc_smul, ← he]; grind
/-- a sum over two lists -/
def dot : List Int → List Int → Int
  | a :: as, b :: bs => a * b + dot as bs
  | _, _ => 0
theorem lc_dot {α : Type} (cs : List Int) (A : List α) (row : α → V) (j) : lc cs (A.map row) j = dot cs (A.map fun a => row a j) := by
  induction A generalizing cs with
  | nil => cases cs <;> simp [lc, dot, zr]
  | cons a A ih => cases cs with
    | nil => simp [lc, dot, zr]
    | cons c cs => simp [lc, dot, ih]
/-- columns are sums of as many as there are rows that span -/
theorem col_span {α β : Type} (A A' : List α) (B : List β) (f : α → β → Int) (h : ∀ a ∈ A, Sp (A'.map fun a => vz (B.map (f a))) (vz (B.map (f a)))) :
    rk (B.map fun b => vz (A.map fun a => f a b)) ≤ A'.length := by
  obtain ⟨D, cf, hD, hc⟩ := common_den (row := fun a => vz (B.map (f a))) h
  have W : List V := []
  refine Nat.le_trans (rk_le_of (W := (List.range A'.length).map fun i => vz (A.map fun a => (cf a).getD i 0)) ?_) (by simp)
  intro v hv
  obtain ⟨b, hb, rfl⟩ := List.mem_map.mp hv
  obtain ⟨j, hj, rfl⟩ := List.getElem_of_mem hb
  refine Sp.div D hD ?_
  have key : ∀ (n : Nat) (A'' : List α), A''.length = n → ∀ k, Sp ((List.range (k + n)).map fun i => vz (A.map fun a => (cf a).getD i 0)) (vz (A.map fun a => dot ((cf a).drop k) (A''.map fun a' => f a' B[j]))) := by
    intro n
    induction n with
    | zero =>
      intro A'' hA k
      have : A'' = [] := List.eq_nil_of_length_eq_zero hA
      subst this
      refine Sp.zero.congr fun i => ?_
      by_cases hi : i < A.length
      · simp [vz, List.getD, hi, zr]
        cases ((cf A[i]).drop k) <;> simp [dot]
      · rw [vz_out (by simp; omega)]; rfl
    | succ n ih =>
      intro A'' hA k
      cases A'' with
      | nil => simp at hA
      | cons a' A'' =>
        have h1 := ih A'' (by simpa using hA) (k + 1)
        have h2 : Sp ((List.range (k + (n + 1))).map fun i => vz (A.map fun a => (cf a).getD i 0)) (vz (A.map fun a => (cf a).getD k 0)) := Sp.mem (List.mem_map.mpr ⟨k, by simp, rfl⟩)
        rw [show k + (n + 1) = k + 1 + n by omega] at h2 ⊢
        refine Sp.lin h1 h2 1 (f a' B[j]) fun i => ?_
        by_cases hi : i < A.length
        · simp only [vz, List.getD, List.getElem?_map, List.getElem?_eq_getElem hi, Option.map_some, Option.getD_some, List.map_cons]
          by_cases hk : k < (cf A[i]).length
          · rw [List.drop_eq_getElem_cons hk]
            simp only [dot, List.getElem?_eq_getElem hk, Option.getD_some]
            grind
          · rw [List.drop_of_length_le (by omega), List.drop_of_length_le (by omega), List.getElem?_eq_none (by omega)]
            simp only [dot, Option.getD_none]
            cases (A''.map fun a' => f a' B[j]) <;> simp [dot]
        · rw [vz_out (by simp; omega), vz_out (by simp; omega), vz_out (by simp; omega)]; simp
  have h0 := key A'.length A' rfl 0
  rw [Nat.zero_add] at h0
  refine h0.congr fun i => ?_
  by_cases hi : i < A.length
  · have hm := hc A[i] (List.getElem_mem hi)
    have he := hm.2 j
    rw [lc_dot] at he
    simp only [vz, List.getD, List.getElem?_map, List.getElem?_eq_getElem hi, List.getElem?_eq_getElem hj, Option.map_some, Option.getD_some, sm, List.drop_zero] at he ⊢
    rw [he]
  · simp only [sm]; rw [vz_out (by simp; omega), vz_out (by simp; omega)]; simp
/-- as many independent rows as columns -/
theorem rank_T_le {α β : Type} (A : List α) (B : List β) (f : α → β → Int) : rk (B.map fun b => vz (A.map fun a => f a b)) ≤ rk (A.map fun a => vz (B.map (f a))) := by
  obtain ⟨C, c1, c2, c3, e⟩ := rk_spec (A.map fun a => vz (B.map (f a)))
  obtain ⟨A', rfl, hA⟩ := unmap c1
  rw [← e, List.length_map]
  exact col_span A A' B f fun a ha => c3 _ (List.mem_map.mpr ⟨a, ha, rfl⟩)
theorem rank_T {α β : Type} (A : List α) (B : List β) (f : α → β → Int) : rk (B.map fun b => vz (A.map fun a => f a b)) = rk (A.map fun a => vz (B.map (f a))) :=
  Nat.le_antisymm (rank_T_le A B f) (rank_T_le B A fun b a => f a b)
/-- conditions by columns -/
theorem hh_cols (d : Nat) (ps : List Pt) : hh d ps = rk ((trs d).map fun m => vz (ps.map (mono m))) := (rank_T ps (trs d) fun p m => mono m p).symm
def prodL : List Pt → Pt → Int
  | [], _ => 1
  | a :: as, p => lf a p * prodL as p
theorem prod_rel {ps : List Pt} : ∀ {d : Nat} {cs : List Int}, (∀ m, m ∈ trs d → sumc cs ps (mono m) = 0) → ∀ as : List Pt, as.length = d → sumc cs ps (prodL as) = 0 := by
  intro d
  induction d with
  | zero =>
    intro cs h as ha
    have : as = [] := List.eq_nil_of_length_eq_zero ha
    subst this
    rw [← h (0, 0, 0) (mem_trs.mpr rfl)]
    exact sumc_congr fun p _ => by simp [prodL, mono]
  | succ d ih =>
    intro cs h as ha
    cases as with
    | nil => simp at ha
    | cons a as =>
      have := ih (rel_line h a) as (by simpa using ha)
      rw [sumc_smul] at this
      exact this
theorem prod_rep (a : Pt) (n : Nat) (l : List Pt) (p : Pt) : prodL (List.replicate n a ++ l) p = lf a p ^ n * prodL l p := by
  induction n with
  | zero => simp
  | succ n ih => rw [List.replicate_succ, List.cons_append, prodL, ih, Int.pow_succ]; grind
theorem mono_tap (m : Tr) (t : Tb) (p : Pt) : mono m (tap t p) = prodL (List.replicate m.1 t.1 ++ (List.replicate m.2.1 t.2.1 ++ (List.replicate m.2.2 t.2.2 ++ []))) p := by
  rw [prod_rep, prod_rep, prod_rep]
  simp only [mono, tap, prodL]
  have : ∀ r : Pt, row3 r p = lf r p := fun r => rfl
  rw [this, this, this]; grind
theorem sumc_map (cs : List Int) (ps : List Pt) (g : Pt → Pt) (f : Pt → Int) : sumc cs (ps.map g) f = sumc cs ps fun p => f (g p) := by
  induction ps generalizing cs with
  | nil => cases cs <;> rfl
  | cons p ps ih => cases cs with
    | nil => rfl
    | cons c cs => simp [sumc, ih]
theorem rel_tap {cs : List Int} {ps : List Pt} {d : Nat} (t : Tb) (h : ∀ m, m ∈ trs d → sumc cs ps (mono m) = 0) : ∀ m, m ∈ trs d → sumc cs (ps.map (tap t)) (mono m) = 0 := by
  intro m hm
  rw [sumc_map, sumc_congr fun p _ => mono_tap m t p]
  exact prod_rel h _ (by rw [mem_trs] at hm; simp; omega)
theorem ind_iff {ps : List Pt} {d : Nat} : Ind (ps.map fun p => vz (cnd d p)) ↔ ∀ cs : List Int, cs.length = ps.length → (∀ m, m ∈ trs d → sumc cs ps (mono m) = 0) → ∀ c ∈ cs, c = 0 :=
  ⟨fun h cs hl hz => lc_ind h cs (by simpa using hl) (cnd_zero.mpr hz), fun h => ind_of_lc fun cs hl hz => h cs (by simpa using hl) (cnd_zero.mp hz)⟩
theorem hh_tap_le (t : Tb) (d : Nat) (ps : List Pt) : hh d (ps.map (tap t)) ≤ hh d ps := by
  obtain ⟨qs', h1, h2, h3, _⟩ := hh_basis d (ps.map (tap t))
  obtain ⟨qs, rfl, hq⟩ := unmap h1
  have hi : Ind (qs.map fun p => vz (cnd d p)) := ind_iff.mpr fun cs hl hz => ind_iff.mp h2 cs (by simpa using hl) (rel_tap t hz)
  rw [← h3, List.length_map]
  have := ind_le_rk (L := ps.map fun p => vz (cnd d p)) hi fun b hb => by
    obtain ⟨q, hq', rfl⟩ := List.mem_map.mp hb
    exact Sp.mem (List.mem_map.mpr ⟨q, hq q hq', rfl⟩)
  simpa [hh] using this
theorem mono_smul {d : Nat} {m : Tr} (hm : m ∈ trs d) (c : Int) (p : Pt) : mono m (smul c p) = c ^ d * mono m p := by
  rw [mem_trs] at hm
  subst hm
  simp only [mono, smul, Int.mul_pow, Int.pow_add]; grind
theorem cnd_smul (d : Nat) (c : Int) (p : Pt) (j) : vz (cnd d (smul c p)) j = c ^ d * vz (cnd d p) j := by
  by_cases hj : j < (trs d).length
  · simp only [vz, cnd, List.getD, List.getElem?_map, List.getElem?_eq_getElem hj, Option.map_some, Option.getD_some]
    exact mono_smul (List.getElem_mem hj) c p
  · rw [vz_out (by simp [cnd]; omega), vz_out (by simp [cnd]; omega)]; simp
def det (t : Tb) : Int := lf t.1 (crs t.2.1 t.2.2)
/-- back again, up to the determinant -/
def adj (t : Tb) : Tb :=
  let a := crs t.2.1 t.2.2
  let b := crs t.2.2 t.1
  let c := crs t.1 t.2.1
  ((a.1, b.1, c.1), (a.2.1, b.2.1, c.2.1), (a.2.2, b.2.2, c.2.2))
theorem adj_tap (t : Tb) (p : Pt) : tap (adj t) (tap t p) = smul (det t) p := by
  obtain ⟨⟨a, b, c⟩, ⟨d, e, f⟩, ⟨g, h, i⟩⟩ := t
  obtain ⟨x, y, z⟩ := p
  simp only [tap, adj, det, lf, crs, row3, smul]
  refine Prod.ext ?_ (Prod.ext ?_ ?_) <;> dsimp only <;> grind
theorem hh_tap {t : Tb} (h : det t ≠ 0) (d : Nat) (ps : List Pt) : hh d (ps.map (tap t)) = hh d ps := by
  apply Nat.le_antisymm (hh_tap_le t d ps)
  have h1 : hh d (ps.map fun p => smul (det t) p) = hh d ps := by
    have : hh d ps = hh d (ps.map fun p => smul (det t) p) := by
      unfold hh
      rw [List.map_map]
      refine rk_scale (fun v hv => ?_) fun v hv => ?_
      · obtain ⟨p, hp, rfl⟩ := List.mem_map.mp hv
        exact ⟨_, List.mem_map.mpr ⟨p, hp, rfl⟩, det t ^ d, 1, pow_nz h d, fun j => by simp only [Function.comp]; rw [cnd_smul]; simp⟩
      · obtain ⟨p, hp, rfl⟩ := List.mem_map.mp hv
        exact ⟨_, List.mem_map.mpr ⟨p, hp, rfl⟩, 1, det t ^ d, by decide, fun j => by simp only [Function.comp]; rw [cnd_smul]; simp⟩
    exact this.symm
  have h2 : (ps.map (tap t)).map (tap (adj t)) = ps.map fun p => smul (det t) p := by
    rw [List.map_map]; exact List.map_congr_left fun p _ => adj_tap t p
  rw [← h1, ← h2]
  exact hh_tap_le _ d _
end RK
namespace RK
/-- the points of a stair -/
def stP (ns : List Nat) : List Pt := (List.range ns.length).flatMap fun e => (List.range (ns.getD e 0)).map fun (b : Nat) => ((e : Int) - (b : Int), (b : Int), 1)
/-- lengths that go on, at most k more, the sum so far s, at most 12 -/
def goR : Nat → List Nat → Nat → List (List Nat)
  | 0, ns, _ => [ns]
  | k + 1, ns, s =>
    let room := min (ns.getLastD 0) (12 - s)
    if room < 1 ∨ ns.length = 9 then [ns] else ns :: (List.range room).flatMap fun r => goR k (ns ++ [r + 1]) (s + r + 1)
def rowsR : List (List Nat) := [[1], [1,2], [1,2,3], [1,2,3,4]].flatMap fun ns => goR 7 ns ns.sum
def rowChk (ns : List Nat) : Bool := (List.range ns.length).all fun d => (echZ ((stP ns).map (cnd d))).length == (ns.take (d + 1)).sum
theorem hh_ech (d : Nat) (ps : List Pt) : hh d ps = (echZ (ps.map (cnd d))).length := by
  rw [echZ_rank (w := (trs d).length) _ (fun r h => by obtain ⟨p, _, rfl⟩ := List.mem_map.mp h; exact cnd_length d p)]
  unfold hh; rw [List.map_map]; rfl
theorem rowChk_hh {ns : List Nat} (h : rowChk ns = true) {d : Nat} (hd : d < ns.length) : hh d (stP ns) = (ns.take (d + 1)).sum := by
  rw [hh_ech]
  simp only [rowChk, List.all_eq_true, List.mem_range, beq_iff_eq] at h
  exact h d hd
theorem rows_chk : rowsR.all rowChk = true := by decide +kernel
theorem hh_stair {ns : List Nat} (h : ns ∈ rowsR) {d : Nat} (hd : d < ns.length) : hh d (stP ns) = (ns.take (d + 1)).sum :=
  rowChk_hh (List.all_eq_true.mp rows_chk ns h) hd
end RK
namespace RK
def l9 (t : Tb) : List Int := lp t.1 ++ (lp t.2.1 ++ lp t.2.2)
end RK
namespace RK
theorem rk_add_in {L : List V} {v : V} (h : Sp L v) : rk (v :: L) = rk L :=
  rk_congr (fun u hu => by
    rcases List.mem_cons.mp hu with rfl | hu
    · exact h
    · exact Sp.mem hu) fun u hu => Sp.mem (List.mem_cons_of_mem _ hu)
theorem rk_add_out {L : List V} {v : V} (h : ¬ Sp L v) : rk (v :: L) = rk L + 1 := by
  obtain ⟨B, h1, h2, h3, h4⟩ := rk_spec L
  have hv : ¬ Sp B v := fun k => h (k.mono h1)
  have := rk_of_basis (L := v :: L) (B := v :: B) ⟨hv, h2⟩ (fun b hb => by
    rcases List.mem_cons.mp hb with rfl | hb
    · exact Sp.mem (List.mem_cons_self ..)
    · exact Sp.mem (List.mem_cons_of_mem _ (h1 b hb))) fun u hu => by
    rcases List.mem_cons.mp hu with rfl | hu
    · exact Sp.mem (List.mem_cons_self ..)
    · exact (h3 u hu).mono fun w hw => List.mem_cons_of_mem _ hw
  rw [this, List.length_cons, h4]
/-- terms a i j, taken by degree, then by the first exponent; what stands ahead of the term (i, d - i) -/
def lowT (a : Nat → Nat → V) : Nat → List V
  | 0 => []
  | d + 1 => (List.range (d + 1)).map (fun i => a i (d - i)) ++ lowT a d
def aheadT (a : Nat → Nat → V) (d i : Nat) : List V := (List.range i).map (fun k => a k (d - k)) ++ lowT a d
theorem mem_lowT {a : Nat → Nat → V} {v : V} : ∀ {d : Nat}, v ∈ lowT a d ↔ ∃ i j, i + j < d ∧ v = a i j
  | 0 => by simp [lowT]
  | d + 1 => by
    rw [lowT, List.mem_append, mem_lowT (d := d)]
    constructor
    · rintro (h | ⟨i, j, h, e⟩)
      · obtain ⟨i, hi, rfl⟩ := List.mem_map.mp h
        rw [List.mem_range] at hi
        exact ⟨i, d - i, by omega, rfl⟩
      · exact ⟨i, j, by omega, e⟩
    · rintro ⟨i, j, h, rfl⟩
      by_cases hd : i + j < d
      · exact .inr ⟨i, j, hd, rfl⟩
      · refine .inl (List.mem_map.mpr ⟨i, List.mem_range.mpr (by omega), ?_⟩)
        have : d - i = j := by omega
        rw [this]
theorem mem_aheadT {a : Nat → Nat → V} {v : V} {d i : Nat} (hi : i ≤ d + 1) : v ∈ aheadT a d i ↔ ∃ k j, v = a k j ∧ (k + j < d ∨ (k + j = d ∧ k < i)) := by
  rw [aheadT, List.mem_append, mem_lowT]
  constructor
  · rintro (h | ⟨k, j, h, e⟩)
    · obtain ⟨k, hk, rfl⟩ := List.mem_map.mp h
      rw [List.mem_range] at hk
      exact ⟨k, d - k, rfl, .inr ⟨by omega, hk⟩⟩
    · exact ⟨k, j, e, .inl h⟩
  · rintro ⟨k, j, rfl, h | ⟨h, hk⟩⟩
    · exact .inr ⟨k, j, h, rfl⟩
    · refine .inl (List.mem_map.mpr ⟨k, List.mem_range.mpr hk, ?_⟩)
      have : d - k = j := by omega
      rw [this]
/-- the term (i, d - i) hangs on those ahead of it -/
def hang (a : Nat → Nat → V) (d i : Nat) : Prop := Sp (aheadT a d i) (a i (d - i))
open Classical in
noncomputable def free (a : Nat → Nat → V) (d : Nat) : Nat → Nat
  | 0 => 0
  | i + 1 => free a d i + if hang a d i then 0 else 1
theorem rk_ahead (a : Nat → Nat → V) (d : Nat) : ∀ i, rk (aheadT a d i) = rk (lowT a d) + free a d i
  | 0 => by simp [aheadT, free]
  | i + 1 => by
    have h : rk (aheadT a d (i + 1)) = rk (a i (d - i) :: aheadT a d i) := rk_perm fun v => by
      simp [aheadT, List.range_succ]
      grind
    rw [h, free]
    by_cases k : hang a d i
    · rw [rk_add_in k, rk_ahead a d i, if_pos k]; rfl
    · rw [rk_add_out k, rk_ahead a d i, if_neg k]; omega
theorem rk_low (a : Nat → Nat → V) (d : Nat) : rk (lowT a (d + 1)) = rk (lowT a d) + free a d (d + 1) := rk_ahead a d (d + 1)
structure Mul (a : Nat → Nat → V) : Prop where
  x : ∃ T, Lin T ∧ ∀ i j, T (a i j) = a (i + 1) j
  y : ∃ T, Lin T ∧ ∀ i j, T (a i j) = a i (j + 1)
theorem hang_x {a : Nat → Nat → V} (M : Mul a) {d i : Nat} (hi : i ≤ d) (h : hang a d i) : hang a (d + 1) (i + 1) := by
  obtain ⟨T, hT, e⟩ := M.x
  have := Sp.map hT h
  rw [e] at this
  unfold hang
  rw [show d + 1 - (i + 1) = d - i by omega]
  refine this.mono fun w hw => ?_
  obtain ⟨u, hu, rfl⟩ := List.mem_map.mp hw
  obtain ⟨k, j, rfl, hk⟩ := (mem_aheadT (by omega)).mp hu
  rw [e]
  exact (mem_aheadT (by omega)).mpr ⟨k + 1, j, rfl, by omega⟩
theorem hang_y {a : Nat → Nat → V} (M : Mul a) {d i : Nat} (hi : i ≤ d) (h : hang a d i) : hang a (d + 1) i := by
  obtain ⟨T, hT, e⟩ := M.y
  have := Sp.map hT h
  rw [e] at this
  unfold hang
  rw [show d + 1 - i = d - i + 1 by omega]
  refine this.mono fun w hw => ?_
  obtain ⟨u, hu, rfl⟩ := List.mem_map.mp hw
  obtain ⟨k, j, rfl, hk⟩ := (mem_aheadT (by omega)).mp hu
  rw [e]
  exact (mem_aheadT (by omega)).mpr ⟨k, j + 1, rfl, by omega⟩
theorem free_succ (a : Nat → Nat → V) (d i : Nat) : (hang a d i ∧ free a d (i + 1) = free a d i) ∨ (¬ hang a d i ∧ free a d (i + 1) = free a d i + 1) := by
  by_cases h : hang a d i
  · exact .inl ⟨h, by rw [free]; simp [h]⟩
  · exact .inr ⟨h, by rw [free]; simp [h]⟩
theorem free_y {a : Nat → Nat → V} (M : Mul a) (d : Nat) : ∀ i, i ≤ d + 1 → free a (d + 1) i ≤ free a d i
  | 0, _ => by simp [free]
  | i + 1, hi => by
    have ih := free_y M d i (by omega)
    rcases free_succ a d i with ⟨h, e⟩ | ⟨h, e⟩
    · rcases free_succ a (d + 1) i with ⟨h', e'⟩ | ⟨h', e'⟩
      · omega
      · exact absurd (hang_y M (by omega) h) h'
    · rcases free_succ a (d + 1) i with ⟨h', e'⟩ | ⟨h', e'⟩ <;> omega
theorem free_x {a : Nat → Nat → V} (M : Mul a) (d k : Nat) (hkd : k ≤ d) (hk : hang a d k) : ∀ i, k ≤ i → i ≤ d + 1 → free a (d + 1) (i + 1) ≤ free a d i
  | 0, h, _ => by
    have : k = 0 := by omega
    subst this
    have hy := hang_y M (by omega) hk
    rcases free_succ a (d + 1) 0 with ⟨h', e'⟩ | ⟨h', e'⟩
    · rw [e']; simp [free]
    · exact absurd hy h'
  | i + 1, h, hi => by
    by_cases he : k = i + 1
    · subst he
      have hy := hang_y M hkd hk
      have := free_y M d (i + 1) (by omega)
      rcases free_succ a (d + 1) (i + 1) with ⟨h', e'⟩ | ⟨h', e'⟩
      · omega
      · exact absurd hy h'
    · have ih := free_x M d k hkd hk i (by omega) (by omega)
      rcases free_succ a d i with ⟨h1, e⟩ | ⟨h1, e⟩
      · rcases free_succ a (d + 1) (i + 1) with ⟨h', e'⟩ | ⟨h', e'⟩
        · omega
        · exact absurd (hang_x M (by omega) h1) h'
      · rcases free_succ a (d + 1) (i + 1) with ⟨h', e'⟩ | ⟨h', e'⟩ <;> omega
theorem free_all {a : Nat → Nat → V} {d : Nat} : ∀ {i}, (∀ k, k < i → ¬ hang a d k) → free a d i = i
  | 0, _ => rfl
  | i + 1, h => by
    have := free_all (i := i) fun k hk => h k (by omega)
    rcases free_succ a d i with ⟨h1, _⟩ | ⟨_, e⟩
    · exact absurd h1 (h i (by omega))
    · omega
/-- who falls never rises -/
theorem never_rises {a : Nat → Nat → V} (M : Mul a) {d : Nat} (h : free a d (d + 1) ≤ d) : free a (d + 1) (d + 2) ≤ free a d (d + 1) := by
  have : ∃ k, k < d + 1 ∧ hang a d k := Classical.byContradiction fun hn => by
    have := free_all (a := a) (d := d) (i := d + 1) fun k hk hh => hn ⟨k, hk, hh⟩
    omega
  obtain ⟨k, hk, hh⟩ := this
  exact free_x M d k (by omega) hh (d + 1) (by omega) (by omega)
end RK
namespace RK
/-- the values of x^i y^j at points -/
def evT (ps : List Pt) (i j : Nat) : V := vz (ps.map fun p => p.1 ^ i * p.2.1 ^ j)
def mulV (w v : V) : V := fun k => w k * v k
theorem lin_mul (w : V) : Lin (mulV w) := by
  constructor
  · intro k; simp [mulV, zr]
  · intro u v k; simp only [mulV, ad]; grind
  · intro a u k; simp only [mulV, sm]; grind
theorem vz_nth {α : Type} (f : α → Int) (ps : List α) (k : Nat) : vz (ps.map f) k = match ps[k]? with | some p => f p | none => 0 := by
  cases h : ps[k]? with
  | none =>
    rw [vz_out]
    rw [List.length_map]; exact List.getElem?_eq_none_iff.mp h
  | some p =>
    obtain ⟨hk, e⟩ := List.getElem?_eq_some_iff.mp h
    rw [← vz_get (by simpa using hk)]
    simp [e]
theorem ev_mul (ps : List Pt) : Mul (evT ps) := by
  constructor
  · refine ⟨mulV (vz (ps.map fun p => p.1)), lin_mul _, fun i j => ?_⟩
    funext k
    simp only [mulV, evT, vz_nth]
    cases ps[k]? with
    | none => simp
    | some p => simp only [Int.pow_succ]; grind
  · refine ⟨mulV (vz (ps.map fun p => p.2.1)), lin_mul _, fun i j => ?_⟩
    funext k
    simp only [mulV, evT, vz_nth]
    cases ps[k]? with
    | none => simp
    | some p => simp only [Int.pow_succ]; grind
theorem hh_low {ps : List Pt} {W : Int} (hW : W ≠ 0) (hz : ∀ p ∈ ps, p.2.2 = W) (d : Nat) : hh d ps = rk (lowT (evT ps) (d + 1)) := by
  rw [hh_cols]
  have key : ∀ m : Tr, ∀ k, vz (ps.map (mono m)) k = W ^ m.2.2 * evT ps m.1 m.2.1 k := fun m k => by
    simp only [evT, vz_nth]
    cases h : ps[k]? with
    | none => simp
    | some p =>
      have := hz p (List.mem_of_getElem? h)
      simp only [mono, this]; grind
  refine rk_congr (fun v hv => ?_) fun v hv => ?_
  · obtain ⟨m, hm, rfl⟩ := List.mem_map.mp hv
    rw [mem_trs] at hm
    have h1 : Sp (lowT (evT ps) (d + 1)) (evT ps m.1 m.2.1) := Sp.mem (mem_lowT.mpr ⟨_, _, by omega, rfl⟩)
    exact (h1.smul (W ^ m.2.2)).congr fun k => (key m k).symm
  · obtain ⟨i, j, hij, rfl⟩ := mem_lowT.mp hv
    have hm : (i, j, d - i - j) ∈ trs d := by rw [mem_trs]; dsimp only; omega
    have h1 : Sp ((trs d).map fun m => vz (ps.map (mono m))) (vz (ps.map (mono (i, j, d - i - j)))) := Sp.mem (List.mem_map.mpr ⟨_, hm, rfl⟩)
    exact Sp.div (W ^ (d - i - j)) (pow_nz hW _) (h1.congr fun k => key _ k)
theorem mac_level {ps : List Pt} {W : Int} (hW : W ≠ 0) (hz : ∀ p ∈ ps, p.2.2 = W) {d : Nat} (h : hh (d + 1) ps ≤ hh d ps + (d + 1)) : hh (d + 2) ps + hh d ps ≤ 2 * hh (d + 1) ps := by
  have e0 := hh_low hW hz d
  have e1 := hh_low hW hz (d + 1)
  have e2 := hh_low hW hz (d + 2)
  have r1 := rk_low (evT ps) (d + 1)
  have r2 := rk_low (evT ps) (d + 2)
  have := never_rises (ev_mul ps) (d := d + 1) (by omega)
  simp only [Nat.add_assoc, Nat.reduceAdd] at *
  omega
theorem hh_smul (d : Nat) {ps : List Pt} {c : Pt → Int} (h : ∀ p ∈ ps, c p ≠ 0) : hh d (ps.map fun p => smul (c p) p) = hh d ps := by
  unfold hh
  rw [List.map_map]
  refine rk_congr (fun v hv => ?_) fun v hv => ?_
  · obtain ⟨p, hp, rfl⟩ := List.mem_map.mp hv
    have h1 : Sp (ps.map fun p => vz (cnd d p)) (vz (cnd d p)) := Sp.mem (List.mem_map.mpr ⟨p, hp, rfl⟩)
    exact (h1.smul (c p ^ d)).congr fun k => (cnd_smul d (c p) p k).symm
  · obtain ⟨p, hp, rfl⟩ := List.mem_map.mp hv
    have h1 := Sp.mem (List.mem_map.mpr ⟨p, hp, rfl⟩ : vz (cnd d (smul (c p) p)) ∈ ps.map ((fun q => vz (cnd d q)) ∘ fun p => smul (c p) p))
    exact Sp.div (c p ^ d) (pow_nz (h p hp) _) (h1.congr fun k => cnd_smul d (c p) p k)
/-- a number above all that the points have -/
def big : List Pt → Int
  | [] => 1
  | p :: ps => p.1.natAbs + p.2.1.natAbs + p.2.2.natAbs + big ps
theorem big_pos : ∀ ps, 1 ≤ big ps
  | [] => by decide
  | p :: ps => by have := big_pos ps; unfold big; omega
theorem big_le : ∀ {ps : List Pt} {p : Pt}, p ∈ ps → (p.1.natAbs : Int) + p.2.1.natAbs + p.2.2.natAbs + 1 ≤ big ps
  | q :: ps, p, h => by
    unfold big
    rcases List.mem_cons.mp h with rfl | h
    · have := big_pos ps; omega
    · have := big_le h; omega
theorem off_line {a b c N : Int} (hN : (a.natAbs : Int) + b.natAbs + c.natAbs + 1 ≤ N) (h : a ≠ 0 ∨ b ≠ 0 ∨ c ≠ 0) : a + N * b + N * N * c ≠ 0 := by
  intro h0
  by_cases hc : c = 0
  · subst hc
    by_cases hb : b = 0
    · subst hb; simp at h0 h; exact h h0
    · have e : a = N * (-b) := by grind
      have h1 : a.natAbs = N.natAbs * (-b).natAbs := by rw [e, Int.natAbs_mul]
      have h2 : 1 ≤ (-b).natAbs := by omega
      have h3 : N.natAbs * 1 ≤ N.natAbs * (-b).natAbs := Nat.mul_le_mul_left _ h2
      omega
  · have e : a = N * (-(b + N * c)) := by grind
    have h1 : a.natAbs = N.natAbs * (-(b + N * c)).natAbs := by rw [e, Int.natAbs_mul]
    by_cases hz : b + N * c = 0
    · have e2 : b = N * (-c) := by grind
      have h4 : b.natAbs = N.natAbs * (-c).natAbs := by rw [e2, Int.natAbs_mul]
      have h2 : 1 ≤ (-c).natAbs := by omega
      have h3 : N.natAbs * 1 ≤ N.natAbs * (-c).natAbs := Nat.mul_le_mul_left _ h2
      omega
    · have h2 : 1 ≤ (-(b + N * c)).natAbs := by omega
      have h3 : N.natAbs * 1 ≤ N.natAbs * (-(b + N * c)).natAbs := Nat.mul_le_mul_left _ h2
      omega
def offT (ps : List Pt) : Tb := ((1, 0, 0), (0, 1, 0), (1, big ps, big ps * big ps))
theorem offT_det (ps : List Pt) : det (offT ps) ≠ 0 := by
  have h : det (offT ps) = big ps * big ps := by simp [det, lf, crs, offT]
  rw [h]
  have := big_pos ps
  exact Int.mul_ne_zero (by omega) (by omega)
def prodZ : List Pt → Int
  | [] => 1
  | p :: ps => p.2.2 * prodZ ps
theorem prodZ_nz : ∀ {ps : List Pt}, (∀ p ∈ ps, p.2.2 ≠ 0) → prodZ ps ≠ 0
  | [], _ => by decide
  | p :: ps, h => Int.mul_ne_zero (h p (by simp)) (prodZ_nz fun q hq => h q (by simp [hq]))
theorem prodZ_dvd : ∀ {ps : List Pt} {p : Pt}, p ∈ ps → p.2.2 ∣ prodZ ps
  | q :: ps, p, h => by
    rcases List.mem_cons.mp h with rfl | h
    · exact Int.dvd_mul_right ..
    · exact Int.dvd_trans (prodZ_dvd h) (Int.dvd_mul_left ..)
/-- conditions that fall behind never get ahead: what a degree adds is no more than what the one below adds, as soon as that is less than it could be -/
theorem mac {ps : List Pt} (hp : ∀ p ∈ ps, nz p) {d : Nat} (h : hh (d + 1) ps ≤ hh d ps + (d + 1)) : hh (d + 2) ps + hh d ps ≤ 2 * hh (d + 1) ps := by
  have hz : ∀ q ∈ ps.map (tap (offT ps)), q.2.2 ≠ 0 := fun q hq => by
    obtain ⟨p, hp', rfl⟩ := List.mem_map.mp hq
    have := off_line (big_le hp') (hp p hp')
    simp only [tap, row3, offT]
    intro h0; apply this; grind
  obtain ⟨qs, hqs⟩ : ∃ qs, qs = ps.map (tap (offT ps)) := ⟨_, rfl⟩
  rw [← hqs] at hz
  have hW := prodZ_nz hz
  have hc : ∀ q ∈ qs, prodZ qs / q.2.2 ≠ 0 := fun q hq h0 => by
    have := Int.ediv_mul_cancel (prodZ_dvd hq)
    rw [h0] at this; simp at this; exact hW this.symm
  have hl : ∀ q ∈ qs.map (fun q => smul (prodZ qs / q.2.2) q), q.2.2 = prodZ qs := fun q hq => by
    obtain ⟨p, hp', rfl⟩ := List.mem_map.mp hq
    exact Int.ediv_mul_cancel (prodZ_dvd hp')
  have e : ∀ d, hh d (qs.map fun q => smul (prodZ qs / q.2.2) q) = hh d ps := fun d => by
    rw [hh_smul d (c := fun q => prodZ qs / q.2.2) hc, hqs, hh_tap (offT_det ps)]
  have := mac_level hW hl (d := d) (by rw [e, e]; exact h)
  rwa [e, e, e] at this
end RK
namespace RK
/-- what a degree adds -/
noncomputable def due (ps : List Pt) (d : Nat) : Nat := hh d ps - (match d with | 0 => 0 | d + 1 => hh d ps)
theorem hh_due {ps : List Pt} (hp : ∀ p ∈ ps, nz p) : ∀ d, hh d ps = ((List.range (d + 1)).map (due ps)).sum
  | 0 => by simp [due]
  | d + 1 => by
    rw [List.range_succ, List.map_append, List.sum_append, ← hh_due hp d]
    have := hh_up hp d
    simp [due]; omega
theorem due_le {ps : List Pt} (hp : ∀ p ∈ ps, nz p) {d : Nat} (h : due ps (d + 1) ≤ d + 1) : due ps (d + 2) ≤ due ps (d + 1) := by
  have h1 := hh_up hp d
  have h2 := hh_up hp (d + 1)
  have := mac hp (d := d) (by simp [due] at h; omega)
  simp only [due]
  omega
theorem due_zero {ps : List Pt} (h : ps ≠ []) : due ps 0 = 1 := by simp [due, hh_zero h]
/-- who has fallen stays below -/
theorem due_stays {ps : List Pt} (hp : ∀ p ∈ ps, nz p) {t : Nat} (ht : 1 ≤ t) (h : due ps t ≤ t) : ∀ k, due ps (t + k + 1) ≤ due ps (t + k) ∧ due ps (t + k) ≤ t
  | 0 => by
    obtain ⟨s, rfl⟩ : ∃ s, t = s + 1 := ⟨t - 1, by omega⟩
    exact ⟨due_le hp h, h⟩
  | k + 1 => by
    obtain ⟨h1, h2⟩ := due_stays hp ht h k
    have h3 : due ps (t + (k + 1)) ≤ t := by rw [show t + (k + 1) = t + k + 1 by omega]; omega
    obtain ⟨s, hs⟩ : ∃ s, t + (k + 1) = s + 1 := ⟨t + k, by omega⟩
    rw [hs] at h3 ⊢
    exact ⟨due_le hp (by omega), h3⟩
theorem trs_len : ∀ d, (trs d).length = ((List.range (d + 1)).map (· + 1)).sum := fun d => by
  unfold trs
  rw [List.length_flatMap]
  congr 1
  apply List.map_congr_left
  intro a _
  simp
theorem trs_succ (d : Nat) : (trs (d + 1)).length = (trs d).length + (d + 2) := by
  rw [trs_len, trs_len, List.range_succ, List.map_append, List.sum_append]
  simp
theorem due_full {ps : List Pt} (hp : ∀ p ∈ ps, nz p) (hne : ps ≠ []) : ∀ d, (∀ k, k ≤ d → ¬ (1 ≤ k ∧ due ps k ≤ k)) → due ps d = d + 1 ∧ hh d ps = (trs d).length
  | 0, _ => ⟨due_zero hne, by rw [hh_zero hne]; rfl⟩
  | d + 1, h => by
    obtain ⟨-, h2⟩ := due_full hp hne d fun k hk => h k (by omega)
    have h3 := h (d + 1) (Nat.le_refl _)
    have h4 := hh_le_trs ps (d + 1)
    have h5 := hh_up hp d
    have h6 := trs_succ d
    have h7 : due ps (d + 1) = hh (d + 1) ps - hh d ps := rfl
    constructor <;> omega
/-- the top of points: below it all is there, from it on never again -/
theorem top_ex {ps : List Pt} (hp : ∀ p ∈ ps, nz p) (hne : ps ≠ []) : ∃ t, 1 ≤ t ∧ (∀ d, d < t → due ps d = d + 1 ∧ hh d ps = (trs d).length) ∧ hh t ps < (trs t).length ∧ ∀ k, due ps (t + k + 1) ≤ due ps (t + k) ∧ due ps (t + k) ≤ t := by
  have ex : ∃ t, 1 ≤ t ∧ due ps t ≤ t := Classical.byContradiction fun hn => by
    have h := (due_full hp hne ps.length fun k _ hk => hn ⟨k, hk⟩).2
    have h1 := hh_le_length ps ps.length
    have h2 : ∀ d, d < (trs d).length := fun d => by
      induction d with
      | zero => decide
      | succ d ih => rw [trs_succ]; omega
    have := h2 ps.length
    omega
  have least : ∃ t, (1 ≤ t ∧ due ps t ≤ t) ∧ ∀ k, k < t → ¬ (1 ≤ k ∧ due ps k ≤ k) := by
    obtain ⟨t, ht⟩ := ex
    clear hp hne
    induction t using Nat.strongRecOn with
    | ind t ih =>
      by_cases h : ∃ k, k < t ∧ 1 ≤ k ∧ due ps k ≤ k
      · obtain ⟨k, hk, h1⟩ := h
        exact ih k hk h1
      · exact ⟨t, ht, fun k hk h1 => h ⟨k, hk, h1⟩⟩
  obtain ⟨t, ⟨h1, h2⟩, h3⟩ := least
  refine ⟨t, h1, fun d hd => due_full hp hne d fun k hk => h3 k (by omega), ?_, due_stays hp h1 h2⟩
  obtain ⟨s, rfl⟩ : ∃ s, t = s + 1 := ⟨t - 1, by omega⟩
  have h4 := (due_full hp hne s fun k hk => h3 k (by omega)).2
  have h5 := hh_up hp s
  have h6 := trs_succ s
  have h7 : due ps (s + 1) = hh (s + 1) ps - hh s ps := rfl
  omega
theorem least_of {P : Nat → Prop} {n : Nat} (h : P n) : ∃ k, k ≤ n ∧ P k ∧ ∀ d, d < k → ¬ P d := by
  induction n using Nat.strongRecOn with
  | ind n ih =>
    by_cases q : ∃ k, k < n ∧ P k
    · obtain ⟨k, hk, hP⟩ := q
      obtain ⟨m, h1, h2, h3⟩ := ih k hk hP
      exact ⟨m, by omega, h2, h3⟩
    · exact ⟨n, Nat.le_refl _, h, fun d hd hP => q ⟨d, hd, hP⟩⟩
theorem hh_stay {ps : List Pt} (hp : ∀ p ∈ ps, nz p) {e : Nat} (h : hh e ps = ps.length) : ∀ k, hh (e + k) ps = ps.length
  | 0 => h
  | k + 1 => by
    have := hh_up hp (e + k)
    have := hh_stay hp h k
    have := hh_le_length ps (e + k + 1)
    rw [show e + (k + 1) = e + k + 1 by omega]
    omega
/-- the row: what each degree adds, up to the end -/
noncomputable def rowL (ps : List Pt) (e : Nat) : List Nat := (List.range (e + 1)).map (due ps)
theorem rowL_take {ps : List Pt} (hp : ∀ p ∈ ps, nz p) {e d : Nat} (h : d ≤ e) : ((rowL ps e).take (d + 1)).sum = hh d ps := by
  rw [hh_due hp, rowL, ← List.map_take, List.take_range]
  rw [show min (d + 1) (e + 1) = d + 1 by omega]
end RK
namespace RK
theorem take_snoc {ns : List Nat} {d : Nat} (hd : d < ns.length) : (ns.take (d + 1)).sum = (ns.take d).sum + ns.getD d 0 := by
  have : ns.getD d 0 = ns[d] := by simp [List.getD, hd]
  rw [List.take_succ_eq_append_getElem hd, List.sum_append, List.sum_singleton, this]
theorem row_due {ps : List Pt} {ns : List Nat} (h : ∀ d, d < ns.length → hh d ps = (ns.take (d + 1)).sum) : ∀ d, d < ns.length → ns.getD d 0 = due ps d
  | 0, hd => by
    have h1 := h 0 hd
    have h2 := take_snoc hd
    simp only [List.take_zero, List.sum_nil] at h2
    simp only [due]; omega
  | d + 1, hd => by
    have h1 := h (d + 1) hd
    have h2 := take_snoc hd
    have h3 := h d (by omega)
    simp only [due]; omega
theorem top_facts {ps : List Pt} (hp : ∀ p ∈ ps, nz p) (hne : ps ≠ []) {ns : List Nat} (n0 : ns ≠ []) (h : ∀ d, d < ns.length → hh d ps = (ns.take (d + 1)).sum) (ha : ns.sum = ps.length) :
    ∃ t, 1 ≤ t ∧ t ≤ ns.length ∧ (∀ d, d < t → hh d ps = (trs d).length) ∧ hh t ps < (trs t).length ∧ (∀ d, d < ns.length → (ns.getD d 0 = d + 1 ↔ d < t)) ∧ ∀ d, t ≤ d → d < ns.length → ns.getD d 0 ≤ ns.getD (d - 1) 0 := by
  obtain ⟨t, h1, h2, h3, h4⟩ := top_ex hp hne
  have hl : 0 < ns.length := List.length_pos_iff.mpr n0
  have hr := row_due h
  have he : hh (ns.length - 1) ps = ps.length := by
    rw [h _ (by omega), ← ha, show ns.length - 1 + 1 = ns.length by omega, List.take_length]
  have hz : ∀ k, due ps (ns.length + k) = 0 := fun k => by
    have e1 := hh_stay hp he k
    have e2 := hh_stay hp he (k + 1)
    rw [show ns.length - 1 + (k + 1) = ns.length + k by omega] at e2
    obtain ⟨m, hm⟩ : ∃ m, ns.length + k = m + 1 := ⟨ns.length + k - 1, by omega⟩
    rw [show ns.length - 1 + k = m by omega] at e1
    rw [hm] at e2 ⊢
    simp only [due]; omega
  have ht : t ≤ ns.length := Classical.byContradiction fun hn => by
    have e1 := (h2 (t - 1) (by omega)).1
    have e2 := hz (t - 1 - ns.length)
    rw [show ns.length + (t - 1 - ns.length) = t - 1 by omega] at e2
    omega
  refine ⟨t, h1, ht, fun d hd => (h2 d hd).2, h3, fun d hd => ?_, fun d hd1 hd2 => ?_⟩
  · rw [hr d hd]
    constructor
    · intro e
      apply Classical.byContradiction
      intro hn
      have := (h4 (d - t)).2
      rw [show t + (d - t) = d by omega] at this
      omega
    · intro hd'; exact (h2 d hd').1
  · rw [hr d hd2, hr (d - 1) (by omega)]
    by_cases e : d = t
    · subst e
      have a := (h2 (d - 1) (by omega)).1
      have b := (h4 0).2
      simp only [Nat.add_zero] at b
      omega
    · have a := (h4 (d - t - 1)).1
      rw [show t + (d - t - 1) + 1 = d by omega, show t + (d - t - 1) = d - 1 by omega] at a
      exact a
end RK
namespace RK
def sumF {α : Type} : List α → (α → Int) → Int
  | [], _ => 0
  | x :: xs, f => f x + sumF xs f
theorem sumF_zero {α : Type} {X : List α} {f : α → Int} (h : ∀ p ∈ X, f p = 0) : sumF X f = 0 := by
  induction X with
  | nil => rfl
  | cons x X ih => simp only [sumF]; rw [h x (by simp), ih fun p hp => h p (by simp [hp])]; rfl
theorem sp_sum {α : Type} (row : α → V) (W : List α) : ∀ (X : List α) (c : α → Int), (∀ p ∈ X, c p ≠ 0 → p ∈ W) → Sp (W.map row) (fun j => sumF X fun p => c p * row p j)
  | [], c, _ => Sp.zero.congr fun j => rfl
  | x :: X, c, h => by
    have ih := sp_sum row W X c fun p hp => h p (by simp [hp])
    by_cases hx : c x = 0
    · exact ih.congr fun j => by simp only [sumF, hx]; omega
    · exact Sp.lin (Sp.mem (List.mem_map_of_mem (h x (by simp) hx))) ih (c x) 1 fun j => by simp only [sumF]; omega
end RK
namespace RK
theorem sumc_one : ∀ {cs : List Int} {ps : List Pt} {f : Pt → Int} {k : Nat}, cs.length = ps.length → k < ps.length → (∀ l, l < ps.length → l ≠ k → cs.getD l 0 * f (ps.getD l (0, 0, 0)) = 0) → sumc cs ps f = cs.getD k 0 * f (ps.getD k (0, 0, 0))
  | [], [], _, k, _, h, _ => by simp at h
  | [], _ :: _, _, _, h, _, _ => by simp at h
  | _ :: _, [], _, _, h, _, _ => by simp at h
  | c :: cs, p :: ps, f, 0, hl, _, h => by
    have : sumc cs ps f = 0 := by
      have key : ∀ {cs : List Int} {ps : List Pt}, cs.length = ps.length → (∀ l, l < ps.length → cs.getD l 0 * f (ps.getD l (0, 0, 0)) = 0) → sumc cs ps f = 0 := by
        intro cs ps
        induction ps generalizing cs with
        | nil => intro _ _; cases cs <;> rfl
        | cons p ps ih =>
          intro hl h
          cases cs with
          | nil => rfl
          | cons c cs =>
            have h0 := h 0 (by simp)
            simp only [List.getD_cons_zero] at h0
            simp only [sumc, h0, Int.zero_add]
            exact ih (by simpa using hl) fun l hl' => by
              have := h (l + 1) (by simpa using hl')
              simpa using this
      exact key (by simpa using hl) fun l hl' => by
        have := h (l + 1) (by simpa using hl') (by omega)
        simpa using this
    simp [sumc, this]
  | c :: cs, p :: ps, f, k + 1, hl, hk, h => by
    have h0 := h 0 (by simp) (by omega)
    simp only [List.getD_cons_zero] at h0
    have ih := sumc_one (cs := cs) (ps := ps) (f := f) (k := k) (by simpa using hl) (by simpa using hk) fun l hl' hne => by
      have := h (l + 1) (by simpa using hl') (by omega)
      simpa using this
    simp only [sumc, h0, Int.zero_add, ih, List.getD_cons_succ]
theorem prodL_app (p : Pt) : ∀ as bs : List Pt, prodL (as ++ bs) p = prodL as p * prodL bs p
  | [], bs => by simp [prodL]
  | a :: as, bs => by simp only [List.cons_append, prodL, prodL_app p as bs]; grind
theorem prodL_zero {p a : Pt} : ∀ {as : List Pt}, a ∈ as → lf a p = 0 → prodL as p = 0
  | b :: as, h, e => by
    rcases List.mem_cons.mp h with rfl | h
    · simp [prodL, e]
    · simp [prodL, prodL_zero h e]
theorem prodL_nz {p : Pt} : ∀ {as : List Pt}, (∀ a ∈ as, lf a p ≠ 0) → prodL as p ≠ 0
  | [], _ => by simp [prodL]
  | a :: as, h => Int.mul_ne_zero (h a (by simp)) (prodL_nz fun b hb => h b (by simp [hb]))
end RK
namespace RK
structure RowFor (ps : List Pt) (ns : List Nat) : Prop where
  ne : ns ≠ []
  at_ : ∀ d, d < ns.length → hh d ps = (ns.take (d + 1)).sum
  all : ns.sum = ps.length
  last : ∀ d, d + 1 < ns.length → (ns.take (d + 1)).sum ≠ ps.length
  due : ∀ d, ns.getD d 0 = due ps d
  pos : ∀ n ∈ ns, 0 < n
theorem due_pos {ps : List Pt} (hp : ∀ p ∈ ps, nz p) (hu : ps.Pairwise unl) (hne : ps ≠ []) {n : Nat} (hl : ∀ d, d < n → hh d ps < ps.length) : ∀ d, d ≤ n → 0 < due ps d := fun d hd => by
  cases d with
  | zero => rw [due_zero hne]; exact Nat.one_pos
  | succ d =>
    refine Nat.pos_of_ne_zero fun h0 => ?_
    have st := fun k => (due_stays hp (t := d + 1) (by omega) (by omega) k)
    have z : ∀ k, due ps (d + 1 + k) = 0 := fun k => by
      induction k with
      | zero => exact h0
      | succ k ih =>
        have := (st k).1
        rw [show d + 1 + (k + 1) = d + 1 + k + 1 by omega]
        omega
    have same : ∀ k, hh (d + k) ps = hh d ps := fun k => by
      induction k with
      | zero => rfl
      | succ k ih =>
        have h1 := z k
        have h2 : due ps (d + 1 + k) = hh (d + 1 + k) ps - hh (d + k) ps := by
          rw [show d + 1 + k = d + k + 1 by omega]; rfl
        have h3 := hh_up hp (d + k)
        rw [show d + (k + 1) = d + k + 1 by omega]
        rw [show d + 1 + k = d + k + 1 by omega] at h1 h2
        omega
    have h1 := hl d (by omega)
    have h2 := same ps.length
    have h3 := hh_few hp hu (d := d + ps.length) (by omega)
    omega
theorem rowfor_ex {ps : List Pt} (hp : ∀ p ∈ ps, nz p) (hu : ps.Pairwise unl) (hne : ps ≠ []) {e : Nat} (he : hh e ps = ps.length) : ∃ ns, RowFor ps ns ∧ ns.length ≤ e + 1 ∧ ∃ n, ns = rowL ps n := by
  obtain ⟨n, h1, h2, h3⟩ := least_of (P := fun d => hh d ps = ps.length) he
  have lt : ∀ d, d < n → hh d ps < ps.length := fun d hd => Nat.lt_of_le_of_ne (hh_le_length ps d) (h3 d hd)
  have len : (rowL ps n).length = n + 1 := by simp [rowL]
  refine ⟨rowL ps n, ⟨?_, fun d hd => (rowL_take hp (by omega)).symm, ?_, fun d hd => ?_, fun d => ?_, fun x hx => ?_⟩, by omega, n, rfl⟩
  · intro h; rw [h] at len; simp at len
  · have := rowL_take hp (Nat.le_refl n)
    rw [List.take_of_length_le (by omega)] at this
    rw [this, h2]
  · rw [rowL_take hp (by omega)]
    have := lt d (by omega)
    omega
  · by_cases hd : d ≤ n
    · simp [rowL, List.getD, List.getElem?_map, List.getElem?_range (show d < n + 1 by omega)]
    · have h4 : (rowL ps n).getD d 0 = 0 := by simp only [List.getD]; rw [List.getElem?_eq_none (by omega)]; rfl
      rw [h4]
      obtain ⟨k, rfl⟩ : ∃ k, d = n + k + 1 := ⟨d - n - 1, by omega⟩
      have a := hh_stay hp h2 k
      have b := hh_stay hp h2 (k + 1)
      show 0 = hh (n + k + 1) ps - hh (n + k) ps
      rw [show n + k + 1 = n + (k + 1) by omega, a, b]; omega
  · simp only [rowL, List.mem_map, List.mem_range] at hx
    obtain ⟨d, hd, rfl⟩ := hx
    exact due_pos hp hu hne lt d (by omega)
end RK
namespace RK
theorem hh_sep {W : List Pt} {d : Nat} (h : ∀ k, k < W.length → ∃ as : List Pt, as.length = d ∧ prodL as (W.getD k (0, 0, 0)) ≠ 0 ∧ ∀ l, l < W.length → l ≠ k → prodL as (W.getD l (0, 0, 0)) = 0) : hh d W = W.length := by
  have ind : Ind (W.map fun p => vz (cnd d p)) := by
    rw [ind_iff]
    intro cs hl hz c hc
    obtain ⟨k, hk, rfl⟩ := List.getElem_of_mem hc
    obtain ⟨as, a1, a2, a3⟩ := h k (by omega)
    have := prod_rel hz as a1
    rw [sumc_one (k := k) hl (by omega) fun l hl' hne => by rw [a3 l hl' hne, Int.mul_zero]] at this
    have := (Int.mul_eq_zero.mp this).resolve_right a2
    simpa [List.getD, hk] using this
  rw [hh, rk_ind ind, List.length_map]
/-- parameters of a point of a line, of a conic -/
abbrev Pm := Int × Int
def dt2 (a b : Pm) : Int := a.1 * b.2 - a.2 * b.1
def cq (a : Pm) : Pt := (a.1 * a.1, a.1 * a.2, a.2 * a.2)
def lq (a : Pm) : Pt := (a.1, a.2, 0)
def nz2 (a : Pm) : Prop := a.1 ≠ 0 ∨ a.2 ≠ 0
def chord (a b : Pm) : Pt := (a.2 * b.2, -(a.1 * b.2 + a.2 * b.1), a.1 * b.1)
theorem lf_chord (a b q : Pm) : lf (chord a b) (cq q) = dt2 a q * dt2 b q := by
  simp only [lf, chord, cq, dt2]; grind
def cover : List Pm → List Pt
  | [] => []
  | [a] => [chord a a]
  | a :: b :: r => chord a b :: cover r
theorem cover_len : ∀ L : List Pm, (cover L).length = (L.length + 1) / 2
  | [] => by simp [cover]
  | [a] => by simp [cover]
  | a :: b :: r => by
    have := cover_len r
    simp only [cover, List.length_cons, this]
    omega
theorem cover_nz {q : Pm} : ∀ {L : List Pm}, (∀ a ∈ L, dt2 a q ≠ 0) → prodL (cover L) (cq q) ≠ 0
  | [], _ => (show (1 : Int) ≠ 0 by decide)
  | [a], h => by
    have := h a (by simp)
    simp only [cover, prodL, lf_chord]
    exact Int.mul_ne_zero (Int.mul_ne_zero this this) (by decide)
  | a :: b :: r, h => by
    simp only [cover, prodL, lf_chord]
    exact Int.mul_ne_zero (Int.mul_ne_zero (h a (by simp)) (h b (by simp))) (cover_nz fun c hc => h c (by simp [hc]))
theorem cover_zero {q : Pm} : ∀ {L : List Pm}, q ∈ L → prodL (cover L) (cq q) = 0
  | [], h => by simp at h
  | [a], h => by
    have : q = a := by simpa using h
    subst this
    simp only [cover, prodL, lf_chord, dt2]; grind
  | a :: b :: r, h => by
    simp only [cover, prodL, lf_chord]
    simp only [List.mem_cons] at h
    rcases h with rfl | rfl | h
    · simp only [dt2]; grind
    · simp only [dt2]; grind
    · rw [cover_zero h, Int.mul_zero]
/-- a form of degree 1 that misses a point -/
theorem miss_ex {p : Pt} (h : nz p) : ∃ a : Pt, lf a p ≠ 0 := by
  rcases h with h | h | h
  · exact ⟨(1, 0, 0), by simpa [lf] using h⟩
  · exact ⟨(0, 1, 0), by simpa [lf] using h⟩
  · exact ⟨(0, 0, 1), by simpa [lf] using h⟩
theorem cq_nz {a : Pm} (h : nz2 a) : nz (cq a) := by
  rcases h with h | h
  · exact .inl (Int.mul_ne_zero h h)
  · exact .inr (.inr (Int.mul_ne_zero h h))
theorem lq_nz {a : Pm} (h : nz2 a) : nz (lq a) := by
  rcases h with h | h
  · exact .inl h
  · exact .inr (.inl h)
theorem prodL_rep_nz {a p : Pt} (h : lf a p ≠ 0) (n : Nat) : prodL (List.replicate n a) p ≠ 0 :=
  prodL_nz fun b hb => by rw [List.eq_of_mem_replicate hb]; exact h
/-- the others of a list -/
theorem erase_at {α : Type} {L : List α} {k l : Nat} (hl : l < L.length) (hne : l ≠ k) : L[l] ∈ L.eraseIdx k := by
  rw [List.mem_eraseIdx_iff_getElem]
  exact ⟨l, hl, hne, rfl⟩
theorem others_dt {L : List Pm} (h : L.Pairwise fun a b => dt2 a b ≠ 0) {k : Nat} (hk : k < L.length) : ∀ a ∈ L.eraseIdx k, dt2 a L[k] ≠ 0 := fun a ha => by
  rw [List.mem_eraseIdx_iff_getElem] at ha
  obtain ⟨l, hl, hne, rfl⟩ := ha
  have hp := List.pairwise_iff_getElem.mp h
  rcases Nat.lt_or_ge l k with g | g
  · exact hp l k hl hk g
  · have := hp k l hk hl (by omega)
    intro e
    apply this
    simp only [dt2] at e ⊢
    grind
theorem conic_ge {L : List Pm} (h : L.Pairwise fun a b => dt2 a b ≠ 0) (hz : ∀ a ∈ L, nz2 a) {d : Nat} (hl : L.length ≤ 2 * d + 1) : hh d (L.map cq) = L.length := by
  rw [hh_sep fun k hk => ?_, List.length_map]
  have hk' : k < L.length := by simpa using hk
  obtain ⟨e, he⟩ := miss_ex (cq_nz (hz _ (List.getElem_mem hk')))
  have hel : (L.eraseIdx k).length = L.length - 1 := List.length_eraseIdx_of_lt hk'
  have hcl := cover_len (L.eraseIdx k)
  refine ⟨cover (L.eraseIdx k) ++ List.replicate (d - (cover (L.eraseIdx k)).length) e, by simp; omega, ?_, fun l hl hne => ?_⟩
  · have e1 : (L.map cq).getD k (0, 0, 0) = cq L[k] := by simp [List.getD, hk']
    rw [e1, prodL_app]
    exact Int.mul_ne_zero (cover_nz (others_dt h hk')) (prodL_rep_nz he _)
  · have hl' : l < L.length := by simpa using hl
    have e1 : (L.map cq).getD l (0, 0, 0) = cq L[l] := by simp [List.getD, hl']
    rw [e1, prodL_app, cover_zero (erase_at hl' hne), Int.zero_mul]
theorem line_ge {L : List Pm} (h : L.Pairwise fun a b => dt2 a b ≠ 0) (hz : ∀ a ∈ L, nz2 a) {d : Nat} (hl : L.length ≤ d + 1) : hh d (L.map lq) = L.length := by
  rw [hh_sep fun k hk => ?_, List.length_map]
  have hk' : k < L.length := by simpa using hk
  obtain ⟨e, he⟩ := miss_ex (lq_nz (hz _ (List.getElem_mem hk')))
  have hel : (L.eraseIdx k).length = L.length - 1 := List.length_eraseIdx_of_lt hk'
  obtain ⟨M, hM⟩ : ∃ M, M = (L.eraseIdx k).map fun a : Pm => ((-a.2, a.1, 0) : Pt) := ⟨_, rfl⟩
  have hMl : M.length = L.length - 1 := by rw [hM, List.length_map, hel]
  have hlf : ∀ a q : Pm, lf (-a.2, a.1, 0) (lq q) = dt2 a q := fun a q => by simp only [lf, lq, dt2]; grind
  refine ⟨M ++ List.replicate (d - M.length) e, by simp; omega, ?_, fun l hl hne => ?_⟩
  · have e1 : (L.map lq).getD k (0, 0, 0) = lq L[k] := by simp [List.getD, hk']
    rw [e1, prodL_app]
    refine Int.mul_ne_zero (prodL_nz fun b hb => ?_) (prodL_rep_nz he _)
    rw [hM] at hb
    obtain ⟨a, ha, rfl⟩ := List.mem_map.mp hb
    rw [hlf]
    exact others_dt h hk' a ha
  · have hl' : l < L.length := by simpa using hl
    have e1 : (L.map lq).getD l (0, 0, 0) = lq L[l] := by simp [List.getD, hl']
    rw [e1, prodL_app, prodL_zero (a := ((-(L[l]).2, (L[l]).1, 0) : Pt)) (by rw [hM]; exact List.mem_map_of_mem (f := fun a : Pm => ((-a.2, a.1, 0) : Pt)) (erase_at hl' hne)) (by rw [hlf]; simp only [dt2]; grind), Int.zero_mul]
theorem sumF_one {α : Type} {X : List α} {f : α → Int} {a : α} (hn : X.Nodup) (ha : a ∈ X) (h : ∀ b ∈ X, b ≠ a → f b = 0) : sumF X f = f a := by
  induction X with
  | nil => simp at ha
  | cons x X ih =>
    obtain ⟨n1, n2⟩ := List.nodup_cons.mp hn
    simp only [sumF]
    rcases List.mem_cons.mp ha with e | ha
    · subst e
      rw [sumF_zero fun b hb => h b (by simp [hb]) fun e => n1 (e ▸ hb)]; omega
    · rw [h x (by simp) fun e => n1 (e ▸ ha), ih n2 ha fun b hb => h b (by simp [hb])]; omega
/-- rows that hang on few numbers -/
theorem rk_few {α : Type} {ms : List Tr} {X : List α} {n : Nat} {g : Tr → Nat} {k : Tr → Int} {c : α → Nat → Int} {row : α → List Int} (hg : ∀ m ∈ ms, g m < n) (hr : ∀ x ∈ X, row x = ms.map fun m => c x (g m) * k m) : rk (X.map fun x => vz (row x)) ≤ n := by
  have key : ∀ v ∈ X.map (fun x => vz (row x)), Sp ((List.range n).map fun e => vz (ms.map fun m => if g m = e then k m else 0)) v := fun v hv => by
    obtain ⟨x, hx, rfl⟩ := List.mem_map.mp hv
    refine (sp_sum (fun e => vz (ms.map fun m => if g m = e then k m else 0)) (List.range n) (List.range n) (fun e => c x e) fun p hp _ => hp).congr fun j => ?_
    rw [hr x hx]
    by_cases hj : j < ms.length
    · have hm := hg _ (List.getElem_mem hj)
      rw [sumF_one (a := g ms[j]) List.nodup_range (List.mem_range.mpr hm) fun b _ hne => ?_]
      · simp [vz, List.getD, hj]
      · simp [vz, List.getD, hj, Ne.symm hne]
    · rw [vz_out (by simp; omega)]
      exact sumF_zero fun e _ => by rw [vz_out (by simp; omega), Int.mul_zero]
  have := rk_le_of key
  simpa using this
theorem conic_le (L : List Pm) (d : Nat) : hh d (L.map cq) ≤ 2 * d + 1 := by
  rw [hh, List.map_map]
  refine rk_few (ms := trs d) (g := fun m => m.2.1 + 2 * m.2.2) (k := fun _ => 1) (c := fun a e => a.1 ^ (2 * d - e) * a.2 ^ e) (row := fun a => cnd d (cq a)) (fun m hm => ?_) fun a _ => ?_
  · rw [mem_trs] at hm; omega
  · refine List.map_congr_left fun m hm => ?_
    rw [mem_trs] at hm
    obtain ⟨i, j, k⟩ := m
    dsimp only at hm ⊢
    rw [show 2 * d - (j + 2 * k) = i + i + j by omega]
    simp only [mono, cq, Int.mul_pow, Int.pow_add, Nat.two_mul]
    grind
theorem line_le (L : List Pm) (d : Nat) : hh d (L.map lq) ≤ d + 1 := by
  rw [hh, List.map_map]
  refine rk_few (ms := trs d) (g := fun m => m.2.1) (k := fun m => if m.2.2 = 0 then 1 else 0) (c := fun a e => a.1 ^ (d - e) * a.2 ^ e) (row := fun a => cnd d (lq a)) (fun m hm => ?_) fun a _ => ?_
  · rw [mem_trs] at hm; omega
  · refine List.map_congr_left fun m hm => ?_
    rw [mem_trs] at hm
    obtain ⟨i, j, k⟩ := m
    dsimp only at hm ⊢
    by_cases hk : k = 0
    · subst hk
      rw [show d - j = i by omega]
      simp [mono, lq]
    · simp [mono, lq, hk, Int.zero_pow hk]
/-- as many as can be -/
theorem hh_sub {A B : List Pt} (h : ∀ p ∈ A, p ∈ B) {d n : Nat} (ha : hh d A = n) : n ≤ hh d B := ha ▸ hh_mono h d
theorem conic_hh {L : List Pm} (h : L.Pairwise fun a b => dt2 a b ≠ 0) (hz : ∀ a ∈ L, nz2 a) (d : Nat) : hh d (L.map cq) = min (2 * d + 1) L.length := by
  by_cases hl : L.length ≤ 2 * d + 1
  · rw [conic_ge h hz hl]; omega
  · have h1 := conic_le L d
    have h2 := conic_ge (L := L.take (2 * d + 1)) (h.sublist (List.take_sublist ..)) (fun a ha => hz a (List.mem_of_mem_take ha)) (d := d) (by simp; omega)
    have h3 := hh_sub (B := L.map cq) (fun p hp => by
      obtain ⟨a, ha, rfl⟩ := List.mem_map.mp hp
      exact List.mem_map_of_mem (List.mem_of_mem_take ha)) h2
    simp only [List.length_take] at h3
    omega
theorem line_hh {L : List Pm} (h : L.Pairwise fun a b => dt2 a b ≠ 0) (hz : ∀ a ∈ L, nz2 a) (d : Nat) : hh d (L.map lq) = min (d + 1) L.length := by
  by_cases hl : L.length ≤ d + 1
  · rw [line_ge h hz hl]; omega
  · have h1 := line_le L d
    have h2 := line_ge (L := L.take (d + 1)) (h.sublist (List.take_sublist ..)) (fun a ha => hz a (List.mem_of_mem_take ha)) (d := d) (by simp; omega)
    have h3 := hh_sub (B := L.map lq) (fun p hp => by
      obtain ⟨a, ha, rfl⟩ := List.mem_map.mp hp
      exact List.mem_map_of_mem (List.mem_of_mem_take ha)) h2
    simp only [List.length_take] at h3
    omega
end RK
namespace RK
theorem sp_down {ps : List Pt} {q : Pt} {d : Nat} (hq : nz q) (h : Sp (ps.map fun p => vz (cnd (d + 1) p)) (vz (cnd (d + 1) q))) : Sp (ps.map fun p => vz (cnd d p)) (vz (cnd d q)) := by
  obtain ⟨c, cs, hc, hl, e⟩ := h.coef
  obtain ⟨a, ha⟩ := miss_ex hq
  have z : ∀ j, lc ((-c) :: cs) ((q :: ps).map fun p => vz (cnd (d + 1) p)) j = 0 := fun j => by
    show -c * vz (cnd (d + 1) q) j + lc cs (ps.map fun p => vz (cnd (d + 1) p)) j = 0
    rw [← e j, Int.neg_mul]
    omega
  have y := cnd_zero.mpr (rel_line (cnd_zero.mp z) a)
  refine Sp.dlin (lc_sp (cs.zipWith (· * ·) (ps.map (lf a))) (ps.map fun p => vz (cnd d p))) (Sp.zero (W := ps.map fun p => vz (cnd d p))) 1 0 (c * lf a q) (Int.mul_ne_zero hc ha) fun j => ?_
  have h1 : -c * lf a q * vz (cnd d q) j + lc (cs.zipWith (· * ·) (ps.map (lf a))) (ps.map fun p => vz (cnd d p)) j = 0 := y j
  have h2 : -c * lf a q * vz (cnd d q) j = -(c * lf a q * vz (cnd d q) j) := by rw [Int.neg_mul, Int.neg_mul]
  rw [h2] at h1
  show c * lf a q * vz (cnd d q) j = 1 * _ + 0 * zr j
  omega
theorem hh_gain (ps : List Pt) {q : Pt} (hq : nz q) : ∃ P : Nat → Prop, (∀ d, P d → P (d + 1)) ∧ ∀ d, (P d ∧ hh d (q :: ps) = hh d ps + 1) ∨ (¬ P d ∧ hh d (q :: ps) = hh d ps) := by
  refine ⟨fun d => ¬ Sp (ps.map fun p => vz (cnd d p)) (vz (cnd d q)), fun d h k => h (sp_down hq k), fun d => ?_⟩
  by_cases h : Sp (ps.map fun p => vz (cnd d p)) (vz (cnd d q))
  · exact .inr ⟨fun k => k h, rk_add_in h⟩
  · exact .inl ⟨h, rk_add_out h⟩
theorem ext_getD {a b : List Nat} (hl : a.length = b.length) (h : ∀ i, a.getD i 0 = b.getD i 0) : a = b :=
  List.ext_getElem hl fun i h1 h2 => by
    have := h i
    simpa [List.getD_eq_getElem?_getD, h1, h2] using this
theorem pos_getD {r : List Nat} (h : ∀ n ∈ r, 0 < n) (i : Nat) : 0 < r.getD i 0 ↔ i < r.length := by
  by_cases hi : i < r.length
  · have := h r[i] (List.getElem_mem hi)
    simp [List.getD_eq_getElem?_getD, hi, this]
  · simp [List.getD_eq_getElem?_getD, hi]
def moreR (r : List Nat) : List (List Nat) := ((List.range r.length).map fun i => r.set i (r.getD i 0 + 1)) ++ [r ++ [1]]
theorem row_more {ps : List Pt} {q : Pt} {r r' : List Nat} (hp : ∀ p ∈ ps, nz p) (hq : nz q) (R : RowFor ps r) (R' : RowFor (q :: ps) r') : r' ∈ moreR r := by
  obtain ⟨P, up, g⟩ := hh_gain ps hq
  have l' := List.length_pos_iff.mpr R'.ne
  have ex : P (r'.length - 1) := by
    rcases g (r'.length - 1) with ⟨h, _⟩ | ⟨_, h⟩
    · exact h
    · exfalso
      have h1 := R'.at_ (r'.length - 1) (by omega)
      rw [show r'.length - 1 + 1 = r'.length by omega, List.take_length, R'.all, List.length_cons] at h1
      have h2 := hh_le_length ps (r'.length - 1)
      omega
  obtain ⟨d0, _, h0, hl⟩ := least_of ex
  have ab : ∀ k, P (d0 + k) := fun k => by
    induction k with
    | zero => exact h0
    | succ k ih => exact up _ ih
  have val : ∀ d, hh d (q :: ps) = hh d ps + if d0 ≤ d then 1 else 0 := fun d => by
    rcases g d with ⟨h, e⟩ | ⟨h, e⟩
    · rw [if_pos (Classical.byContradiction fun k => hl d (by omega) h), e]
    · rw [if_neg (fun k => h (by
        have := ab (d - d0)
        rwa [show d0 + (d - d0) = d by omega] at this)), e]
      omega
  have du : ∀ d, r'.getD d 0 = r.getD d 0 + if d = d0 then 1 else 0 := fun d => by
    rw [R'.due, R.due]
    cases d with
    | zero =>
      have := val 0
      show hh 0 (q :: ps) - 0 = hh 0 ps - 0 + _
      rw [this]
      by_cases k : d0 = 0
      · rw [if_pos (by omega), if_pos k.symm]
        omega
      · rw [if_neg (by omega), if_neg (Ne.symm k)]
        omega
    | succ d =>
      have e1 := val d
      have e2 := val (d + 1)
      have m := hh_up hp d
      show hh (d + 1) (q :: ps) - hh d (q :: ps) = hh (d + 1) ps - hh d ps + _
      rw [e1, e2]
      by_cases k : d + 1 = d0
      · rw [if_pos (by omega), if_neg (by omega), if_pos k]
        omega
      · rw [if_neg k]
        by_cases k2 : d0 ≤ d
        · rw [if_pos (by omega), if_pos k2]
          omega
        · rw [if_neg (by omega), if_neg k2]
          omega
  have pr := pos_getD R.pos
  have pr' := pos_getD R'.pos
  unfold moreR
  by_cases k : d0 < r.length
  · have len : r'.length = r.length := by
      apply Nat.le_antisymm
      · refine Nat.le_of_not_lt fun z => ?_
        have a := (pr' r.length).mpr z
        rw [du, if_neg (by omega)] at a
        have := (pr r.length).mp (by omega)
        omega
      · refine Nat.le_of_not_lt fun z => ?_
        have a := (pr r'.length).mpr z
        have b := du r'.length
        have := (pr' r'.length).mp (by omega)
        omega
    refine List.mem_append_left _ (List.mem_map.mpr ⟨d0, List.mem_range.mpr k, ?_⟩)
    refine (ext_getD (by rw [len, List.length_set]) fun i => ?_).symm
    rw [du i]
    by_cases q : i = d0
    · subst q
      simp [List.getD_eq_getElem?_getD, k]
    · rw [if_neg q]
      simp [List.getD_eq_getElem?_getD, List.getElem?_set, Ne.symm q]
  · have dl : d0 < r'.length := (pr' d0).mp (by rw [du, if_pos rfl]; omega)
    have e0 : d0 = r.length := by
      refine Nat.le_antisymm (Nat.le_of_not_lt fun z => ?_) (by omega)
      have a := (pr' r.length).mpr (by omega)
      rw [du, if_neg (by omega)] at a
      have := (pr r.length).mp (by omega)
      omega
    have len : r'.length = r.length + 1 := by
      refine Nat.le_antisymm (Nat.le_of_not_lt fun z => ?_) (by omega)
      have a := (pr' (r.length + 1)).mpr z
      rw [du, if_neg (by omega)] at a
      have := (pr (r.length + 1)).mp (by omega)
      omega
    refine List.mem_append_right _ (List.mem_singleton.mpr (ext_getD (by rw [len]; simp) fun i => ?_))
    rw [du i]
    by_cases q : i < r.length
    · rw [if_neg (by omega)]
      simp [List.getD_eq_getElem?_getD, List.getElem?_append, q]
    · by_cases q2 : i = r.length
      · subst q2
        rw [if_pos e0.symm]
        simp [List.getD_eq_getElem?_getD]
      · rw [if_neg (by omega)]
        have z : ∀ l : List Nat, l.length ≤ i → l.getD i 0 = 0 := fun l hl => by simp [List.getD_eq_getElem?_getD, List.getElem?_eq_none hl]
        rw [z r (by omega), z (r ++ [1]) (by simp; omega)]
end RK
namespace RK
def rows8 : Nat → List (List Nat)
  | 1 => [[1]]
  | 2 => [[1, 1]]
  | 3 => [[1, 1, 1], [1, 2]]
  | 4 => [[1, 1, 1, 1], [1, 2, 1]]
  | 5 => [[1, 1, 1, 1, 1], [1, 2, 1, 1], [1, 2, 2]]
  | 6 => [[1, 1, 1, 1, 1, 1], [1, 2, 1, 1, 1], [1, 2, 2, 1], [1, 2, 3]]
  | 7 => [[1, 1, 1, 1, 1, 1, 1], [1, 2, 1, 1, 1, 1], [1, 2, 2, 1, 1], [1, 2, 2, 2], [1, 2, 3, 1]]
  | 8 => [[1, 1, 1, 1, 1, 1, 1, 1], [1, 2, 1, 1, 1, 1, 1], [1, 2, 2, 1, 1, 1], [1, 2, 2, 2, 1], [1, 2, 3, 1, 1], [1, 2, 3, 2]]
  | _ => []
def okGo : Nat → Bool → List Nat → Bool
  | _, _, [] => true
  | a, up, n :: ns => ((decide (0 < n) && decide (n ≤ a)) || (up && decide (n = a + 1))) && okGo n (up && decide (a < n)) ns
def compsF : Nat → Nat → List (List Nat)
  | 0, n => if n = 0 then [[]] else []
  | k + 1, n => if n = 0 then [[]] else (List.range n).flatMap fun i => (compsF k (n - (i + 1))).map ((i + 1) :: ·)
theorem comps_mem : ∀ (r : List Nat) (k n : Nat), (∀ x ∈ r, 0 < x) → r.sum = n → r.length ≤ k → r ∈ compsF k n
  | [], k, n, _, h, _ => by
    have : n = 0 := by simpa using h.symm
    subst this
    cases k <;> simp [compsF]
  | x :: r, 0, n, _, _, h => by simp at h
  | x :: r, k + 1, n, hp, h, hk => by
    have hx := hp x (List.mem_cons_self ..)
    rw [List.sum_cons] at h
    rw [List.length_cons] at hk
    have ih := comps_mem r k (n - x) (fun y hy => hp y (List.mem_cons_of_mem _ hy)) (by omega) (by omega)
    unfold compsF
    rw [if_neg (by omega)]
    refine List.mem_flatMap.mpr ⟨x - 1, List.mem_range.mpr (by omega), List.mem_map.mpr ⟨r, ?_, by rw [Nat.sub_add_cancel hx]⟩⟩
    rw [Nat.sub_add_cancel hx]
    exact ih
theorem comps_ok : ((List.range 9).all fun n => n == 0 || (compsF n n).all fun r => !okGo 0 true r || (rows8 n).contains r) = true := by decide +kernel
theorem row_ok {ps : List Pt} {r : List Nat} (hp : ∀ p ∈ ps, nz p) (hne : ps ≠ []) (R : RowFor ps r) : okGo 0 true r = true := by
  obtain ⟨t, h1, h2, _, _, h3, h4⟩ := top_facts hp hne R.ne R.at_ R.all
  have pr := pos_getD R.pos
  have key : ∀ (k d : Nat), d + k = r.length → okGo (if d = 0 then 0 else r.getD (d - 1) 0) (decide (d ≤ t)) (r.drop d) = true := by
    intro k
    induction k with
    | zero =>
      intro d hd
      rw [List.drop_of_length_le (by omega)]
      rfl
    | succ k ih =>
      intro d hd
      have hd' : d < r.length := by omega
      have e := ih (d + 1) (by omega)
      rw [if_neg (by omega), Nat.add_sub_cancel] at e
      have ed : r.drop d = r.getD d 0 :: r.drop (d + 1) := by
        rw [List.drop_eq_getElem_cons hd']
        simp [List.getD_eq_getElem?_getD, hd']
      rw [ed]
      unfold okGo
      have p := (pr d).mpr hd'
      by_cases q : d < t
      · have v := (h3 d hd').mpr q
        have va : (if d = 0 then 0 else r.getD (d - 1) 0) = d := by
          by_cases z : d = 0
          · rw [if_pos z, z]
          · rw [if_neg z, (h3 (d - 1) (by omega)).mpr (by omega)]
            omega
        rw [va, v, decide_eq_true (show d ≤ t by omega), decide_eq_true (show d < d + 1 by omega)]
        rw [v, decide_eq_true (show d + 1 ≤ t by omega)] at e
        simp [e]
      · have le := h4 d (by omega) hd'
        have z : d ≠ 0 := by omega
        rw [if_neg z, decide_eq_true p, decide_eq_true le, decide_eq_false (show ¬ r.getD (d - 1) 0 < r.getD d 0 by omega)]
        rw [decide_eq_false (show ¬ d + 1 ≤ t by omega)] at e
        simp only [Bool.and_false, Bool.and_self, Bool.true_or, Bool.true_and]
        exact e
  have := key r.length 0 (by omega)
  rw [if_pos rfl, List.drop_zero, decide_eq_true (Nat.zero_le t)] at this
  exact this
theorem len_sum : ∀ r : List Nat, (∀ x ∈ r, 0 < x) → r.length ≤ r.sum
  | [], _ => Nat.le_refl _
  | x :: r, h => by
    have := len_sum r fun y hy => h y (List.mem_cons_of_mem _ hy)
    have := h x (List.mem_cons_self ..)
    rw [List.sum_cons, List.length_cons]
    omega
theorem row_in {ps : List Pt} {r : List Nat} (hp : ∀ p ∈ ps, nz p) (hne : ps ≠ []) (h8 : ps.length ≤ 8) (R : RowFor ps r) : r ∈ rows8 ps.length := by
  have c := List.all_eq_true.mp comps_ok ps.length (List.mem_range.mpr (by omega))
  have h0 : (ps.length == 0) = false := by
    have := List.length_pos_iff.mpr hne
    simpa using hne
  rw [h0, Bool.false_or] at c
  have hl := len_sum r R.pos
  rw [R.all] at hl
  have m := List.all_eq_true.mp c r (comps_mem r _ _ R.pos R.all hl)
  rw [row_ok hp hne R] at m
  simpa using m
end RK
namespace RK
def sevens : List Int := [-3, -2, -1, 0, 1, 2, 3]
def rawP : List Pt := sevens.flatMap fun s => [(1, s, s * s), (s, 0, 1), (1, s, 2)] ++ sevens.flatMap fun b => [(s, b, 0), (s, b, 1), (s, b, 2)]
def nzB (p : Pt) : Bool := decide (p ≠ (0, 0, 0))
def ptsT : List Pt := (((1, 0, 0) : Pt) :: (rawP.filter nzB).map told).eraseDups
theorem pts_nz : (ptsT.all fun p => nzB p && decide (told p = p) && decide (p.1.natAbs ≤ 9) && decide (p.2.1.natAbs ≤ 9) && decide (p.2.2.natAbs ≤ 9)) = true := by decide +kernel
theorem pts_raw : (rawP.all fun p => !nzB p || ptsT.contains (told p)) = true := by decide +kernel
def prms : List Pm := sevens.flatMap fun a => sevens.map fun b => (a, b)
def onC (p : Pt) : Bool := decide (p.1 * p.2.2 = p.2.1 * p.2.1)
def onL (p : Pt) : Bool := decide (p.2.1 = 0)
def parC (p : Pt) : Pm := (prms.find? fun a => decide (cq a = p)).getD (0, 0)
def parL (p : Pt) : Pm := (p.1, p.2.2)
def conT : List Pt := ptsT.filter onC
def linT : List Pt := ptsT.filter onL
theorem con_ok : (conT.all fun p => decide (cq (parC p) = p) && decide (parC p ≠ (0, 0)) && conT.all fun q => decide (p = q) || decide (dt2 (parC p) (parC q) ≠ 0)) = true := by decide +kernel
def swapT : Tb := ((1, 0, 0), (0, 0, 1), (0, 1, 0))
theorem lin_ok : (linT.all fun p => decide (tap swapT (lq (parL p)) = p) && decide (parL p ≠ (0, 0)) && linT.all fun q => decide (p = q) || decide (dt2 (parL p) (parL q) ≠ 0)) = true := by decide +kernel
def conRow (n : Nat) : List Nat := [1] ++ List.replicate ((n - 1) / 2) 2 ++ List.replicate (if n / 2 * 2 = n then 1 else 0) 1
def sumsB (r : List Nat) (f : Nat → Nat) : Bool := (List.range r.length).all fun d => decide ((r.take (d + 1)).sum = f d)
theorem con_rows : ((List.range 9).all fun n => (rows8 n).all fun r => !sumsB r (fun d => min (2 * d + 1) n) || decide (n < 5) || decide (r = conRow n)) = true := by decide +kernel
theorem lin_rows : ((List.range 9).all fun n => (rows8 n).all fun r => !sumsB r (fun d => min (d + 1) n) || decide (r = List.replicate n 1)) = true := by decide +kernel
theorem nz2_of {a : Pm} (h : a ≠ (0, 0)) : nz2 a := by
  obtain ⟨x, y⟩ := a
  by_cases q : x = 0
  · exact .inr fun z => h (by
      have z : y = 0 := z
      rw [q, z])
  · exact .inl q
theorem sums_of {ps : List Pt} {r : List Nat} (R : RowFor ps r) {f : Nat → Nat} (h : ∀ d, hh d ps = f d) : sumsB r f = true :=
  List.all_eq_true.mpr fun d hd => decide_eq_true (by rw [← h, R.at_ d (List.mem_range.mp hd)])
theorem pair_of {α β : Type} {f : α → β} {P : β → β → Prop} : ∀ {l : List α}, l.Nodup → (∀ p ∈ l, ∀ q ∈ l, p ≠ q → P (f p) (f q)) → (l.map f).Pairwise P
  | [], _, _ => .nil
  | x :: l, hn, h => by
    rw [List.nodup_cons] at hn
    rw [List.map_cons, List.pairwise_cons]
    refine ⟨fun b hb => ?_, pair_of hn.2 fun p hp q hq => h p (List.mem_cons_of_mem _ hp) q (List.mem_cons_of_mem _ hq)⟩
    obtain ⟨y, hy, rfl⟩ := List.mem_map.mp hb
    exact h x (List.mem_cons_self ..) y (List.mem_cons_of_mem _ hy) fun e => hn.1 (e ▸ hy)
theorem con_row {ps : List Pt} {r : List Nat} (hd : ∀ p ∈ ps, p ∈ ptsT) (hn : ps.Nodup) (hc : ∀ p ∈ ps, onC p = true) (h8 : ps.length ≤ 8) (h5 : 5 ≤ ps.length) (hr : r ∈ rows8 ps.length) (R : RowFor ps r) : r = conRow ps.length := by
  have hm : ∀ p ∈ ps, p ∈ conT := fun p hp => List.mem_filter.mpr ⟨hd p hp, hc p hp⟩
  have ok := fun p hp => List.all_eq_true.mp con_ok p (hm p hp)
  simp only [Bool.and_eq_true, decide_eq_true_eq, Bool.or_eq_true, List.all_eq_true] at ok
  have e : (ps.map parC).map cq = ps := by
    rw [List.map_map]
    exact (List.map_congr_left fun p hp => (ok p hp).1.1).trans (List.map_id ps)
  have pw : (ps.map parC).Pairwise fun a b => dt2 a b ≠ 0 := pair_of hn fun p hp q hq ne => ((ok p hp).2 q (hm q hq)).resolve_left ne
  have hz : ∀ a ∈ ps.map parC, nz2 a := fun a ha => by
    obtain ⟨p, hp, rfl⟩ := List.mem_map.mp ha
    exact nz2_of (ok p hp).1.2
  have hh' : ∀ d, hh d ps = min (2 * d + 1) ps.length := fun d => by
    have := conic_hh pw hz d
    rw [e, List.length_map] at this
    exact this
  have c := List.all_eq_true.mp (List.all_eq_true.mp con_rows ps.length (List.mem_range.mpr (by omega))) r hr
  rw [sums_of R hh'] at c
  simp only [Bool.not_true, Bool.false_or, Bool.or_eq_true, decide_eq_true_eq] at c
  exact c.resolve_left (by omega)
theorem lin_row {ps : List Pt} {r : List Nat} (hd : ∀ p ∈ ps, p ∈ ptsT) (hn : ps.Nodup) (hc : ∀ p ∈ ps, onL p = true) (h8 : ps.length ≤ 8) (hr : r ∈ rows8 ps.length) (R : RowFor ps r) : r = List.replicate ps.length 1 := by
  have hm : ∀ p ∈ ps, p ∈ linT := fun p hp => List.mem_filter.mpr ⟨hd p hp, hc p hp⟩
  have ok := fun p hp => List.all_eq_true.mp lin_ok p (hm p hp)
  simp only [Bool.and_eq_true, decide_eq_true_eq, Bool.or_eq_true, List.all_eq_true] at ok
  have e : ((ps.map parL).map lq).map (tap swapT) = ps := by
    rw [List.map_map, List.map_map]
    exact (List.map_congr_left fun p hp => (ok p hp).1.1).trans (List.map_id ps)
  have pw : (ps.map parL).Pairwise fun a b => dt2 a b ≠ 0 := pair_of hn fun p hp q hq ne => ((ok p hp).2 q (hm q hq)).resolve_left ne
  have hz : ∀ a ∈ ps.map parL, nz2 a := fun a ha => by
    obtain ⟨p, hp, rfl⟩ := List.mem_map.mp ha
    exact nz2_of (ok p hp).1.2
  have hh' : ∀ d, hh d ps = min (d + 1) ps.length := fun d => by
    have := line_hh pw hz d
    rw [← hh_tap (t := swapT) (by decide) d, e, List.length_map] at this
    exact this
  have c := List.all_eq_true.mp (List.all_eq_true.mp lin_rows ps.length (List.mem_range.mpr (by omega))) r hr
  rw [sums_of R hh'] at c
  simpa using c
end RK
set_option maxHeartbeats 2000000
namespace LW
open PySem PySem.Spec PyProof.Rows L2 DL RK
abbrev iL (l : List Int) : D := .lst (l.map D.int)
abbrev iT (l : List Int) : D := .tup (l.map D.int)
theorem log_le {x b : Nat} (h : x ≤ 2 ^ b) : x.log2 ≤ b := by
  by_cases h0 : x = 0
  · subst h0; simp
  · have : x < 2 ^ (b + 1) := Nat.lt_of_le_of_lt h (Nat.pow_lt_pow_right (by decide) (by omega))
    have := (Nat.log2_lt h0).mpr this
    omega
theorem mul_b {i j : Int} {a b : Nat} (ha : i.natAbs ≤ 2 ^ a) (hb : j.natAbs ≤ 2 ^ b) (h : a + b < 1000000) : opMulA (.int i) (.int j) = some (.int (i * j)) := by
  have h1 := log_le ha; have h2 := log_le hb
  have : i.natAbs.log2 + j.natAbs.log2 < 1000000 := by omega
  simp [opMulA, this]
theorem div_b {i j : Int} {b : Nat} (h : 0 < j) (hb : j.natAbs ≤ 2 ^ b) (h9 : b < 9000) : opFdivW (.int i) (.int j) = some (.int (i / j)) := by
  have h1 := log_le hb
  have : j.natAbs.log2 < 9000 := by omega
  simp [opFdivW, h, this]
theorem one_le_two (b : Nat) : 1 ≤ 2 ^ b := Nat.one_le_pow _ _ (by decide)
@[simp] theorem fGcd_ap (a b : Int) : fGcd [.int a, .int b] = some (.int (Int.gcd a b)) := rfl
theorem gcdF_one (l : List Int) : gcdF 1 l = 1 := by
  have := (gcdF_dvd l 1).1
  exact Nat.dvd_one.mp this
theorem div_loop (π : Pot) (row : D) : ∀ (l : List Int) (g : Nat) (o : Option D),
    ∃ y, forGo (gN 2) f_p_divisor_of_b1 (l.map D.int) [some row, some (.int g), o] π = .ok (y, π) ∧
      ((y = .rt (.int 1) ∧ gcdF g l = 1) ∨ ∃ o', y = .nx [some row, some (.int (gcdF g l)), o'])
  | [], g, o => ⟨_, rfl, .inr ⟨o, rfl⟩⟩
  | x :: l, g, o => by
    simp only [List.map_cons, forGo]
    rw [gcdF_cons]
    by_cases h : Int.gcd g x = 1
    · refine ⟨.rt (.int 1), ?_, .inl ⟨rfl, by rw [h]; exact gcdF_one l⟩⟩
      unfold f_p_divisor_of_b1
      simp -implicitDefEqProofs [h]
    · obtain ⟨y, e, hy⟩ := div_loop π row l (Int.gcd g x) (some (.int x))
      refine ⟨y, ?_, hy⟩
      rw [← e]
      unfold f_p_divisor_of_b1
      have h' : ¬ ((Int.gcd g x : Nat) : Int) = 1 := by omega
      simp -implicitDefEqProofs [h']
theorem divisor_eq {d : D} {l : List Int} (hd : seqOf d = some (l.map D.int)) (π : Pot) : m_p_divisor_of [d] π = .ok (.int (gcdL l), π) := by
  obtain ⟨y, e, hy⟩ := div_loop π d l 0 none
  unfold m_p_divisor_of f_p_divisor_of
  rcases hy with ⟨rfl, h⟩ | ⟨o', rfl⟩
  · have h' : gcdL l = 1 := h
    simp -implicitDefEqProofs [hd, h'] at e ⊢
    simp -implicitDefEqProofs [e]
  · simp -implicitDefEqProofs [hd] at e ⊢
    simp -implicitDefEqProofs [e, gcdL]
theorem plain_eq {d : D} {l : List Int} (hd : d = iL l ∨ d = iT l) {b : Nat} (hb : Bd (2 ^ b) l) (h9 : b < 9000) (hl : l.length < 1000000) (π : Pot) : m_p_plain [d] π = .ok (iL (plainZ l), π) := by
  have hs : seqOf d = some (l.map D.int) := by rcases hd with rfl | rfl <;> rfl
  have hf : fList [d] = some (iL l) := by rcases hd with rfl | rfl <;> rfl
  have e := divisor_eq hs π
  have hg := gcdL_le hb
  unfold m_p_plain f_p_plain plainZ
  by_cases h : 1 < gcdL l
  · have h' : (1 : Int) < (gcdL l : Nat) := by omega
    have lc : lcGo (gN 2) tTrue f_p_plain_e1 [some d, some (.int (gcdL l)), none] (l.map D.int) π = .ok (l.map fun x => .int (x / (gcdL l : Nat)), π) :=
      lcGo_map (ρ1 := fun x => [some d, some (.int (gcdL l)), some (.int x)]) (fun x hx => rfl) fun x hx => by
        have := div_b (i := x) (j := (gcdL l : Nat)) (b := b) (by omega) (by simpa using hg) h9
        simp -implicitDefEqProofs [f_p_plain_e1_ap, this]
    have hl' : l.length < 16777216 := by omega
    simp -implicitDefEqProofs [e, h, h', hs, lc, sl_lt, hl', divL, Function.comp_def]
  · have h' : ¬ (1 : Int) < (gcdL l : Nat) := by omega
    simp -implicitDefEqProofs [e, h, h', hf]
/-- a place, or None -/
def plD : Option Nat → D
  | none => .non
  | some p => .int (p : Int)
theorem lead_loop (π : Pot) (row : D) : ∀ (l : List Int) (k : Nat) (o1 o2 : Option D),
    ∃ y, forGo (gT 2 (gsCons (gN 1) (gsCons (gN 2) gsNil))) f_p_lead_place_b1 (DL.numbered k (l.map D.int)) [some row, o1, o2] π = .ok (y, π) ∧
      (match leadZ l with | some p => y = .rt (.int ((k + p : Nat) : Int)) | none => ∃ a b, y = .nx [some row, a, b])
  | [], k, o1, o2 => ⟨_, rfl, _, _, rfl⟩
  | x :: l, k, o1, o2 => by
    simp only [List.map_cons, DL.numbered, forGo]
    by_cases h : x = 0
    · obtain ⟨y, e, hy⟩ := lead_loop π row l (k + 1) (some (.int k)) (some (.int x))
      refine ⟨y, ?_, ?_⟩
      · rw [← e]
        unfold f_p_lead_place_b1
        simp -implicitDefEqProofs [h]
      · have : leadZ (x :: l) = (leadZ l).map (· + 1) := by
          unfold leadZ; rw [List.findIdx?_cons]; simp [h]
        rw [this]
        cases hl : leadZ l with
        | none => rw [hl] at hy; exact hy
        | some p =>
          rw [hl] at hy
          simp only [Option.map_some]
          rw [hy]; congr 3; omega
    · refine ⟨.rt (.int k), ?_, ?_⟩
      · unfold f_p_lead_place_b1
        simp -implicitDefEqProofs [h]
      · have : leadZ (x :: l) = some 0 := by
          unfold leadZ; rw [List.findIdx?_cons]; simp [h]
        rw [this]; simp
theorem lead_eq {d : D} {l : List Int} (hd : seqOf d = some (l.map D.int)) (π : Pot) : m_p_lead_place [d] π = .ok (plD (leadZ l), π) := by
  obtain ⟨y, e, hy⟩ := lead_loop π d l 0 none none
  unfold m_p_lead_place f_p_lead_place
  cases hl : leadZ l with
  | some p =>
    rw [hl] at hy
    subst hy
    simp -implicitDefEqProofs [hd] at e ⊢
    simp -implicitDefEqProofs [e, plD]
  | none =>
    rw [hl] at hy
    obtain ⟨a, b, rfl⟩ := hy
    simp -implicitDefEqProofs [hd] at e ⊢
    simp -implicitDefEqProofs [e, plD]
theorem zip_iz (a b : List Int) : zipD (a.map D.int) (b.map D.int) = (a.zip b).map fun x => D.tup [.int x.1, .int x.2] := by
  induction a generalizing b with
  | nil => cases b <;> rfl
  | cons x a ih => cases b with
    | nil => rfl
    | cons y b => simp [zipD, ih]
@[simp] theorem iZipD_ap (a : Ea) (ρ : Rho) (π : Pot) : iZipD a ρ π = (a ρ π).bind fun x => match x.1 with
  | [d, e] => (ofO (seqOf d)).bind fun z => (ofO (seqOf e)).bind fun y => .ok (zipD z y, x.2)
  | _ => .stuck := rfl
theorem ix_vz {l : List Int} {p : Nat} (h : p < l.length) : opIx (iL l) (.int (p : Int)) = some (.int (vz l p)) :=
  opIx_iz (by omega) (by simp only [Int.toNat_natCast]; rw [List.getElem?_eq_getElem h, vz_get h])
theorem less_eq {h f : List Int} {p a q : Nat} (hl : h.length = f.length) (hp : p < h.length) (hf : vz f p ≠ 0) (ha : Bd (2 ^ a) h) (hq : Bd (2 ^ q) f) (h9 : q < 9000) (haq : a + q < 1000000) (hw : h.length < 1000000) (π : Pot) :
    m_p_less [iL h, iL f, .int (p : Int)] π = .ok (iL (lessZ h f p), π) := by
  have i1 := ix_vz hp
  have i2 := ix_vz (l := f) (p := p) (by omega)
  have hg : 0 < Int.gcd (vz f p) (vz h p) := Nat.pos_of_ne_zero (by simp [Int.gcd_eq_zero_iff, hf])
  obtain ⟨g, hgd⟩ : ∃ g, g = Int.gcd (vz f p) (vz h p) := ⟨_, rfl⟩
  have hgq : g ≤ 2 ^ q := by
    have h1 := Int.natAbs_dvd_natAbs.mpr (Int.gcd_dvd_left (a := vz f p) (b := vz h p))
    have h2 := Nat.le_of_dvd (Int.natAbs_pos.mpr hf) h1
    have h3 := hq.vz p
    simp at h2; omega
  have d1 : opFdivW (.int (vz f p)) (.int (g : Int)) = some (.int (vz f p / g)) := div_b (b := q) (by omega) (by simpa using hgq) h9
  have d2 : opFdivW (.int (vz h p)) (.int (g : Int)) = some (.int (vz h p / g)) := div_b (b := q) (by omega) (by simpa using hgq) h9
  have z := zip_iz h f
  have b1 : (vz f p / (g : Int)).natAbs ≤ 2 ^ q := Nat.le_trans (div_natAbs_le _ _) (hq.vz p)
  have b2 : (vz h p / (g : Int)).natAbs ≤ 2 ^ a := Nat.le_trans (div_natAbs_le _ _) (ha.vz p)
  have lc : lcGo (gT 2 (gsCons (gN 6) (gsCons (gN 7) gsNil))) tTrue f_p_less_e1 [some (iL h), some (iL f), some (.int (p : Int)), some (.int (g : Int)), some (.int (vz f p / g)), some (.int (vz h p / g)), none, none] ((h.zip f).map fun x => D.tup [.int x.1, .int x.2]) π =
      .ok ((h.zip f).map fun x => D.int (vz f p / g * x.1 - vz h p / g * x.2), π) :=
    lcGo_map (ρ1 := fun x => [some (iL h), some (iL f), some (.int (p : Int)), some (.int (g : Int)), some (.int (vz f p / g)), some (.int (vz h p / g)), some (.int x.1), some (.int x.2)]) (fun x hx => by simp) fun x hx => by
      have hx1 : x.1 ∈ h := (List.of_mem_zip hx).1
      have hx2 : x.2 ∈ f := (List.of_mem_zip hx).2
      have m1 := mul_b b1 (ha _ hx1) (by omega)
      have m2 := mul_b b2 (hq _ hx2) (by omega)
      simp -implicitDefEqProofs [f_p_less_e1_ap, m1, m2]
  have hz : ((h.zip f).map fun x => D.tup [.int x.1, .int x.2]).length < 16777216 := by rw [List.length_map, List.length_zip]; omega
  have e : ((h.zip f).map fun x => D.int (vz f p / g * x.1 - vz h p / g * x.2)) = (lessZ h f p).map D.int := by
    simp only [lessZ, cmbZ, ← hgd, ← List.zip_map', List.map_map]
    rw [List.map_zipWith, ← List.map_uncurry_zip_eq_zipWith]
    rfl
  rw [e] at lc
  unfold m_p_less f_p_less
  obtain ⟨A, hA⟩ : ∃ A, A = h.map D.int := ⟨_, rfl⟩
  obtain ⟨B, hB⟩ : ∃ B, B = f.map D.int := ⟨_, rfl⟩
  obtain ⟨C, hC⟩ : ∃ C, C = (h.zip f).map fun x => D.tup [.int x.1, .int x.2] := ⟨_, rfl⟩
  simp only [iL] at i1 i2 lc ⊢
  rw [← hA] at i1 lc z ⊢
  rw [← hB] at i2 lc z ⊢
  rw [← hC] at z lc hz
  simp -implicitDefEqProofs [i1, i2, ← hgd, d1, d2, z, hz, lc, sl_lt]
end LW
set_option maxHeartbeats 2000000
namespace LW
open PySem PySem.Spec PyProof.Rows L2 DL RK
abbrev pvD (q : Nat × List Int) : D := .tup [.int (q.1 : Int), iL q.2]
theorem clr_len {h : List Int} {q : Nat × List Int} (hl : h.length = q.2.length) : (clr1 h q).length = h.length := by
  unfold clr1
  split
  · simp [lessZ, cmbZ_length]; omega
  · rfl
theorem clear_loop {w q : Nat} (F R : D) (π : Pot) : ∀ (found : List (Nat × List Int)) (h : List Int) (a : Nat) (o3 o4 : Option D),
    Piv w (2 ^ q) found → h.length = w → Bd (2 ^ a) h → a + (q + 1) * found.length < 9000 → w < 1000000 →
    ∃ u3 u4, forGo (gT 2 (gsCons (gN 3) (gsCons (gN 4) gsNil))) f_p_cleared_b1 (found.map pvD) [some F, some R, some (iL h), o3, o4] π = .ok (.nx [some F, some R, some (iL (clrZ found h)), u3, u4], π) ∧
      (clrZ found h).length = w ∧ Bd (2 ^ (a + (q + 1) * found.length)) (clrZ found h)
  | [], h, a, o3, o4, hp, hl, hb, h9, hw => ⟨o3, o4, rfl, hl, by simpa [clrZ] using hb⟩
  | (p, f) :: found, h, a, o3, o4, hp, hl, hb, h9, hw => by
    obtain ⟨q1, q2, q3, q4⟩ := hp (p, f) (by simp)
    dsimp only at q1 q2 q3 q4
    simp only [List.length_cons, Nat.mul_succ] at h9
    have hq : Bd (2 ^ (a + (q + 1))) (clr1 h (p, f)) := by
      obtain ⟨_, _, _, _, _, _, hbb⟩ := clr1_spec (w := w) (Q := 2 ^ q) (q := (p, f)) (h := h) ⟨q2, q3, q4⟩ (one_le_two q) hl
      have := hbb _ hb
      rwa [show 2 * 2 ^ q * 2 ^ a = 2 ^ (a + (q + 1)) by rw [Nat.pow_add, Nat.pow_succ]; grind] at this
    obtain ⟨o3', o4', e, l2, b2⟩ := clear_loop F R π found (clr1 h (p, f)) (a + (q + 1)) (some (.int p)) (some (iL f)) (fun x hx => hp x (by simp [hx]))
      (by rw [clr_len (by dsimp only; omega)]; exact hl) hq (by omega) hw
    refine ⟨o3', o4', ?_, l2, ?_⟩
    · rw [show clrZ ((p, f) :: found) h = clrZ found (clr1 h (p, f)) from rfl, ← e]
      simp only [List.map_cons, forGo]
      have i1 := ix_vz (l := h) (p := p) (by omega)
      unfold f_p_cleared_b1 clr1
      by_cases hz : vz h p = 0
      · simp -implicitDefEqProofs [i1, hz]
      · have m := less_eq (h := h) (f := f) (p := p) (a := a) (q := q) (by omega) (by omega) q3 hb q4 (by omega) (by omega) (by omega) π
        simp -implicitDefEqProofs [i1, hz, m]
    · rw [show clrZ ((p, f) :: found) h = clrZ found (clr1 h (p, f)) from rfl]
      simp only [List.length_cons, Nat.mul_succ]
      rwa [show a + ((q + 1) * found.length + (q + 1)) = a + (q + 1) + (q + 1) * found.length by omega]
theorem cleared_eq {w q a : Nat} {found : List (Nat × List Int)} {r : List Int} (hp : Piv w (2 ^ q) found) (hl : r.length = w) (hb : Bd (2 ^ a) r) (h9 : a + (q + 1) * found.length < 9000) (hw : w < 1000000) (π : Pot) :
    m_p_cleared [.lst (found.map pvD), iL r] π = .ok (iL (plainZ (clrZ found r)), π) := by
  obtain ⟨o3, o4, e, hl2, hb2⟩ := clear_loop (.lst (found.map pvD)) (iL r) π found r a none none hp hl hb h9 hw
  have e2 := plain_eq (d := iL (clrZ found r)) (.inl rfl) hb2 h9 (by omega) π
  unfold m_p_cleared f_p_cleared
  simp -implicitDefEqProofs [e]
  simp -implicitDefEqProofs [e2]
@[simp] theorem eGoL_ap (r : Rm) (ks : List Ak) (m : Fd) (a : Ea) (ρ : Rho) (π : Pot) : eGoL r ks m a ρ π = (a ρ π).bind fun x => if lentOk ks x.1 = true then chk r (m x.1 x.2) else .stuck := rfl
theorem noLs_iz (l : List Int) : noLs (l.map D.int) = true := by
  induction l with
  | nil => rfl
  | cons x l ih => simp [noLs, noL, ih]
theorem ech_loop {w b n q : Nat} (hn : 1 ≤ n) (hq : (2 * n * 2 ^ b) ^ n ≤ 2 ^ q) (h9 : b + (q + 1) * (n - 1) < 9000) (hw : w < 1000000) (hn2 : n < 1000000) (R : D) (π : Pot) : ∀ (rs rows : List (List Int)) (found : List (Nat × List Int)) (pos : List D) (k : Nat) (o3 o4 o5 o6 : Option D),
    Inv w (2 ^ b) ((2 * n * 2 ^ b) ^ n) rows found → found.length + rs.length ≤ n → pos.length + rs.length ≤ n → (∀ r ∈ rows, Bd (2 ^ b) r) → (∀ r ∈ rs, r.length = w ∧ Bd (2 ^ b) r) →
    ∃ u3 u4 u5 u6, forGo (gT 2 (gsCons (gN 3) (gsCons (gN 4) gsNil))) f_p_echelon_b1 (DL.numbered k (rs.map iL)) [some R, some (.lst (found.map pvD)), some (.lst pos), o3, o4, o5, o6] π =
      .ok (.nx [some R, some (.lst ((rs.foldl stepZ found).map pvD)), some (.lst (pos ++ (posZ found k rs).map fun (i : Nat) => D.int (i : Int))), u3, u4, u5, u6], π) := by
  intro rs
  induction rs with
  | nil => intro rows found pos k o3 o4 o5 o6 _ _ _ _ _; exact ⟨o3, o4, o5, o6, by simp [posZ, DL.numbered, forGo]⟩
  | cons r rs ih =>
    intro rows found pos k o3 o4 o5 o6 hi hl hpl hb hr
    simp only [List.length_cons] at hl hpl
    have hpv : Piv w (2 ^ q) found := fun x hx => ⟨(hi.piv x hx).1, (hi.piv x hx).2.1, (hi.piv x hx).2.2.1, (hi.piv x hx).2.2.2.le hq⟩
    have hm : b + (q + 1) * found.length < 9000 := by
      have : (q + 1) * found.length ≤ (q + 1) * (n - 1) := Nat.mul_le_mul_left _ (by omega)
      omega
    have e1 := cleared_eq hpv (hr r (by simp)).1 (hr r (by simp)).2 hm hw π
    have e2 := lead_eq (d := iL (plainZ (clrZ found r))) (l := plainZ (clrZ found r)) rfl π
    have hstep := step_inv (one_le_two b) hn hi (by omega) hb (hr r (by simp)).1 (hr r (by simp)).2
    have hsl := stepZ_len found r
    simp only [List.map_cons, DL.numbered, forGo, List.foldl_cons]
    have hl1 : ((found.map pvD).length < 16777216) := by simp; omega
    have hl2 : pos.length < 16777216 := by omega
    have hnr : noR .o (iL (plainZ (clrZ found r))) = true := noLs_iz _
    cases hz : leadZ (plainZ (clrZ found r)) with
    | none =>
      have hs : stepZ found r = found := by unfold stepZ; rw [hz]
      rw [hz] at e2
      rw [hs] at hstep ⊢
      have hk : keepZ found r = false := by unfold keepZ; rw [hz]; rfl
      have hpz : posZ found k (r :: rs) = posZ found (k + 1) rs := by rw [posZ, hk, hs]; rfl
      rw [hpz]
      obtain ⟨o3, o4, o5, o6, e⟩ := ih (rows ++ [r]) found pos (k + 1) (some (.int k)) (some (iL r)) (some (iL (plainZ (clrZ found r)))) (some .non) hstep (by omega) (by omega) (by simp; grind) (fun x hx => hr x (by simp [hx]))
      refine ⟨o3, o4, o5, o6, ?_⟩
      rw [← e]
      obtain ⟨Z, hZ⟩ : ∃ Z, Z = iL (plainZ (clrZ found r)) := ⟨_, rfl⟩
      obtain ⟨F, hF⟩ : ∃ F, F = found.map pvD := ⟨_, rfl⟩
      rw [← hZ] at e1 e2 hnr ⊢
      rw [← hF] at e1 ⊢
      unfold f_p_echelon_b1
      simp -implicitDefEqProofs [e1, e2, plD, lentOk, chk, hnr]
    | some p =>
      have hs : stepZ found r = found ++ [(p, plainZ (clrZ found r))] := by unfold stepZ; rw [hz]
      rw [hz] at e2
      rw [hs] at hstep hsl ⊢
      have hk : keepZ found r = true := by unfold keepZ; rw [hz]; rfl
      have hpz : posZ found k (r :: rs) = k :: posZ (found ++ [(p, plainZ (clrZ found r))]) (k + 1) rs := by rw [posZ, hk, hs]; rfl
      rw [hpz, List.map_cons, show pos ++ D.int (k : Int) :: (posZ (found ++ [(p, plainZ (clrZ found r))]) (k + 1) rs).map (fun (i : Nat) => D.int (i : Int)) = (pos ++ [D.int (k : Int)]) ++ (posZ (found ++ [(p, plainZ (clrZ found r))]) (k + 1) rs).map (fun (i : Nat) => D.int (i : Int)) by simp]
      obtain ⟨o3, o4, o5, o6, e⟩ := ih (rows ++ [r]) (found ++ [(p, plainZ (clrZ found r))]) (pos ++ [.int k]) (k + 1) (some (.int k)) (some (iL r)) (some (iL (plainZ (clrZ found r)))) (some (.int p)) hstep (by omega) (by simp; omega) (by simp; grind) (fun x hx => hr x (by simp [hx]))
      refine ⟨o3, o4, o5, o6, ?_⟩
      rw [← e, List.map_append]
      obtain ⟨Z, hZ⟩ : ∃ Z, Z = iL (plainZ (clrZ found r)) := ⟨_, rfl⟩
      obtain ⟨F, hF⟩ : ∃ F, F = found.map pvD := ⟨_, rfl⟩
      have hpv : (List.map pvD [(p, plainZ (clrZ found r))]) = [.tup [.int p, Z]] := by simp [hZ]
      rw [hpv]
      rw [← hZ] at e1 e2 hnr ⊢
      rw [← hF] at e1 hl1 ⊢
      unfold f_p_echelon_b1
      simp -implicitDefEqProofs [e1, e2, plD, lentOk, chk, hnr, appD_ok, hl1, hl2, sl_ok]
theorem echelon_eq {w b n q : Nat} (hn : 1 ≤ n) (hq : (2 * n * 2 ^ b) ^ n ≤ 2 ^ q) (h9 : b + (q + 1) * (n - 1) < 9000) (hw : w < 1000000) (hn2 : n < 1000000) {d : D} {rs : List (List Int)} (hd : seqOf d = some (rs.map iL)) (hl : rs.length ≤ n) (hr : ∀ r ∈ rs, r.length = w ∧ Bd (2 ^ b) r) (π : Pot) :
    m_p_echelon [d] π = .ok (.tup [.lst ((echZ rs).map pvD), .lst ((posZ [] 0 rs).map fun (i : Nat) => D.int (i : Int))], π) := by
  obtain ⟨o3, o4, o5, o6, e⟩ := ech_loop hn hq h9 hw hn2 d π rs [] [] [] 0 none none none none (inv_nil _ _ _) (by simpa using hl) (by simpa using hl) (by simp) hr
  rw [List.nil_append] at e
  obtain ⟨P, hP⟩ : ∃ P, P = (posZ [] 0 rs).map fun (i : Nat) => D.int (i : Int) := ⟨_, rfl⟩
  rw [← hP] at e ⊢
  unfold m_p_echelon f_p_echelon echZ
  simp -implicitDefEqProofs [hd] at e ⊢
  simp -implicitDefEqProofs [e]
theorem rank_eq {w b n q : Nat} (hn : 1 ≤ n) (hq : (2 * n * 2 ^ b) ^ n ≤ 2 ^ q) (h9 : b + (q + 1) * (n - 1) < 9000) (hw : w < 1000000) (hn2 : n < 1000000) {d : D} {rs : List (List Int)} (hd : seqOf d = some (rs.map iL)) (hl : rs.length ≤ n) (hr : ∀ r ∈ rs, r.length = w ∧ Bd (2 ^ b) r) (π : Pot) :
    m_p_rank_of [d] π = .ok (.int (rk (rs.map vz)), π) := by
  have em := echelon_eq hn hq h9 hw hn2 hd hl hr π
  have e3 : (echZ rs).length = rk (rs.map vz) := echZ_rank rs fun r h => (hr r h).1
  unfold m_p_rank_of f_p_rank_of
  have hix : opIx (.tup [.lst ((echZ rs).map pvD), .lst ((posZ [] 0 rs).map fun (i : Nat) => D.int (i : Int))]) (.int 0) = some (.lst ((echZ rs).map pvD)) := rfl
  simp -implicitDefEqProofs [em, hix, e3]
end LW
set_option maxHeartbeats 2000000
set_option maxHeartbeats 4000000
namespace LW
open PySem PySem.Spec PyProof.Rows L2 DL RK
theorem sWhile_ap (ft : Et) (fb : Fs) (ρ : Rho) (π : Pot) : sWhile ft fb ρ π = whileGo ft fb 1000000000 ρ π := rfl
theorem signed_eq {d : D} {l : List Int} (hd : d = iL l ∨ d = iT l) {b : Nat} (hb : Bd (2 ^ b) l) (h9 : b < 9000) (hl : l.length < 1000000) (π : Pot) :
    m_p_signed [d] π = .ok (iL (toldL l), π) := by
  have e1 := plain_eq hd hb h9 hl π
  have e2 := lead_eq (d := iL (plainZ l)) (l := plainZ l) rfl π
  have hpl : (plainZ l).length < 16777216 := by rw [plainZ_length]; omega
  unfold m_p_signed f_p_signed toldL signZ
  cases hz : leadZ (plainZ l) with
  | none =>
    rw [hz] at e2
    simp -implicitDefEqProofs [e1, e2, plD]
  | some p =>
    rw [hz] at e2
    obtain ⟨p1, p2⟩ := leadZ_some hz
    have i1 := ix_vz p1
    have lc : lcGo (gN 3) tTrue f_p_signed_e1 [some d, some (iL (plainZ l)), some (.int p), none] ((plainZ l).map D.int) π = .ok ((plainZ l).map fun x => D.int (0 - x), π) :=
      lcGo_map (ρ1 := fun x => [some d, some (iL (plainZ l)), some (.int p), some (.int x)]) (fun x hx => rfl) fun x hx => by simp [f_p_signed_e1_ap]
    have hl2 : ((plainZ l).map D.int).length < 16777216 := by rw [List.length_map]; exact hpl
    obtain ⟨A, hA⟩ : ∃ A, A = (plainZ l).map D.int := ⟨_, rfl⟩
    simp only [iL] at e1 e2 i1 lc ⊢
    rw [← hA] at e1 e2 i1 lc hl2
    by_cases hp : 0 < vz (plainZ l) p
    · skip
      rw [if_pos hp, ← hA]
      simp -implicitDefEqProofs [e1, e2, plD, i1, hp]
    · have h3 : ((plainZ l).map fun x => D.int (0 - x)) = ((plainZ l).map (0 - ·)).map D.int := by rw [List.map_map]; rfl
      rw [if_neg hp, ← h3]
      obtain ⟨C, hC⟩ : ∃ C, C = (plainZ l).map fun x => D.int (0 - x) := ⟨_, rfl⟩
      rw [← hC] at lc ⊢
      simp -implicitDefEqProofs [e1, e2, plD, i1, hp, lc, hl2]
theorem told_of_eq {d : D} {l : List Int} (hd : d = iL l ∨ d = iT l) {b : Nat} (hb : Bd (2 ^ b) l) (h9 : b < 9000) (hl : l.length < 1000000) (π : Pot) :
    m_p_told_of [d] π = .ok (iT (toldL l), π) := by
  have e1 := signed_eq hd hb h9 hl π
  unfold m_p_told_of f_p_told_of
  simp -implicitDefEqProofs [e1]
abbrev pD (p : Pt) : D := iT (lp p)
abbrev lD (p : Pt) : D := iL (lp p)
def pyP (p : Pt) : PyData := .tuple ((lp p).map PyData.int)
theorem toPy_pt (p : Pt) : toPy (pD p) = some (pyP p) := by
  show (toPyL ((lp p).map D.int)).map _ = _
  rw [toPyL_iz]; rfl
theorem toPy_pts : ∀ ps : List Pt, toPyL (ps.map pD) = some (ps.map pyP)
  | [] => rfl
  | p :: ps => by
    show (match toPy (pD p), toPyL (ps.map pD) with | some p, some ps => some (p :: ps) | _, _ => none) = _
    rw [toPy_pt, toPy_pts ps]; rfl
theorem shaped_pt (p : Pt) : SeqAt.shaped (pyP p) = true := by rfl
theorem canAll_pts : ∀ ps : List Pt, PyData.canLayAll0 (ps.map pyP) = true
  | [] => rfl
  | p :: ps => by
    show (PyData.canLay0 (pyP p) && PyData.canLayAll0 (ps.map pyP)) = true
    rw [canAll_pts ps]; rfl
theorem depth_pts : ∀ ps : List Pt, PyData.depthAll (ps.map pyP) ≤ 1
  | [] => Nat.zero_le _
  | p :: ps => by
    show max (PyData.depth (pyP p)) (PyData.depthAll (ps.map pyP)) ≤ 1
    have : PyData.depth (pyP p) = 1 := by rfl
    have := depth_pts ps
    omega
theorem shaped_pts (ps : List Pt) : SeqAt.shaped (.list (ps.map pyP)) = true := by
  have := depth_pts ps
  show (PyData.canLayAll0 (ps.map pyP) && decide (PyData.depthAll (ps.map pyP) + 1 ≤ 64)) = true
  rw [canAll_pts, Bool.true_and]
  exact decide_eq_true (by omega)
theorem eqv_pt (p q : Pt) : PyData.eqv (pyP p) (pyP q) = decide (p = q) := by
  show PyData.eqvAll ((lp p).map PyData.int) ((lp q).map PyData.int) = _
  rw [eqv_ints]
  by_cases h : p = q
  · subst h; simp
  · simp [h]; exact fun e => h (lp_inj e)
theorem in_pts (p : Pt) (ps : List Pt) : inDT (pD p) (.lst (ps.map pD)) = some (decide (p ∈ ps)) := by
  have e1 := toPy_pt p
  have e2 : toPy (.lst (ps.map pD)) = some (.list (ps.map pyP)) := by
    show (toPyL (ps.map pD)).map _ = _
    rw [toPy_pts]; rfl
  unfold inDT
  rw [e1, e2]
  simp only [shaped_pt, shaped_pts, Bool.and_self, if_true]
  congr 1
  rw [Bool.eq_iff_iff]
  simp only [List.any_map, List.any_eq_true, Function.comp, eqv_pt, decide_eq_true_eq]
  exact ⟨fun ⟨x, hx, e⟩ => e ▸ hx, fun h => ⟨p, h, rfl⟩⟩
theorem rngN {j : Int} {n : Nat} (h : j = n) (hn : n ≤ 1000000) : rng [.int j] = some ((List.range n).map fun (i : Nat) => .int (i : Int)) := by
  rw [rng_1 (by omega) (by omega)]
  congr 3; omega
theorem bd3 {B : Nat} {p : Pt} : Bd B (lp p) ↔ p.1.natAbs ≤ B ∧ p.2.1.natAbs ≤ B ∧ p.2.2.natAbs ≤ B := by
  constructor
  · intro h; exact ⟨h _ (by simp [lp]), h _ (by simp [lp]), h _ (by simp [lp])⟩
  · rintro ⟨h1, h2, h3⟩ x hx
    simp [lp] at hx
    rcases hx with rfl | rfl | rfl <;> assumption
theorem safe_ok' {α : Type} (a : α) : safe (Res.ok a) = .ok a := rfl
end LW
set_option maxHeartbeats 4000000
namespace LW
open PySem PySem.Spec PyProof.Rows L2 DL RK
theorem any3 (d : D) (a b c : Bool) (hd : d = .lst [.bl a, .bl b, .bl c]) : fAnyA [d] = some (.bl (a || b || c)) := by
  subst hd
  have := fAny_bl [a, b, c] id
  simp only [List.map_cons, List.map_nil, id, List.any_cons, List.any_nil, Bool.or_false] at this
  rw [Bool.or_assoc, ← this]
  rfl
theorem is_point_eq {p : Pt} (hp : nz p) {d : D} (hd : d = pD p ∨ d = lD p) (π : Pot) : m_p_are_point [d] π = .ok (.bl true, π) := by
  obtain ⟨x, y, z⟩ := p
  have hs : seqOf d = some [.int x, .int y, .int z] := by rcases hd with rfl | rfl <;> rfl
  have hl : fLen [d] = some (.int 3) := by rcases hd with rfl | rfl <;> rfl
  have e1 : m_p_is_list [d] π = .ok (.bl true, π) := by
    unfold m_p_is_list f_p_is_list
    rcases hd with rfl | rfl <;> simp -implicitDefEqProofs
  have e2 : ∀ i : Int, m_p_is_integer [.int i] π = .ok (.bl true, π) := fun i => by
    unfold m_p_is_integer f_p_is_integer
    simp -implicitDefEqProofs
  have ea : fAll [.lst [.bl true, .bl true, .bl true]] = some (.bl true) := rfl
  have eb : fAnyA [.lst [.bl !decide (x = 0), .bl !decide (y = 0), .bl !decide (z = 0)]] = some (.bl true) := by
    rw [any3 _ _ _ _ rfl]
    rcases hp with h | h | h <;> dsimp only at h <;> simp [h]
  unfold m_p_are_point f_p_are_point f_p_are_point_e1 f_p_are_point_e2
  simp -implicitDefEqProofs [e1, hl, hs, lcGo, e2, safe_ok', ea, eb]
/-- a point, given in one way or the other -/
def Giv (d : D) (p : Pt) : Prop := d = pD p ∨ d = lD p
theorem pt_told_of {p : Pt} {b : Nat} (hb : Bd (2 ^ b) (lp p)) (h9 : b < 9000) {d : D} (hd : Giv d p) (π : Pot) : m_p_told_of [d] π = .ok (pD (told p), π) := by
  have := told_of_eq (d := d) (l := lp p) (hd.elim .inr .inl) hb h9 (by simp [lp]) π
  rw [this, pD, lp_told]
end LW
set_option maxHeartbeats 4000000
namespace LW
open PySem PySem.Spec PyProof.Rows L2 DL RK
def trD (m : Tr) : D := .tup [.int (m.1 : Int), .int (m.2.1 : Int), .int (m.2.2 : Int)]
theorem triples_all : ((List.range 10).all fun d => isR (m_p_triples_of [.int (d : Int)] (0, 0)) (.tup ((trs d).map trD))) = true := by decide +kernel
theorem triples_eq {d : Nat} (h : d ≤ 9) (π : Pot) : m_p_triples_of [.int (d : Int)] π = .ok (.tup ((trs d).map trD), π) :=
  pu_m_p_triples_of.r (List.all_eq_true.mp triples_all d (by simp; omega)) π
theorem pow_bd {x : Int} {b : Nat} (h : x.natAbs ≤ 2 ^ b) (n : Nat) : (x ^ n).natAbs ≤ 2 ^ (b * n) := by
  rw [Int.natAbs_pow, Nat.pow_mul]
  exact Nat.pow_le_pow_left h n
theorem mulP {x : Int} {b : Nat} (h : x.natAbs ≤ 2 ^ b) (hb : b ≤ 1000) (i j : Nat) (hi : i ≤ 20) (hj : j ≤ 20) : opMulA (.int (x ^ i)) (.int (x ^ j)) = some (.int (x ^ (i + j))) := by
  have h1 : b * i ≤ 1000 * 20 := Nat.mul_le_mul hb hi
  have h2 : b * j ≤ 1000 * 20 := Nat.mul_le_mul hb hj
  rw [mul_b (pow_bd h i) (pow_bd h j) (by omega), Int.pow_add]
def pwL (x : Int) (d : Nat) : List Int := (List.range (d + 1)).map fun i => x ^ i
theorem powers_eq {x : Int} {b : Nat} (h : x.natAbs ≤ 2 ^ b) (hb : b ≤ 1000) {d : Nat} (hd : d ≤ 9) (π : Pot) : m_p_powers_of [.int x, .int (d : Int)] π = .ok (iL (pwL x d), π) := by
  have m11 := mulP h hb 1 1 (by decide) (by decide)
  have m21 := mulP h hb 2 1 (by decide) (by decide)
  have m22 := mulP h hb 2 2 (by decide) (by decide)
  have m23 := mulP h hb 2 3 (by decide) (by decide)
  have m33 := mulP h hb 3 3 (by decide) (by decide)
  have m61 := mulP h hb 6 1 (by decide) (by decide)
  have m71 := mulP h hb 7 1 (by decide) (by decide)
  have m81 := mulP h hb 8 1 (by decide) (by decide)
  simp only [Int.reduceAdd, Nat.reduceAdd, Int.pow_one] at m11 m21 m22 m23 m33 m61 m71 m81
  have hd' : d = 0 ∨ d = 1 ∨ d = 2 ∨ d = 3 ∨ d = 4 ∨ d = 5 ∨ d = 6 ∨ d = 7 ∨ d = 8 ∨ d = 9 := by omega
  have r1 : rng [.int 1] = some [.int 0] := rfl
  have r2 : rng [.int 2] = some [.int 0, .int 1] := rfl
  have r3 : rng [.int 3] = some [.int 0, .int 1, .int 2] := rfl
  have l7 : ∀ a b c e f g h : D, opIx (.lst [a, b, c, e, f, g, h]) (.int (-1)) = some h := fun _ _ _ _ _ _ _ => rfl
  have l8 : ∀ a b c e f g h i : D, opIx (.lst [a, b, c, e, f, g, h, i]) (.int (-1)) = some i := fun _ _ _ _ _ _ _ _ => rfl
  have l9 : ∀ a b c e f g h i j : D, opIx (.lst [a, b, c, e, f, g, h, i, j]) (.int (-1)) = some j := fun _ _ _ _ _ _ _ _ _ => rfl
  have c1 : ∀ a b c e f g h : D, fCut (.lst [a, b, c, e, f, g, h]) none (some 1) = some (.lst [a]) := fun _ _ _ _ _ _ _ => rfl
  have c2 : ∀ a b c e f g h : D, fCut (.lst [a, b, c, e, f, g, h]) none (some 2) = some (.lst [a, b]) := fun _ _ _ _ _ _ _ => rfl
  have c3 : ∀ a b c e f g h : D, fCut (.lst [a, b, c, e, f, g, h]) none (some 3) = some (.lst [a, b, c]) := fun _ _ _ _ _ _ _ => rfl
  have c4 : ∀ a b c e f g h : D, fCut (.lst [a, b, c, e, f, g, h]) none (some 4) = some (.lst [a, b, c, e]) := fun _ _ _ _ _ _ _ => rfl
  have c5 : ∀ a b c e f g h : D, fCut (.lst [a, b, c, e, f, g, h]) none (some 5) = some (.lst [a, b, c, e, f]) := fun _ _ _ _ _ _ _ => rfl
  have c6 : ∀ a b c e f g h : D, fCut (.lst [a, b, c, e, f, g, h]) none (some 6) = some (.lst [a, b, c, e, f, g]) := fun _ _ _ _ _ _ _ => rfl
  have c7 : ∀ a b c e f g h : D, fCut (.lst [a, b, c, e, f, g, h]) none (some 7) = some (.lst [a, b, c, e, f, g, h]) := fun _ _ _ _ _ _ _ => rfl
  unfold m_p_powers_of f_p_powers_of f_p_powers_of_b1
  rcases hd' with rfl | rfl | rfl | rfl | rfl | rfl | rfl | rfl | rfl | rfl
  all_goals
    simp -implicitDefEqProofs [m11, m21, m22, m23, m33, m61, m71, m81, r1, r2, r3, l7, l8, l9, c1, c2, c3, c4, c5, c6, c7, forGo, appD_ok, pwL, List.range_succ, Int.pow_one]
theorem ixP {l : List Int} {i : Nat} {v : Int} (h : l[i]? = some v) : opIx (iL l) (.int (i : Int)) = some (.int v) := opIx_iz (by omega) (by simpa using h)
theorem pw_get {x : Int} {d i : Nat} (h : i ≤ d) : (pwL x d)[i]? = some (x ^ i) := by
  unfold pwL
  rw [List.getElem?_map, List.getElem?_range (by omega)]; rfl
theorem trs_len_le {d : Nat} (h : d ≤ 9) : (trs d).length ≤ 55 := by
  have := trs_length d
  have h2 : (d + 1) * (d + 2) ≤ 10 * 11 := Nat.mul_le_mul (by omega) (by omega)
  omega
theorem letters_eq {p : Pt} {b : Nat} (hb : Bd (2 ^ b) (lp p)) (hb9 : b ≤ 1000) {d : Nat} (hd : d ≤ 9) {e : D} (he : e = pD p) (π : Pot) : m_p_letters_at [e, .int (d : Int)] π = .ok (iL (cnd d p), π) := by
  subst he
  obtain ⟨x, y, z⟩ := p
  rw [bd3] at hb
  obtain ⟨hx, hy, hz⟩ := hb
  dsimp only at hx hy hz
  have e1 := powers_eq hx hb9 hd π
  have e2 := powers_eq hy hb9 hd π
  have e3 := powers_eq hz hb9 hd π
  have et := triples_eq hd π
  have lc : lcGo (gT 3 (gsCons (gN 6) (gsCons (gN 7) (gsCons (gN 8) gsNil)))) tTrue f_p_letters_at_e2
      [some (pD (x, y, z)), some (.int (d : Int)), some (iL (pwL x d)), some (iL (pwL y d)), some (iL (pwL z d)), none, none, none, none] ((trs d).map trD) π = .ok ((trs d).map fun m => D.int (mono m (x, y, z)), π) :=
    lcGo_map (ρ1 := fun m => [some (pD (x, y, z)), some (.int (d : Int)), some (iL (pwL x d)), some (iL (pwL y d)), some (iL (pwL z d)), none, some (.int (m.1 : Int)), some (.int (m.2.1 : Int)), some (.int (m.2.2 : Int))]) (fun m hm => by
      simp [trD]) fun m hm => by
      rw [mem_trs] at hm
      have i1 := ixP (pw_get (x := x) (d := d) (i := m.1) (by omega))
      have i2 := ixP (pw_get (x := y) (d := d) (i := m.2.1) (by omega))
      have i3 := ixP (pw_get (x := z) (d := d) (i := m.2.2) (by omega))
      have m1 := mul_b (pow_bd hx m.1) (pow_bd hy m.2.1) (by
        have h1 : b * m.1 ≤ 1000 * 9 := Nat.mul_le_mul hb9 (by omega)
        have h2 : b * m.2.1 ≤ 1000 * 9 := Nat.mul_le_mul hb9 (by omega)
        omega)
      have m12 : (x ^ m.1 * y ^ m.2.1).natAbs ≤ 2 ^ (b * m.1 + b * m.2.1) := by
        rw [Nat.pow_add]; exact natAbs_mul_le (pow_bd hx m.1) (pow_bd hy m.2.1)
      have m2 := mul_b m12 (pow_bd hz m.2.2) (by
        have h1 : b * m.1 ≤ 1000 * 9 := Nat.mul_le_mul hb9 (by omega)
        have h2 : b * m.2.1 ≤ 1000 * 9 := Nat.mul_le_mul hb9 (by omega)
        have h3 : b * m.2.2 ≤ 1000 * 9 := Nat.mul_le_mul hb9 (by omega)
        omega)
      obtain ⟨A, hA⟩ : ∃ A, A = iL (pwL x d) := ⟨_, rfl⟩
      obtain ⟨B, hB⟩ : ∃ A, A = iL (pwL y d) := ⟨_, rfl⟩
      obtain ⟨C, hC⟩ : ∃ A, A = iL (pwL z d) := ⟨_, rfl⟩
      rw [← hA] at i1 ⊢
      rw [← hB] at i2 ⊢
      rw [← hC] at i3 ⊢
      unfold f_p_letters_at_e2
      simp -implicitDefEqProofs [i1, i2, i3, m1, m2, mono]
  have hl : ((trs d).map trD).length < 16777216 := by
    have := trs_len_le hd
    simp; omega
  have hr : ((trs d).map fun m => D.int (mono m (x, y, z))) = (cnd d (x, y, z)).map D.int := by unfold cnd; rw [List.map_map]; rfl
  rw [hr] at lc
  obtain ⟨T, hT⟩ : ∃ A, A = (trs d).map trD := ⟨_, rfl⟩
  rw [← hT] at et lc hl
  obtain ⟨A, hA⟩ : ∃ A, A = iL (pwL x d) := ⟨_, rfl⟩
  obtain ⟨B, hB⟩ : ∃ A, A = iL (pwL y d) := ⟨_, rfl⟩
  obtain ⟨C, hC⟩ : ∃ A, A = iL (pwL z d) := ⟨_, rfl⟩
  rw [← hA] at e1 lc
  rw [← hB] at e2 lc
  rw [← hC] at e3 lc
  have pd : pD (x, y, z) = .tup [.int x, .int y, .int z] := rfl
  rw [pd] at lc ⊢
  obtain ⟨R, hR⟩ : ∃ A, A = (cnd d (x, y, z)).map D.int := ⟨_, rfl⟩
  simp only [iL]
  rw [← hR] at lc ⊢
  unfold m_p_letters_at f_p_letters_at f_p_letters_at_e1
  simp -implicitDefEqProofs [lcGo, e1, e2, e3, et, lc, hl, safe_ok', gT]
end LW
set_option maxHeartbeats 4000000
namespace LW
open PySem PySem.Spec PyProof.Rows L2 DL RK
theorem mono_bd {p : Pt} {b : Nat} (hb : Bd (2 ^ b) (lp p)) {d : Nat} {m : Tr} (h : m ∈ trs d) : (mono m p).natAbs ≤ 2 ^ (b * d) := by
  rw [bd3] at hb
  rw [mem_trs] at h
  have e : b * d = b * m.1 + b * m.2.1 + b * m.2.2 := by rw [← h, Nat.mul_add, Nat.mul_add]
  rw [e, Nat.pow_add, Nat.pow_add]
  exact natAbs_mul_le (natAbs_mul_le (pow_bd hb.1 _) (pow_bd hb.2.1 _)) (pow_bd hb.2.2 _)
theorem cnd_bd {p : Pt} {b : Nat} (hb : Bd (2 ^ b) (lp p)) (d : Nat) : Bd (2 ^ (b * d)) (cnd d p) := fun x hx => by
  obtain ⟨m, hm, rfl⟩ := List.mem_map.mp hx
  exact mono_bd hb hm
theorem rows_eq {ps : List Pt} {e : D} (he : seqOf e = some (ps.map pD)) (hl : ps.length < 1000000) {b : Nat} (hb : ∀ p ∈ ps, Bd (2 ^ b) (lp p)) (hb9 : b ≤ 1000) {d : Nat} (hd : d ≤ 9) (π : Pot) :
    m_p_condition_rows [e, .int (d : Int)] π = .ok (.lst ((ps.map fun p => cnd d p).map iL), π) := by
  have lc : lcGo (gN 2) tTrue f_p_condition_rows_e1 [some e, some (.int (d : Int)), none] (ps.map pD) π = .ok (ps.map fun p => iL (cnd d p), π) :=
    lcGo_map (ρ1 := fun p => [some e, some (.int (d : Int)), some (pD p)]) (fun x hx => rfl) fun p hp => by
      have e1 := letters_eq (hb p hp) hb9 hd rfl π
      obtain ⟨A, hA⟩ : ∃ A, A = pD p := ⟨_, rfl⟩
      rw [← hA] at e1 ⊢
      unfold f_p_condition_rows_e1
      simp -implicitDefEqProofs [e1]
  have hr : (ps.map fun p => iL (cnd d p)) = (ps.map fun p => cnd d p).map iL := by rw [List.map_map]; rfl
  rw [hr] at lc
  have hl2 : (ps.map pD).length < 16777216 := by simp; omega
  obtain ⟨A, hA⟩ : ∃ A, A = ps.map pD := ⟨_, rfl⟩
  obtain ⟨R, hR⟩ : ∃ A, A = (ps.map fun p => cnd d p).map iL := ⟨_, rfl⟩
  rw [← hA] at he lc hl2
  rw [← hR] at lc ⊢
  unfold m_p_condition_rows f_p_condition_rows
  simp -implicitDefEqProofs [he, lc, hl2]
theorem two_pow_le {n b q : Nat} (h : n * (5 + b) ≤ q) (h2 : 2 * n ≤ 2 ^ 5) (hn : 1 ≤ n) : (2 * n * 2 ^ b) ^ n ≤ 2 ^ q := by
  have h1 : 2 * n * 2 ^ b ≤ 2 ^ (5 + b) := by rw [Nat.pow_add]; exact Nat.mul_le_mul_right _ h2
  calc (2 * n * 2 ^ b) ^ n ≤ (2 ^ (5 + b)) ^ n := Nat.pow_le_pow_left h1 n
    _ = 2 ^ ((5 + b) * n) := by rw [Nat.pow_mul]
    _ ≤ 2 ^ q := Nat.pow_le_pow_right (by decide) (by rw [Nat.mul_comm]; exact h)
/-- few points, small ones -/
structure Few (ps : List Pt) : Prop where
  le : ps.length ≤ 12
  bd : ∀ p ∈ ps, Bd (2 ^ 6) (lp p)
theorem rank_at_eq {ps : List Pt} (F : Few ps) {e : D} (he : seqOf e = some (ps.map pD)) {d : Nat} (hd : d ≤ 9) (π : Pot) :
    m_p_rank_at [e, .int (d : Int)] π = .ok (.int (hh d ps), π) := by
  have e1 := rows_eq he (by have := F.le; omega) F.bd (by decide) hd π
  have e2 := rank_eq (w := (trs d).length) (b := 6 * d) (n := 12) (q := 708) (d := .lst ((ps.map fun p => cnd d p).map iL)) (rs := ps.map fun p => cnd d p) (by decide)
    (Nat.le_trans (two_pow_le (n := 12) (b := 6 * d) (q := 708) (by omega) (by decide) (by decide)) (Nat.le_refl _)) (by omega) (by have := trs_len_le hd; omega) (by decide) rfl (by simpa using F.le) (fun r hr => by
      obtain ⟨p, hp, rfl⟩ := List.mem_map.mp hr
      exact ⟨cnd_length d p, cnd_bd (F.bd p hp) d⟩) π
  have e3 : rk ((ps.map fun p => cnd d p).map vz) = hh d ps := by unfold hh; rw [List.map_map]; rfl
  rw [e3] at e2
  obtain ⟨R, hR⟩ : ∃ A, A = (ps.map fun p => cnd d p).map iL := ⟨_, rfl⟩
  rw [← hR] at e1 e2
  unfold m_p_rank_at f_p_rank_at
  simp -implicitDefEqProofs [e1, e2]
abbrev spD (ps : List Pt) : D := .ins "Spots" ["own_points"] [.tup (ps.map pD)]
theorem own_eq (ps : List Pt) : fldD "Spots" "own_points" (spD ps) = some (.tup (ps.map pD)) := by rfl
inductive Givs : List D → List Pt → Prop
  | nil : Givs [] []
  | cons {d p ds ps} : Giv d p → Givs ds ps → Givs (d :: ds) (p :: ps)
theorem Givs.length : ∀ {ds ps}, Givs ds ps → ds.length = ps.length
  | _, _, .nil => rfl
  | _, _, .cons _ h => congrArg Nat.succ h.length
theorem givs_map (ps : List Pt) : Givs (ps.map pD) ps := by
  induction ps with
  | nil => exact .nil
  | cons p ps ih => exact .cons (.inl rfl) ih
theorem spots_loop {b : Nat} (h9 : b < 9000) (A : Option D) (π : Pot) : ∀ (ds : List D) (ps acc : List Pt) (k : Nat) (o2 o3 : Option D), Givs ds ps → (∀ p ∈ ps, nz p ∧ Bd (2 ^ b) (lp p)) → (acc ++ ps.map told).Nodup → acc.length + ps.length < 1000000 →
    ∃ p2 p3, forGo (gT 2 (gsCons (gN 2) (gsCons (gN 3) gsNil))) f_p_told_points_b1 (DL.numbered k ds) [A, some (.lst (acc.map pD)), o2, o3] π = .ok (.nx [A, some (.lst ((acc ++ ps.map told).map pD)), p2, p3], π)
  | [], _, acc, k, o2, o3, .nil, _, _, _ => ⟨o2, o3, by simp [DL.numbered, forGo]⟩
  | d :: ds, _, acc, k, o2, o3, .cons (p := p) (ps := ps) hd g, h, hn, hl => by
    have ht : told p ∉ acc := fun hm => by
      rw [List.nodup_append] at hn
      exact hn.2.2 _ hm _ (by simp) rfl
    have hn' : ((acc ++ [told p]) ++ ps.map told).Nodup := by simpa using hn
    obtain ⟨p2, p3, e⟩ := spots_loop h9 A π ds ps (acc ++ [told p]) (k + 1) (some (.int (k : Int))) (some d) g (fun x hx => h x (by simp [hx])) hn' (by simp at hl ⊢; omega)
    refine ⟨p2, p3, ?_⟩
    have e1 := is_point_eq (h p (by simp)).1 hd π
    have e2 := pt_told_of (h p (by simp)).2 h9 hd π
    have e3 := in_pts (told p) acc
    have hla : (acc.map pD).length < 16777216 := by simp at hl ⊢; omega
    rw [show (acc ++ (p :: ps).map told) = (acc ++ [told p]) ++ ps.map told by simp, ← e, List.map_append]
    have hs : [told p].map pD = [pD (told p)] := rfl
    rw [hs]
    simp only [DL.numbered, forGo]
    obtain ⟨X, hX⟩ : ∃ A, A = acc.map pD := ⟨_, rfl⟩
    obtain ⟨Y, hY⟩ : ∃ A, A = pD (told p) := ⟨_, rfl⟩
    rw [← hX] at e3 hla ⊢
    rw [← hY] at e2 e3 ⊢
    unfold f_p_told_points_b1
    simp -implicitDefEqProofs [e1, e2, opInA, e3, ht, appD_ok, hla]
theorem spots_eq {ds : List D} {ps : List Pt} {b : Nat} (h9 : b < 9000) (hg : Givs ds ps) (h : ∀ p ∈ ps, nz p ∧ Bd (2 ^ b) (lp p)) (hn : (ps.map told).Nodup) (h1 : 1 ≤ ps.length) (h24 : ps.length ≤ 24) {e : D} (he : e = .lst ds ∨ e = .tup ds) (π : Pot) :
    m_i_Spots [e] π = .ok (spD (ps.map told), π) := by
  have hs : seqOf e = some ds := by rcases he with rfl | rfl <;> rfl
  have hl : fLen [e] = some (.int (ps.length : Int)) := by rw [← hg.length]; rcases he with rfl | rfl <;> rfl
  have hi : ∀ cs, fIsC "Told" cs e = some (.bl false) := by intro cs; rcases he with rfl | rfl <;> rfl
  have e1 : m_p_is_list [e] π = .ok (.bl true, π) := by
    unfold m_p_is_list f_p_is_list
    rcases he with rfl | rfl <;> simp -implicitDefEqProofs
  obtain ⟨p2, p3, e2⟩ := spots_loop h9 (some e) π ds ps [] 0 none none hg h (by simpa using hn) (by simp; omega)
  have g1 : (1 : Int) ≤ ps.length := by omega
  have g2 : (ps.length : Int) ≤ 24 := by omega
  have e3 : m_p_told_points [e] π = .ok (.tup ((ps.map told).map pD), π) := by
    simp only [List.map_nil, List.nil_append] at e2
    obtain ⟨R, hR⟩ : ∃ A, A = (ps.map told).map pD := ⟨_, rfl⟩
    rw [← hR] at e2 ⊢
    unfold m_p_told_points f_p_told_points
    simp -implicitDefEqProofs [hi, e1, hl, g1, g2, hs, e2]
  obtain ⟨R, hR⟩ : ∃ A, A = (ps.map told).map pD := ⟨_, rfl⟩
  rw [spD, ← hR]
  rw [← hR] at e3
  unfold m_i_Spots DL.runI f_i_Spots
  simp -implicitDefEqProofs [iFld, iCk, iNil, e3, putN]
end LW
set_option maxHeartbeats 4000000
namespace LW
open PySem PySem.Spec PyProof.Rows L2 DL RK
/-- the row of points: what each degree adds, until all are there -/
structure RowIs (ps : List Pt) (ns : List Nat) : Prop where
  ne : ns ≠ []
  le : ns.length ≤ 9
  at_ : ∀ d, d < ns.length → hh d ps = (ns.take (d + 1)).sum
  all : ns.sum = ps.length
  last : ∀ d, d + 1 < ns.length → (ns.take (d + 1)).sum ≠ ps.length
def zn (ns : List Nat) : List Int := ns.map fun (n : Nat) => (n : Int)
theorem opEq_ii (i j : Int) : opEq (.int i) (.int j) = some (.bl (decide (i = j))) := rfl
theorem rb_loop {ps : List Pt} (F : Few ps) {ns : List Nat} (R : RowIs ps ns) {e : D} (he : seqOf e = some (ps.map pD)) (hl : fLen [e] = some (.int (ps.length : Int))) (π : Pot) :
    ∀ (k d : Nat) (o3 o4 : Option D), d + k = 9 → d < ns.length →
      forGo (gN 3) f_p_row_by_b1 ((List.range' d k).map fun (i : Nat) => .int (i : Int)) [some e, some (iL (zn (ns.take d))), some (.int ((ns.take d).sum : Nat)), o3, o4] π = .ok (.rt (iL (zn ns)), π)
  | 0, d, _, _, h, hd => by have := R.le; omega
  | k + 1, d, o3, o4, h, hd => by
    have e1 := rank_at_eq F he (d := d) (by omega) π
    rw [R.at_ d hd] at e1
    have ht : ns.take (d + 1) = ns.take d ++ [ns[d]] := List.take_succ_eq_append_getElem hd
    have hs : (ns.take (d + 1)).sum = (ns.take d).sum + ns[d] := by rw [ht, List.sum_append, List.sum_singleton]
    have hz : zn (ns.take (d + 1)) = zn (ns.take d) ++ [(((ns.take (d + 1)).sum : Nat) : Int) - ((ns.take d).sum : Nat)] := by
      rw [hs, ht, zn, zn, List.map_append, List.map_singleton]
      congr 2; omega
    have hlen : (zn (ns.take d)).length < 16777216 := by simp [zn]; have := R.le; omega
    have hlen' : ((zn (ns.take d)).map D.int).length < 16777216 := by simpa using hlen
    by_cases hx : d + 1 < ns.length
    · have ih := rb_loop F R he hl π k (d + 1) (some (.int (d : Int))) (some (.int ((ns.take (d + 1)).sum : Nat))) (by omega) hx
      have hne := R.last d hx
      have hne' : ¬ ((((ns.take (d + 1)).sum : Nat) : Int) = (ps.length : Int)) := by omega
      rw [List.range'_succ, List.map_cons, forGo]
      rw [hz] at ih
      rw [iL, List.map_append] at ih
      obtain ⟨A, hA⟩ : ∃ A, A = (((ns.take (d + 1)).sum : Nat) : Int) := ⟨_, rfl⟩
      obtain ⟨B, hB⟩ : ∃ A, A = (((ns.take d).sum : Nat) : Int) := ⟨_, rfl⟩
      obtain ⟨L, hL⟩ : ∃ A, A = (zn (ns.take d)).map D.int := ⟨_, rfl⟩
      rw [iL]
      rw [← hL] at hlen' ih ⊢
      rw [← hA, ← hB] at ih
      rw [← hA] at hne' e1
      rw [← hB]
      have e1' : m_p_rank_at [e, .int (d : Int)] π = .ok (.int A, π) := e1
      simp -implicitDefEqProofs [-opEq_int, f_p_row_by_b1_ap, e1', appD_ok, hlen', hl, hne', opEq_ii]
      simpa using ih
    · have hd1 : d + 1 = ns.length := by omega
      have ha : ns.take (d + 1) = ns := by rw [hd1]; exact List.take_length
      have hq : (((ns.take (d + 1)).sum : Nat) : Int) = (ps.length : Int) := by rw [ha, R.all]
      rw [List.range'_succ, List.map_cons, forGo]
      rw [show zn ns = zn (ns.take (d + 1)) by rw [ha], hz, iL, iL, List.map_append]
      obtain ⟨A, hA⟩ : ∃ A, A = (((ns.take (d + 1)).sum : Nat) : Int) := ⟨_, rfl⟩
      obtain ⟨B, hB⟩ : ∃ A, A = (((ns.take d).sum : Nat) : Int) := ⟨_, rfl⟩
      obtain ⟨L, hL⟩ : ∃ A, A = (zn (ns.take d)).map D.int := ⟨_, rfl⟩
      rw [← hL] at hlen' ⊢
      rw [← hA, ← hB]
      rw [← hA] at hq e1
      have e1' : m_p_rank_at [e, .int (d : Int)] π = .ok (.int A, π) := e1
      simp -implicitDefEqProofs [-opEq_int, f_p_row_by_b1_ap, e1', appD_ok, hlen', hl, hq, opEq_ii]
theorem row_by_eq {ps : List Pt} (F : Few ps) {ns : List Nat} (R : RowIs ps ns) {e : D} (he : seqOf e = some (ps.map pD)) (hl : fLen [e] = some (.int (ps.length : Int))) (π : Pot) : m_p_row_by [e] π = .ok (iL (zn ns), π) := by
  have h0 : 0 < ns.length := List.length_pos_iff.mpr R.ne
  have ih := rb_loop F R he hl π 9 0 none none (by omega) h0
  have hr : rng [.int 9] = some ((List.range' 0 9).map fun (i : Nat) => .int (i : Int)) := by
    rw [← List.range_eq_range']; exact rngN (n := 9) rfl (by decide)
  simp only [List.take_zero, List.sum_nil] at ih
  have ih' : forGo (gN 3) f_p_row_by_b1 ((List.range' 0 9).map fun (i : Nat) => .int (i : Int)) [some e, some (.lst []), some (.int 0), none, none] π = .ok (.rt (iL (zn ns)), π) := ih
  obtain ⟨L, hL⟩ : ∃ A, A = (List.range' 0 9).map fun (i : Nat) => D.int (i : Int) := ⟨_, rfl⟩
  rw [← hL] at hr ih'
  obtain ⟨Z, hZ⟩ : ∃ A, A = iL (zn ns) := ⟨_, rfl⟩
  rw [← hZ] at ih' ⊢
  unfold m_p_row_by f_p_row_by
  simp -implicitDefEqProofs [hr, ih']
theorem want_spots_eq (ps : List Pt) (π : Pot) : m_p_want_spots [spD ps] π = .ok (.non, π) := by
  unfold m_p_want_spots f_p_want_spots
  simp -implicitDefEqProofs [fIsC]
theorem len_tup (xs : List D) : fLen [.tup xs] = some (.int (xs.length : Int)) := rfl
theorem len_lst' (xs : List D) : fLen [.lst xs] = some (.int (xs.length : Int)) := rfl
theorem row_eq {ps : List Pt} (F : Few ps) {ns : List Nat} (R : RowIs ps ns) (π : Pot) : m_p_row [spD ps] π = .ok (iL (zn ns), π) := by
  have e1 := want_spots_eq ps π
  have e2 := row_by_eq F R (e := .tup (ps.map pD)) rfl (by rw [len_tup, List.length_map]) π
  have e3 := own_eq ps
  obtain ⟨S, hS⟩ : ∃ S, S = spD ps := ⟨_, rfl⟩
  obtain ⟨T, hT⟩ : ∃ S, S = D.tup (ps.map pD) := ⟨_, rfl⟩
  obtain ⟨Z, hZ⟩ : ∃ A, A = iL (zn ns) := ⟨_, rfl⟩
  rw [← hT] at e2 e3
  rw [← hZ] at e2 ⊢
  rw [← hS] at e1 e3 ⊢
  unfold m_p_row f_p_row
  simp -implicitDefEqProofs [e1, e2, e3]
theorem end_eq {ps : List Pt} (F : Few ps) {ns : List Nat} (R : RowIs ps ns) (π : Pot) : m_p_end [spD ps] π = .ok (.int ((ns.length : Int) - 1), π) := by
  have e1 := want_spots_eq ps π
  have e2 := row_by_eq F R (e := .tup (ps.map pD)) rfl (by rw [len_tup, List.length_map]) π
  have e3 := own_eq ps
  have e4 : fLen [iL (zn ns)] = some (.int (ns.length : Int)) := by rw [len_lst']; simp [zn]
  obtain ⟨S, hS⟩ : ∃ S, S = spD ps := ⟨_, rfl⟩
  obtain ⟨T, hT⟩ : ∃ S, S = D.tup (ps.map pD) := ⟨_, rfl⟩
  obtain ⟨Z, hZ⟩ : ∃ A, A = iL (zn ns) := ⟨_, rfl⟩
  rw [← hT] at e2 e3
  rw [← hZ] at e2 e4
  rw [← hS] at e1 e3 ⊢
  unfold m_p_end f_p_end
  simp -implicitDefEqProofs [e1, e2, e3, e4]
theorem many_eq {ps : List Pt} (F : Few ps) {e : D} (he : seqOf e = some (ps.map pD)) {d : Nat} (hd : d ≤ 9) (π : Pot) : m_p_many_through [e, .int (d : Int)] π = .ok (.int ((trs d).length - hh d ps), π) := by
  have e2 := rank_at_eq F he hd π
  have e4 := triples_eq hd π
  have e6 : ((trs d).map trD).length = (trs d).length := List.length_map _
  obtain ⟨R, hR⟩ : ∃ S, S = (trs d).map trD := ⟨_, rfl⟩
  rw [← hR] at e4 e6
  unfold m_p_many_through f_p_many_through
  simp -implicitDefEqProofs [e4, e2, e6]
/-- the top: the least degree of a form through the points -/
theorem top_loop {ps : List Pt} (F : Few ps) {e : D} (he : seqOf e = some (ps.map pD)) {t : Nat} (ht : t ≤ 9) (h1 : hh t ps < (trs t).length) (h2 : ∀ d, d < t → hh d ps = (trs d).length) (π : Pot) :
    ∀ (k d f : Nat), d + k = t → k + 1 ≤ f → whileGo (tBl (eBin opEq (eGo m_p_many_through (aCons (eVar 0) (aCons (eVar 1) aNil))) (eC (.int 0)))) f_p_top_of_b1 f [some e, some (.int (d : Int))] π = .ok (.nx [some e, some (.int (t : Int))], π)
  | 0, d, f, h, hf => by
    obtain ⟨f, rfl⟩ : ∃ g, f = g + 1 := ⟨f - 1, by omega⟩
    have e1 := many_eq F he (d := d) (by omega) π
    have : ¬ (((trs d).length : Int) - (hh d ps : Int) = 0) := by
      have : d = t := by omega
      subst this; omega
    obtain ⟨A, hA⟩ : ∃ A : Int, A = ((trs d).length : Int) - (hh d ps : Int) := ⟨_, rfl⟩
    rw [← hA] at e1 this
    rw [whileGo]
    simp -implicitDefEqProofs [-opEq_int, e1, this, opEq_ii]
    omega
  | k + 1, d, f, h, hf => by
    obtain ⟨f, rfl⟩ : ∃ g, f = g + 1 := ⟨f - 1, by omega⟩
    have e1 := many_eq F he (d := d) (by omega) π
    have hz : ((trs d).length : Int) - (hh d ps : Int) = 0 := by rw [h2 d (by omega)]; omega
    rw [hz] at e1
    have ih := top_loop F he ht h1 h2 π k (d + 1) f (by omega) (by omega)
    rw [whileGo]
    unfold f_p_top_of_b1 at ih ⊢
    simp -implicitDefEqProofs [-opEq_int, e1, opEq_ii]
    simpa using ih
theorem top_eq {ps : List Pt} (F : Few ps) {t : Nat} (ht : t ≤ 9) (h1 : hh t ps < (trs t).length) (h2 : ∀ d, d < t → hh d ps = (trs d).length) (π : Pot) : m_p_top [spD ps] π = .ok (.int (t : Int), π) := by
  have e1 := want_spots_eq ps π
  have e3 := own_eq ps
  have e4 := top_loop F (e := .tup (ps.map pD)) rfl ht h1 h2 π t 0 1000000000 (by omega) (by omega)
  have e2 : m_p_top_of [.tup (ps.map pD)] π = .ok (.int (t : Int), π) := by
    obtain ⟨T, hT⟩ : ∃ S, S = D.tup (ps.map pD) := ⟨_, rfl⟩
    rw [← hT] at e4 ⊢
    unfold m_p_top_of f_p_top_of
    simp -implicitDefEqProofs [sWhile_ap]
    simp at e4
    simp [e4]
  obtain ⟨S, hS⟩ : ∃ S, S = spD ps := ⟨_, rfl⟩
  obtain ⟨T, hT⟩ : ∃ S, S = D.tup (ps.map pD) := ⟨_, rfl⟩
  rw [← hT] at e2 e3
  rw [← hS] at e1 e3 ⊢
  unfold m_p_top f_p_top
  simp -implicitDefEqProofs [e1, e2, e3]
end LW
set_option maxHeartbeats 4000000
namespace LW
open PySem PySem.Spec PyProof.Rows L2 DL RK
theorem told58 : (rawP.all fun p => !nzB p || isR (m_l_told [pD p] (0, 0)) (pD (told p))) = true := by decide +kernel
theorem ltold_eq {p : Pt} (h : p ∈ rawP) (hz : p ≠ (0, 0, 0)) (π : Pot) : m_l_told [pD p] π = .ok (pD (told p), π) := by
  have := List.all_eq_true.mp told58 p h
  rw [show nzB p = true from decide_eq_true hz] at this
  exact pu_m_l_told.r (by simpa using this) π
theorem told_mem {p : Pt} (h : p ∈ rawP) (hz : p ≠ (0, 0, 0)) : told p ∈ ptsT := by
  have := List.all_eq_true.mp pts_raw p h
  rw [show nzB p = true from decide_eq_true hz] at this
  simpa using this
theorem opNe_pt (p q : Pt) : opNe (pD p) (pD q) = some (.bl (!decide (p = q))) := by
  show (eqP (pD p) (pD q)).map _ = _
  unfold eqP
  rw [toPy_pt, toPy_pt]
  simp only [shaped_pt, Bool.and_self, if_true, eqv_pt]
  rfl
/-- a few drawn points -/
structure Drawn (ps : List Pt) : Prop where
  mem : ∀ p ∈ ps, p ∈ ptsT
  nd : ps.Nodup
def Steps (acc acc' : List Pt) : Prop := acc' = acc ∨ ∃ p ∈ ptsT, p ∉ acc ∧ acc' = acc ++ [p]
theorem sevens_of {v : Int} (h1 : 0 ≤ v) (h2 : v < 7) : v - 3 ∈ sevens := by
  have : v = 0 ∨ v = 1 ∨ v = 2 ∨ v = 3 ∨ v = 4 ∨ v = 5 ∨ v = 6 := by omega
  rcases this with rfl | rfl | rfl | rfl | rfl | rfl | rfl <;> decide
theorem put_step (A W o3 o4 o5 : Option D) (π : Pot) (acc : List Pt) {p : Pt} (h : p ∈ rawP) (hl : acc.length < 1000) :
    ∃ acc', (sIf (tAndD (tBl (eBin opNe (eVar 6) (eTup (aCons (eC (.int 0)) (aCons (eC (.int 0)) (aCons (eC (.int 0)) aNil)))))) (tBl (eBin opNotInA (eGo m_l_told (aCons (eVar 6) aNil)) (eVar 1)))) (sApp 1 (eGo m_l_told (aCons (eVar 6) aNil))) sNext)
      [A, some (.lst (acc.map pD)), W, o3, o4, o5, some (pD p)] π = .ok (.nx [A, some (.lst (acc'.map pD)), W, o3, o4, o5, some (pD p)], π) ∧ Steps acc acc' := by
  have n0 := opNe_pt p (0, 0, 0)
  have tz : (.tup [.int 0, .int 0, .int 0] : D) = pD (0, 0, 0) := rfl
  by_cases hz : p = (0, 0, 0)
  · refine ⟨acc, ?_, .inl rfl⟩
    rw [decide_eq_true hz] at n0
    obtain ⟨P, hP⟩ : ∃ P, P = pD p := ⟨_, rfl⟩
    obtain ⟨Z, hZ⟩ : ∃ P, P = pD (0, 0, 0) := ⟨_, rfl⟩
    obtain ⟨L, hL⟩ : ∃ P, P = acc.map pD := ⟨_, rfl⟩
    rw [← hZ] at n0 tz
    rw [← hP] at n0 ⊢
    rw [← hL]
    simp -implicitDefEqProofs [tz, n0]
  · rw [decide_eq_false hz] at n0
    have e1 := ltold_eq h hz π
    have e2 := in_pts (told p) acc
    have hl2 : (acc.map pD).length < 16777216 := by simp; omega
    by_cases q : told p ∈ acc
    · refine ⟨acc, ?_, .inl rfl⟩
      have e3 : opNotInA (pD (told p)) (.lst (acc.map pD)) = some (.bl false) := by simp only [opNotInA, e2, q, decide_true]; rfl
      obtain ⟨P, hP⟩ : ∃ P, P = pD p := ⟨_, rfl⟩
      obtain ⟨T, hT⟩ : ∃ P, P = pD (told p) := ⟨_, rfl⟩
      obtain ⟨Z, hZ⟩ : ∃ P, P = pD (0, 0, 0) := ⟨_, rfl⟩
      obtain ⟨L, hL⟩ : ∃ P, P = acc.map pD := ⟨_, rfl⟩
      rw [← hZ] at n0 tz
      rw [← hP] at n0 e1 ⊢
      rw [← hT] at e1 e3
      rw [← hL] at e3 ⊢
      simp -implicitDefEqProofs [tz, n0, e1, e3]
    · refine ⟨acc ++ [told p], ?_, .inr ⟨_, told_mem h hz, q, rfl⟩⟩
      have e3 : opNotInA (pD (told p)) (.lst (acc.map pD)) = some (.bl true) := by simp only [opNotInA, e2, q, decide_false]; rfl
      rw [List.map_append]
      have hs : [told p].map pD = [pD (told p)] := rfl
      rw [hs]
      obtain ⟨P, hP⟩ : ∃ P, P = pD p := ⟨_, rfl⟩
      obtain ⟨T, hT⟩ : ∃ P, P = pD (told p) := ⟨_, rfl⟩
      obtain ⟨Z, hZ⟩ : ∃ P, P = pD (0, 0, 0) := ⟨_, rfl⟩
      obtain ⟨L, hL⟩ : ∃ P, P = acc.map pD := ⟨_, rfl⟩
      rw [← hZ] at n0 tz
      rw [← hP] at n0 e1 ⊢
      rw [← hT] at e1 e3 ⊢
      rw [← hL] at e3 hl2 ⊢
      simp -implicitDefEqProofs [tz, n0, e1, e3, appD_ok, hl2]
end LW
set_option maxHeartbeats 4000000
namespace LW
open PySem PySem.Spec PyProof.Rows L2 DL RK
theorem raw_mem {s b : Int} (hs : s ∈ sevens) (hb : b ∈ sevens) (c : Int) (hc : 0 ≤ c ∧ c < 3) : (1, s, s * s) ∈ rawP ∧ (s, 0, 1) ∈ rawP ∧ (s, b, c) ∈ rawP ∧ (1, s, 2) ∈ rawP := by
  unfold rawP
  refine ⟨?_, ?_, ?_, ?_⟩
  · exact List.mem_flatMap.mpr ⟨s, hs, List.mem_append_left _ (by simp)⟩
  · exact List.mem_flatMap.mpr ⟨s, hs, List.mem_append_left _ (by simp)⟩
  · refine List.mem_flatMap.mpr ⟨s, hs, List.mem_append_right _ (List.mem_flatMap.mpr ⟨b, hb, ?_⟩)⟩
    have : c = 0 ∨ c = 1 ∨ c = 2 := by omega
    rcases this with rfl | rfl | rfl <;> simp
  · exact List.mem_flatMap.mpr ⟨s, hs, List.mem_append_left _ (by simp)⟩
theorem pt_step (A o3 o4 o5 o6 : Option D) (π : Pot) (acc : List Pt) {w : Nat} (hw : w < 4) (hl : acc.length < 1000) :
    ∃ acc' π' x4 x5 x6, f_l_points_b1 [A, some (.lst (acc.map pD)), some (.int (w : Int)), o3, o4, o5, o6] π = .ok (.nx [A, some (.lst (acc'.map pD)), some (.int (w : Int)), o3, x4, x5, x6], π') ∧ Steps acc acc' := by
  obtain ⟨v, π1, e1, v1, v2⟩ := draw_ex (n := 7) (a := .non) π (by decide) (by decide)
  obtain ⟨b, π2, e2, b1, b2⟩ := draw_ex (n := 7) (a := .non) π1 (by decide) (by decide)
  obtain ⟨c, π3, e3, c1, c2⟩ := draw_ex (n := 3) (a := .non) π2 (by decide) (by decide)
  obtain ⟨u, π4, e4, u1, u2⟩ := draw_ex (n := 3) (a := .non) π3 (by decide) (by decide)
  have hs := sevens_of v1 v2
  have hb := sevens_of b1 b2
  obtain ⟨m0, m1, m2, m3⟩ := raw_mem hs hb c ⟨c1, c2⟩
  obtain ⟨s, hse⟩ : ∃ s, s = v - 3 := ⟨_, rfl⟩
  obtain ⟨t, hte⟩ : ∃ s, s = b - 3 := ⟨_, rfl⟩
  rw [← hse] at m0 m1 m2 m3 hs
  rw [← hte] at m2
  have sm : opMulA (.int s) (.int s) = some (.int (s * s)) := opMulA_l (by omega) (by omega)
  obtain ⟨Q, hQ⟩ : ∃ Q, Q = [pD (1, s, s * s), pD (s, 0, 1), pD (s, t, c), pD (1, s, 2)] := ⟨_, rfl⟩
  have q0 : ∀ k : Nat, k < 4 → ∃ p ∈ rawP, opIx (.lst Q) (.int (k : Int)) = some (pD p) := fun k hk => by
    rw [hQ]
    have : k = 0 ∨ k = 1 ∨ k = 2 ∨ k = 3 := by omega
    rcases this with rfl | rfl | rfl | rfl
    · exact ⟨_, m0, rfl⟩
    · exact ⟨_, m1, rfl⟩
    · exact ⟨_, m2, rfl⟩
    · exact ⟨_, m3, rfl⟩
  have s1 : sSet 4 (eBin opSub (eGo m_l_draw (aCons (eC .non) (aCons (eC (.int 7)) aNil))) (eC (.int 3))) [A, some (.lst (acc.map pD)), some (.int (w : Int)), o3, o4, o5, o6] π = .ok (.nx [A, some (.lst (acc.map pD)), some (.int (w : Int)), o3, some (.int s), o5, o6], π1) := by
    obtain ⟨L, hL⟩ : ∃ P, P = acc.map pD := ⟨_, rfl⟩
    rw [← hL, hse]
    simp -implicitDefEqProofs [e1]
  have s2 : sSet 5 (eLst (aCons (eTup (aCons (eC (.int 1)) (aCons (eVar 4) (aCons (eBin opMulA (eVar 4) (eVar 4)) aNil)))) (aCons (eTup (aCons (eVar 4) (aCons (eC (.int 0)) (aCons (eC (.int 1)) aNil)))) (aCons (eTup (aCons (eVar 4) (aCons (eBin opSub (eGo m_l_draw (aCons (eC .non) (aCons (eC (.int 7))
      aNil))) (eC (.int 3))) (aCons (eGo m_l_draw (aCons (eC .non) (aCons (eC (.int 3)) aNil))) aNil)))) (aCons (eTup (aCons (eC (.int 1)) (aCons (eVar 4) (aCons (eC (.int 2)) aNil)))) aNil))))) [A, some (.lst (acc.map pD)), some (.int (w : Int)), o3, some (.int s), o5, o6] π1 = .ok (.nx [A, some (.lst (acc.map pD)), some (.int (w : Int)), o3, some (.int s), some (.lst Q), o6], π3) := by
    obtain ⟨L, hL⟩ : ∃ P, P = acc.map pD := ⟨_, rfl⟩
    have hQ' : Q = [.tup [.int 1, .int s, .int (s * s)], .tup [.int s, .int 0, .int 1], .tup [.int s, .int t, .int c], .tup [.int 1, .int s, .int 2]] := hQ
    rw [← hL, hQ', hte]
    simp -implicitDefEqProofs [sm, e2, e3]
  have s3 : ∃ p ∈ rawP, sSet 6 (eIf (tBl (eBin (cmpI fun i j => decide (j < i)) (eGo m_l_draw (aCons (eC .non) (aCons (eC (.int 3)) aNil))) (eC (.int 0)))) (eBin opIx (eVar 5) (eVar 2)) (eBin opIx (eVar 5) (eC (.int 2)))) [A, some (.lst (acc.map pD)), some (.int (w : Int)), o3, some (.int s), some (.lst Q), o6] π3 =
      .ok (.nx [A, some (.lst (acc.map pD)), some (.int (w : Int)), o3, some (.int s), some (.lst Q), some (pD p)], π4) := by
    obtain ⟨L, hL⟩ : ∃ P, P = acc.map pD := ⟨_, rfl⟩
    rw [← hL]
    by_cases hu : 0 < u
    · obtain ⟨p, hp, ix⟩ := q0 w hw
      refine ⟨p, hp, ?_⟩
      obtain ⟨P, hP⟩ : ∃ P, P = pD p := ⟨_, rfl⟩
      obtain ⟨W, hW⟩ : ∃ P, P = D.int (w : Int) := ⟨_, rfl⟩
      rw [← hP, ← hW] at ix
      rw [← hP, ← hW]
      simp -implicitDefEqProofs [e4, hu, ix]
    · obtain ⟨p, hp, ix⟩ := q0 2 (by decide)
      refine ⟨p, hp, ?_⟩
      have ix' : opIx (.lst Q) (.int 2) = some (pD p) := ix
      obtain ⟨P, hP⟩ : ∃ P, P = pD p := ⟨_, rfl⟩
      obtain ⟨W, hW⟩ : ∃ P, P = D.int (w : Int) := ⟨_, rfl⟩
      rw [← hP] at ix' ⊢
      rw [← hW]
      simp -implicitDefEqProofs [e4, hu, ix']
  obtain ⟨p, hp, s3⟩ := s3
  obtain ⟨acc', s4, st⟩ := put_step A (some (.int (w : Int))) o3 (some (.int s)) (some (.lst Q)) π4 acc hp hl
  refine ⟨acc', π4, some (.int s), some (.lst Q), some (pD p), ?_, st⟩
  rw [f_l_points_b1_ap, sSeq_nx s1, sSeq_nx s2, sSeq_nx s3]
  exact s4
theorem steps_ok {acc acc' : List Pt} (h : Steps acc acc') (D0 : Drawn acc) : Drawn acc' ∧ acc.length ≤ acc'.length ∧ acc'.length ≤ acc.length + 1 := by
  rcases h with rfl | ⟨p, hp, hn, rfl⟩
  · exact ⟨D0, Nat.le_refl _, Nat.le_succ _⟩
  · refine ⟨⟨fun q hq => ?_, ?_⟩, by simp, by simp⟩
    · rcases List.mem_append.mp hq with h | h
      · exact D0.mem q h
      · rw [List.mem_singleton.mp h]
        exact hp
    · rw [List.nodup_append]
      exact ⟨D0.nd, by simp, fun a ha b hb e => hn (by rw [List.mem_singleton.mp hb] at e; exact e ▸ ha)⟩
theorem pts_loop (A : Option D) {w : Nat} (hw : w < 4) : ∀ (ks : List D) (acc : List Pt) (π : Pot) (o3 o4 o5 o6 : Option D), Drawn acc → acc.length + ks.length < 1000 →
    ∃ acc' π' x3 x4 x5 x6, forGo (gN 3) f_l_points_b1 ks [A, some (.lst (acc.map pD)), some (.int (w : Int)), o3, o4, o5, o6] π = .ok (.nx [A, some (.lst (acc'.map pD)), some (.int (w : Int)), x3, x4, x5, x6], π') ∧ Drawn acc' ∧ acc'.length ≤ acc.length + ks.length := by
  intro ks
  induction ks with
  | nil => intro acc π o3 o4 o5 o6 D0 _; exact ⟨acc, π, o3, o4, o5, o6, rfl, D0, Nat.le_refl _⟩
  | cons k ks ih =>
    intro acc π o3 o4 o5 o6 D0 hl
    rw [List.length_cons] at hl
    obtain ⟨acc1, π1, x4, x5, x6, e, st⟩ := pt_step A (some k) o4 o5 o6 π acc hw (by omega)
    obtain ⟨D1, l1, l2⟩ := steps_ok st D0
    obtain ⟨acc', π', y3, y4, y5, y6, e2, D2, l3⟩ := ih acc1 π1 (some k) x4 x5 x6 D1 (by omega)
    refine ⟨acc', π', y3, y4, y5, y6, ?_, D2, by rw [List.length_cons]; omega⟩
    rw [← e2]
    simp only [forGo]
    have hg : gN 3 k [A, some (.lst (acc.map pD)), some (.int (w : Int)), o3, o4, o5, o6] = some [A, some (.lst (acc.map pD)), some (.int (w : Int)), some k, o4, o5, o6] := rfl
    rw [hg]
    simp only [ofO, Res.bind, e]
theorem opNe_nil {ps : List Pt} (h : ps ≠ []) : opNe (.lst (ps.map pD)) (.lst []) = some (.bl true) := by
  have e1 : toPy (.lst (ps.map pD)) = some (.list (ps.map pyP)) := by
    show (toPyL (ps.map pD)).map _ = _
    rw [toPy_pts]
    rfl
  have e2 : toPy (.lst []) = some (.list []) := rfl
  have s2 : SeqAt.shaped (.list []) = true := rfl
  show (eqP (.lst (ps.map pD)) (.lst [])).map _ = _
  unfold eqP
  rw [e1, e2]
  simp only [shaped_pts, s2, Bool.and_self, if_true]
  cases ps with
  | nil => exact absurd rfl h
  | cons p ps => simp [PyData.eqv, PyData.eqvAll]
theorem points_ex (a : D) (π : Pot) : ∃ ps π', m_l_points [a] π = .ok (.lst (ps.map pD), π') ∧ Drawn ps ∧ ps ≠ [] ∧ ps.length ≤ 8 := by
  obtain ⟨v, π1, e1, v1, v2⟩ := draw_ex (n := 4) (a := .non) π (by decide) (by decide)
  obtain ⟨u, π2, e2, u1, u2⟩ := draw_ex (n := 6) (a := .non) π1 (by decide) (by decide)
  obtain ⟨w, hw⟩ : ∃ w : Nat, (w : Int) = v := ⟨v.toNat, by omega⟩
  have rg := rng_1 (j := 3 + u) (by omega) (by omega)
  obtain ⟨K, hK⟩ : ∃ K, K = (List.range (3 + u).toNat).map fun (i : Nat) => D.int (i : Int) := ⟨_, rfl⟩
  have kl : K.length ≤ 8 := by rw [hK]; simp; omega
  rw [← hK] at rg
  obtain ⟨acc', π', x3, x4, x5, x6, lp, D1, l1⟩ := pts_loop (some a) (w := w) (by omega) K [] π2 none none none none ⟨by simp, by simp⟩ (by simp; omega)
  rw [List.map_nil, hw] at lp
  simp only [List.length_nil, Nat.zero_add] at l1
  by_cases q : acc' = []
  · subst q
    rw [List.map_nil] at lp
    refine ⟨[(1, 0, 0)], π', ?_, ⟨fun p hp => ?_, by simp⟩, by simp, by simp⟩
    · have n0 : opNe (.lst []) (.lst []) = some (.bl false) := rfl
      show _ = Res.ok (D.lst [.tup [.int 1, .int 0, .int 0]], π')
      refine runD_ok ?_
      unfold f_l_points
      simp -implicitDefEqProofs [startD, e1, e2, rg, lp, n0]
    · rw [List.mem_singleton.mp hp]
      decide +kernel
  · refine ⟨acc', π', ?_, D1, q, by omega⟩
    have n0 := opNe_nil q
    obtain ⟨L, hL⟩ : ∃ P, P = acc'.map pD := ⟨_, rfl⟩
    rw [← hL] at n0 lp ⊢
    refine runD_ok ?_
    unfold f_l_points
    simp -implicitDefEqProofs [startD, e1, e2, rg, lp, n0]
end LW
set_option maxHeartbeats 4000000
namespace LW
open PySem PySem.Spec PyProof.Rows L2 DL RK
abbrev rD (r : List Nat) : D := iL (zn r)
def lenN (r : List Nat) : List Nat := (List.range (maxI (zn r)).toNat).map fun j => (r.filter fun x => decide (j < x)).length
def downB (l : List Nat) : Bool := (List.range' 1 (l.length - 1)).all fun i => decide (l.getD i 0 < l.getD (i - 1) 0)
def ask (r : List Nat) : Bool := isR (m_l_can [rD r] (0, 0)) (.bl true) && isR (m_p_is_row [rD r] (0, 0)) (.bl true) && isR (m_p_fault [rD r] (0, 0)) .non && isR (m_p_lengths [rD r] (0, 0)) (rD (lenN r)) && isR (m_p_stair [rD r] (0, 0)) (spD (stP r))
def tops (r : List Nat) : Bool := (List.range (r.length + 1)).all fun t => !((List.range r.length).all fun d => decide (r.getD d 0 = d + 1) == decide (d < t)) || decide (t = 0) || decide (maxI (zn r) = (t : Int))
def know (n : Nat) (r : List Nat) : Bool := !r.isEmpty && rowsR.contains r && decide (r.sum = n) && decide ((stP r).length = n) && decide ((lenN r).sum = n) && downB (lenN r) && decide ((lenN r).length ≤ 100) && tops r &&
  (stP r).all (fun p => decide (p.1.natAbs ≤ 9) && decide (p.2.1.natAbs ≤ 9) && decide (p.2.2.natAbs ≤ 9)) && ((List.range r.length).all fun d => decide (d + 1 < r.length → (r.take (d + 1)).sum ≠ n))
theorem ask8 : ((List.range 9).all fun n => (rows8 n).all ask) = true := by decide +kernel
theorem know8 : ((List.range 9).all fun n => (rows8 n).all (know n)) = true := by decide +kernel
theorem rows8_of : ((List.range 9).all fun n => n == 0 || isR (m_p_rows_of [.int (n : Int)] (0, 0)) (.lst ((rows8 n).map rD))) = true := by decide +kernel
theorem box8 : ((List.range 9).all fun n => n == 0 || isR (m_p_box_of [rD (List.replicate n 1)] (0, 0)) (.tup [.int 1, .int (n : Int)])) = true := by decide +kernel
theorem more8 : ((List.range 8).all fun n => (rows8 n).all fun r => (rows8 (n + 1)).all fun r' => !(moreR r).contains r' || isR (m_l_more [rD r, rD r'] (0, 0)) (.bl true)) = true := by decide +kernel
theorem unl_ok : (ptsT.all fun p => ptsT.all fun q => decide (p = q) || nzB (crs p q)) = true := by decide +kernel
theorem nz_of {p : Pt} (h : nzB p = true) : nz p := by
  have h : p ≠ (0, 0, 0) := of_decide_eq_true h
  obtain ⟨x, y, z⟩ := p
  show x ≠ 0 ∨ y ≠ 0 ∨ z ≠ 0
  by_cases a : x = 0
  · by_cases b : y = 0
    · refine .inr (.inr fun c => h ?_)
      rw [a, b, c]
    · exact .inr (.inl b)
  · exact .inl a
structure PtOk (p : Pt) : Prop where
  nz : nz p
  told : told p = p
  bd : p.1.natAbs ≤ 9 ∧ p.2.1.natAbs ≤ 9 ∧ p.2.2.natAbs ≤ 9
theorem pt_ok {p : Pt} (h : p ∈ ptsT) : PtOk p := by
  have := List.all_eq_true.mp pts_nz p h
  simp only [Bool.and_eq_true, decide_eq_true_eq] at this
  exact ⟨nz_of this.1.1.1.1, this.1.1.1.2, this.1.1.2, this.1.2, this.2⟩
theorem bd_of {p : Pt} (h : p.1.natAbs ≤ 9 ∧ p.2.1.natAbs ≤ 9 ∧ p.2.2.natAbs ≤ 9) : Bd (2 ^ 6) (lp p) := by
  rw [bd3]
  exact ⟨Nat.le_trans h.1 (by decide), Nat.le_trans h.2.1 (by decide), Nat.le_trans h.2.2 (by decide)⟩
theorem Drawn.few {ps : List Pt} (D0 : Drawn ps) (h : ps.length ≤ 8) : Few ps := ⟨by omega, fun p hp => bd_of (pt_ok (D0.mem p hp)).bd⟩
theorem Drawn.unl {ps : List Pt} (D0 : Drawn ps) : ps.Pairwise unl := by
  have := pair_of (f := id) (P := RK.unl) D0.nd fun p hp q hq ne => by
    have := List.all_eq_true.mp (List.all_eq_true.mp unl_ok p (D0.mem p hp)) q (D0.mem q hq)
    rw [Bool.or_eq_true, decide_eq_true_eq] at this
    exact nz_of (this.resolve_left ne)
  rwa [List.map_id] at this
theorem Drawn.take {ps : List Pt} (D0 : Drawn ps) (m : Nat) : Drawn (ps.take m) := ⟨fun p hp => D0.mem p (List.mem_of_mem_take hp), D0.nd.sublist (List.take_sublist m ps)⟩
theorem Drawn.row {ps : List Pt} (D0 : Drawn ps) (hne : ps ≠ []) (h8 : ps.length ≤ 8) : ∃ r, RowFor ps r ∧ r ∈ rows8 ps.length := by
  have hp : ∀ p ∈ ps, nz p := fun p hp => (pt_ok (D0.mem p hp)).nz
  have hl := List.length_pos_iff.mpr hne
  obtain ⟨r, R, _⟩ := rowfor_ex hp D0.unl hne (e := ps.length - 1) (hh_few hp D0.unl (by omega))
  exact ⟨r, R, row_in hp hne h8 R⟩
theorem RowFor.is {ps : List Pt} {r : List Nat} (R : RowFor ps r) (h : ps.length ≤ 8) : RowIs ps r := by
  have := len_sum r R.pos
  rw [R.all] at this
  exact ⟨R.ne, by omega, R.at_, R.all, R.last⟩
theorem Drawn.spots {ps : List Pt} (D0 : Drawn ps) (hne : ps ≠ []) (h8 : ps.length ≤ 8) (π : Pot) : m_i_Spots [.lst (ps.map pD)] π = .ok (spD ps, π) := by
  have hl := List.length_pos_iff.mpr hne
  have e : ps.map told = ps := (List.map_congr_left fun p hp => (pt_ok (D0.mem p hp)).told).trans (List.map_id ps)
  have := spots_eq (b := 6) (by decide) (givs_map ps) (fun p hp => ⟨(pt_ok (D0.mem p hp)).nz, bd_of (pt_ok (D0.mem p hp)).bd⟩) (by rw [e]; exact D0.nd) (by omega) (by omega) (.inl rfl) π
  rwa [e] at this
/-- what the program says of a row of few points -/
structure Says (n : Nat) (r : List Nat) : Prop where
  can : ∀ π, m_l_can [rD r] π = .ok (.bl true, π)
  isrow : ∀ π, m_p_is_row [rD r] π = .ok (.bl true, π)
  fault : ∀ π, m_p_fault [rD r] π = .ok (.non, π)
  lengths : ∀ π, m_p_lengths [rD r] π = .ok (rD (lenN r), π)
  stair : ∀ π, m_p_stair [rD r] π = .ok (spD (stP r), π)
  ne : r ≠ []
  inR : r ∈ rowsR
  sum : r.sum = n
  stl : (stP r).length = n
  lsum : (lenN r).sum = n
  down : downB (lenN r) = true
  llen : (lenN r).length ≤ 100
  top : ∀ t, 1 ≤ t → t ≤ r.length → (∀ d, d < r.length → (r.getD d 0 = d + 1 ↔ d < t)) → maxI (zn r) = (t : Int)
  few : Few (stP r)
  row : RowIs (stP r) r
theorem says {n : Nat} {r : List Nat} (h : r ∈ rows8 n) (h8 : n ≤ 8) : Says n r := by
  have a := List.all_eq_true.mp (List.all_eq_true.mp ask8 n (List.mem_range.mpr (by omega))) r h
  have k := List.all_eq_true.mp (List.all_eq_true.mp know8 n (List.mem_range.mpr (by omega))) r h
  unfold ask at a
  simp only [Bool.and_eq_true] at a
  obtain ⟨⟨⟨⟨a1, a2⟩, a3⟩, a4⟩, a5⟩ := a
  simp only [know, Bool.and_eq_true, decide_eq_true_eq, List.all_eq_true, Bool.not_eq_true', List.contains_iff_mem] at k
  obtain ⟨⟨⟨⟨⟨⟨⟨⟨⟨k1, k2⟩, k3⟩, k4⟩, k5⟩, k6⟩, k7⟩, k8⟩, k9⟩, k10⟩ := k
  have hne : r ≠ [] := by
    rintro rfl
    cases k1
  have few : Few (stP r) := ⟨by omega, fun p hp => bd_of ⟨(k9 p hp).1.1, (k9 p hp).1.2, (k9 p hp).2⟩⟩
  refine ⟨pu_m_l_can.r a1, pu_m_p_is_row.r a2, pu_m_p_fault.r a3, pu_m_p_lengths.r a4, pu_m_p_stair.r a5, hne, k2, k3, k4, k5, k6, k7, fun t t1 t2 ht => ?_, few, ?_⟩
  · have := List.all_eq_true.mp k8 t (List.mem_range.mpr (by omega))
    have c : ((List.range r.length).all fun d => decide (r.getD d 0 = d + 1) == decide (d < t)) = true := List.all_eq_true.mpr fun d hd => by
      have := ht d (List.mem_range.mp hd)
      rw [beq_iff_eq, decide_eq_decide]
      exact this
    rw [c] at this
    simp only [Bool.not_true, Bool.false_or, Bool.or_eq_true, decide_eq_true_eq] at this
    exact this.resolve_left (by omega)
  · refine ⟨hne, ?_, fun d hd => hh_stair k2 hd, by rw [k3, k4], fun d hd => ?_⟩
    · have : ∀ r ∈ rowsR, r.length ≤ 9 := by
        have := (by decide +kernel : (rowsR.all fun r => decide (r.length ≤ 9)) = true)
        exact fun r hr => of_decide_eq_true (List.all_eq_true.mp this r hr)
      exact this r k2
    · rw [k4]
      exact k10 d (List.mem_range.mpr (by omega)) hd
end LW
set_option maxHeartbeats 4000000
namespace LW
open PySem PySem.Spec PyProof.Rows L2 DL RK
theorem RowFor.snoc {ps : List Pt} {q : Pt} {r : List Nat} (R : RowFor (ps ++ [q]) r) : RowFor (q :: ps) r := by
  have e : ∀ d, hh d (q :: ps) = hh d (ps ++ [q]) := fun d => hh_perm (fun p => by simp [or_comm]) d
  have l : (q :: ps).length = (ps ++ [q]).length := by simp
  have du : ∀ d, due (q :: ps) d = due (ps ++ [q]) d := fun d => by
    unfold due
    cases d <;> simp only [e]
  exact ⟨R.ne, fun d hd => by rw [e, R.at_ d hd], by rw [l]; exact R.all, fun d hd => by rw [l]; exact R.last d hd, fun d => by rw [du]; exact R.due d, R.pos⟩
/-- a row for each beginning -/
structure RowSeq (ps : List Pt) (f : Nat → List Nat) : Prop where
  row : ∀ m, 1 ≤ m → m ≤ ps.length → RowFor (ps.take m) (f m) ∧ f m ∈ rows8 m
theorem rowseq_ex {ps : List Pt} (D0 : Drawn ps) (hne : ps ≠ []) (h8 : ps.length ≤ 8) {r : List Nat} (R : RowFor ps r) (hr : r ∈ rows8 ps.length) : ∃ f : Nat → List Nat, f ps.length = r ∧ RowSeq ps f := by
  have ex : ∀ m, 1 ≤ m → m ≤ ps.length → ∃ r, RowFor (ps.take m) r ∧ r ∈ rows8 m := fun m h1 h2 => by
    have l : (ps.take m).length = m := by rw [List.length_take]; omega
    obtain ⟨r, R, hr⟩ := (D0.take m).row (fun z => by rw [z] at l; simp at l; omega) (by omega)
    rw [l] at hr
    exact ⟨r, R, hr⟩
  refine ⟨fun m => if m = ps.length then r else if h : 1 ≤ m ∧ m ≤ ps.length then (ex m h.1 h.2).choose else [], by simp, ⟨fun m h1 h2 => ?_⟩⟩
  by_cases q : m = ps.length
  · subst q
    simp only [if_true, List.take_length]
    exact ⟨R, hr⟩
  · simp only [if_neg q, dif_pos (And.intro h1 h2)]
    exact (ex m h1 h2).choose_spec
theorem seq_more {ps : List Pt} (D0 : Drawn ps) (h8 : ps.length ≤ 8) {f : Nat → List Nat} (S : RowSeq ps f) {m : Nat} (h1 : 1 ≤ m) (h2 : m < ps.length) (π : Pot) : m_l_more [rD (f m), rD (f (m + 1))] π = .ok (.bl true, π) := by
  obtain ⟨R1, i1⟩ := S.row m h1 (by omega)
  obtain ⟨R2, i2⟩ := S.row (m + 1) (by omega) h2
  rw [List.take_succ_eq_append_getElem h2] at R2
  have mo := row_more (fun p hp => (pt_ok ((D0.take m).mem p hp)).nz) (pt_ok (D0.mem _ (List.getElem_mem h2))).nz R1 (RowFor.snoc R2)
  have c := List.all_eq_true.mp (List.all_eq_true.mp (List.all_eq_true.mp more8 m (List.mem_range.mpr (by omega))) _ i1) _ i2
  rw [show (moreR (f m)).contains (f (m + 1)) = true by simpa using mo] at c
  exact pu_m_l_more.r (by simpa using c) π
theorem seq_row {ps : List Pt} (D0 : Drawn ps) (h8 : ps.length ≤ 8) {f : Nat → List Nat} (S : RowSeq ps f) {m : Nat} (h1 : 1 ≤ m) (h2 : m ≤ ps.length) (π : Pot) :
    m_i_Spots [.lst ((ps.take m).map pD)] π = .ok (spD (ps.take m), π) ∧ m_p_row [spD (ps.take m)] π = .ok (rD (f m), π) := by
  have l : (ps.take m).length = m := by rw [List.length_take]; omega
  have ne : ps.take m ≠ [] := fun z => by rw [z] at l; simp at l; omega
  obtain ⟨R1, _⟩ := S.row m h1 h2
  exact ⟨(D0.take m).spots ne (by omega) π, row_eq ((D0.take m).few (by omega)) (RowFor.is R1 (by omega)) π⟩
end LW
set_option maxHeartbeats 4000000
namespace LW
open PySem PySem.Spec PyProof.Rows L2 DL RK
theorem turn_step {ps : List Pt} (D0 : Drawn ps) (h8 : ps.length ≤ 8) {f : Nat → List Nat} (S : RowSeq ps f) {m : Nat} (h1 : 1 ≤ m) (h2 : m ≤ ps.length) (A S2 o5 o7 o8 o9 o10 o11 : Option D) {ahead : D} (ha : 2 ≤ m → ahead = rD (f (m - 1))) (π : Pot) :
    f_l_right_b1 [A, some (.lst (ps.map pD)), S2, some ahead, some (rD (f ps.length)), o5, some (.int (m : Int)), o7, o8, o9, o10, o11] π = .ok (.nx [A, some (.lst (ps.map pD)), S2, some (rD (f m)), some (rD (f ps.length)), o5, some (.int (m : Int)), o7, o8, some (rD (f m)), o10, o11], π) := by
  have ln : fLen [.lst (ps.map pD)] = some (.int (ps.length : Int)) := by rw [len_lst', List.length_map]
  obtain ⟨e1, e2⟩ := seq_row D0 h8 S h1 h2 π
  have cut := fCut_to (xs := ps.map pD) (k := (m : Int)) (by omega)
  rw [Int.toNat_natCast, ← List.map_take] at cut
  have mo : 2 ≤ m → m_l_more [ahead, rD (f m)] π = .ok (.bl true, π) := fun h => by
    rw [ha h]
    have := seq_more D0 h8 S (m := m - 1) (by omega) (by omega) π
    rwa [show m - 1 + 1 = m by omega] at this
  have s1 : sSet 9 (eIf (tBl (eBin (cmpI fun i j => decide (i < j)) (eVar 6) (eApp fLen (aCons (eVar 1) aNil)))) (eGo m_p_row (aCons (eGo m_i_Spots (aCons (eSl (eVar 1) oNone (oSome (eVar 6))) aNil)) aNil)) (eVar 4))
      [A, some (.lst (ps.map pD)), S2, some ahead, some (rD (f ps.length)), o5, some (.int (m : Int)), o7, o8, o9, o10, o11] π = .ok (.nx [A, some (.lst (ps.map pD)), S2, some ahead, some (rD (f ps.length)), o5, some (.int (m : Int)), o7, o8, some (rD (f m)), o10, o11], π) := by
    by_cases q : m < ps.length
    · have q' : (m : Int) < (ps.length : Int) := by omega
      obtain ⟨P, hP⟩ : ∃ P, P = ps.map pD := ⟨_, rfl⟩
      obtain ⟨T, hT⟩ : ∃ P, P = (ps.take m).map pD := ⟨_, rfl⟩
      obtain ⟨Z, hZ⟩ : ∃ P, P = spD (ps.take m) := ⟨_, rfl⟩
      obtain ⟨R, hR⟩ : ∃ P, P = rD (f m) := ⟨_, rfl⟩
      obtain ⟨R2, hR2⟩ : ∃ P, P = rD (f ps.length) := ⟨_, rfl⟩
      rw [← hP] at ln cut ⊢
      rw [← hT] at cut e1
      rw [← hZ] at e1 e2
      rw [← hR] at e2 ⊢
      rw [← hR2]
      simp -implicitDefEqProofs [ln, q, q', cut, e1, e2]
    · have q' : ¬ (m : Int) < (ps.length : Int) := by omega
      have em : m = ps.length := by omega
      obtain ⟨P, hP⟩ : ∃ P, P = ps.map pD := ⟨_, rfl⟩
      obtain ⟨R2, hR2⟩ : ∃ P, P = rD (f ps.length) := ⟨_, rfl⟩
      have hR : rD (f m) = R2 := by rw [em, hR2]
      rw [← hP] at ln ⊢
      rw [hR, ← hR2]
      simp -implicitDefEqProofs [ln, q, q']
  rw [f_l_right_b1_ap, sSeq_nx s1]
  obtain ⟨P, hP⟩ : ∃ P, P = ps.map pD := ⟨_, rfl⟩
  obtain ⟨R, hR⟩ : ∃ P, P = rD (f m) := ⟨_, rfl⟩
  obtain ⟨R2, hR2⟩ : ∃ P, P = rD (f ps.length) := ⟨_, rfl⟩
  rw [← hR] at mo
  rw [← hP, ← hR, ← hR2]
  by_cases q : 2 ≤ m
  · have q' : (1 : Int) < (m : Int) := by omega
    have q2 : 1 < m := by omega
    have mo := mo q
    simp -implicitDefEqProofs [q', q2, mo]
  · have q' : ¬ (1 : Int) < (m : Int) := by omega
    have q2 : ¬ 1 < m := by omega
    simp -implicitDefEqProofs [q', q2]
theorem turn_loop {ps : List Pt} (D0 : Drawn ps) (h8 : ps.length ≤ 8) {f : Nat → List Nat} (S : RowSeq ps f) (A S2 o5 o7 o8 o10 o11 : Option D) (π : Pot) : ∀ (k m : Nat) (ahead : D) (o6 o9 : Option D), 1 ≤ m → m + k = ps.length + 1 → (2 ≤ m → ahead = rD (f (m - 1))) →
    ∃ x3 x6 x9, forGo (gN 6) f_l_right_b1 ((List.range' m k).map fun (i : Nat) => .int (i : Int)) [A, some (.lst (ps.map pD)), S2, some ahead, some (rD (f ps.length)), o5, o6, o7, o8, o9, o10, o11] π = .ok (.nx [A, some (.lst (ps.map pD)), S2, x3, some (rD (f ps.length)), o5, x6, o7, o8, x9, o10, o11], π) := by
  intro k
  induction k with
  | zero => intro m ahead o6 o9 _ _ _; exact ⟨_, _, _, rfl⟩
  | succ k ih =>
    intro m ahead o6 o9 h1 hk ha
    have eb := turn_step D0 h8 S h1 (by omega) A S2 o5 o7 o8 o9 o10 o11 ha π
    obtain ⟨x3, x6, x9, ih⟩ := ih (m + 1) (rD (f m)) (some (.int (m : Int))) (some (rD (f m))) (by omega) (by omega) (fun _ => by rw [Nat.add_sub_cancel])
    refine ⟨x3, x6, x9, ?_⟩
    rw [List.range'_succ, List.map_cons, ← ih]
    obtain ⟨P, hP⟩ : ∃ P, P = ps.map pD := ⟨_, rfl⟩
    obtain ⟨R, hR⟩ : ∃ P, P = rD (f m) := ⟨_, rfl⟩
    obtain ⟨R2, hR2⟩ : ∃ P, P = rD (f ps.length) := ⟨_, rfl⟩
    obtain ⟨M, hM⟩ : ∃ P, P = D.int (m : Int) := ⟨_, rfl⟩
    rw [← hP, ← hR, ← hR2, ← hM] at eb ⊢
    simp only [forGo]
    have hg : gN 6 M [A, some (.lst P), S2, some ahead, some R2, o5, o6, o7, o8, o9, o10, o11] = some [A, some (.lst P), S2, some ahead, some R2, o5, some M, o7, o8, o9, o10, o11] := rfl
    rw [hg]
    simp only [ofO, Res.bind, eb]
/-- who is on the conic, on the line -/
theorem on_lc {ps : List Pt} (D0 : Drawn ps) (A s1 s2 s3 s4 s5 s6 s7 s8 s9 s11 : Option D) (π : Pot) :
    lcGo (gN 10) f_l_right_t2 f_l_right_e2 [A, s1, s2, s3, s4, s5, s6, s7, s8, s9, none, s11] (ps.map pD) π = .ok ((ps.filter onC).map pD, π) ∧
    lcGo (gN 10) f_l_right_t3 f_l_right_e2 [A, s1, s2, s3, s4, s5, s6, s7, s8, s9, none, s11] (ps.map pD) π = .ok ((ps.filter onL).map pD, π) := by
  have ix : ∀ p : Pt, opIx (pD p) (.int 0) = some (.int p.1) ∧ opIx (pD p) (.int 1) = some (.int p.2.1) ∧ opIx (pD p) (.int 2) = some (.int p.2.2) := fun p => ⟨rfl, rfl, rfl⟩
  constructor
  · refine lcGo_filter (ρ1 := fun p => [A, s1, s2, s3, s4, s5, s6, s7, s8, s9, some (pD p), s11]) (fun x hx => rfl) (fun p hp => ?_) fun p hp _ => ?_
    · obtain ⟨i0, i1, i2⟩ := ix p
      have b := (pt_ok (D0.mem p hp)).bd
      have m1 : opMulA (.int p.1) (.int p.2.2) = some (.int (p.1 * p.2.2)) := opMulA_l (by omega) (by omega)
      have m2 : opMulA (.int p.2.1) (.int p.2.1) = some (.int (p.2.1 * p.2.1)) := opMulA_l (by omega) (by omega)
      obtain ⟨P, hP⟩ : ∃ P, P = pD p := ⟨_, rfl⟩
      rw [← hP] at i0 i1 i2
      rw [← hP, f_l_right_t2_ap]
      simp -implicitDefEqProofs [i0, i1, i2, m1, m2, onC]
    · obtain ⟨P, hP⟩ : ∃ P, P = pD p := ⟨_, rfl⟩
      rw [← hP, f_l_right_e2_ap]
      simp -implicitDefEqProofs
  · refine lcGo_filter (ρ1 := fun p => [A, s1, s2, s3, s4, s5, s6, s7, s8, s9, some (pD p), s11]) (fun x hx => rfl) (fun p hp => ?_) fun p hp _ => ?_
    · obtain ⟨i0, i1, i2⟩ := ix p
      obtain ⟨P, hP⟩ : ∃ P, P = pD p := ⟨_, rfl⟩
      rw [← hP] at i1
      rw [← hP, f_l_right_t3_ap]
      simp -implicitDefEqProofs [i1, onL]
    · obtain ⟨P, hP⟩ : ∃ P, P = pD p := ⟨_, rfl⟩
      rw [← hP, f_l_right_e2_ap]
      simp -implicitDefEqProofs
theorem nat_at (l : List Nat) {i : Nat} (h : i < l.length) : opIx (rD l) (.int (i : Int)) = some (.int (l.getD i 0 : Nat)) := by
  have := opIx_iz (ns := zn l) (i := (i : Int)) (by omega) (e := by
    rw [Int.toNat_natCast]
    show (zn l)[i]? = some ((l.getD i 0 : Nat) : Int)
    simp [zn, List.getD_eq_getElem?_getD, h])
  exact this
theorem down_lc {l : List Nat} (h : downB l = true) (A s1 s2 s3 s4 s6 s7 s8 s9 s10 : Option D) (π : Pot) :
    lcGo (gN 11) f_l_right_t1 f_l_right_e1 [A, s1, s2, s3, s4, some (rD l), s6, s7, s8, s9, s10, none] ((List.range' 1 (l.length - 1)).map fun (i : Nat) => .int (i : Int)) π = .ok ([], π) := by
  have := lcGo_filter (enc := fun (i : Nat) => D.int (i : Int)) (ft := f_l_right_t1) (fe := f_l_right_e1) (g := fun (i : Nat) => D.int (i : Int)) (π := π) (p := fun _ => false) (xs := List.range' 1 (l.length - 1)) (ρ := [A, s1, s2, s3, s4, some (rD l), s6, s7, s8, s9, s10, none])
    (ρ1 := fun i => [A, s1, s2, s3, s4, some (rD l), s6, s7, s8, s9, s10, some (.int (i : Int))]) (fg := gN 11) (fun x hx => rfl) (fun i hi => by
      have hi' := List.mem_range'_1.mp hi
      have d := of_decide_eq_true (List.all_eq_true.mp h i hi)
      have e1 := nat_at l (i := i) (by omega)
      have e2 := nat_at l (i := i - 1) (by omega)
      have i2 : ((i - 1 : Nat) : Int) = (i : Int) - 1 := by omega
      rw [i2] at e2
      have c : ¬ ((l.getD (i - 1) 0 : Nat) : Int) ≤ ((l.getD i 0 : Nat) : Int) := by omega
      obtain ⟨a, ha⟩ : ∃ a : Int, a = ((l.getD (i - 1) 0 : Nat) : Int) := ⟨_, rfl⟩
      obtain ⟨b, hb⟩ : ∃ a : Int, a = ((l.getD i 0 : Nat) : Int) := ⟨_, rfl⟩
      rw [← ha] at e2 c
      rw [← hb] at e1 c
      obtain ⟨L, hL⟩ : ∃ a, a = rD l := ⟨_, rfl⟩
      rw [← hL] at e1 e2
      rw [← hL, f_l_right_t1_ap]
      simp -implicitDefEqProofs [e1, e2, c]) (fun x hx hp => by cases hp)
  rw [this]
  simp
end LW
set_option maxHeartbeats 4000000
namespace LW
open PySem PySem.Spec PyProof.Rows L2 DL RK
theorem notin8 : ((List.range 9).all fun n => (rows8 n).all fun r => match opNotInA (rD r) (.lst ((rows8 n).map rD)) with | some (.bl false) => true | _ => false) = true := by decide +kernel
theorem notin_eq {n : Nat} {r : List Nat} (h : r ∈ rows8 n) (h8 : n ≤ 8) : opNotInA (rD r) (.lst ((rows8 n).map rD)) = some (.bl false) := by
  have := List.all_eq_true.mp (List.all_eq_true.mp notin8 n (List.mem_range.mpr (by omega))) r h
  split at this
  · assumption
  · cases this
theorem ne_int (i : Int) : opNe (.int i) (.int i) = some (.bl false) := by simp [opNe, eqD]
theorem filt_all {ps : List Pt} {p : Pt → Bool} (h : (ps.filter p).length = ps.length) : ∀ q ∈ ps, p q = true := by
  have : ps.filter p = ps := List.Sublist.eq_of_length (List.filter_sublist) h
  rw [← this]
  exact fun q hq => (List.mem_filter.mp hq).2
def conE : Ed := (eBin opAdd (eBin opAdd (eLst (aCons (eC (.int 1)) aNil)) (eBin opRep (eLst (aCons (eC (.int 2)) aNil)) (eBin opFdivW (eBin opSub (eVar 7) (eC (.int 1))) (eC (.int 2))))) (eBin opRep (eLst (aCons (eC (.int 1)) aNil)) (eIf (tBl (eBin opEq (eBin opMulA (eBin opFdivW (eVar 7) (eC (.int 2))) (eC (.int 2))) (eVar 7))) (eC (.int 1)) (eC (.int 0)))))
theorem con_val {n : Nat} (h5 : 5 ≤ n) (h8 : n ≤ 8) (ρ : Rho) (π : Pot) (h7 : ρ[7]? = some (some (.int (n : Int)))) :
    conE ρ π = .ok (rD (conRow n), π) := by
  have : n = 5 ∨ n = 6 ∨ n = 7 ∨ n = 8 := by omega
  have v : ∀ π, eVar 7 ρ π = .ok (.int (n : Int), π) := fun π => by
    unfold eVar
    rw [h7]
  have r2 : ∀ k : Nat, k < 100 → ∀ x : Int, opRep (.lst [.int x]) (.int (k : Int)) = some (.lst ((List.replicate k x).map D.int)) := fun k hk x => by
    have c : decide (-9223372036854775808 ≤ (k : Int) ∧ (k : Int) < 9223372036854775808) = true := by rw [decide_eq_true_eq]; omega
    have c2 : decide ([D.int x].length * ((k : Int)).toNat ≤ sizeLine) = true := by
      rw [decide_eq_true_eq, sl_is]
      simp
      omega
    show (if (decide (-9223372036854775808 ≤ (k : Int) ∧ (k : Int) < 9223372036854775808) && decide ([D.int x].length * ((k : Int)).toNat ≤ sizeLine)) = true then some (D.lst (List.replicate ((k : Int)).toNat [D.int x]).flatten) else none) = _
    rw [if_pos (by rw [c, c2]; rfl), Int.toNat_natCast]
    simp -implicitDefEqProofs
  have f1 := opFdivW_s (i := (n : Int) - 1) (j := 2) (by decide) (by decide)
  have f2 := opFdivW_s (i := (n : Int)) (j := 2) (by decide) (by decide)
  have a1 := r2 ((n - 1) / 2) (by omega) 2
  have a2 := r2 (if n / 2 * 2 = n then 1 else 0) (by split <;> omega) 1
  have i1 : ((n : Int) - 1) / 2 = (((n - 1) / 2 : Nat) : Int) := by omega
  have i2 : (n : Int) / 2 = ((n / 2 : Nat) : Int) := by omega
  rw [i1] at f1
  rw [i2] at f2
  have m1 : opMulA (.int ((n / 2 : Nat) : Int)) (.int 2) = some (.int (((n / 2 : Nat) : Int) * 2)) := opMulA_r (by decide) (by decide)
  have q1 : opEq (.int (((n / 2 : Nat) : Int) * 2)) (.int (n : Int)) = some (.bl (decide (n / 2 * 2 = n))) := by
    show some (D.bl (decide (((n / 2 : Nat) : Int) * 2 = (n : Int)))) = _
    by_cases q : n / 2 * 2 = n
    · rw [decide_eq_true q, decide_eq_true (by omega)]
    · rw [decide_eq_false q, decide_eq_false (by omega)]
  unfold conE
  have res : rD (conRow n) = .lst ([D.int 1] ++ (List.replicate ((n - 1) / 2) 2).map D.int ++ (List.replicate (if n / 2 * 2 = n then 1 else 0) 1).map D.int) := by
    unfold conRow rD iL zn
    simp
  obtain ⟨K1, hK1⟩ : ∃ K, K = (((n - 1) / 2 : Nat) : Int) := ⟨_, rfl⟩
  obtain ⟨K2, hK2⟩ : ∃ K, K = ((n / 2 : Nat) : Int) := ⟨_, rfl⟩
  obtain ⟨X1, hX1⟩ : ∃ K, K = (List.replicate ((n - 1) / 2) (2 : Int)).map D.int := ⟨_, rfl⟩
  have x1l : X1.length ≤ 100 := by rw [hX1]; simp; omega
  rw [res, ← hX1]
  rw [← hX1, ← hK1] at a1
  rw [← hK1] at f1
  rw [← hK2] at f2 m1 q1
  by_cases q : n / 2 * 2 = n
  · rw [if_pos q] at a2 ⊢
    rw [decide_eq_true q] at q1
    obtain ⟨X2, hX2⟩ : ∃ K, K = (List.replicate 1 (1 : Int)).map D.int := ⟨_, rfl⟩
    have x2l : X2.length ≤ 100 := by rw [hX2]; simp
    rw [← hX2] at a2 ⊢
    have a2' : opRep (.lst [.int 1]) (.int 1) = some (.lst X2) := a2
    have g1 : 1 + X1.length ≤ 16777216 := by omega
    have g2 : X1.length + 1 + X2.length ≤ 16777216 := by omega
    simp -implicitDefEqProofs [-opEq_int, h7, f1, f2, m1, q1, a1, a2', opAdd, g1, g2]
  · rw [if_neg q] at a2 ⊢
    rw [decide_eq_false q] at q1
    obtain ⟨X2, hX2⟩ : ∃ K, K = (List.replicate 0 (1 : Int)).map D.int := ⟨_, rfl⟩
    have x2l : X2.length ≤ 100 := by rw [hX2]; simp
    rw [← hX2] at a2 ⊢
    have a2' : opRep (.lst [.int 1]) (.int 0) = some (.lst X2) := a2
    have g1 : 1 + X1.length ≤ 16777216 := by omega
    have g2 : X1.length + 1 + X2.length ≤ 16777216 := by omega
    simp -implicitDefEqProofs [-opEq_int, h7, f1, f2, m1, q1, a1, a2', opAdd, g1, g2]
theorem right_eq (π : Pot) : ∃ π', m_l_right [.non] π = .ok (.bl true, π') := by
  obtain ⟨ps, π1, e0, D0, hne, h8⟩ := points_ex .non π
  have hp : ∀ p ∈ ps, nz p := fun p hp => (pt_ok (D0.mem p hp)).nz
  have hlen := List.length_pos_iff.mpr hne
  obtain ⟨r, R, hr⟩ := D0.row hne h8
  have W := says hr h8
  have F := D0.few h8
  have I := RowFor.is R h8
  have e1 := D0.spots hne h8 π1
  have e2 := row_eq F I π1
  obtain ⟨t, t1, t2, t3, t4, t5, _⟩ := top_facts hp hne R.ne R.at_ R.all
  have e3 := top_eq F (by have := I.le; omega) t4 t3 π1
  have mx := W.top t t1 t2 t5
  have e4 := end_eq F I π1
  have e5 := row_eq W.few W.row π1
  have ro := pu_m_p_rows_of.r (by
    have := List.all_eq_true.mp rows8_of ps.length (List.mem_range.mpr (by omega))
    rw [show (ps.length == 0) = false by simpa using hne] at this
    simpa using this) π1
  have ni := notin_eq hr h8
  have ln : fLen [.lst (ps.map pD)] = some (.int (ps.length : Int)) := by rw [len_lst', List.length_map]
  have sm : fSum [rD (lenN r)] = some (.int (ps.length : Int)) := by
    show fSum [.lst ((zn (lenN r)).map D.int)] = _
    rw [fSum_iz]
    have : (zn (lenN r)).sum = ((lenN r).sum : Nat) := by
      have key : ∀ l : List Nat, (zn l).sum = (l.sum : Nat) := fun l => by
        induction l with
        | nil => rfl
        | cons x l ih =>
          show (x : Int) + (zn l).sum = _
          rw [ih, List.sum_cons]
          omega
      exact key _
    rw [this, W.lsum]
  have lr : ∀ l : List Nat, fLen [rD l] = some (.int (l.length : Int)) := fun l => by
    show fLen [.lst ((zn l).map D.int)] = _
    rw [len_lst']
    simp [zn]
  have l1 := lr r
  have l2 := lr (lenN r)
  have mxl : fMaxL [rD r] = some (.int (t : Int)) := by
    rw [← mx]
    exact fMaxL_iz (by cases r with | nil => exact absurd rfl W.ne | cons a b => simp [zn])
  have nrr : opNe (rD r) (rD r) = some (.bl false) := by
    show opNe (.lst ((zn r).map D.int)) (.lst ((zn r).map D.int)) = _
    rw [opNe_iz]
    simp
  have rg1 : rng [.int 1, .int ((lenN r).length : Int)] = some ((List.range' 1 ((lenN r).length - 1)).map fun (i : Nat) => .int (i : Int)) := by
    have := W.llen
    rw [rng_2 (by decide) (by decide) (by omega) (by omega), List.range'_eq_map_range, List.map_map]
    have e : ((lenN r).length - 1 : Int).toNat = (lenN r).length - 1 := by omega
    rw [e]
    refine congrArg some (List.map_congr_left fun i _ => ?_)
    show D.int (1 + (i : Int)) = D.int ((1 + i : Nat) : Int)
    rw [show (1 : Int) + (i : Int) = ((1 + i : Nat) : Int) by omega]
  have rg2 : rng [.int 1, .int ((ps.length : Int) + 1)] = some ((List.range' 1 ps.length).map fun (i : Nat) => .int (i : Int)) := by
    rw [rng_2 (by decide) (by decide) (by omega) (by omega), List.range'_eq_map_range, List.map_map]
    have e : ((ps.length : Int) + 1 - 1).toNat = ps.length := by omega
    rw [e]
    refine congrArg some (List.map_congr_left fun i _ => ?_)
    show D.int (1 + (i : Int)) = D.int ((1 + i : Nat) : Int)
    rw [show (1 : Int) + (i : Int) = ((1 + i : Nat) : Int) by omega]
  obtain ⟨f, fn, S⟩ := rowseq_ex D0 hne h8 R hr
  have dl := down_lc (l := lenN r) W.down (some .non) (some (.lst (ps.map pD))) (some (spD ps)) (some (.lst [])) (some (rD r)) none none none none none π1
  obtain ⟨x3, x6, x9, lp⟩ := turn_loop D0 h8 S (some .non) (some (spD ps)) (some (rD (lenN r))) none none none none π1 ps.length 1 (.lst []) none none (by decide) (by omega) (fun h => absurd h (by decide))
  rw [fn] at lp
  have c1 := fun s7 s8 => (on_lc D0 (some .non) (some (.lst (ps.map pD))) (some (spD ps)) x3 (some (rD r)) (some (rD (lenN r))) x6 s7 s8 x9 none π1).1
  have c2 := fun s7 s8 => (on_lc D0 (some .non) (some (.lst (ps.map pD))) (some (spD ps)) x3 (some (rD r)) (some (rD (lenN r))) x6 s7 s8 x9 none π1).2
  have lnC : fLen [.lst ((ps.filter onC).map pD)] = some (.int ((ps.filter onC).length : Int)) := by rw [len_lst', List.length_map]
  have lnL : fLen [.lst ((ps.filter onL).map pD)] = some (.int ((ps.filter onL).length : Int)) := by rw [len_lst', List.length_map]
  have hz1 : ((List.range' 1 ((lenN r).length - 1)).map fun (i : Nat) => D.int (i : Int)).length < 16777216 := by
    have := W.llen
    simp
    omega
  have hz2 : (ps.map pD).length < 16777216 := by simp; omega
  have nnil : opNe (.lst []) (.lst []) = some (.bl false) := rfl
  have hcon : (ps.filter onC).length = ps.length → 4 < (ps.filter onC).length → r = conRow (ps.filter onC).length := fun h h4 => by
    rw [h] at h4 ⊢
    exact con_row D0.mem D0.nd (filt_all h) h8 (by omega) hr R
  have hlin : (ps.filter onL).length = ps.length → r = List.replicate (ps.filter onL).length 1 := fun h => by
    rw [h]
    exact lin_row D0.mem D0.nd (filt_all h) h8 hr R
  have n58 := ne_int (ps.length : Int)
  have n58t := ne_int (t : Int)
  have n58r := ne_int ((r.length : Int) - 1)
  have nb : opNotB (.bl true) (.bl true) = some (.bl false) := rfl
  have nn : opNotN .non .non = some (.bl false) := rfl
  have can := W.can π1
  have isr := W.isrow π1
  have fau := W.fault π1
  have lng := W.lengths π1
  have sta := W.stair π1
  have nec : (ps.filter onC).length = ps.length → 4 < (ps.filter onC).length → opNe (rD r) (rD (conRow (ps.filter onC).length)) = some (.bl false) := fun h h4 => by
    rw [← hcon h h4]
    exact nrr
  have nel : (ps.filter onL).length = ps.length → opRep (.lst [.int 1]) (.int ((ps.filter onL).length : Int)) = some (rD r) := fun h => by
    obtain ⟨k, hk⟩ : ∃ k, k = (ps.filter onL).length := ⟨_, rfl⟩
    rw [← hk] at h hlin ⊢
    have hl := hlin h
    have c : decide (-9223372036854775808 ≤ (k : Int) ∧ (k : Int) < 9223372036854775808) = true := by rw [decide_eq_true_eq]; omega
    have c2 : decide ([D.int 1].length * ((k : Int)).toNat ≤ sizeLine) = true := by
      rw [decide_eq_true_eq, sl_is]
      simp
      omega
    show (if (decide (-9223372036854775808 ≤ (k : Int) ∧ (k : Int) < 9223372036854775808) && decide ([D.int 1].length * ((k : Int)).toNat ≤ sizeLine)) = true then some (D.lst (List.replicate ((k : Int)).toNat [D.int 1]).flatten) else none) = _
    rw [if_pos (by rw [c, c2]; rfl), Int.toNat_natCast, hl]
    simp -implicitDefEqProofs [rD, iL, zn]
  have box : (ps.filter onL).length = ps.length → m_p_box_of [rD r] π1 = .ok (.tup [.int 1, .int ((ps.filter onL).length : Int)], π1) := fun h => by
    have := List.all_eq_true.mp box8 (ps.filter onL).length (List.mem_range.mpr (by omega))
    rw [show ((ps.filter onL).length == 0) = false by rw [h]; simpa using hne] at this
    rw [hlin h]
    exact pu_m_p_box_of.r (by simpa using this) π1
  have ntup : opNe (.tup [.int 1, .int ((ps.filter onL).length : Int)]) (.tup [.int 1, .int ((ps.filter onL).length : Int)]) = some (.bl false) := opNe_refl rfl
  have cv := fun (ρ : Rho) (h7 : ρ[7]? = some (some (.int ((ps.filter onC).length : Int)))) (h5 : 5 ≤ (ps.filter onC).length) (h8' : (ps.filter onC).length ≤ 8) => con_val h5 h8' ρ π1 h7
  have kC8 : (ps.filter onC).length ≤ 8 := Nat.le_trans (List.length_filter_le _ _) h8
  obtain ⟨kC, hkC⟩ : ∃ k, k = (ps.filter onC).length := ⟨_, rfl⟩
  obtain ⟨kL, hkL⟩ : ∃ k, k = (ps.filter onL).length := ⟨_, rfl⟩
  obtain ⟨C1, hC1⟩ : ∃ k, k = (ps.filter onC).map pD := ⟨_, rfl⟩
  obtain ⟨C2, hC2⟩ : ∃ k, k = (ps.filter onL).map pD := ⟨_, rfl⟩
  obtain ⟨P, hP⟩ : ∃ k, k = ps.map pD := ⟨_, rfl⟩
  obtain ⟨Sp, hSp⟩ : ∃ k, k = spD ps := ⟨_, rfl⟩
  obtain ⟨Rr, hRr⟩ : ∃ k, k = rD r := ⟨_, rfl⟩
  obtain ⟨L5, hL5⟩ : ∃ k, k = rD (lenN r) := ⟨_, rfl⟩
  obtain ⟨Ss, hSs⟩ : ∃ k, k = spD (stP r) := ⟨_, rfl⟩
  obtain ⟨G1, hG1⟩ : ∃ k, k = (List.range' 1 ((lenN r).length - 1)).map fun (i : Nat) => D.int (i : Int) := ⟨_, rfl⟩
  obtain ⟨G2, hG2⟩ : ∃ k, k = (List.range' 1 ps.length).map fun (i : Nat) => D.int (i : Int) := ⟨_, rfl⟩
  obtain ⟨RL, hRL⟩ : ∃ k, k = (rows8 ps.length).map rD := ⟨_, rfl⟩
  rw [← hC1, ← hkC] at lnC
  rw [← hC2, ← hkL] at lnL
  rw [← hP] at e0 ln e1 dl lp hz2
  rw [← hSp] at e1 e2 e3 e4 dl lp
  have e2' : m_p_row [Sp] π1 = .ok (Rr, π1) := by rw [hRr]; exact e2
  have e5' : m_p_row [Ss] π1 = .ok (Rr, π1) := by rw [hRr, hSs]; exact e5
  simp only [← hP, ← hSp, ← hRr, ← hL5, ← hC1] at c1
  simp only [← hP, ← hSp, ← hRr, ← hL5, ← hC2] at c2
  rw [← hRr] at can isr fau lng sta ni l1 mxl nrr dl lp nec nel box
  rw [← hL5] at lng sm l2 dl lp
  rw [← hSs] at sta
  rw [← hG1] at rg1 dl hz1
  rw [← hG2] at rg2 lp
  rw [← hRL] at ro ni
  rw [← hkC] at nec cv kC8
  rw [← hkL] at nel box ntup
  refine ⟨π1, ?_⟩
  refine runD_ok ?_
  unfold f_l_right
  refine (sSeq_nx (ρ' := [some .non, some (.lst P), none, none, none, none, none, none, none, none, none, none]) (π' := π1) ?_).trans ?_
  · simp -implicitDefEqProofs [startD, e0]
  rw [f_l_right_r1_ap]
  refine (sSeq_nx (ρ' := [some .non, some (.lst P), some Sp, some (.lst []), none, none, none, none, none, none, none, none]) (π' := π1) ?_).trans ?_
  · simp -implicitDefEqProofs [e1]
  refine (sSeq_nx (ρ' := [some .non, some (.lst P), some Sp, some (.lst []), some Rr, none, none, none, none, none, none, none]) (π' := π1) ?_).trans ?_
  · simp -implicitDefEqProofs [e2']
  refine (sSeq_nx (ρ' := [some .non, some (.lst P), some Sp, some (.lst []), some Rr, none, none, none, none, none, none, none]) (π' := π1) ?_).trans ?_
  · simp -implicitDefEqProofs [can, isr, nb, fau, nn, ln, ro, ni]
  refine (sSeq_nx (ρ' := [some .non, some (.lst P), some Sp, some (.lst []), some Rr, some L5, none, none, none, none, none, none]) (π' := π1) ?_).trans ?_
  · simp -implicitDefEqProofs [lng]
  refine (sSeq_nx (ρ' := [some .non, some (.lst P), some Sp, some (.lst []), some Rr, some L5, none, none, none, none, none, none]) (π' := π1) ?_).trans ?_
  · simp -implicitDefEqProofs [sm, ln, n58, l2, rg1, hz1, dl, nnil, wipeD]
  refine (sSeq_nx (ρ' := [some .non, some (.lst P), some Sp, some (.lst []), some Rr, some L5, none, none, none, none, none, none]) (π' := π1) ?_).trans ?_
  · simp -implicitDefEqProofs [sta, e5', nrr, mxl, e3, n58t, e4, l1, n58r]
  refine (sSeq_nx (ρ' := [some .non, some (.lst P), some Sp, x3, some Rr, some L5, x6, none, none, x9, none, none]) (π' := π1) ?_).trans ?_
  · simp -implicitDefEqProofs [ln, rg2, lp]
  refine (sSeq_nx (ρ' := [some .non, some (.lst P), some Sp, x3, some Rr, some L5, x6, some (.int (kC : Int)), none, x9, none, none]) (π' := π1) ?_).trans ?_
  · simp -implicitDefEqProofs [hz2, c1, lnC, wipeD]
  refine (sSeq_nx (ρ' := [some .non, some (.lst P), some Sp, x3, some Rr, some L5, x6, some (.int (kC : Int)), some (.int (kL : Int)), x9, none, none]) (π' := π1) ?_).trans ?_
  · simp -implicitDefEqProofs [hz2, c2, lnL, wipeD]
  refine (sSeq_nx (ρ' := [some .non, some (.lst P), some Sp, x3, some Rr, some L5, x6, some (.int (kC : Int)), some (.int (kL : Int)), x9, none, none]) (π' := π1) ?_).trans ?_
  · have hEx : (eBin opAdd (eBin opAdd (eLst (aCons (eC (.int 1)) aNil)) (eBin opRep (eLst (aCons (eC (.int 2)) aNil)) (eBin opFdivW (eBin opSub (eVar 7) (eC (.int 1))) (eC (.int 2))))) (eBin opRep (eLst (aCons (eC (.int 1)) aNil)) (eIf (tBl (eBin opEq (eBin opMulA (eBin opFdivW (eVar 7) (eC (.int 2))) (eC (.int 2))) (eVar 7))) (eC (.int 1)) (eC (.int 0))))) = conE := rfl
    rw [hEx]
    by_cases q : kC = ps.length
    · have qe : opEq (.int (kC : Int)) (.int (ps.length : Int)) = some (.bl true) := by rw [opEq_ii, decide_eq_true (by omega)]
      by_cases q4 : 4 < kC
      · have q4' : (4 : Int) < (kC : Int) := by omega
        have hE := cv [some .non, some (.lst P), some Sp, x3, some Rr, some L5, x6, some (.int (kC : Int)), some (.int (kL : Int)), x9, none, none] rfl (by omega) kC8
        have n1 := nec q q4
        obtain ⟨Tp, hTp⟩ : ∃ k, k = rD (conRow kC) := ⟨_, rfl⟩
        rw [← hTp] at hE n1
        simp -implicitDefEqProofs [-opEq_int, ln, qe, q4, q4', hE, n1]
      · have q4' : ¬ (4 : Int) < (kC : Int) := by omega
        simp -implicitDefEqProofs [-opEq_int, ln, qe, q4, q4']
    · have qe : opEq (.int (kC : Int)) (.int (ps.length : Int)) = some (.bl false) := by rw [opEq_ii, decide_eq_false (by omega)]
      simp -implicitDefEqProofs [-opEq_int, ln, qe]
  refine (sSeq_nx (ρ' := [some .non, some (.lst P), some Sp, x3, some Rr, some L5, x6, some (.int (kC : Int)), some (.int (kL : Int)), x9, none, none]) (π' := π1) ?_).trans ?_
  · by_cases q : kL = ps.length
    · have qe : opEq (.int (kL : Int)) (.int (ps.length : Int)) = some (.bl true) := by rw [opEq_ii, decide_eq_true (by omega)]
      have n1 := nel q
      have b1 := box q
      obtain ⟨Tp, hTp⟩ : ∃ k, k = D.tup [.int 1, .int (kL : Int)] := ⟨_, rfl⟩
      rw [← hTp] at b1 ntup
      simp -implicitDefEqProofs [-opEq_int, ln, qe, n1, nrr, b1, ← hTp, ntup]
    · have qe : opEq (.int (kL : Int)) (.int (ps.length : Int)) = some (.bl false) := by rw [opEq_ii, decide_eq_false (by omega)]
      simp -implicitDefEqProofs [-opEq_int, ln, qe]
  rfl
theorem good : ∀ ns : List Int, ns.length ≤ 63 → ∃ π, m_law_ [.lst (DL.iz ns)] (0, 0) = .ok (.bl true, π) := good_of right_eq
end LW
open PySem PySem.W PyProof.Rows
set_option maxRecDepth 100000 in
set_option maxHeartbeats 0 in
theorem PySem.Challenge.cw_pointrows_k58_whole_rows_of_any_points_holds : PySem.Challenge.rw_pointrows_k58_whole_rows_of_any_points.Holds := by
  w_on; o_law; k_head; (case hw => w_witness2)
  k_fill
  refine DL.walk_D (l := PySem.Challenge.rw_pointrows_k58_whole_rows_of_any_points) (m := LW.m_law_) (k := 15) (x := "_law_script") rfl (by decide) rfl ⟨rfl, by decide, by decide⟩ (fun w h Y => PySem.W.kIn_of Y) LW.good ?F
  case F =>
    intro w mg fa h KX G hmg
    refine DL.law_end (T := LW.Top _ mg) hmg ?T (fun T => T.f_law_) (fun T _ => LW.d_law_ T) rfl (fun kV doc pm an cdv ct s u => .of_eq (LW.b_law_ kV doc pm an cdv ct [u] rfl))
    refine' LW.top_mk KX G ?oN ?oT ?aC_Spots ?pg_Spots ?hd_Spots ?po_Spots ?sa_Spots ?mk_Spots ?kc_Spots ?ha_Spots ?hm_Spots ?aC_Told ?pg_Told ?hd_Told ?po_Told ?sa_Told ?nf_Told_told_points ?nf_Spots_own_points ?ic_Spots ?ty_Spots ?kt_Spots_NoneType ?kt_Spots_bool ?kt_Spots_int ?kt_Spots_str ?kt_Spots_list ?kt_Spots_tuple ?kt_Spots_dict ?ic_Told ?ty_Told ?kt_Told_NoneType ?kt_Told_bool ?kt_Told_int ?kt_Told_str ?kt_Told_list ?kt_Told_tuple ?kt_Told_dict ?ne_Told_Spots ?ks_Told_Spots ?st_Spots_NoneType ?st_Spots_bool ?st_Spots_int ?st_Spots_str ?st_Spots_list ?st_Spots_tuple ?st_Spots_dict ?hg_gcd ?a0 ?l0 ?c0 ?k0 ?a1 ?l1 ?c1 ?k1 ?a2 ?l2 ?c2 ?k2 ?a3 ?l3 ?c3 ?k3 ?a4 ?l4 ?c4 ?k4 ?a5 ?l5 ?c5 ?k5 ?a6 ?l6 ?c6 ?k6 ?a7 ?l7 ?c7 ?k7 ?a8 ?l8 ?c8 ?k8 ?a9 ?l9 ?c9 ?k9 ?a10 ?l10 ?c10 ?k10 ?a11 ?l11 ?c11 ?k11 ?a12 ?l12 ?c12 ?k12 ?a13 ?i13 ?l13 ?c13 ?k13 ?a14 ?l14 ?c14 ?k14 ?a15 ?l15 ?c15 ?k15 ?a16 ?l16 ?c16 ?k16 ?a17 ?l17 ?c17 ?k17 ?a18 ?l18 ?c18 ?k18 ?a19 ?l19 ?c19 ?k19 ?a20 ?l20 ?c20 ?k20 ?a21 ?l21 ?c21 ?k21 ?a22 ?l22 ?c22 ?k22 ?a23 ?l23 ?c23 ?k23 ?a24 ?l24 ?c24 ?k24 ?a25 ?l25 ?c25 ?k25 ?a26 ?l26 ?c26 ?k26 ?a27 ?l27 ?c27 ?k27 ?a28 ?l28 ?c28 ?k28 ?a29 ?l29 ?c29 ?k29 ?a30 ?l30 ?c30 ?k30 ?a31 ?l31 ?c31 ?k31 ?a32 ?l32 ?c32 ?k32 ?a33 ?l33 ?c33 ?k33 ?a34 ?l34 ?c34 ?k34 ?a35 ?l35 ?c35 ?k35 ?a36 ?l36 ?c36 ?k36 ?t36 ?a37 ?l37 ?c37 ?k37 ?a38 ?l38 ?c38 ?k38 ?a39 ?l39 ?c39 ?k39 ?a40 ?l40 ?c40 ?k40 ?a41 ?l41 ?c41 ?k41 ?a42 ?l42 ?c42 ?k42 ?a43 ?l43 ?c43 ?k43 ?a44 ?l44 ?c44 ?k44 ?a45 ?l45 ?c45 ?k45 ?a46 ?l46 ?c46 ?k46 ?a47 ?l47 ?c47 ?k47 ?a48 ?l48 ?c48 ?k48 ?a49 ?l49 ?c49 ?k49 ?a50 ?l50 ?c50 ?k50 ?a51 ?l51 ?c51 ?k51 ?hb_abs ?hb_all ?hb_any ?hb_bool ?hb_divmod ?hb_enumerate ?hb_int ?hb_isinstance ?hb_len ?hb_list ?hb_max ?hb_min ?hb_range ?hb_sorted ?hb_sum ?hb_tuple ?hb_zip ?hc_MOST_END ?hc_MOST_PLACES ?hc_MOST_POINTS ?hc_MOST_SUM
    (case oN => k_is)
    (case oT => k_is)
    (case aC_Spots => k_is)
    (case pg_Spots => k_is)
    (case hd_Spots => k_is)
    (case po_Spots => k_is)
    (case sa_Spots => k_is)
    (case mk_Spots => k_is)
    (case kc_Spots => k_is)
    (case ha_Spots => k_is)
    (case hm_Spots => k_is)
    (case aC_Told => k_is)
    (case pg_Told => k_is)
    (case hd_Told => k_is)
    (case po_Told => k_is)
    (case sa_Told => k_is)
    (case nf_Told_told_points => k_is)
    (case nf_Spots_own_points => k_is)
    (case ic_Spots => k_is)
    (case ty_Spots => k_is)
    (case kt_Spots_NoneType => k_is)
    (case kt_Spots_bool => k_is)
    (case kt_Spots_int => k_is)
    (case kt_Spots_str => k_is)
    (case kt_Spots_list => k_is)
    (case kt_Spots_tuple => k_is)
    (case kt_Spots_dict => k_is)
    (case ic_Told => k_is)
    (case ty_Told => k_is)
    (case kt_Told_NoneType => k_is)
    (case kt_Told_bool => k_is)
    (case kt_Told_int => k_is)
    (case kt_Told_str => k_is)
    (case kt_Told_list => k_is)
    (case kt_Told_tuple => k_is)
    (case kt_Told_dict => k_is)
    (case ne_Told_Spots => decide)
    (case ks_Told_Spots => k_is)
    (case st_Spots_NoneType => k_is)
    (case st_Spots_bool => k_is)
    (case st_Spots_int => k_is)
    (case st_Spots_str => k_is)
    (case st_Spots_list => k_is)
    (case st_Spots_tuple => k_is)
    (case st_Spots_dict => k_is)
    (case hg_gcd => k_is)
    (case a0 => k_is)
    (case l0 => k_is)
    (case c0 => k_is)
    (case k0 => k_is)
    (case a1 => k_is)
    (case l1 => k_is)
    (case c1 => k_is)
    (case k1 => k_is)
    (case a2 => k_is)
    (case l2 => k_is)
    (case c2 => k_is)
    (case k2 => k_is)
    (case a3 => k_is)
    (case l3 => k_is)
    (case c3 => k_is)
    (case k3 => k_is)
    (case a4 => k_is)
    (case l4 => k_is)
    (case c4 => k_is)
    (case k4 => k_is)
    (case a5 => k_is)
    (case l5 => k_is)
    (case c5 => k_is)
    (case k5 => k_is)
    (case a6 => k_is)
    (case l6 => k_is)
    (case c6 => k_is)
    (case k6 => k_is)
    (case a7 => k_is)
    (case l7 => k_is)
    (case c7 => k_is)
    (case k7 => k_is)
    (case a8 => k_is)
    (case l8 => k_is)
    (case c8 => k_is)
    (case k8 => k_is)
    (case a9 => k_is)
    (case l9 => k_is)
    (case c9 => k_is)
    (case k9 => k_is)
    (case a10 => k_is)
    (case l10 => k_is)
    (case c10 => k_is)
    (case k10 => k_is)
    (case a11 => k_is)
    (case l11 => k_is)
    (case c11 => k_is)
    (case k11 => k_is)
    (case a12 => k_is)
    (case l12 => k_is)
    (case c12 => k_is)
    (case k12 => k_is)
    (case a13 => k_is)
    (case i13 => k_is)
    (case l13 => k_is)
    (case c13 => k_is)
    (case k13 => k_is)
    (case a14 => k_is)
    (case l14 => k_is)
    (case c14 => k_is)
    (case k14 => k_is)
    (case a15 => k_is)
    (case l15 => k_is)
    (case c15 => k_is)
    (case k15 => k_is)
    (case a16 => k_is)
    (case l16 => k_is)
    (case c16 => k_is)
    (case k16 => k_is)
    (case a17 => k_is)
    (case l17 => k_is)
    (case c17 => k_is)
    (case k17 => k_is)
    (case a18 => k_is)
    (case l18 => k_is)
    (case c18 => k_is)
    (case k18 => k_is)
    (case a19 => k_is)
    (case l19 => k_is)
    (case c19 => k_is)
    (case k19 => k_is)
    (case a20 => k_is)
    (case l20 => k_is)
    (case c20 => k_is)
    (case k20 => k_is)
    (case a21 => k_is)
    (case l21 => k_is)
    (case c21 => k_is)
    (case k21 => k_is)
    (case a22 => k_is)
    (case l22 => k_is)
    (case c22 => k_is)
    (case k22 => k_is)
    (case a23 => k_is)
    (case l23 => k_is)
    (case c23 => k_is)
    (case k23 => k_is)
    (case a24 => k_is)
    (case l24 => k_is)
    (case c24 => k_is)
    (case k24 => k_is)
    (case a25 => k_is)
    (case l25 => k_is)
    (case c25 => k_is)
    (case k25 => k_is)
    (case a26 => k_is)
    (case l26 => k_is)
    (case c26 => k_is)
    (case k26 => k_is)
    (case a27 => k_is)
    (case l27 => k_is)
    (case c27 => k_is)
    (case k27 => k_is)
    (case a28 => k_is)
    (case l28 => k_is)
    (case c28 => k_is)
    (case k28 => k_is)
    (case a29 => k_is)
    (case l29 => k_is)
    (case c29 => k_is)
    (case k29 => k_is)
    (case a30 => k_is)
    (case l30 => k_is)
    (case c30 => k_is)
    (case k30 => k_is)
    (case a31 => k_is)
    (case l31 => k_is)
    (case c31 => k_is)
    (case k31 => k_is)
    (case a32 => k_is)
    (case l32 => k_is)
    (case c32 => k_is)
    (case k32 => k_is)
    (case a33 => k_is)
    (case l33 => k_is)
    (case c33 => k_is)
    (case k33 => k_is)
    (case a34 => k_is)
    (case l34 => k_is)
    (case c34 => k_is)
    (case k34 => k_is)
    (case a35 => k_is)
    (case l35 => k_is)
    (case c35 => k_is)
    (case k35 => k_is)
    (case a36 => k_is)
    (case l36 => k_is)
    (case c36 => k_is)
    (case k36 => k_is)
    (case t36 => k_is)
    (case a37 => k_is)
    (case l37 => k_is)
    (case c37 => k_is)
    (case k37 => k_is)
    (case a38 => k_is)
    (case l38 => k_is)
    (case c38 => k_is)
    (case k38 => k_is)
    (case a39 => k_is)
    (case l39 => k_is)
    (case c39 => k_is)
    (case k39 => k_is)
    (case a40 => k_is)
    (case l40 => k_is)
    (case c40 => k_is)
    (case k40 => k_is)
    (case a41 => k_is)
    (case l41 => k_is)
    (case c41 => k_is)
    (case k41 => k_is)
    (case a42 => k_is)
    (case l42 => k_is)
    (case c42 => k_is)
    (case k42 => k_is)
    (case a43 => k_is)
    (case l43 => k_is)
    (case c43 => k_is)
    (case k43 => k_is)
    (case a44 => k_is)
    (case l44 => k_is)
    (case c44 => k_is)
    (case k44 => k_is)
    (case a45 => k_is)
    (case l45 => k_is)
    (case c45 => k_is)
    (case k45 => k_is)
    (case a46 => k_is)
    (case l46 => k_is)
    (case c46 => k_is)
    (case k46 => k_is)
    (case a47 => k_is)
    (case l47 => k_is)
    (case c47 => k_is)
    (case k47 => k_is)
    (case a48 => k_is)
    (case l48 => k_is)
    (case c48 => k_is)
    (case k48 => k_is)
    (case a49 => k_is)
    (case l49 => k_is)
    (case c49 => k_is)
    (case k49 => k_is)
    (case a50 => k_is)
    (case l50 => k_is)
    (case c50 => k_is)
    (case k50 => k_is)
    (case a51 => k_is)
    (case l51 => k_is)
    (case c51 => k_is)
    (case k51 => k_is)
    (case hb_abs => k_is)
    (case hb_all => k_is)
    (case hb_any => k_is)
    (case hb_bool => k_is)
    (case hb_divmod => k_is)
    (case hb_enumerate => k_is)
    (case hb_int => k_is)
    (case hb_isinstance => k_is)
    (case hb_len => k_is)
    (case hb_list => k_is)
    (case hb_max => k_is)
    (case hb_min => k_is)
    (case hb_range => k_is)
    (case hb_sorted => k_is)
    (case hb_sum => k_is)
    (case hb_tuple => k_is)
    (case hb_zip => k_is)
    (case hc_MOST_END => k_is)
    (case hc_MOST_PLACES => k_is)
    (case hc_MOST_POINTS => k_is)
    (case hc_MOST_SUM => k_is)
