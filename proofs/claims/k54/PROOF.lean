import PyProof.Rows.All
import Wide.All
import OpenK.AllK
import Wide.FinOn
import KE.OsRunLaw
import PySem.Challenge.RW_pointrows_k54_whole_rows_with_a_sum
import HandS.ForMost
import HandS.WordsExc
import HandS.Walk
import HandS.Wide
import HandS.WideBits
import HandS.TupAny
import HandS.Deep
import HandS.Flow
import HandS.Style
import HandS.Steps
import HandS.Iter
import KE.GoesNew
import HandS.Defaults
import HandS.MakeKwOnly
import HandS.IsInst
import HandS.SortInts
import HandS.Gcd
import HandS.Conv
import HandS.Dict
import PyProof.ReprRoads
import PyProof.CallFns
import HandS.Ends
import HandS.EndBits
import KE.GoesMore
import KE.GoesEnum
import HandS.Property
import HandS.Strs
import PyProof.P3In
import HandS.Codes
import PyProof.MaxThree
import HandS.TryOnly
import HandS.OwnEq
import PyProof.InstNe
import HandS.TupSets
import PyProof.TupleOfSeq
import HandS.More
import HandS.TupMul
import PyProof.StrOps2
import HandS.ExcOwn
import PyProof.ExcBaseAll.RuntimeError
import PyProof.ExcBaseAll.ValueError
import HandS.Flt
import HandS.TupLen
import PyProof.DictTruth
import KE.KDictOf
import KE.KDictCopyH
import KE.KDictWalk
import HandS.DictComp
import PyProof.DictCompW
import HandS.SortKw
import KE.KDictSum
import PyProof.Rows.CallKwBuiltin
import KE.KDictDisplayH
import PyProof.DictDisplay
import KE.KOpsOwn
import KE.KDictPairs
import HandS.FStr
import OpenK.KOps
import PyProof.SumWalkG
import PyProof.WalkInts
import HandS.DeepEq
import PyProof.DictFindH
import KE.LtSeq
import KE.LtData
import KE.KSortAsk
import HandS.NamedTupSort
import HandS.ExcInit
import HandS.ExcField
import HandS.SetFor
import PyProof.Rows.SetFrom
import PyProof.NeKinds
import KE.DataMinMax
import PyProof.P3Eq
import PyProof.FitsInt
set_option Elab.async false
set_option maxRecDepth 100000
set_option maxHeartbeats 0
namespace LH
open PySem PySem.W PySem.Calls PyProof.Rows
def vw : Program := view PySem.Challenge.pw_pointrows_k54_whole_rows_with_a_sum [35]
def lo0 : List PySem.Str := [⟨#[83, 112, 111, 116, 69, 114, 114, 111, 114]⟩, ⟨#[73, 110, 118, 97, 108, 105, 100, 77, 97, 110, 121]⟩, ⟨#[73, 110, 118, 97, 108, 105, 100, 82, 111, 119]⟩, ⟨#[105, 115, 95, 105, 110, 116, 101, 103, 101, 114]⟩, ⟨#[105, 115, 95, 99, 111, 117, 110, 116]⟩, ⟨#[105, 115, 95, 108, 105, 115, 116]⟩, ⟨#[119, 97, 110, 116, 95, 109, 97, 110, 121]⟩, ⟨#[77, 79, 83, 84, 95, 80, 76, 65, 67, 69, 83]⟩, ⟨#[77, 79, 83, 84, 95, 83, 85, 77]⟩, ⟨#[105, 115, 95, 99, 111, 117, 110, 116, 115]⟩, ⟨#[103, 111, 101, 115, 95, 111, 110]⟩, ⟨#[102, 97, 117, 108, 116, 95, 111, 102]⟩, ⟨#[105, 115, 95, 114, 111, 119]⟩, ⟨#[119, 97, 110, 116, 95, 114, 111, 119]⟩, ⟨#[108, 101, 110, 103, 116, 104, 115, 95, 111, 102]⟩, ⟨#[108, 101, 110, 103, 116, 104, 115]⟩, ⟨#[114, 111, 119, 95, 111, 102]⟩, ⟨#[112, 97, 114, 116, 115, 95, 111, 102]⟩, ⟨#[114, 111, 119, 115, 95, 111, 102]⟩, ⟨#[114, 111, 119, 95, 99, 111, 117, 110, 116]⟩, ⟨#[112, 97, 114, 116, 105, 110, 103, 115]⟩, ⟨#[95, 108, 97, 119, 95, 112, 111, 116]⟩, ⟨#[95, 108, 97, 119, 95, 100, 114, 97, 119]⟩, ⟨#[95, 108, 97, 119, 95, 112, 105, 99, 107]⟩, ⟨#[95, 108, 97, 119, 95, 114, 111, 119]⟩, ⟨#[95, 108, 97, 119, 95, 112, 97, 115, 115, 101, 100]⟩, ⟨#[95, 108, 97, 119, 95, 111, 110]⟩, ⟨#[95, 108, 97, 119, 95, 108, 111, 116, 115]⟩, ⟨#[95, 108, 97, 119, 95, 114, 105, 103, 104, 116]⟩]
def lo : List PySem.Str := lo0

end LH
section
open PySem PySem.W
local macro_rules
  | `(tactic| refine $f:ident (q := $_) (loose := $_) (Xt := $_) (XP := $_) $rest*) => if f.getId.eraseMacroScopes == `PySem.W.holds_open then `(tactic| refine ($f (q := LH.vw) (loose := LH.lo) (Xt := fun s => xlAt LH.vw [] s && recOk (RowW.records (OpenRow.toRowW (OpenLaw.row PySem.Challenge.rw_pointrows_k54_whole_rows_with_a_sum))) s) (XP := XL LH.vw []) $rest*)) else Lean.Macro.throwUnsupported
local macro_rules
  | `(tactic| k_head) => `(tactic| k_headL)
open_top LH.hd for PySem.Challenge.rw_pointrows_k54_whole_rows_with_a_sum
end

set_option Elab.async false
set_option linter.all false
set_option maxRecDepth 100000
namespace DL
open PySem PySem.Spec PyProof.Rows L2
abbrev DKey := Sum Key (List Key)
inductive D where
  | non | bl (b : Bool) | int (i : Int) | str (x : Str)
  | lst (xs : List D) | tup (xs : List D)
  | dic (ks : List DKey) (xs : List D)
  | ins (c : Str) (ns : List Str) (xs : List D)
abbrev Pot := Int × Int
inductive Res (α : Type) where
  | ok (a : α)
  | err (c : Str) (ns : List Str) (xs : List D) (π : Pot)
  | stuck
def Res.bind {α β : Type} (x : Res α) (f : α → Res β) : Res β := match x with
  | .ok a => f a
  | .err c ns xs π => .err c ns xs π
  | .stuck => .stuck
@[simp] theorem Res.bind_ok {α β : Type} (a : α) (f : α → Res β) : (Res.ok a).bind f = f a := rfl
@[simp] theorem Res.bind_stuck {α β : Type} (f : α → Res β) : (Res.stuck : Res α).bind f = .stuck := rfl
@[simp] theorem Res.bind_err {α β : Type} (c : Str) (ns : List Str) (xs : List D) (π : Pot) (f : α → Res β) : (Res.err c ns xs π : Res α).bind f = .err c ns xs π := rfl
/-- a tuple that is tracked -/
abbrev TpK (_ : PySem.W.Frag) (H : Hp) (a : Addr) (vs : List V) : Prop := H a = some (.tup vs)
section
variable (mg : Str → Option Value) (K : PySem.W.Frag) (H : Hp)
mutual
/-- the value stands for the datum, all of it to be read in the heap -/
inductive Rp : V → D → Prop
  | non : Rp .non .non
  | bl (b : Bool) : Rp (.bl b) (.bl b)
  | int (i : Int) : Rp (.int i) (.int i)
  | str (x : Str) : Rp (.str x) (.str x)
  | lst {a : Addr} {vs : List V} {ds : List D} : H a = some (.lst vs) → RpL vs ds → Rp (.ref a) (.lst ds)
  | tup {a : Addr} {vs : List V} {ds : List D} : TpK K H a vs → RpL vs ds → Rp (.ref a) (.tup ds)
  | dicK {a : Addr} {q : Key × V} {kvs : List (Key × V)} {ds : List D} : Rd H a (.dK (q :: kvs)) → RpL ((q :: kvs).map (·.2)) ds → Rp (.ref a) (.dic ((q :: kvs).map fun p => .inl p.1) ds)
  | dicT {a : Addr} {kvs : List (List Key × V)} {ds : List D} : Rd H a (.dT kvs) → RpL (kvs.map (·.2)) ds → Rp (.ref a) (.dic (kvs.map fun p => .inr p.1) ds)
  | ins {a C dx : Addr} {fs : List (Str × V)} {c : Str} {ds : List D} : mg c = some (.ref C) → H a = some (.ins C dx fs) → RpL (fs.map (·.2)) ds → Rp (.ref a) (.ins c (fs.map (·.1)) ds)
inductive RpL : List V → List D → Prop
  | nil : RpL [] []
  | cons {v : V} {vs : List V} {d : D} {ds : List D} : Rp v d → RpL vs ds → RpL (v :: vs) (d :: ds)
end
end
section
variable (mg : Str → Option Value) (K : PySem.W.Frag) (H : Hp)
/-- what an own thing holds -/
inductive HoR : HO → D → Prop
  | lst {vs : List V} {ds : List D} : RpL mg K H vs ds → HoR (.lst vs) (.lst ds)
  | dicK {q : Key × V} {kvs : List (Key × V)} {ds : List D} : RpL mg K H ((q :: kvs).map (·.2)) ds → HoR (.dK (q :: kvs)) (.dic ((q :: kvs).map fun p => .inl p.1) ds)
  | dicT {kvs : List (List Key × V)} {ds : List D} : RpL mg K H (kvs.map (·.2)) ds → HoR (.dT kvs) (.dic (kvs.map fun p => .inr p.1) ds)
  | ins {C dx : Addr} {fs : List (Str × V)} {c : Str} {ds : List D} : mg c = some (.ref C) → RpL mg K H (fs.map (·.2)) ds → HoR (.ins C dx fs) (.ins c (fs.map (·.1)) ds)
end
/-- the heap without the cells that may change -/
def less (H : Hp) (M : List Addr) : Hp := fun a => if a ∈ M then none else H a
theorem less_some {H : Hp} {M : List Addr} {a : Addr} {o : HO} : less H M a = some o ↔ a ∉ M ∧ H a = some o := by
  unfold less
  by_cases h : a ∈ M
  · rw [if_pos h]
    exact ⟨fun e => (by cases e), fun e => absurd h e.1⟩
  · rw [if_neg h]
    exact ⟨fun e => ⟨h, e⟩, fun e => e.2⟩
section
variable {mg : Str → Option Value} {K : PySem.W.Frag} {H H' : Hp}
theorem sqL_mono {a : Addr} {xs : List V} (e : Same H H') (h : SqL K H a xs) : SqL K H' a xs := e.seq h
theorem rd_mono {a : Addr} {u : HO} (e : Same H H') (h : Rd H a u) : Rd H' a u := by
  rcases h with h | ⟨o, h⟩
  · exact .inl (e _ _ h)
  · exact .inr ⟨o, e _ _ h⟩
theorem sqT_mono {a : Addr} {xs : List V} (e : Same H H') (h : SqT K H a xs) : SqT K H' a xs := by
  rcases h with h | h
  · exact .inl (rd_mono e h)
  · exact .inr h
mutual
theorem Rp.mono (e : Same H H') : ∀ {v : V} {d : D}, Rp mg K H v d → Rp mg K H' v d
  | _, _, .non => .non
  | _, _, .bl b => .bl b
  | _, _, .int i => .int i
  | _, _, .str x => .str x
  | _, _, .lst h r => .lst (e _ _ h) (RpL.mono e r)
  | _, _, .tup h r => .tup (e _ _ h) (RpL.mono e r)
  | _, _, .dicK h r => .dicK (rd_mono e h) (RpL.mono e r)
  | _, _, .dicT h r => .dicT (rd_mono e h) (RpL.mono e r)
  | _, _, .ins m h r => .ins m (e _ _ h) (RpL.mono e r)
theorem RpL.mono (e : Same H H') : ∀ {vs : List V} {ds : List D}, RpL mg K H vs ds → RpL mg K H' vs ds
  | _, _, .nil => .nil
  | _, _, .cons h r => .cons (Rp.mono e h) (RpL.mono e r)
end
theorem HoR.mono {o : HO} {d : D} (e : Same H H') (h : HoR mg K H o d) : HoR mg K H' o d := by
  cases h with
  | lst r => exact .lst (r.mono e)
  | dicK r => exact .dicK (r.mono e)
  | dicT r => exact .dicT (r.mono e)
  | ins m r => exact .ins m (r.mono e)
theorem HoR.rp {a : Addr} {o : HO} {d : D} (e : H a = some o) (h : HoR mg K H o d) : Rp mg K H (.ref a) d := by
  cases h with
  | lst r => exact .lst e r
  | dicK r => exact .dicK (.inl e) r
  | dicT r => exact .dicT (.inl e) r
  | ins m r => exact .ins m e r
theorem RpL.length : ∀ {vs : List V} {ds : List D}, RpL mg K H vs ds → vs.length = ds.length
  | _, _, .nil => rfl
  | _, _, .cons _ r => congrArg Nat.succ r.length
theorem RpL.append : ∀ {vs ws : List V} {ds es : List D}, RpL mg K H vs ds → RpL mg K H ws es → RpL mg K H (vs ++ ws) (ds ++ es)
  | _, _, _, _, .nil, s => s
  | _, _, _, _, .cons h r, s => .cons h (r.append s)
theorem RpL.get : ∀ {vs : List V} {ds : List D} {i : Nat} {d : D}, RpL mg K H vs ds → ds[i]? = some d → ∃ v, vs[i]? = some v ∧ Rp mg K H v d
  | _, _, _, _, .nil, e => by simp at e
  | _, _, 0, _, .cons h r, e => by
    simp at e
    subst e
    exact ⟨_, rfl, h⟩
  | _, _, i + 1, _, .cons h r, e => by
    obtain ⟨v, q, p⟩ := r.get (i := i) (by simpa using e)
    exact ⟨v, by simpa using q, p⟩
theorem RpL.getV : ∀ {vs : List V} {ds : List D} {i : Nat} {v : V}, RpL mg K H vs ds → vs[i]? = some v → ∃ d, ds[i]? = some d ∧ Rp mg K H v d
  | _, _, _, _, .nil, e => by simp at e
  | _, _, 0, _, .cons h r, e => by
    simp at e
    subst e
    exact ⟨_, rfl, h⟩
  | _, _, i + 1, _, .cons h r, e => by
    obtain ⟨v, q, p⟩ := r.getV (i := i) (by simpa using e)
    exact ⟨v, by simpa using q, p⟩
theorem RpL.take : ∀ {vs : List V} {ds : List D} (n : Nat), RpL mg K H vs ds → RpL mg K H (vs.take n) (ds.take n)
  | _, _, 0, _ => .nil
  | _, _, _ + 1, .nil => .nil
  | _, _, n + 1, .cons h r => .cons h (r.take n)
theorem RpL.drop : ∀ {vs : List V} {ds : List D} (n : Nat), RpL mg K H vs ds → RpL mg K H (vs.drop n) (ds.drop n)
  | _, _, 0, r => r
  | _, _, _ + 1, .nil => .nil
  | _, _, n + 1, .cons _ r => r.drop n
theorem RpL.set : ∀ {vs : List V} {ds : List D} (i : Nat) {v : V} {d : D}, Rp mg K H v d → RpL mg K H vs ds → RpL mg K H (vs.set i v) (ds.set i d)
  | _, _, _, _, _, _, .nil => .nil
  | _, _, 0, _, _, h, .cons _ r => .cons h r
  | _, _, i + 1, _, _, h, .cons q r => .cons q (r.set i h)
theorem RpL.reverse : ∀ {vs : List V} {ds : List D}, RpL mg K H vs ds → RpL mg K H vs.reverse ds.reverse
  | _, _, .nil => .nil
  | _, _, .cons h r => by
    rw [List.reverse_cons, List.reverse_cons]
    exact r.reverse.append (.cons h .nil)
theorem RpL.replicate {v : V} {d : D} (h : Rp mg K H v d) : ∀ n, RpL mg K H (List.replicate n v) (List.replicate n d)
  | 0 => .nil
  | n + 1 => .cons h (RpL.replicate h n)
theorem RpL.flat {vs : List V} {ds : List D} (h : RpL mg K H vs ds) : ∀ n, RpL mg K H (List.replicate n vs).flatten (List.replicate n ds).flatten
  | 0 => .nil
  | n + 1 => by
    rw [List.replicate_succ, List.replicate_succ, List.flatten_cons, List.flatten_cons]
    exact h.append (RpL.flat h n)
/-- ints -/
abbrev iz (ns : List Int) : List D := ns.map D.int
theorem RpL.iz : ∀ {ns : List Int} {vs : List V}, RpL mg K H vs (DL.iz ns) → vs = ns.map V.int
  | [], _, .nil => rfl
  | n :: ns, _, .cons h r => by
    cases h
    rw [RpL.iz r]
    rfl
theorem RpL.of_ints : ∀ (ns : List Int), RpL mg K H (ns.map V.int) (DL.iz ns)
  | [] => .nil
  | n :: ns => .cons (.int n) (RpL.of_ints ns)
mutual
def toPy : D → Option PyData
  | .non => some .none
  | .bl b => some (.bool b)
  | .int i => some (.int i)
  | .str x => some (.str x)
  | .lst xs => (toPyL xs).map .list
  | .tup xs => (toPyL xs).map .tuple
  | .dic _ _ => none
  | .ins _ _ _ => none
def toPyL : List D → Option (List PyData)
  | [] => some []
  | x :: xs => match toPy x, toPyL xs with
    | some p, some ps => some (p :: ps)
    | _, _ => none
end
mutual
theorem Rp.dp : ∀ {v : V} {d : D} {p : PyData}, Rp mg K H v d → toPy d = some p → Dp K H v p
  | _, _, _, .non, e => by
    cases e
    exact .non
  | _, _, _, .bl b, e => by
    cases e
    exact .bl b
  | _, _, _, .int i, e => by
    cases e
    exact .int i
  | _, _, _, .str x, e => by
    cases e
    exact .str x
  | _, .lst ds, p, .lst h r, e => by
    simp only [toPy, Option.map_eq_some_iff] at e
    obtain ⟨ps, e1, rfl⟩ := e
    exact .lst (.inl (.inl h)) (RpL.dp r e1)
  | _, .tup ds, p, .tup h r, e => by
    simp only [toPy, Option.map_eq_some_iff] at e
    obtain ⟨ps, e1, rfl⟩ := e
    exact .tup (.inl (.inl h)) (RpL.dp r e1)
  | _, _, _, .dicK _ _, e => by simp [toPy] at e
  | _, _, _, .dicT _ _, e => by simp [toPy] at e
  | _, _, _, .ins _ _ _, e => by simp [toPy] at e
theorem RpL.dp : ∀ {vs : List V} {ds : List D} {ps : List PyData}, RpL mg K H vs ds → toPyL ds = some ps → DpAll K H vs ps
  | _, _, _, .nil, e => by
    simp only [toPyL, Option.some.injEq] at e
    subst e
    exact .nil
  | _, d :: ds, ps, .cons h r, e => by
    simp only [toPyL] at e
    split at e
    · rename_i p qs e1 e2
      cases e
      exact .cons (Rp.dp h e1) (RpL.dp r e2)
    · cases e
end
end
end DL
set_option maxHeartbeats 2000000
namespace DL
open PySem PySem.Spec PyProof.Rows L2
/-- how a slot is held: not at all, as data, as a list of the def's own that changes, as the pot -/
inductive Md where | u | f | o | p | s | x (a dd : Addr)
  deriving DecidableEq
/-- how a value comes: as data, to be looked at only, as a new list -/
inductive Rm where | f | b | o | t
  deriving DecidableEq
/-- how an argument goes -/
inductive Ak where | f | b | p | s
  deriving DecidableEq
abbrev Rho := List (Option D)
abbrev Ed := Rho → Pot → Res (D × Pot)
abbrev Et := Rho → Pot → Res (Bool × Pot)
abbrev Ea := Rho → Pot → Res (List D × Pot)
abbrev Fd := List D → Pot → Res (D × Pot)
def Grow (pot : Option Addr) (H H' : Hp) : Prop := ∀ a o, pot ≠ some a → H a = some o → H' a = some o
/-- there is something, and it's no tuple -/
def Al (H : Hp) (a : Addr) : Prop := ∃ o, H a = some o ∧ ∀ xs, o ≠ .tup xs
theorem Al.nn {H : Hp} {a : Addr} (h : Al H a) : H a ≠ none := fun e => by
  obtain ⟨o, h, _⟩ := h
  rw [e] at h
  cases h
theorem Al.of {H : Hp} {a : Addr} {o : HO} (h : H a = some o) (n : ∀ xs, o ≠ .tup xs) : Al H a := ⟨o, h, n⟩
theorem HoR.nt {mg : Str → Option Value} {K : PySem.W.Frag} {H : Hp} {o : HO} {d : D} (h : HoR mg K H o d) : ∀ xs, o ≠ .tup xs := fun xs e => by
  subst e
  cases h
def PotAt (pot : Option Addr) (H : Hp) (π : Pot) : Prop := ∀ p, pot = some p → H p = some (.lst [.int π.1, .int π.2])
section
variable (mg : Str → Option Value) (K : PySem.W.Frag)
def Own (pot : Option Addr) (M : List Addr) (H : Hp) (p : Addr) (d : D) : Prop :=
  pot ≠ some p ∧ ∃ o, H p = some o ∧ HoR mg K (less H (p :: M)) o d
def Rb (pot : Option Addr) (M : List Addr) (H : Hp) (v : V) (d : D) : Prop :=
  Rp mg K (less H M) v d ∨ ∃ p, v = .ref p ∧ Own mg K pot M H p d
/-- a new tuple of new things -/
def OwnT (pot : Option Addr) (M : List Addr) (H H' : Hp) (v : V) (d : D) : Prop :=
  ∃ q ps ds, v = .ref q ∧ d = .tup ds ∧ H' q = some (.tup (ps.map V.ref)) ∧ H q = none ∧ q ∉ M ∧ q ∉ ps ∧ ds.length = ps.length ∧ pot ≠ some q ∧
    ∀ (i : Nat) (p : Addr) (e : D), ps[i]? = some p → ds[i]? = some e → pot ≠ some p ∧ H p = none ∧ p ∉ M ∧ ∃ o, H' p = some o ∧ HoR mg K (less H' (ps ++ M)) o e
def RpR (r : Rm) (pot : Option Addr) (M : List Addr) (H H' : Hp) (v : V) (d : D) : Prop := match r with
  | .f => Rp mg K (less H' M) v d
  | .b => Rb mg K pot M H' v d
  | .o => ∃ p, v = .ref p ∧ H p = none ∧ Own mg K pot M H' p d
  | .t => OwnT mg K pot M H H' v d
def ArgR (pot : Option Addr) (M : List Addr) (H : Hp) (k : Ak) (v : V) (d : D) : Prop := match k with
  | .f => Rp mg K (less H M) v d
  | .b => Rb mg K pot M H v d
  | .p => ∃ p, pot = some p ∧ v = .ref p
  | .s => ∃ p ns, v = .ref p ∧ d = .lst (DL.iz ns) ∧ SqL K (less H M) p (ns.map V.int)
inductive Args (pot : Option Addr) (M : List Addr) (H : Hp) : List Ak → List V → List D → Prop
  | nil : Args pot M H [] [] []
  | cons {k : Ak} {v : V} {d : D} {ks : List Ak} {vs : List V} {ds : List D} : ArgR mg K pot M H k v d → Args pot M H ks vs ds → Args pot M H (k :: ks) (v :: vs) (d :: ds)
def ErrAt (M : List Addr) (H : Hp) (cv : Value) (dd : Option Addr) (c : Str) (ns : List Str) (xs : List D) : Prop :=
  ∃ C, mg c = some (.ref C) ∧ cv = .ref C ∧ ((dd = none ∧ ns = [] ∧ xs = []) ∨ ∃ a fs, dd = some a ∧ H a = some (.xd fs) ∧ a ∉ M ∧ ns = fs.map (·.1) ∧ RpL mg K (less H M) (fs.map (·.2)) xs)
def PErr (pot : Option Addr) (M : List Addr) (H : Hp) (c : Str) (ns : List Str) (xs : List D) (π : Pot) (E : XK) : Prop :=
  ∀ cv dd H', Grow pot H H' → PotAt pot H' π → ErrAt mg K M H' cv dd c ns xs → E cv dd H'
def Post (r : Rm) (pot : Option Addr) (M : List Addr) (H : Hp) (x : Res (D × Pot)) (Q : VK) (E : XK) : Prop := match x with
  | .ok (d, π) => ∀ v H', Grow pot H H' → PotAt pot H' π → RpR mg K r pot M H H' v d → Q v H'
  | .err c ns xs π => PErr mg K pot M H c ns xs π E
  | .stuck => False
def PostT (pot : Option Addr) (M : List Addr) (H : Hp) (x : Res (Bool × Pot)) (Q : Bool → Hp → Prop) (E : XK) : Prop := match x with
  | .ok (b, π) => ∀ H', Grow pot H H' → PotAt pot H' π → Q b H'
  | .err c ns xs π => PErr mg K pot M H c ns xs π E
  | .stuck => False
def PostA (ks : List Ak) (pot : Option Addr) (M : List Addr) (H : Hp) (x : Res (List D × Pot)) (Q : List V → Hp → Prop) (E : XK) : Prop := match x with
  | .ok (ds, π) => ∀ vs H', Grow pot H H' → PotAt pot H' π → Args mg K pot M H' ks vs ds → Q vs H'
  | .err c ns xs π => PErr mg K pot M H c ns xs π E
  | .stuck => False
/-- the fields of an error at dd -/
def XdR (H : Hp) (dd : Addr) (d : D) : Prop := ∃ fs xs c, H dd = some (.xd fs) ∧ d = .ins c (fs.map (·.1)) xs ∧ RpL mg K H (fs.map (·.2)) xs
structure EnvOk (Γ : List Md) (pot : Option Addr) (M : List Addr) (σ : L2.St) (H : Hp) (ρ : Rho) : Prop where
  ls : σ.length = Γ.length
  lr : ρ.length = Γ.length
  f : ∀ (i : Nat) (d : D), Γ[i]? = some .f → ρ[i]? = some (some d) → ∃ v, σ[i]? = some (some v) ∧ Rp mg K (less H M) v d
  o : ∀ (i : Nat) (d : D), Γ[i]? = some .o → ρ[i]? = some (some d) → ∃ p, σ[i]? = some (some (.ref p)) ∧ p ∈ M ∧ Own mg K pot M H p d
  p : ∀ (i : Nat), Γ[i]? = some .p → ∃ p, pot = some p ∧ σ[i]? = some (some (.ref p))
  s : ∀ (i : Nat) (d : D), Γ[i]? = some .s → ρ[i]? = some (some d) → ∃ p ns, σ[i]? = some (some (.ref p)) ∧ d = .lst (DL.iz ns) ∧ SqL K (less H M) p (ns.map V.int)
  ap : ∀ (i j : Nat) (a : Addr) (d e : D), Γ[i]? = some .o → Γ[j]? = some .o → ρ[i]? = some (some d) → ρ[j]? = some (some e) → σ[i]? = some (some (.ref a)) → σ[j]? = some (some (.ref a)) → i = j
  al : ∀ a ∈ M, Al H a
  pm : ∀ a, pot = some a → a ∈ M
  x : ∀ (i : Nat) (a dd : Addr) (d : D), Γ[i]? = some (.x a dd) → ρ[i]? = some (some d) → σ[i]? = some (some (.ref a)) ∧ XdR mg K (less H M) dd d
def SemE (E : XK) (r : Rm) (Γ : List Md) (te : TE) (fe : Ed) : Prop :=
  ∀ pot M σ H ρ π, EnvOk mg K Γ pot M σ H ρ → PotAt pot H π → ∀ Q, Post mg K r pot M H (fe ρ π) Q E → te σ H Q
def SemT (E : XK) (Γ : List Md) (tt : TT) (ft : Et) : Prop :=
  ∀ pot M σ H ρ π, EnvOk mg K Γ pot M σ H ρ → PotAt pot H π → ∀ Q, PostT mg K pot M H (ft ρ π) Q E → tt σ H Q
def SemA (E : XK) (ks : List Ak) (Γ : List Md) (ta : TA) (fa : Ea) : Prop :=
  ∀ pot M σ H ρ π, EnvOk mg K Γ pot M σ H ρ → PotAt pot H π → ∀ Q, PostA mg K ks pot M H (fa ρ π) Q E → ta σ H Q
end
section
variable {mg : Str → Option Value} {K : PySem.W.Frag} {pot : Option Addr} {M : List Addr} {H H' H1 H2 : Hp} {π : Pot} {Γ : List Md} {σ : L2.St} {ρ : Rho} {v : V} {d : D}
theorem Grow.refl : Grow pot H H := fun _ _ _ h => h
theorem Grow.trans (a : Grow pot H H1) (b : Grow pot H1 H2) : Grow pot H H2 := fun x o n h => b x o n (a x o n h)
theorem Grow.of_same (e : Same H H') : Grow pot H H' := fun a o _ h => e a o h
theorem same_upd {p : Addr} {o : HO} (h : H p = none) : Same H (upd H p o) := fun b x e => by
  rw [upd_ne (ne_of_none e h)]
  exact e
theorem Grow.new {p : Addr} {o : HO} (h : H p = none) : Grow pot H (upd H p o) := .of_same (same_upd h)
/-- nothing that was there is hurt: data stays -/
theorem less_grow (hp : ∀ a, pot = some a → a ∈ M) (g : Grow pot H H') : Same (less H M) (less H' M) := fun a o h => by
  obtain ⟨h1, h2⟩ := less_some.mp h
  exact less_some.mpr ⟨h1, g a o (fun e => h1 (hp a e)) h2⟩
theorem less_sub {N : List Addr} (h : ∀ a ∈ N, a ∈ M) : Same (less H M) (less H N) := fun a o e => by
  obtain ⟨h1, h2⟩ := less_some.mp e
  exact less_some.mpr ⟨fun q => h1 (h a q), h2⟩
theorem PotAt.same (p : PotAt pot H π) (e : Same H H') : PotAt pot H' π := fun a h => e _ _ (p a h)
theorem PotAt.new {q : Addr} {o : HO} (p : PotAt pot H π) (h : H q = none) : PotAt pot (upd H q o) π := p.same (same_upd h)
theorem Own.grow {p : Addr} (hp : ∀ a, pot = some a → a ∈ M) (g : Grow pot H H') (h : Own mg K pot M H p d) : Own mg K pot M H' p d := by
  obtain ⟨n, o, h1, h2⟩ := h
  exact ⟨n, o, g _ _ n h1, h2.mono (less_grow (fun a q => List.mem_cons_of_mem _ (hp a q)) g)⟩
theorem Rb.grow (hp : ∀ a, pot = some a → a ∈ M) (g : Grow pot H H') (h : Rb mg K pot M H v d) : Rb mg K pot M H' v d := by
  rcases h with h | ⟨p, e, h⟩
  · exact .inl (h.mono (less_grow hp g))
  · exact .inr ⟨p, e, h.grow hp g⟩
theorem ArgR.grow {k : Ak} (hp : ∀ a, pot = some a → a ∈ M) (g : Grow pot H H') (h : ArgR mg K pot M H k v d) : ArgR mg K pot M H' k v d := by
  cases k with
  | f => exact h.mono (less_grow hp g)
  | b => exact Rb.grow hp g h
  | p => exact h
  | s =>
    obtain ⟨q, ns, e1, e2, e3⟩ := h
    exact ⟨q, ns, e1, e2, sqL_mono (less_grow hp g) e3⟩
theorem Args.grow {ks : List Ak} {vs : List V} {ds : List D} (hp : ∀ a, pot = some a → a ∈ M) (g : Grow pot H H') (h : Args mg K pot M H ks vs ds) : Args mg K pot M H' ks vs ds := by
  induction h with
  | nil => exact .nil
  | cons a _ ih => exact .cons (a.grow hp g) ih
theorem Args.length {ks : List Ak} {vs : List V} {ds : List D} (h : Args mg K pot M H ks vs ds) : vs.length = ks.length := by
  induction h with
  | nil => rfl
  | cons _ _ ih => exact congrArg Nat.succ ih
theorem alive (al : ∀ a ∈ M, Al H a) (p : PotAt pot H' π) (g : Grow pot H H') : ∀ a ∈ M, Al H' a := fun a ha => by
  obtain ⟨o, h, n⟩ := al a ha
  by_cases q : pot = some a
  · exact .of (p a q) fun xs e => by cases e
  · exact .of (g a o q h) n
theorem XdR.mono {H H' : Hp} (e : Same H H') {dd : Addr} (h : XdR mg K H dd d) : XdR mg K H' dd d := by
  obtain ⟨fs, xs, c, h1, h2, h3⟩ := h
  exact ⟨fs, xs, c, e _ _ h1, h2, h3.mono e⟩
theorem EnvOk.grow (I : EnvOk mg K Γ pot M σ H ρ) (g : Grow pot H H') (p : PotAt pot H' π) : EnvOk mg K Γ pot M σ H' ρ where
  ls := I.ls
  lr := I.lr
  f := fun i d h1 h2 => by
    obtain ⟨v, e, r⟩ := I.f i d h1 h2
    exact ⟨v, e, r.mono (less_grow I.pm g)⟩
  o := fun i d h1 h2 => by
    obtain ⟨q, e, m, r⟩ := I.o i d h1 h2
    exact ⟨q, e, m, r.grow I.pm g⟩
  p := I.p
  s := fun i d h1 h2 => by
    obtain ⟨q, ns, e1, e2, e3⟩ := I.s i d h1 h2
    exact ⟨q, ns, e1, e2, sqL_mono (less_grow I.pm g) e3⟩
  ap := I.ap
  al := alive I.al p g
  pm := I.pm
  x := fun i a dd d h1 h2 => ⟨(I.x i a dd d h1 h2).1, (I.x i a dd d h1 h2).2.mono (less_grow I.pm g)⟩
theorem ErrAt.grow {cv : Value} {dd : Option Addr} {c : Str} {ns : List Str} {xs : List D} (h : ErrAt mg K M H cv dd c ns xs) : ErrAt mg K M H cv dd c ns xs := h
/-- a new list is data as well -/
theorem own_f {p : Addr} (al : ∀ a ∈ M, Al H a) (hn : H p = none) (h : Own mg K pot M H' p d) : Rp mg K (less H' M) (.ref p) d := by
  obtain ⟨_, o, h1, h2⟩ := h
  have np : p ∉ M := fun q => (al p q).nn hn
  exact HoR.rp (less_some.mpr ⟨np, h1⟩) (h2.mono (less_sub fun a q => List.mem_cons_of_mem _ q))
theorem RpR.toF (al : ∀ a ∈ M, Al H a) (h : RpR mg K .o pot M H H' v d) : Rp mg K (less H' M) v d := by
  obtain ⟨p, rfl, hn, h⟩ := h
  exact own_f al hn h
theorem rpl_refs {H : Hp} : ∀ {ps : List Addr} {ds : List D}, ds.length = ps.length → (∀ (i : Nat) (p : Addr) (e : D), ps[i]? = some p → ds[i]? = some e → Rp mg K H (.ref p) e) → RpL mg K H (ps.map V.ref) ds
  | [], [], _, _ => .nil
  | [], _ :: _, h, _ => by simp at h
  | _ :: _, [], h, _ => by simp at h
  | p :: ps, d :: ds, h, k => .cons (k 0 p d rfl rfl) (rpl_refs (by simpa using h) fun i q e h1 h2 => k (i + 1) q e (by simpa using h1) (by simpa using h2))
theorem ownT_f (h : OwnT mg K pot M H H' v d) : Rp mg K (less H' M) v d := by
  obtain ⟨q, ps, ds, rfl, rfl, h1, _, h3, _, h5, _, h6⟩ := h
  refine .tup (less_some.mpr ⟨h3, h1⟩) (rpl_refs h5 fun i p e e1 e2 => ?_)
  obtain ⟨_, _, g3, o, g4, g5⟩ := h6 i p e e1 e2
  exact HoR.rp (less_some.mpr ⟨g3, g4⟩) (g5.mono (less_sub fun a ha => List.mem_append_right _ ha))
theorem RpR.toB {r : Rm} (h : RpR mg K r pot M H H' v d) : Rb mg K pot M H' v d := by
  cases r with
  | f => exact .inl h
  | b => exact h
  | o =>
    obtain ⟨p, e, _, h⟩ := h
    exact .inr ⟨p, e, h⟩
  | t => exact .inl (ownT_f h)
/-- seen from further back -/
theorem RpR.back {r : Rm} (g : Grow pot H H1) (h0 : PotAt pot H π) (h : RpR mg K r pot M H1 H2 v d) : RpR mg K r pot M H H2 v d := by
  cases r with
  | f => exact h
  | b => exact h
  | o =>
    obtain ⟨p, e, hn, h⟩ := h
    refine ⟨p, e, ?_, h⟩
    cases q : H p with
    | none => rfl
    | some o =>
      rw [g p o h.1 q] at hn
      cases hn
  | t =>
    have bk : ∀ p, pot ≠ some p → H1 p = none → H p = none := fun p np hn => by
      cases q : H p with
      | none => rfl
      | some o =>
        rw [g p o np q] at hn
        cases hn
    obtain ⟨q, ps, ds, e1, e2, h1, h2, h3, h4, h5, h7, h6⟩ := h
    refine ⟨q, ps, ds, e1, e2, h1, bk q h7 h2, h3, h4, h5, h7, fun i p e a1 a2 => ?_⟩
    obtain ⟨g1, g2, g3, g4⟩ := h6 i p e a1 a2
    exact ⟨g1, bk p g1 g2, g3, g4⟩
theorem PErr.back {c : Str} {ns : List Str} {xs : List D} {π' : Pot} {E : XK} (h : PErr mg K pot M H c ns xs π' E) (g : Grow pot H H1) : PErr mg K pot M H1 c ns xs π' E :=
  fun cv dd H' g' p e => h cv dd H' (g.trans g') p e
/-- the post of what comes last is the post of the whole -/
theorem Post.back {r : Rm} {x : Res (D × Pot)} {Q : VK} {E : XK} (g : Grow pot H H1) (h0 : PotAt pot H π) (h : Post mg K r pot M H x Q E) : Post mg K r pot M H1 x Q E := by
  cases x with
  | ok a => exact fun v H' g' p q => h v H' (g.trans g') p (q.back g h0)
  | err c ns xs π' => exact PErr.back h g
  | stuck => exact h
theorem PostT.back {x : Res (Bool × Pot)} {Q : Bool → Hp → Prop} {E : XK} (g : Grow pot H H1) (h : PostT mg K pot M H x Q E) : PostT mg K pot M H1 x Q E := by
  cases x with
  | ok a => exact fun H' g' p => h H' (g.trans g') p
  | err c ns xs π' => exact PErr.back h g
  | stuck => exact h
/-- first x, then k -/
theorem Post.seq {r r' : Rm} {x : Res (D × Pot)} {k : D × Pot → Res (D × Pot)} {Q : VK} {E : XK} (h : Post mg K r pot M H (x.bind k) Q E) (h0 : PotAt pot H π)
    {te : VK → Prop} (ht : ∀ Q', Post mg K r' pot M H x Q' E → te Q') {R : VK}
    (hk : ∀ d π1 v H1, x = .ok (d, π1) → Grow pot H H1 → PotAt pot H1 π1 → RpR mg K r' pot M H H1 v d → Post mg K r pot M H1 (k (d, π1)) Q E → R v H1) : te R := by
  refine ht R ?_
  cases x with
  | ok a =>
    obtain ⟨d, π1⟩ := a
    exact fun v H1 g p q => hk d π1 v H1 rfl g p q (Post.back g h0 h)
  | err c ns xs π' => exact h
  | stuck => exact h
end
end DL
set_option maxHeartbeats 2000000
namespace DL
open PySem PySem.Spec PyProof.Rows L2
/-- what a rule asks of the place where it is used -/
structure XOk (X : Cx) (E : XK) (k : Nat) : Prop where
  room : Room k X.A
  gd : X.A.guards = some []
  calm : X.calm = true
  pass : Passes (L2.CX X.prog X.w) X E
  own : PassesOwn (model X.prog X.w) X.A X.env X.xe
  nd : X.N.Nodup
theorem XOk.u64 {X : Cx} {E : XK} {k : Nat} (x : XOk X E k) : X.A.units + 64 < cLine := x.room.units
theorem XOk.u65 {X : Cx} {E : XK} {k : Nat} (x : XOk X E k) : X.A.units + 65 < cLine := by
  have := x.room.un
  omega
structure DE (X : Cx) (E : XK) (r : Rm) (Γ : List Md) (e : Expr) (te : TE) (fe : Ed) : Prop where
  pe : PE X e te
  sem : SemE X.mg X.K E r Γ te fe
structure DT (X : Cx) (E : XK) (Γ : List Md) (e : Expr) (tt : TT) (ft : Et) : Prop where
  pt : PT X e tt
  sem : SemT X.mg X.K E Γ tt ft
structure DW (X : Cx) (E : XK) (Γ : List Md) (e : Expr) (tt : TT) (ft : Et) : Prop where
  pw : PW X e tt
  sem : SemT X.mg X.K E Γ tt ft
structure DA (X : Cx) (E : XK) (ks : List Ak) (Γ : List Md) (es : List Expr) (ta : TA) (fa : Ea) : Prop where
  pa : PA X es ta
  sem : SemA X.mg X.K E ks Γ ta fa
theorem DW.dt {X : Cx} {E : XK} {Γ : List Md} {e : Expr} {tt : TT} {ft : Et} (h : DW X E Γ e tt ft) : DT X E Γ e tt ft := ⟨h.pw.pt, h.sem⟩
def ofO {α : Type} : Option α → Res α
  | some a => .ok a
  | none => .stuck
@[simp] theorem ofO_some {α : Type} (a : α) : ofO (some a) = .ok a := rfl
@[simp] theorem ofO_none {α : Type} : ofO (none : Option α) = .stuck := rfl
def eVar (i : Nat) : Ed := fun ρ π => match ρ[i]? with
  | some (some d) => .ok (d, π)
  | _ => .stuck
def eC (d : D) : Ed := fun _ π => .ok (d, π)
def eBin (g : D → D → Option D) (a b : Ed) : Ed := fun ρ π => (a ρ π).bind fun x => (b ρ x.2).bind fun y => (ofO (g x.1 y.1)).bind fun z => .ok (z, y.2)
def eUn (g : D → Option D) (a : Ed) : Ed := fun ρ π => (a ρ π).bind fun x => (ofO (g x.1)).bind fun z => .ok (z, x.2)
def truth : D → Option Bool
  | .non => some false
  | .bl b => some b
  | .int i => some (i != 0)
  | .str y => if y.length ≤ sizeLine then some ((y.length : Int) != 0) else none
  | .lst xs => some (!xs.isEmpty)
  | .tup xs => some (!xs.isEmpty)
  | .dic _ _ => none
  | .ins _ _ _ => none
def eAnd (a b : Ed) : Ed := fun ρ π => (a ρ π).bind fun x => (ofO (truth x.1)).bind fun k => if k = true then b ρ x.2 else .ok x
def eOr (a b : Ed) : Ed := fun ρ π => (a ρ π).bind fun x => (ofO (truth x.1)).bind fun k => if k = true then .ok x else b ρ x.2
def eNot (a : Ed) : Ed := fun ρ π => (a ρ π).bind fun x => (ofO (truth x.1)).bind fun k => .ok (.bl (!k), x.2)
def eIf (t : Et) (a b : Ed) : Ed := fun ρ π => (t ρ π).bind fun x => if x.1 = true then a ρ x.2 else b ρ x.2
def aNil : Ea := fun _ π => .ok ([], π)
def aCons (a : Ed) (b : Ea) : Ea := fun ρ π => (a ρ π).bind fun x => (b ρ x.2).bind fun y => .ok (x.1 :: y.1, y.2)
def eTup (a : Ea) : Ed := fun ρ π => (a ρ π).bind fun x => if x.1.length ≤ sizeLine then .ok (.tup x.1, x.2) else .stuck
def eLst (a : Ea) : Ed := fun ρ π => (a ρ π).bind fun x => if x.1.length ≤ sizeLine then .ok (.lst x.1, x.2) else .stuck
def eApp (g : List D → Option D) (a : Ea) : Ed := fun ρ π => (a ρ π).bind fun x => (ofO (g x.1)).bind fun z => .ok (z, x.2)
def tOf (a : Ed) : Et := fun ρ π => (a ρ π).bind fun x => (ofO (truth x.1)).bind fun k => .ok (k, x.2)
def tBl (a : Ed) : Et := fun ρ π => (a ρ π).bind fun x => match x.1 with
  | .bl k => .ok (k, x.2)
  | _ => .stuck
def tAndD (a b : Et) : Et := fun ρ π => (a ρ π).bind fun x => if x.1 = true then b ρ x.2 else .ok (false, x.2)
def tOrD (a b : Et) : Et := fun ρ π => (a ρ π).bind fun x => if x.1 = true then .ok (true, x.2) else b ρ x.2
def tNotD (a : Et) : Et := fun ρ π => (a ρ π).bind fun x => .ok (!x.1, x.2)
section
variable {X : Cx} {E : XK} {Γ : List Md} {r ra rb : Rm} {e a b c : Expr} {ta tb te : TE} {fa fb fe : Ed} {pos : Pos} {k : Nat}
theorem DE.toF (h : DE X E .o Γ e te fe) : DE X E .f Γ e te fe := ⟨h.pe, fun pot M σ H ρ π I p Q q => by
  refine h.sem pot M σ H ρ π I p Q ?_
  cases e : fe ρ π with
  | ok a =>
    rw [e] at q
    exact fun v H' g p' y => q v H' g p' (y.toF I.al)
  | err c ns xs π' =>
    rw [e] at q
    exact q
  | stuck =>
    rw [e] at q
    exact q⟩
theorem DE.toB (h : DE X E r Γ e te fe) : DE X E .b Γ e te fe := ⟨h.pe, fun pot M σ H ρ π I p Q q => by
  refine h.sem pot M σ H ρ π I p Q ?_
  cases e : fe ρ π with
  | ok a =>
    rw [e] at q
    exact fun v H' g p' y => q v H' g p' y.toB
  | err c ns xs π' =>
    rw [e] at q
    exact q
  | stuck =>
    rw [e] at q
    exact q⟩
theorem de_var (i : Nat) {x : Str} (hN : X.N[i]? = some x := by rfl) (hv : Vis X.env.scope x := by first | exact Or.inl rfl | exact Or.inr (Or.inl rfl) | exact Or.inr (Or.inr rfl)) (hΓ : Γ[i]? = some .f := by rfl)
    (hd : (x == ("__debug__" : Str)) = false := by decide) (hcd : (x == ("__classdict__" : Str)) = false := by decide) : DE X E .f Γ (.Name x pos) (tVar i) (eVar i) :=
  ⟨pe_var hN hv hd hcd, fun pot M σ H ρ π I p Q q => by
    unfold eVar at q
    split at q
    · rename_i d e
      obtain ⟨v, e1, r⟩ := I.f i d hΓ e
      exact ⟨v, e1, q v H .refl p r⟩
    · exact q.elim⟩
/-- an own list that changes, to be looked at -/
theorem de_varo (i : Nat) {x : Str} (hN : X.N[i]? = some x := by rfl) (hv : Vis X.env.scope x := by first | exact Or.inl rfl | exact Or.inr (Or.inl rfl) | exact Or.inr (Or.inr rfl)) (hΓ : Γ[i]? = some .o := by rfl)
    (hd : (x == ("__debug__" : Str)) = false := by decide) (hcd : (x == ("__classdict__" : Str)) = false := by decide) : DE X E .b Γ (.Name x pos) (tVar i) (eVar i) :=
  ⟨pe_var hN hv hd hcd, fun pot M σ H ρ π I p Q q => by
    unfold eVar at q
    split at q
    · rename_i d e
      obtain ⟨v, e1, m, r⟩ := I.o i d hΓ e
      exact ⟨_, e1, q _ H .refl p (.inr ⟨_, rfl, r⟩)⟩
    · exact q.elim⟩
theorem sem_c {v : V} {d : D} (h : ∀ H, Rp X.mg X.K H v d) : SemE X.mg X.K E .f Γ (tC v) (eC d) := fun pot M σ H ρ π I p Q q => q v H .refl p (h _)
theorem de_int {i : Int} {j : Nat} : DE X E .f Γ (.Constant (.int i) j pos) (tC (.int i)) (eC (.int i)) := ⟨pe_int, sem_c fun _ => .int i⟩
theorem de_bl {i : Bool} {j : Nat} : DE X E .f Γ (.Constant (.bool i) j pos) (tC (.bl i)) (eC (.bl i)) := ⟨pe_bl, sem_c fun _ => .bl i⟩
theorem de_non {j : Nat} : DE X E .f Γ (.Constant .none j pos) (tC .non) (eC .non) := ⟨pe_non, sem_c fun _ => .non⟩
/-- a constant of the module -/
theorem de_glob {x : Str} {v : V} {d : D} (h : ∃ u, X.mg x = some u ∧ RelV v u) (hr : ∀ H, Rp X.mg X.K H v d) (hg : Gl X x := by rfl) (hdb : (x == ("__debug__" : Str)) = false := by decide) : DE X E .f Γ (.Name x pos) (tC v) (eC d) := by
  obtain ⟨u, h1, h2⟩ := h
  exact ⟨pe_glob hg h1 h2 hdb, sem_c hr⟩
def SemOp (mg : Str → Option Value) (K : PySem.W.Frag) (r2 : R2) (rz : Rm) (g : D → D → Option D) : Prop :=
  ∀ (pot : Option Addr) (M : List Addr) (H : Hp) (x y : V) (d e z : D), (∀ a ∈ M, Al H a) → (∀ a, pot = some a → a ∈ M) → (∀ a, pot = some a → H a ≠ none) → Rb mg K pot M H x d → Rb mg K pot M H y e → g d e = some z →
    ∀ Q : VK, (∀ v H', Same H H' → RpR mg K rz pot M H H' v z → Q v H') → r2 x y H Q
def SemUn (mg : Str → Option Value) (K : PySem.W.Frag) (r1 : V → Hp → VK → Prop) (rz : Rm) (g : D → Option D) : Prop :=
  ∀ (pot : Option Addr) (M : List Addr) (H : Hp) (x : V) (d z : D), (∀ a ∈ M, Al H a) → (∀ a, pot = some a → a ∈ M) → (∀ a, pot = some a → H a ≠ none) → Rb mg K pot M H x d → g d = some z →
    ∀ Q : VK, (∀ v H', Same H H' → RpR mg K rz pot M H H' v z → Q v H') → r1 x H Q
theorem PotAt.has {pot : Option Addr} {H : Hp} {π : Pot} (p : PotAt pot H π) : ∀ a, pot = some a → H a ≠ none := fun a h e => by
  rw [p a h] at e
  cases e
theorem sem_bin {r2 : R2} {rz : Rm} {g : D → D → Option D} (hg : SemOp X.mg X.K r2 rz g) (ha : SemE X.mg X.K E ra Γ ta fa) (hb : SemE X.mg X.K E rb Γ tb fb) : SemE X.mg X.K E rz Γ (tOp r2 ta tb) (eBin g fa fb) := by
  intro pot M σ H ρ π I p Q h
  refine Post.seq (r' := ra) (te := ta σ H) h p (fun Q' hq => ha pot M σ H ρ π I p Q' hq) fun d π1 v H1 _ g1 p1 r1 h1 => ?_
  refine Post.seq (r' := rb) (te := tb σ H1) h1 p1 (fun Q' hq => hb pot M σ H1 ρ π1 (I.grow g1 p1) p1 Q' hq) fun e π2 w H2 _ g2 p2 r2' h2 => ?_
  have I2 := I.grow (g1.trans g2) p2
  cases hz : g d e with
  | none =>
    simp only [hz, ofO_none, Res.bind_stuck] at h2
    exact h2.elim
  | some z =>
    simp only [hz, ofO_some, Res.bind_ok] at h2
    exact hg pot M H2 v w d e z I2.al I.pm p2.has (r1.toB.grow I.pm g2) r2'.toB hz Q fun u H3 s q => h2 u H3 (.of_same s) (p2.same s) q
theorem sem_un {r1 : V → Hp → VK → Prop} {rz : Rm} {g : D → Option D} (hg : SemUn X.mg X.K r1 rz g) (ha : SemE X.mg X.K E ra Γ ta fa) : SemE X.mg X.K E rz Γ (tUn r1 ta) (eUn g fa) := by
  intro pot M σ H ρ π I p Q h
  refine Post.seq (r' := ra) (te := ta σ H) h p (fun Q' hq => ha pot M σ H ρ π I p Q' hq) fun d π1 v H1 _ g1 p1 r1' h1 => ?_
  have I1 := I.grow g1 p1
  cases hz : g d with
  | none =>
    simp only [hz, ofO_none, Res.bind_stuck] at h1
    exact h1.elim
  | some z =>
    simp only [hz, ofO_some, Res.bind_ok] at h1
    exact hg pot M H1 v d z I1.al I.pm p1.has r1'.toB hz Q fun u H3 s q => h1 u H3 (.of_same s) (p1.same s) q
theorem de_bin {op : Operator} {r2 : R2} {rz : Rm} {g : D → D → Option D} (o : OpR X (binaryOp op) r2 ∧ SemOp X.mg X.K r2 rz g) (ha : DE X E ra Γ a ta fa) (hb : DE X E rb Γ b tb fb) : DE X E rz Γ (.BinOp a op b pos) (tOp r2 ta tb) (eBin g fa fb) :=
  ⟨pe_op o.1 ha.pe hb.pe, sem_bin o.2 ha.sem hb.sem⟩
theorem de_un {op : UnaryOp} {r1 : V → Hp → VK → Prop} {rz : Rm} {g : D → Option D} (o : UnR X (unaryOp op) r1 ∧ SemUn X.mg X.K r1 rz g) (ha : DE X E ra Γ a ta fa) : DE X E rz Γ (.UnaryOp op a pos) (tUn r1 ta) (eUn g fa) :=
  ⟨pe_un o.1 ha.pe, sem_un o.2 ha.sem⟩
theorem de_cmp {op : CmpOp} {r2 : R2} {rz : Rm} {g : D → D → Option D} (o : OpR X (compareOp op) r2 ∧ SemOp X.mg X.K r2 rz g) (ha : DE X E ra Γ a ta fa) (hb : DE X E rb Γ b tb fb) (hm : behindInMarks op b = false := by rfl) : DE X E rz Γ (.Compare a [op] [b] pos) (tOp r2 ta tb) (eBin g fa fb) :=
  ⟨pe_cmpR o.1 ha.pe hb.pe hm, sem_bin o.2 ha.sem hb.sem⟩
end
end DL
set_option maxHeartbeats 2000000
namespace DL
open PySem PySem.Spec PyProof.Rows L2
section
variable {mg : Str → Option Value} {K : PySem.W.Frag} {pot : Option Addr} {M : List Addr} {H H' : Hp} {v x : V} {d : D}
theorem rb_int {i : Int} (h : Rb mg K pot M H x (.int i)) : x = .int i := by
  rcases h with h | ⟨_, _, _, _, _, e⟩
  · cases h
    rfl
  · cases e
theorem rb_bl {i : Bool} (h : Rb mg K pot M H x (.bl i)) : x = .bl i := by
  rcases h with h | ⟨_, _, _, _, _, e⟩
  · cases h
    rfl
  · cases e
theorem rb_str {i : Str} (h : Rb mg K pot M H x (.str i)) : x = .str i := by
  rcases h with h | ⟨_, _, _, _, _, e⟩
  · cases h
    rfl
  · cases e
theorem rb_non (h : Rb mg K pot M H x .non) : x = .non := by
  rcases h with h | ⟨_, _, _, _, _, e⟩
  · cases h
    rfl
  · cases e
theorem less_le : Same (less H M) H := fun a o h => (less_some.mp h).2
theorem rb_lst {ds : List D} (h : Rb mg K pot M H x (.lst ds)) : ∃ p xs, x = .ref p ∧ H p = some (.lst xs) ∧ RpL mg K (less H M) xs ds := by
  rcases h with h | ⟨p, e1, _, o, h1, h2⟩
  · cases h with
    | lst h1 h2 => exact ⟨_, _, rfl, less_le _ _ h1, h2⟩
  · cases h2 with
    | lst h2 => exact ⟨p, _, e1, h1, h2.mono (less_sub fun a q => List.mem_cons_of_mem _ q)⟩
theorem rb_tupP {ds : List D} (h : Rb mg K pot M H x (.tup ds)) : ∃ p xs, x = .ref p ∧ less H M p = some (.tup xs) ∧ RpL mg K (less H M) xs ds := by
  rcases h with h | ⟨p, e1, _, o, h1, h2⟩
  · cases h with
    | tup h1 h2 => exact ⟨_, _, rfl, h1, h2⟩
  · cases h2
theorem rb_tup {ds : List D} (h : Rb mg K pot M H x (.tup ds)) : ∃ p xs, x = .ref p ∧ SqT K (less H M) p xs ∧ RpL mg K (less H M) xs ds := by
  obtain ⟨p, xs, e, h1, h2⟩ := rb_tupP h
  exact ⟨p, xs, e, .inl (.inl h1), h2⟩
theorem rb_rp (h : Rb mg K pot M H x d) : Rp mg K H x d := by
  rcases h with h | ⟨p, e1, _, o, h1, h2⟩
  · exact h.mono less_le
  · cases e1
    exact HoR.rp h1 (h2.mono less_le)
theorem less_new {q : Addr} {o : HO} (hn : H q = none) : Same (less H M) (less (upd H q o) (q :: M)) := fun a u h => by
  obtain ⟨h1, h2⟩ := less_some.mp h
  have n := ne_of_none h2 hn
  refine less_some.mpr ⟨fun m => ?_, ?_⟩
  · rcases List.mem_cons.mp m with e | m
    · exact n e
    · exact h1 m
  · rw [upd_ne n]
    exact h2
theorem less_new1 {q : Addr} {o : HO} (hn : H q = none) : Same (less H M) (less (upd H q o) M) := fun a u h => by
  obtain ⟨h1, h2⟩ := less_some.mp h
  refine less_some.mpr ⟨h1, ?_⟩
  rw [upd_ne (ne_of_none h2 hn)]
  exact h2
theorem new_lst {q : Addr} {xs : List V} {ds : List D} (hp : ∀ a, pot = some a → H a ≠ none) (hn : H q = none) (r : RpL mg K (less H M) xs ds) : RpR mg K .o pot M H (upd H q (.lst xs)) (.ref q) (.lst ds) :=
  ⟨q, rfl, hn, fun e => hp q e hn, _, upd_same, .lst (r.mono (less_new hn))⟩
theorem new_tup {q : Addr} {xs : List V} {ds : List D} (al : ∀ a ∈ M, Al H a) (hn : H q = none) (r : RpL mg K (less H M) xs ds) : Rp mg K (less (upd H q (.tup xs)) M) (.ref q) (.tup ds) :=
  .tup (less_some.mpr ⟨fun m => (al q m).nn hn, upd_same⟩) (r.mono (less_new1 hn))
theorem new_lstF {q : Addr} {xs : List V} {ds : List D} (al : ∀ a ∈ M, Al H a) (hn : H q = none) (r : RpL mg K (less H M) xs ds) : Rp mg K (less (upd H q (.lst xs)) M) (.ref q) (.lst ds) :=
  .lst (less_some.mpr ⟨fun m => (al q m).nn hn, upd_same⟩) (r.mono (less_new1 hn))
end
def opAdd : D → D → Option D
  | .int i, .int j => some (.int (i + j))
  | .lst xs, .lst ys => if xs.length + ys.length ≤ sizeLine then some (.lst (xs ++ ys)) else none
  | .tup xs, .tup ys => if xs.length + ys.length ≤ sizeLine then some (.tup (xs ++ ys)) else none
  | .str x, .str y => if x.length + y.length ≤ sizeLine then some (.str (x ++ y)) else none
  | _, _ => none
def opCat : D → D → Option D
  | .lst xs, .lst ys => if xs.length + ys.length ≤ sizeLine then some (.lst (xs ++ ys)) else none
  | _, _ => none
def opSub : D → D → Option D
  | .int i, .int j => some (.int (i - j))
  | _, _ => none
def small (i : Int) : Bool := decide (-18446744073709551616 < i ∧ i < 18446744073709551616)
def opRep : D → D → Option D
  | .lst xs, .int k => if decide (-9223372036854775808 ≤ k ∧ k < 9223372036854775808) && decide (xs.length * k.toNat ≤ sizeLine) then some (.lst (List.replicate k.toNat xs).flatten) else none
  | _, _ => none
def opFdivW : D → D → Option D
  | .int i, .int j => if 0 < j ∧ j.natAbs.log2 < 9000 then some (.int (i / j)) else if j < 0 ∧ j.natAbs.log2 < 9000 then some (.int (i.fdiv j)) else none
  | _, _ => none
def opMod : D → D → Option D
  | .int i, .int j => if 0 < j then some (.int (i % j)) else none
  | _, _ => none
def opPow : D → D → Option D
  | .int i, .int j => if decide (0 ≤ j ∧ j ≤ 1000000) && small i then some (.int (i ^ j.toNat)) else none
  | _, _ => none
def opNeg : D → Option D
  | .int i => some (.int (-i))
  | _ => none
def cmpI (p : Int → Int → Bool) : D → D → Option D
  | .int i, .int j => some (.bl (p i j))
  | _, _ => none
def eqP (d e : D) : Option Bool := match toPy d, toPy e with
  | some p, some q => if SeqAt.shaped p && SeqAt.shaped q then some (PyData.eqv p q) else none
  | _, _ => none
def eqD : D → D → Option Bool
  | .str x, .str y => some (decide (x = y))
  | .int x, .int y => some (decide (x = y))
  | d, e => eqP d e
def opEq (d e : D) : Option D := (eqD d e).map .bl
def opNe (d e : D) : Option D := (eqD d e).map fun b => .bl (!b)
def isNonD : D → Bool
  | .non => true
  | _ => false
def opIsN (d e : D) : Option D := if isNonD e then some (.bl (isNonD d)) else none
def opNotN (d e : D) : Option D := if isNonD e then some (.bl (!isNonD d)) else none
/-- is it this bool -/
def isBl (b : Bool) : D → Bool
  | .bl a => decide (a = b)
  | _ => false
def opNotB (d e : D) : Option D := match e with
  | .bl b => some (.bl (!isBl b d))
  | _ => none
def inD (d : D) (e : D) : Option Bool := match toPy d, toPy e with
  | some p, some (.list qs) => if SeqAt.shaped p && SeqAt.shaped (.list qs) then some (qs.any fun z => PyData.eqv z p) else none
  | _, _ => none
def opIn (d e : D) : Option D := (inD d e).map .bl
def opNotIn (d e : D) : Option D := (inD d e).map fun b => .bl (!b)
section
variable {X : Cx} {E : XK} {k : Nat}
abbrev OpOk (X : Cx) (f : Value → Value → Sem Value) (r2 : R2) (rz : Rm) (g : D → D → Option D) : Prop := OpR X f r2 ∧ SemOp X.mg X.K r2 rz g
theorem sem_int {mg : Str → Option Value} {K : PySem.W.Frag} {C : Int → Int → Prop} {g : D → D → Option D} {gi : Int → Int → Int} (h : ∀ d e z, g d e = some z → ∃ i j, d = .int i ∧ e = .int j ∧ C i j ∧ z = .int (gi i j)) : SemOp mg K (rI C fun i j => .int (gi i j)) .f g := by
  intro pot M H x y d e z al pm ph rx ry hz Q q
  obtain ⟨i, j, rfl, rfl, c, rfl⟩ := h d e z hz
  exact ⟨i, j, rb_int rx, rb_int ry, c, q _ H (Same.refl H) (.int _)⟩
theorem sem_int0 {mg : Str → Option Value} {K : PySem.W.Frag} {g : D → D → Option D} {gi : Int → Int → V} {gd : Int → Int → D} (hr : ∀ i j H, Rp mg K H (gi i j) (gd i j)) (h : ∀ d e z, g d e = some z → ∃ i j, d = .int i ∧ e = .int j ∧ z = gd i j) : SemOp mg K (rI0 gi) .f g := by
  intro pot M H x y d e z al pm ph rx ry hz Q q
  obtain ⟨i, j, rfl, rfl, rfl⟩ := h d e z hz
  exact ⟨i, j, rb_int rx, rb_int ry, q _ H (Same.refl H) (hr _ _ _)⟩
theorem o_sub : OpOk X (binaryOp .Sub) (rI0 fun i j => .int (i - j)) .f opSub := ⟨op_sub, sem_int0 (gd := fun i j => .int (i - j)) (fun _ _ _ => .int _) fun d e z h => by
  cases d <;> cases e <;> simp [opSub] at h
  exact ⟨_, _, rfl, rfl, h.symm⟩⟩
def CDivA (_ j : Int) : Prop := j ≠ 0 ∧ j.natAbs.log2 < 9000
theorem op_fdivA : OpR X (binaryOp .FloorDiv) (rI CDivA fun i j => .int (i.fdiv j)) := opI fun i j _ _ _ _ _ hc q => floordiv_int hc.1 q (.inl (PyProof.noPylong_of_log2 hc.2))
theorem o_fdivW : OpOk X (binaryOp .FloorDiv) (rI CDivA fun i j => .int (i.fdiv j)) .f opFdivW := ⟨op_fdivA, sem_int (gi := fun i j => i.fdiv j) fun d e z h => by
  cases d <;> cases e <;> simp only [opFdivW] at h <;> try cases h
  rename_i i j
  by_cases h1 : 0 < j ∧ j.natAbs.log2 < 9000
  · rw [if_pos h1] at h
    cases h
    exact ⟨_, _, rfl, rfl, ⟨by omega, h1.2⟩, by rw [Int.fdiv_eq_ediv_of_nonneg i (by omega)]⟩
  · rw [if_neg h1] at h
    by_cases h2 : j < 0 ∧ j.natAbs.log2 < 9000
    · rw [if_pos h2] at h
      cases h
      exact ⟨_, _, rfl, rfl, ⟨by omega, h2.2⟩, rfl⟩
    · rw [if_neg h2] at h; cases h⟩
theorem o_mod : OpOk X (binaryOp .Mod) (rI (fun _ j => 0 < j) fun i j => .int (i % j)) .f opMod := ⟨op_mod, sem_int (gi := fun i j => i % j) fun d e z h => by
  cases d <;> cases e <;> simp [opMod] at h
  exact ⟨_, _, rfl, rfl, h.1, h.2.symm⟩⟩
theorem o_pow : OpOk X (binaryOp .Pow) (rI CPow fun i j => .int (i ^ j.toNat)) .f opPow := ⟨op_pow, sem_int (gi := fun i j => i ^ j.toNat) fun d e z h => by
  cases d <;> cases e <;> simp [opPow, small] at h
  exact ⟨_, _, rfl, rfl, (by unfold CPow; omega), h.2.symm⟩⟩
theorem o_neg : UnR X (unaryOp .USub) (rU fun i => .int (-i)) ∧ SemUn X.mg X.K (rU fun i => .int (-i)) .f opNeg := ⟨un_neg, fun pot M H x d z al pm ph rx hz Q q => by
  cases d <;> simp [opNeg] at hz
  subst hz
  exact ⟨_, rb_int rx, q _ H (Same.refl H) (.int _)⟩⟩
theorem o_lt : OpOk X (compareOp .Lt) (rI0 fun i j => .bl (decide (i < j))) .f (cmpI fun i j => decide (i < j)) := ⟨op_lt, sem_int0 (gd := fun i j => .bl (decide (i < j))) (fun _ _ _ => .bl _) fun d e z h => by
  cases d <;> cases e <;> simp [cmpI] at h
  exact ⟨_, _, rfl, rfl, h.symm⟩⟩
theorem o_le : OpOk X (compareOp .LtE) (rI0 fun i j => .bl (decide (i ≤ j))) .f (cmpI fun i j => decide (i ≤ j)) := ⟨op_le, sem_int0 (gd := fun i j => .bl (decide (i ≤ j))) (fun _ _ _ => .bl _) fun d e z h => by
  cases d <;> cases e <;> simp [cmpI] at h
  exact ⟨_, _, rfl, rfl, h.symm⟩⟩
theorem o_gt : OpOk X (compareOp .Gt) (rI0 fun i j => .bl (decide (j < i))) .f (cmpI fun i j => decide (j < i)) := ⟨op_gt, sem_int0 (gd := fun i j => .bl (decide (j < i))) (fun _ _ _ => .bl _) fun d e z h => by
  cases d <;> cases e <;> simp [cmpI] at h
  exact ⟨_, _, rfl, rfl, h.symm⟩⟩
theorem o_ge : OpOk X (compareOp .GtE) (rI0 fun i j => .bl (decide (j ≤ i))) .f (cmpI fun i j => decide (j ≤ i)) := ⟨op_ge, sem_int0 (gd := fun i j => .bl (decide (j ≤ i))) (fun _ _ _ => .bl _) fun d e z h => by
  cases d <;> cases e <;> simp [cmpI] at h
  exact ⟨_, _, rfl, rfl, h.symm⟩⟩
theorem sem_cat {mg : Str → Option Value} {K : PySem.W.Frag} : SemOp mg K rCat .o opCat := by
  intro pot M H x y d e z al pm ph rx ry hz Q q
  cases d <;> cases e <;> simp [opCat] at hz
  obtain ⟨p, xs, rfl, h1, r1⟩ := rb_lst rx
  obtain ⟨p', ys, rfl, h2, r2⟩ := rb_lst ry
  obtain ⟨hl, rfl⟩ := hz
  refine ⟨p, p', xs, ys, rfl, rfl, h1, h2, by rw [r1.length, r2.length]; exact hl, fun l hn => ?_⟩
  exact q _ _ (same_upd hn) (new_lst ph hn (r1.append r2))
theorem o_cat : OpOk X (binaryOp .Add) rCat .o opCat := ⟨op_cat, sem_cat⟩
theorem o_rep : OpOk X (binaryOp .Mult) rRep .o opRep := ⟨op_rep, fun pot M H x y d e z al pm ph rx ry hz Q q => by
  cases d <;> cases e <;> simp [opRep] at hz
  obtain ⟨p, xs, rfl, h1, r1⟩ := rb_lst rx
  obtain ⟨⟨h3, h4⟩, rfl⟩ := hz
  refine ⟨p, _, xs, rfl, rb_int ry, h1, by omega, by omega, by rw [r1.length]; exact h4, fun l hn => ?_⟩
  exact q _ _ (same_upd hn) (new_lst ph hn (r1.flat _))⟩
/-- + of ints, texts, lists, tuples -/
def rAddA (K : PySem.W.Frag) : R2 := fun x y H Q => rI0 (fun i j => .int (i + j)) x y H Q ∨ (∃ i j, x = .str i ∧ y = .str j ∧ i.length + j.length ≤ sizeLine ∧ Q (.str (i ++ j)) H) ∨ rCat x y H Q ∨ rCatA K x y H Q
theorem o_add : OpOk X (binaryOp .Add) (rAddA X.K) .f opAdd := ⟨op_add.or (op_add_str.or (op_cat.or op_catA)), fun pot M H x y d e z al pm ph rx ry hz Q q => by
  cases d <;> cases e <;> simp [opAdd] at hz
  · subst hz
    exact .inl ⟨_, _, rb_int rx, rb_int ry, q _ H (Same.refl H) (.int _)⟩
  · obtain ⟨hl, rfl⟩ := hz
    exact .inr (.inl ⟨_, _, rb_str rx, rb_str ry, hl, q _ H (Same.refl H) (.str _)⟩)
  · obtain ⟨p, xs, rfl, h1, r1⟩ := rb_lst rx
    obtain ⟨p', ys, rfl, h2, r2⟩ := rb_lst ry
    obtain ⟨hl, rfl⟩ := hz
    refine .inr (.inr (.inl ⟨p, p', xs, ys, rfl, rfl, h1, h2, by rw [r1.length, r2.length]; exact hl, fun l hn => ?_⟩))
    exact q _ _ (same_upd hn) (new_lstF al hn (r1.append r2))
  · obtain ⟨p, xs, rfl, h1, r1⟩ := rb_tupP rx
    obtain ⟨p', ys, rfl, h2, r2⟩ := rb_tupP ry
    obtain ⟨hl, rfl⟩ := hz
    refine .inr (.inr (.inr ⟨p, p', xs, ys, rfl, rfl, .inl (.inl (less_le _ _ h1)), .inl (.inl (less_le _ _ h2)), by rw [r1.length, r2.length]; exact hl, fun e0 => ?_, fun e0 e1 => ?_, fun e0 e1 l hn => ?_⟩))
    · subst e0
      cases r1
      exact q _ H (Same.refl H) (.tup h2 r2)
    · subst e1
      cases r2
      rw [List.append_nil] at q
      exact q _ H (Same.refl H) (.tup h1 r1)
    · exact q _ _ (same_upd hn) (new_tup al hn (r1.append r2))⟩
theorem dec_strV {i j : Str} : decide (V.str i = V.str j) = decide (i = j) := by
  rw [Bool.eq_iff_iff]
  simp
theorem dec_intV {i j : Int} : decide (V.int i = V.int j) = decide (i = j) := by
  rw [Bool.eq_iff_iff]
  simp
theorem o_eq (x : XOk X E k) : OpOk X (compareOp .Eq) (fun x y H Q => rEq x y H Q ∨ rEqD X.K x y H Q) .f opEq := ⟨op_eq.or (op_eqD x.u64), fun pot M H x y d e z al pm ph rx ry hz Q q => by
  unfold opEq eqD at hz
  split at hz
  · cases hz
    rw [rb_str rx, rb_str ry]
    exact .inl ⟨rfl, by rw [dec_strV]; exact q _ H (Same.refl H) (.bl _)⟩
  · cases hz
    rw [rb_int rx, rb_int ry]
    exact .inl ⟨rfl, by rw [dec_intV]; exact q _ H (Same.refl H) (.bl _)⟩
  · unfold eqP at hz
    split at hz
    · rename_i p p' e1 e2
      split at hz
      · rename_i hs
        cases hz
        obtain ⟨s1, s2⟩ := Bool.and_eq_true_iff.mp hs
        exact .inr ⟨p, p', (rb_rp rx).dp e1, (rb_rp ry).dp e2, s1, s2, q _ H (Same.refl H) (.bl _)⟩
      · cases hz
    · cases hz⟩
theorem o_ne (x : XOk X E k) : OpOk X (compareOp .NotEq) (fun x y H Q => rNe x y H Q ∨ rNeD X.K x y H Q) .f opNe := ⟨op_ne.or (op_neD x.u64), fun pot M H x y d e z al pm ph rx ry hz Q q => by
  unfold opNe eqD at hz
  split at hz
  · cases hz
    rw [rb_str rx, rb_str ry]
    exact .inl ⟨rfl, by rw [dec_strV]; exact q _ H (Same.refl H) (.bl _)⟩
  · cases hz
    rw [rb_int rx, rb_int ry]
    exact .inl ⟨rfl, by rw [dec_intV]; exact q _ H (Same.refl H) (.bl _)⟩
  · unfold eqP at hz
    split at hz
    · rename_i p p' e1 e2
      split at hz
      · rename_i hs
        cases hz
        obtain ⟨s1, s2⟩ := Bool.and_eq_true_iff.mp hs
        exact .inr ⟨p, p', (rb_rp rx).dp e1, (rb_rp ry).dp e2, s1, s2, q _ H (Same.refl H) (.bl _)⟩
      · cases hz
    · cases hz⟩
theorem rb_isN {mg : Str → Option Value} {K : PySem.W.Frag} {pot : Option Addr} {M : List Addr} {H : Hp} {x : V} {d : D} (h : Rb mg K pot M H x d) : decide (x = .non) = isNonD d := by
  rcases h with h | ⟨p, e1, _, o, h1, h2⟩
  · cases h <;> rfl
  · cases e1
    cases h2 <;> rfl
theorem o_isN : OpOk X (compareOp .Is) (fun x y H Q => y = .non ∧ Q (.bl (decide (x = .non))) H) .f opIsN := ⟨op_isN, fun pot M H x y d e z al pm ph rx ry hz Q q => by
  cases e <;> simp [opIsN, isNonD] at hz
  have hz' : z = .bl _ := hz.symm
  subst hz'
  rw [rb_isN rx]
  exact ⟨rb_non ry, q _ H (Same.refl H) (.bl _)⟩⟩
theorem o_notN : OpOk X (compareOp .IsNot) (fun x y H Q => y = .non ∧ Q (.bl (!decide (x = .non))) H) .f opNotN := ⟨op_notN, fun pot M H x y d e z al pm ph rx ry hz Q q => by
  cases e <;> simp [opNotN, isNonD] at hz
  have hz' : z = .bl _ := hz.symm
  subst hz'
  rw [rb_isN rx]
  exact ⟨rb_non ry, q _ H (Same.refl H) (.bl _)⟩⟩
theorem isnot_bool_gen {P : Program} {w : World} {A : Around} {E : Value → Shared → Prop} {v : Value} {b : Bool} {Q : Value → Shared → Prop} {s : Shared} (hv : ∀ n, v ≠ .builtin n) (h : Q (.bool (!(v == .bool b))) s) : wpAny (model P w) A (compareOp .IsNot v (.bool b)) Q E s := by
  cases v <;> first
    | exact wpAny_pure h
    | exact absurd rfl (hv _)
def rNotBA : R2 := fun x y H Q => ∃ b : Bool, y = .bl b ∧ Q (.bl (!decide (x = .bl b))) H
theorem rel_bool {x : V} {v : Value} (b : Bool) (h : RelV x v) : (∀ n, v ≠ .builtin n) ∧ (v == .bool b) = decide (x = .bl b) := by
  cases x <;> first
    | (cases h; refine ⟨fun n e => (nomatch e), ?_⟩; rfl)
    | (obtain ⟨t, rfl⟩ := h; exact ⟨fun n e => (nomatch e), rfl⟩)
    | (cases h; refine ⟨fun n e => (nomatch e), ?_⟩; rw [Bool.eq_iff_iff]; simp)
theorem op_notBA : OpR X (compareOp .IsNot) rNotBA := by
  intro pins s σ H x y v u Q I rx ry h
  obtain ⟨b, rfl, q⟩ := h
  cases (show u = Value.bool b from ry)
  obtain ⟨h1, h2⟩ := rel_bool b rx
  exact isnot_bool_gen h1 ⟨.bl _, H, I, congrArg (fun z => Value.bool (!z)) h2, q⟩
theorem rb_isB {mg : Str → Option Value} {K : PySem.W.Frag} {pot : Option Addr} {M : List Addr} {H : Hp} {x : V} {d : D} (b : Bool) (h : Rb mg K pot M H x d) : decide (x = .bl b) = isBl b d := by
  rcases h with h | ⟨p, e1, _, o, h1, h2⟩
  · cases h <;> first
      | rfl
      | (unfold isBl; rw [Bool.eq_iff_iff]; simp)
  · cases e1
    cases h2 <;> rfl
theorem o_notB : OpOk X (compareOp .IsNot) rNotBA .f opNotB := ⟨op_notBA, fun pot M H x y d e z al pm ph rx ry hz Q q => by
  cases e <;> simp [opNotB] at hz
  subst hz
  refine ⟨_, rb_bl ry, ?_⟩
  rw [rb_isB _ rx]
  exact q _ H (Same.refl H) (.bl _)⟩
end
end DL
set_option maxHeartbeats 2000000
namespace DL
open PySem PySem.Spec PyProof.Rows L2
section
variable {mg : Str → Option Value} {K : PySem.W.Frag} {pot : Option Addr} {M : List Addr} {H H' : Hp} {v x : V} {d : D}
theorem RpL.empty {vs : List V} {ds : List D} (h : RpL mg K H vs ds) : vs.isEmpty = ds.isEmpty := by
  cases h <;> rfl
theorem tru_of {k : Bool} (h : Rb mg K pot M H x d) (e : truth d = some k) : TruV K x H k := by
  cases d with
  | non =>
    cases rb_non h
    cases e
    rfl
  | bl b =>
    cases rb_bl h
    cases e
    rfl
  | int i =>
    cases rb_int h
    simp only [truth, Option.some.injEq] at e
    exact e.symm
  | str y =>
    cases rb_str h
    simp only [truth] at e
    split at e
    · rename_i hl
      simp only [Option.some.injEq] at e
      exact ⟨hl, e.symm⟩
    · cases e
  | lst ds =>
    obtain ⟨p, xs, rfl, h1, r1⟩ := rb_lst h
    simp only [truth, Option.some.injEq] at e
    exact .inl ⟨xs, .inl (.inl h1), by rw [r1.empty, e]⟩
  | tup ds =>
    obtain ⟨p, xs, rfl, h1, r1⟩ := rb_tup h
    simp only [truth, Option.some.injEq] at e
    exact .inr (.inl ⟨xs, sqT_mono less_le h1, by rw [r1.empty, e]⟩)
  | dic ks xs => cases e
  | ins c ns xs => cases e
theorem Args.rpl : ∀ {ks : List Ak} {vs : List V} {ds : List D}, Args mg K pot M H ks vs ds → (∀ k ∈ ks, k = Ak.f) → RpL mg K (less H M) vs ds
  | _, _, _, .nil, _ => .nil
  | _, _, _, .cons (k := k) a r, h => by
    have e : k = .f := h k (List.mem_cons_self ..)
    subst e
    exact .cons a (r.rpl fun k hk => h k (List.mem_cons_of_mem _ hk))
end
section
variable {X : Cx} {E : XK} {Γ : List Md} {r ra rb rc : Rm} {e a b c : Expr} {ta tb tc te : TE} {fa fb fc fe : Ed} {tt uu : TT} {ft fu : Et} {pos : Pos} {k : Nat} {ks : List Ak} {es rest : List Expr} {tA : TA} {fA : Ea}
theorem de_one {op : BoolOp} (ha : DE X E r Γ a ta fa) : DE X E r Γ (.BoolOp op [a] pos) ta fa := ⟨pe_one ha.pe, ha.sem⟩
theorem de_and (ha : DE X E .f Γ a ta fa) (hb : DE X E .f Γ (.BoolOp .And (b :: rest) pos) tb fb) : DE X E .f Γ (.BoolOp .And (a :: b :: rest) pos) (tAndT X.K ta tb) (eAnd fa fb) :=
  ⟨pe_andT ha.pe hb.pe, fun pot M σ H ρ π I p Q h => by
    refine Post.seq (r' := .f) (te := ta σ H) h p (fun Q' hq => ha.sem pot M σ H ρ π I p Q' hq) fun d π1 v H1 _ g1 p1 r1 h1 => ?_
    cases hz : truth d with
    | none =>
      simp only [hz, ofO_none, Res.bind_stuck] at h1
      exact h1.elim
    | some z =>
      simp only [hz, ofO_some, Res.bind_ok] at h1
      refine ⟨z, tru_of r1.toB hz, ?_⟩
      cases z with
      | true => exact hb.sem pot M σ H1 ρ π1 (I.grow g1 p1) p1 Q h1
      | false => exact h1 v H1 .refl p1 r1⟩
theorem de_or (ha : DE X E .f Γ a ta fa) (hb : DE X E .f Γ (.BoolOp .Or (b :: rest) pos) tb fb) : DE X E .f Γ (.BoolOp .Or (a :: b :: rest) pos) (tOrT X.K ta tb) (eOr fa fb) :=
  ⟨pe_orT ha.pe hb.pe, fun pot M σ H ρ π I p Q h => by
    refine Post.seq (r' := .f) (te := ta σ H) h p (fun Q' hq => ha.sem pot M σ H ρ π I p Q' hq) fun d π1 v H1 _ g1 p1 r1 h1 => ?_
    cases hz : truth d with
    | none =>
      simp only [hz, ofO_none, Res.bind_stuck] at h1
      exact h1.elim
    | some z =>
      simp only [hz, ofO_some, Res.bind_ok] at h1
      refine ⟨z, tru_of r1.toB hz, ?_⟩
      cases z with
      | true => exact h1 v H1 .refl p1 r1
      | false => exact hb.sem pot M σ H1 ρ π1 (I.grow g1 p1) p1 Q h1⟩
theorem de_not (ha : DE X E r Γ a ta fa) : DE X E .f Γ (.UnaryOp .Not a pos) (tNotT X.K ta) (eNot fa) :=
  ⟨pe_notT ha.pe, fun pot M σ H ρ π I p Q h => by
    refine Post.seq (r' := r) (te := ta σ H) h p (fun Q' hq => ha.sem pot M σ H ρ π I p Q' hq) fun d π1 v H1 _ g1 p1 r1 h1 => ?_
    cases hz : truth d with
    | none =>
      simp only [hz, ofO_none, Res.bind_stuck] at h1
      exact h1.elim
    | some z =>
      simp only [hz, ofO_some, Res.bind_ok] at h1
      exact ⟨z, tru_of r1.toB hz, h1 _ H1 .refl p1 (.bl _)⟩⟩
theorem PostT.seq {pot : Option Addr} {M : List Addr} {H : Hp} {π : Pot} {x : Res (Bool × Pot)} {kk : Bool × Pot → Res (D × Pot)} {Q : VK} (h : Post X.mg X.K r pot M H (x.bind kk) Q E) (h0 : PotAt pot H π)
    {te : (Bool → Hp → Prop) → Prop} (ht : ∀ Q', PostT X.mg X.K pot M H x Q' E → te Q') {R : Bool → Hp → Prop}
    (hk : ∀ d π1 H1, x = .ok (d, π1) → Grow pot H H1 → PotAt pot H1 π1 → Post X.mg X.K r pot M H1 (kk (d, π1)) Q E → R d H1) : te R := by
  refine ht R ?_
  cases x with
  | ok a =>
    obtain ⟨d, π1⟩ := a
    exact fun H1 g p => hk d π1 H1 rfl g p (Post.back g h0 h)
  | err c ns xs π' => exact h
  | stuck => exact h
theorem PostT.seqT {pot : Option Addr} {M : List Addr} {H : Hp} {x : Res (Bool × Pot)} {kk : Bool × Pot → Res (Bool × Pot)} {Q : Bool → Hp → Prop} (h : PostT X.mg X.K pot M H (x.bind kk) Q E)
    {te : (Bool → Hp → Prop) → Prop} (ht : ∀ Q', PostT X.mg X.K pot M H x Q' E → te Q') {R : Bool → Hp → Prop}
    (hk : ∀ d π1 H1, x = .ok (d, π1) → Grow pot H H1 → PotAt pot H1 π1 → PostT X.mg X.K pot M H1 (kk (d, π1)) Q E → R d H1) : te R := by
  refine ht R ?_
  cases x with
  | ok a =>
    obtain ⟨d, π1⟩ := a
    exact fun H1 g p => hk d π1 H1 rfl g p (PostT.back g h)
  | err c ns xs π' => exact h
  | stuck => exact h
theorem Post.seqT {pot : Option Addr} {M : List Addr} {H : Hp} {x : Res (D × Pot)} {kk : D × Pot → Res (Bool × Pot)} {Q : Bool → Hp → Prop} (h : PostT X.mg X.K pot M H (x.bind kk) Q E)
    {te : VK → Prop} (ht : ∀ Q', Post X.mg X.K r pot M H x Q' E → te Q') {R : VK}
    (hk : ∀ d π1 v H1, x = .ok (d, π1) → Grow pot H H1 → PotAt pot H1 π1 → RpR X.mg X.K r pot M H H1 v d → PostT X.mg X.K pot M H1 (kk (d, π1)) Q E → R v H1) : te R := by
  refine ht R ?_
  cases x with
  | ok a =>
    obtain ⟨d, π1⟩ := a
    exact fun v H1 g p q => hk d π1 v H1 rfl g p q (PostT.back g h)
  | err c ns xs π' => exact h
  | stuck => exact h
theorem de_if (hc : DT X E Γ c tt ft) (ha : DE X E r Γ a ta fa) (hb : DE X E r Γ b tb fb) : DE X E r Γ (.IfExp c a b pos) (tIf tt ta tb) (eIf ft fa fb) :=
  ⟨pe_ifExp hc.pt ha.pe hb.pe, fun pot M σ H ρ π I p Q h => by
    refine PostT.seq (te := tt σ H) h p (fun Q' hq => hc.sem pot M σ H ρ π I p Q' hq) fun d π1 H1 _ g1 p1 h1 => ?_
    cases d with
    | true => exact ha.sem pot M σ H1 ρ π1 (I.grow g1 p1) p1 Q h1
    | false => exact hb.sem pot M σ H1 ρ π1 (I.grow g1 p1) p1 Q h1⟩
theorem dt_of (ha : DE X E r Γ a ta fa) (he : ∀ whole, isTrue a X.env whole = (do let v ← whole; standAt a.pos; holding [v] (truthy v)) := by intro _; rfl) : DT X E Γ a (fun σ H Q => ta σ H fun x H' => ∃ k, TruV X.K x H' k ∧ Q k H') (tOf fa) :=
  ⟨pt_truth ha.pe he, fun pot M σ H ρ π I p Q h => by
    refine Post.seqT (r := r) (te := ta σ H) h (fun Q' hq => ha.sem pot M σ H ρ π I p Q' hq) fun d π1 v H1 _ g1 p1 r1 h1 => ?_
    cases hz : truth d with
    | none =>
      simp only [hz, ofO_none, Res.bind_stuck] at h1
      exact h1.elim
    | some z =>
      simp only [hz, ofO_some, Res.bind_ok] at h1
      exact ⟨z, tru_of r1.toB hz, h1 H1 .refl p1⟩⟩
theorem sem_bl {t : TE} {f : Ed} (ha : SemE X.mg X.K E .f Γ t f) : SemT X.mg X.K E Γ (tTest t) (tBl f) := fun pot M σ H ρ π I p Q h => by
  refine Post.seqT (r := .f) (te := t σ H) h (fun Q' hq => ha pot M σ H ρ π I p Q' hq) fun d π1 v H1 _ g1 p1 r1 h1 => ?_
  cases d with
  | bl z =>
    cases rb_bl (RpR.toB (r := .f) r1)
    exact ⟨z, rfl, h1 H1 .refl p1⟩
  | _ => exact h1.elim
theorem dt_cmp {op : CmpOp} {r2 : R2} {g : D → D → Option D} (o : OpOk X (compareOp op) r2 .f g) (ha : DE X E ra Γ a ta fa) (hb : DE X E rb Γ b tb fb) (hm : behindInMarks op b = false := by rfl) : DT X E Γ (.Compare a [op] [b] pos) (tTest (tOp r2 ta tb)) (tBl (eBin g fa fb)) :=
  ⟨pt_cmpR o.1 ha.pe hb.pe hm, sem_bl (sem_bin o.2 ha.sem hb.sem)⟩
theorem dt_not (hc : DT X E Γ c tt ft) : DT X E Γ (.UnaryOp .Not c pos) (tNot tt) (tNotD ft) :=
  ⟨pt_not hc.pt, fun pot M σ H ρ π I p Q h => by
    refine PostT.seqT (te := tt σ H) h (fun Q' hq => hc.sem pot M σ H ρ π I p Q' hq) fun d π1 H1 _ g1 p1 h1 => ?_
    exact h1 H1 .refl p1⟩
theorem dw_and1 (hc : DT X E Γ c tt ft) : DW X E Γ (.BoolOp .And [c] pos) tt ft := ⟨pw_and1 hc.pt, hc.sem⟩
theorem dw_or1 (hc : DT X E Γ c tt ft) : DW X E Γ (.BoolOp .Or [c] pos) tt ft := ⟨pw_or1 hc.pt, hc.sem⟩
theorem dw_and (hc : DT X E Γ a tt ft) (hb : DW X E Γ (.BoolOp .And (b :: rest) pos) uu fu) : DW X E Γ (.BoolOp .And (a :: b :: rest) pos) (tAnd tt uu) (tAndD ft fu) :=
  ⟨pw_and hc.pt hb.pw, fun pot M σ H ρ π I p Q h => by
    refine PostT.seqT (te := tt σ H) h (fun Q' hq => hc.sem pot M σ H ρ π I p Q' hq) fun d π1 H1 _ g1 p1 h1 => ?_
    cases d with
    | true => exact hb.sem pot M σ H1 ρ π1 (I.grow g1 p1) p1 Q h1
    | false => exact h1 H1 .refl p1⟩
theorem dw_or (hc : DT X E Γ a tt ft) (hb : DW X E Γ (.BoolOp .Or (b :: rest) pos) uu fu) : DW X E Γ (.BoolOp .Or (a :: b :: rest) pos) (tOr tt uu) (tOrD ft fu) :=
  ⟨pw_or hc.pt hb.pw, fun pot M σ H ρ π I p Q h => by
    refine PostT.seqT (te := tt σ H) h (fun Q' hq => hc.sem pot M σ H ρ π I p Q' hq) fun d π1 H1 _ g1 p1 h1 => ?_
    cases d with
    | true => exact h1 H1 .refl p1
    | false => exact hb.sem pot M σ H1 ρ π1 (I.grow g1 p1) p1 Q h1⟩
/-- a < b <= c -/
def eChain (g g' : D → D → Option D) (a b c : Ed) : Ed := fun ρ π => (a ρ π).bind fun x => (b ρ x.2).bind fun y => (ofO (g x.1 y.1)).bind fun z => match z with
  | .bl true => (c ρ y.2).bind fun u => (ofO (g' y.1 u.1)).bind fun q => .ok (q, u.2)
  | .bl false => .ok (.bl false, y.2)
  | _ => .stuck
theorem sem_chain {r2 r2' : R2} {g g' : D → D → Option D} (o : SemOp X.mg X.K r2 .f g) (o' : SemOp X.mg X.K r2' .f g') (ha : SemE X.mg X.K E ra Γ ta fa) (hb : SemE X.mg X.K E rb Γ tb fb) (hc : SemE X.mg X.K E rc Γ tc fc) :
    SemE X.mg X.K E .f Γ (tChain r2 r2' ta tb tc) (eChain g g' fa fb fc) := fun pot M σ H ρ π I p Q h => by
  refine Post.seq (r' := ra) (te := ta σ H) h p (fun Q' hq => ha pot M σ H ρ π I p Q' hq) fun d π1 v H1 _ g1 p1 r1 h1 => ?_
  refine Post.seq (r' := rb) (te := tb σ H1) h1 p1 (fun Q' hq => hb pot M σ H1 ρ π1 (I.grow g1 p1) p1 Q' hq) fun e π2 w H2 _ g2 p2 r2 h2 => ?_
  have I2 := I.grow (g1.trans g2) p2
  cases hz : g d e with
  | none =>
    simp only [hz, ofO_none, Res.bind_stuck] at h2
    exact h2.elim
  | some z =>
    simp only [hz, ofO_some, Res.bind_ok] at h2
    refine o pot M H2 v w d e z I2.al I.pm p2.has (r1.toB.grow I.pm g2) r2.toB hz _ fun u H3 s q => ?_
    have g3 : Grow pot H2 H3 := .of_same s
    have p3 := p2.same s
    cases z with
    | bl kk =>
      cases rb_bl (RpR.toB (r := .f) q)
      refine ⟨kk, rfl, ?_⟩
      cases kk with
      | true =>
        refine Post.seq (r' := rc) (te := tc σ H3) (Post.back g3 p2 h2) p3 (fun Q' hq => hc pot M σ H3 ρ π2 (I2.grow g3 p3) p3 Q' hq) fun f π4 w4 H4 _ g4 p4 r4 h4 => ?_
        cases hy : g' e f with
        | none =>
          simp only [hy, ofO_none, Res.bind_stuck] at h4
          exact h4.elim
        | some y =>
          simp only [hy, ofO_some, Res.bind_ok] at h4
          exact o' pot M H4 w w4 e f y ((I2.grow g3 p3).grow g4 p4).al I.pm p4.has (r2.toB.grow I.pm (g3.trans g4)) r4.toB hy Q fun u H5 s q => h4 u H5 (.of_same s) (p4.same s) q
      | false => exact h2 _ H3 g3 p3 (.bl _)
    | _ => exact h2.elim
theorem de_chain {op op' : CmpOp} {r2 r2' : R2} {g g' : D → D → Option D} (o : OpOk X (compareOp op) r2 .f g) (o' : OpOk X (compareOp op') r2' .f g') (ha : DE X E ra Γ a ta fa) (hb : DE X E rb Γ b tb fb) (hc : DE X E rc Γ c tc fc)
    (hm : lastMarks [op, op'] [b, c] = false := by rfl) : DE X E .f Γ (.Compare a [op, op'] [b, c] pos) (tChain r2 r2' ta tb tc) (eChain g g' fa fb fc) :=
  ⟨pe_chain o.1 o'.1 ha.pe hb.pe hc.pe hm, sem_chain o.2 o'.2 ha.sem hb.sem hc.sem⟩
theorem da_nil : DA X E [] Γ [] tNil aNil := ⟨pa_nil, fun pot M σ H ρ π I p Q h => h _ H .refl p .nil⟩
theorem sem_cons {kk : Ak} {ra : Rm} (hr : ∀ pot M H H' v d, (∀ a ∈ M, Al H a) → RpR X.mg X.K ra pot M H H' v d → ArgR X.mg X.K pot M H' kk v d) (ha : SemE X.mg X.K E ra Γ ta fa) (hA : SemA X.mg X.K E ks Γ tA fA) : SemA X.mg X.K E (kk :: ks) Γ (tCons ta tA) (aCons fa fA) :=
  fun pot M σ H ρ π I p Q h => by
    refine ha pot M σ H ρ π I p _ ?_
    unfold aCons at h
    cases e : fa ρ π with
    | ok x =>
      obtain ⟨d, π1⟩ := x
      rw [e] at h
      intro v H1 g1 p1 r1
      refine hA pot M σ H1 ρ π1 (I.grow g1 p1) p1 _ ?_
      cases e2 : fA ρ π1 with
      | ok y =>
        obtain ⟨ds, π2⟩ := y
        simp only [Res.bind_ok, e2] at h
        intro vs H2 g2 p2 r2
        exact h _ H2 (g1.trans g2) p2 (.cons ((hr _ _ _ _ _ _ I.al r1).grow I.pm g2) r2)
      | err c ns xs π' =>
        simp only [Res.bind_ok, e2, Res.bind_err] at h
        exact PErr.back h g1
      | stuck =>
        simp only [Res.bind_ok, e2, Res.bind_stuck] at h
        exact h
    | err c ns xs π' =>
      rw [e] at h
      exact h
    | stuck =>
      rw [e] at h
      exact h
theorem da_f (ha : DE X E .f Γ a ta fa) (hA : DA X E ks Γ es tA fA) (hs : starEach (a :: es) X.env = (false, eval a X.env) :: starEach es X.env := by rfl) : DA X E (.f :: ks) Γ (a :: es) (tCons ta tA) (aCons fa fA) :=
  ⟨pa_cons ha.pe hA.pa hs, sem_cons (kk := .f) (ra := .f) (fun _ _ _ _ _ _ _ h => h) ha.sem hA.sem⟩
theorem da_b (ha : DE X E r Γ a ta fa) (hA : DA X E ks Γ es tA fA) (hs : starEach (a :: es) X.env = (false, eval a X.env) :: starEach es X.env := by rfl) : DA X E (.b :: ks) Γ (a :: es) (tCons ta tA) (aCons fa fA) :=
  ⟨pa_cons ha.pe hA.pa hs, sem_cons (kk := .b) (fun _ _ _ _ _ _ _ h => h.toB) ha.sem hA.sem⟩
/-- the pot, the script handed on -/
theorem da_p (i : Nat) {x : Str} (hA : DA X E ks Γ es tA fA) (hN : X.N[i]? = some x := by rfl) (hv : Vis X.env.scope x := by first | exact Or.inl rfl | exact Or.inr (Or.inl rfl) | exact Or.inr (Or.inr rfl)) (hΓ : Γ[i]? = some .p := by rfl)
    (hd : (x == ("__debug__" : Str)) = false := by decide) (hcd : (x == ("__classdict__" : Str)) = false := by decide) (hs : starEach (.Name x pos :: es) X.env = (false, eval (.Name x pos) X.env) :: starEach es X.env := by rfl) :
    DA X E (.p :: ks) Γ (.Name x pos :: es) (tCons (tVar i) tA) (aCons (eC .non) fA) :=
  ⟨pa_cons (pe_var hN hv hd hcd) hA.pa hs, fun pot M σ H ρ π I p Q h => by
    obtain ⟨q, e, e1⟩ := I.p i hΓ
    refine ⟨_, e1, ?_⟩
    refine hA.sem pot M σ H ρ π I p _ ?_
    unfold aCons eC at h
    simp only [Res.bind_ok] at h
    cases e2 : fA ρ π with
    | ok y =>
      obtain ⟨ds, π2⟩ := y
      simp only [Res.bind_ok, e2] at h
      exact fun vs H2 g2 p2 r2 => h _ H2 g2 p2 (.cons ⟨q, e, rfl⟩ r2)
    | err c ns xs π' =>
      simp only [e2, Res.bind_err] at h
      exact h
    | stuck =>
      simp only [e2, Res.bind_stuck] at h
      exact h⟩
theorem da_s (i : Nat) {x : Str} (hA : DA X E ks Γ es tA fA) (hN : X.N[i]? = some x := by rfl) (hv : Vis X.env.scope x := by first | exact Or.inl rfl | exact Or.inr (Or.inl rfl) | exact Or.inr (Or.inr rfl)) (hΓ : Γ[i]? = some .s := by rfl)
    (hd : (x == ("__debug__" : Str)) = false := by decide) (hcd : (x == ("__classdict__" : Str)) = false := by decide) (hs : starEach (.Name x pos :: es) X.env = (false, eval (.Name x pos) X.env) :: starEach es X.env := by rfl) :
    DA X E (.s :: ks) Γ (.Name x pos :: es) (tCons (tVar i) tA) (aCons (eVar i) fA) :=
  ⟨pa_cons (pe_var hN hv hd hcd) hA.pa hs, fun pot M σ H ρ π I p Q h => by
    unfold aCons eVar at h
    split at h
    · rename_i d e
      obtain ⟨q, ns, e1, e2, e3⟩ := I.s i d hΓ e
      refine ⟨_, e1, ?_⟩
      refine hA.sem pot M σ H ρ π I p _ ?_
      simp only [Res.bind_ok] at h
      cases e2 : fA ρ π with
      | ok y =>
        obtain ⟨ds, π2⟩ := y
        simp only [Res.bind_ok, e2] at h
        exact fun vs H2 g2 p2 r2 => h _ H2 g2 p2 (.cons (ArgR.grow (k := .s) I.pm g2 ⟨q, ns, rfl, by assumption, e3⟩) r2)
      | err c ns xs π' =>
        simp only [e2, Res.bind_err] at h
        exact h
      | stuck =>
        simp only [e2, Res.bind_stuck] at h
        exact h
    · exact h.elim⟩
theorem PostA.seq {r : Rm} {pot : Option Addr} {M : List Addr} {H : Hp} {π : Pot} {x : Res (List D × Pot)} {kk : List D × Pot → Res (D × Pot)} {Q : VK} (h : Post X.mg X.K r pot M H (x.bind kk) Q E) (h0 : PotAt pot H π)
    {te : (List V → Hp → Prop) → Prop} (ht : ∀ Q', PostA X.mg X.K ks pot M H x Q' E → te Q') {R : List V → Hp → Prop}
    (hk : ∀ ds π1 vs H1, x = .ok (ds, π1) → Grow pot H H1 → PotAt pot H1 π1 → Args X.mg X.K pot M H1 ks vs ds → Post X.mg X.K r pot M H1 (kk (ds, π1)) Q E → R vs H1) : te R := by
  refine ht R ?_
  cases x with
  | ok a =>
    obtain ⟨d, π1⟩ := a
    exact fun vs H1 g p q => hk d π1 vs H1 rfl g p q (Post.back g h0 h)
  | err c ns xs π' => exact h
  | stuck => exact h
theorem de_tup {x1 : Nat} (hA : DA X E ks Γ es tA fA) (hk : ∀ k ∈ ks, k = Ak.f := by decide) : DE X E .f Γ (.Tuple es x1 pos) (tTup tA) (eTup fA) :=
  ⟨pe_tup hA.pa, fun pot M σ H ρ π I p Q h => by
    refine PostA.seq (ks := ks) (te := tA σ H) h p (fun Q' hq => hA.sem pot M σ H ρ π I p Q' hq) fun ds π1 vs H1 _ g1 p1 r1 h1 => ?_
    split at h1
    · rename_i hl
      have r2 := r1.rpl hk
      exact ⟨by rw [r2.length]; exact hl, fun q hn => h1 _ _ (.new hn) (p1.new hn) (new_tup (I.grow g1 p1).al hn r2)⟩
    · exact h1.elim⟩
theorem de_lst (hA : DA X E ks Γ es tA fA) (hk : ∀ k ∈ ks, k = Ak.f := by decide) : DE X E .o Γ (.List es pos) (tLst tA) (eLst fA) :=
  ⟨pe_lst hA.pa, fun pot M σ H ρ π I p Q h => by
    refine PostA.seq (ks := ks) (te := tA σ H) h p (fun Q' hq => hA.sem pot M σ H ρ π I p Q' hq) fun ds π1 vs H1 _ g1 p1 r1 h1 => ?_
    split at h1
    · rename_i hl
      have r2 := r1.rpl hk
      exact ⟨by rw [r2.length]; exact hl, fun q hn => h1 _ _ (.new hn) (p1.new hn) (new_lst p1.has hn r2)⟩
    · exact h1.elim⟩
def SemCall (mg : Str → Option Value) (K : PySem.W.Frag) (rc : List V → Hp → VK → Prop) (ks : List Ak) (rz : Rm) (g : List D → Option D) : Prop :=
  ∀ (pot : Option Addr) (M : List Addr) (H : Hp) (vs : List V) (ds : List D) (z : D), (∀ a ∈ M, Al H a) → (∀ a, pot = some a → a ∈ M) → (∀ a, pot = some a → H a ≠ none) → Args mg K pot M H ks vs ds → g ds = some z →
    ∀ Q : VK, (∀ v H', Same H H' → RpR mg K rz pot M H H' v z → Q v H') → rc vs H Q
abbrev CallOk (X : Cx) (f : Value) (rc : List V → Hp → VK → Prop) (ks : List Ak) (rz : Rm) (g : List D → Option D) : Prop := CallR X f rc ∧ SemCall X.mg X.K rc ks rz g
theorem sem_app {rc : List V → Hp → VK → Prop} {rz : Rm} {g : List D → Option D} (o : SemCall X.mg X.K rc ks rz g) (hA : SemA X.mg X.K E ks Γ tA fA) : SemE X.mg X.K E rz Γ (tCB rc tA) (eApp g fA) := fun pot M σ H ρ π I p Q h => by
  refine PostA.seq (ks := ks) (te := tA σ H) h p (fun Q' hq => hA pot M σ H ρ π I p Q' hq) fun ds π1 vs H1 _ g1 p1 r1 h1 => ?_
  cases hz : g ds with
  | none =>
    simp only [hz, ofO_none, Res.bind_stuck] at h1
    exact h1.elim
  | some z =>
    simp only [hz, ofO_some, Res.bind_ok] at h1
    exact o pot M H1 vs ds z (I.grow g1 p1).al I.pm p1.has r1 hz Q fun u H3 s q => h1 u H3 (.of_same s) (p1.same s) q
theorem de_callB {id : String} {x : Str} {p : Pos} {rc : List V → Hp → VK → Prop} {rz : Rm} {g : List D → Option D} (o : CallOk X (.builtin id) rc ks rz g) (hm : X.mg x = none) (hA : DA X E ks Γ (e :: es) tA fA) (hg : Gl X x := by rfl) (hv : bootBuiltins x = some (.builtin id) := by decide +kernel)
    (hn : x ≠ "__name__" := by decide) (hdb : (x == ("__debug__" : Str)) = false := by decide) (he : starEach (e :: es) X.env = (false, eval e X.env) :: starEach es X.env := by rfl) (hpl : (backTo pos (starEach es X.env)).any (·.1) = false := by rfl) :
    DE X E rz Γ (.Call (.Name x p) (e :: es) [] pos) (tCB rc tA) (eApp g fA) := ⟨pe_callB o.1 hg hm hv hA.pa hn hdb he hpl, sem_app o.2 hA.sem⟩
theorem de_callTy {T : String} {x : Str} {p : Pos} {rc : List V → Hp → VK → Prop} {rz : Rm} {g : List D → Option D} (o : CallOk X (.type T) rc ks rz g) (hm : X.mg x = none) (hA : DA X E ks Γ (e :: es) tA fA) (hg : Gl X x := by rfl) (hv : bootBuiltins x = some (.type T) := by decide +kernel)
    (hn : x ≠ "__name__" := by decide) (hdb : (x == ("__debug__" : Str)) = false := by decide) (he : starEach (e :: es) X.env = (false, eval e X.env) :: starEach es X.env := by rfl) (hpl : (backTo pos (starEach es X.env)).any (·.1) = false := by rfl) :
    DE X E rz Γ (.Call (.Name x p) (e :: es) [] pos) (tCB rc tA) (eApp g fA) := ⟨pe_callTy o.1 hg hm hv hA.pa hn hdb he hpl, sem_app o.2 hA.sem⟩
end
end DL
set_option maxHeartbeats 2000000
namespace DL
open PySem PySem.Spec PyProof.Rows L2
/-- a list (l) or a tuple at a -/
structure Src where
  l : Bool
  a : Addr
def Src.sq (K : PySem.W.Frag) (S : Src) (H : Hp) (xs : List V) : Prop := if S.l = true then SqL K H S.a xs else SqT K H S.a xs
def Src.it (S : Src) (h : Heap) (it : Addr) (i : Nat) : Prop := if S.l = true then h.IsListIter it S.a i else h.IsTupleIter it S.a i
def Src.is (S : Src) (h : Heap) (items : Array Value) : Prop := if S.l = true then h.IsList S.a items else h.IsTuple S.a items
def Src.ob (S : Src) : Obj := if S.l = true then { cls := .type "list_iterator", data := .fields #[.ref S.a, .int 0 0] } else { cls := .type "tuple_iterator", data := .fields #[.ref S.a, .int 0 0] }
section
variable {S : Src} {X : Cx} {pins : List (Addr × Obj)} {σ : L2.St} {H : Hp} {s : Shared} {h h' : Heap}
theorem Src.lay {xs : List V} (I : Inv X pins σ H s) (q : S.sq X.K H xs) : ∃ its, Vals xs its ∧ S.is s.heap its.toArray := by
  unfold Src.sq at q
  unfold Src.is
  split at q
  · rename_i e
    obtain ⟨its, rv, p, _⟩ := I.list q
    exact ⟨its, rv, by rw [if_pos e]; exact p.isList⟩
  · rename_i e
    obtain ⟨its, rv, p, _⟩ := I.tuple q
    exact ⟨its, rv, by rw [if_neg e]; exact p⟩
theorem Src.inj {xs ys : List V} (I : Inv X pins σ H s) (q : S.sq X.K H xs) (r : S.sq X.K H ys) : xs = ys := by
  unfold Src.sq at q r
  split at q
  · rename_i e
    rw [if_pos e] at r
    exact I.list_inj q r
  · rename_i e
    rw [if_neg e] at r
    exact I.tuple_inj q r
theorem Src.it_at {it : Addr} {i : Nat} (q : S.it h it i) (k : ∀ o, h.get? it = some o → h'.get? it = some o) : S.it h' it i := by
  unfold Src.it at q ⊢
  split at q
  · rename_i e
    rw [if_pos e]
    exact q.at k
  · rename_i e
    rw [if_neg e]
    exact q.at k
theorem Src.it_obj {it : Addr} {i : Nat} (q : S.it h it i) : ∃ o, h.get? it = some o ∧ ∀ v, o.data ≠ .cell v := by
  unfold Src.it at q
  split at q
  · obtain ⟨o, e, _, d⟩ := q
    exact ⟨o, e, fun v z => by rw [d] at z; cases z⟩
  · obtain ⟨o, e, _, d⟩ := q
    exact ⟨o, e, fun v z => by rw [d] at z; cases z⟩
theorem Src.is_lt {items : Array Value} (q : S.is h items) : S.a < h.objs.size := by
  unfold Src.is at q
  split at q
  · obtain ⟨o, e, _⟩ := q
    exact Heap.lt_size e
  · obtain ⟨o, e, _⟩ := q
    exact Heap.lt_size e
theorem Src.begins (items : Array Value) : Begins (.ref S.a) S.ob (fun h => S.is h items) := by
  obtain ⟨b, a⟩ := S
  cases b
  · exact begins_tuple a items
  · exact begins_list a items
theorem Src.it0 {it : Addr} (e : h.get? it = some S.ob) : S.it h it 0 := by
  unfold Src.ob at e
  unfold Src.it
  split at e
  · rename_i q
    rw [if_pos q]
    exact ⟨_, e, rfl, rfl⟩
  · rename_i q
    rw [if_neg q]
    exact ⟨_, e, rfl, rfl⟩
theorem Src.draws {A : Around} {prog : Program} {w : World} (hh : A.handled = none) (it : Addr) (hne : S.a ≠ it) (items : Array Value) :
    Draws prog w A it [it, S.a] items.size (fun i v => items[i]? = some v) (fun i h => S.it h it i ∧ S.is h items) := by
  obtain ⟨b, a⟩ := S
  cases b
  · exact .tuple hh it a hne items
  · exact .list hh it a hne items
end
def ItS (K : PySem.W.Frag) (S : Src) : It := if S.l = true then Itl K S.a else Itt K S.a
def iSeq (K : PySem.W.Frag) (tl : TE) : TI := fun σ H R => tl σ H fun x H1 => ∃ S : Src, x = .ref S.a ∧ (∃ xs, S.sq K H1 xs) ∧ R (ItS K S) H1
theorem pi_seq {X : Cx} {tg l : Expr} {tl : TE} (hl : PE X l tl) : PI X tg l (iSeq X.K tl) := by
  refine ⟨fun pins s σ H R I h => ?_⟩
  refine thn (hl.run pins s σ H _ I h) fun v s1 ⟨x, H1, I1, r1, q1⟩ => ?_
  obtain ⟨⟨b, a⟩, e, ⟨xs, hq⟩, q⟩ := q1
  subst e
  cases r1
  cases b
  · obtain ⟨its, rv, p, hz⟩ := I1.tuple hq
    refine wpAny_pyIter_tuple (show s1.heap.IsTuple a its.toArray from p) ⟨s1.heap.objs.size, [s1.heap.objs.size], _, _, H1, rfl, I1.kept (t' := s1.toks) fun b o e => Heap.get?_push_of_some _ e, turn_tuple a _, ⟨_, Heap.get?_push_size _ rfl, rfl, rfl⟩, fun b hb => ?_, q⟩
    rw [List.mem_singleton.mp hb]
    exact I1.fpOk (Nat.le_refl _) (I1.hok.fresh (Nat.le_refl _))
  · obtain ⟨its, rv, p, hz⟩ := I1.list hq
    refine wpAny_pyIter_list p.isList ⟨s1.heap.objs.size, [s1.heap.objs.size], _, _, H1, rfl, I1.kept (t' := s1.toks) fun b o e => Heap.get?_push_of_some _ e, turn_list a _, ⟨_, Heap.get?_push_size _ rfl, rfl, rfl⟩, fun b hb => ?_, q⟩
    rw [List.mem_singleton.mp hb]
    exact I1.fpOk (Nat.le_refl _) (I1.hok.fresh (Nat.le_refl _))
theorem walk_seq {K : PySem.W.Frag} {S : Src} {xs : List V} : Walk (ItS K S) xs.length (fun H => S.sq K H xs) (YAt xs) := by
  obtain ⟨b, a⟩ := S
  cases b
  · exact walk_tup
  · exact walk_list
/-- the item at place i of the sequence as it stands, in a new pair -/
def ItE (K : PySem.W.Frag) (S : Src) : It :=
  ⟨fun i H => ∃ xs x, S.sq K H xs ∧ xs[i]? = some x, fun i H v H' => ∃ T x, v = .ref T ∧ H T = none ∧ H' = upd H T (.tup [.int ((i : Nat) : Int), x]) ∧ ∀ xs, S.sq K H xs → xs[i]? = some x,
    fun i H => ∃ xs, S.sq K H xs ∧ xs.length = i⟩
theorem turn_enumS {P : Program} {w : World} {K : PySem.W.Frag} {elts : List Expr} {kk : Nat} {tpos : Pos} (S : Src) (e it : Addr) (ha : S.a ≠ e) (hb : S.a ≠ it) :
    Turn P w K (.Tuple elts kk tpos) (ItE K S) [e, it] e (fun i h => (∃ old, IsEnum h e it (0 + ((i : Nat) : Int)) old) ∧ S.it h it i ∧ e ≠ it) where
  mem := by simp
  obj := fun i h st b hb => by
    obtain ⟨⟨old, he⟩, hi, _⟩ := st
    rcases List.mem_cons.mp hb with z | z
    · rw [z]
      exact ⟨_, he, fun v q => nomatch q⟩
    · rw [List.mem_singleton.mp z]
      exact Src.it_obj hi
  keep := fun i h h' st k => by
    obtain ⟨⟨old, he⟩, hi, hne⟩ := st
    exact ⟨⟨old, k e (by simp) _ he⟩, Src.it_at hi fun o q => k it (by simp) o q, hne⟩
  item := by
    intro X hP hw hK hc i pins s σ H E I hf st hg
    subst hP hw hK
    obtain ⟨he, hit, hne⟩ := st
    obtain ⟨xs, x, hq, hx⟩ := hg
    obtain ⟨its, rv, p⟩ := Src.lay I hq
    obtain ⟨u, hu, ru⟩ := rv.get hx
    have hlt : i < its.toArray.size := by
      have := List.getElem?_eq_some_iff.mp hu
      obtain ⟨q, _⟩ := this
      simpa using q
    have hel : e < s.heap.objs.size := by
      obtain ⟨_, q⟩ := he
      exact Heap.lt_size q
    have hil : it < s.heap.objs.size := by
      obtain ⟨o, q, _⟩ := Src.it_obj hit
      exact Heap.lt_size q
    have G : GoesN X.prog X.w X.A (.Tuple elts kk tpos) e [e, it, S.a] [e, it] its.toArray.size _ _ := GoesN.enumFrom (elts := elts) (x1 := kk) (pos := tpos) 0 (Src.draws (S := S) (A := X.A.in1) (I.ok.hd hc) it hb its.toArray) e hne (by simp [hne, Ne.symm ha]) (by simp)
    refine thn (G.goes i s (fun v s2 => _) E hlt ⟨he, hit, p⟩ fun v h' tk hY st' hk _ => ?_) fun r s1 z => z
    obtain ⟨T, t, y, rfl, hT, hy, hTup⟩ := hY
    obtain ⟨he', hit', p'⟩ := st'
    have eu : y = u := by
      have : its.toArray[i]? = some u := by simpa using hu
      exact Option.some.inj (hy.symm.trans this)
    subst eu
    have new : ObjOk X.prog X.w (upd H T (.tup [.int ((i : Nat) : Int), x])) h' T (.tup [.int ((i : Nat) : Int), x]) := by
      refine ⟨by show 2 ≤ sizeLine; decide, [.int (0 + (i : Int)) t, y], .cons ⟨t, by rw [Int.zero_add]⟩ (.cons ru .nil), hTup⟩
    have I1 : Inv X pins σ (upd H T (.tup [.int ((i : Nat) : Int), x])) { s with heap := h', toks := tk } := I.turnedNew (ch := [e, it]) hk hf hT new
    refine ⟨.ref T, _, I1, rfl, ⟨T, x, rfl, I.hok.fresh hT, rfl, fun ys hy => by rw [Src.inj I hy hq]; exact hx⟩, ⟨he', hit', hne⟩, fun b hb => ?_⟩
    have hbl : b < s.heap.objs.size := by
      rcases List.mem_cons.mp hb with z | z
      · rw [z]; exact hel
      · rw [List.mem_singleton.mp z]; exact hil
    rw [upd_ne (Nat.ne_of_lt (Nat.lt_of_lt_of_le hbl hT))]
    exact (hf b hb).1
  done := by
    intro X hP hw hK hc i pins s σ H E I hf st hg
    subst hP hw hK
    obtain ⟨he, hit, hne⟩ := st
    obtain ⟨xs, hq, hx⟩ := hg
    obtain ⟨its, rv, p⟩ := Src.lay I hq
    have hl : i = its.toArray.size := by
      rw [← hx, rv.length]
      simp
    have G : GoesN X.prog X.w X.A (.Tuple elts kk tpos) e [e, it, S.a] [e, it] its.toArray.size _ _ := GoesN.enumFrom (elts := elts) (x1 := kk) (pos := tpos) 0 (Src.draws (S := S) (A := X.A.in1) (I.ok.hd hc) it hb its.toArray) e hne (by simp [hne, Ne.symm ha]) (by simp)
    subst hl
    exact G.stops s (fun s1 => Inv X pins σ H s1) E ⟨he, hit, p⟩ fun h' tk hk _ => I.turnedL (ch := [e, it]) hk hf
  self := fun A i s Q E st h => by
    obtain ⟨⟨_, he⟩, _⟩ := st
    exact wpAny_pyIter_enum he h
theorem meets_enum1 {v : Value} {o : Obj} {H : Heap → Prop} (B : Begins v o H) :
    Meets (Builtin.«enumerate.__new__» ⟨[.type "enumerate", v], []⟩) (fun _ R s => H s.heap ∧
      R (.ok (.ret (.ref (s.heap.push o).objs.size))) { s with heap := (s.heap.push o).push { cls := .type "enumerate", data := .fields #[.none, .bool false, .ref s.heap.objs.size, rawInt 0, .none, .none] } }) :=
  .of_wp fun prog w A R s h => by
    obtain ⟨hp, g, d, tk, os⟩ := s
    obtain ⟨h1, h⟩ := h
    have hsub := sub_enumerate
    have go : ∀ {A' : Around} {E : Value → Shared → Prop} {Q : Value → Shared → Prop}, Q (.ref hp.objs.size) ⟨hp.push o, g, d, tk, os⟩ → wpAny (model prog w) A' (pyIter v) Q E ⟨hp, g, d, tk, os⟩ :=
      fun q => B.iter prog w _ _ ⟨hp, g, d, tk, os⟩ _ h1 q
    wp_walk using go
    refine wpAny_stack_any fun st => wpAny_pure ?_
    split
    · rename_i c _ _ _ _ _
      cases (c == Value.type "enumerate")
      · wp_walk using go
        exact ⟨_, rfl, h⟩
      · wp_walk using go
        exact ⟨_, rfl, h⟩
    · wp_walk using go
      exact ⟨_, rfl, h⟩
theorem call_enum1 {prog : Program} {w : World} {A : Around} {E : Value → Shared → Prop} {s : Shared} {v : Value} {o : Obj} {H : Heap → Prop} {Q : Value → Shared → Prop} (B : Begins v o H) (h1 : H s.heap)
    (h : ∀ h', IsEnum h' (s.heap.objs.size + 1) s.heap.objs.size 0 .none → h'.get? s.heap.objs.size = some o → (∀ b o, s.heap.get? b = some o → h'.get? b = some o) → Q (.ref (s.heap.objs.size + 1)) { s with heap := h' }) :
    wpAny (model prog w) A (call (.type "enumerate") [v]) Q E s := by
  refine callType_new F.called_enumerate (by decide) (F.typeCall_enumerate_1 _) (F.newCall_enumerate_1 _) (fun obj => F.args_object_init_2 obj _) F.entry_enumerate_new (meets_enum1 B) ⟨h1, ?_⟩
  have hz : (s.heap.push o).objs.size = s.heap.objs.size + 1 := Heap.size_push ..
  show _ ∧ _
  rw [hz]
  have he : IsEnum ((s.heap.push o).push { cls := .type "enumerate", data := .fields #[.none, .bool false, .ref s.heap.objs.size, rawInt 0, .none, .none] }) (s.heap.objs.size + 1) s.heap.objs.size 0 .none := by
    have z := Heap.get?_push_size (s.heap.push o) (o := { cls := .type "enumerate", data := .fields #[.none, .bool false, .ref s.heap.objs.size, rawInt 0, .none, .none] }) rfl
    rw [hz] at z
    exact z
  exact ⟨⟨_, he, rfl⟩, h _ he (Heap.get?_push_of_some _ (Heap.get?_push_size _ B.free)) fun b o x => Heap.get?_push_of_some _ (Heap.get?_push_of_some _ x)⟩
def iEnumS (K : PySem.W.Frag) (ta : TA) : TI := fun σ H R => ta σ H fun vs H1 => ∃ S : Src, vs = [.ref S.a] ∧ (∃ xs, S.sq K H1 xs) ∧ R (ItE K S) H1
theorem pi_enumS {X : Cx} {e : Expr} {ta : TA} {p pos tpos : Pos} {elts : List Expr} {kk : Nat} (hg : Gl X "enumerate") (hm : X.mg "enumerate" = none) (ha : PA X [e] ta) (hs : starEach [e] X.env = [(false, eval e X.env)] := by rfl) :
    PI X (.Tuple elts kk tpos) (.Call (.Name "enumerate" p) [e] [] pos) (iEnumS X.K ta) := by
  refine ⟨fun pins s σ H R I h => ?_⟩
  refine Call_ (ld_blt I hg hm boot_enumerate (PyProof.Rows.callWith_type1 (thn (ha.run pos pins s σ H _ I h) fun us s1 ⟨vs, H1, I1, r1, q1⟩ => ?_) hs rfl))
  obtain ⟨S, ex, ⟨xs, hq⟩, q⟩ := q1
  subst ex
  cases r1 with
  | cons r rr =>
    cases rr
    cases r
    obtain ⟨its, rv, p'⟩ := Src.lay I1 hq
    refine call_enum1 (Src.begins (S := S) its.toArray) p' fun h' he hit hk => wpAny_pyIter_enum he ?_
    have I2 : Inv X pins σ H1 { s1 with heap := h' } := I1.kept (t' := s1.toks) hk
    have la := Src.is_lt p'
    refine ⟨s1.heap.objs.size + 1, [s1.heap.objs.size + 1, s1.heap.objs.size], _, _, H1, rfl, I2, turn_enumS S (s1.heap.objs.size + 1) s1.heap.objs.size (Nat.ne_of_lt (Nat.lt_succ_of_lt la)) (Nat.ne_of_lt la), ⟨⟨.none, he⟩, Src.it0 hit, Nat.succ_ne_self _⟩, fun b hb => ?_, q⟩
    have hle : s1.heap.objs.size ≤ b := by
      rcases List.mem_cons.mp hb with z | z
      · rw [z]; exact Nat.le_add_right _ _
      · rw [List.mem_singleton.mp z]; exact Nat.le_refl _
    exact I1.fpOk hle (I1.hok.fresh hle)
theorem walk_enumS {K : PySem.W.Frag} {S : Src} {xs : List V} : Walk (ItE K S) xs.length (fun H => S.sq K H xs) (YPair (fun i => some (.int ((i : Nat) : Int))) (fun i => xs[i]?)) where
  goes := fun i H hi q => ⟨xs, xs[i], q, by simp [hi]⟩
  stops := fun H q => ⟨xs, q, rfl⟩
  yields := fun i H x H' hi q y => by
    obtain ⟨T, y, e1, e2, e3, e4⟩ := y
    exact ⟨T, _, y, e1, e2, e3, rfl, e4 xs q⟩
end DL
set_option maxHeartbeats 2000000
namespace DL
open PySem PySem.Spec PyProof.Rows L2
abbrev Ei := Rho → Pot → Res (List D × Pot)
section
variable (mg : Str → Option Value) (K : PySem.W.Frag)
/-- an iterator gives these data; w: as long as nothing but the pot changes -/
structure WalkD (w : Bool) (pot : Option Addr) (M : List Addr) (H1 : Hp) (J : It) (items : List D) (G : Hp → Prop) (Y : Nat → Hp → V → Hp → Prop) : Prop where
  walk : Walk J items.length G Y
  stay : ∀ H' M', (w = true → Grow pot H1 H') → Same (less H1 M) (less H' M') → G H'
  item : ∀ i H x H' M', (w = true → Grow pot H1 H) → Same (less H1 M) (less H M') → (∀ a ∈ M', Al H a) → i < items.length → Y i H x H' → Same H H' ∧ ∃ d, items[i]? = some d ∧ Rp mg K (less H' M') x d
def PostI (w : Bool) (pot : Option Addr) (M : List Addr) (H : Hp) (x : Res (List D × Pot)) (R : It → Hp → Prop) (E : XK) : Prop := match x with
  | .ok (items, π) => ∀ J H1 G Y, Grow pot H H1 → PotAt pot H1 π → WalkD mg K w pot M H1 J items G Y → R J H1
  | .err c ns xs π => PErr mg K pot M H c ns xs π E
  | .stuck => False
def SemI (w : Bool) (E : XK) (Γ : List Md) (wi : TI) (fi : Ei) : Prop :=
  ∀ pot M σ H ρ π, EnvOk mg K Γ pot M σ H ρ → PotAt pot H π → ∀ R, PostI mg K w pot M H (fi ρ π) R E → wi σ H R
/-- a target: the slots that it sets -/
def SemG (Γ : List Md) (is : List Nat) (g : TG) (fg : D → Rho → Option Rho) : Prop :=
  ∀ pot M σ H ρ v d, EnvOk mg K Γ pot M σ H ρ → Rp mg K (less H M) v d → ∀ ρ', fg d ρ = some ρ' → ∀ Q : L2.St → Hp → Prop, (∀ σ', EnvOk mg K Γ pot M σ' H ρ' → (∀ i, i ∉ is → σ'[i]? = σ[i]?) → (∀ i, i ∉ is → ρ'[i]? = ρ[i]?) → Q σ' H) → g v σ H Q
def SemGs (Γ : List Md) (is : List Nat) (g : TGs) (fg : List D → Rho → Option Rho) : Prop :=
  ∀ pot M σ H ρ vs ds, EnvOk mg K Γ pot M σ H ρ → RpL mg K (less H M) vs ds → ∀ ρ', fg ds ρ = some ρ' → ∀ Q : L2.St → Hp → Prop, (∀ σ', EnvOk mg K Γ pot M σ' H ρ' → (∀ i, i ∉ is → σ'[i]? = σ[i]?) → (∀ i, i ∉ is → ρ'[i]? = ρ[i]?) → Q σ' H) → g vs σ H Q
end
structure DI (w : Bool) (X : Cx) (E : XK) (Γ : List Md) (tg iter : Expr) (wi : TI) (fi : Ei) : Prop where
  pi : PI X tg iter wi
  sem : SemI X.mg X.K w E Γ wi fi
structure DG (X : Cx) (Γ : List Md) (tg : Expr) (is : List Nat) (g : TG) (fg : D → Rho → Option Rho) : Prop where
  pg : PG X tg g
  fs : ∀ i ∈ is, Γ[i]? = some .f
  sem : SemG X.mg X.K Γ is g fg
structure DGs (X : Cx) (Γ : List Md) (tgs : List Expr) (is : List Nat) (g : TGs) (fg : List D → Rho → Option Rho) : Prop where
  pgs : PGs X tgs g
  fs : ∀ i ∈ is, Γ[i]? = some .f
  sem : SemGs X.mg X.K Γ is g fg
def gN (i : Nat) : D → Rho → Option Rho := fun d ρ => some (ρ.set i (some d))
def gsNil : List D → Rho → Option Rho := fun ds ρ => match ds with
  | [] => some ρ
  | _ => none
def gsCons (a : D → Rho → Option Rho) (b : List D → Rho → Option Rho) : List D → Rho → Option Rho := fun ds ρ => match ds with
  | d :: r => (a d ρ).bind (b r)
  | [] => none
def gT (n : Nat) (b : List D → Rho → Option Rho) : D → Rho → Option Rho := fun d ρ => match d with
  | .tup ds => if ds.length = n then b ds ρ else none
  | _ => none
section
variable {mg : Str → Option Value} {K : PySem.W.Frag} {pot : Option Addr} {M : List Addr} {H H' : Hp} {v : V} {d : D} {Γ : List Md} {σ : L2.St} {ρ : Rho}
theorem EnvOk.setf (I : EnvOk mg K Γ pot M σ H ρ) {i : Nat} (hi : Γ[i]? = some .f) (r : Rp mg K (less H M) v d) : EnvOk mg K Γ pot M (σ.set i (some v)) H (ρ.set i (some d)) where
  ls := by rw [List.length_set]; exact I.ls
  lr := by rw [List.length_set]; exact I.lr
  f := fun j e h1 h2 => by
    by_cases e1 : i = j
    · subst e1
      have hl : i < ρ.length := by rw [I.lr]; exact (List.getElem?_eq_some_iff.mp hi).1
      have hs : i < σ.length := by rw [I.ls]; exact (List.getElem?_eq_some_iff.mp hi).1
      rw [List.getElem?_set_self hl] at h2
      cases h2
      exact ⟨v, by rw [List.getElem?_set_self hs], r⟩
    · rw [List.getElem?_set_ne e1] at h2
      obtain ⟨u, q, z⟩ := I.f j e h1 h2
      exact ⟨u, by rw [List.getElem?_set_ne e1]; exact q, z⟩
  o := fun j e h1 h2 => by
    have e1 : i ≠ j := fun q => by rw [q, h1] at hi; cases hi
    rw [List.getElem?_set_ne e1] at h2
    obtain ⟨p, q, z⟩ := I.o j e h1 h2
    exact ⟨p, by rw [List.getElem?_set_ne e1]; exact q, z⟩
  p := fun j h1 => by
    have e1 : i ≠ j := fun q => by rw [q, h1] at hi; cases hi
    obtain ⟨p, q, z⟩ := I.p j h1
    exact ⟨p, q, by rw [List.getElem?_set_ne e1]; exact z⟩
  s := fun j e h1 h2 => by
    have e1 : i ≠ j := fun q => by rw [q, h1] at hi; cases hi
    rw [List.getElem?_set_ne e1] at h2
    obtain ⟨p, ns, q, z⟩ := I.s j e h1 h2
    exact ⟨p, ns, by rw [List.getElem?_set_ne e1]; exact q, z⟩
  ap := fun j k a b c h1 h2 h3 h4 h5 h6 => by
    have e1 : i ≠ j := fun q => by rw [q, h1] at hi; cases hi
    have e2 : i ≠ k := fun q => by rw [q, h2] at hi; cases hi
    rw [List.getElem?_set_ne e1] at h3 h5
    rw [List.getElem?_set_ne e2] at h4 h6
    exact I.ap j k a b c h1 h2 h3 h4 h5 h6
  al := I.al
  pm := I.pm
  x := fun j a dd e h1 h2 => by
    have e1 : i ≠ j := fun q => by rw [q, h1] at hi; cases hi
    rw [List.getElem?_set_ne e1] at h2
    obtain ⟨z1, z2⟩ := I.x j a dd e h1 h2
    exact ⟨by rw [List.getElem?_set_ne e1]; exact z1, z2⟩
end
section
variable {X : Cx} {E : XK} {Γ : List Md} {pos : Pos} {k : Nat}
theorem dg_name (i : Nat) {x : Str} (hN : X.N.Nodup) (hi : X.N[i]? = some x := by rfl) (hx : Loc X.env.scope x := by first | exact Or.inl rfl | exact Or.inr rfl) (hΓ : Γ[i]? = some .f := by rfl)
    (hf : X.fn x = true ∨ X.env.scope.names.lookup x = some .local := by first | exact .inl rfl | exact .inr rfl) : DG X Γ (.Name x pos) [i] (gName i) (gN i) :=
  ⟨pg_name hN hi hx hf, fun j hj => by rw [List.mem_singleton.mp hj]; exact hΓ, fun pot M σ H ρ v d I r ρ' h Q q => by
    cases h
    refine q _ (I.setf hΓ r) (fun j hj => ?_) fun j hj => ?_
    · rw [List.getElem?_set_ne (fun e => hj (by simp [e]))]
    · rw [List.getElem?_set_ne (fun e => hj (by simp [e]))]⟩
theorem dgs_nil : DGs X Γ [] [] gNil gsNil := ⟨pgs_nil, (fun _ h => by cases h), fun pot M σ H ρ vs ds I r ρ' h Q q => by
  cases r with
  | nil =>
    cases h
    exact ⟨rfl, q σ I (fun _ _ => rfl) fun _ _ => rfl⟩
  | cons => cases h⟩
theorem dgs_cons {e : Expr} {es : List Expr} {is js : List Nat} {g : TG} {gs : TGs} {fg : D → Rho → Option Rho} {fgs : List D → Rho → Option Rho} (a : DG X Γ e is g fg) (b : DGs X Γ es js gs fgs)
    (hs : (assignEach (e :: es) X.env).map (·.2) = assign e X.env :: (assignEach es X.env).map (·.2) := by rfl) : DGs X Γ (e :: es) (is ++ js) (gCons g gs) (gsCons fg fgs) :=
  ⟨pgs_cons a.pg b.pgs hs, fun i hi => (List.mem_append.mp hi).elim (a.fs i) (b.fs i), fun pot M σ H ρ vs ds I r ρ' h Q q => by
    cases r with
    | nil => cases h
    | cons r1 r2 =>
      rename_i v ws d es
      unfold gsCons at h
      simp only [Option.bind_eq_some_iff] at h
      obtain ⟨ρ1, h1, h2⟩ := h
      refine ⟨v, ws, rfl, a.sem pot M σ H ρ v d I r1 ρ1 h1 _ fun σ1 I1 s1 s2 => ?_⟩
      refine b.sem pot M σ1 H ρ1 ws es I1 r2 ρ' h2 _ fun σ2 I2 s3 s4 => q σ2 I2 (fun i hi => ?_) fun i hi => ?_
      · rw [s3 i fun z => hi (List.mem_append_right _ z), s1 i fun z => hi (List.mem_append_left _ z)]
      · rw [s4 i fun z => hi (List.mem_append_right _ z), s2 i fun z => hi (List.mem_append_left _ z)]⟩
theorem dg_tup {es : List Expr} {is : List Nat} {gs : TGs} {fgs : List D → Rho → Option Rho} {kk : Nat} (hc : X.calm = true) (b : DGs X Γ es is gs fgs)
    (hn : (assignEach es X.env).length = es.length := by rfl) (hst : (assignEach es X.env).findIdx? (·.1) = none := by rfl) : DG X Γ (.Tuple es kk pos) is (gTup X.K es.length gs) (gT es.length fgs) :=
  ⟨pg_tup hc b.pgs hn hst, b.fs, fun pot M σ H ρ v d I r ρ' h Q q => by
    cases d with
    | tup ds =>
      unfold gT at h
      simp only at h
      split at h
      · rename_i hl
        cases r with
        | tup h1 h2 =>
          exact ⟨_, _, rfl, .inl (.inl (less_le _ _ h1)), by rw [h2.length]; exact hl, b.sem pot M σ H ρ _ ds I h2 ρ' h Q q⟩
      · cases h
    | _ => cases h⟩
end
def seqOf : D → Option (List D)
  | .lst xs => some xs
  | .tup xs => some xs
  | _ => none
def iVal (a : Ed) : Ei := fun ρ π => (a ρ π).bind fun x => (ofO (seqOf x.1)).bind fun z => .ok (z, x.2)
def numbered : Nat → List D → List D
  | _, [] => []
  | n, x :: xs => .tup [.int (n : Int), x] :: numbered (n + 1) xs
def iEnumD (a : Ea) : Ei := fun ρ π => (a ρ π).bind fun x => match x.1 with
  | [d] => (ofO (seqOf d)).bind fun z => .ok (numbered 0 z, x.2)
  | _ => .stuck
def rangeD (lo c : Int) (n : Nat) : List D := (List.range n).map fun (i : Nat) => .int (lo + (i : Int) * c)
def mid62 (i : Int) : Bool := decide (-4611686018427387904 ≤ i ∧ i < 4611686018427387904)
def rng (xs : List D) : Option (List D) := match xs with
  | [.int j] => if mid62 j then some (rangeD 0 1 j.toNat) else none
  | [.int i, .int j] => if mid62 i && mid62 j then some (rangeD i 1 (j - i).toNat) else none
  | _ => none
def iRng (a : Ea) : Ei := fun ρ π => (a ρ π).bind fun x => (ofO (rng x.1)).bind fun z => .ok (z, x.2)
/-- range(i, j, -1) -/
def rngDown (xs : List D) : Option (List D) := match xs with
  | [.int i, .int j, .int c] => if mid62 i && mid62 j && decide (c = -1) then some (rangeD i (-1) (i - j).toNat) else none
  | _ => none
def iRngDown (a : Ea) : Ei := fun ρ π => (a ρ π).bind fun x => (ofO (rngDown x.1)).bind fun z => .ok (z, x.2)
theorem numbered_get : ∀ (xs : List D) (n i : Nat), (numbered n xs)[i]? = (xs[i]?).map fun x => .tup [.int ((n + i : Nat) : Int), x]
  | [], n, i => by simp [numbered]
  | x :: xs, n, 0 => by simp [numbered]
  | x :: xs, n, i + 1 => by
    show (numbered (n + 1) xs)[i]? = _
    rw [numbered_get xs (n + 1) i]
    simp [Nat.add_comm, Nat.add_left_comm]
theorem numbered_len : ∀ (xs : List D) (n : Nat), (numbered n xs).length = xs.length
  | [], n => rfl
  | x :: xs, n => by
    show (numbered (n + 1) xs).length + 1 = xs.length + 1
    rw [numbered_len xs (n + 1)]
section
variable {mg : Str → Option Value} {K : PySem.W.Frag} {pot : Option Addr} {M : List Addr} {H H1 H' : Hp} {v x : V} {d : D} {ds : List D}
/-- a list or a tuple of data: where it lies -/
theorem seq_src (h : Rp mg K (less H M) x d) (e : seqOf d = some ds) : ∃ (S : Src) (xs : List V), x = .ref S.a ∧ S.sq K (less H M) xs ∧ RpL mg K (less H M) xs ds := by
  cases d with
  | lst es =>
    cases e
    cases h with
    | lst h1 h2 => exact ⟨⟨true, _⟩, _, rfl, .inl (.inl h1), h2⟩
  | tup es =>
    cases e
    cases h with
    | tup h1 h2 => exact ⟨⟨false, _⟩, _, rfl, .inl (.inl h1), h2⟩
  | _ => cases e
theorem sq_mono {S : Src} {xs : List V} (e : Same H H') (h : S.sq K H xs) : S.sq K H' xs := by
  unfold Src.sq at h ⊢
  split at h
  · rename_i q
    rw [if_pos q]
    exact sqL_mono e h
  · rename_i q
    rw [if_neg q]
    exact sqT_mono e h
theorem walkS {w : Bool} {S : Src} {xs : List V} (r : RpL mg K (less H1 M) xs ds) (st : ∀ H' M', (w = true → Grow pot H1 H') → Same (less H1 M) (less H' M') → S.sq K H' xs) : WalkD mg K w pot M H1 (ItS K S) ds (fun H => S.sq K H xs) (YAt xs) where
  walk := by
    rw [← r.length]
    exact walk_seq
  stay := st
  item := fun i H x H' M' _ s _ hi y => by
    obtain ⟨rfl, y⟩ := y
    obtain ⟨d, e, q⟩ := r.getV y
    exact ⟨Same.refl _, d, e, q.mono s⟩
theorem walkE {w : Bool} {S : Src} {xs : List V} (r : RpL mg K (less H1 M) xs ds) (st : ∀ H' M', (w = true → Grow pot H1 H') → Same (less H1 M) (less H' M') → S.sq K H' xs) :
    WalkD mg K w pot M H1 (ItE K S) (numbered 0 ds) (fun H => S.sq K H xs) (YPair (fun i => some (.int ((i : Nat) : Int))) (fun i => xs[i]?)) where
  walk := by
    rw [numbered_len, ← r.length]
    exact walk_enumS
  stay := st
  item := fun i H x H' M' _ s al hi y => by
    obtain ⟨T, a, b, rfl, hT, rfl, e1, e2⟩ := y
    cases e1
    obtain ⟨d, e, q⟩ := r.getV e2
    refine ⟨same_upd hT, .tup [.int (i : Int), d], ?_, new_tup al hT (.cons (.int _) (.cons (q.mono s) .nil))⟩
    rw [numbered_get, e]
    simp
end
theorem args1 {mg : Str → Option Value} {K : PySem.W.Frag} {pot : Option Addr} {M : List Addr} {H : Hp} {k : Ak} {vs : List V} {ds : List D} (h : Args mg K pot M H [k] vs ds) : ∃ v d, vs = [v] ∧ ds = [d] ∧ ArgR mg K pot M H k v d := by
  cases h with
  | cons a r =>
    cases r
    exact ⟨_, _, rfl, rfl, a⟩
theorem args2 {mg : Str → Option Value} {K : PySem.W.Frag} {pot : Option Addr} {M : List Addr} {H : Hp} {k l : Ak} {vs : List V} {ds : List D} (h : Args mg K pot M H [k, l] vs ds) : ∃ v d w e, vs = [v, w] ∧ ds = [d, e] ∧ ArgR mg K pot M H k v d ∧ ArgR mg K pot M H l w e := by
  cases h with
  | cons a r =>
    obtain ⟨w, e, rfl, rfl, b⟩ := args1 r
    exact ⟨_, _, _, _, rfl, rfl, a, b⟩
theorem args3 {mg : Str → Option Value} {K : PySem.W.Frag} {pot : Option Addr} {M : List Addr} {H : Hp} {k l m : Ak} {vs : List V} {ds : List D} (h : Args mg K pot M H [k, l, m] vs ds) :
    ∃ v d w e x f, vs = [v, w, x] ∧ ds = [d, e, f] ∧ ArgR mg K pot M H k v d ∧ ArgR mg K pot M H l w e ∧ ArgR mg K pot M H m x f := by
  cases h with
  | cons a r =>
    obtain ⟨w, e, x, f, rfl, rfl, b, c⟩ := args2 r
    exact ⟨_, _, _, _, _, _, rfl, rfl, a, b, c⟩
section
variable {X : Cx} {E : XK} {Γ : List Md} {pos p tpos : Pos} {k kk : Nat} {r : Rm} {e tg : Expr} {te : TE} {fe : Ed} {es elts : List Expr} {tA : TA} {fA : Ea} {ks : List Ak}
theorem PostI.seq {w : Bool} {pot : Option Addr} {M : List Addr} {H : Hp} {x : Res (D × Pot)} {kk : D × Pot → Res (List D × Pot)} {R0 : It → Hp → Prop} (h : PostI X.mg X.K w pot M H (x.bind kk) R0 E)
    {te : VK → Prop} (ht : ∀ Q', Post X.mg X.K r pot M H x Q' E → te Q') {R : VK}
    (hk : ∀ d π1 v H1, x = .ok (d, π1) → Grow pot H H1 → PotAt pot H1 π1 → RpR X.mg X.K r pot M H H1 v d → PostI X.mg X.K w pot M H1 (kk (d, π1)) R0 E → R v H1) : te R := by
  refine ht R ?_
  cases x with
  | ok a =>
    obtain ⟨d, π1⟩ := a
    refine fun v H1 g p q => hk d π1 v H1 rfl g p q ?_
    simp only [Res.bind_ok] at h
    cases e : kk (d, π1) with
    | ok b =>
      rw [e] at h
      exact fun J H2 G Y g2 p2 w2 => h J H2 G Y (g.trans g2) p2 w2
    | err c ns xs π' =>
      rw [e] at h
      exact PErr.back h g
    | stuck =>
      rw [e] at h
      exact h
  | err c ns xs π' => exact h
  | stuck => exact h
theorem PostI.seqA {w : Bool} {pot : Option Addr} {M : List Addr} {H : Hp} {x : Res (List D × Pot)} {kk : List D × Pot → Res (List D × Pot)} {R0 : It → Hp → Prop} (h : PostI X.mg X.K w pot M H (x.bind kk) R0 E)
    {te : (List V → Hp → Prop) → Prop} (ht : ∀ Q', PostA X.mg X.K ks pot M H x Q' E → te Q') {R : List V → Hp → Prop}
    (hk : ∀ ds π1 vs H1, x = .ok (ds, π1) → Grow pot H H1 → PotAt pot H1 π1 → Args X.mg X.K pot M H1 ks vs ds → PostI X.mg X.K w pot M H1 (kk (ds, π1)) R0 E → R vs H1) : te R := by
  refine ht R ?_
  cases x with
  | ok a =>
    obtain ⟨d, π1⟩ := a
    refine fun v H1 g p q => hk d π1 v H1 rfl g p q ?_
    simp only [Res.bind_ok] at h
    cases e : kk (d, π1) with
    | ok b =>
      rw [e] at h
      exact fun J H2 G Y g2 p2 w2 => h J H2 G Y (g.trans g2) p2 w2
    | err c ns xs π' =>
      rw [e] at h
      exact PErr.back h g
    | stuck =>
      rw [e] at h
      exact h
  | err c ns xs π' => exact h
  | stuck => exact h
theorem di_seq (ha : DE X E .f Γ e te fe) : DI false X E Γ tg e (iSeq X.K te) (iVal fe) :=
  ⟨pi_seq ha.pe, fun pot M σ H ρ π I p R h => by
    refine PostI.seq (r := .f) (te := te σ H) h (fun Q' hq => ha.sem pot M σ H ρ π I p Q' hq) fun d π1 v H1 _ g1 p1 r1 h1 => ?_
    cases hz : seqOf d with
    | none =>
      simp only [hz, ofO_none, Res.bind_stuck] at h1
      exact h1.elim
    | some ds =>
      simp only [hz, ofO_some, Res.bind_ok] at h1
      obtain ⟨S, xs, e1, e2, e3⟩ := seq_src r1 hz
      exact ⟨S, e1, ⟨xs, sq_mono less_le e2⟩, h1 _ H1 _ _ .refl p1 (walkS e3 fun H' M' _ s => sq_mono less_le (sq_mono s e2))⟩⟩
theorem di_enum (hm : X.mg "enumerate" = none) (ha : DA X E [.f] Γ [e] tA fA) (hg : Gl X "enumerate" := by rfl) (hs : starEach [e] X.env = [(false, eval e X.env)] := by rfl) : DI false X E Γ (.Tuple elts kk tpos) (.Call (.Name "enumerate" p) [e] [] pos) (iEnumS X.K tA) (iEnumD fA) :=
  ⟨pi_enumS hg hm ha.pa hs, fun pot M σ H ρ π I p R h => by
    refine PostI.seqA (ks := [.f]) (te := tA σ H) h (fun Q' hq => ha.sem pot M σ H ρ π I p Q' hq) fun ds π1 vs H1 _ g1 p1 r1 h1 => ?_
    obtain ⟨v, d, rfl, rfl, a⟩ := args1 r1
    · simp only at h1
      cases hz : seqOf d with
      | none =>
        simp only [hz, ofO_none, Res.bind_stuck] at h1
        exact h1.elim
      | some ds =>
        simp only [hz, ofO_some, Res.bind_ok] at h1
        obtain ⟨S, xs, e1, e2, e3⟩ := seq_src (show Rp X.mg X.K (less H1 M) v d from a) hz
        subst e1
        exact ⟨S, rfl, ⟨xs, sq_mono less_le e2⟩, h1 _ H1 _ _ .refl p1 (walkE e3 fun H' M' _ s => sq_mono less_le (sq_mono s e2))⟩⟩
theorem mid_of {i : Int} (h : mid62 i = true) : -(2 ^ 62) ≤ i ∧ i < 2 ^ 62 := by
  unfold mid62 at h
  have := of_decide_eq_true h
  omega
theorem rangeD_get {lo c : Int} {n i : Nat} (h : i < n) : (rangeD lo c n)[i]? = some (.int (lo + (i : Int) * c)) := by
  unfold rangeD
  rw [List.getElem?_map, List.getElem?_range h]
  rfl
theorem rangeD_len (lo c : Int) (n : Nat) : (rangeD lo c n).length = n := by
  unfold rangeD
  rw [List.length_map, List.length_range]
theorem walkR {w : Bool} {pot : Option Addr} {M : List Addr} {H1 : Hp} {lo : Int} {n : Nat} : WalkD X.mg X.K w pot M H1 (Itr lo n) (rangeD lo 1 n) (fun _ => True) (YFn fun i => .int (lo + i)) where
  walk := by
    rw [rangeD_len]
    exact walk_range
  stay := fun _ _ _ _ => trivial
  item := fun i H x H' M' _ s al hi y => by
    obtain ⟨rfl, rfl⟩ := y
    rw [rangeD_len] at hi
    exact ⟨Same.refl _, _, rangeD_get hi, by rw [Int.mul_one]; exact .int _⟩
theorem di_range1 (hm : X.mg "range" = none) (ha : DA X E [.f] Γ [e] tA fA) (hg : Gl X "range" := by rfl) (hs : starEach [e] X.env = [(false, eval e X.env)] := by rfl) : DI false X E Γ tg (.Call (.Name "range" p) [e] [] pos) (iRng1 tA) (iRng fA) :=
  ⟨pi_range1 hg hm ha.pa hs, fun pot M σ H ρ π I p R h => by
    refine PostI.seqA (ks := [.f]) (te := tA σ H) h (fun Q' hq => ha.sem pot M σ H ρ π I p Q' hq) fun ds π1 vs H1 _ g1 p1 r1 h1 => ?_
    obtain ⟨v, d, rfl, rfl, a⟩ := args1 r1
    cases d with
    | int j =>
      cases rb_int (.inl (show Rp X.mg X.K (less H1 M) v (.int j) from a) : Rb X.mg X.K pot M H1 v (.int j))
      simp only [rng] at h1
      split at h1
      · rename_i hj
        obtain ⟨q1, q2⟩ := mid_of hj
        exact ⟨j, rfl, q1, q2, h1 _ H1 _ _ .refl p1 walkR⟩
      · exact h1.elim
    | _ => exact h1.elim⟩
theorem di_range2 {e2 : Expr} (hm : X.mg "range" = none) (ha : DA X E [.f, .f] Γ [e, e2] tA fA) (hg : Gl X "range" := by rfl) (hs : starEach [e, e2] X.env = [(false, eval e X.env), (false, eval e2 X.env)] := by rfl) (hs2 : starEach [e2] X.env = [(false, eval e2 X.env)] := by rfl) :
    DI false X E Γ tg (.Call (.Name "range" p) [e, e2] [] pos) (iRng2 tA) (iRng fA) :=
  ⟨pi_range2 hg hm ha.pa hs hs2, fun pot M σ H ρ π I p R h => by
    refine PostI.seqA (ks := [.f, .f]) (te := tA σ H) h (fun Q' hq => ha.sem pot M σ H ρ π I p Q' hq) fun ds π1 vs H1 _ g1 p1 r1 h1 => ?_
    obtain ⟨v, d, v2, d2, rfl, rfl, a, b⟩ := args2 r1
    cases d with
    | int i =>
      cases d2 with
      | int j =>
        cases rb_int (.inl (show Rp X.mg X.K (less H1 M) v (.int i) from a) : Rb X.mg X.K pot M H1 v (.int i))
        cases rb_int (.inl (show Rp X.mg X.K (less H1 M) v2 (.int j) from b) : Rb X.mg X.K pot M H1 v2 (.int j))
        simp only [rng] at h1
        split at h1
        · rename_i hj
          obtain ⟨q0, q9⟩ := Bool.and_eq_true_iff.mp hj
          obtain ⟨q1, q2⟩ := mid_of q0
          obtain ⟨q3, q4⟩ := mid_of q9
          exact ⟨i, j, rfl, ⟨q1, q2, q3, q4⟩, h1 _ H1 _ _ .refl p1 walkR⟩
        · exact h1.elim
      | _ => exact h1.elim
    | _ => exact h1.elim⟩
end
end DL
set_option maxHeartbeats 2000000
namespace DL
open PySem PySem.Spec PyProof.Rows L2
def safe {α : Type} : Res α → Res α
  | .ok a => .ok a
  | _ => .stuck
@[simp] theorem safe_ok {α : Type} (a : α) : safe (Res.ok a) = .ok a := rfl
def lcGo (fg : D → Rho → Option Rho) (ft : Et) (fe : Ed) (ρ : Rho) : List D → Pot → Res (List D × Pot)
  | [], π => .ok ([], π)
  | d :: ds, π => (ofO (fg d ρ)).bind fun ρ1 => (safe (ft ρ1 π)).bind fun b => if b.1 = true then (safe (fe ρ1 b.2)).bind fun x => (lcGo fg ft fe ρ ds x.2).bind fun r => .ok (x.1 :: r.1, r.2) else lcGo fg ft fe ρ ds b.2
def wipeD (ρ : Rho) : List Nat → Rho
  | [] => ρ
  | v :: vs => (wipeD ρ vs).set v none
def eLC (fi : Ei) (fg : D → Rho → Option Rho) (ft : Et) (fe : Ed) (vs : List Nat) : Ed := fun ρ π => (fi ρ π).bind fun x => if x.1.length < sizeLine then (lcGo fg ft fe (wipeD ρ vs) x.1 x.2).bind fun r => .ok (.lst r.1, r.2) else .stuck
def tTrue : Et := fun _ π => .ok (true, π)
section
variable {mg : Str → Option Value} {K : PySem.W.Frag} {pot : Option Addr} {M : List Addr} {H H1 H' : Hp} {v : V} {d : D} {Γ : List Md} {σ : L2.St} {ρ : Rho} {π : Pot}
theorem safe_ne {α : Type} {x : Res α} {c : Str} {ns : List Str} {xs : List D} : safe x ≠ .err c ns xs π := by
  cases x <;> simp [safe]
theorem lcGo_ne {fg : D → Rho → Option Rho} {ft : Et} {fe : Ed} {c : Str} {ns : List Str} {xs : List D} {π' : Pot} : ∀ (ds : List D) (π : Pot), lcGo fg ft fe ρ ds π ≠ .err c ns xs π'
  | [], π => by simp [lcGo]
  | d :: ds, π => by
    unfold lcGo
    cases h1 : fg d ρ with
    | none => simp
    | some ρ1 =>
      simp only [ofO_some, Res.bind_ok]
      cases h2 : safe (ft ρ1 π) with
      | ok b =>
        simp only [Res.bind_ok]
        split
        · cases h3 : safe (fe ρ1 b.2) with
          | ok x =>
            simp only [Res.bind_ok]
            cases h4 : lcGo fg ft fe ρ ds x.2 with
            | ok r => simp
            | err c ns xs p => exact absurd h4 (lcGo_ne ds x.2)
            | stuck => simp
          | err c ns xs p => exact absurd h3 safe_ne
          | stuck => simp
        · exact lcGo_ne ds b.2
      | err c ns xs p => exact absurd h2 safe_ne
      | stuck => simp
theorem EnvOk.unset (I : EnvOk mg K Γ pot M σ H ρ) {i : Nat} (hi : Γ[i]? = some .f) : EnvOk mg K Γ pot M (σ.set i none) H (ρ.set i none) where
  ls := by rw [List.length_set]; exact I.ls
  lr := by rw [List.length_set]; exact I.lr
  f := fun j e h1 h2 => by
    by_cases e1 : i = j
    · subst e1
      have hl : i < ρ.length := by rw [I.lr]; exact (List.getElem?_eq_some_iff.mp hi).1
      rw [List.getElem?_set_self hl] at h2
      cases h2
    · rw [List.getElem?_set_ne e1] at h2
      obtain ⟨u, q, z⟩ := I.f j e h1 h2
      exact ⟨u, by rw [List.getElem?_set_ne e1]; exact q, z⟩
  o := fun j e h1 h2 => by
    have e1 : i ≠ j := fun q => by rw [q, h1] at hi; cases hi
    rw [List.getElem?_set_ne e1] at h2
    obtain ⟨p, q, z⟩ := I.o j e h1 h2
    exact ⟨p, by rw [List.getElem?_set_ne e1]; exact q, z⟩
  p := fun j h1 => by
    have e1 : i ≠ j := fun q => by rw [q, h1] at hi; cases hi
    obtain ⟨p, q, z⟩ := I.p j h1
    exact ⟨p, q, by rw [List.getElem?_set_ne e1]; exact z⟩
  s := fun j e h1 h2 => by
    have e1 : i ≠ j := fun q => by rw [q, h1] at hi; cases hi
    rw [List.getElem?_set_ne e1] at h2
    obtain ⟨p, ns, q, z⟩ := I.s j e h1 h2
    exact ⟨p, ns, by rw [List.getElem?_set_ne e1]; exact q, z⟩
  ap := fun j k a b c h1 h2 h3 h4 h5 h6 => by
    have e1 : i ≠ j := fun q => by rw [q, h1] at hi; cases hi
    have e2 : i ≠ k := fun q => by rw [q, h2] at hi; cases hi
    rw [List.getElem?_set_ne e1] at h3 h5
    rw [List.getElem?_set_ne e2] at h4 h6
    exact I.ap j k a b c h1 h2 h3 h4 h5 h6
  al := I.al
  pm := I.pm
  x := fun j a dd e h1 h2 => by
    have e1 : i ≠ j := fun q => by rw [q, h1] at hi; cases hi
    rw [List.getElem?_set_ne e1] at h2
    obtain ⟨z1, z2⟩ := I.x j a dd e h1 h2
    exact ⟨by rw [List.getElem?_set_ne e1]; exact z1, z2⟩
theorem EnvOk.wipe (I : EnvOk mg K Γ pot M σ H ρ) : ∀ {vs : List Nat}, (∀ i ∈ vs, Γ[i]? = some .f) → EnvOk mg K Γ pot M (L2.wipe σ vs) H (wipeD ρ vs)
  | [], _ => I
  | v :: vs, h => (EnvOk.wipe I fun i hi => h i (List.mem_cons_of_mem _ hi)).unset (h v (List.mem_cons_self ..))
/-- the same place, later, a new cell beside -/
theorem EnvOk.under (I : EnvOk mg K Γ pot M σ H1 ρ) {q : Addr} (hn : H1 q = none) (g : Grow pot H1 H) (p : PotAt pot H π) (hq : Al H q) : EnvOk mg K Γ pot (q :: M) σ H ρ := by
  have nq : ∀ a o, H1 a = some o → a ≠ q := fun a o h => ne_of_none h hn
  have sm : ∀ L : List Addr, (∀ a, pot = some a → a ∈ L) → Same (less H1 L) (less H (q :: L)) := fun L hL a o h => by
    obtain ⟨h1, h2⟩ := less_some.mp h
    refine less_some.mpr ⟨fun m => ?_, g a o (fun e => h1 (hL a e)) h2⟩
    rcases List.mem_cons.mp m with e | m
    · exact nq a o h2 e
    · exact h1 m
  refine ⟨I.ls, I.lr, fun i d h1 h2 => ?_, fun i d h1 h2 => ?_, I.p, fun i d h1 h2 => ?_, I.ap, fun a ha => ?_, fun a e => List.mem_cons_of_mem _ (I.pm a e), fun i a dd d h1 h2 => ⟨(I.x i a dd d h1 h2).1, (I.x i a dd d h1 h2).2.mono (sm M I.pm)⟩⟩
  · obtain ⟨v, e, r⟩ := I.f i d h1 h2
    exact ⟨v, e, r.mono (sm M I.pm)⟩
  · obtain ⟨a, e, m, n, oo, h3, h4⟩ := I.o i d h1 h2
    refine ⟨a, e, List.mem_cons_of_mem _ m, n, oo, g a _ n h3, h4.mono fun b o h => ?_⟩
    obtain ⟨h5, h6⟩ := less_some.mp (sm (a :: M) (fun b e => List.mem_cons_of_mem _ (I.pm b e)) b o h)
    refine less_some.mpr ⟨fun m => h5 ?_, h6⟩
    rcases List.mem_cons.mp m with z | m
    · exact List.mem_cons_of_mem _ (by rw [z]; exact List.mem_cons_self ..)
    · rcases List.mem_cons.mp m with z | m
      · rw [z]
        exact List.mem_cons_self ..
      · exact List.mem_cons_of_mem _ (List.mem_cons_of_mem _ m)
  · obtain ⟨a, ns, e1, e2, e3⟩ := I.s i d h1 h2
    exact ⟨a, ns, e1, e2, sqL_mono (sm M I.pm) e3⟩
  · rcases List.mem_cons.mp ha with e | m
    · rw [e]
      exact hq
    · exact alive I.al p g a m
theorem wipe_at (σ : L2.St) (i : Nat) : ∀ (vs : List Nat), (L2.wipe σ vs)[i]? = if i ∈ vs then (if i < σ.length then some none else none) else σ[i]?
  | [] => by simp [L2.wipe]
  | v :: vs => by
    have ih := wipe_at σ i vs
    unfold L2.wipe
    by_cases e : v = i
    · subst e
      rw [List.getElem?_set, if_pos rfl, wipe_length]
      simp
    · rw [List.getElem?_set_ne e, ih]
      simp [Ne.symm e]
theorem wipe_of {σ σ2 : L2.St} {vs is : List Nat} (hl : σ2.length = σ.length) (hs : ∀ i ∈ is, i ∈ vs) (h : ∀ i, i ∉ is → σ2[i]? = (L2.wipe σ vs)[i]?) : L2.wipe σ2 vs = L2.wipe σ vs := by
  apply List.ext_getElem?
  intro i
  rw [wipe_at, wipe_at]
  by_cases e : i ∈ vs
  · rw [if_pos e, if_pos e, hl]
  · rw [if_neg e, if_neg e, h i fun z => e (hs i z), wipe_at, if_neg e]
end
structure DTs (X : Cx) (E : XK) (Γ : List Md) (es : List Expr) (tt : TT) (ft : Et) : Prop where
  pts : PTs X es tt
  sem : SemT X.mg X.K E Γ tt ft
section
variable {X : Cx} {E : XK} {Γ : List Md} {pos : Pos} {k : Nat}
theorem dts_nil : DTs X E Γ [] tYes tTrue := ⟨pts_nil, fun pot M σ H ρ π I p Q h => h H .refl p⟩
theorem dts_one {c : Expr} {tt : TT} {ft : Et} (h : DT X E Γ c tt ft) : DTs X E Γ [c] tt ft := ⟨pts_one h.pt, h.sem⟩
theorem XOk.blk {s : Shared} {H : Hp} {scope : Scope} {cenv : Env} {fp : List Addr} (x : XOk X E k) : XOk (X.blk s H scope cenv fp) E0 k := ⟨x.room, x.gd, x.calm, passL, PassesOwn.never, x.nd⟩
theorem sem_lcAt {w : Bool} {wi : TI} {fi : Ei} {is vs : List Nat} {g : TG} {fg : D → Rho → Option Rho} {tt : TT} {ft : Et} {te : TE} {fe : Ed} {pot : Option Addr} {M : List Addr} {σ : L2.St} {H : Hp} {ρ : Rho} {π : Pot} (hi : ∀ R, PostI X.mg X.K w pot M H (fi ρ π) R E → wi σ H R) (hg : SemG X.mg X.K Γ is g fg) (hv : ∀ i ∈ is, i ∈ vs) (hΓ : ∀ i ∈ vs, Γ[i]? = some .f)
    (ht : SemT X.mg X.K E0 Γ tt ft) (he : SemE X.mg X.K E0 .f Γ te fe) (I : EnvOk X.mg X.K Γ pot M σ H ρ) (p : PotAt pot H π) (Q : VK) (h : Post X.mg X.K .o pot M H (eLC fi fg ft fe vs ρ π) Q E) : tLc wi g tt te vs σ H Q := by
  refine hi _ ?_
  unfold eLC at h
  cases ei : fi ρ π with
  | err c ns xs π' =>
    rw [ei] at h
    exact h
  | stuck =>
    rw [ei] at h
    exact h
  | ok x =>
    obtain ⟨items, π0⟩ := x
    rw [ei] at h
    simp only [Res.bind_ok] at h
    intro J H1 G Y g1 p1 W D hD
    by_cases hz : items.length < sizeLine
    · rw [if_pos hz] at h
      have I1 := I.grow g1 p1
      cases et : lcGo fg ft fe (wipeD ρ vs) items π0 with
      | err c ns xs π' => exact absurd et (lcGo_ne items π0)
      | stuck =>
        rw [et] at h
        exact h.elim
      | ok r =>
        obtain ⟨ds, π9⟩ := r
        rw [et] at h
        simp only [Res.bind_ok] at h
        have nD : pot ≠ some D := fun e => p1.has D e hD
        have gD : ∀ {H2 : Hp} {o : HO}, Grow pot H1 H2 → Grow pot H1 (upd H2 D o) := fun gr a o n e => by
          rw [upd_ne (ne_of_none e hD)]
          exact gr a o n e
        have pD : ∀ {H2 : Hp} {o : HO} {π : Pot}, PotAt pot H2 π → PotAt pot (upd H2 D o) π := fun q a e => by
          rw [upd_ne (fun z => nD (by rw [e, z]))]
          exact q a e
        have lD : ∀ {H2 : Hp} {o : HO}, Same (less H2 (D :: M)) (less (upd H2 D o) (D :: M)) := fun a o e => by
          obtain ⟨e1, e2⟩ := less_some.mp e
          refine less_some.mpr ⟨e1, ?_⟩
          rw [upd_ne (fun z => e1 (by rw [z]; exact List.mem_cons_self ..))]
          exact e2
        have sD : ∀ {H2 : Hp}, Grow pot H1 H2 → Same (less H1 M) (less H2 (D :: M)) := fun gr a o e => by
          obtain ⟨e1, e2⟩ := less_some.mp e
          refine less_some.mpr ⟨fun m => ?_, gr a o (fun z => e1 (I.pm a z)) e2⟩
          rcases List.mem_cons.mp m with z | m
          · exact ne_of_none e2 hD z
          · exact e1 m
        refine lc_it W.walk (fun i H2 => ∃ π2 vsa dsa, Grow pot H1 H2 ∧ PotAt pot H2 π2 ∧ H2 D = some (.lst vsa) ∧ RpL X.mg X.K (less H2 (D :: M)) vsa dsa ∧ dsa.length ≤ i ∧
            (lcGo fg ft fe (wipeD ρ vs) (items.drop i) π2).bind (fun r => .ok (dsa ++ r.1, r.2)) = .ok (ds, π9))
          ⟨π0, [], [], gD .refl, pD p1, upd_same, .nil, Nat.le_refl _, by rw [List.drop_zero, et]; rfl⟩ (fun i H2 _ ⟨_, _, _, gr, _⟩ => W.stay H2 (D :: M) (fun _ => gr) (sD gr)) ?_ ?_
        · rintro i xv H2 H3 hlt ⟨π2, vsa, dsa, gr, pr, hDv, rr, hle, hgo⟩ hy
          have I2 := I1.under hD gr pr (.of hDv fun _ e => by cases e)
          obtain ⟨sm, d, hd, rd⟩ := W.item i H2 xv H3 (D :: M) (fun _ => gr) (sD gr) I2.al hlt hy
          have gr3 : Grow pot H1 H3 := gr.trans (.of_same sm)
          have pr3 := pr.same sm
          have hDv3 := sm _ _ hDv
          have I3 := (I1.under hD gr3 pr3 (.of hDv3 fun _ e => by cases e)).wipe hΓ
          have rr3 : RpL X.mg X.K (less H3 (D :: M)) vsa dsa := rr.mono (less_grow I2.pm (.of_same sm))
          have edr : items.drop i = d :: items.drop (i + 1) := by
            rw [List.drop_eq_getElem_cons hlt]
            congr 1
            have := List.getElem?_eq_getElem hlt
            rw [hd] at this
            exact (Option.some.inj this).symm
          rw [edr] at hgo
          unfold lcGo at hgo
          cases e1 : fg d (wipeD ρ vs) with
          | none => rw [e1] at hgo; cases hgo
          | some ρ1 =>
            rw [e1] at hgo
            simp only [ofO_some, Res.bind_ok] at hgo
            refine hg pot (D :: M) _ H3 _ xv d I3 rd ρ1 e1 _ fun σ2 I4 so _ => ⟨wipe_of (by rw [I4.ls, I1.ls]) hv so, ?_⟩
            refine ht pot (D :: M) σ2 H3 ρ1 π2 I4 pr3 _ ?_
            cases e2 : ft ρ1 π2 with
            | err c ns xs p => rw [e2] at hgo; cases hgo
            | stuck => rw [e2] at hgo; cases hgo
            | ok b =>
              obtain ⟨b, π3⟩ := b
              rw [e2] at hgo
              simp only [safe_ok, Res.bind_ok] at hgo
              intro H4 g4 p4
              have gr4 := gr3.trans g4
              have hDv4 := g4 D _ nD hDv3
              cases b with
              | false =>
                rw [if_neg Bool.false_ne_true] at hgo ⊢
                exact ⟨π3, vsa, dsa, gr4, p4, hDv4, rr3.mono (less_grow I4.pm g4), Nat.le_succ_of_le hle, hgo⟩
              | true =>
                rw [if_pos rfl] at hgo ⊢
                refine he pot (D :: M) σ2 H4 ρ1 π3 (I4.grow g4 p4) p4 _ ?_
                cases e3 : fe ρ1 π3 with
                | err c ns xs p => rw [e3] at hgo; cases hgo
                | stuck => rw [e3] at hgo; cases hgo
                | ok y =>
                  obtain ⟨y, π4⟩ := y
                  rw [e3] at hgo
                  simp only [safe_ok, Res.bind_ok] at hgo
                  intro yv H5 g5 p5 ry
                  have gr5 := gr4.trans g5
                  have hDv5 := g5 D _ nD hDv4
                  have rr5 := (rr3.mono (less_grow I4.pm g4)).mono (less_grow I4.pm g5)
                  refine ⟨vsa, hDv5, by rw [rr.length]; omega, π4, vsa ++ [yv], dsa ++ [y], gD gr5, pD p5, upd_same, (rr5.append (.cons ry .nil)).mono lD, by simp; omega, ?_⟩
                  cases e4 : lcGo fg ft fe (wipeD ρ vs) (items.drop (i + 1)) π4 with
                  | ok r =>
                    rw [e4] at hgo
                    simp only [Res.bind_ok] at hgo ⊢
                    rw [← hgo, List.append_assoc]
                    rfl
                  | err c ns xs p => rw [e4] at hgo; cases hgo
                  | stuck => rw [e4] at hgo; cases hgo
        · rintro H2 ⟨π2, vsa, dsa, gr, pr, hDv, rr, hle, hgo⟩
          rw [List.drop_length] at hgo
          simp only [lcGo, Res.bind_ok, List.append_nil, Res.ok.injEq, Prod.mk.injEq] at hgo
          obtain ⟨rfl, rfl⟩ := hgo
          refine h (.ref D) H2 (g1.trans gr) pr ⟨D, rfl, ?_, nD, _, hDv, .lst rr⟩
          cases e : H D with
          | none => rfl
          | some o =>
            rw [g1 D o nD e] at hD
            cases hD
    · rw [if_neg hz] at h
      exact h.elim
/-- one reading for all places that are alike -/
def canE (mg : Str → Option Value) (K : PySem.W.Frag) (E : XK) (r : Rm) (Γ : List Md) (fe : Ed) : TE := fun σ H Q => ∃ pot M ρ π, EnvOk mg K Γ pot M σ H ρ ∧ PotAt pot H π ∧ Post mg K r pot M H (fe ρ π) Q E
def canT (mg : Str → Option Value) (K : PySem.W.Frag) (E : XK) (Γ : List Md) (ft : Et) : TT := fun σ H Q => ∃ pot M ρ π, EnvOk mg K Γ pot M σ H ρ ∧ PotAt pot H π ∧ PostT mg K pot M H (ft ρ π) Q E
def canG (mg : Str → Option Value) (K : PySem.W.Frag) (Γ : List Md) (is : List Nat) (fg : D → Rho → Option Rho) : TG := fun v σ H Q => ∃ pot M ρ d ρ', EnvOk mg K Γ pot M σ H ρ ∧ Rp mg K (less H M) v d ∧ fg d ρ = some ρ' ∧ ∀ σ', EnvOk mg K Γ pot M σ' H ρ' → (∀ i, i ∉ is → σ'[i]? = σ[i]?) → (∀ i, i ∉ is → ρ'[i]? = ρ[i]?) → Q σ' H
theorem DE.can {r : Rm} {e : Expr} {te : TE} {fe : Ed} (h : DE X E r Γ e te fe) : DE X E r Γ e (canE X.mg X.K E r Γ fe) fe :=
  ⟨⟨fun pins s σ H Q I q => by
    obtain ⟨pot, M, ρ, π, h1, h2, h3⟩ := q
    exact h.pe.run pins s σ H Q I (h.sem pot M σ H ρ π h1 h2 Q h3)⟩, fun pot M σ H ρ π I p Q q => ⟨pot, M, ρ, π, I, p, q⟩⟩
theorem DTs.can {es : List Expr} {tt : TT} {ft : Et} (h : DTs X E Γ es tt ft) : DTs X E Γ es (canT X.mg X.K E Γ ft) ft :=
  ⟨⟨fun pins s σ H Q I q => by
    obtain ⟨pot, M, ρ, π, h1, h2, h3⟩ := q
    exact h.pts.run pins s σ H Q I (h.sem pot M σ H ρ π h1 h2 Q h3)⟩, fun pot M σ H ρ π I p Q q => ⟨pot, M, ρ, π, I, p, q⟩⟩
theorem DG.can {tg : Expr} {is : List Nat} {g : TG} {fg : D → Rho → Option Rho} (h : DG X Γ tg is g fg) : DG X Γ tg is (canG X.mg X.K Γ is fg) fg :=
  ⟨⟨fun pins s σ H v u Q I r q => by
    obtain ⟨pot, M, ρ, d, ρ', h1, h2, h3, h4⟩ := q
    exact h.pg.run pins s σ H v u Q I r (h.sem pot M σ H ρ v d h1 h2 ρ' h3 Q h4)⟩, h.fs, fun pot M σ H ρ v d I r ρ' e Q q => ⟨pot, M, ρ, d, ρ', I, r, e, q⟩⟩
theorem sem_lc {w : Bool} {wi : TI} {fi : Ei} {is vs : List Nat} {g : TG} {fg : D → Rho → Option Rho} {tt : TT} {ft : Et} {te : TE} {fe : Ed} (hi : SemI X.mg X.K w E Γ wi fi) (hg : SemG X.mg X.K Γ is g fg) (hv : ∀ i ∈ is, i ∈ vs) (hΓ : ∀ i ∈ vs, Γ[i]? = some .f)
    (ht : SemT X.mg X.K E0 Γ tt ft) (he : SemE X.mg X.K E0 .f Γ te fe) : SemE X.mg X.K E .o Γ (tLc wi g tt te vs) (eLC fi fg ft fe vs) := fun pot M σ H ρ π I p Q h => sem_lcAt (fun R q => hi pot M σ H ρ π I p R q) hg hv hΓ ht he I p Q h
theorem de_lc {w : Bool} {elt tg iter : Expr} {ifs : List Expr} {scope : Scope} {own : List (Str × Nat)} {wi : TI} {fi : Ei} {is : List Nat} {fg : D → Rho → Option Rho} {ft : Et} {fe : Ed} (x : XOk X E k) (hi : DI w X E Γ tg iter wi fi) (ok : BlkOk X.N X.env.scope scope own)
    (hg : ∀ (s : Shared) (H : Hp) (C : Addr) (cl : List (Str × Addr)) (fp : List Addr), ∃ g, DG (X.blk s H scope (compEnvC scope cl C X.env) fp) Γ tg is g fg)
    (ht : ∀ (s : Shared) (H : Hp) (C : Addr) (cl : List (Str × Addr)) (fp : List Addr), ∃ tt, DTs (X.blk s H scope (compEnvC scope cl C X.env) fp) E0 Γ ifs tt ft)
    (he : ∀ (s : Shared) (H : Hp) (C : Addr) (cl : List (Str × Addr)) (fp : List Addr), ∃ te, DE (X.blk s H scope (compEnvC scope cl C X.env) fp) E0 .f Γ elt te fe)
    (hv : ∀ i ∈ is, i ∈ own.map (·.2) := by decide) (hΓ : ∀ i ∈ own.map (·.2), Γ[i]? = some .f := by decide) (hs : ∀ x, foldedSetIterable iter X.env x = pure x := by intro _; rfl) :
    DE X E .o Γ (.ListComp elt [⟨tg, iter, ifs, 0⟩] scope pos) (tLc wi (canG X.mg X.K Γ is fg) (canT X.mg X.K E0 Γ ft) (canE X.mg X.K E0 .f Γ fe) (own.map (·.2))) (eLC fi fg ft fe (own.map (·.2))) := by
  have hg' : ∀ (s : Shared) (H : Hp) (C : Addr) (cl : List (Str × Addr)) (fp : List Addr), DG (X.blk s H scope (compEnvC scope cl C X.env) fp) Γ tg is (canG X.mg X.K Γ is fg) fg := fun s H C cl fp => by
    obtain ⟨g, h⟩ := hg s H C cl fp
    exact h.can
  have ht' : ∀ (s : Shared) (H : Hp) (C : Addr) (cl : List (Str × Addr)) (fp : List Addr), DTs (X.blk s H scope (compEnvC scope cl C X.env) fp) E0 Γ ifs (canT X.mg X.K E0 Γ ft) ft := fun s H C cl fp => by
    obtain ⟨g, h⟩ := ht s H C cl fp
    exact h.can
  have he' : ∀ (s : Shared) (H : Hp) (C : Addr) (cl : List (Str × Addr)) (fp : List Addr), DE (X.blk s H scope (compEnvC scope cl C X.env) fp) E0 .f Γ elt (canE X.mg X.K E0 .f Γ fe) fe := fun s H C cl fp => by
    obtain ⟨g, h⟩ := he s H C cl fp
    exact h.can
  exact ⟨pe_lc x.calm x.nd hi.pi ok (fun s H C cl fp => (hg' s H C cl fp).pg) (fun s H C cl fp => (ht' s H C cl fp).pts) (fun s H C cl fp => (he' s H C cl fp).pe) hs,
    sem_lc hi.sem (hg' X.s_0 X.H_0 0 [] []).sem hv hΓ (ht' X.s_0 X.H_0 0 [] []).sem (he' X.s_0 X.H_0 0 [] []).sem⟩
end
end DL
set_option maxHeartbeats 2000000
namespace DL
open PySem PySem.Spec PyProof.Rows L2
inductive Out where
  | nx (ρ : Rho) | bk (ρ : Rho) | ct (ρ : Rho) | rt (d : D)
abbrev Fs := Rho → Pot → Res (Out × Pot)
def Rm.md : Rm → Md
  | .f => .f
  | .b => .u
  | .o => .o
  | .t => .u
section
variable (mg : Str → Option Value) (K : PySem.W.Frag)
structure SOk (Γ : List Md) (pot : Option Addr) (M0 : List Addr) (H0 B : Hp) (M : List Addr) (σ : L2.St) (H : Hp) (ρ : Rho) : Prop where
  env : EnvOk mg K Γ pot M σ H ρ
  gr : Grow pot H0 H
  sub : ∀ a ∈ M0, a ∈ M
  ow : ∀ (i : Nat) (d : D) (a : Addr), Γ[i]? = some .o → ρ[i]? = some (some d) → σ[i]? = some (some (.ref a)) → H0 a = none
  m0 : ∀ a ∈ M0, H0 a ≠ none
  bs : Same B (less H M)
/-- a value that is to be put into a slot -/
def Held (r : Rm) (Γ : List Md) (pot : Option Addr) (H0 : Hp) (M : List Addr) (σ : L2.St) (H : Hp) (ρ : Rho) (v : V) (d : D) : Prop := match r with
  | .f => Rp mg K (less H M) v d
  | .b => True
  | .t => True
  | .o => ∃ p, v = .ref p ∧ p ∈ M ∧ Own mg K pot M H p d ∧ H0 p = none ∧ ∀ (i : Nat) (e : D), Γ[i]? = some .o → ρ[i]? = some (some e) → σ[i]? ≠ some (some (.ref p))
def PostS (r : Rm) (Γl Γ' : List Md) (pot : Option Addr) (M0 : List Addr) (H0 B : Hp) (x : Res (Out × Pot)) (D : Ends) (E : XK) : Prop := match x with
  | .ok (.nx ρ, π) => ∀ M σ H, SOk mg K Γ' pot M0 H0 B M σ H ρ → PotAt pot H π → D.nx σ H
  | .ok (.bk ρ, π) => ∀ M σ H, SOk mg K Γl pot M0 H0 B M σ H ρ → PotAt pot H π → D.bk σ H
  | .ok (.ct ρ, π) => ∀ M σ H, SOk mg K Γl pot M0 H0 B M σ H ρ → PotAt pot H π → D.ct σ H
  | .ok (.rt d, π) => ∀ v H, Grow pot H0 H → PotAt pot H π → RpR mg K r pot M0 H0 H v d → D.rt v H
  | .err c ns xs π => PErr mg K pot M0 H0 c ns xs π E
  | .stuck => False
def SemS (E : XK) (r : Rm) (Γl Γ Γ' : List Md) (ts : TS) (fs : Fs) : Prop :=
  ∀ pot M0 H0 B M σ H ρ π D, SOk mg K Γ pot M0 H0 B M σ H ρ → PotAt pot H π → PostS mg K r Γl Γ' pot M0 H0 B (fs ρ π) D E → ts D σ H
end
section
variable {mg : Str → Option Value} {K : PySem.W.Frag} {pot : Option Addr} {M M0 M1 : List Addr} {H H0 H1 H2 B : Hp} {π π1 : Pot} {Γ Γl Γ' : List Md} {σ : L2.St} {ρ : Rho} {v : V} {d : D} {r : Rm} {E : XK}
theorem SOk.grow (S : SOk mg K Γ pot M0 H0 B M σ H ρ) (g : Grow pot H H1) (p : PotAt pot H1 π) : SOk mg K Γ pot M0 H0 B M σ H1 ρ := ⟨S.env.grow g p, S.gr.trans g, S.sub, S.ow, S.m0, fun a o h => less_grow S.env.pm g a o (S.bs a o h)⟩
theorem PErr.out {c : Str} {ns : List Str} {xs : List D} {π' : Pot} (h : PErr mg K pot M0 H0 c ns xs π' E) (S : SOk mg K Γ pot M0 H0 B M σ H ρ) : PErr mg K pot M H c ns xs π' E := fun cv dd H' g p e => by
  refine h cv dd H' (S.gr.trans g) p ?_
  obtain ⟨C, h1, h2, h3⟩ := e
  refine ⟨C, h1, h2, h3.imp id ?_⟩
  rintro ⟨a, fs, e1, e2, e3, e4, e5⟩
  exact ⟨a, fs, e1, e2, fun m => e3 (S.sub a m), e4, e5.mono (less_sub S.sub)⟩
/-- an expression, then the rest of the statement -/
theorem PostS.seq {r' : Rm} {x : Res (D × Pot)} {kk : D × Pot → Res (Out × Pot)} {D' : Ends} (h : PostS mg K r Γl Γ' pot M0 H0 B (x.bind kk) D' E) (S : SOk mg K Γ pot M0 H0 B M σ H ρ)
    {te : VK → Prop} (ht : ∀ Q', Post mg K r' pot M H x Q' E → te Q') {R : VK}
    (hk : ∀ d π1 v H1, x = .ok (d, π1) → Grow pot H H1 → PotAt pot H1 π1 → RpR mg K r' pot M H H1 v d → PostS mg K r Γl Γ' pot M0 H0 B (kk (d, π1)) D' E → R v H1) : te R := by
  refine ht R ?_
  cases x with
  | ok a =>
    obtain ⟨d, π1⟩ := a
    exact fun v H1 g p q => hk d π1 v H1 rfl g p q h
  | err c ns xs π' => exact PErr.out h S
  | stuck => exact h
theorem PostS.seqT {x : Res (Bool × Pot)} {kk : Bool × Pot → Res (Out × Pot)} {D' : Ends} (h : PostS mg K r Γl Γ' pot M0 H0 B (x.bind kk) D' E) (S : SOk mg K Γ pot M0 H0 B M σ H ρ)
    {te : (Bool → Hp → Prop) → Prop} (ht : ∀ Q', PostT mg K pot M H x Q' E → te Q') {R : Bool → Hp → Prop}
    (hk : ∀ d π1 H1, x = .ok (d, π1) → Grow pot H H1 → PotAt pot H1 π1 → PostS mg K r Γl Γ' pot M0 H0 B (kk (d, π1)) D' E → R d H1) : te R := by
  refine ht R ?_
  cases x with
  | ok a =>
    obtain ⟨d, π1⟩ := a
    exact fun H1 g p => hk d π1 H1 rfl g p h
  | err c ns xs π' => exact PErr.out h S
  | stuck => exact h
theorem PostS.seqI {w : Bool} {x : Res (List D × Pot)} {kk : List D × Pot → Res (Out × Pot)} {D' : Ends} (h : PostS mg K r Γl Γ' pot M0 H0 B (x.bind kk) D' E) (S : SOk mg K Γ pot M0 H0 B M σ H ρ)
    {te : (It → Hp → Prop) → Prop} (ht : ∀ Q', PostI mg K w pot M H x Q' E → te Q') {R : It → Hp → Prop}
    (hk : ∀ ds π1 J H1 G Y, x = .ok (ds, π1) → Grow pot H H1 → PotAt pot H1 π1 → WalkD mg K w pot M H1 J ds G Y → PostS mg K r Γl Γ' pot M0 H0 B (kk (ds, π1)) D' E → R J H1) : te R := by
  refine ht R ?_
  cases x with
  | ok a =>
    obtain ⟨ds, π1⟩ := a
    exact fun J H1 G Y g p q => hk ds π1 J H1 G Y rfl g p q h
  | err c ns xs π' => exact PErr.out h S
  | stuck => exact h
theorem less_in {p : Addr} (h : p ∈ M) : Same (less H M) (less H (p :: M)) := fun a o e => by
  obtain ⟨e1, e2⟩ := less_some.mp e
  refine less_some.mpr ⟨fun m => ?_, e2⟩
  rcases List.mem_cons.mp m with z | m
  · exact e1 (by rw [z]; exact h)
  · exact e1 m
/-- a new value is held -/
theorem SOk.hold (S : SOk mg K Γ pot M0 H0 B M σ H ρ) (g : Grow pot H H1) (p : PotAt pot H1 π) (q : RpR mg K r pot M H H1 v d) :
    ∃ M1, SOk mg K Γ pot M0 H0 B M1 σ H1 ρ ∧ Held mg K r Γ pot H0 M1 σ H1 ρ v d ∧ (M1 = M ∨ ∃ c, M1 = c :: M ∧ H c = none) := by
  cases r with
  | f => exact ⟨M, S.grow g p, q, .inl rfl⟩
  | b => exact ⟨M, S.grow g p, trivial, .inl rfl⟩
  | t => exact ⟨M, S.grow g p, trivial, .inl rfl⟩
  | o =>
    obtain ⟨c, rfl, hn, n, oo, h1, h2⟩ := q
    have S1 := S.env.under hn g p (.of h1 h2.nt)
    refine ⟨c :: M, ⟨S1, S.gr.trans g, fun a m => List.mem_cons_of_mem _ (S.sub a m), S.ow, S.m0, fun a o h => ?_⟩, ⟨c, rfl, List.mem_cons_self .., ⟨n, oo, h1, h2.mono (less_in (List.mem_cons_self ..))⟩, ?_, fun i e hi he hs => ?_⟩, .inr ⟨c, rfl, hn⟩⟩
    · obtain ⟨e1, e2⟩ := less_some.mp (S.bs a o h)
      refine less_some.mpr ⟨fun m => ?_, g a o (fun z => e1 (S.env.pm a z)) e2⟩
      rcases List.mem_cons.mp m with z | m
      · rw [z, hn] at e2
        cases e2
      · exact e1 m
    · cases z : H0 c with
      | none => rfl
      | some o =>
        rw [S.gr c o n z] at hn
        cases hn
    · obtain ⟨a, e1, m, _⟩ := S.env.o i e hi he
      rw [hs] at e1
      cases e1
      exact (S.env.al c m).nn hn
/-- later, with one more cell or none -/
theorem Held.carry {r : Rm} (h : Held mg K r Γ pot H0 M σ H ρ v d) (pm : ∀ a, pot = some a → a ∈ M) (g : Grow pot H H1) (c : M1 = M ∨ ∃ c, M1 = c :: M ∧ H c = none) : Held mg K r Γ pot H0 M1 σ H1 ρ v d := by
  have sm : ∀ L L1 : List Addr, (∀ a, pot = some a → a ∈ L) → (L1 = L ∨ ∃ c, (∀ a, a ∈ L1 → a = c ∨ a ∈ L) ∧ H c = none) → Same (less H L) (less H1 L1) := fun L L1 hp hl a o e => by
    obtain ⟨e1, e2⟩ := less_some.mp e
    refine less_some.mpr ⟨fun m => ?_, g a o (fun z => e1 (hp a z)) e2⟩
    rcases hl with z | ⟨c, hl, hc⟩
    · exact e1 (by rw [← z]; exact m)
    · rcases hl a m with z | z
      · rw [z, hc] at e2
        cases e2
      · exact e1 z
  cases r with
  | f =>
    refine Rp.mono (sm M M1 pm ?_) h
    rcases c with c | ⟨c, e, hc⟩
    · exact .inl c
    · exact .inr ⟨c, fun a m => by rw [e] at m; exact List.mem_cons.mp m, hc⟩
  | b => trivial
  | t => trivial
  | o =>
    obtain ⟨p, e1, m, ⟨n, oo, h1, h2⟩, h3, h4⟩ := h
    refine ⟨p, e1, ?_, ⟨n, oo, g p _ n h1, h2.mono (sm (p :: M) (p :: M1) (fun a z => List.mem_cons_of_mem _ (pm a z)) ?_)⟩, h3, h4⟩
    · rcases c with c | ⟨c, e, _⟩
      · rw [c]; exact m
      · rw [e]; exact List.mem_cons_of_mem _ m
    · rcases c with c | ⟨c, e, hc⟩
      · exact .inl (by rw [c])
      · refine .inr ⟨c, fun a ma => ?_, hc⟩
        rcases List.mem_cons.mp ma with z | ma
        · exact .inr (by rw [z]; exact List.mem_cons_self ..)
        · rw [e] at ma
          rcases List.mem_cons.mp ma with z | ma
          · exact .inl z
          · exact .inr (List.mem_cons_of_mem _ ma)
theorem set_at {α : Type} {l : List α} {i j : Nat} {a : α} {x : α} (h : (l.set i a)[j]? = some x) : (i = j ∧ x = a ∧ i < l.length) ∨ (i ≠ j ∧ l[j]? = some x) := by
  by_cases e : i = j
  · subst e
    rw [List.getElem?_set] at h
    rw [if_pos rfl] at h
    split at h
    · rename_i hl
      cases h
      exact .inl ⟨rfl, rfl, hl⟩
    · cases h
  · rw [List.getElem?_set_ne e] at h
    exact .inr ⟨e, h⟩
/-- it is put into slot i -/
theorem SOk.put (S : SOk mg K Γ pot M0 H0 B M σ H ρ) {i : Nat} (hi : i < Γ.length) (q : Held mg K r Γ pot H0 M σ H ρ v d) : SOk mg K (Γ.set i r.md) pot M0 H0 B M (σ.set i (some v)) H (ρ.set i (some d)) := by
  have I := S.env
  have hs : i < σ.length := by rw [I.ls]; exact hi
  have hr : i < ρ.length := by rw [I.lr]; exact hi
  refine ⟨⟨by simp [I.ls], by simp [I.lr], fun j e h1 h2 => ?_, fun j e h1 h2 => ?_, fun j h1 => ?_, fun j e h1 h2 => ?_, fun j k a b c h1 h2 h3 h4 h5 h6 => ?_, I.al, I.pm, fun j a dd e h1 h2 => by
    rcases set_at h1 with ⟨rfl, e1, _⟩ | ⟨n, e1⟩
    · cases r <;> cases e1
    · rw [List.getElem?_set_ne n] at h2 ⊢
      exact I.x j a dd e e1 h2⟩, S.gr, S.sub, fun j e a h1 h2 h3 => ?_, S.m0, S.bs⟩
  · rcases set_at h1 with ⟨rfl, e1, _⟩ | ⟨n, e1⟩
    · rw [List.getElem?_set_self hr] at h2
      cases h2
      refine ⟨v, List.getElem?_set_self hs, ?_⟩
      cases r with
      | f => exact q
      | b => cases e1
      | t => cases e1
      | o => cases e1
    · rw [List.getElem?_set_ne n] at h2 ⊢
      exact I.f j e e1 h2
  · rcases set_at h1 with ⟨rfl, e1, _⟩ | ⟨n, e1⟩
    · rw [List.getElem?_set_self hr] at h2
      cases h2
      cases r with
      | f => cases e1
      | b => cases e1
      | t => cases e1
      | o =>
        obtain ⟨p, rfl, m, o, _⟩ := q
        exact ⟨p, List.getElem?_set_self hs, m, o⟩
    · rw [List.getElem?_set_ne n] at h2 ⊢
      exact I.o j e e1 h2
  · rcases set_at h1 with ⟨rfl, e1, _⟩ | ⟨n, e1⟩
    · cases r <;> cases e1
    · rw [List.getElem?_set_ne n]
      exact I.p j e1
  · rcases set_at h1 with ⟨rfl, e1, _⟩ | ⟨n, e1⟩
    · cases r <;> cases e1
    · rw [List.getElem?_set_ne n] at h2 ⊢
      exact I.s j e e1 h2
  · rcases set_at h1 with ⟨rfl, e1, _⟩ | ⟨n, e1⟩
    · rcases set_at h2 with ⟨rfl, e2, _⟩ | ⟨n2, e2⟩
      · rfl
      · rw [List.getElem?_set_self hs] at h5
        rw [List.getElem?_set_ne n2] at h4 h6
        cases r with
        | f => cases e1
        | b => cases e1
        | t => cases e1
        | o =>
          obtain ⟨p, rfl, m, o, _, hno⟩ := q
          cases h5
          exact absurd h6 (hno k c e2 h4)
    · rcases set_at h2 with ⟨rfl, e2, _⟩ | ⟨n2, e2⟩
      · rw [List.getElem?_set_self hs] at h6
        rw [List.getElem?_set_ne n] at h3 h5
        cases r with
        | f => cases e2
        | b => cases e2
        | t => cases e2
        | o =>
          obtain ⟨p, rfl, m, o, _, hno⟩ := q
          cases h6
          exact absurd h5 (hno j b e1 h3)
      · rw [List.getElem?_set_ne n] at h3 h5
        rw [List.getElem?_set_ne n2] at h4 h6
        exact I.ap j k a b c e1 e2 h3 h4 h5 h6
  · rcases set_at h1 with ⟨rfl, e1, _⟩ | ⟨n, e1⟩
    · rw [List.getElem?_set_self hs] at h3
      cases h3
      cases r with
      | f => cases e1
      | b => cases e1
      | t => cases e1
      | o =>
        obtain ⟨p, ep, m, o, hz, _⟩ := q
        cases ep
        exact hz
    · rw [List.getElem?_set_ne n] at h2 h3
      exact S.ow j e a e1 h2 h3
/-- a held value stays held when another slot is set -/
theorem Held.put {r r' : Rm} {w : V} {e : D} {i : Nat} (h : Held mg K r Γ pot H0 M σ H ρ v d) (h' : Held mg K r' Γ pot H0 M σ H ρ w e) (hn : r = .o → r' = .o → v ≠ w) : Held mg K r (Γ.set i r'.md) pot H0 M (σ.set i (some w)) H (ρ.set i (some e)) v d := by
  cases r with
  | f => exact h
  | b => trivial
  | t => trivial
  | o =>
    obtain ⟨p, e1, m, o, z, hno⟩ := h
    refine ⟨p, e1, m, o, z, fun j f h1 h2 h3 => ?_⟩
    rcases set_at h1 with ⟨rfl, e2, hl⟩ | ⟨n, e2⟩
    · rcases set_at h3 with ⟨_, e3, _⟩ | ⟨n, _⟩
      · cases e3
        cases r' with
        | f => cases e2
        | b => cases e2
        | t => cases e2
        | o => exact hn rfl rfl e1
      · exact n rfl
    · rw [List.getElem?_set_ne n] at h2 h3
      exact hno j f e2 h2 h3
end
end DL
set_option maxHeartbeats 2000000
namespace DL
open PySem PySem.Spec PyProof.Rows L2
def sNext : Fs := fun ρ π => .ok (.nx ρ, π)
def sSeq (a b : Fs) : Fs := fun ρ π => (a ρ π).bind fun x => match x.1 with
  | .nx ρ1 => b ρ1 x.2
  | .bk ρ1 => .ok (.bk ρ1, x.2)
  | .ct ρ1 => .ok (.ct ρ1, x.2)
  | .rt d => .ok (.rt d, x.2)
def sSet (i : Nat) (fe : Ed) : Fs := fun ρ π => (fe ρ π).bind fun x => .ok (.nx (ρ.set i (some x.1)), x.2)
def sPar (i j : Nat) (fa fb : Ed) : Fs := fun ρ π => (fa ρ π).bind fun x => (fb ρ x.2).bind fun y => .ok (.nx ((ρ.set i (some x.1)).set j (some y.1)), y.2)
def sPar3 (i j l : Nat) (fa fb fc : Ed) : Fs := fun ρ π => (fa ρ π).bind fun x => (fb ρ x.2).bind fun y => (fc ρ y.2).bind fun z => .ok (.nx (((ρ.set i (some x.1)).set j (some y.1)).set l (some z.1)), z.2)
def sUnp (fe : Ed) (fg : D → Rho → Option Rho) : Fs := fun ρ π => (fe ρ π).bind fun x => (ofO (fg x.1 ρ)).bind fun ρ1 => .ok (.nx ρ1, x.2)
def sExpr (fe : Ed) : Fs := fun ρ π => (fe ρ π).bind fun x => .ok (.nx ρ, x.2)
def sRet (fe : Ed) : Fs := fun ρ π => (fe ρ π).bind fun x => .ok (.rt x.1, x.2)
def sRetN : Fs := fun _ π => .ok (.rt .non, π)
def sIf (ft : Et) (a b : Fs) : Fs := fun ρ π => (ft ρ π).bind fun x => if x.1 = true then a ρ x.2 else b ρ x.2
def sBreak : Fs := fun ρ π => .ok (.bk ρ, π)
def sCont : Fs := fun ρ π => .ok (.ct ρ, π)
def sStuck : Fs := fun _ _ => .stuck
def forGo (fg : D → Rho → Option Rho) (fb : Fs) : List D → Rho → Pot → Res (Out × Pot)
  | [], ρ, π => .ok (.nx ρ, π)
  | d :: ds, ρ, π => (ofO (fg d ρ)).bind fun ρ1 => (fb ρ1 π).bind fun y => match y.1 with
    | .nx ρ2 => forGo fg fb ds ρ2 y.2
    | .ct ρ2 => forGo fg fb ds ρ2 y.2
    | .bk ρ2 => .ok (.nx ρ2, y.2)
    | .rt d => .ok (.rt d, y.2)
def sFor (fi : Ei) (fg : D → Rho → Option Rho) (fb : Fs) : Fs := fun ρ π => (fi ρ π).bind fun x => forGo fg fb x.1 ρ x.2
structure DS (X : Cx) (E : XK) (r : Rm) (Γl Γ Γ' : List Md) (st : Stmt) (ts : TS) (fs : Fs) : Prop where
  ps : PS X st ts
  sem : SemS X.mg X.K E r Γl Γ Γ' ts fs
structure DSs (X : Cx) (E : XK) (r : Rm) (Γl Γ Γ' : List Md) (sts : List Stmt) (ts : TS) (fs : Fs) : Prop where
  pss : PSs X sts ts
  sem : SemS X.mg X.K E r Γl Γ Γ' ts fs
section
variable {X : Cx} {E : XK} {r r' ra rb rc : Rm} {Γl Γ Γ1 Γ' : List Md} {pos : Pos} {k : Nat} {e a b c : Expr} {te ta tb tc : TE} {fe fa fb fc : Ed} {st : Stmt} {sts body : List Stmt} {ts us : TS} {fs gs : Fs} {tt : TT} {ft : Et}
theorem dss_nil : DSs X E r Γl Γ Γ [] tNext sNext := ⟨pss_nil, fun pot M0 H0 B M σ H ρ π D S p h => h M σ H S p⟩
theorem dss_one (h : DS X E r Γl Γ Γ' st ts fs) : DSs X E r Γl Γ Γ' [st] ts fs := ⟨pss_one h.ps, h.sem⟩
theorem dss_cons (h : DS X E r Γl Γ Γ1 st ts fs) (h' : DSs X E r Γl Γ1 Γ' sts us gs) : DSs X E r Γl Γ Γ' (st :: sts) (tSeq ts us) (sSeq fs gs) :=
  ⟨pss_cons h.ps h'.pss, fun pot M0 H0 B M σ H ρ π D S p q => by
    refine h.sem pot M0 H0 B M σ H ρ π _ S p ?_
    unfold sSeq at q
    cases ex : fs ρ π with
    | err c ns xs π' =>
      rw [ex] at q
      exact q
    | stuck =>
      rw [ex] at q
      exact q
    | ok x =>
      obtain ⟨o, π1⟩ := x
      rw [ex] at q
      cases o with
      | nx ρ1 => exact fun M1 σ1 H1 S1 p1 => h'.sem pot M0 H0 B M1 σ1 H1 ρ1 π1 D S1 p1 q
      | bk ρ1 => exact q
      | ct ρ1 => exact q
      | rt d => exact q⟩
theorem ds_never : DS X E r Γl Γ Γ' st tNever sStuck := ⟨ps_never, fun pot M0 H0 B M σ H ρ π D S p h => h.elim⟩
theorem set_same {l : List Md} {i : Nat} {m : Md} (h : l[i]? = some m) : l.set i m = l := by
  apply List.ext_getElem?
  intro j
  by_cases e : i = j
  · subst e
    rw [List.getElem?_set_self (List.getElem?_eq_some_iff.mp h).1, h]
  · rw [List.getElem?_set_ne e]
/-- x = e -/
theorem sem_set {i : Nat} (hΓ : Γ[i]? = some r'.md) (he : SemE X.mg X.K E r' Γ te fe) : SemS X.mg X.K E r Γl Γ Γ (tAsg te (gName i)) (sSet i fe) := fun pot M0 H0 B M σ H ρ π D S p h => by
  refine PostS.seq (r' := r') (te := te σ H) h S (fun Q' hq => he pot M σ H ρ π S.env p Q' hq) fun d π1 v H1 _ g1 p1 q1 h1 => ?_
  obtain ⟨M1, S1, hd, _⟩ := S.hold g1 p1 q1
  have S2 := S1.put (i := i) (List.getElem?_eq_some_iff.mp hΓ).1 hd
  rw [set_same hΓ] at S2
  exact h1 M1 _ H1 S2 p1
theorem ds_set (i : Nat) {x : Str} {p : Pos} (o : XOk X E k) (he : DE X E r' Γ e te fe) (hΓ : Γ[i]? = some r'.md := by rfl) (hN : X.N[i]? = some x := by rfl) (hx : Loc X.env.scope x := by first | exact Or.inl rfl | exact Or.inr rfl)
    (hs : swapsWith e (some (.Name x p)) pos.line X.env = pure false := by rfl) (hf : X.fn x = true ∨ X.env.scope.names.lookup x = some .local := by first | exact .inl rfl | exact .inr rfl) : DS X E r Γl Γ Γ (.Assign [.Name x p] e pos) (tAsg te (gName i)) (sSet i fe) :=
  ⟨ps_set o.nd hN hx he.pe hs hf, sem_set hΓ he.sem⟩
/-- a, b = e1, e2 -/
theorem ds_par (i j : Nat) {x y : Str} {px py pt : Pos} {kt k2 : Nat} {pt2 : Pos} (o : XOk X E k) (ha : DE X E ra Γ a ta fa) (hb : DE X E rb Γ b tb fb) (hi : Γ[i]? = some ra.md := by rfl) (hj : Γ[j]? = some rb.md := by rfl) (hN : X.N[i]? = some x := by rfl) (hN2 : X.N[j]? = some y := by rfl) (hij : i ≠ j := by decide)
    (hx : X.env.scope.names.lookup x = some .local := by rfl) (hy : X.env.scope.names.lookup y = some .local := by rfl) (hw : swappedStores [.Tuple [.Name x px, .Name y py] kt pt] (.Tuple [a, b] k2 pt2) X.env = pure (some [x, y]) := by rfl)
    (hs : swapsWithSole [.Tuple [.Name x px, .Name y py] kt pt] (.Tuple [a, b] k2 pt2) pos.line X.env = pure false := by rfl) (s1 : starEach [a, b] X.env = (false, eval a X.env) :: starEach [b] X.env := by rfl) (s2 : starEach [b] X.env = (false, eval b X.env) :: starEach [] X.env := by rfl) :
    DS X E r Γl Γ Γ (.Assign [.Tuple [.Name x px, .Name y py] kt pt] (.Tuple [a, b] k2 pt2) pos) (tPar i j (tCons ta (tCons tb tNil))) (sPar i j fa fb) :=
  ⟨ps_par o.calm o.nd hN hN2 hij hx hy (pa_cons ha.pe (pa_cons hb.pe pa_nil s2) s1) hw hs, fun pot M0 H0 B M σ H ρ π D S p h => by
    refine PostS.seq (r' := ra) (te := ta σ H) h S (fun Q' hq => ha.sem pot M σ H ρ π S.env p Q' hq) fun d π1 v H1 _ g1 p1 q1 h1 => ?_
    obtain ⟨M1, S1, hd, _⟩ := S.hold g1 p1 q1
    refine PostS.seq (r' := rb) (te := tb σ H1) h1 S1 (fun Q' hq => hb.sem pot M1 σ H1 ρ π1 S1.env p1 Q' hq) fun e π2 w H2 _ g2 p2 q2 h2 => ?_
    obtain ⟨M2, S2, he, hc⟩ := S1.hold g2 p2 q2
    have hd2 := hd.carry S1.env.pm g2 hc
    have hne : rb = .o → ra = .o → w ≠ v := fun e1 e2 z => by
      subst e1
      subst e2
      obtain ⟨p', e3, m, _⟩ := hd
      obtain ⟨q', e4, hn, _⟩ := q2
      rw [e4, e3] at z
      cases z
      exact (S1.env.al _ m).nn hn
    have he2 := he.put hd2 hne (i := i)
    have S3 := S2.put (i := i) (List.getElem?_eq_some_iff.mp hi).1 hd2
    have S4 := S3.put (i := j) (by rw [List.length_set]; exact (List.getElem?_eq_some_iff.mp hj).1) he2
    rw [set_same hi, set_same hj] at S4
    exact ⟨v, w, rfl, h2 M2 _ H2 S4 p2⟩⟩
/-- a, b = e: a tuple's items -/
theorem ds_unp {tg : Expr} {is : List Nat} {g : TG} {fg : D → Rho → Option Rho} (he : DE X E .f Γ e te fe) (hg : DG X Γ tg is g fg) (h1 : swapsWithSole [tg] e pos.line X.env = pure false := by rfl) (h2 : swappedStores [tg] e X.env = pure none := by rfl)
    (h3 : (assignEach [tg] X.env).map (·.2) = [assign tg X.env] := by rfl) : DS X E r Γl Γ Γ (.Assign [tg] e pos) (tAsg te g) (sUnp fe fg) :=
  ⟨ps_asg he.pe hg.pg h1 h2 h3, fun pot M0 H0 B M σ H ρ π D S p h => by
    refine PostS.seq (r' := .f) (te := te σ H) h S (fun Q' hq => he.sem pot M σ H ρ π S.env p Q' hq) fun d π1 v H1 _ g1 p1 q1 h1 => ?_
    have S1 := S.grow g1 p1
    cases e1 : fg d ρ with
    | none =>
      rw [e1] at h1
      exact h1.elim
    | some ρ1 =>
      rw [e1] at h1
      refine hg.sem pot M σ H1 ρ v d S1.env q1 ρ1 e1 _ fun σ1 I1 s1 s2 => h1 M σ1 H1 ⟨I1, S1.gr, S1.sub, fun j e a w1 w2 w3 => ?_, S1.m0, S1.bs⟩ p1
      have nj : j ∉ is := fun z => by
        rw [hg.fs j z] at w1
        cases w1
      rw [s1 j nj] at w3
      rw [s2 j nj] at w2
      exact S.ow j e a w1 w2 w3⟩
theorem ds_expr (he : DE X E r' Γ e te fe) (hs : swapsWith e none pos.line X.env = pure false := by rfl) : DS X E r Γl Γ Γ (.Expr e pos) (tDrop te) (sExpr fe) :=
  ⟨ps_expr he.pe hs, fun pot M0 H0 B M σ H ρ π D S p h => by
    refine PostS.seq (r' := r') (te := te σ H) h S (fun Q' hq => he.sem pot M σ H ρ π S.env p Q' hq) fun d π1 v H1 _ g1 p1 q1 h1 => ?_
    exact h1 M σ H1 (S.grow g1 p1) p1⟩
theorem RpR.out {pot : Option Addr} {M0 M : List Addr} {H0 H H1 B : Hp} {σ : L2.St} {ρ : Rho} {v : V} {d : D} (S : SOk X.mg X.K Γ pot M0 H0 B M σ H ρ) (hr : r = .f ∨ r = .o) (q : RpR X.mg X.K r pot M H H1 v d) : RpR X.mg X.K r pot M0 H0 H1 v d := by
  rcases hr with rfl | rfl
  · exact Rp.mono (less_sub S.sub) q
  · obtain ⟨p, e, hn, n, oo, h1, h2⟩ := q
    refine ⟨p, e, ?_, n, oo, h1, h2.mono (less_sub fun a ha => ?_)⟩
    · cases z : H0 p with
      | none => rfl
      | some o =>
        rw [S.gr p o n z] at hn
        cases hn
    · rcases List.mem_cons.mp ha with z | ha
      · rw [z]
        exact List.mem_cons_self ..
      · exact List.mem_cons_of_mem _ (S.sub a ha)
theorem ds_ret (he : DE X E r Γ e te fe) (hr : r = .f ∨ r = .o := by first | exact .inl rfl | exact .inr rfl) : DS X E r Γl Γ Γ' (.Return (some e) pos) (tRet te) (sRet fe) :=
  ⟨ps_ret he.pe, fun pot M0 H0 B M σ H ρ π D S p h => by
    refine PostS.seq (r' := r) (te := te σ H) h S (fun Q' hq => he.sem pot M σ H ρ π S.env p Q' hq) fun d π1 v H1 _ g1 p1 q1 h1 => ?_
    exact h1 v H1 (S.gr.trans g1) p1 (q1.out S hr)⟩
/-- an own list is handed back, as a new one -/
theorem ds_reto (i : Nat) {x : Str} {p : Pos} (hN : X.N[i]? = some x := by rfl) (hv : Vis X.env.scope x := by first | exact Or.inl rfl | exact Or.inr (Or.inl rfl) | exact Or.inr (Or.inr rfl)) (hΓ : Γ[i]? = some .o := by rfl)
    (hd : (x == ("__debug__" : Str)) = false := by decide) (hcd : (x == ("__classdict__" : Str)) = false := by decide) : DS X E .o Γl Γ Γ' (.Return (some (.Name x p)) pos) (tRet (tVar i)) (sRet (eVar i)) :=
  ⟨ps_ret (pe_var hN hv hd hcd), fun pot M0 H0 B M σ H ρ π D S p h => by
    unfold sRet eVar at h
    cases er : ρ[i]? with
    | none =>
      rw [er] at h
      exact h.elim
    | some od =>
      cases od with
      | none =>
        rw [er] at h
        exact h.elim
      | some d =>
        rw [er] at h
        obtain ⟨q, e1, m, n, oo, h1, h2⟩ := S.env.o i d hΓ er
        refine ⟨_, e1, h _ H S.gr p ⟨q, rfl, S.ow i d q hΓ er e1, n, oo, h1, h2.mono (less_sub fun a ha => ?_)⟩⟩
        rcases List.mem_cons.mp ha with z | ha
        · rw [z]
          exact List.mem_cons_self ..
        · exact List.mem_cons_of_mem _ (S.sub a ha)⟩
theorem ds_if (hc : DT X E Γ c tt ft) (ha : DSs X E r Γl Γ Γ' body ts fs) (hb : DSs X E r Γl Γ Γ' sts us gs) : DS X E r Γl Γ Γ' (.If c body sts pos) (tIfS tt ts us) (sIf ft fs gs) :=
  ⟨ps_if hc.pt ha.pss hb.pss, fun pot M0 H0 B M σ H ρ π D S p h => by
    refine PostS.seqT (te := tt σ H) h S (fun Q' hq => hc.sem pot M σ H ρ π S.env p Q' hq) fun d π1 H1 _ g1 p1 h1 => ?_
    cases d with
    | true => exact ha.sem pot M0 H0 B M σ H1 ρ π1 D (S.grow g1 p1) p1 h1
    | false => exact hb.sem pot M0 H0 B M σ H1 ρ π1 D (S.grow g1 p1) p1 h1⟩
end
end DL
set_option maxHeartbeats 2000000
namespace DL
open PySem PySem.Spec PyProof.Rows L2
section
variable {mg : Str → Option Value} {K : PySem.W.Frag} {pot : Option Addr} {M M0 M1 : List Addr} {H H0 H1 H2 B : Hp} {π π1 : Pot} {Γ Γl Γ' : List Md} {σ : L2.St} {ρ : Rho} {v : V} {d : D} {r : Rm} {E : XK}
theorem less_upd {p : Addr} {o : HO} (h : p ∈ M) : Same (less H M) (less (upd H p o) M) := fun a u e => by
  obtain ⟨e1, e2⟩ := less_some.mp e
  refine less_some.mpr ⟨e1, ?_⟩
  rw [upd_ne (fun z => e1 (by rw [z]; exact h))]
  exact e2
theorem SOk.mut (S : SOk mg K Γ pot M0 H0 B M σ H ρ) {i : Nat} {p : Addr} {o' : HO} {d' : D} (hi : Γ[i]? = some .o) (er : ρ[i]? = some (some d)) (es : σ[i]? = some (some (.ref p))) (q : HoR mg K (less H M) o' d') :
    SOk mg K Γ pot M0 H0 B M σ (upd H p o') (ρ.set i (some d')) := by
  have I := S.env
  obtain ⟨p', e1, m, n, oo, h1, h2⟩ := I.o i d hi er
  have ep : p' = p := by
    rw [es] at e1
    cases e1
    rfl
  subst ep
  have hr : i < ρ.length := (List.getElem?_eq_some_iff.mp er).1
  have hz := S.ow i d p' hi er es
  refine ⟨⟨I.ls, by simp [I.lr], fun j e g1 g2 => ?_, fun j e g1 g2 => ?_, I.p, fun j e g1 g2 => ?_, fun j k a b c g1 g2 g3 g4 g5 g6 => ?_, fun a ha => ?_, I.pm, fun j a dd e g1 g2 => by
    have nij : i ≠ j := fun z => by rw [← z, hi] at g1; cases g1
    rw [List.getElem?_set_ne nij] at g2
    exact ⟨(I.x j a dd e g1 g2).1, (I.x j a dd e g1 g2).2.mono (less_upd m)⟩⟩, fun a o g1 g2 => ?_, S.sub, fun j e a g1 g2 g3 => ?_, S.m0, fun a o e => less_upd m a o (S.bs a o e)⟩
  · have nij : i ≠ j := fun z => by rw [← z, hi] at g1; cases g1
    rw [List.getElem?_set_ne nij] at g2
    obtain ⟨w, w1, w2⟩ := I.f j e g1 g2
    exact ⟨w, w1, w2.mono (less_upd m)⟩
  · rcases set_at g2 with ⟨rfl, e3, _⟩ | ⟨nij, e3⟩
    · cases e3
      exact ⟨p', es, m, n, o', upd_same, (q.mono (less_in m)).mono (less_upd (List.mem_cons_self ..))⟩
    · obtain ⟨a, w1, w2, w3, oj, w5, w6⟩ := I.o j e g1 e3
      have na : a ≠ p' := fun z => nij (I.ap i j p' d e hi g1 er e3 es (by rw [← z]; exact w1))
      exact ⟨a, w1, w2, w3, oj, by rw [upd_ne na]; exact w5, w6.mono (less_upd (List.mem_cons_of_mem _ m))⟩
  · have nij : i ≠ j := fun z => by rw [← z, hi] at g1; cases g1
    rw [List.getElem?_set_ne nij] at g2
    obtain ⟨a, ns, w1, w2, w3⟩ := I.s j e g1 g2
    exact ⟨a, ns, w1, w2, sqL_mono (less_upd m) w3⟩
  · have s3 : ∃ b', ρ[j]? = some (some b') := by
      rcases set_at g3 with ⟨z, _, _⟩ | ⟨_, z⟩
      · exact ⟨d, by rw [← z]; exact er⟩
      · exact ⟨b, z⟩
    have s4 : ∃ b', ρ[k]? = some (some b') := by
      rcases set_at g4 with ⟨z, _, _⟩ | ⟨_, z⟩
      · exact ⟨d, by rw [← z]; exact er⟩
      · exact ⟨c, z⟩
    obtain ⟨b1, s3⟩ := s3
    obtain ⟨b2, s4⟩ := s4
    exact I.ap j k a b1 b2 g1 g2 s3 s4 g5 g6
  · by_cases z : a = p'
    · rw [z]
      exact .of upd_same q.nt
    · obtain ⟨o, e, n⟩ := I.al a ha
      exact .of (by rw [upd_ne z]; exact e) n
  · have z : a ≠ p' := fun z => by
      rw [z, hz] at g2
      cases g2
    rw [upd_ne z]
    exact S.gr a o g1 g2
  · rcases set_at g2 with ⟨rfl, e3, _⟩ | ⟨nij, e3⟩
    · exact S.ow i d a hi er g3
    · exact S.ow j e a g1 e3 g3
theorem PotAt.mut {p : Addr} {o : HO} (h : PotAt pot H π) (n : pot ≠ some p) : PotAt pot (upd H p o) π := fun a e => by
  rw [upd_ne (fun z => n (by rw [e, z]))]
  exact h a e
/-- the pot turns -/
theorem SOk.potset (S : SOk mg K Γ pot M0 H0 B M σ H ρ) {p : Addr} (e : pot = some p) (a b : Int) : SOk mg K Γ pot M0 H0 B M σ (upd H p (.lst [.int a, .int b])) ρ :=
  S.grow (π := (a, b)) (fun x o n h => by
    rw [upd_ne (fun z => n (by rw [e, z]))]
    exact h) fun x h => by
    rw [e] at h
    cases h
    exact upd_same
end
def sMut (i : Nat) (fe : Ed) (f : D → List D → Option (List D)) : Fs := fun ρ π => match ρ[i]? with
  | some (some (.lst ds)) => (fe ρ π).bind fun x => (ofO (f x.1 ds)).bind fun es => .ok (.nx (ρ.set i (some (.lst es))), x.2)
  | _ => .stuck
def sMut2 (i : Nat) (fk fe : Ed) (f : D → D → List D → Option (List D)) : Fs := fun ρ π => match ρ[i]? with
  | some (some (.lst ds)) => (fk ρ π).bind fun y => (fe ρ y.2).bind fun x => (ofO (f y.1 x.1 ds)).bind fun es => .ok (.nx (ρ.set i (some (.lst es))), x.2)
  | _ => .stuck
def appD (e : D) (ds : List D) : Option (List D) := if ds.length < sizeLine then some (ds ++ [e]) else none
def extD (e : D) (ds : List D) : Option (List D) := match e with
  | .lst es => if ds.length + es.length ≤ sizeLine then some (ds ++ es) else none
  | _ => none
/-- the value, then the place -/
def setD (v k : D) (ds : List D) : Option (List D) := match k with
  | .int n => (ixN ds.length n).map fun j => ds.set j v
  | _ => none
def sApp (i : Nat) (fe : Ed) : Fs := sMut i fe appD
def sExt (i : Nat) (fe : Ed) : Fs := sMut i fe extD
def sSetIx (i : Nat) (fe fk : Ed) : Fs := sMut2 i fe fk setD
def intAt (ds : List D) (k : D) : Option (Nat × Int) := match k with
  | .int m => if 0 ≤ m ∧ m < 4611686018427387904 then (match ds[m.toNat]? with
    | some (.int x) => some (m.toNat, x)
    | _ => none) else none
  | _ => none
def sAugIx (i : Nat) (g : Int → Int → Int) (fk fe : Ed) : Fs := fun ρ π => match ρ[i]? with
  | some (some (.lst ds)) => (fk ρ π).bind fun y => (ofO (intAt ds y.1)).bind fun a => (fe ρ y.2).bind fun x => match x.1 with
    | .int b => .ok (.nx (ρ.set i (some (.lst (ds.set a.1 (.int (g a.2 b)))))), x.2)
    | _ => .stuck
  | _ => .stuck
def sAug (i : Nat) (g : Int → Int → Int) (fe : Ed) : Fs := fun ρ π => match ρ[i]? with
  | some (some (.int a)) => (fe ρ π).bind fun x => match x.1 with
    | .int b => .ok (.nx (ρ.set i (some (.int (g a b)))), x.2)
    | _ => .stuck
  | _ => .stuck
def ePot0 : Ed := fun _ π => .ok (.int π.1, π)
def ePot1 : Ed := fun _ π => .ok (.int π.2, π)
def sPot1 (fe : Ed) : Fs := fun ρ π => (fe ρ π).bind fun x => match x.1 with
  | .int n => .ok (.nx ρ, (x.2.1, n))
  | _ => .stuck
def divOk (i j : Int) : Bool := decide (0 < j) && !Builtin.divisionGoesByPylong i j
def sPotDm (j : Nat) (fe : Ed) : Fs := fun ρ π => (fe ρ π).bind fun x => match x.1 with
  | .int n => if divOk π.1 n then .ok (.nx (ρ.set j (some (.int (π.1 % n)))), (π.1 / n, x.2.2)) else .stuck
  | _ => .stuck
section
variable {X : Cx} {E : XK} {r r' ra rb rc : Rm} {Γl Γ Γ1 Γ' : List Md} {pos : Pos} {k : Nat} {e a b c : Expr} {te ta tb tc ti : TE} {fe fa fb fc fk : Ed} {st : Stmt} {sts body : List Stmt} {ts us : TS} {fs gs : Fs} {tt : TT} {ft : Et}
theorem own_at {pot : Option Addr} {M M0 : List Addr} {H H0 B : Hp} {σ : L2.St} {ρ : Rho} {i : Nat} {ds : List D} (S : SOk X.mg X.K Γ pot M0 H0 B M σ H ρ) (hΓ : Γ[i]? = some .o) (er : ρ[i]? = some (some (.lst ds))) :
    ∃ p xs, σ[i]? = some (some (.ref p)) ∧ pot ≠ some p ∧ H p = some (.lst xs) ∧ RpL X.mg X.K (less H M) xs ds := by
  obtain ⟨p, e1, m, n, oo, h1, h2⟩ := S.env.o i _ hΓ er
  cases h2 with
  | lst h2 => exact ⟨p, _, e1, n, h1, h2.mono (less_sub fun a q => List.mem_cons_of_mem _ q)⟩
/-- x.append(e), x.extend(e) -/
theorem sem_mut {i : Nat} {f : D → List D → Option (List D)} {rm : V → List V → Hp → VK → Prop} {ra : Rm} (hΓ : Γ[i]? = some .o) (he : SemE X.mg X.K E ra Γ te fe)
    (ho : ∀ (pot : Option Addr) (M : List Addr) (H : Hp) (p : Addr) (xs : List V) (y : V) (ds : List D) (d : D) (es : List D), H p = some (.lst xs) → RpL X.mg X.K (less H M) xs ds → (ra = .f → Rp X.mg X.K (less H M) y d) → Rb X.mg X.K pot M H y d → f d ds = some es →
      ∃ ys, RpL X.mg X.K (less H M) ys es ∧ ∀ Q : VK, Q .non (upd H p (.lst ys)) → rm (.ref p) [y] H Q) : SemS X.mg X.K E r Γl Γ Γ (tDrop (tBM X.K "list" rm (tVar i) (tCons te tNil))) (sMut i fe f) := fun pot M0 H0 B M σ H ρ π D' S p h => by
  unfold sMut at h
  split at h
  · rename_i ds er
    obtain ⟨c, xs, e1, n, h1, r1⟩ := own_at S hΓ er
    refine ⟨.ref c, e1, .inl ⟨rfl, xs, .inl (.inl h1)⟩, ?_⟩
    refine PostS.seq (r' := ra) (te := te σ H) h S (fun Q' hq => he pot M σ H ρ π S.env p Q' hq) fun d π1 v H1 _ g1 p1 q1 h2 => ?_
    have S1 := S.grow g1 p1
    cases ef : f d ds with
    | none =>
      rw [ef] at h2
      exact h2.elim
    | some es =>
      rw [ef] at h2
      obtain ⟨ys, r2, hQ⟩ := ho pot M H1 c xs v ds d es (g1 c _ n h1) (r1.mono (less_grow S.env.pm g1)) (fun z => by subst z; exact q1) q1.toB ef
      exact hQ _ (h2 M σ _ (S1.mut hΓ er e1 (.lst r2)) (p1.mut n))
  · exact h.elim
abbrev BmOk (X : Cx) (x : Str) (nm : Str) (e : Expr) (p apos cpos pos : Pos) : Prop :=
  attributeBase (.Name x p) nm X.env (eval (.Name x p) X.env) = eval (.Name x p) X.env ∧
  ((((backTo cpos (starEach [e] X.env)).all fun x => !x.fst) && (backToKw cpos (keywordEach [] X.env)).all fun x => x.fst.isSome) && decide (([e].length + ([] : List Expr).length + if ([] : List Expr).isEmpty = true then 0 else 1) < 30)) = true ∧
  (apos.endLine == cpos.line) = true ∧ starEach [e] X.env = (false, eval e X.env) :: starEach [] X.env ∧ ((backTo cpos (starEach [] X.env)).any fun x => x.fst) = false ∧
  swapsWith (.Call (.Attribute (.Name x p) nm apos) [e] [] cpos) none pos.line X.env = pure false
theorem ds_app (i : Nat) {x : Str} {p apos cpos : Pos} (he : DE X E .f Γ e te fe) (hΓ : Γ[i]? = some .o := by rfl) (hN : X.N[i]? = some x := by rfl) (hv : Vis X.env.scope x := by first | exact Or.inl rfl | exact Or.inr (Or.inl rfl) | exact Or.inr (Or.inr rfl))
    (hd : (x == ("__debug__" : Str)) = false := by decide) (hcd : (x == ("__classdict__" : Str)) = false := by decide) (hb : BmOk X x "append" e p apos cpos pos := by exact ⟨rfl, rfl, rfl, rfl, rfl, rfl⟩) :
    DS X E r Γl Γ Γ (.Expr (.Call (.Attribute (.Name x p) "append" apos) [e] [] cpos) pos) (tDrop (tBM X.K "list" rAppend (tVar i) (tCons te tNil))) (sApp i fe) :=
  ⟨ps_expr (pe_bm PySem.F.plainAttrs_list PySem.F.slot_list_append PySem.F.type_list_append mt_append (pe_var hN hv hd hcd) (pa_cons he.pe pa_nil hb.2.2.2.1) hb.1 hb.2.1 hb.2.2.1 hb.2.2.2.1 hb.2.2.2.2.1) hb.2.2.2.2.2,
    sem_mut (ra := .f) hΓ he.sem fun pot M H p xs y ds d es h1 r1 q1 _ ef => by
      unfold appD at ef
      split at ef
      · rename_i hl
        cases ef
        exact ⟨xs ++ [y], r1.append (.cons (q1 rfl) .nil), fun Q q => ⟨p, xs, y, rfl, rfl, h1, by rw [r1.length]; exact hl, q⟩⟩
      · cases ef⟩
theorem ds_ext (i : Nat) {x : Str} {p apos cpos : Pos} (he : DE X E r' Γ e te fe) (hΓ : Γ[i]? = some .o := by rfl) (hN : X.N[i]? = some x := by rfl) (hv : Vis X.env.scope x := by first | exact Or.inl rfl | exact Or.inr (Or.inl rfl) | exact Or.inr (Or.inr rfl))
    (hd : (x == ("__debug__" : Str)) = false := by decide) (hcd : (x == ("__classdict__" : Str)) = false := by decide) (hb : BmOk X x "extend" e p apos cpos pos := by exact ⟨rfl, rfl, rfl, rfl, rfl, rfl⟩) :
    DS X E r Γl Γ Γ (.Expr (.Call (.Attribute (.Name x p) "extend" apos) [e] [] cpos) pos) (tDrop (tBM X.K "list" rExtend (tVar i) (tCons te tNil))) (sExt i fe) :=
  ⟨ps_expr (pe_bm PySem.F.plainAttrs_list PySem.F.slot_list_extend PySem.F.type_list_extend mt_extend (pe_var hN hv hd hcd) (pa_cons he.pe pa_nil hb.2.2.2.1) hb.1 hb.2.1 hb.2.2.1 hb.2.2.2.1 hb.2.2.2.2.1) hb.2.2.2.2.2,
    sem_mut (ra := r') hΓ he.sem fun pot M H p xs y ds d es h1 r1 _ q1 ef => by
      unfold extD at ef
      split at ef
      · rename_i fs
        split at ef
        · rename_i hl
          cases ef
          obtain ⟨b, zs, rfl, hB, r2⟩ := rb_lst q1
          exact ⟨xs ++ zs, r1.append r2, fun Q q => ⟨p, b, xs, zs, rfl, rfl, h1, hB, by rw [r1.length, r2.length]; exact hl, q⟩⟩
        · cases ef
      · cases ef⟩
/-- an item at a place from 0 on -/
def rGet0 : V → V → Hp → VK → Prop := fun o i H Q => ∃ p xs n v, o = .ref p ∧ i = .int n ∧ H p = some (.lst xs) ∧ 0 ≤ n ∧ n < 4611686018427387904 ∧ xs[n.toNat]? = some v ∧ Q v H
theorem pget_list : PGet X rGet0 := fun pins s σ H o i ov iv Q I ro ri h => by
  obtain ⟨p, xs, n, v, rfl, rfl, hq, h0, h1, hx, q⟩ := h
  cases ro
  obtain ⟨t, rfl⟩ := ri
  obtain ⟨its, rv, pl, hz⟩ := I.list (.inl (.inl hq))
  obtain ⟨u, hu, ru⟩ := rv.get hx
  exact wpAny_getItem_list pl.isList h0 (by omega) (by simpa using hu) ⟨v, H, I, ru, q⟩
/-- x[k] += e, of ints -/
theorem ds_augix (i : Nat) {x : Str} {p p2 : Pos} {kx : Expr} {op : Operator} {g : Int → Int → Int} (ho : PIp X op (ipI g)) (hk : DE X E .f Γ kx ti fk) (he : DE X E .f Γ e te fe) (hΓ : Γ[i]? = some .o := by rfl) (hN : X.N[i]? = some x := by rfl) (hv : Vis X.env.scope x := by first | exact Or.inl rfl | exact Or.inr (Or.inl rfl) | exact Or.inr (Or.inr rfl))
    (hd : (x == ("__debug__" : Str)) = false := by decide) (hcd : (x == ("__classdict__" : Str)) = false := by decide)
    (ha : ∀ ov iv new, augStore kx ov iv new = (do holding [new, ov, iv] (setItem ov iv new); release [new, ov, iv] []; pure .next) := by intro _ _ _; rfl) :
    DS X E r Γl Γ Γ (.AugAssign (.Subscript (.Name x p) kx p2) op e pos) (tAugS (tVar i) ti te rGet0 (ipI g) rSetL) (sAugIx i g fk fe) :=
  ⟨ps_augS (pe_var hN hv hd hcd) hk.pe pget_list he.pe ho set_list ha, fun pot M0 H0 B M σ H ρ π D' S p h => by
    unfold sAugIx at h
    split at h
    · rename_i ds er
      obtain ⟨c, xs, e1, n, hc, r1⟩ := own_at S hΓ er
      refine ⟨.ref c, e1, ?_⟩
      refine PostS.seq (r' := .f) (te := ti σ H) h S (fun Q' hq => hk.sem pot M σ H ρ π S.env p Q' hq) fun kd π1 kv H1 ek g1 p1 q1 h1 => ?_
      have S1 := S.grow g1 p1
      cases ei : intAt ds kd with
      | none =>
        rw [ei] at h1
        exact h1.elim
      | some a =>
        obtain ⟨j, a⟩ := a
        rw [ei] at h1
        unfold intAt at ei
        split at ei
        · rename_i m
          split at ei
          · rename_i hm
            split at ei
            · rename_i w ed
              cases ei
              cases rb_int (.inl q1 : Rb X.mg X.K pot M H1 kv (.int m))
              obtain ⟨v0, hv0, rv0⟩ := r1.get ed
              cases rb_int (.inl rv0 : Rb X.mg X.K pot M H v0 (.int a))
              refine ⟨c, xs, m, .int a, rfl, rfl, g1 c _ n hc, hm.1, hm.2, hv0, ?_⟩
              refine PostS.seq (r' := .f) (te := te σ H1) h1 S1 (fun Q' hq => he.sem pot M σ H1 ρ π1 S1.env p1 Q' hq) fun d π2 v H2 _ g2 p2 q2 h2 => ?_
              have S2 := S1.grow g2 p2
              have g12 := g1.trans g2
              cases d with
              | int b =>
                cases rb_int (.inl q2 : Rb X.mg X.K pot M H2 v (.int b))
                have r2 : RpL X.mg X.K (less H2 M) (xs.set m.toNat (.int (g a b))) (ds.set m.toNat (.int (g a b))) := (r1.mono (less_grow S.env.pm g12)).set _ (.int _)
                have hlt : m.toNat < xs.length := (List.getElem?_eq_some_iff.mp hv0).1
                exact ⟨a, b, rfl, rfl, c, xs, m, m.toNat, rfl, rfl, g12 c _ n hc, by unfold ixN; rw [if_pos hm.1, if_pos (by omega)], h2 M σ _ (S2.mut hΓ er e1 (.lst r2)) (p2.mut n)⟩
              | _ => exact h2.elim
            · cases ei
          · cases ei
        · cases ei
    · exact h.elim⟩
/-- x += e, of ints -/
theorem ds_aug (i : Nat) {x : Str} {p : Pos} {op : Operator} {g : Int → Int → Int} (o : XOk X E k) (ho : PIp X op (ipI g)) (he : DE X E .f Γ e te fe) (hΓ : Γ[i]? = some .f := by rfl) (hN : X.N[i]? = some x := by rfl) (hx : Loc X.env.scope x := by first | exact Or.inl rfl | exact Or.inr rfl)
    (hf : X.fn x = true ∨ X.env.scope.names.lookup x = some .local := by first | exact .inl rfl | exact .inr rfl) : DS X E r Γl Γ Γ (.AugAssign (.Name x p) op e pos) (tAug i te (ipI g)) (sAug i g fe) :=
  ⟨ps_aug o.nd hN hx he.pe ho hf, fun pot M0 H0 B M σ H ρ π D' S p h => by
    unfold sAug at h
    split at h
    · rename_i a er
      obtain ⟨v0, e1, r1⟩ := S.env.f i _ hΓ er
      cases rb_int (.inl r1 : Rb X.mg X.K pot M H v0 (.int a))
      refine ⟨_, e1, ?_⟩
      refine PostS.seq (r' := .f) (te := te σ H) h S (fun Q' hq => he.sem pot M σ H ρ π S.env p Q' hq) fun d π1 v H1 _ g1 p1 q1 h1 => ?_
      cases d with
      | int b =>
        cases rb_int (.inl q1 : Rb X.mg X.K pot M H1 v (.int b))
        have S1 := (S.grow g1 p1).put (r := .f) (i := i) (v := .int (g a b)) (d := .int (g a b)) (List.getElem?_eq_some_iff.mp hΓ).1 (.int _)
        rw [set_same (show Γ[i]? = some Rm.f.md from hΓ)] at S1
        exact ⟨a, b, rfl, rfl, h1 M _ H1 S1 p1⟩
      | _ => exact h1.elim
    · exact h.elim⟩
theorem ds_for {tg iter : Expr} {wi : TI} {fi : Ei} {is : List Nat} {g : TG} {fg : D → Rho → Option Rho} (o : XOk X E k) (hi : DI false X E Γ tg iter wi fi) (hg : DG X Γ tg is g fg) (hb : DSs X E r Γ Γ Γ body ts fs) (hs : ∀ x, foldedSetIterable iter X.env x = pure x := by intro _; rfl) :
    DS X E r Γl Γ Γ (.For tg iter body [] pos) (tFor wi g ts) (sFor fi fg fs) :=
  ⟨ps_for o.own o.calm hi.pi hg.pg hb.pss hs, fun pot M0 H0 B M σ H ρ π D' S p h => by
    refine PostS.seqI (w := false) (te := wi σ H) h S (fun Q' hq => hi.sem pot M σ H ρ π S.env p Q' hq) fun items π1 J H1 G Y _ g1 p1 W h1 => ?_
    have S1 := S.grow g1 p1
    refine for_it W.walk (fun i σ2 H2 => ∃ M2 ρ2 π2, SOk X.mg X.K Γ pot M0 H0 (less H1 M) M2 σ2 H2 ρ2 ∧ PotAt pot H2 π2 ∧ PostS X.mg X.K r Γl Γ pot M0 H0 B (forGo fg fs (items.drop i) ρ2 π2) D' E)
      ⟨M, ρ, π1, ⟨S1.env, S1.gr, S1.sub, S1.ow, S1.m0, Same.refl _⟩, p1, by rw [List.drop_zero]; exact h1⟩ (fun i σ2 H2 _ ⟨M2, ρ2, π2, S2, _, _⟩ => W.stay H2 M2 (fun z => by cases z) S2.bs) ?_ ?_
    · rintro i xv σ2 H2 H3 hlt ⟨M2, ρ2, π2, S2, p2, h2⟩ hy
      obtain ⟨sm, d, hd, rd⟩ := W.item i H2 xv H3 M2 (fun z => by cases z) S2.bs S2.env.al hlt hy
      have S3 := S2.grow (.of_same sm) (p2.same sm)
      have edr : items.drop i = d :: items.drop (i + 1) := by
        rw [List.drop_eq_getElem_cons hlt]
        congr 1
        have := List.getElem?_eq_getElem hlt
        rw [hd] at this
        exact (Option.some.inj this).symm
      rw [edr] at h2
      unfold forGo at h2
      cases e1 : fg d ρ2 with
      | none =>
        rw [e1] at h2
        exact h2.elim
      | some ρ3 =>
        rw [e1] at h2
        simp only [ofO_some, Res.bind_ok] at h2
        refine hg.sem pot M2 σ2 H3 ρ2 xv d S3.env rd ρ3 e1 _ fun σ3 I3 s1 s2 => ?_
        have S4 : SOk X.mg X.K Γ pot M0 H0 (less H1 M) M2 σ3 H3 ρ3 := ⟨I3, S3.gr, S3.sub, fun j e a w1 w2 w3 => by
          have nj : j ∉ is := fun z => by
            rw [hg.fs j z] at w1
            cases w1
          rw [s1 j nj] at w3
          rw [s2 j nj] at w2
          exact S3.ow j e a w1 w2 w3, S3.m0, S3.bs⟩
        refine hb.sem pot M0 H0 (less H1 M) M2 σ3 H3 ρ3 π2 _ S4 (p2.same sm) ?_
        cases e2 : fs ρ3 π2 with
        | err c ns xs π' =>
          rw [e2] at h2
          exact h2
        | stuck =>
          rw [e2] at h2
          exact h2
        | ok y =>
          obtain ⟨y, π3⟩ := y
          rw [e2] at h2
          simp only [Res.bind_ok] at h2
          cases y with
          | nx ρ4 => exact fun M4 σ4 H4 S5 p5 => ⟨M4, ρ4, π3, S5, p5, h2⟩
          | ct ρ4 => exact fun M4 σ4 H4 S5 p5 => ⟨M4, ρ4, π3, S5, p5, h2⟩
          | bk ρ4 => exact fun M4 σ4 H4 S5 p5 => h2 M4 σ4 H4 ⟨S5.env, S5.gr, S5.sub, S5.ow, S5.m0, fun a u e => S5.bs a u (S1.bs a u e)⟩ p5
          | rt d => exact h2
    · rintro σ2 H2 ⟨M2, ρ2, π2, S2, p2, h2⟩
      rw [List.drop_length] at h2
      exact h2 M2 σ2 H2 ⟨S2.env, S2.gr, S2.sub, S2.ow, S2.m0, fun a u e => S2.bs a u (S1.bs a u e)⟩ p2⟩
end
end DL
set_option maxHeartbeats 2000000
namespace DL
open PySem PySem.Spec PyProof.Rows L2
/-- a def's promise, where no repr is running -/
structure FnG (P : Program) (w : World) (K : PySem.W.Frag) (mg : Str → Option Value) (base : Heap) (k : Nat) (f : Addr) (fd : FuncData) (ps : List Str) (sp : Sp) : Prop where
  len : ∀ vs H Q E, sp vs H Q E → vs.length = ps.length
  run : ∀ (A : Around) (outer : List Env) (s : Shared) (H : Hp) (args : PySem.Args) (us : List Value) (vs : List V) (Q : VK) (E : XK), Room k A → A.guards = some [] →
    Env0 P w K mg base A outer s H → BindsTo s fd args (ps.zip us) → Vals vs us → sp vs H Q E →
    codeAny (model P w) A (.call (.ref f) args) (CR (L2.CX P w) outer P w H s Q E) s
theorem FnG.mono {P : Program} {w : World} {K : PySem.W.Frag} {mg : Str → Option Value} {base : Heap} {j k : Nat} {f : Addr} {fd : FuncData} {ps : List Str} {sp : Sp} (F : FnG P w K mg base j f fd ps sp) (h : j ≤ k) : FnG P w K mg base k f fd ps sp :=
  ⟨F.len, fun A outer s H args us vs Q E hr => F.run A outer s H args us vs Q E (hr.mono h)⟩
/-- by its body -/
theorem fn_ofG {P : Program} {w : World} {K : PySem.W.Frag} {mg : Str → Option Value} {base : Heap} {k : Nat} {f : Addr} {name qual : Str} {params : Arguments} {body : List Stmt} {scope : Scope} {dV kV doc pm cdv ct oc : Value} {an od : Option Addr} {osl : Array (Option Value)} {N ps : List Str} {sp : Sp}
    (lk : K.lookup f = some ⟨oc, od, .func (PySem.W.fnOf name qual params body scope dV kV doc pm an cdv ct), osl⟩) (hcd : PySem.W.codeIn K cdv qual = true) (S : FnScope N ps scope) (len : ∀ vs H Q E, sp vs H Q E → vs.length = ps.length)
    (hbody : ∀ (A : Around) (outer : List Env) (s : Shared) (H : Hp) (vs : List V) (Q : VK) (E : XK), Room k (A.deeper (envOfC qual scope s.heap.objs.size f cdv)) → A.guards = some [] → sp vs H Q E →
      ∃ t, PSs (cxOf (L2.CX P w) P w K mg base N qual scope f cdv A outer s H E) body t ∧ t { nx := fun _ H' => Q .non H', rt := Q } (start N vs) H) :
    FnG P w K mg base (k + 1) f (PySem.W.fnOf name qual params body scope dV kV doc pm an cdv ct) ps sp := by
  refine ⟨len, ?_⟩
  intro A outer s H args us vs Q E room gd env0 bind rel want
  have inK : K.In s.heap := env0.mod.kin.keeps fun b o q => (env0.bs b o q).1
  have noLim : s.heap.NoLimit := env0.mod.nolimit.keeps fun b o q => (env0.bs b o q).1
  refine codeAny_call_function room.depth (inK _ _ lk) rfl S.co S.gen rfl (PySem.W.codeRec_of inK hcd) (bind _ _ _ _ ?_)
  refine wpAny_newFunctionEnv_cells S.kind (fun q hq => ?_) fun env he s1 x => ?_
  · obtain ⟨n, v⟩ := q
    exact (S.par n (List.of_mem_zip hq).1).elim .inl fun z => .inr ⟨z, PySem.W.cellsFrom_some _ _ _ (.inl z)⟩
  · subst he
    refine ⟨noLim.keeps x.toInCall.keep, codeAny_func ?_⟩
    obtain ⟨t, ht, hq⟩ := hbody A outer s H vs Q E (room.deeper _) gd want
    have I0 := inv_start (CX := L2.CX P w) (K := K) (mg := mg) (base := base) (N := N) (qual := qual) (f := f) (cd := cdv) (E := E) S room.hd env0 (len _ _ _ _ want) rel x
    refine wpAny_mono (ht.run [] s1 (start N vs) H _ I0 hq) (fun fl s' hs => ?_) fun e s' hs => hs
    cases fl with
    | ret u =>
      obtain ⟨v, σ', H', J, rv, q⟩ := hs
      exact ⟨v, H', J.os, J.bare, J.base, J.hok, rv, q⟩
    | next =>
      obtain ⟨σ', H', J, q⟩ := hs
      exact ⟨.non, H', J.os, J.bare, J.base, J.hok, rfl, q⟩
    | brk =>
      obtain ⟨_, _, _, q⟩ := hs
      exact q.elim
    | cont =>
      obtain ⟨_, _, _, q⟩ := hs
      exact q.elim
section
variable (mg : Str → Option Value) (K : PySem.W.Frag)
/-- what a def promises that gives m of its data -/
def SpD (ks : List Ak) (r : Rm) (m : Fd) : Sp := fun vs H Q E => vs.length = ks.length ∧ ∃ pot M ds π, Args mg K pot M H ks vs ds ∧ (∀ a ∈ M, Al H a) ∧ (∀ a, pot = some a → a ∈ M) ∧ PotAt pot H π ∧ Post mg K r pot M H (m ds π) Q E
end
def startD (n : Nat) (ds : List D) : Rho := ds.map some ++ List.replicate (n - ds.length) none
def Ak.md : Ak → Md
  | .f => .f
  | .b => .u
  | .p => .p
  | .s => .s
/-- the body run as a def -/
def runD (n : Nat) (r : Rm) (fs : Fs) : Fd := fun ds π => (fs (startD n ds) π).bind fun x => match x.1 with
  | .rt d => .ok (d, x.2)
  | .nx _ => if r = .f then .ok (.non, x.2) else .stuck
  | _ => .stuck
/-- the modes at the entry -/
def modesOk (ks : List Ak) (Γ : List Md) : Bool := decide (Γ.take ks.length = ks.map Ak.md) && (Γ.drop ks.length).all fun m => m == .f || m == .o || m == .u
theorem start_at {N : List Str} {vs : List V} {i : Nat} (h : i < vs.length) : (start N vs)[i]? = some (vs[i]?) := by
  unfold L2.start
  rw [List.getElem?_append_left (by simpa using h), List.getElem?_map]
  simp [h]
theorem startD_at {n : Nat} {ds : List D} {i : Nat} {d : D} (h : (startD n ds)[i]? = some (some d)) : ds[i]? = some d := by
  unfold startD at h
  by_cases hi : i < ds.length
  · rw [List.getElem?_append_left (by simpa using hi), List.getElem?_map] at h
    simp [hi] at h
    rw [List.getElem?_eq_getElem hi, h]
  · rw [List.getElem?_append_right (by simpa using hi), List.getElem?_replicate] at h
    split at h <;> cases h
theorem Args.at {mg : Str → Option Value} {K : PySem.W.Frag} {pot : Option Addr} {M : List Addr} {H : Hp} : ∀ {ks : List Ak} {vs : List V} {ds : List D} {i : Nat} {d : D}, Args mg K pot M H ks vs ds → ds[i]? = some d → ∃ k v, ks[i]? = some k ∧ vs[i]? = some v ∧ ArgR mg K pot M H k v d
  | _, _, _, _, _, .nil, h => by simp at h
  | _, _, _, 0, _, .cons a _, h => by
    simp at h
    subst h
    exact ⟨_, _, rfl, rfl, a⟩
  | _, _, _, i + 1, _, .cons _ r, h => by
    obtain ⟨k, v, h1, h2, h3⟩ := r.at (i := i) (by simpa using h)
    exact ⟨k, v, by simpa using h1, by simpa using h2, h3⟩
theorem Args.atK {mg : Str → Option Value} {K : PySem.W.Frag} {pot : Option Addr} {M : List Addr} {H : Hp} : ∀ {ks : List Ak} {vs : List V} {ds : List D} {i : Nat} {k : Ak}, Args mg K pot M H ks vs ds → ks[i]? = some k → ∃ v d, vs[i]? = some v ∧ ds[i]? = some d ∧ ArgR mg K pot M H k v d
  | _, _, _, _, _, .nil, h => by simp at h
  | _, _, _, 0, _, .cons a _, h => by
    simp at h
    subst h
    exact ⟨_, _, rfl, rfl, a⟩
  | _, _, _, i + 1, _, .cons _ r, h => by
    obtain ⟨v, d, h1, h2, h3⟩ := r.atK (i := i) (by simpa using h)
    exact ⟨v, d, by simpa using h1, by simpa using h2, h3⟩
theorem Args.lenD {mg : Str → Option Value} {K : PySem.W.Frag} {pot : Option Addr} {M : List Addr} {H : Hp} {ks : List Ak} {vs : List V} {ds : List D} (h : Args mg K pot M H ks vs ds) : ds.length = ks.length := by
  induction h with
  | nil => rfl
  | cons _ _ ih => exact congrArg Nat.succ ih
theorem env_start {mg : Str → Option Value} {K : PySem.W.Frag} {pot : Option Addr} {M : List Addr} {H : Hp} {ks : List Ak} {Γ : List Md} {N : List Str} {vs : List V} {ds : List D} (hm : modesOk ks Γ = true) (hl : Γ.length = N.length) (hk : ks.length ≤ N.length)
    (a : Args mg K pot M H ks vs ds) (al : ∀ a ∈ M, Al H a) (pm : ∀ a, pot = some a → a ∈ M) : EnvOk mg K Γ pot M (start N vs) H (startD N.length ds) := by
  obtain ⟨m1, m2⟩ := Bool.and_eq_true_iff.mp hm
  have m1 := of_decide_eq_true m1
  have lv := a.length
  have ld := a.lenD
  have gam : ∀ (i : Nat) (k : Ak), ks[i]? = some k → Γ[i]? = some k.md := fun i k h => by
    have hi := (List.getElem?_eq_some_iff.mp h).1
    have e : (Γ.take ks.length)[i]? = Γ[i]? := List.getElem?_take_of_lt hi
    rw [← e, m1, List.getElem?_map, h]
    rfl
  have beyond : ∀ (i : Nat) (m : Md), ks.length ≤ i → Γ[i]? = some m → m = .f ∨ m = .o ∨ m = .u := fun i m h1 h2 => by
    have e : (Γ.drop ks.length)[i - ks.length]? = some m := by
      rw [List.getElem?_drop, Nat.add_sub_cancel' h1]
      exact h2
    have q := List.all_eq_true.mp m2 m (List.mem_of_getElem? e)
    simpa [or_assoc] using q
  have dat : ∀ (i : Nat) (d : D), (startD N.length ds)[i]? = some (some d) → ∃ k v, ks[i]? = some k ∧ (start N vs)[i]? = some (some v) ∧ ArgR mg K pot M H k v d := fun i d h => by
    obtain ⟨k, v, h1, h2, h3⟩ := a.at (startD_at h)
    have hi := (List.getElem?_eq_some_iff.mp h2).1
    exact ⟨k, v, h1, by rw [start_at hi, h2], h3⟩
  refine ⟨?_, ?_, fun i d h1 h2 => ?_, fun i d h1 h2 => ?_, fun i h1 => ?_, fun i d h1 h2 => ?_, fun i j x d e h1 h2 h3 h4 h5 h6 => ?_, al, pm, fun i x dd d h1 h2 => by
    obtain ⟨k, v, q1, q2, q3⟩ := dat i d h2
    have q4 := gam i k q1
    rw [h1] at q4
    cases k <;> cases q4⟩
  · unfold L2.start
    rw [List.length_append, List.length_map, List.length_replicate]
    omega
  · unfold startD
    rw [List.length_append, List.length_map, List.length_replicate]
    omega
  · obtain ⟨k, v, q1, q2, q3⟩ := dat i d h2
    have q4 := gam i k q1
    rw [h1] at q4
    cases k with
    | f => exact ⟨v, q2, q3⟩
    | _ => cases q4
  · obtain ⟨k, v, q1, q2, q3⟩ := dat i d h2
    have q4 := gam i k q1
    rw [h1] at q4
    cases k <;> cases q4
  · by_cases hi : i < ks.length
    · obtain ⟨v, d, q1, q2, q3⟩ := a.atK (List.getElem?_eq_getElem hi)
      have q4 := gam i _ (List.getElem?_eq_getElem hi)
      rw [h1] at q4
      have hi2 := (List.getElem?_eq_some_iff.mp q1).1
      generalize ks[i] = k at q3 q4
      cases k with
      | p =>
        obtain ⟨p, e1, rfl⟩ := q3
        exact ⟨p, e1, by rw [start_at hi2, q1]⟩
      | _ => cases q4
    · rcases beyond i .p (by omega) h1 with z | z | z <;> cases z
  · obtain ⟨k, v, q1, q2, q3⟩ := dat i d h2
    have q4 := gam i k q1
    rw [h1] at q4
    cases k with
    | s =>
      obtain ⟨p, ns, e1, e2, e3⟩ := q3
      exact ⟨p, ns, by rw [q2, e1], e2, e3⟩
    | _ => cases q4
  · obtain ⟨k, v, q1, q2, q3⟩ := dat i d h3
    have q4 := gam i k q1
    rw [h1] at q4
    cases k <;> cases q4
/-- a def of the text with what it gives -/
structure DFn (P : Program) (w : World) (K : PySem.W.Frag) (mg : Str → Option Value) (base : Heap) (k : Nat) (x : Str) (st : Stmt) (ps : List Str) (ks : List Ak) (r : Rm) (m : Fd) : Prop where
  ex : ∃ f fd, mg x = some (.ref f) ∧ Fun K x x st f fd ∧ FnG P w K mg base k f fd ps (SpD mg K ks r m)
section
variable {P : Program} {w : World} {K : PySem.W.Frag} {mg : Str → Option Value} {base : Heap} {k : Nat} {x : Str} {st : Stmt} {ps N : List Str} {ks : List Ak} {r : Rm}
theorem DFn.mono {j : Nat} {m : Fd} (F : DFn P w K mg base j x st ps ks r m) (h : j ≤ k) : DFn P w K mg base k x st ps ks r m := by
  obtain ⟨f, fd, h1, h2, h3⟩ := F.ex
  exact ⟨f, fd, h1, h2, h3.mono h⟩
/-- THE RULE for a def -/
theorem dfn_of {fs : Fs} (Γ Γ' : List Md) (hf : ∃ f fd, mg x = some (.ref f) ∧ Fun K x x st f fd) (S : FnScope N ps (defScope st)) (hp : ks.length = ps.length) (hl : Γ.length = N.length) (hk : ks.length ≤ N.length) (hm : modesOk ks Γ = true)
    (hr : (r = .f ∨ r = .o) ∨ r = .t)
    (hb : ∀ (f : Addr) (cdv : Value) (A : Around) (outer : List Env) (s : Shared) (H : Hp) (E : XK), XOk (cxOf (L2.CX P w) P w K mg base N x (defScope st) f cdv A outer s H E) E k →
      ∃ ts, DSs (cxOf (L2.CX P w) P w K mg base N x (defScope st) f cdv A outer s H E) E r Γ Γ Γ' (defBody st) ts fs) :
    DFn P w K mg base (k + 1) x st ps ks r (runD N.length r fs) := by
  obtain ⟨f, fd, h1, h2⟩ := hf
  refine ⟨f, fd, h1, h2, ?_⟩
  obtain ⟨oc, od, kV, doc, pm, an, cdv, ct, osl, rfl, lk, hcd⟩ := h2.ex
  refine fn_ofG lk hcd S (fun vs H Q E h => by rw [h.1, hp]) fun A outer s H vs Q E room gd want => ?_
  obtain ⟨_, pot, M, ds, π, ar, al, pm, pt, post⟩ := want
  have o : XOk (cxOf (L2.CX P w) P w K mg base N x (defScope st) f cdv A outer s H E) E k :=
    ⟨room, gd, rfl, passes_call (takes_of rfl rfl rfl rfl) fun _ _ _ _ z => z, passes_of rfl, S.nd⟩
  obtain ⟨ts, B⟩ := hb f cdv A outer s H E o
  refine ⟨ts, B.pss, ?_⟩
  have I := env_start hm hl hk ar al pm
  refine B.sem pot M H (fun _ => none) M _ H _ π _ ⟨I, .refl, fun a h => h, fun i d a h1 h2 h3 => ?_, fun a h => (al a h).nn, fun a u e => by cases e⟩ pt ?_
  · exfalso
    obtain ⟨k', v, q1, _⟩ := ar.at (startD_at h2)
    obtain ⟨m1, _⟩ := Bool.and_eq_true_iff.mp hm
    have m1 := of_decide_eq_true m1
    have hi := (List.getElem?_eq_some_iff.mp q1).1
    have e : (Γ.take ks.length)[i]? = Γ[i]? := List.getElem?_take_of_lt hi
    rw [h1, m1, List.getElem?_map, q1] at e
    cases k' <;> cases e
  · unfold runD at post
    cases ef : fs (startD N.length ds) π with
    | err c ns xs π' =>
      rw [ef] at post
      exact post
    | stuck =>
      rw [ef] at post
      exact post
    | ok y =>
      obtain ⟨y, π1⟩ := y
      rw [ef] at post
      cases y with
      | rt d => exact fun v H' g p q => post v H' g p q
      | nx ρ =>
        simp only [Res.bind_ok] at post
        split at post
        · rename_i hrf
          subst hrf
          exact fun M' σ' H' S' p' => post .non H' S'.gr p' .non
        · exact post.elim
      | bk ρ => exact post.elim
      | ct ρ => exact post.elim
end
section
variable {X : Cx} {E : XK} {Γ : List Md} {r : Rm} {e : Expr} {es : List Expr} {kws : List Keyword} {pos p kpos : Pos} {k j : Nat} {ks : List Ak} {tA tK : TA} {fA fK : Ea} {x : Str} {st : Stmt} {ps kn : List Str} {m : Fd} {nm : Option Str} {te : TE} {fe : Ed}
def tGo (mg : Str → Option Value) (K : PySem.W.Frag) (ks : List Ak) (r : Rm) (m : Fd) (E : XK) (t : TA) : TE := fun σ H Q => t σ H fun vs H1 => SpD mg K ks r m vs H1 Q E
def eGo (m : Fd) (a : Ea) : Ed := fun ρ π => (a ρ π).bind fun x => m x.1 x.2
theorem sem_go (hA : SemA X.mg X.K E ks Γ tA fA) : SemE X.mg X.K E r Γ (tGo X.mg X.K ks r m E tA) (eGo m fA) := fun pot M σ H ρ π I p Q h => by
  refine PostA.seq (ks := ks) (te := tA σ H) h p (fun Q' hq => hA pot M σ H ρ π I p Q' hq) fun ds π1 vs H1 _ g1 p1 r1 h1 => ?_
  exact ⟨r1.length, pot, M, ds, π1, r1, (I.grow g1 p1).al, I.pm, p1, h1⟩
theorem run_go {fd : FuncData} {f : Addr} {sp : Sp} {args : PySem.Args} {us ws : List Value} {vs : List V} {pins : List (Addr × Obj)} {σ : L2.St} {H : Hp} {s : Shared} {Q : VK} (F : FnG X.prog X.w X.K X.mg X.base j f fd ps sp) (o : XOk X E k) (hj : j ≤ k) (hb : BindsTo s fd ⟨us, kn.zip ws⟩ (ps.zip (us ++ ws)))
    (I : Inv X pins σ H s) (rl : Vals vs (us ++ ws)) (h : sp vs H Q E) : wpAny (model X.prog X.w) X.A (call (.ref f) us (kn.zip ws)) (EP X pins σ Q) X.xe s := by
  refine wpAny_call (codeAny_mono (F.run X.A X.stack s H _ (us ++ ws) vs Q E (o.room.mono hj) o.gd I.env0 hb rl h) fun res s' z => ?_)
  match res, z with
  | .error e, z => exact o.pass pins σ H s e s' I z
  | .ok (.ret u), z => exact I.after z
/-- f(e, ..) -/
theorem de_call (F : DFn X.prog X.w X.K X.mg X.base j x st ps ks r m) (o : XOk X E k)
    (hb : ∀ (kV doc pm : Value) (an : Option Addr) (cdv ct : Value) (us : List Value), us.length = ps.length → bindArgs (PySem.W.fnOf x x (defArgs st) (defBody st) (defScope st) .none kV doc pm an cdv ct) ⟨us, []⟩ = pure (ps.zip us))
    (hA : DA X E ks Γ (e :: es) tA fA) (hj : j ≤ k := by decide) (hg : Gl X x := by rfl) (hdb : (x == ("__debug__" : Str)) = false := by decide) (he : starEach (e :: es) X.env = (false, eval e X.env) :: starEach es X.env := by rfl) (hpl : (backTo pos (starEach es X.env)).any (·.1) = false := by rfl) :
    DE X E r Γ (.Call (.Name x p) (e :: es) [] pos) (tGo X.mg X.K ks r m E tA) (eGo m fA) :=
  ⟨⟨fun pins s σ H Q I h => by
    obtain ⟨f, fd, h1, h2, h3⟩ := F.ex
    refine wpAny_Call_Name_kw (ld_glob I hg h1 ?_ hdb)
    refine PySem.W.callWith_K (h₀ := X.base) I.ok.mod.kin h2.kp (thn (hA.pa.run pos pins s σ H _ I h) fun us s1 ⟨vs, H1, I1, rl, q⟩ => ⟨I1.kIn, ?_⟩) he hpl
    have hl : us.length = ps.length := by
      rw [← rl.length]
      exact h3.len _ _ _ _ q
    have bd : BindsTo s1 fd ⟨us, ([] : List Str).zip ([] : List Value)⟩ (ps.zip (us ++ [])) := by
      obtain ⟨oc, od, kV, doc, pm, an, cdv, ct, osl, rfl, lk, hcd⟩ := h2.ex
      rw [List.append_nil]
      exact .of_eq (hb kV doc pm an cdv ct us hl)
    exact run_go (args := ⟨us, []⟩) (kn := []) (ws := []) h3 o hj bd I1 (by rw [List.append_nil]; exact rl) q⟩, sem_go hA.sem⟩
/-- the values of the keywords -/
structure DK (X : Cx) (E : XK) (ks : List Ak) (Γ : List Md) (kws : List Keyword) (tk : TA) (fk : Ea) : Prop where
  pk : PK X kws tk
  sem : SemA X.mg X.K E ks Γ tk fk
theorem dk_nil : DK X E [] Γ [] tNil aNil := ⟨pk_nil, da_nil.sem⟩
theorem dk_f (ha : DE X E .f Γ e te fe) (hK : DK X E ks Γ kws tK fK) : DK X E (.f :: ks) Γ (⟨nm, e, kpos⟩ :: kws) (tCons te tK) (aCons fe fK) := ⟨pk_cons ha.pe hK.pk, sem_cons (kk := .f) (ra := .f) (fun _ _ _ _ _ _ _ h => h) ha.sem hK.sem⟩
/-- f(k = e, ..): all by their names, in the parameters' sequence -/
theorem de_callK (F : DFn X.prog X.w X.K X.mg X.base j x st ps ks r m) (o : XOk X E k)
    (hb : ∀ (kV doc pm : Value) (an : Option Addr) (cdv ct : Value) (ws : List Value), ws.length = ps.length → bindArgs (PySem.W.fnOf x x (defArgs st) (defBody st) (defScope st) .none kV doc pm an cdv ct) ⟨[], ps.zip ws⟩ = pure (ps.zip ws))
    (hK : DK X E ks Γ kws tK fK) (hj : j ≤ k := by decide) (hg : Gl X x := by rfl) (hdb : (x == ("__debug__" : Str)) = false := by decide) (hall : (backToKw pos (keywordEach kws X.env)).all (·.1.isSome) = true := by rfl) (hks : (backToKw pos (keywordEach kws X.env)).filterMap (·.1) = ps := by rfl)
    (hpl : ((backTo pos (starEach [] X.env)).any (·.1) || (backToKw pos (keywordEach kws X.env)).any (·.1.isNone)) = false := by rfl) :
    DE X E r Γ (.Call (.Name x p) [] kws pos) (tGo X.mg X.K ks r m E tK) (eGo m fK) :=
  ⟨⟨fun pins s σ H Q I h => by
    obtain ⟨f, fd, h1, h2, h3⟩ := F.ex
    refine wpAny_Call_Name_kw (ld_glob I hg h1 ?_ hdb)
    refine PySem.W.callWith_KW0 (h₀ := X.base) I.ok.mod.kin h2.kp hall (thn (hK.pk.run pos pins s σ H _ I h) fun ws s1 ⟨vs, H1, I1, rl, q⟩ => ⟨I1.kIn, ?_⟩) hpl
    rw [hks]
    have hl : ws.length = ps.length := by
      rw [← rl.length]
      exact h3.len _ _ _ _ q
    have bd : BindsTo s1 fd ⟨[], ps.zip ws⟩ (ps.zip ([] ++ ws)) := by
      obtain ⟨oc, od, kV, doc, pm, an, cdv, ct, osl, rfl, lk, hcd⟩ := h2.ex
      exact .of_eq (hb kV doc pm an cdv ct ws hl)
    exact run_go (args := ⟨[], ps.zip ws⟩) (us := []) h3 o hj bd I1 rl q⟩, sem_go hK.sem⟩
end
end DL
set_option maxHeartbeats 2000000
namespace DL
open PySem PySem.Spec PyProof.Rows L2
def asInts : List D → Option (List Int)
  | [] => some []
  | .int i :: r => (asInts r).map (i :: ·)
  | _ :: _ => none
def asBls : List D → Option (List Bool)
  | [] => some []
  | .bl i :: r => (asBls r).map (i :: ·)
  | _ :: _ => none
@[simp] theorem asInts_iz : ∀ ns : List Int, asInts (ns.map D.int) = some ns
  | [] => rfl
  | n :: ns => by
    show (asInts (ns.map D.int)).map _ = _
    rw [asInts_iz ns]
    rfl
@[simp] theorem asBls_bl : ∀ bs : List Bool, asBls (bs.map D.bl) = some bs
  | [] => rfl
  | n :: ns => by
    show (asBls (ns.map D.bl)).map _ = _
    rw [asBls_bl ns]
    rfl
theorem asInts_eq : ∀ {ds : List D} {ns : List Int}, asInts ds = some ns → ds = ns.map D.int
  | [], ns, h => by
    cases h
    rfl
  | d :: ds, ns, h => by
    cases d with
    | int i =>
      simp only [asInts, Option.map_eq_some_iff] at h
      obtain ⟨ms, e, rfl⟩ := h
      rw [asInts_eq e]
      rfl
    | _ => cases h
theorem asBls_eq : ∀ {ds : List D} {ns : List Bool}, asBls ds = some ns → ds = ns.map D.bl
  | [], ns, h => by
    cases h
    rfl
  | d :: ds, ns, h => by
    cases d with
    | bl i =>
      simp only [asBls, Option.map_eq_some_iff] at h
      obtain ⟨ms, e, rfl⟩ := h
      rw [asBls_eq e]
      rfl
    | _ => cases h
theorem rpl_bls {mg : Str → Option Value} {K : PySem.W.Frag} {H : Hp} : ∀ {ns : List Bool} {vs : List V}, RpL mg K H vs (ns.map D.bl) → vs = ns.map V.bl
  | [], _, .nil => rfl
  | n :: ns, _, .cons h r => by
    cases h
    rw [rpl_bls r]
    rfl
/-- ints in ascending order -/
def sortI (ns : List Int) : List Int := ns.mergeSort fun a b => decide (a ≤ b)
theorem sorted_same : ∀ {xs ys : List Int}, xs.Perm ys → xs.Pairwise (· ≤ ·) → ys.Pairwise (· ≤ ·) → xs = ys
  | [], ys, p, _, _ => by
    have := p.length_eq
    cases ys with
    | nil => rfl
    | cons => simp at this
  | x :: xs, [], p, _, _ => by
    have := p.length_eq
    simp at this
  | x :: xs, y :: ys, p, h1, h2 => by
    obtain ⟨a1, b1⟩ := List.pairwise_cons.mp h1
    obtain ⟨a2, b2⟩ := List.pairwise_cons.mp h2
    have m1 : x ∈ y :: ys := p.mem_iff.mp (List.mem_cons_self ..)
    have m2 : y ∈ x :: xs := p.mem_iff.mpr (List.mem_cons_self ..)
    have e : x = y := by
      rcases List.mem_cons.mp m1 with e | m1
      · exact e
      · rcases List.mem_cons.mp m2 with e | m2
        · exact e.symm
        · exact Int.le_antisymm (a1 y m2) (a2 x m1)
    subst e
    rw [sorted_same ((List.perm_cons x).mp p) b1 b2]
theorem sortI_perm (ns : List Int) : (sortI ns).Perm ns := List.mergeSort_perm ns _
theorem sortI_sorted (ns : List Int) : (sortI ns).Pairwise (· ≤ ·) := by
  have h := List.pairwise_mergeSort (le := fun (a b : Int) => decide (a ≤ b)) (fun a b c h1 h2 => by simp at *; omega) (fun a b => by simp; omega) ns
  exact h.imp fun h => by simpa using h
def fLen : List D → Option D
  | [.lst xs] => some (.int xs.length)
  | [.tup xs] => some (.int xs.length)
  | [.str z] => if z.length ≤ sizeLine then some (.int z.length) else none
  | _ => none
def fAbs : List D → Option D
  | [.int i] => some (.int (if i < 0 then -i else i))
  | _ => none
def fMax2 : List D → Option D
  | [.int i, .int j] => some (.int (if j > i then j else i))
  | _ => none
def fMin2 : List D → Option D
  | [.int i, .int j] => some (.int (if j < i then j else i))
  | _ => none
def maxI : List Int → Int
  | [] => 0
  | [x] => x
  | x :: xs => if x < maxI xs then maxI xs else x
theorem maxI_mem : ∀ {xs : List Int}, xs ≠ [] → maxI xs ∈ xs
  | [], h => absurd rfl h
  | [x], _ => by simp [maxI]
  | x :: y :: r, _ => by
    have ih := maxI_mem (xs := y :: r) (by simp)
    unfold maxI
    split
    · exact List.mem_cons_of_mem _ ih
    · exact List.mem_cons_self ..
theorem maxI_le : ∀ {xs : List Int} {x : Int}, x ∈ xs → x ≤ maxI xs
  | [x], y, h => by simp at h; simp [maxI, h]
  | x :: z :: r, y, h => by
    have ih := fun {w} => maxI_le (xs := z :: r) (x := w)
    unfold maxI
    rcases List.mem_cons.mp h with e | h
    · subst e
      split <;> omega
    · have := ih h
      split <;> omega
def onInts (f : List Int → Option D) : List D → Option D
  | [.lst xs] => (asInts xs).bind f
  | _ => none
def fSum : List D → Option D := onInts fun ns => some (.int ns.sum)
def fMaxL : List D → Option D := onInts fun ns => if ns = [] then none else some (.int (maxI ns))
def fSortI : List D → Option D := onInts fun ns => some (.lst ((sortI ns).map D.int))
def fAll : List D → Option D
  | [.lst xs] => (asBls xs).map fun bs => .bl (bs.all id)
  | _ => none
def fInt : List D → Option D
  | [.int i] => some (.int i)
  | _ => none
def fList : List D → Option D
  | [.lst xs] => some (.lst xs)
  | [.tup xs] => some (.lst xs)
  | _ => none
def fTuple : List D → Option D
  | [.lst xs] => some (.tup xs)
  | [.tup xs] => some (.tup xs)
  | _ => none
section
variable {X : Cx} {E : XK} {k : Nat}
theorem arg1 {mg : Str → Option Value} {K : PySem.W.Frag} {pot : Option Addr} {M : List Addr} {H : Hp} {vs : List V} {ds : List D} (h : Args mg K pot M H [.b] vs ds) : ∃ v d, vs = [v] ∧ ds = [d] ∧ Rb mg K pot M H v d := args1 h
theorem arg2 {mg : Str → Option Value} {K : PySem.W.Frag} {pot : Option Addr} {M : List Addr} {H : Hp} {vs : List V} {ds : List D} (h : Args mg K pot M H [.b, .b] vs ds) : ∃ v d w e, vs = [v, w] ∧ ds = [d, e] ∧ Rb mg K pot M H v d ∧ Rb mg K pot M H w e := args2 h
def rLenA (K : PySem.W.Frag) : List V → Hp → VK → Prop := fun xs H Q => (∃ p ys, xs = [.ref p] ∧ (SqL K H p ys ∨ SqT K H p ys) ∧ Q (.int ys.length) H) ∨ ∃ z, xs = [.str z] ∧ z.length ≤ sizeLine ∧ Q (.int z.length) H
theorem c_len : CallOk X (.builtin "len") (rLenA X.K) [.b] .f fLen := ⟨call_len_seq.or call_len_str, fun pot M H vs ds z al pm ph a hz Q q => by
  obtain ⟨v, d, rfl, rfl, h⟩ := arg1 a
  unfold fLen at hz
  split at hz
  · rename_i xs e
    cases e
    cases hz
    obtain ⟨p, ys, rfl, h1, r1⟩ := rb_lst h
    exact .inl ⟨p, ys, rfl, .inl (.inl (.inl h1)), by rw [r1.length]; exact q _ H (Same.refl H) (.int _)⟩
  · rename_i xs e
    cases e
    cases hz
    obtain ⟨p, ys, rfl, h1, r1⟩ := rb_tup h
    exact .inl ⟨p, ys, rfl, .inr (sqT_mono less_le h1), by rw [r1.length]; exact q _ H (Same.refl H) (.int _)⟩
  · rename_i z' e
    cases e
    split at hz
    · rename_i hl
      cases hz
      cases rb_str h
      exact .inr ⟨_, rfl, hl, q _ H (Same.refl H) (.int _)⟩
    · cases hz
  · cases hz⟩
/-- len of the script -/
theorem c_lenS : CallOk X (.builtin "len") (rLenA X.K) [.s] .f fLen := ⟨call_len_seq.or call_len_str, fun pot M H vs ds z al pm ph a hz Q q => by
  obtain ⟨v, d, rfl, rfl, p, ns, rfl, rfl, h⟩ := args1 a
  cases hz
  exact .inl ⟨p, _, rfl, .inl (sqL_mono less_le h), by
    simp only [List.length_map] at q ⊢
    exact q _ H (Same.refl H) (.int _)⟩⟩
theorem c_abs : CallOk X (.builtin "abs") (fun xs H Q => ∃ i, xs = [.int i] ∧ Q (.int (if i < 0 then -i else i)) H) [.b] .f fAbs := ⟨call_abs, fun pot M H vs ds z al pm ph a hz Q q => by
  obtain ⟨v, d, rfl, rfl, h⟩ := arg1 a
  cases d <;> simp [fAbs] at hz
  subst hz
  exact ⟨_, by rw [rb_int h], q _ H (Same.refl H) (.int _)⟩⟩
theorem c_max2 (x : XOk X E k) : CallOk X (.builtin "max") (fun xs H Q => ∃ i j, xs = [.int i, .int j] ∧ Q (.int (if j > i then j else i)) H) [.b, .b] .f fMax2 := ⟨call_max2 x.calm, fun pot M H vs ds z al pm ph a hz Q q => by
  obtain ⟨v, d, w, e, rfl, rfl, h, h'⟩ := arg2 a
  cases d <;> cases e <;> simp [fMax2] at hz
  subst hz
  exact ⟨_, _, by rw [rb_int h, rb_int h'], q _ H (Same.refl H) (.int _)⟩⟩
theorem c_min2 (x : XOk X E k) : CallOk X (.builtin "min") (fun xs H Q => ∃ i j, xs = [.int i, .int j] ∧ Q (.int (if j < i then j else i)) H) [.b, .b] .f fMin2 := ⟨call_min2 x.calm, fun pot M H vs ds z al pm ph a hz Q q => by
  obtain ⟨v, d, w, e, rfl, rfl, h, h'⟩ := arg2 a
  cases d <;> cases e <;> simp [fMin2] at hz
  subst hz
  exact ⟨_, _, by rw [rb_int h, rb_int h'], q _ H (Same.refl H) (.int _)⟩⟩
theorem on_ints {mg : Str → Option Value} {K : PySem.W.Frag} {pot : Option Addr} {M : List Addr} {H : Hp} {vs : List V} {ds : List D} {z : D} {f : List Int → Option D} (a : Args mg K pot M H [.b] vs ds) (hz : onInts f ds = some z) :
    ∃ p ns, vs = [.ref p] ∧ H p = some (.lst (ns.map V.int)) ∧ f ns = some z := by
  obtain ⟨v, d, rfl, rfl, h⟩ := arg1 a
  unfold onInts at hz
  split at hz
  · rename_i xs e
    cases e
    simp only [Option.bind_eq_some_iff] at hz
    obtain ⟨ns, e1, e2⟩ := hz
    rw [asInts_eq e1] at h
    obtain ⟨p, ys, rfl, h1, r1⟩ := rb_lst h
    rw [r1.iz] at h1
    exact ⟨p, ns, rfl, h1, e2⟩
  · cases hz
theorem c_sum (x : XOk X E k) : CallOk X (.builtin "sum") (rSum X.K) [.b] .f fSum := ⟨cr_sum x.calm, fun pot M H vs ds z al pm ph a hz Q q => by
  obtain ⟨p, ns, rfl, h1, e⟩ := on_ints a hz
  cases e
  exact ⟨p, ns, rfl, .inl (.inl h1), q _ H (Same.refl H) (.int _)⟩⟩
theorem c_maxL (x : XOk X E k) : CallOk X (.builtin "max") (rMax X.K) [.b] .f fMaxL := ⟨cr_max x.calm, fun pot M H vs ds z al pm ph a hz Q q => by
  obtain ⟨p, ns, rfl, h1, e⟩ := on_ints a hz
  split at e
  · cases e
  · rename_i hn
    cases e
    refine ⟨p, ns, rfl, .inl (.inl h1), List.length_pos_iff.mpr hn, fun m hm hle => ?_⟩
    have e : m = maxI ns := Int.le_antisymm (maxI_le hm) (hle _ (maxI_mem hn))
    rw [e]
    exact q _ H (Same.refl H) (.int _)⟩
theorem c_sortI : CallOk X (.builtin "sorted") (rSortedI X.K) [.b] .o fSortI := ⟨cr_sortedI, fun pot M H vs ds z al pm ph a hz Q q => by
  obtain ⟨p, ns, rfl, h1, e⟩ := on_ints a hz
  cases e
  refine ⟨p, ns, rfl, .inl (.inl h1), fun ns' c hp hs hn => ?_⟩
  have e : ns' = sortI ns := sorted_same (hp.trans (sortI_perm ns).symm) hs (sortI_sorted ns)
  rw [e]
  exact q _ _ (same_upd hn) (new_lst ph hn (RpL.of_ints _))⟩
theorem c_all (x : XOk X E k) : CallOk X (.builtin "all") (rAll X.K) [.b] .f fAll := ⟨cr_all x.calm, fun pot M H vs ds z al pm ph a hz Q q => by
  obtain ⟨v, d, rfl, rfl, h⟩ := arg1 a
  unfold fAll at hz
  split at hz
  · rename_i xs e
    cases e
    simp only [Option.map_eq_some_iff] at hz
    obtain ⟨ns, e1, e2⟩ := hz
    rw [asBls_eq e1] at h
    obtain ⟨p, ys, rfl, h1, r1⟩ := rb_lst h
    rw [rpl_bls r1] at h1
    subst e2
    exact ⟨p, ns, rfl, .inl (.inl h1), q _ H (Same.refl H) (.bl _)⟩
  · cases hz⟩
theorem c_int : CallOk X (.type "int") (fun xs H Q => (∃ i, xs = [.int i] ∧ Q (.int i) H) ∨ ∃ k, xs = [.bl k] ∧ Q (.int (if k then 1 else 0)) H) [.b] .f fInt := ⟨call_int1, fun pot M H vs ds z al pm ph a hz Q q => by
  obtain ⟨v, d, rfl, rfl, h⟩ := arg1 a
  cases d <;> simp [fInt] at hz
  subst hz
  exact .inl ⟨_, by rw [rb_int h], q _ H (Same.refl H) (.int _)⟩⟩
theorem c_list : CallOk X (.type "list") (fun xs H Q => ∃ p ys, xs = [.ref p] ∧ (SqL X.K H p ys ∨ SqT X.K H p ys) ∧ ∀ l, H l = none → Q (.ref l) (upd H l (.lst ys))) [.b] .o fList := ⟨call_list_of, fun pot M H vs ds z al pm ph a hz Q q => by
  obtain ⟨v, d, rfl, rfl, h⟩ := arg1 a
  cases d <;> simp [fList] at hz
  · subst hz
    obtain ⟨p, ys, rfl, h1, r1⟩ := rb_lst h
    exact ⟨p, ys, rfl, .inl (.inl (.inl h1)), fun l hn => q _ _ (same_upd hn) (new_lst ph hn r1)⟩
  · subst hz
    obtain ⟨p, ys, rfl, h1, r1⟩ := rb_tup h
    exact ⟨p, ys, rfl, .inr (sqT_mono less_le h1), fun l hn => q _ _ (same_upd hn) (new_lst ph hn r1)⟩⟩
end
end DL
set_option maxHeartbeats 2000000
namespace DL
open PySem PySem.Spec PyProof.Rows L2
theorem RpL.atI {mg : Str → Option Value} {K : PySem.W.Frag} {H : Hp} {vs : List V} {ds : List D} {i : Int} {d : D} (r : RpL mg K H vs ds) (e : L2.atI ds i = some d) : ∃ v, L2.atI vs i = some v ∧ Rp mg K H v d := by
  unfold L2.atI at e ⊢
  rw [r.length]
  simp only [Option.bind_eq_some_iff] at e ⊢
  obtain ⟨j, h1, h2⟩ := e
  obtain ⟨v, h3, h4⟩ := r.get h2
  exact ⟨v, ⟨j, h1, h3⟩, h4⟩
def opIx : D → D → Option D
  | .lst xs, .int i => L2.atI xs i
  | .tup xs, .int i => L2.atI xs i
  | .str z, .int i => if z.length ≤ sizeLine then (L2.atI z.cps.toList i).map fun c => .str ⟨#[c]⟩ else none
  | _, _ => none
section
variable {X : Cx} {E : XK} {Γ : List Md} {r ra rb rc : Rm} {e a b c : Expr} {ta tb te : TE} {fa fb fe : Ed} {pos p p2 : Pos} {k kk : Nat} {es : List Expr} {ks : List Ak} {tA : TA} {fA : Ea}
theorem sem_ix : SemOp X.mg X.K (rIx X.K) .f opIx := fun pot M H x y d e z al pm ph rx ry hz Q q => by
  unfold opIx at hz
  split at hz
  · obtain ⟨p, xs, rfl, h1, r1⟩ := rb_lst rx
    obtain ⟨v, hv, rv⟩ := r1.atI hz
    exact .inl ⟨p, xs, _, v, rfl, rb_int ry, .inl (.inl h1), hv, q _ H (Same.refl H) rv⟩
  · obtain ⟨p, xs, rfl, h1, r1⟩ := rb_tup rx
    obtain ⟨v, hv, rv⟩ := r1.atI hz
    exact .inr (.inl ⟨p, xs, _, v, rfl, rb_int ry, sqT_mono less_le h1, hv, q _ H (Same.refl H) rv⟩)
  · split at hz
    · rename_i hl
      simp only [Option.map_eq_some_iff] at hz
      obtain ⟨w, hw, rfl⟩ := hz
      exact .inr (.inr ⟨_, _, w, rb_str rx, rb_int ry, hl, hw, q _ H (Same.refl H) (.str _)⟩)
    · cases hz
  · cases hz
theorem de_ix (ha : DE X E ra Γ a ta fa) (hb : DE X E rb Γ b tb fb) (hs : PlainIx b := by intro _ _; rfl) : DE X E .f Γ (.Subscript a b pos) (tOp (rIx X.K) ta tb) (eBin opIx fa fb) :=
  ⟨pe_ix ix_seq ha.pe hb.pe hs, sem_bin sem_ix ha.sem hb.sem⟩
abbrev Eo := Rho → Pot → Res (Option Int × Pot)
def oNone : Eo := fun _ π => .ok (none, π)
def oSome (a : Ed) : Eo := fun ρ π => (a ρ π).bind fun x => match x.1 with
  | .int i => .ok (some i, x.2)
  | _ => .stuck
def cutD (xs : List D) (lo hi : Option Int) : List D := (xs.drop (HT.sIx xs.length 0 lo)).take (HT.sIx xs.length xs.length hi - HT.sIx xs.length 0 lo)
def fCut (d : D) (lo hi : Option Int) : Option D := match d with
  | .lst xs => some (.lst (cutD xs lo hi))
  | .tup xs => some (.tup (cutD xs lo hi))
  | _ => none
def eSl (a : Ed) (l u : Eo) : Ed := fun ρ π => (a ρ π).bind fun x => (l ρ x.2).bind fun y => (u ρ y.2).bind fun z => (ofO (fCut x.1 y.1 z.1)).bind fun w => .ok (w, z.2)
def fRev (d : D) : Option D := match d with
  | .lst xs => some (.lst xs.reverse)
  | _ => none
def tyName : D → Option String
  | .non => some "NoneType"
  | .bl _ => some "bool"
  | .int _ => some "int"
  | .str _ => some "str"
  | .lst _ => some "list"
  | .tup _ => some "tuple"
  | .dic _ _ => some "dict"
  | .ins _ _ _ => none
def isTyB (a b : String) : Bool := a == b || (a == "bool" && b == "int")
def fIs (ns : List String) (d : D) : Option D := (tyName d).map fun a => .bl (ns.any fun b => isTyB a b)
/-- of which class a value is; also a dict with tuple keys that is locked -/
def TyY (K : PySem.W.Frag) (H : Hp) (x : V) (t : Value) : Prop := TyX K H x t ∨ ∃ a o kvs, x = .ref a ∧ H a = some (.frz o (.dT kvs)) ∧ t = .type "dict"
theorem kitY_of {X : Cx} {pins : List (Addr × Obj)} {σ : L2.St} {H : Hp} {s : Shared} {x : V} {u t : Value} (I : L2.Inv X pins σ H s) (rx : L2.RelV x u) (h : TyY X.K H x t) :
    ∃ P, PySem.W.KitX X.K u t P ∧ P s.heap ∧ u ≠ Value.builtin "__main__.__loader__#opaque" := by
  rcases h with h | ⟨a, o, kvs, rfl, h, rfl⟩
  · exact kit_of I rx h
  · have k := I.hok a _ h
    unfold L2.ObjOk at k
    obtain ⟨k1, k2⟩ := k
    unfold L2.ObjOk at k2
    obtain ⟨_, _, _, _, o', es, ep, k3, k4, _⟩ := k2
    obtain rfl : u = Value.ref a := rx
    exact ⟨_, PySem.W.kitx_dict, ⟨o', k3, k4.1⟩, by intro e; cases e⟩
def rIsiY (K : PySem.W.Frag) : List V → Hp → VK → Prop := fun xs H Q => ∃ x c t u b, xs = [x, c] ∧ ClsV c u ∧ TyY K H x t ∧ PySem.W.kitOne K t u = some b ∧ Q (.bl b) H
def rIsiTY (K : PySem.W.Frag) : List V → Hp → VK → Prop := fun xs H Q => ∃ x tp cs t us b, xs = [x, .ref tp] ∧ H tp = some (.tup cs) ∧ Paired ClsV cs us ∧ TyY K H x t ∧ PySem.W.kitAny K t us = some b ∧ Q (.bl b) H
theorem call_isiY {X : Cx} : CallR X (.builtin "isinstance") (rIsiY X.K) := fun pins s σ H xs us Q I rl h => by
  obtain ⟨x, c, t, u, b, rfl, hc, ht, hk, q⟩ := h
  cases rl with
  | cons r1 rl => cases rl with
    | cons r2 rl =>
      cases rl
      rw [hc.eq r2]
      obtain ⟨P, Z, p, hn⟩ := kitY_of I r1 ht
      exact PySem.W.kia_one Z I.kIn p hk hn fun tk => ⟨.bl b, H, I.tok tk, rfl, q⟩
theorem call_isiTY {X : Cx} : CallR X (.builtin "isinstance") (rIsiTY X.K) := fun pins s σ H xs us Q I rl h => by
  obtain ⟨x, tp, cs, t, ws, b, rfl, htp, hc, ht, hk, q⟩ := h
  cases rl with
  | cons r1 rl => cases rl with
    | cons r2 rl =>
      cases rl
      obtain ⟨P, Z, p, hn⟩ := kitY_of I r1 ht
      have k := I.hok tp _ htp
      unfold L2.ObjOk at k
      obtain ⟨_, its, kv, o, k1, k2, n, k3⟩ := k
      obtain rfl : _ = Value.ref tp := r2
      obtain ⟨oc, od, dt, sl⟩ := o
      dsimp only at k2 k3
      subst k2
      subst k3
      rw [ClsV.all hc kv] at k1
      exact PySem.W.kia_tup Z I.kIn p k1 hk hn fun tk => ⟨.bl b, H, I.tok tk, rfl, q⟩
theorem rb_ty {mg : Str → Option Value} {K : PySem.W.Frag} {pot : Option Addr} {M : List Addr} {H : Hp} {x : V} {d : D} {n : String} (h : Rb mg K pot M H x d) (e : tyName d = some n) : TyY K H x (.type n) := by
  have h := rb_rp h
  cases h with
  | non => cases e; exact .inl (.base .non)
  | bl b => cases e; exact .inl (.base (.bl _))
  | int i => cases e; exact .inl (.base (.int _))
  | str z => cases e; exact .inl (.base (.str _))
  | lst h1 h2 => cases e; exact .inl (.base (.lst h1))
  | tup h1 h2 => cases e; exact .inl (.base (.tup h1))
  | dicK h1 h2 =>
    cases e
    rcases h1 with h1 | ⟨o, h1⟩
    · exact .inl (.base (.dK h1))
    · exact .inl (.fDict h1)
  | dicT h1 h2 =>
    cases e
    rcases h1 with h1 | ⟨o, h1⟩
    · exact .inl (.base (.dT h1))
    · exact .inr ⟨_, _, _, rfl, h1, rfl⟩
  | ins => cases e
def tyNames : List String := ["NoneType", "bool", "int", "str", "list", "tuple", "dict"]
theorem tyName_mem {d : D} {n : String} (e : tyName d = some n) : n ∈ tyNames := by
  cases d <;> cases e <;> simp [tyNames]
def tyOkB (b : String) : Bool := tyNames.all fun a => kitB a b == some (isTyB a b)
theorem kit_name {K : PySem.W.Frag} {d : D} {n b : String} (e : tyName d = some n) (h : tyOkB b = true) : PySem.W.kitOne K (.type n) (.type b) = some (isTyB n b) := by
  have := List.all_eq_true.mp h n (tyName_mem e)
  exact kit_ty (by simpa using this)
theorem kit_names {K : PySem.W.Frag} {d : D} {n : String} (e : tyName d = some n) : ∀ {bs : List String}, bs.all tyOkB = true → PySem.W.kitAny K (.type n) (bs.map Value.type) = some (bs.any fun b => isTyB n b)
  | [], _ => kitAny_nil
  | b :: bs, h => by
    have h' : tyOkB b = true ∧ bs.all tyOkB = true := by simpa using h
    refine kitAny_cons (kit_name e h'.1) (fun e1 => ?_) fun e1 => ?_
    · rw [kit_names e h'.2]
      simp [e1]
    · simp [e1]
theorem cls_all : ∀ bs : List String, Paired ClsV (bs.map V.ty) (bs.map Value.type)
  | [] => .nil
  | b :: bs => .cons (.ty b) (cls_all bs)
/-- isinstance(e, T) -/
theorem de_isi {x : Str} {T : String} {px : Pos} (hm : X.mg "isinstance" = none) (hmT : X.mg x = none) (ha : DE X E ra Γ a ta fa) (hg : Gl X "isinstance" := by rfl) (hgT : Gl X x := by rfl) (hvT : bootBuiltins x = some (.type T) := by decide +kernel) (hT : tyOkB T = true := by decide +kernel)
    (hn : x ≠ "__name__" := by decide) (hdb : (x == ("__debug__" : Str)) = false := by decide) (hs : starEach [a, .Name x px] X.env = (false, eval a X.env) :: starEach [.Name x px] X.env := by rfl) (hs2 : starEach [.Name x px] X.env = (false, eval (.Name x px) X.env) :: starEach [] X.env := by rfl)
    (hpl : (backTo pos (starEach [.Name x px] X.env)).any (·.1) = false := by rfl) :
    DE X E .f Γ (.Call (.Name "isinstance" p) [a, .Name x px] [] pos) (tCB (rIsiY X.K) (tCons ta (tCons (tC (.ty T)) tNil))) (eUn (fIs [T]) fa) :=
  ⟨pe_callB call_isiY hg hm (by decide +kernel) (pa_cons ha.pe (pa_cons (pe_bltn hgT hmT hvT rfl hn hdb) pa_nil hs2) hs) (by decide) (by decide) hs hpl, fun pot M σ H ρ π I p Q h => by
    refine Post.seq (r' := ra) (te := ta σ H) h p (fun Q' hq => ha.sem pot M σ H ρ π I p Q' hq) fun d π1 v H1 _ g1 p1 r1 h1 => ?_
    cases et : tyName d with
    | none =>
      simp only [fIs, et, Option.map_none, ofO_none, Res.bind_stuck] at h1
      exact h1.elim
    | some n =>
      simp only [fIs, et, Option.map_some, ofO_some, Res.bind_ok] at h1
      refine ⟨v, .ty T, .type n, .type T, isTyB n T, rfl, .ty T, rb_ty r1.toB et, kit_name et hT, ?_⟩
      have e1 : ([T].any fun b => isTyB n b) = isTyB n T := by simp
      rw [e1] at h1
      exact h1 _ H1 .refl p1 (.bl _)⟩
/-- isinstance(e, (T, U)) -/
theorem de_isi2 {x y : Str} {T U : String} {px py pt : Pos} {j : Nat} (hm : X.mg "isinstance" = none) (hmT : X.mg x = none) (hmU : X.mg y = none) (ha : DE X E ra Γ a ta fa) (hg : Gl X "isinstance" := by rfl) (hgT : Gl X x := by rfl) (hgU : Gl X y := by rfl) (hvT : bootBuiltins x = some (.type T) := by decide +kernel) (hvU : bootBuiltins y = some (.type U) := by decide +kernel) (hT : [T, U].all tyOkB = true := by decide +kernel)
    (hn : x ≠ "__name__" := by decide) (hdb : (x == ("__debug__" : Str)) = false := by decide) (hnU : y ≠ "__name__" := by decide) (hdbU : (y == ("__debug__" : Str)) = false := by decide)
    (hs : starEach [a, .Tuple [.Name x px, .Name y py] j pt] X.env = (false, eval a X.env) :: starEach [.Tuple [.Name x px, .Name y py] j pt] X.env := by rfl) (hs2 : starEach [.Tuple [.Name x px, .Name y py] j pt] X.env = (false, eval (.Tuple [.Name x px, .Name y py] j pt) X.env) :: starEach [] X.env := by rfl)
    (hs3 : starEach [.Name x px, .Name y py] X.env = (false, eval (.Name x px) X.env) :: starEach [.Name y py] X.env := by rfl) (hs4 : starEach [.Name y py] X.env = (false, eval (.Name y py) X.env) :: starEach [] X.env := by rfl)
    (hpl : (backTo pos (starEach [.Tuple [.Name x px, .Name y py] j pt] X.env)).any (·.1) = false := by rfl) :
    DE X E .f Γ (.Call (.Name "isinstance" p) [a, .Tuple [.Name x px, .Name y py] j pt] [] pos) (tCB (rIsiTY X.K) (tCons ta (tCons (tTup (tCons (tC (.ty T)) (tCons (tC (.ty U)) tNil))) tNil))) (eUn (fIs [T, U]) fa) :=
  ⟨pe_callB call_isiTY hg hm (by decide +kernel) (pa_cons ha.pe (pa_cons (pe_tup (pa_cons (pe_bltn hgT hmT hvT rfl hn hdb) (pa_cons (pe_bltn hgU hmU hvU rfl hnU hdbU) pa_nil hs4) hs3)) pa_nil hs2) hs) (by decide) (by decide) hs hpl, fun pot M σ H ρ π I p Q h => by
    refine Post.seq (r' := ra) (te := ta σ H) h p (fun Q' hq => ha.sem pot M σ H ρ π I p Q' hq) fun d π1 v H1 _ g1 p1 r1 h1 => ?_
    cases et : tyName d with
    | none =>
      simp only [fIs, et, Option.map_none, ofO_none, Res.bind_stuck] at h1
      exact h1.elim
    | some n =>
      simp only [fIs, et, Option.map_some, ofO_some, Res.bind_ok] at h1
      refine ⟨by show 2 ≤ sizeLine; rw [sizeLine_eq]; omega, fun l hn => ?_⟩
      refine ⟨v, l, [T, U].map V.ty, .type n, [T, U].map Value.type, _, rfl, upd_same, cls_all _, ?_, kit_names et hT, h1 _ _ (.new hn) (p1.new hn) (.bl _)⟩
      exact rb_ty (r1.toB.grow I.pm (.new hn)) et⟩
end
end DL
set_option maxHeartbeats 2000000
namespace DL
open PySem PySem.Spec PyProof.Rows L2
def showD (d : D) : Option Str := match toPy d with
  | some p => if PyData.showable p && !PyData.hasDict p && decide (PyData.depth p ≤ 60) && decide (p.shown.length ≤ sizeLine) then some p.shown else none
  | none => none
section
variable {X : Cx} {E : XK} {k : Nat}
def fStr : List D → Option D
  | [.lst xs] => (showD (.lst xs)).map .str
  | [.tup xs] => (showD (.tup xs)).map .str
  | _ => none
end
def keyOf : D → Option Key
  | .int i => some (.inl i)
  | .str x => some (.inr x)
  | _ => none
def pairsOf : List D → Option (List (Key × D))
  | [] => some []
  | .tup [a, b] :: r => match keyOf a, pairsOf r with
    | some k, some ps => some ((k, b) :: ps)
    | _, _ => none
  | _ :: _ => none
def putD (kvs : List (Key × D)) (k : Key) (v : D) : List (Key × D) :=
  if (kvs.any fun kv => decide (kv.1 = k)) = true then kvs.map (fun kv => if kv.1 = k then (kv.1, v) else kv) else kvs ++ [(k, v)]
def mergeD (kvs more : List (Key × D)) : List (Key × D) := more.foldl (fun acc kv => putD acc kv.1 kv.2) kvs
def dicOf (ps : List (Key × D)) : D := .dic (ps.map fun p => .inl p.1) (ps.map (·.2))
def fDict : List D → Option D
  | [.lst xs] => (pairsOf xs).bind fun ps => if mergeD [] ps = [] then none else some (dicOf (mergeD [] ps))
  | _ => none
section
variable {X : Cx} {E : XK} {Γ : List Md} {r ra rb rc : Rm} {e a b c : Expr} {ta tb te : TE} {fa fb fe : Ed} {pos p p2 : Pos} {k kk : Nat} {es : List Expr} {ks : List Ak} {tA : TA} {fA : Ea}
def rgOk (a b : Int) : Bool := decide (-(2 ^ 62) ≤ a ∧ a < 2 ^ 62 ∧ -(2 ^ 62) ≤ b ∧ b < 2 ^ 62 ∧ (b - a).toNat ≤ 2 ^ 24)
def rgD (a b : Int) : List D := (List.range (b - a).toNat).map fun (i : Nat) => .int (a + (i : Int))
theorem rg_r {mg : Str → Option Value} {K : PySem.W.Frag} {H : Hp} (a b : Int) : RpL mg K H (rgV a b) (rgD a b) := by
  have e1 : rgV a b = ((List.range (b - a).toNat).map fun (i : Nat) => a + (i : Int)).map V.int := by
    unfold rgV
    rw [List.map_map]
    rfl
  have e2 : rgD a b = DL.iz ((List.range (b - a).toNat).map fun (i : Nat) => a + (i : Int)) := by
    unfold rgD DL.iz
    rw [List.map_map]
    rfl
  rw [e1, e2]
  exact RpL.of_ints _
def fRg2 (d e : D) : Option D := match d, e with
  | .int i, .int j => if rgOk i j then some (.lst (rgD i j)) else none
  | _, _ => none
theorem rgOk_of {a b : Int} (h : rgOk a b = true) : RgOk a b := by
  unfold rgOk at h
  exact (decide_eq_true_iff.mp h : _ ∧ _)
theorem de_listRg2 {pr : Pos} (x : XOk X E k) (hm : X.mg "list" = none) (hm2 : X.mg "range" = none) (ha : DE X E .f Γ a ta fa) (hb : DE X E .f Γ b tb fb) (hg : Gl X "list" := by rfl) (hg2 : Gl X "range" := by rfl) (n1 : starEach [a, b] X.env = (false, eval a X.env) :: starEach [b] X.env := by rfl)
    (n3 : starEach [b] X.env = (false, eval b X.env) :: starEach [] X.env := by rfl) (n4 : (backTo p2 (starEach [b] X.env)).any (·.1) = false := by rfl)
    (n2 : starEach [.Call (.Name "range" pr) [a, b] [] p2] X.env = (false, eval (.Call (.Name "range" pr) [a, b] [] p2) X.env) :: starEach [] X.env := by rfl) :
    DE X E .o Γ (.Call (.Name "list" p) [.Call (.Name "range" pr) [a, b] [] p2] [] pos) (tLstRg (tRg2 ta tb)) (eBin fRg2 fa fb) :=
  ⟨pe_listRg x.calm hg hm (prg_2 hg2 hm2 ha.pe hb.pe n1 n3 n4) n2, fun pot M σ H ρ π I p Q h => by
    refine Post.seq (r' := .f) (te := ta σ H) h p (fun Q' hq => ha.sem pot M σ H ρ π I p Q' hq) fun d π1 v H1 _ g1 p1 r1 h1 => ?_
    refine Post.seq (r' := .f) (te := tb σ H1) h1 p1 (fun Q' hq => hb.sem pot M σ H1 ρ π1 (I.grow g1 p1) p1 Q' hq) fun d2 π2 v2 H2 _ g2 p2 r2 h2 => ?_
    cases d with
    | int i =>
      cases d2 with
      | int j =>
        simp only [fRg2] at h2
        split at h2
        · rename_i hj
          exact ⟨i, j, rb_int (RpR.toB (r := .f) r1), rb_int (RpR.toB (r := .f) r2), rgOk_of hj, fun l hn => h2 _ _ (.new hn) (p2.new hn) (new_lst p2.has hn (rg_r _ _))⟩
        · exact h2.elim
      | _ => exact h2.elim
    | _ => exact h2.elim⟩
def eSix (i : Nat) (fb : Ed) : Ed := fun ρ π => (fb ρ π).bind fun y => match ρ[i]? with
  | some (some d) => (ofO (opIx d y.1)).bind fun z => .ok (z, y.2)
  | _ => .stuck
theorem atI_map {α β : Type} (f : α → β) (xs : List α) (i : Int) : L2.atI (xs.map f) i = (L2.atI xs i).map f := by
  unfold L2.atI
  rw [List.length_map]
  cases ixN xs.length i <;> simp
theorem de_six (i : Nat) {x : Str} {px : Pos} (hb : DE X E .f Γ b tb fb) (hN : X.N[i]? = some x := by rfl) (hv : Vis X.env.scope x := by first | exact Or.inl rfl | exact Or.inr (Or.inl rfl) | exact Or.inr (Or.inr rfl)) (hΓ : Γ[i]? = some .s := by rfl)
    (hd : (x == ("__debug__" : Str)) = false := by decide) (hcd : (x == ("__classdict__" : Str)) = false := by decide) (hs : PlainIx b := by intro _ _; rfl) :
    DE X E .f Γ (.Subscript (.Name x px) b pos) (tOp (rIx X.K) (tVar i) tb) (eBin opIx (eVar i) fb) :=
  ⟨pe_ix ix_seq (pe_var hN hv hd hcd) hb.pe hs, fun pot M σ H ρ π I p Q h => by
    unfold eBin eVar at h
    split at h
    · rename_i d er
      obtain ⟨c, ns, e1, rfl, hq⟩ := I.s i d hΓ er
      refine ⟨_, e1, ?_⟩
      simp only [Res.bind_ok] at h
      refine Post.seq (r' := .f) (te := tb σ H) h p (fun Q' hq => hb.sem pot M σ H ρ π I p Q' hq) fun d π1 v H1 _ g1 p1 r1 h1 => ?_
      cases d with
      | int j =>
        cases ez : L2.atI ns j with
        | none =>
          simp only [opIx, DL.iz, atI_map, ez, Option.map_none, ofO_none, Res.bind_stuck] at h1
          exact h1.elim
        | some n =>
          simp only [opIx, DL.iz, atI_map, ez, Option.map_some, ofO_some, Res.bind_ok] at h1
          exact .inl ⟨c, _, j, .int n, rfl, rb_int (RpR.toB (r := .f) r1), sqL_mono less_le (sqL_mono (less_grow I.pm g1) hq), by rw [atI_map, ez]; rfl, h1 _ H1 .refl p1 (.int _)⟩
      | _ => exact h1.elim
    · exact h.elim⟩
theorem de_pot0 (i : Nat) {x : Str} {px pc : Pos} {j : Nat} (hN : X.N[i]? = some x := by rfl) (hv : Vis X.env.scope x := by first | exact Or.inl rfl | exact Or.inr (Or.inl rfl) | exact Or.inr (Or.inr rfl)) (hΓ : Γ[i]? = some .p := by rfl)
    (hd : (x == ("__debug__" : Str)) = false := by decide) (hcd : (x == ("__classdict__" : Str)) = false := by decide) :
    DE X E .f Γ (.Subscript (.Name x px) (.Constant (.int 0) j pc) pos) (tOp (rIx X.K) (tVar i) (tC (.int 0))) ePot0 :=
  ⟨pe_ix ix_seq (pe_var hN hv hd hcd) pe_int (by intro _ _; rfl), fun pot M σ H ρ π I p Q h => by
    obtain ⟨c, e, e1⟩ := I.p i hΓ
    exact ⟨_, e1, .inl ⟨c, _, 0, .int π.1, rfl, rfl, .inl (.inl (p c e)), rfl, h _ H .refl p (.int _)⟩⟩⟩
theorem de_pot1 (i : Nat) {x : Str} {px pc : Pos} {j : Nat} (hN : X.N[i]? = some x := by rfl) (hv : Vis X.env.scope x := by first | exact Or.inl rfl | exact Or.inr (Or.inl rfl) | exact Or.inr (Or.inr rfl)) (hΓ : Γ[i]? = some .p := by rfl)
    (hd : (x == ("__debug__" : Str)) = false := by decide) (hcd : (x == ("__classdict__" : Str)) = false := by decide) :
    DE X E .f Γ (.Subscript (.Name x px) (.Constant (.int 1) j pc) pos) (tOp (rIx X.K) (tVar i) (tC (.int 1))) ePot1 :=
  ⟨pe_ix ix_seq (pe_var hN hv hd hcd) pe_int (by intro _ _; rfl), fun pot M σ H ρ π I p Q h => by
    obtain ⟨c, e, e1⟩ := I.p i hΓ
    exact ⟨_, e1, .inl ⟨c, _, 1, .int π.2, rfl, rfl, .inl (.inl (p c e)), rfl, h _ H .refl p (.int _)⟩⟩⟩
theorem ds_pot1 (i : Nat) {Γl : List Md} {x : Str} {px pc : Pos} {j : Nat} (he : DE X E .f Γ e te fe) (hN : X.N[i]? = some x := by rfl) (hv : Vis X.env.scope x := by first | exact Or.inl rfl | exact Or.inr (Or.inl rfl) | exact Or.inr (Or.inr rfl)) (hΓ : Γ[i]? = some .p := by rfl)
    (hd : (x == ("__debug__" : Str)) = false := by decide) (hcd : (x == ("__classdict__" : Str)) = false := by decide)
    (ha : ∀ v, assign (.Subscript (.Name x px) (.Constant (.int 1) j pc) p2) X.env v = (do let ov ← holding [v] (eval (.Name x px) X.env); let iv ← holding [v, ov] (eval (.Constant (.int 1) j pc) X.env); standAt p2; holding [v, ov, iv] (setItem ov iv v); release [v, ov, iv] []) := by intro _; rfl)
    (h1 : swapsWithSole [.Subscript (.Name x px) (.Constant (.int 1) j pc) p2] e pos.line X.env = pure false := by rfl) (h2 : swappedStores [.Subscript (.Name x px) (.Constant (.int 1) j pc) p2] e X.env = pure none := by rfl)
    (h3 : (assignEach [.Subscript (.Name x px) (.Constant (.int 1) j pc) p2] X.env).map (·.2) = [assign (.Subscript (.Name x px) (.Constant (.int 1) j pc) p2) X.env] := by rfl) :
    DS X E r Γl Γ Γ (.Assign [.Subscript (.Name x px) (.Constant (.int 1) j pc) p2] e pos) (tAsg te (gSub (tVar i) (tC (.int 1)) rSetL)) (sPot1 fe) :=
  ⟨ps_asg he.pe (pg_sub (pe_var hN hv hd hcd) pe_int set_list ha) h1 h2 h3, fun pot M0 H0 B M σ H ρ π D' S p h => by
    refine PostS.seq (r' := .f) (te := te σ H) h S (fun Q' hq => he.sem pot M σ H ρ π S.env p Q' hq) fun d π1 v H1 _ g1 p1 q1 h1 => ?_
    have S1 := S.grow g1 p1
    cases d with
    | int n =>
      cases rb_int (RpR.toB (r := .f) q1)
      obtain ⟨c, e, e1⟩ := S1.env.p i hΓ
      exact ⟨_, e1, c, _, 1, 1, rfl, rfl, p1 c e, rfl, h1 M σ _ (S1.potset e π1.1 n) fun a ea => by rw [e] at ea; cases ea; exact upd_same⟩
    | _ => exact h1.elim⟩
/-- pot[0], d = divmod(pot[0], n) -/
theorem ds_potdm (i j : Nat) {Γl : List Md} {x y : Str} {px pc py pt pd qx qc q2 qpos : Pos} {u u2 kt : Nat} (o : XOk X E k) (hm : X.mg "divmod" = none) (he : DE X E .f Γ e te fe) (hΓ : Γ[i]? = some .p := by rfl) (hΓ2 : Γ[j]? = some .f := by rfl) (hN : X.N[i]? = some x := by rfl) (hN2 : X.N[j]? = some y := by rfl) (hv : Vis X.env.scope x := by first | exact Or.inl rfl | exact Or.inr (Or.inl rfl) | exact Or.inr (Or.inr rfl))
    (hy : Loc X.env.scope y := by first | exact Or.inl rfl | exact Or.inr rfl) (hf : X.fn y = true ∨ X.env.scope.names.lookup y = some .local := by first | exact .inl rfl | exact .inr rfl)
    (hd : (x == ("__debug__" : Str)) = false := by decide) (hcd : (x == ("__classdict__" : Str)) = false := by decide) (hg : Gl X "divmod" := by rfl)
    (ha : ∀ v, assign (.Subscript (.Name x px) (.Constant (.int 0) u pc) p2) X.env v = (do let ov ← holding [v] (eval (.Name x px) X.env); let iv ← holding [v, ov] (eval (.Constant (.int 0) u pc) X.env); standAt p2; holding [v, ov, iv] (setItem ov iv v); release [v, ov, iv] []) := by intro _; rfl)
    (s1 : starEach [.Subscript (.Name x qx) (.Constant (.int 0) u2 qc) q2, e] X.env = (false, eval (.Subscript (.Name x qx) (.Constant (.int 0) u2 qc) q2) X.env) :: starEach [e] X.env := by rfl) (s2 : starEach [e] X.env = (false, eval e X.env) :: starEach [] X.env := by rfl) (hpl : (backTo qpos (starEach [e] X.env)).any (·.1) = false := by rfl)
    (m1 : (assignEach [.Subscript (.Name x px) (.Constant (.int 0) u pc) p2, .Name y py] X.env).map (·.2) = assign (.Subscript (.Name x px) (.Constant (.int 0) u pc) p2) X.env :: (assignEach [.Name y py] X.env).map (·.2) := by rfl) (m2 : (assignEach [.Name y py] X.env).map (·.2) = assign (.Name y py) X.env :: (assignEach [] X.env).map (·.2) := by rfl)
    (m3 : (assignEach [.Subscript (.Name x px) (.Constant (.int 0) u pc) p2, .Name y py] X.env).length = 2 := by rfl) (m4 : (assignEach [.Subscript (.Name x px) (.Constant (.int 0) u pc) p2, .Name y py] X.env).findIdx? (·.1) = none := by rfl)
    (h1 : swapsWithSole [.Tuple [.Subscript (.Name x px) (.Constant (.int 0) u pc) p2, .Name y py] kt pt] (.Call (.Name "divmod" pd) [.Subscript (.Name x qx) (.Constant (.int 0) u2 qc) q2, e] [] qpos) pos.line X.env = pure false := by rfl)
    (h2 : swappedStores [.Tuple [.Subscript (.Name x px) (.Constant (.int 0) u pc) p2, .Name y py] kt pt] (.Call (.Name "divmod" pd) [.Subscript (.Name x qx) (.Constant (.int 0) u2 qc) q2, e] [] qpos) X.env = pure none := by rfl)
    (h3 : (assignEach [.Tuple [.Subscript (.Name x px) (.Constant (.int 0) u pc) p2, .Name y py] kt pt] X.env).map (·.2) = [assign (.Tuple [.Subscript (.Name x px) (.Constant (.int 0) u pc) p2, .Name y py] kt pt) X.env] := by rfl) :
    DS X E r Γl Γ Γ (.Assign [.Tuple [.Subscript (.Name x px) (.Constant (.int 0) u pc) p2, .Name y py] kt pt] (.Call (.Name "divmod" pd) [.Subscript (.Name x qx) (.Constant (.int 0) u2 qc) q2, e] [] qpos) pos)
      (tAsg (tCB (fun xs H Q => ∃ i j, xs = [.int i, .int j] ∧ CDivP i j ∧ ∀ p, H p = none → Q (.ref p) (upd H p (.tup [.int (i / j), .int (i % j)]))) (tCons (tOp (rIx X.K) (tVar i) (tC (.int 0))) (tCons te tNil))) (gTup X.K 2 (gCons (gSub (tVar i) (tC (.int 0)) rSetL) (gCons (gName j) gNil)))) (sPotDm j fe) :=
  ⟨ps_asg (pe_callB call_divmodW hg hm (by decide +kernel) (pa_cons (pe_ix ix_seq (pe_var hN hv hd hcd) pe_int (by intro _ _; rfl)) (pa_cons he.pe pa_nil s2) s1) (by decide) (by decide) s1 hpl) (pg_tup o.calm (pgs_cons (pg_sub (pe_var hN hv hd hcd) pe_int set_list ha) (pgs_cons (pg_name o.nd hN2 hy hf) pgs_nil m2) m1) m3 m4) h1 h2 h3, fun pot M0 H0 B M σ H ρ π D' S p h => by
    obtain ⟨c, e, e1⟩ := S.env.p i hΓ
    refine ⟨_, e1, .inl ⟨c, _, 0, .int π.1, rfl, rfl, .inl (.inl (p c e)), rfl, ?_⟩⟩
    refine PostS.seq (r' := .f) (te := te σ H) h S (fun Q' hq => he.sem pot M σ H ρ π S.env p Q' hq) fun d π1 v H1 _ g1 p1 q1 h1 => ?_
    have S1 := S.grow g1 p1
    cases d with
    | int n =>
      cases rb_int (RpR.toB (r := .f) q1)
      simp only at h1
      split at h1
      · rename_i hdv
        unfold divOk at hdv
        simp only [Bool.and_eq_true, decide_eq_true_eq, Bool.not_eq_true'] at hdv
        refine ⟨π.1, n, rfl, hdv, fun T hT => ?_⟩
        have S2 := S1.grow (.new (o := .tup [.int (π.1 / n), .int (π.1 % n)]) hT) (p1.new hT)
        have hc : upd H1 T (.tup [.int (π.1 / n), .int (π.1 % n)]) c = some (.lst [.int π1.1, .int π1.2]) := p1.new hT c e
        refine ⟨T, _, rfl, .inl (.inl upd_same), rfl, .int (π.1 / n), [.int (π.1 % n)], rfl, .ref c, e1, c, _, 0, 0, rfl, rfl, hc, rfl, .int (π.1 % n), [], rfl, rfl, ?_⟩
        have S3 := (S2.potset e (π.1 / n) π1.2).put (r := .f) (i := j) (v := .int (π.1 % n)) (d := .int (π.1 % n)) (List.getElem?_eq_some_iff.mp hΓ2).1 (.int _)
        rw [set_same (show Γ[j]? = some Rm.f.md from hΓ2)] at S3
        exact h1 M _ _ S3 fun a ea => by
          rw [e] at ea
          cases ea
          exact upd_same
      · exact h1.elim
    | _ => exact h1.elim⟩
def eGoPot (m : Fd) (a : Ed) : Ed := fun ρ π => (a ρ π).bind fun x => match x.1 with
  | .lst [.int u, .int v] => (safe (m [.non] (u, v))).bind fun y => .ok (y.1, x.2)
  | _ => .stuck
theorem de_callPot {j : Nat} {x : Str} {st : Stmt} {ps : List Str} {m : Fd} (F : DFn X.prog X.w X.K X.mg X.base j x st ps [.p] .f m) (o : XOk X E k)
    (hb : ∀ (kV doc pm : Value) (an : Option Addr) (cdv ct : Value) (us : List Value), us.length = ps.length → bindArgs (PySem.W.fnOf x x (defArgs st) (defBody st) (defScope st) .none kV doc pm an cdv ct) ⟨us, []⟩ = pure (ps.zip us))
    (ha : DE X E .o Γ e te fe) (hj : j ≤ k := by decide) (hg : Gl X x := by rfl) (hdb : (x == ("__debug__" : Str)) = false := by decide) (he : starEach [e] X.env = (false, eval e X.env) :: starEach [] X.env := by rfl) (hpl : (backTo pos (starEach [] X.env)).any (·.1) = false := by rfl) :
    DE X E .f Γ (.Call (.Name x p) [e] [] pos) (tGo X.mg X.K [.p] .f m E (tCons te tNil)) (eGoPot m fe) :=
  ⟨⟨fun pins s σ H Q I h => by
    obtain ⟨f, fd, h1, h2, h3⟩ := F.ex
    refine wpAny_Call_Name_kw (ld_glob I hg h1 ?_ hdb)
    refine PySem.W.callWith_K (h₀ := X.base) I.ok.mod.kin h2.kp (thn ((pa_cons ha.pe pa_nil he).run pos pins s σ H _ I h) fun us s1 ⟨vs, H1, I1, rl, q⟩ => ⟨I1.kIn, ?_⟩) he hpl
    have hl : us.length = ps.length := by
      rw [← rl.length]
      exact h3.len _ _ _ _ q
    have bd : BindsTo s1 fd ⟨us, ([] : List Str).zip ([] : List Value)⟩ (ps.zip (us ++ [])) := by
      obtain ⟨oc, od, kV, doc, pm, an, cdv, ct, osl, rfl, lk, hcd⟩ := h2.ex
      rw [List.append_nil]
      exact .of_eq (hb kV doc pm an cdv ct us hl)
    exact run_go (args := ⟨us, []⟩) (kn := []) (ws := []) h3 o hj bd I1 (by rw [List.append_nil]; exact rl) q⟩, fun pot M σ H ρ π I p Q h => by
    refine ha.sem pot M σ H ρ π I p _ ?_
    unfold eGoPot at h
    cases ef : fe ρ π with
    | err c ns xs π1 =>
      rw [ef] at h
      exact h
    | stuck =>
      rw [ef] at h
      exact h
    | ok y =>
      obtain ⟨d, π1⟩ := y
      rw [ef] at h
      simp only [Res.bind_ok] at h
      split at h
      · rename_i u v
        intro w H1 g1 p1 r1
        obtain ⟨q, rfl, hq, nq, oo, hx, rx⟩ := r1
        cases rx with
        | lst rx =>
        rename_i xs
        have ex : xs = [.int u, .int v] := RpL.iz (ns := [u, v]) rx
        subst ex
        have I1 := I.grow g1 p1
        refine ⟨rfl, some q, q :: M, [.non], (u, v), .cons ⟨q, rfl, rfl⟩ .nil, fun a ha => ?_, fun a ea => ?_, fun a ea => ?_, ?_⟩
        · rcases List.mem_cons.mp ha with z | z
          · rw [z]
            exact .of hx fun _ e => by cases e
          · exact I1.al a z
        · cases ea
          exact List.mem_cons_self ..
        · cases ea
          exact hx
        · cases em : m [.non] (u, v) with
          | err c ns xs π' =>
            rw [em] at h
            exact h.elim
          | stuck =>
            rw [em] at h
            exact h.elim
          | ok z =>
            obtain ⟨z, π2⟩ := z
            rw [em] at h
            simp only [safe_ok, Res.bind_ok] at h
            intro b H2 g2 p2 r2
            have ne : ∀ a o, H a = some o → (some q : Option Addr) ≠ some a := fun a o ho e => by
              cases e
              rw [hq] at ho
              cases ho
            refine h b H2 (fun a o n ho => g2 a o (ne a o ho) (g1 a o n ho)) (fun a ea => ?_) (Rp.mono (less_sub fun a ha => List.mem_cons_of_mem _ ha) r2)
            exact g2 a _ (fun e => by cases e; exact nq ea) (p1 a ea)
      · exact h.elim⟩
end
end DL
set_option maxHeartbeats 2000000
namespace DL
open PySem PySem.Spec PyProof.Rows L2
theorem less_nil {H : Hp} : less H [] = H := funext fun a => by simp [less]
/-- the call of the law, from a promise that knows that no repr is running -/
theorem law_callG {P : Program} {w : World} {K : PySem.W.Frag} {mg mb : Str → Option Value} {k : Nat} {fa p : Addr} {fd : FuncData} {x : Str} {sp : Sp} {s0 : Shared} {us : List Value} {ns : List Int}
    (kin : K.In s0.heap) (nsm : s0.heap.Ns mainGlobals mg) (nsb : s0.heap.Ns builtinsNs mb) (bts : ∀ x : Str, x ≠ "__name__" → mb x = bootBuiltins x) (nolim : s0.heap.NoLimit) (gens : s0.gens = #[])
    (ob : s0.heap.get? p = some { cls := .type "list", data := .seq us.toArray }) (are : IntsAre us ns) (short : ns.length ≤ sizeLine) (room : Room k callerA)
    (F : ∀ base : Heap, K.In base → base.Ns mainGlobals mg → FnG P w K mg base k fa fd [x] sp) (bd : ∀ (s : Shared) (u : Value), BindsTo s fd ⟨[u], []⟩ [(x, u)])
    (goal : ∀ H : Hp, SqL K H p (ns.map V.int) → sp [.ref p] H (fun v _ => v = .bl true) fun _ _ _ => False) :
    codeAny (model P w) callerA (.call (.ref fa) ⟨[.ref p], []⟩) (fun r s' => r = .ok (.ret (.bool true)) ∧ PySem.OldK s0.heap s'.heap ∧ s'.os = s0.os ∧ AllBare s'.gens) s0 := by
  have rel := vals_ints are
  have llen := are.length
  have main : ∀ H : Hp, Only H → SqL K H p (ns.map V.int) → HOk P w H s0.heap → (∀ c, H c ≠ none → c = p) → (H p ≠ none → K.lookup p = none) →
      codeAny (model P w) callerA (.call (.ref fa) ⟨[.ref p], []⟩) (fun r s' => r = .ok (.ret (.bool true)) ∧ PySem.OldK s0.heap s'.heap ∧ s'.os = s0.os ∧ AllBare s'.gens) s0 := by
    intro H only seq okH at_p free_p
    have nop : ∀ {c : Addr}, c ≠ p → H c = none := fun {c} n => Classical.byContradiction fun z => n (at_p c z)
    have vis : ∀ {c : Addr} {o : Obj}, s0.heap.get? c = some o → H c = none → (hidT s0.heap H).get? c = some o := fun a b => hidT_get a b
    have dicts : ∀ {c : Addr} {o : Obj} {es : Array DictEntry} {ep : Nat}, s0.heap.get? c = some o → o.data = .dict es ep → H c = none := fun {c o es ep} e d => nop fun z => by
      rw [z, ob] at e
      cases e
      cases (show Data.seq us.toArray _ = Data.dict es ep from d)
    have names : ∀ {c : Addr} {m : Str → Option Value}, s0.heap.Ns c m → (hidT s0.heap H).Ns c m := fun {c m} h => by
      obtain ⟨o, es, ep, e, d, r⟩ := h
      exact ⟨o, es, ep, vis e (dicts e d), d, r⟩
    have kbase : K.In (hidT s0.heap H) := fun c o e => by
      refine vis (kin c o e) (Classical.byContradiction fun z => ?_)
      have ec := at_p c z
      rw [ec] at z e
      rw [free_p z] at e
      cases e
    have mo : Mod K mg (hidT s0.heap H) := ⟨kbase, names nsm, ⟨mb, names nsb, bts⟩, by obtain ⟨mc, h1, h2⟩ := nolim; exact ⟨mc, names h1, h2⟩⟩
    have env : Env0 P w K mg (hidT s0.heap H) callerA [] s0 H := ⟨rfl, mo, (fun c o e => of_hidT e), Nat.le_of_eq (hidT_size _ _), trivial, (fun c hc => by cases hc), okH, .of_eq gens⟩
    have run := (F _ kbase (names nsm)).run callerA [] s0 H ⟨[.ref p], []⟩ [.ref p] [.ref p] _ _ room rfl env (bd s0 (.ref p)) (.cons rfl .nil) (goal H seq)
    refine codeAny_mono run fun r s' h => ?_
    match r, h with
    | .error e, h =>
      obtain ⟨_, _, _, _, _, _, _, _, _, _, _, _, no⟩ := h
      exact no.elim
    | .ok .next, h => exact h.elim
    | .ok .brk, h => exact h.elim
    | .ok .cont, h => exact h.elim
    | .ok (.ret u), h =>
      obtain ⟨v, H', os, bare, un, okH', rv, q⟩ := h
      cases (show v = .bl true from q)
      cases (show u = Value.bool true from rv)
      refine ⟨rfl, OldK.of_keep fun c o e => ?_, os, bare⟩
      cases hc : H c with
      | none => exact un.keep c o e hc (by intro z; cases z) (by simp)
      | some u =>
        rcases only c with z | ⟨o', ys, z⟩
        · rw [hc] at z
          cases z
        · have w1 := (okH c _ z).1
          have w2 := (okH' c _ (un.frzs c o' _ z)).1
          rw [e] at w1
          cases w1
          exact w2
  by_cases hk : K.lookup p = none
  · have hat : ∀ c, c = p ∨ (fun c => if c = p then some (HO.frz { cls := .type "list", data := .seq us.toArray } (.lst (ns.map V.int))) else none : Hp) c = none := fun c => by
      by_cases z : c = p
      · exact .inl z
      · exact .inr (if_neg z)
    refine main (fun c => if c = p then some (.frz { cls := .type "list", data := .seq us.toArray } (.lst (ns.map V.int))) else none) (fun c => ?_) (.inl (.inr ⟨{ cls := .type "list", data := .seq us.toArray }, if_pos rfl⟩)) (fun c u z => ?_) (fun c z => (hat c).resolve_right z) fun _ => hk
    · rcases hat c with z | z
      · exact .inr ⟨_, _, if_pos z⟩
      · exact .inl z
    · rcases hat c with q | q
      · subst q
        have z' := (if_pos rfl).symm.trans z
        cases z'
        exact ⟨ob, by rw [List.length_map]; exact short, us, _, rel, ob⟩
      · rw [q] at z
        cases z
  · obtain ⟨o, ho⟩ := Option.ne_none_iff_exists'.mp hk
    have e := kin p o ho
    rw [ob] at e
    cases e
    have em : ∀ c, (fun _ => none : Hp) c = none := fun _ => rfl
    exact main (fun _ => none) (fun c => .inl rfl) (.inr ⟨_, us.toArray, _, ho, rfl, rfl, rfl, by rw [List.size_toArray, llen]; exact short, by simpa using rel⟩) (fun c u z => by rw [em c] at z; cases z) (fun c z => absurd (em c) z) fun z => absurd (em p) z
/-- THE END: what the head leaves, from what law gives of its data -/
theorem walk_D {l : PySem.W.OpenLaw} {n k : Nat} {q : Program} {loose : List Str} {XP : (Str → Option Value) → Heap → Prop} {YP : World → Heap → Prop} {d : DefRec} {K : Params → PySem.W.Frag} {x : Str} {m : Fd}
    (most : l.most = some n) (small : n ≤ sizeLine) (nodf : d.params.defaults = []) (room : Room k callerA) (hY : ∀ (w : World) (h : Heap), YP w h → (K w.params).In h)
    (good : ∀ ns : List Int, ns.length ≤ n → ∃ π, m [.lst (DL.iz ns)] (0, 0) = .ok (.bl true, π))
    (F : ∀ (w : World) (mg : Str → Option Value) (fa : Addr) (h : Heap), (K w.params).In h → h.Ns mainGlobals mg → mg d.name = some (.ref fa) →
      ∃ fd : FuncData, (∀ (s : Shared) (u : Value), BindsTo s fd ⟨[u], []⟩ [(x, u)]) ∧ ∀ base : Heap, (K w.params).In base → base.Ns mainGlobals mg → FnG l.prog w (K w.params) mg base k fa fd [x] (SpD mg (K w.params) [.s] .f m)) :
    PySem.W.WalkO q loose XP YP l.row.toRowW d [] (fun f vs => PySem.call f vs) := by
  refine Att.attach_call most nodf fun w s₀ s1 mg mb fa o pm cd doc a vs ns G Y ho hd hcd hmg hobj hints hlen hg => ?_
  have KX := hY w _ Y
  obtain ⟨fd, hb, hF⟩ := F w mg fa _ KX G.T.g hmg
  refine law_callG KX G.T.g G.T.b G.T.builtins G.T.nolimit hg hobj hints (Nat.le_trans hlen small) room hF hb fun H hS => ?_
  obtain ⟨π, hm⟩ := good ns hlen
  refine ⟨rfl, none, [], [.lst (DL.iz ns)], (0, 0), .cons ⟨a, ns, rfl, rfl, by rw [less_nil]; exact hS⟩ .nil, (fun a h => by cases h), (fun a e => by cases e), (fun a e => by cases e), ?_⟩
  rw [hm]
  exact fun v H' g p r => by
    cases r
    rfl
end DL
set_option maxHeartbeats 2000000
namespace DL
open PySem PySem.Spec PyProof.Rows L2
section
variable {X : Cx} {E : XK} {r r' ra rb rc : Rm} {Γl Γ Γ1 Γ' : List Md} {pos : Pos} {k : Nat} {e a b c : Expr} {te ta tb tc : TE} {fe fa fb fc : Ed} {st : Stmt} {sts body : List Stmt} {ts us : TS} {fs gs : Fs} {tt : TT} {ft : Et}
/-- a slot is let go -/
theorem SOk.drop {mg : Str → Option Value} {K : PySem.W.Frag} {pot : Option Addr} {M M0 : List Addr} {H H0 B : Hp} {σ : L2.St} {ρ : Rho} (S : SOk mg K Γ pot M0 H0 B M σ H ρ) (i : Nat) : SOk mg K (Γ.set i .u) pot M0 H0 B M σ H ρ := by
  have I := S.env
  have old : ∀ (j : Nat) (m : Md), m ≠ .u → (Γ.set i .u)[j]? = some m → Γ[j]? = some m := fun j m hm h => by
    rcases set_at h with ⟨_, z, _⟩ | ⟨_, z⟩
    · exact absurd z hm
    · exact z
  exact ⟨⟨by simp [I.ls], by simp [I.lr], (fun j d h1 h2 => I.f j d (old j _ (by simp) h1) h2), (fun j d h1 h2 => I.o j d (old j _ (by simp) h1) h2), (fun j h1 => I.p j (old j _ (by simp) h1)), (fun j d h1 h2 => I.s j d (old j _ (by simp) h1) h2),
    (fun j l a d e h1 h2 h3 h4 h5 h6 => I.ap j l a d e (old j _ (by simp) h1) (old l _ (by simp) h2) h3 h4 h5 h6), I.al, I.pm, fun j a dd d h1 h2 => I.x j a dd d (old j _ (by simp) h1) h2⟩, S.gr, S.sub, (fun j d a h1 h2 h3 => S.ow j d a (old j _ (by simp) h1) h2 h3), S.m0, S.bs⟩
/-- ints of any size, or a list so many times -/
def opMulA : D → D → Option D
  | .int i, .int j => if small i || small j || decide (i.natAbs.log2 + j.natAbs.log2 < 1000000) then some (.int (i * j)) else none
  | _, _ => none
def rMulA : R2 := fun x y H Q => rI CMul (fun i j => .int (i * j)) x y H Q ∨ rI CMulW (fun i j => .int (i * j)) x y H Q
theorem o_mulA : OpOk X (binaryOp .Mult) rMulA .f opMulA := ⟨op_mul.or op_mulW, fun pot M H x y d e z al pm ph rx ry hz Q q => by
  cases d <;> cases e <;> simp only [opMulA] at hz <;> try cases hz
  rename_i i j
  split at hz
  · rename_i hc
    cases hz
    rcases Bool.or_eq_true_iff.mp hc with h | h
    · refine .inl ⟨i, j, rb_int rx, rb_int ry, ?_, q _ H (Same.refl H) (.int _)⟩
      simp only [small, Bool.or_eq_true, decide_eq_true_eq] at h
      unfold CMul
      omega
    · exact .inr ⟨i, j, rb_int rx, rb_int ry, (decide_eq_true_iff.mp h : _ < _), q _ H (Same.refl H) (.int _)⟩
  · cases hz⟩
/-- a comprehension's names, decided -/
def blkB (N : List Str) (sc scope : Scope) (own : List (Str × Nat)) : Bool :=
  (match scope.kind with | .function => true | _ => false) && scope.names.all (fun y => scope.names.lookup y.1 == some y.2) && own.all (fun p => N[p.2]? == some p.1) &&
  scope.names.all (fun y => !(y.2 == .free) || (sc.names.lookup y.1 == some .cell || sc.names.lookup y.1 == some .free)) && scope.names.all (fun y => !(y.2 == .local || y.2 == .cell) || (own.any (fun p => p.1 == y.1) || !N.contains y.1))
theorem blk_of {N : List Str} {sc scope : Scope} {own : List (Str × Nat)} (h : blkB N sc scope own = true) : BlkOk N sc scope own := by
  unfold blkB at h
  simp only [Bool.and_eq_true, List.all_eq_true] at h
  obtain ⟨⟨⟨⟨h1, h2⟩, h3⟩, h4⟩, h5⟩ := h
  refine ⟨?_, fun y hy => ?_, fun p hp => ?_, fun y hy e => ?_, fun y hy e => ?_⟩
  · split at h1
    · assumption
    · cases h1
  · simpa using h2 y hy
  · simpa using h3 p hp
  · have := h4 y hy
    rw [e] at this
    simpa using this
  · have := h5 y hy
    rcases e with e | e <;> rw [e] at this <;> simp at this <;> (rcases this with ⟨n, q⟩ | q) <;> simp_all
    all_goals exact .inl ⟨_, q⟩
/-- the law's own promise, for the end -/
theorem law_end {P : Program} {w : World} {K : PySem.W.Frag} {mg : Str → Option Value} {fa : Addr} {x : Str} {st : Stmt} {ps : List Str} {ks : List Ak} {r : Rm} {m : Fd} {k : Nat} {T : Prop} (hfa : mg x = some (.ref fa)) (t : T) (hf : T → ∃ f fd, mg x = some (.ref f) ∧ Fun K x x st f fd)
    (F : T → ∀ base : Heap, DFn P w K mg base k x st ps ks r m) {y : Str} (hp : ps = [y])
    (hb : ∀ (kV doc pm : Value) (an : Option Addr) (cdv ct : Value) (s : Shared) (u : Value), BindsTo s (PySem.W.fnOf x x (defArgs st) (defBody st) (defScope st) .none kV doc pm an cdv ct) ⟨[u], []⟩ [(y, u)]) :
    ∃ fd : FuncData, (∀ (s : Shared) (u : Value), BindsTo s fd ⟨[u], []⟩ [(y, u)]) ∧ ∀ base : Heap, K.In base → base.Ns mainGlobals mg → FnG P w K mg base k fa fd [y] (SpD mg K ks r m) := by
  obtain ⟨f, fd, h1, h2⟩ := hf t
  rw [hfa] at h1
  cases h1
  refine ⟨fd, fun s u => ?_, fun base _ _ => ?_⟩
  · obtain ⟨oc, od, kV, doc, pm, an, cdv, ct, osl, rfl, lk, hcd⟩ := h2.ex
    exact hb kV doc pm an cdv ct s u
  · obtain ⟨f', fd', g1, g2, g3⟩ := (F t base).ex
    rw [hfa] at g1
    cases g1
    obtain ⟨oc, od, kV, doc, pm, an, cdv, ct, osl, rfl, lk, hcd⟩ := h2.ex
    obtain ⟨oc', od', kV', doc', pm', an', cdv', ct', osl', rfl, lk', hcd'⟩ := g2.ex
    rw [lk] at lk'
    cases lk'
    rw [← hp]
    exact g3
end
end DL
set_option maxHeartbeats 2000000
namespace DL
open PySem PySem.Spec PyProof.Rows L2
end DL
set_option maxHeartbeats 2000000
namespace DL
open PySem PySem.Spec PyProof.Rows L2
section
variable {X : Cx} {E : XK} {Γ : List Md} {pos p tpos : Pos} {k kk : Nat} {r : Rm} {e e2 e3 tg : Expr} {te : TE} {fe : Ed} {es elts : List Expr} {tA : TA} {fA : Ea} {ks : List Ak}
/-- range(i, j, -1) -/
theorem walkRc {mg : Str → Option Value} {K : PySem.W.Frag} {pot : Option Addr} {M : List Addr} {H1 : Hp} {lo c : Int} {n : Nat} : WalkD mg K false pot M H1 (Itc lo c n) (rangeD lo c n) (fun _ => True) (fun i H x H' => H' = H ∧ x = .int (lo + (i : Nat) * c)) where
  walk := by
    have e : (rangeD lo c n).length = n := by simp [rangeD]
    rw [e]
    exact ⟨fun i H hi _ => hi, fun H _ => Nat.le_refl _, fun i H x H' hi _ y => y⟩
  stay := fun _ _ _ _ => trivial
  item := fun i H x H' M' _ s al hi y => by
    obtain ⟨rfl, rfl⟩ := y
    have e : i < n := by simpa [rangeD] using hi
    exact ⟨Same.refl _, .int (lo + (i : Int) * c), by simp [rangeD, e], .int _⟩
theorem di_rangeDn (hm : X.mg "range" = none) (ha : DA X E [.f, .f, .f] Γ [e, e2, e3] tA fA) (hg : Gl X "range" := by rfl) (hs : starEach [e, e2, e3] X.env = (false, eval e X.env) :: starEach [e2, e3] X.env := by rfl) (hpl : (backTo pos (starEach [e2, e3] X.env)).any (·.1) = false := by rfl) :
    DI false X E Γ tg (.Call (.Name "range" p) [e, e2, e3] [] pos) (iRng3 tA) (iRngDown fA) :=
  ⟨pi_range3 hg hm ha.pa hs hpl, fun pot M σ H ρ π I p R h => by
    refine PostI.seqA (ks := [.f, .f, .f]) (te := tA σ H) h (fun Q' hq => ha.sem pot M σ H ρ π I p Q' hq) fun ds π1 vs H1 _ g1 p1 r1 h1 => ?_
    obtain ⟨v, d, v2, d2, v3, d3, rfl, rfl, a, b, c⟩ := args3 r1
    unfold rngDown at h1
    simp only at h1
    split at h1
    · rename_i i j l e
      cases e
      split at h1
      · rename_i hj
        simp only [Bool.and_eq_true, decide_eq_true_eq] at hj
        obtain ⟨⟨q0, q9⟩, rfl⟩ := hj
        obtain ⟨q1, q2⟩ := mid_of q0
        obtain ⟨q3, q4⟩ := mid_of q9
        refine ⟨i, j, -1, (i - j).toNat, ?_, RgC.neg q1 q2 q3 q4, h1 _ H1 _ _ .refl p1 walkRc⟩
        rw [rb_int (.inl a : Rb X.mg X.K pot M H1 v (.int i)), rb_int (.inl b : Rb X.mg X.K pot M H1 v2 (.int j)), rb_int (.inl c : Rb X.mg X.K pot M H1 v3 (.int (-1)))]
      · exact h1.elim
    · exact h1.elim⟩
end
end DL
set_option maxHeartbeats 2000000
namespace DL
open PySem PySem.Spec PyProof.Rows L2
section
variable {X : Cx} {E : XK} {Γ Γ1 Γ' : List Md} {r ra rb rc : Rm} {e a b : Expr} {ta tb te : TE} {fa fb fe : Ed} {pos p p2 apos : Pos} {k kk : Nat} {es : List Expr} {ks : List Ak} {tA : TA} {fA : Ea}
abbrev Fi := D → Rho → Pot → Res ((D × Rho) × Pot)
end
end DL
set_option maxHeartbeats 2000000
namespace DL
open PySem PySem.Spec PyProof.Rows L2
def but (H : Hp) (x : Addr) : Hp := fun a => if a = x then none else H a
section
variable (mg : Str → Option Value) (K : PySem.W.Frag)
/-- what a class's __init__ promises -/
def SpI (c : Str) (ks : List Ak) (m : Fd) : Sp := fun vs H Q E => vs.length = ks.length + 1 ∧ ∃ x C dx ws pot M ds π, vs = .ref x :: ws ∧ mg c = some (.ref C) ∧ H x = some (.ins C dx []) ∧ x ∉ M ∧ pot ≠ some x ∧
  Args mg K pot M (but H x) ks ws ds ∧ (∀ a ∈ M, Al (but H x) a) ∧ (∀ a, pot = some a → a ∈ M) ∧ PotAt pot (but H x) π ∧
  (match m ds π with
    | .ok (d, π1) => ∀ H', Grow pot (but H x) H' → PotAt pot H' π1 → Own mg K pot M H' x d → Q .non H'
    | .err c ns xs π1 => PErr mg K pot M (but H x) c ns xs π1 E
    | .stuck => False)
end
/-- a class with what its making gives -/
structure DMk (P : Program) (w : World) (K : PySem.W.Frag) (mg : Str → Option Value) (base : Heap) (k : Nat) (c qual : Str) (st : Stmt) (ps : List Str) (ks : List Ak) (m : Fd) : Prop where
  ex : ∃ C fI fd, mg c = some (.ref C) ∧ Mk K C fI ∧ Fun K "__init__" qual st fI fd ∧ FnG P w K mg base k fI fd ps (SpI mg K c ks m)
section
variable {P : Program} {w : World} {K : PySem.W.Frag} {mg : Str → Option Value} {base : Heap} {k : Nat}
theorem DMk.mono {j : Nat} {c qual : Str} {st : Stmt} {ps : List Str} {ks : List Ak} {m : Fd} (F : DMk P w K mg base j c qual st ps ks m) (h : j ≤ k) : DMk P w K mg base k c qual st ps ks m := by
  obtain ⟨C, f, fd, h0, h1, h2, h3⟩ := F.ex
  exact ⟨C, f, fd, h0, h1, h2, h3.mono h⟩
end
end DL
set_option maxHeartbeats 2000000
namespace DL
open PySem PySem.Spec PyProof.Rows L2
section
variable {P : Program} {w : World} {K : PySem.W.Frag} {mg : Str → Option Value} {base : Heap} {k : Nat} {x qual : Str} {st : Stmt} {ps N : List Str} {ks : List Ak} {r : Rm}
/-- a method of a class with what it gives -/
structure DMe (P : Program) (w : World) (K : PySem.W.Frag) (mg : Str → Option Value) (base : Heap) (k : Nat) (c x qual : Str) (st : Stmt) (ps : List Str) (ks : List Ak) (r : Rm) (m : Fd) : Prop where
  ex : ∃ C f fd, mg c = some (.ref C) ∧ Cls K C ∧ Meth K C x f ∧ Fun K x qual st f fd ∧ FnG P w K mg base k f fd ps (SpD mg K (.f :: ks) r m)
theorem DMe.mono {j : Nat} {c : Str} {m : Fd} (F : DMe P w K mg base j c x qual st ps ks r m) (h : j ≤ k) : DMe P w K mg base k c x qual st ps ks r m := by
  obtain ⟨C, f, fd, h0, h1, h2, h3, h4⟩ := F.ex
  exact ⟨C, f, fd, h0, h1, h2, h3, h4.mono h⟩
end
end DL
set_option maxHeartbeats 2000000
namespace DL
open PySem PySem.Spec PyProof.Rows L2
section
variable {X : Cx} {E : XK} {k : Nat}
def rInT (K : PySem.W.Frag) : R2 := fun x y H Q => ∃ d ds, Dp K H x d ∧ Dp K H y (.tuple ds) ∧ SeqAt.shaped d = true ∧ SeqAt.shaped (.tuple ds) = true ∧ Q (.bl (ds.any fun z => PyData.eqv z d)) H
def rNotInT (K : PySem.W.Frag) : R2 := fun x y H Q => ∃ d ds, Dp K H x d ∧ Dp K H y (.tuple ds) ∧ SeqAt.shaped d = true ∧ SeqAt.shaped (.tuple ds) = true ∧ Q (.bl (!ds.any fun z => PyData.eqv z d)) H
theorem op_inT (hu : X.A.units + 65 < cLine) : OpR X (compareOp .In) (rInT X.K) := fun pins s σ H x y v u Q I rx ry h => by
  obtain ⟨d, ds, hd, he, sd, se, q⟩ := h
  obtain ⟨as, r1⟩ := Dp.reads I d x v hd rx
  obtain ⟨bs, r2⟩ := Dp.reads I (.tuple ds) y u he ry
  exact SeqAt.in_tuple_reads r2 r1 (SeqAt.canLay_of_shaped se) (SeqAt.canLay_of_shaped sd) (room_in_shaped sd hu) ⟨.bl _, H, I, rfl, q⟩
theorem op_notInT (hu : X.A.units + 65 < cLine) : OpR X (compareOp .NotIn) (rNotInT X.K) := fun pins s σ H x y v u Q I rx ry h => by
  obtain ⟨d, ds, hd, he, sd, se, q⟩ := h
  obtain ⟨as, r1⟩ := Dp.reads I d x v hd rx
  obtain ⟨bs, r2⟩ := Dp.reads I (.tuple ds) y u he ry
  exact SeqAt.notIn_tuple_reads r2 r1 (SeqAt.canLay_of_shaped se) (SeqAt.canLay_of_shaped sd) (room_in_shaped sd hu) ⟨.bl _, H, I, rfl, q⟩
def inDT (d : D) (e : D) : Option Bool := match toPy d, toPy e with
  | some p, some (.list qs) => if SeqAt.shaped p && SeqAt.shaped (.list qs) then some (qs.any fun z => PyData.eqv z p) else none
  | some p, some (.tuple qs) => if SeqAt.shaped p && SeqAt.shaped (.tuple qs) then some (qs.any fun z => PyData.eqv z p) else none
  | _, _ => none
def opInA (d e : D) : Option D := (inDT d e).map .bl
def opNotInA (d e : D) : Option D := (inDT d e).map fun b => .bl (!b)
theorem o_inA (x : XOk X E k) : OpOk X (compareOp .In) (fun x y H Q => rInD X.K x y H Q ∨ rInT X.K x y H Q) .f opInA := ⟨(op_inD x.u65).or (op_inT x.u65), fun pot M H x y d e z al pm ph rx ry hz Q q => by
  unfold opInA inDT at hz
  split at hz
  · rename_i p qs e1 e2
    split at hz
    · rename_i hs
      cases hz
      obtain ⟨s1, s2⟩ := Bool.and_eq_true_iff.mp hs
      exact .inl ⟨p, qs, (rb_rp rx).dp e1, (rb_rp ry).dp e2, s1, s2, q _ H (Same.refl H) (.bl _)⟩
    · cases hz
  · rename_i p qs e1 e2
    split at hz
    · rename_i hs
      cases hz
      obtain ⟨s1, s2⟩ := Bool.and_eq_true_iff.mp hs
      exact .inr ⟨p, qs, (rb_rp rx).dp e1, (rb_rp ry).dp e2, s1, s2, q _ H (Same.refl H) (.bl _)⟩
    · cases hz
  · cases hz⟩
theorem o_notInA (x : XOk X E k) : OpOk X (compareOp .NotIn) (fun x y H Q => rNotInD X.K x y H Q ∨ rNotInT X.K x y H Q) .f opNotInA := ⟨(op_notInD x.u65).or (op_notInT x.u65), fun pot M H x y d e z al pm ph rx ry hz Q q => by
  unfold opNotInA inDT at hz
  split at hz
  · rename_i p qs e1 e2
    split at hz
    · rename_i hs
      cases hz
      obtain ⟨s1, s2⟩ := Bool.and_eq_true_iff.mp hs
      exact .inl ⟨p, qs, (rb_rp rx).dp e1, (rb_rp ry).dp e2, s1, s2, q _ H (Same.refl H) (.bl _)⟩
    · cases hz
  · rename_i p qs e1 e2
    split at hz
    · rename_i hs
      cases hz
      obtain ⟨s1, s2⟩ := Bool.and_eq_true_iff.mp hs
      exact .inr ⟨p, qs, (rb_rp rx).dp e1, (rb_rp ry).dp e2, s1, s2, q _ H (Same.refl H) (.bl _)⟩
    · cases hz
  · cases hz⟩
end
end DL
set_option maxHeartbeats 2000000
namespace DL
open PySem PySem.Spec PyProof.Rows L2 C8
end DL
set_option maxHeartbeats 2000000
namespace DL
open PySem PySem.Spec PyProof.Rows L2 C8
end DL
set_option maxHeartbeats 2000000
namespace DL
open PySem PySem.Spec PyProof.Rows L2 C8
open Sem (wp)
end DL
set_option maxHeartbeats 2000000
namespace DL
open PySem PySem.Spec PyProof.Rows L2
mutual
/-- no list in it -/
def noL : D → Bool
  | .lst _ => false
  | .tup ds => noLs ds
  | .dic _ ds => noLs ds
  | .ins _ _ ds => noLs ds
  | _ => true
def noLs : List D → Bool
  | [] => true
  | d :: ds => noL d && noLs ds
end
section
variable {mg : Str → Option Value} {K : PySem.W.Frag} {pot : Option Addr} {M M' : List Addr} {H : Hp}
def Lent (M M' : List Addr) (H : Hp) : Prop := ∀ a, a ∉ M' → a ∈ M → ∃ xs, H a = some (.lst xs)
theorem Lent.at (l : Lent M M' H) {a : Addr} {o : HO} (h : less H M' a = some o) (ho : ∀ xs, o ≠ .lst xs) : less H M a = some o := by
  obtain ⟨h1, h2⟩ := less_some.mp h
  refine less_some.mpr ⟨fun h3 => ?_, h2⟩
  obtain ⟨xs, e⟩ := l a h1 h3
  rw [h2] at e
  exact ho xs (Option.some.inj e)
theorem Lent.rd (l : Lent M M' H) {a : Addr} {o : HO} (h : Rd (less H M') a o) (ho : ∀ xs, o ≠ .lst xs) : Rd (less H M) a o := by
  rcases h with h | ⟨ob, h⟩
  · exact .inl (l.at h ho)
  · exact .inr ⟨ob, l.at h fun xs e => by cases e⟩
mutual
theorem Lent.rp (l : Lent M M' H) : ∀ {v : V} {d : D}, Rp mg K (less H M') v d → noL d = true → Rp mg K (less H M) v d
  | _, _, .non, _ => .non
  | _, _, .bl b, _ => .bl b
  | _, _, .int i, _ => .int i
  | _, _, .str x, _ => .str x
  | _, _, .lst h1 h2, e => by cases e
  | _, _, .tup h1 h2, e => by
    rw [noL] at e
    exact .tup (l.at h1 fun xs q => by cases q) (Lent.rpl l h2 e)
  | _, _, .dicK h1 h2, e => by
    rw [noL] at e
    exact .dicK (l.rd h1 fun xs q => by cases q) (Lent.rpl l h2 e)
  | _, _, .dicT h1 h2, e => by
    rw [noL] at e
    exact .dicT (l.rd h1 fun xs q => by cases q) (Lent.rpl l h2 e)
  | _, _, .ins m h1 h2, e => by
    rw [noL] at e
    exact .ins m (l.at h1 fun xs q => by cases q) (Lent.rpl l h2 e)
theorem Lent.rpl (l : Lent M M' H) : ∀ {vs : List V} {ds : List D}, RpL mg K (less H M') vs ds → noLs ds = true → RpL mg K (less H M) vs ds
  | _, _, .nil, _ => .nil
  | _, _, .cons h t, e => by
    rw [noLs, Bool.and_eq_true] at e
    exact .cons (Lent.rp l h e.1) (Lent.rpl l t e.2)
end
theorem Lent.cons (l : Lent M M' H) (p : Addr) : Lent (p :: M) (p :: M') H := fun a h1 h2 => by
  rw [List.mem_cons, not_or] at h1
  rcases List.mem_cons.mp h2 with h2 | h2
  · exact absurd h2 h1.1
  · exact l a h1.2 h2
/-- what an own thing holds has no list -/
def noI : D → Bool
  | .lst ds => noLs ds
  | .dic _ ds => noLs ds
  | .ins _ _ ds => noLs ds
  | _ => false
end
def noR (r : Rm) (d : D) : Bool := match r with
  | .o => noI d
  | .t => false
  | _ => noL d
def chk (r : Rm) : Res (D × Pot) → Res (D × Pot)
  | .ok x => if noR r x.1 = true then .ok x else .stuck
  | .err c ns xs π => if noLs xs = true then .err c ns xs π else .stuck
  | .stuck => .stuck
section
variable {mg : Str → Option Value} {K : PySem.W.Frag} {pot : Option Addr} {M M' : List Addr} {H : Hp} {Q : VK} {E : XK} {r : Rm}
theorem Lent.grow {H' : Hp} (l : Lent M M' H) (pm : ∀ a, pot = some a → a ∈ M') (g : Grow pot H H') : Lent M M' H' := fun a h1 h2 => by
  obtain ⟨xs, e⟩ := l a h1 h2
  exact ⟨xs, g a _ (fun q => h1 (pm a q)) e⟩
end
end DL
set_option maxHeartbeats 2000000
namespace DL
open PySem PySem.Spec PyProof.Rows L2
def rp {α : Type} (π : Pot) : Res (α × Pot) → Res (α × Pot)
  | .ok a => .ok (a.1, π)
  | .err c ns xs _ => .err c ns xs π
  | .stuck => .stuck
def PA {α : Type} (m : Pot → Res (α × Pot)) : Prop := ∀ π π', m π' = rp π' (m π)
def PX {α : Type} (m : Rho → Pot → Res (α × Pot)) : Prop := ∀ ρ, PA (m ρ)
def PF (m : Fd) : Prop := ∀ ds, PA (m ds)
def PI (m : Fi) : Prop := ∀ d ρ, PA (m d ρ)
section
variable {α β : Type}
theorem pa_ok (a : α) : PA fun π => .ok (a, π) := fun _ _ => rfl
theorem pa_st : PA fun _ => (Res.stuck : Res (α × Pot)) := fun _ _ => rfl
theorem pa_bind {m : Pot → Res (α × Pot)} {k : α × Pot → Res (β × Pot)} (h : PA m) (hk : ∀ a, PA fun π => k (a, π)) : PA fun π => (m π).bind k := fun π π' => by
  show (m π').bind k = rp π' ((m π).bind k)
  rw [h π π']
  cases m π with
  | ok a => exact hk a.1 a.2 π'
  | err c ns xs q => rfl
  | stuck => rfl
theorem pa_ofO {γ : Type} {o : Option γ} {k : γ → Pot → Res (β × Pot)} (hk : ∀ a, PA (k a)) : PA fun π => (ofO o).bind fun a => k a π := by
  cases o with
  | none => exact pa_st
  | some a => exact hk a
theorem pa_ofO1 {γ : Type} {o : Option γ} {f : γ → β} : PA fun π => (ofO o).bind fun a => (.ok (f a, π) : Res (β × Pot)) := pa_ofO fun a => pa_ok _
theorem pa_if {c : Prop} {i : Pot → Decidable c} {m n : Pot → Res (α × Pot)} (h : PA m) (h2 : PA n) : PA fun π => @ite _ c (i π) (m π) (n π) := by
  by_cases q : c
  · simp only [if_pos q]
    exact h
  · simp only [if_neg q]
    exact h2
theorem pa_safe {m : Pot → Res (α × Pot)} (h : PA m) : PA fun π => safe (m π) := fun π π' => by
  show safe (m π') = rp π' (safe (m π))
  rw [h π π']
  cases m π <;> rfl
end
section
variable {a b c : Ed} {t t2 : Et} {x : Ea} {fi : Ei} {l u : Eo} {s s2 : Fs} {m : Fd} {g g' : D → D → Option D} {fg : D → Rho → Option Rho}
theorem pu_var {i : Nat} : PX (eVar i) := fun ρ => by
  unfold eVar
  split
  · exact pa_ok _
  · exact pa_st
theorem pu_c {d : D} : PX (eC d) := fun ρ => pa_ok _
theorem pu_bin (ha : PX a) (hb : PX b) : PX (eBin g a b) := by
  intro ρ
  unfold eBin
  repeat' first
    | exact pa_ok _
    | exact pa_st
    | exact pa_ofO1
    | refine pa_bind (ha _) fun x => ?_
    | exact ha _
    | refine pa_bind (pa_chk (ha _)) fun x => ?_
    | refine pa_bind (hb _) fun x => ?_
    | exact hb _
    | refine pa_bind (pa_chk (hb _)) fun x => ?_
    | (apply pa_if)
    | (apply pa_ofO; intro k)
    | (dsimp only)
    | split
theorem pu_un {g : D → Option D} (ha : PX a) : PX (eUn g a) := by
  intro ρ
  unfold eUn
  repeat' first
    | exact pa_ok _
    | exact pa_st
    | exact pa_ofO1
    | refine pa_bind (ha _) fun x => ?_
    | exact ha _
    | refine pa_bind (pa_chk (ha _)) fun x => ?_
    | (apply pa_if)
    | (apply pa_ofO; intro k)
    | (dsimp only)
    | split
theorem pu_and (ha : PX a) (hb : PX b) : PX (eAnd a b) := by
  intro ρ
  unfold eAnd
  repeat' first
    | exact pa_ok _
    | exact pa_st
    | exact pa_ofO1
    | refine pa_bind (ha _) fun x => ?_
    | exact ha _
    | refine pa_bind (pa_chk (ha _)) fun x => ?_
    | refine pa_bind (hb _) fun x => ?_
    | exact hb _
    | refine pa_bind (pa_chk (hb _)) fun x => ?_
    | (apply pa_if)
    | (apply pa_ofO; intro k)
    | (dsimp only)
    | split
theorem pu_or (ha : PX a) (hb : PX b) : PX (eOr a b) := by
  intro ρ
  unfold eOr
  repeat' first
    | exact pa_ok _
    | exact pa_st
    | exact pa_ofO1
    | refine pa_bind (ha _) fun x => ?_
    | exact ha _
    | refine pa_bind (pa_chk (ha _)) fun x => ?_
    | refine pa_bind (hb _) fun x => ?_
    | exact hb _
    | refine pa_bind (pa_chk (hb _)) fun x => ?_
    | (apply pa_if)
    | (apply pa_ofO; intro k)
    | (dsimp only)
    | split
theorem pu_not (ha : PX a) : PX (eNot a) := by
  intro ρ
  unfold eNot
  repeat' first
    | exact pa_ok _
    | exact pa_st
    | exact pa_ofO1
    | refine pa_bind (ha _) fun x => ?_
    | exact ha _
    | refine pa_bind (pa_chk (ha _)) fun x => ?_
    | (apply pa_if)
    | (apply pa_ofO; intro k)
    | (dsimp only)
    | split
theorem pu_eif (ht : PX t) (ha : PX a) (hb : PX b) : PX (eIf t a b) := by
  intro ρ
  unfold eIf
  repeat' first
    | exact pa_ok _
    | exact pa_st
    | exact pa_ofO1
    | refine pa_bind (ht _) fun x => ?_
    | exact ht _
    | refine pa_bind (pa_chk (ht _)) fun x => ?_
    | refine pa_bind (ha _) fun x => ?_
    | exact ha _
    | refine pa_bind (pa_chk (ha _)) fun x => ?_
    | refine pa_bind (hb _) fun x => ?_
    | exact hb _
    | refine pa_bind (pa_chk (hb _)) fun x => ?_
    | (apply pa_if)
    | (apply pa_ofO; intro k)
    | (dsimp only)
    | split
theorem pu_anil : PX aNil := by
  intro ρ
  unfold aNil
  repeat' first
    | exact pa_ok _
    | exact pa_st
    | exact pa_ofO1
    | (apply pa_if)
    | (apply pa_ofO; intro k)
    | (dsimp only)
    | split
theorem pu_acons (ha : PX a) (hx : PX x) : PX (aCons a x) := by
  intro ρ
  unfold aCons
  repeat' first
    | exact pa_ok _
    | exact pa_st
    | exact pa_ofO1
    | refine pa_bind (ha _) fun x => ?_
    | exact ha _
    | refine pa_bind (pa_chk (ha _)) fun x => ?_
    | refine pa_bind (hx _) fun x => ?_
    | exact hx _
    | refine pa_bind (pa_chk (hx _)) fun x => ?_
    | (apply pa_if)
    | (apply pa_ofO; intro k)
    | (dsimp only)
    | split
theorem pu_tup (hx : PX x) : PX (eTup x) := by
  intro ρ
  unfold eTup
  repeat' first
    | exact pa_ok _
    | exact pa_st
    | exact pa_ofO1
    | refine pa_bind (hx _) fun x => ?_
    | exact hx _
    | refine pa_bind (pa_chk (hx _)) fun x => ?_
    | (apply pa_if)
    | (apply pa_ofO; intro k)
    | (dsimp only)
    | split
theorem pu_lst (hx : PX x) : PX (eLst x) := by
  intro ρ
  unfold eLst
  repeat' first
    | exact pa_ok _
    | exact pa_st
    | exact pa_ofO1
    | refine pa_bind (hx _) fun x => ?_
    | exact hx _
    | refine pa_bind (pa_chk (hx _)) fun x => ?_
    | (apply pa_if)
    | (apply pa_ofO; intro k)
    | (dsimp only)
    | split
theorem pu_app {g : List D → Option D} (hx : PX x) : PX (eApp g x) := by
  intro ρ
  unfold eApp
  repeat' first
    | exact pa_ok _
    | exact pa_st
    | exact pa_ofO1
    | refine pa_bind (hx _) fun x => ?_
    | exact hx _
    | refine pa_bind (pa_chk (hx _)) fun x => ?_
    | (apply pa_if)
    | (apply pa_ofO; intro k)
    | (dsimp only)
    | split
theorem pu_tof (ha : PX a) : PX (tOf a) := by
  intro ρ
  unfold tOf
  repeat' first
    | exact pa_ok _
    | exact pa_st
    | exact pa_ofO1
    | refine pa_bind (ha _) fun x => ?_
    | exact ha _
    | refine pa_bind (pa_chk (ha _)) fun x => ?_
    | (apply pa_if)
    | (apply pa_ofO; intro k)
    | (dsimp only)
    | split
theorem pu_tbl (ha : PX a) : PX (tBl a) := by
  intro ρ
  unfold tBl
  repeat' first
    | exact pa_ok _
    | exact pa_st
    | exact pa_ofO1
    | refine pa_bind (ha _) fun x => ?_
    | exact ha _
    | refine pa_bind (pa_chk (ha _)) fun x => ?_
    | (apply pa_if)
    | (apply pa_ofO; intro k)
    | (dsimp only)
    | split
theorem pu_tand (ha : PX t) (hb : PX t2) : PX (tAndD t t2) := by
  intro ρ
  unfold tAndD
  repeat' first
    | exact pa_ok _
    | exact pa_st
    | exact pa_ofO1
    | refine pa_bind (ha _) fun x => ?_
    | exact ha _
    | refine pa_bind (pa_chk (ha _)) fun x => ?_
    | refine pa_bind (hb _) fun x => ?_
    | exact hb _
    | refine pa_bind (pa_chk (hb _)) fun x => ?_
    | (apply pa_if)
    | (apply pa_ofO; intro k)
    | (dsimp only)
    | split
theorem pu_tor (ha : PX t) (hb : PX t2) : PX (tOrD t t2) := by
  intro ρ
  unfold tOrD
  repeat' first
    | exact pa_ok _
    | exact pa_st
    | exact pa_ofO1
    | refine pa_bind (ha _) fun x => ?_
    | exact ha _
    | refine pa_bind (pa_chk (ha _)) fun x => ?_
    | refine pa_bind (hb _) fun x => ?_
    | exact hb _
    | refine pa_bind (pa_chk (hb _)) fun x => ?_
    | (apply pa_if)
    | (apply pa_ofO; intro k)
    | (dsimp only)
    | split
theorem pu_tnot (ha : PX t) : PX (tNotD t) := by
  intro ρ
  unfold tNotD
  repeat' first
    | exact pa_ok _
    | exact pa_st
    | exact pa_ofO1
    | refine pa_bind (ha _) fun x => ?_
    | exact ha _
    | refine pa_bind (pa_chk (ha _)) fun x => ?_
    | (apply pa_if)
    | (apply pa_ofO; intro k)
    | (dsimp only)
    | split
theorem pu_true : PX tTrue := by
  intro ρ
  unfold tTrue
  repeat' first
    | exact pa_ok _
    | exact pa_st
    | exact pa_ofO1
    | (apply pa_if)
    | (apply pa_ofO; intro k)
    | (dsimp only)
    | split
theorem pu_chain (ha : PX a) (hb : PX b) (hc : PX c) : PX (eChain g g' a b c) := by
  intro ρ
  unfold eChain
  repeat' first
    | exact pa_ok _
    | exact pa_st
    | exact pa_ofO1
    | refine pa_bind (ha _) fun x => ?_
    | exact ha _
    | refine pa_bind (pa_chk (ha _)) fun x => ?_
    | refine pa_bind (hb _) fun x => ?_
    | exact hb _
    | refine pa_bind (pa_chk (hb _)) fun x => ?_
    | refine pa_bind (hc _) fun x => ?_
    | exact hc _
    | refine pa_bind (pa_chk (hc _)) fun x => ?_
    | (apply pa_if)
    | (apply pa_ofO; intro k)
    | (dsimp only)
    | split
theorem pu_ival (ha : PX a) : PX (iVal a) := by
  intro ρ
  unfold iVal
  repeat' first
    | exact pa_ok _
    | exact pa_st
    | exact pa_ofO1
    | refine pa_bind (ha _) fun x => ?_
    | exact ha _
    | refine pa_bind (pa_chk (ha _)) fun x => ?_
    | (apply pa_if)
    | (apply pa_ofO; intro k)
    | (dsimp only)
    | split
theorem pu_irng (hx : PX x) : PX (iRng x) := by
  intro ρ
  unfold iRng
  repeat' first
    | exact pa_ok _
    | exact pa_st
    | exact pa_ofO1
    | refine pa_bind (hx _) fun x => ?_
    | exact hx _
    | refine pa_bind (pa_chk (hx _)) fun x => ?_
    | (apply pa_if)
    | (apply pa_ofO; intro k)
    | (dsimp only)
    | split
theorem pu_irngdown (hx : PX x) : PX (iRngDown x) := by
  intro ρ
  unfold iRngDown
  repeat' first
    | exact pa_ok _
    | exact pa_st
    | exact pa_ofO1
    | refine pa_bind (hx _) fun x => ?_
    | exact hx _
    | refine pa_bind (pa_chk (hx _)) fun x => ?_
    | (apply pa_if)
    | (apply pa_ofO; intro k)
    | (dsimp only)
    | split
theorem pu_ienumd (hx : PX x) : PX (iEnumD x) := by
  intro ρ
  unfold iEnumD
  repeat' first
    | exact pa_ok _
    | exact pa_st
    | exact pa_ofO1
    | refine pa_bind (hx _) fun x => ?_
    | exact hx _
    | refine pa_bind (pa_chk (hx _)) fun x => ?_
    | (apply pa_if)
    | (apply pa_ofO; intro k)
    | (dsimp only)
    | split
theorem pa_lcgo (ht : PX t) (ha : PX a) (ρ : Rho) : ∀ ds, PA fun π => lcGo fg t a ρ ds π
  | [] => pa_ok _
  | d :: ds => by
    unfold lcGo
    apply pa_ofO
    intro ρ1
    refine pa_bind (pa_safe (ht ρ1)) fun b => ?_
    dsimp only
    apply pa_if
    · refine pa_bind (pa_safe (ha ρ1)) fun x => ?_
      dsimp only
      refine pa_bind (pa_lcgo ht ha ρ ds) fun r => ?_
      exact pa_ok (x :: r)
    · exact pa_lcgo ht ha ρ ds
theorem pu_lc {vs : List Nat} (hi : PX fi) (ht : PX t) (ha : PX a) : PX (eLC fi fg t a vs) := by
  intro ρ
  unfold eLC
  repeat' first
    | refine pa_bind (pa_lcgo ht ha _ _) fun x => ?_
    | exact pa_ok _
    | exact pa_st
    | exact pa_ofO1
    | refine pa_bind (hi _) fun x => ?_
    | exact hi _
    | refine pa_bind (pa_chk (hi _)) fun x => ?_
    | refine pa_bind (ht _) fun x => ?_
    | exact ht _
    | refine pa_bind (pa_chk (ht _)) fun x => ?_
    | refine pa_bind (ha _) fun x => ?_
    | exact ha _
    | refine pa_bind (pa_chk (ha _)) fun x => ?_
    | (apply pa_if)
    | (apply pa_ofO; intro k)
    | (dsimp only)
    | split
theorem pu_go (hm : PF m) (hx : PX x) : PX (eGo m x) := by
  intro ρ
  unfold eGo
  repeat' first
    | exact pa_ok _
    | exact pa_st
    | exact pa_ofO1
    | exact hm _
    | exact pa_chk (hm _)
    | refine pa_bind (hx _) fun x => ?_
    | exact hx _
    | refine pa_bind (pa_chk (hx _)) fun x => ?_
    | (apply pa_if)
    | (apply pa_ofO; intro k)
    | (dsimp only)
    | split
theorem pa_chk {r : Rm} {m : Pot → Res (D × Pot)} (h : PA m) : PA fun π => chk r (m π) := fun π π' => by
  show chk r (m π') = rp π' (chk r (m π))
  rw [h π π']
  cases m π with
  | ok a =>
    show (if noR r a.1 = true then _ else _) = rp π' (if noR r a.1 = true then _ else _)
    split <;> rfl
  | err c ns xs q =>
    show (if noLs xs = true then _ else _) = rp π' (if noLs xs = true then _ else _)
    split <;> rfl
  | stuck => rfl
theorem pu_next : PX sNext := by
  intro ρ
  unfold sNext
  repeat' first
    | exact pa_ok _
    | exact pa_st
    | exact pa_ofO1
    | (apply pa_if)
    | (apply pa_ofO; intro k)
    | (dsimp only)
    | split
theorem pu_stuck : PX sStuck := by
  intro ρ
  unfold sStuck
  repeat' first
    | exact pa_ok _
    | exact pa_st
    | exact pa_ofO1
    | (apply pa_if)
    | (apply pa_ofO; intro k)
    | (dsimp only)
    | split
theorem pu_ret (ha : PX a) : PX (sRet a) := by
  intro ρ
  unfold sRet
  repeat' first
    | exact pa_ok _
    | exact pa_st
    | exact pa_ofO1
    | refine pa_bind (ha _) fun x => ?_
    | exact ha _
    | refine pa_bind (pa_chk (ha _)) fun x => ?_
    | (apply pa_if)
    | (apply pa_ofO; intro k)
    | (dsimp only)
    | split
theorem pu_expr (ha : PX a) : PX (sExpr a) := by
  intro ρ
  unfold sExpr
  repeat' first
    | exact pa_ok _
    | exact pa_st
    | exact pa_ofO1
    | refine pa_bind (ha _) fun x => ?_
    | exact ha _
    | refine pa_bind (pa_chk (ha _)) fun x => ?_
    | (apply pa_if)
    | (apply pa_ofO; intro k)
    | (dsimp only)
    | split
theorem pu_set {i : Nat} (ha : PX a) : PX (sSet i a) := by
  intro ρ
  unfold sSet
  repeat' first
    | exact pa_ok _
    | exact pa_st
    | exact pa_ofO1
    | refine pa_bind (ha _) fun x => ?_
    | exact ha _
    | refine pa_bind (pa_chk (ha _)) fun x => ?_
    | (apply pa_if)
    | (apply pa_ofO; intro k)
    | (dsimp only)
    | split
theorem pu_par {i j : Nat} (ha : PX a) (hb : PX b) : PX (sPar i j a b) := by
  intro ρ
  unfold sPar
  repeat' first
    | exact pa_ok _
    | exact pa_st
    | exact pa_ofO1
    | refine pa_bind (ha _) fun x => ?_
    | exact ha _
    | refine pa_bind (pa_chk (ha _)) fun x => ?_
    | refine pa_bind (hb _) fun x => ?_
    | exact hb _
    | refine pa_bind (pa_chk (hb _)) fun x => ?_
    | (apply pa_if)
    | (apply pa_ofO; intro k)
    | (dsimp only)
    | split
theorem pu_unp (ha : PX a) : PX (sUnp a fg) := by
  intro ρ
  unfold sUnp
  repeat' first
    | exact pa_ok _
    | exact pa_st
    | exact pa_ofO1
    | refine pa_bind (ha _) fun x => ?_
    | exact ha _
    | refine pa_bind (pa_chk (ha _)) fun x => ?_
    | (apply pa_if)
    | (apply pa_ofO; intro k)
    | (dsimp only)
    | split
theorem pu_if (ht : PX t) (hs : PX s) (hs2 : PX s2) : PX (sIf t s s2) := by
  intro ρ
  unfold sIf
  repeat' first
    | exact pa_ok _
    | exact pa_st
    | exact pa_ofO1
    | refine pa_bind (ht _) fun x => ?_
    | exact ht _
    | refine pa_bind (pa_chk (ht _)) fun x => ?_
    | refine pa_bind (hs _) fun x => ?_
    | exact hs _
    | refine pa_bind (pa_chk (hs _)) fun x => ?_
    | refine pa_bind (hs2 _) fun x => ?_
    | exact hs2 _
    | refine pa_bind (pa_chk (hs2 _)) fun x => ?_
    | (apply pa_if)
    | (apply pa_ofO; intro k)
    | (dsimp only)
    | split
theorem pu_seq (hs : PX s) (hs2 : PX s2) : PX (sSeq s s2) := by
  intro ρ
  unfold sSeq
  repeat' first
    | exact pa_ok _
    | exact pa_st
    | exact pa_ofO1
    | refine pa_bind (hs _) fun x => ?_
    | exact hs _
    | refine pa_bind (pa_chk (hs _)) fun x => ?_
    | refine pa_bind (hs2 _) fun x => ?_
    | exact hs2 _
    | refine pa_bind (pa_chk (hs2 _)) fun x => ?_
    | (apply pa_if)
    | (apply pa_ofO; intro k)
    | (dsimp only)
    | split
theorem pa_forgo (hs : PX s) : ∀ ds ρ, PA fun π => forGo fg s ds ρ π
  | [], ρ => pa_ok _
  | d :: ds, ρ => pa_ofO fun ρ1 => pa_bind (hs ρ1) fun y => by
    cases y with
    | nx ρ2 => exact pa_forgo hs ds ρ2
    | ct ρ2 => exact pa_forgo hs ds ρ2
    | bk ρ2 => exact pa_ok _
    | rt d => exact pa_ok _
theorem pu_for (hi : PX fi) (hs : PX s) : PX (sFor fi fg s) := by
  intro ρ
  unfold sFor
  repeat' first
    | exact pa_forgo hs _ _
    | exact pa_ok _
    | exact pa_st
    | exact pa_ofO1
    | refine pa_bind (hi _) fun x => ?_
    | exact hi _
    | refine pa_bind (pa_chk (hi _)) fun x => ?_
    | refine pa_bind (hs _) fun x => ?_
    | exact hs _
    | refine pa_bind (pa_chk (hs _)) fun x => ?_
    | (apply pa_if)
    | (apply pa_ofO; intro k)
    | (dsimp only)
    | split
theorem pu_augix {i : Nat} {g : Int → Int → Int} (ha : PX a) (hb : PX b) : PX (sAugIx i g a b) := by
  intro ρ
  unfold sAugIx
  repeat' first
    | exact pa_ok _
    | exact pa_st
    | exact pa_ofO1
    | refine pa_bind (ha _) fun x => ?_
    | exact ha _
    | refine pa_bind (pa_chk (ha _)) fun x => ?_
    | refine pa_bind (hb _) fun x => ?_
    | exact hb _
    | refine pa_bind (pa_chk (hb _)) fun x => ?_
    | (apply pa_if)
    | (apply pa_ofO; intro k)
    | (dsimp only)
    | split
theorem pu_aug {i : Nat} {g : Int → Int → Int} (ha : PX a) : PX (sAug i g a) := by
  intro ρ
  unfold sAug
  repeat' first
    | exact pa_ok _
    | exact pa_st
    | exact pa_ofO1
    | refine pa_bind (ha _) fun x => ?_
    | exact ha _
    | refine pa_bind (pa_chk (ha _)) fun x => ?_
    | (apply pa_if)
    | (apply pa_ofO; intro k)
    | (dsimp only)
    | split
theorem pu_runD {n : Nat} {r : Rm} (hs : PX s) : PF (runD n r s) := by
  intro ds
  unfold runD
  repeat' first
    | exact pa_ok _
    | exact pa_st
    | exact pa_ofO1
    | refine pa_bind (hs _) fun x => ?_
    | exact hs _
    | refine pa_bind (pa_chk (hs _)) fun x => ?_
    | (apply pa_if)
    | (apply pa_ofO; intro k)
    | (dsimp only)
    | split
end
/-- what a pure meaning gives at some pot it gives at each one -/
theorem PF.ok {m : Fd} (h : PF m) {ds : List D} {π0 π1 : Pot} {d : D} (e : m ds π0 = .ok (d, π1)) (π : Pot) : m ds π = .ok (d, π) := by
  rw [h ds π0 π, e]
  rfl
def isT : Res (D × Pot) → Bool
  | .ok (.bl b, _) => b
  | _ => false
theorem isT_ok {r : Res (D × Pot)} (h : isT r = true) : ∃ π, r = .ok (.bl true, π) := by
  unfold isT at h
  split at h
  · subst h
    exact ⟨_, rfl⟩
  · cases h
theorem PF.t {m : Fd} (h : PF m) {ds : List D} {π0 : Pot} (e : isT (m ds π0) = true) (π : Pot) : m ds π = .ok (.bl true, π) := by
  obtain ⟨π1, e1⟩ := isT_ok e
  exact h.ok e1 π
end DL
set_option maxHeartbeats 2000000
namespace DL
open PySem PySem.Spec PyProof.Rows L2
mutual
def beqD : D → D → Bool
  | .non, .non => true
  | .bl a, .bl b => a == b
  | .int a, .int b => decide (a = b)
  | .str a, .str b => decide (a = b)
  | .lst xs, .lst ys => beqL xs ys
  | .tup xs, .tup ys => beqL xs ys
  | .dic ks xs, .dic ls ys => decide (ks = ls) && beqL xs ys
  | .ins c ns xs, .ins d ms ys => decide (c = d) && decide (ns = ms) && beqL xs ys
  | _, _ => false
def beqL : List D → List D → Bool
  | [], [] => true
  | x :: xs, y :: ys => beqD x y && beqL xs ys
  | _, _ => false
end
mutual
theorem beqD_eq : ∀ {a b : D}, beqD a b = true → a = b
  | .non, b, h => by
    cases b <;> simp [beqD] at h
    rfl
  | .bl a, b, h => by
    cases b <;> simp [beqD] at h
    rw [h]
  | .int a, b, h => by
    cases b <;> simp [beqD] at h
    rw [h]
  | .str a, b, h => by
    cases b <;> simp [beqD] at h
    rw [h]
  | .lst xs, b, h => by
    cases b <;> simp [beqD] at h
    rw [beqL_eq h]
  | .tup xs, b, h => by
    cases b <;> simp [beqD] at h
    rw [beqL_eq h]
  | .dic ks xs, b, h => by
    cases b <;> simp [beqD] at h
    rw [h.1, beqL_eq h.2]
  | .ins c ns xs, b, h => by
    cases b <;> simp [beqD] at h
    rw [h.1.1, h.1.2, beqL_eq h.2]
theorem beqL_eq : ∀ {xs ys : List D}, beqL xs ys = true → xs = ys
  | [], ys, h => by
    cases ys <;> simp [beqL] at h
    rfl
  | x :: xs, ys, h => by
    cases ys <;> simp [beqL] at h
    rw [beqD_eq h.1, beqL_eq h.2]
end
def isR (r : Res (D × Pot)) (d : D) : Bool := match r with
  | .ok (e, _) => beqD e d
  | _ => false
theorem isR_ok {r : Res (D × Pot)} {d : D} (h : isR r d = true) : ∃ π, r = .ok (d, π) := by
  unfold isR at h
  split at h
  · rw [← beqD_eq h]
    exact ⟨_, rfl⟩
  · cases h
theorem PF.r {m : Fd} (h : PF m) {ds : List D} {π0 : Pot} {d : D} (e : isR (m ds π0) d = true) (π : Pot) : m ds π = .ok (d, π) := by
  obtain ⟨π1, e1⟩ := isR_ok e
  exact h.ok e1 π
/-- a piece that ends with a value -/
def isO (r : Res (Out × Pot)) (d : D) : Bool := match r with
  | .ok (.rt e, _) => beqD e d
  | _ => false
theorem PX.o {m : Fs} (h : PX m) {ρ : Rho} {π0 : Pot} {d : D} (e : isO (m ρ π0) d = true) (π : Pot) : m ρ π = .ok (.rt d, π) := by
  rw [h ρ π0 π]
  unfold isO at e
  split at e
  · rename_i q
    rw [q, beqD_eq e]
    rfl
  · cases e
theorem PX.r {m : Ed} (h : PX m) {ρ : Rho} {π0 : Pot} {d : D} (e : isR (m ρ π0) d = true) (π : Pot) : m ρ π = .ok (d, π) := by
  obtain ⟨π1, e1⟩ := isR_ok e
  rw [h ρ π0 π, e1]
  rfl
theorem kit_ty {K : PySem.W.Frag} {C : Addr} {T : String} {b : Bool} (i : PySem.W.isClsIn K C = true) (t : PySem.W.typeIn K (.ref C) = some (.type "type")) (s : PySem.W.subIn K (.type T) (.ref C) = some b) : PySem.W.kitOne K (.type T) (.ref C) = some b := by
  unfold PySem.W.kitOne
  rw [if_neg (by intro h; cases h)]
  unfold PySem.W.kitCls
  unfold PySem.W.isClsIn at i
  simp only [i, t, Bool.true_and, beq_self_eq_true, if_true]
  exact s
end DL
set_option maxHeartbeats 2000000
namespace DL
open PySem PySem.Spec PyProof.Rows L2
section
variable {mg : Str → Option Value} {K : PySem.W.Frag} {pot : Option Addr} {M M0 M1 : List Addr} {H H0 H1 H2 B : Hp} {π π1 : Pot} {Γ Γl Γ' : List Md} {σ : L2.St} {ρ : Rho} {v : V} {d : D} {r : Rm} {E : XK}
/-- a slot is no longer looked at -/
theorem SOk.forget (S : SOk mg K Γ pot M0 H0 B M σ H ρ) (i : Nat) : SOk mg K (Γ.set i .u) pot M0 H0 B M σ H ρ := by
  have I := S.env
  have key : ∀ {j : Nat} {m : Md}, m ≠ .u → (Γ.set i .u)[j]? = some m → Γ[j]? = some m := fun {j m} n h => by
    rcases set_at h with ⟨_, e, _⟩ | ⟨_, e⟩
    · exact absurd e n
    · exact e
  exact ⟨⟨by simp [I.ls], by simp [I.lr], fun j e h => I.f j e (key (by decide) h), fun j e h => I.o j e (key (by decide) h), fun j h => I.p j (key (by decide) h), fun j e h => I.s j e (key (by decide) h), fun j k a b c h1 h2 => I.ap j k a b c (key (by decide) h1) (key (by decide) h2), I.al, I.pm, fun j a dd d h => I.x j a dd d (key (by simp) h)⟩,
    S.gr, S.sub, fun j e a h => S.ow j e a (key (by decide) h), S.m0, S.bs⟩
end
section
variable {X : Cx} {E : XK} {r r' ra rb rc : Rm} {Γl Γ Γ1 Γ' : List Md} {pos : Pos} {k : Nat} {e a b c : Expr} {te ta tb tc ti : TE} {fe fa fb fc fk : Ed} {st : Stmt} {sts body : List Stmt} {ts us : TS} {fs gs : Fs} {tt : TT} {ft : Et}
theorem SOk.swap {mg : Str → Option Value} {K : PySem.W.Frag} {pot : Option Addr} {M M0 : List Addr} {H H0 B : Hp} {Γ : List Md} {σ : L2.St} {ρ : Rho} {d : D} {i j : Nat} {q : Addr} (S : SOk mg K (Γ.set j .u) pot M0 H0 B M σ H ρ) (hij : i ≠ j) (hi : Γ[i]? = some .o) (hj : Γ[j]? = some .o) (er : ρ[i]? = some (some d)) (ej : ρ[j]? = some (some d)) (e1 : σ[i]? = some (some (.ref q))) (e2 : σ[j]? = some (some (.ref q))) :
    SOk mg K (Γ.set i .u) pot M0 H0 B M σ H ρ := by
  have hi' : (Γ.set j .u)[i]? = some .o := by rw [List.getElem?_set_ne hij.symm]; exact hi
  obtain ⟨q', e3, m, ow⟩ := S.env.o i d hi' er
  rw [e1] at e3
  cases e3
  have S1 := S.forget i
  have hd1 : Held mg K .o ((Γ.set j .u).set i .u) pot H0 M σ H ρ (.ref q) d := ⟨q, rfl, m, ow, S.ow i d q hi' er e1, fun l e g1 g2 g3 => by
    rcases set_at g1 with ⟨_, z, _⟩ | ⟨n, g1⟩
    · cases z
    · exact n (S.env.ap i l q d e hi' g1 er g2 e1 g3)⟩
  have hjl : j < ((Γ.set j .u).set i .u).length := by
    simp only [List.length_set]
    exact (List.getElem?_eq_some_iff.mp hj).1
  have S2 := S1.put (r := .o) (i := j) hjl hd1
  have eΓ : (((Γ.set j .u).set i .u).set j Rm.o.md) = Γ.set i .u := by
    rw [List.set_comm _ _ hij.symm, List.set_set, List.set_comm _ _ hij]
    congr 1
    exact set_same hj
  have eσ : σ.set j (some (.ref q)) = σ := by
    apply List.ext_getElem?
    intro l
    by_cases e : j = l
    · subst e
      rw [List.getElem?_set_self (List.getElem?_eq_some_iff.mp e2).1, e2]
    · rw [List.getElem?_set_ne e]
  have eρ : ρ.set j (some d) = ρ := by
    apply List.ext_getElem?
    intro l
    by_cases e : j = l
    · subst e
      rw [List.getElem?_set_self (List.getElem?_eq_some_iff.mp ej).1, ej]
    · rw [List.getElem?_set_ne e]
  rw [eΓ, eσ, eρ] at S2
  exact S2
end
end DL
set_option maxHeartbeats 2000000
namespace DL
open PySem PySem.Spec PyProof.Rows L2
/-- a default's worth: None or a number -/
def dv1 : D → V
  | .int i => .int i
  | _ => .non
def dOk : D → Bool
  | .int _ => true
  | .non => true
  | _ => false
/-- a def with defaults, as it stands behind the top -/
structure FunDd (K : PySem.W.Frag) (x : Str) (st : Stmt) (dd : List D) (f : Addr) (fd : FuncData) : Prop where
  ex : ∃ (oc : Value) (od : Option Addr) (T : Addr) (kV doc pm : Value) (an : Option Addr) (cdv ct : Value) (osl : Array (Option Value)) (its : List Value),
    fd = PySem.W.fnOf x x (defArgs st) (defBody st) (defScope st) (.ref T) kV doc pm an cdv ct ∧ K.lookup f = some ⟨oc, od, .func fd, osl⟩ ∧ PySem.W.codeIn K cdv x = true ∧ ∃ (o : Obj) (n : Nat), K.lookup T = some o ∧ o.data = .seq its.toArray n ∧ Vals (dd.map dv1) its
  kp : PySem.W.keepIn K (.ref f) = true
theorem fund_mk {K : PySem.W.Frag} {x : Str} {st : Stmt} {dd : List D} {f T : Addr} {oc : Value} {od : Option Addr} {kV doc pm : Value} {an : Option Addr} {cdv ct : Value} {osl : Array (Option Value)} {its : List Value} {ot : Value} {odt : Option Addr} {n : Nat} {slt : Array (Option Value)}
    (l : K.lookup f = some ⟨oc, od, .func (PySem.W.fnOf x x (defArgs st) (defBody st) (defScope st) (.ref T) kV doc pm an cdv ct), osl⟩) (c : PySem.W.codeIn K cdv x = true) (k : PySem.W.keepIn K (.ref f) = true)
    (t : K.lookup T = some ⟨ot, odt, .seq its.toArray n, slt⟩) (v : Vals (dd.map dv1) its) : FunDd K x st dd f (PySem.W.fnOf x x (defArgs st) (defBody st) (defScope st) (.ref T) kV doc pm an cdv ct) :=
  ⟨⟨oc, od, T, kV, doc, pm, an, cdv, ct, osl, its, rfl, l, c, _, n, t, rfl, v⟩, k⟩
structure DFnD (P : Program) (w : World) (K : PySem.W.Frag) (mg : Str → Option Value) (base : Heap) (k : Nat) (x : Str) (st : Stmt) (ps : List Str) (ks : List Ak) (r : Rm) (dd : List D) (m : Fd) : Prop where
  ex : ∃ f fd, mg x = some (.ref f) ∧ FunDd K x st dd f fd ∧ FnG P w K mg base k f fd ps (SpD mg K ks r m)
section
variable {P : Program} {w : World} {K : PySem.W.Frag} {mg : Str → Option Value} {base : Heap} {k : Nat} {x : Str} {st : Stmt} {ps N : List Str} {ks : List Ak} {r : Rm}
theorem dfn_ofD {fs : Fs} {dd : List D} (Γ Γ' : List Md) (hf : ∃ f fd, mg x = some (.ref f) ∧ FunDd K x st dd f fd) (S : FnScope N ps (defScope st)) (hp : ks.length = ps.length) (hl : Γ.length = N.length) (hk : ks.length ≤ N.length) (hm : modesOk ks Γ = true)
    (hr : (r = .f ∨ r = .o) ∨ r = .t)
    (hb : ∀ (f : Addr) (cdv : Value) (A : Around) (outer : List Env) (s : Shared) (H : Hp) (E : XK), XOk (cxOf (L2.CX P w) P w K mg base N x (defScope st) f cdv A outer s H E) E k →
      ∃ ts, DSs (cxOf (L2.CX P w) P w K mg base N x (defScope st) f cdv A outer s H E) E r Γ Γ Γ' (defBody st) ts fs) :
    DFnD P w K mg base (k + 1) x st ps ks r dd (runD N.length r fs) := by
  obtain ⟨f, fd, h1, h2⟩ := hf
  refine ⟨f, fd, h1, h2, ?_⟩
  obtain ⟨oc, od, T, kV, doc, pm, an, cdv, ct, osl, its, rfl, lk, hcd, _⟩ := h2.ex
  refine fn_ofG lk hcd S (fun vs H Q E h => by rw [h.1, hp]) fun A outer s H vs Q E room gd want => ?_
  obtain ⟨_, pot, M, ds, π, ar, al, pm, pt, post⟩ := want
  have o : XOk (cxOf (L2.CX P w) P w K mg base N x (defScope st) f cdv A outer s H E) E k :=
    ⟨room, gd, rfl, passes_call (takes_of rfl rfl rfl rfl) fun _ _ _ _ z => z, passes_of rfl, S.nd⟩
  obtain ⟨ts, B⟩ := hb f cdv A outer s H E o
  refine ⟨ts, B.pss, ?_⟩
  have I := env_start hm hl hk ar al pm
  refine B.sem pot M H (fun _ => none) M _ H _ π _ ⟨I, .refl, fun a h => h, fun i d a h1 h2 h3 => ?_, fun a h => (al a h).nn, fun a u e => by cases e⟩ pt ?_
  · exfalso
    obtain ⟨k', v, q1, _⟩ := ar.at (startD_at h2)
    obtain ⟨m1, _⟩ := Bool.and_eq_true_iff.mp hm
    have m1 := of_decide_eq_true m1
    have hi := (List.getElem?_eq_some_iff.mp q1).1
    have e : (Γ.take ks.length)[i]? = Γ[i]? := List.getElem?_take_of_lt hi
    rw [h1, m1, List.getElem?_map, q1] at e
    cases k' <;> cases e
  · unfold runD at post
    cases ef : fs (startD N.length ds) π with
    | err c ns xs π' =>
      rw [ef] at post
      exact post
    | stuck =>
      rw [ef] at post
      exact post
    | ok y =>
      obtain ⟨y, π1⟩ := y
      rw [ef] at post
      cases y with
      | rt d => exact fun v H' g p q => post v H' g p q
      | nx ρ =>
        simp only [Res.bind_ok] at post
        split at post
        · rename_i hrf
          subst hrf
          exact fun M' σ' H' S' p' => post .non H' S'.gr p' .non
        · exact post.elim
      | bk ρ => exact post.elim
      | ct ρ => exact post.elim
end
section
variable {X : Cx} {E : XK} {Γ : List Md} {r : Rm} {e : Expr} {es : List Expr} {pos p : Pos} {k j : Nat} {ks ks' : List Ak} {tA : TA} {fA : Ea} {x : Str} {st : Stmt} {ps : List Str} {m : Fd} {dd : List D}
def tGoD (mg : Str → Option Value) (K : PySem.W.Frag) (dd : List D) (ks : List Ak) (r : Rm) (m : Fd) (E : XK) (t : TA) : TE := fun σ H Q => t σ H fun vs H1 => SpD mg K ks r m (vs ++ dd.map dv1) H1 Q E
def eGoD (dd : List D) (m : Fd) (a : Ea) : Ed := fun ρ π => (a ρ π).bind fun x => m (x.1 ++ dd) x.2
theorem args_dd {mg : Str → Option Value} {K : PySem.W.Frag} {pot : Option Addr} {M : List Addr} {H : Hp} : ∀ {dd : List D}, dd.all dOk = true → Args mg K pot M H (dd.map fun _ => Ak.f) (dd.map dv1) dd
  | [], _ => .nil
  | d :: dd, h => by
    simp only [List.all_cons, Bool.and_eq_true] at h
    refine .cons ?_ (args_dd h.2)
    cases d <;> simp [dOk] at h
    · exact Rp.non
    · exact Rp.int _
theorem args_app {mg : Str → Option Value} {K : PySem.W.Frag} {pot : Option Addr} {M : List Addr} {H : Hp} : ∀ {ks ks' : List Ak} {vs vs' : List V} {ds ds' : List D}, Args mg K pot M H ks vs ds → Args mg K pot M H ks' vs' ds' → Args mg K pot M H (ks ++ ks') (vs ++ vs') (ds ++ ds')
  | _, _, _, _, _, _, .nil, b => b
  | _, _, _, _, _, _, .cons a as, b => .cons a (args_app as b)
theorem sem_goD (hd : dd.all dOk = true) (hA : SemA X.mg X.K E ks Γ tA fA) : SemE X.mg X.K E r Γ (tGoD X.mg X.K dd (ks ++ dd.map fun _ => Ak.f) r m E tA) (eGoD dd m fA) := fun pot M σ H ρ π I p Q h => by
  refine PostA.seq (ks := ks) (te := tA σ H) h p (fun Q' hq => hA pot M σ H ρ π I p Q' hq) fun ds π1 vs H1 _ g1 p1 r1 h1 => ?_
  have a := args_app r1 (args_dd (mg := X.mg) (K := X.K) (pot := pot) (M := M) (H := H1) hd)
  exact ⟨a.length, pot, M, _, π1, a, (I.grow g1 p1).al, I.pm, p1, h1⟩
/-- f(e, ..): the last ones by their defaults -/
theorem de_callD (n j' : Nat) (F : DFnD X.prog X.w X.K X.mg X.base j x st ps (ks ++ (dd.drop j').map fun _ => Ak.f) r dd m) (o : XOk X E k)
    (hb : ∀ (T : Addr) (kV doc pm : Value) (an : Option Addr) (cdv ct : Value) (us its : List Value), us.length = n → its.length = dd.length →
      ∃ k, bindArgs (PySem.W.fnOf x x (defArgs st) (defBody st) (defScope st) (.ref T) kV doc pm an cdv ct) ⟨us, []⟩ = seqItems? (.ref T) >>= k ∧ k (some its.toArray) = pure (ps.zip (us ++ its.drop j')))
    (hA : DA X E ks Γ (e :: es) tA fA) (hd : (dd.drop j').all dOk = true := by rfl) (hn : n + (dd.drop j').length = ps.length := by rfl) (hj : j ≤ k := by decide) (hg : Gl X x := by rfl) (hdb : (x == ("__debug__" : Str)) = false := by decide) (he : starEach (e :: es) X.env = (false, eval e X.env) :: starEach es X.env := by rfl) (hpl : (backTo pos (starEach es X.env)).any (·.1) = false := by rfl) :
    DE X E r Γ (.Call (.Name x p) (e :: es) [] pos) (tGoD X.mg X.K (dd.drop j') (ks ++ (dd.drop j').map fun _ => Ak.f) r m E tA) (eGoD (dd.drop j') m fA) :=
  ⟨⟨fun pins s σ H Q I h => by
    obtain ⟨f, fd, h1, h2, h3⟩ := F.ex
    refine wpAny_Call_Name_kw (ld_glob I hg h1 ?_ hdb)
    refine PySem.W.callWith_K (h₀ := X.base) I.ok.mod.kin h2.kp (thn (hA.pa.run pos pins s σ H _ I h) fun us s1 ⟨vs, H1, I1, rl, q⟩ => ⟨I1.kIn, ?_⟩) he hpl
    have hl := h3.len _ _ _ _ q
    rw [List.length_append, List.length_map, rl.length] at hl
    have hl' : us.length = n := by omega
    obtain ⟨oc, od, T, kV, doc, pm, an, cdv, ct, osl, its, rfl, lk, hcd, ob, nn, lT, oT, rT⟩ := h2.ex
    have l1 : its.length = dd.length := by rw [← rT.length, List.length_map]
    have bd : BindsTo s1 (PySem.W.fnOf x x (defArgs st) (defBody st) (defScope st) (.ref T) kV doc pm an cdv ct) ⟨us, []⟩ (ps.zip (us ++ its.drop j')) := by
      obtain ⟨kk, e1, e2⟩ := hb T kV doc pm an cdv ct us its hl' l1
      refine BindsTo.of_looks fun M => ?_
      rw [e1]
      exact looks_items I1.kIn lT oT (.of_pure e2)
    have rl' : Vals (vs ++ (dd.drop j').map dv1) (us ++ its.drop j') := by
      rw [List.map_drop]; exact rl.append (rT.drop j')
    refine wpAny_call (codeAny_mono (h3.run X.A X.stack s1 H1 _ (us ++ its.drop j') _ Q E (o.room.mono hj) o.gd I1.env0 bd rl' q) fun res s' z => ?_)
    match res, z with
    | .error e, z => exact o.pass pins σ H1 s1 e s' I1 z
    | .ok (.ret u), z => exact I1.after z⟩, sem_goD hd hA.sem⟩
variable {hm : Fd}
theorem pu_goD (hm : PF m) (hx : PX fA) : PX (eGoD dd m fA) := by
  intro ρ
  unfold eGoD
  refine pa_bind (hx _) fun x => ?_
  exact hm (x ++ dd)
end
end DL
set_option maxHeartbeats 2000000
namespace DL
open PySem PySem.Spec PyProof.Rows L2
def gL (n : Nat) (b : List D → Rho → Option Rho) : D → Rho → Option Rho := fun d ρ => match d with
  | .lst ds => if ds.length = n then b ds ρ else none
  | _ => none
section
variable {X : Cx} {E : XK} {Γ : List Md} {pos : Pos} {k : Nat}
@[simp] theorem gL_ap (n : Nat) (b : List D → Rho → Option Rho) (ds : List D) (ρ : Rho) : gL n b (.lst ds) ρ = if ds.length = n then b ds ρ else none := rfl
end
end DL
set_option maxHeartbeats 2000000
namespace DL
open PySem PySem.Spec PyProof.Rows L2
end DL
set_option maxHeartbeats 2000000
namespace DL
open PySem PySem.Spec PyProof.Rows L2 C8
def fIsA (cs : List Str) (ns : List String) (d : D) : Option D := match d with
  | .ins c' _ _ => if c' ∈ cs then some (.bl false) else none
  | _ => fIs ns d
@[simp] theorem fIsA_non (cs : List Str) (ns : List String) : fIsA cs ns .non = some (.bl (ns.any fun b => isTyB "NoneType" b)) := rfl
@[simp] theorem fIsA_bl (cs : List Str) (ns : List String) (i : Bool) : fIsA cs ns (.bl i) = some (.bl (ns.any fun b => isTyB "bool" b)) := rfl
@[simp] theorem fIsA_int (cs : List Str) (ns : List String) (i : Int) : fIsA cs ns (.int i) = some (.bl (ns.any fun b => isTyB "int" b)) := rfl
@[simp] theorem fIsA_str (cs : List Str) (ns : List String) (i : Str) : fIsA cs ns (.str i) = some (.bl (ns.any fun b => isTyB "str" b)) := rfl
@[simp] theorem fIsA_lst (cs : List Str) (ns : List String) (i : List D) : fIsA cs ns (.lst i) = some (.bl (ns.any fun b => isTyB "list" b)) := rfl
@[simp] theorem fIsA_tup (cs : List Str) (ns : List String) (i : List D) : fIsA cs ns (.tup i) = some (.bl (ns.any fun b => isTyB "tuple" b)) := rfl
@[simp] theorem fIsA_dic (cs : List Str) (ns : List String) (a : List DKey) (i : List D) : fIsA cs ns (.dic a i) = some (.bl (ns.any fun b => isTyB "dict" b)) := rfl
@[simp] theorem fIsA_ins (cs : List Str) (ns : List String) (c : Str) (a : List Str) (i : List D) : fIsA cs ns (.ins c a i) = if c ∈ cs then some (.bl false) else none := rfl
end DL
set_option maxHeartbeats 2000000
namespace DL
open PySem PySem.Spec PyProof.Rows L2
def fStrA : List D → Option D
  | [.int i] => if i.natAbs.log2 < 1920 then some (.str (Str.ofString (toString i))) else none
  | ds => fStr ds
@[simp] theorem fStrA_lst (xs : List D) : fStrA [.lst xs] = fStr [.lst xs] := rfl
@[simp] theorem fStrA_tup (xs : List D) : fStrA [.tup xs] = fStr [.tup xs] := rfl
end DL
set_option maxHeartbeats 2000000
namespace DL
open PySem PySem.Spec PyProof.Rows L2
end DL
set_option maxHeartbeats 2000000
namespace DL
open PySem PySem.Spec PyProof.Rows L2
def atomD : D → Bool
  | .non | .bl _ | .int _ | .str _ => true
  | _ => false
def lookM : Md → Md
  | .o => .f
  | m => m
def eAtom (fe : Ed) : Ed := fun ρ π => match fe ρ π with
  | .ok x => if atomD x.1 = true then .ok x else .stuck
  | _ => .stuck
theorem env_look {mg : Str → Option Value} {K : PySem.W.Frag} {Γ : List Md} {pot : Option Addr} {M : List Addr} {σ : L2.St} {H : Hp} {ρ : Rho} (I : EnvOk mg K Γ pot M σ H ρ) : EnvOk mg K (Γ.map lookM) pot pot.toList σ H ρ := by
  have sub : ∀ a ∈ pot.toList, a ∈ M := fun a ha => I.pm a (by simpa using ha)
  have get : ∀ (i : Nat) (m : Md), (Γ.map lookM)[i]? = some m → ∃ m0, Γ[i]? = some m0 ∧ lookM m0 = m := fun i m h => by
    rw [List.getElem?_map] at h
    simpa using h
  refine ⟨by simp [I.ls], by simp [I.lr], fun i d h1 h2 => ?_, fun i d h1 h2 => ?_, fun i h1 => ?_, fun i d h1 h2 => ?_, fun i j a d e h1 h2 h3 h4 h5 h6 => ?_, fun a ha => I.al a (sub a ha), fun a ha => by simpa using ha, fun i a dd d h1 h2 => ?_⟩
  · obtain ⟨m, e1, e2⟩ := get i _ h1
    cases m with
    | f =>
      obtain ⟨v, e, r⟩ := I.f i d e1 h2
      exact ⟨v, e, r.mono (less_sub sub)⟩
    | o =>
      obtain ⟨p, e, m, np, o, a1, a2⟩ := I.o i d e1 h2
      refine ⟨_, e, HoR.rp (less_some.mpr ⟨fun z => np (by simpa using z), a1⟩) (a2.mono (less_sub fun a ha => List.mem_cons_of_mem _ (sub a ha)))⟩
    | _ => cases e2
  · obtain ⟨m, e1, e2⟩ := get i _ h1
    cases m <;> cases e2
  · obtain ⟨m, e1, e2⟩ := get i _ h1
    cases m with
    | p => exact I.p i e1
    | _ => cases e2
  · obtain ⟨m, e1, e2⟩ := get i _ h1
    cases m with
    | s =>
      obtain ⟨p, ns, a1, a2, a3⟩ := I.s i d e1 h2
      exact ⟨p, ns, a1, a2, sqL_mono (less_sub sub) a3⟩
    | _ => cases e2
  · obtain ⟨m, e1, e2⟩ := get i _ h1
    cases m <;> cases e2
  · obtain ⟨m, e1, e2⟩ := get i _ h1
    cases m with
    | x a' dd' =>
      cases e2
      exact ⟨(I.x i _ _ d e1 h2).1, (I.x i _ _ d e1 h2).2.mono (less_sub sub)⟩
    | _ => cases e2
@[simp] theorem eAtom_ap (fe : Ed) (ρ : Rho) (π : Pot) : eAtom fe ρ π = match fe ρ π with
  | .ok x => if atomD x.1 = true then .ok x else .stuck
  | _ => .stuck := rfl
@[simp] theorem atomD_bl (b : Bool) : atomD (.bl b) = true := rfl
@[simp] theorem atomD_int (b : Int) : atomD (.int b) = true := rfl
@[simp] theorem atomD_str (b : Str) : atomD (.str b) = true := rfl
@[simp] theorem atomD_non : atomD .non = true := rfl
end DL
set_option maxHeartbeats 2000000
namespace DL
open PySem PySem.Spec PyProof.Rows L2
section
variable {mg : Str → Option Value} {K : PySem.W.Frag} {pot : Option Addr} {M : List Addr} {H H1 H' : Hp} {v : V} {d : D} {Γ : List Md} {σ : L2.St} {ρ : Rho} {π : Pot} {E : XK}
def canI (mg : Str → Option Value) (K : PySem.W.Frag) (w : Bool) (E : XK) (Γ : List Md) (fi : Ei) : TI := fun σ H R => ∃ pot M ρ π, EnvOk mg K Γ pot M σ H ρ ∧ PotAt pot H π ∧ PostI mg K w pot M H (fi ρ π) R E
theorem DI.can {w : Bool} {X : Cx} {tg iter : Expr} {wi : TI} {fi : Ei} (h : DI w X E Γ tg iter wi fi) : DI w X E Γ tg iter (canI X.mg X.K w E Γ fi) fi :=
  ⟨⟨fun pins s σ H R I q => by
    obtain ⟨pot, M, ρ, π, h1, h2, h3⟩ := q
    exact h.pi.run pins s σ H R I (h.sem pot M σ H ρ π h1 h2 R h3)⟩, fun pot M σ H ρ π I p Q q => ⟨pot, M, ρ, π, I, p, q⟩⟩
end
end DL
set_option maxHeartbeats 2000000
namespace DL
open PySem PySem.Spec PyProof.Rows L2
/-- an own object of a class -/
def isInO (c : Str) : D → Bool
  | .ins c' _ _ => decide (c' = c)
  | _ => false
def cmpO (neg : Bool) (g : D → D → Option D) : List (Str × Fd) → D → D → Pot → Res (D × Pot)
  | [], d, e, π => (ofO (g d e)).bind fun z => .ok (z, π)
  | (c, m) :: cs, d, e, π => if (isInO c d && isInO c e) = true then (m [d, e] π).bind fun z => match z.1 with
    | .bl t => .ok (.bl (if neg then !t else t), z.2)
    | _ => .stuck else cmpO neg g cs d e π
def eCmpO (neg : Bool) (g : D → D → Option D) (cs : List (Str × Fd)) (a b : Ed) : Ed := fun ρ π => (a ρ π).bind fun x => (b ρ x.2).bind fun y => cmpO neg g cs x.1 y.1 y.2
@[simp] theorem eCmpO_ap (neg : Bool) (g : D → D → Option D) (cs : List (Str × Fd)) (a b : Ed) (ρ : Rho) (π : Pot) : eCmpO neg g cs a b ρ π = (a ρ π).bind fun x => (b ρ x.2).bind fun y => cmpO neg g cs x.1 y.1 y.2 := rfl
end DL
set_option maxHeartbeats 2000000
namespace DL
open PySem PySem.Spec PyProof.Rows L2
def tupZ (ns : List Int) : D := .tup (ns.map D.int)
def asTs : List D → Option (List (List Int))
  | [] => some []
  | .tup xs :: r => (asInts xs).bind fun ns => (asTs r).map (ns :: ·)
  | _ => none
theorem asTs_eq : ∀ {ds : List D} {L : List (List Int)}, asTs ds = some L → ds = L.map tupZ
  | [], L, h => by cases h; rfl
  | d :: r, L, h => by
    cases d with
    | tup xs =>
      simp only [asTs, Option.bind_eq_some_iff, Option.map_eq_some_iff] at h
      obtain ⟨ns, h1, L', h2, rfl⟩ := h
      rw [List.map_cons, ← asTs_eq h2, tupZ, ← asInts_eq h1]
    | _ => cases h
def insT (x : List Int) : List (List Int) → List (List Int)
  | [] => [x]
  | y :: r => if TS.code 1024 x ≤ TS.code 1024 y then x :: y :: r else y :: insT x r
def sortT : List (List Int) → List (List Int)
  | [] => []
  | x :: r => insT x (sortT r)
theorem insT_perm (x : List Int) : ∀ L, (insT x L).Perm (x :: L)
  | [] => .refl _
  | y :: r => by
    unfold insT
    split
    · exact .refl _
    · exact ((insT_perm x r).cons y).trans (.swap x y r)
theorem sortT_perm : ∀ L, (sortT L).Perm L
  | [] => .refl _
  | x :: r => (insT_perm x _).trans ((sortT_perm r).cons x)
def leT (x y : List Int) : Prop := TS.code 1024 x ≤ TS.code 1024 y
theorem insT_sorted (x : List Int) : ∀ L, L.Pairwise leT → (insT x L).Pairwise leT
  | [], _ => List.pairwise_singleton ..
  | y :: r, h => by
    rw [List.pairwise_cons] at h
    unfold insT
    split
    · rename_i q
      rw [List.pairwise_cons, List.pairwise_cons]
      refine ⟨fun z hz => ?_, h⟩
      rcases List.mem_cons.mp hz with rfl | hz
      · exact q
      · exact Int.le_trans q (h.1 z hz)
    · rename_i q
      rw [List.pairwise_cons]
      refine ⟨fun z hz => ?_, insT_sorted x r h.2⟩
      rcases List.mem_cons.mp ((insT_perm x r).mem_iff.mp hz) with rfl | hz
      · exact Int.le_of_lt (Int.not_le.mp q)
      · exact h.1 z hz
theorem sortT_sorted : ∀ L, (sortT L).Pairwise leT
  | [] => .nil
  | x :: r => insT_sorted x _ (sortT_sorted r)
theorem code_inj {B : Int} : ∀ {ns ms : List Int}, ns.length = ms.length → TS.Bd B ns → TS.Bd B ms → TS.code B ns = TS.code B ms → ns = ms
  | [], [], _, _, _, _ => rfl
  | x :: ns, y :: ms, hl, h1, h2, h => by
    have hl' : ns.length = ms.length := by simpa using hl
    have e : x = y := by
      apply Classical.byContradiction
      intro hn
      rcases Int.lt_or_gt_of_ne hn with q | q
      · have := TS.code_lt hl' h1.tail h2.tail q; omega
      · have := TS.code_lt hl'.symm h2.tail h1.tail q; omega
    subst e
    have : TS.code B ns = TS.code B ms := by
      have h' : x * B ^ ns.length + TS.code B ns = x * B ^ ms.length + TS.code B ms := h
      rw [hl'] at h'
      omega
    rw [code_inj hl' h1.tail h2.tail this]
def fitT (d : Nat) (ns : List Int) : Bool := decide (ns.length = d) && ns.all fun n => decide (0 ≤ n) && decide (n < 1024)
theorem fitT_bd {d : Nat} {ns : List Int} (h : fitT d ns = true) : ns.length = d ∧ TS.Bd 1024 ns := by
  unfold fitT at h
  simp only [Bool.and_eq_true, decide_eq_true_eq, List.all_eq_true] at h
  exact ⟨h.1, fun m hm => h.2 m hm⟩
theorem sorted_T {d : Nat} : ∀ {L Z : List (List Int)}, L.Perm Z → L.Pairwise leT → Z.Pairwise leT → (∀ x ∈ Z, fitT d x = true) → L = Z
  | [], Z, hp, _, _, _ => (List.nil_perm.mp hp).symm
  | x :: L, [], hp, _, _, _ => absurd hp (by simp)
  | x :: L, z :: Z, hp, h1, h2, hb => by
    rw [List.pairwise_cons] at h1 h2
    have hx : x ∈ z :: Z := hp.mem_iff.mp (List.mem_cons_self ..)
    have hz : z ∈ x :: L := hp.mem_iff.mpr (List.mem_cons_self ..)
    have a : leT z x := by
      rcases List.mem_cons.mp hx with rfl | m
      · exact Int.le_refl _
      · exact h2.1 x m
    have b : leT x z := by
      rcases List.mem_cons.mp hz with rfl | m
      · exact Int.le_refl _
      · exact h1.1 z m
    obtain ⟨l1, d1⟩ := fitT_bd (hb x hx)
    obtain ⟨l2, d2⟩ := fitT_bd (hb z (List.mem_cons_self ..))
    have e : x = z := code_inj (l1.trans l2.symm) d1 d2 (Int.le_antisymm b a)
    subst e
    rw [sorted_T (List.Perm.cons_inv hp) h1.2 h2.2 fun y hy => hb y (List.mem_cons_of_mem _ hy)]
def fSortA : List D → Option D
  | [.lst xs] => match asInts xs with
    | some ns => some (.lst ((sortI ns).map D.int))
    | none => match asTs xs with
      | some L => if L.length < 64 then (if L.all (fitT 2) = true then some (.lst ((sortT L).map tupZ)) else if L.all (fitT 3) = true then some (.lst ((sortT L).map tupZ)) else none) else none
      | none => none
  | [.tup xs] => (asInts xs).map fun ns => .lst ((sortI ns).map D.int)
  | _ => none
section
open SrtO
/-- sorted of a tuple -/
theorem sorted_tup {prog : Program} {w : World} {A : Around} {E : Value → Shared → Prop} {s : Shared} {l : Addr} {vs : List Value} {ltv : Value → Value → Bool} {Q : Value → Shared → Prop} (O : Swo ltv) (tup : IsTup s.heap l vs.toArray) (few : vs.length ≤ sizeLine)
    (cmp : 2 ≤ vs.length → ∀ (hp : Heap) (a : Addr), SortableO prog w A.in1.in1 { s with heap := hp } a vs ltv)
    (fin : ∀ (out : List Value) (h1 h2 : Heap) (ep : Nat), Srtd ltv out → Stb ltv out vs → (∀ b o, s.heap.get? b = some o → h1.get? b = some o) → (∀ b o, h1.get? b = some o → h2.get? b = some o) → h2.get? h1.objs.size = some (seqObj "list" out.toArray ep) → Q (.ref h1.objs.size) { s with heap := h2 }) :
    wpAny (model prog w) A (call (.builtin "sorted") [.ref l]) Q E s := by
  obtain ⟨ob, at1, cl1, num, dt1⟩ := tup
  refine Calls.call_function_entry kind_sorted plain_sorted entry_sorted (args_sorted1 (.ref l)) ?_
  unfold Builtin.«sorted»
  refine wpAny_bind (wpAny_pure (wpAny_bind (wpAny_collect_seq l (.inr rfl) at1 cl1 dt1 (fun h1 old => ?_) (by simpa using few))))
  have laid : (h1.push (seqObj "list" vs.toArray 0)).get? h1.objs.size = some (seqObj "list" vs.toArray 0) := Heap.get?_push_size _ rfl
  refine wpAny_bind (wpAny_newList ?_ (by simpa using few))
  refine wpAny_bind (wpAny_holding (wpAny_call_entry slot_list_sort ⟨_, laid, rfl⟩ entry_list_sort (list_sort_ord O (n := 0) laid few (fun two => cmp two _ _) fun out srt stb => ⟨_, rfl, ?_⟩) (args_list_sort (.ref h1.objs.size))))
  obtain ⟨ep, there⟩ := PyProof.Rows.sortedHeap_at (out := out.toArray) laid
  refine wpAny_pure ⟨_, rfl, fin out h1 _ ep srt stb old (fun b o e => ?_) there⟩
  have lt := Heap.lt_size e
  rw [PyProof.Rows.sortedHeap_old (fun z => absurd lt (by rw [z]; exact Nat.lt_irrefl _)) (by rw [Heap.size_push]; exact Nat.lt_succ_of_lt lt)]
  exact Heap.get?_push_of_some _ e
def rSortedTp (K : PySem.W.Frag) : List V → Hp → VK → Prop := fun vs H Q => ∃ (a : Addr) (ns : List Int), vs = [V.ref a] ∧ SqT K H a (ns.map V.int) ∧
  ∀ (ns' : List Int) (p : Addr), ns'.Perm ns → ns'.Pairwise (· ≤ ·) → H p = none → Q (.ref p) (upd H p (.lst (ns'.map V.int)))
theorem cr_sortedTp {X : Cx} : CallR X (.builtin "sorted") (rSortedTp X.K) := by
  intro pins s σ H vs us Q I r h
  obtain ⟨a, ns, rfl, hs, q⟩ := h
  obtain ⟨its, rv, hl, hz⟩ := I.tuple hs
  rw [Vals.ref1 r]
  have hi := rv.ints
  refine sorted_tup SrtO.swo_int hl (by rw [← rv.length]; exact hz) (fun h2 h₁ a' => SrtO.ints_sortable hi h2) fun out hp1 hp2 ep h1 h2 old1 old2 at2 => ?_
  obtain ⟨k1, k2, k3⟩ := SrtO.ints_out hi h1 h2
  have hlen : ((out.map SrtO.iv).map V.int).length ≤ sizeLine := by
    rw [List.length_map, k2.length_eq]
    rw [List.length_map] at hz
    exact hz
  have I1 : L2.Inv X pins σ H { s with heap := hp1, toks := s.toks } := I.kept old1
  exact ⟨.ref hp1.objs.size, upd H hp1.objs.size (.lst ((out.map SrtO.iv).map V.int)), I1.laid (t' := s.toks) old2 (Nat.le_refl _) ⟨hlen, out, ep, vals_of_ints k1, at2⟩, rfl, q _ _ k2 k3 I1.fresh⟩
end
section
variable {X : Cx} {mg : Str → Option Value} {K : PySem.W.Frag} {H : Hp} {M : List Addr} {pot : Option Addr}
theorem rpL_perm {H : Hp} {xs ys : List V} (p : ys.Perm xs) : ∀ {ds : List D}, RpL mg K H xs ds → ∃ es, es.Perm ds ∧ RpL mg K H ys es := by
  induction p with
  | nil => intro ds r; exact ⟨ds, .refl _, r⟩
  | cons x _ ih =>
    intro ds r
    cases r with
    | cons a t =>
      obtain ⟨es, h1, h2⟩ := ih t
      exact ⟨_, h1.cons _, .cons a h2⟩
  | swap x y l =>
    intro ds r
    cases r with
    | cons a t => cases t with
      | cons b t => exact ⟨_, .swap _ _ _, .cons b (.cons a t)⟩
  | trans _ _ ih1 ih2 =>
    intro ds r
    obtain ⟨es, h1, h2⟩ := ih2 r
    obtain ⟨fs, h3, h4⟩ := ih1 h2
    exact ⟨fs, h3.trans h1, h4⟩
/-- data that are tuples of ints, as the heap has them -/
theorem rp_tupZ {v : V} {ns : List Int} (r : Rp mg K H v (tupZ ns)) : TupI K H v ns := by
  obtain ⟨p, xs, rfl, h1, h2⟩ := rb_tup (pot := none) (M := []) (H := H) (.inl (r.mono fun a o h => less_some.mpr ⟨by simp, h⟩))
  exact ⟨p, rfl, sqT_mono (H := less H []) less_le (by rw [← h2.iz]; exact h1)⟩
theorem sq_le {a : Addr} {xs : List V} (h : SqT K (less H M) a xs) : SqT K H a xs := sqT_mono less_le h
theorem tupI_le {v : V} {ns : List Int} (h : TupI K (less H M) v ns) : TupI K H v ns := by
  obtain ⟨t, e, h⟩ := h
  exact ⟨t, e, sq_le h⟩
theorem pair_codes : ∀ {ys : List V} {L : List (List Int)}, RpL mg K (less H M) ys (L.map tupZ) → ys.Pairwise (fun x y => ∀ n m, TupI K H x n → TupI K H y m → TS.code 1024 n ≤ TS.code 1024 m) → L.Pairwise leT
  | [], [], _, _ => .nil
  | y :: ys, n :: L, r, h => by
    cases r with
    | cons a t =>
      rw [List.pairwise_cons] at h ⊢
      refine ⟨fun m hm => ?_, pair_codes t h.2⟩
      obtain ⟨i, hi⟩ := List.getElem?_of_mem hm
      obtain ⟨w, e1, e2⟩ := t.get (i := i) (d := tupZ m) (by rw [List.getElem?_map, hi]; rfl)
      exact h.1 w (List.mem_of_getElem? e1) n m (tupI_le (rp_tupZ a)) (tupI_le (rp_tupZ e2))
theorem perm_unmap {es : List D} {L : List (List Int)} (h : es.Perm (L.map tupZ)) : ∃ L' : List (List Int), es = L'.map tupZ ∧ L'.Perm L := by
  have hinj : ∀ es : List D, (∀ e ∈ es, ∃ n, e = tupZ n) → ∃ L' : List (List Int), es = L'.map tupZ := fun es => by
    induction es with
    | nil => intro _; exact ⟨[], rfl⟩
    | cons e es ih =>
      intro he
      obtain ⟨n, rfl⟩ := he e (List.mem_cons_self ..)
      obtain ⟨L', rfl⟩ := ih fun x hx => he x (List.mem_cons_of_mem _ hx)
      exact ⟨n :: L', rfl⟩
  obtain ⟨L', rfl⟩ := hinj es fun e he => by
    obtain ⟨n, _, rfl⟩ := List.mem_map.mp (h.mem_iff.mp he)
    exact ⟨n, rfl⟩
  refine ⟨L', rfl, ?_⟩
  have hi : Function.Injective tupZ := fun a b e => by
    have e' : a.map D.int = b.map D.int := by simpa [tupZ] using e
    exact (List.map_inj_right (fun x y h => by cases h; rfl)).mp e'
  have back : ∀ l : List (List Int), (l.map tupZ).map (fun d => ((match d with | .tup xs => (asInts xs).getD [] | _ => []) : List Int)) = l := fun l => by
    rw [List.map_map]
    conv => rhs; rw [← List.map_id l]
    apply List.map_congr_left
    intro ns _
    have : asInts (ns.map D.int) = some ns := by
      induction ns with
      | nil => rfl
      | cons x ns ih => simp [asInts, ih]
    simp [tupZ, this]
  have := h.map (fun d => ((match d with | .tup xs => (asInts xs).getD [] | _ => []) : List Int))
  rwa [back, back] at this
theorem sortU_ok {d : Nat} {v : V} {L : List (List Int)} (hL : L.length < 64) (hf : L.all (fitT d) = true) (ph : ∀ a, pot = some a → H a ≠ none) (h : Rb mg K pot M H v (.lst (L.map tupZ))) {Q : VK}
    (q : ∀ w H', Same H H' → RpR mg K .o pot M H H' w (.lst ((sortT L).map tupZ)) → Q w H') : rSortU K d 1024 [v] H Q := by
  obtain ⟨p, xs, rfl, h1, r1⟩ := rb_lst h
  have hf' : ∀ x ∈ L, fitT d x = true := List.all_eq_true.mp hf
  refine ⟨p, xs, rfl, .inl (.inl h1), by rw [r1.length, List.length_map]; exact hL, fun x hx => ?_, fun ys c hp hs hn => ?_⟩
  · obtain ⟨i, hi⟩ := List.getElem?_of_mem hx
    obtain ⟨e, e1, e2⟩ := r1.getV hi
    rw [List.getElem?_map, Option.map_eq_some_iff] at e1
    obtain ⟨ns, e3, rfl⟩ := e1
    obtain ⟨l1, l2⟩ := fitT_bd (hf' ns (List.mem_of_getElem? e3))
    exact ⟨ns, tupI_le (rp_tupZ e2), l1, l2⟩
  · obtain ⟨es, p1, r2⟩ := rpL_perm hp r1
    obtain ⟨L', rfl, p2⟩ := perm_unmap p1
    have e : L' = sortT L := sorted_T (d := d) (p2.trans (sortT_perm L).symm) (pair_codes r2 hs) (sortT_sorted L) fun x hx => hf' x ((sortT_perm L).mem_iff.mp hx)
    subst e
    exact q _ _ (same_upd hn) (new_lst ph hn r2)
theorem c_sortA : CallOk X (.builtin "sorted") (fun vs H Q => rSortedI X.K vs H Q ∨ rSortU X.K 2 1024 vs H Q ∨ rSortU X.K 3 1024 vs H Q ∨ rSortedTp X.K vs H Q) [.b] .o fSortA := ⟨cr_sortedI.or ((cr_sortT (by decide)).or ((cr_sortT (by decide)).or cr_sortedTp)), fun pot M H vs ds z al pm ph a hz Q q => by
  obtain ⟨v, d, rfl, rfl, h⟩ := arg1 a
  unfold fSortA at hz
  split at hz
  · rename_i xs e
    cases e
    split at hz
    · rename_i ns en
      cases hz
      have hz' : fSortI [.lst xs] = some (.lst ((sortI ns).map D.int)) := by simp [fSortI, onInts, en]
      exact .inl (c_sortI.2 pot M H _ _ _ al pm ph (.cons h .nil) hz' Q q)
    · split at hz
      · rename_i L eL
        rw [asTs_eq eL] at h
        split at hz
        · rename_i hl
          split at hz
          · rename_i h2
            cases hz
            exact .inr (.inl (sortU_ok hl h2 ph h q))
          · split at hz
            · rename_i h3
              cases hz
              exact .inr (.inr (.inl (sortU_ok hl h3 ph h q)))
            · cases hz
        · cases hz
      · cases hz
  · rename_i xs e
    cases e
    cases en : asInts xs with
    | none => rw [en] at hz; cases hz
    | some ns =>
      rw [en] at hz
      cases hz
      have hx := asInts_eq en
      subst hx
      obtain ⟨ad, ys, rfl, hq, r1⟩ := rb_tup h
      have hy := r1.iz
      subst hy
      have e : DL.iz ns = ns.map D.int := rfl
      exact .inr (.inr (.inr ⟨ad, ns, rfl, sqT_mono less_le hq, fun ns' p hp hs hn => by
        have : ns' = sortI ns := sorted_same (hp.trans (sortI_perm ns).symm) hs (sortI_sorted ns)
        subst this
        exact q _ _ (same_upd hn) (new_lst ph hn (RpL.of_ints _))⟩))
  · cases hz⟩
end
@[simp] theorem fSortA_izT (ns : List Int) : fSortA [.tup (ns.map D.int)] = some (.lst ((sortI ns).map D.int)) := by
  simp [fSortA, asInts_iz]
@[simp] theorem fSortA_iz (ns : List Int) : fSortA [.lst (ns.map D.int)] = some (.lst ((sortI ns).map D.int)) := by
  simp [fSortA, asInts_iz]
end DL
set_option maxHeartbeats 4000000
namespace DL
open PySem PySem.Spec PyProof.Rows L2
def dgetI : List DKey → List D → Int → Option D
  | .inl (.inl j) :: ks, x :: xs, i => if j = i then some x else dgetI ks xs i
  | _ :: ks, _ :: xs, i => dgetI ks xs i
  | _, _, _ => none
def opInK : D → D → Option D
  | .int i, .dic (.inl k :: ks) xs => some (.bl (dgetI (.inl k :: ks) xs i).isSome)
  | _, _ => none
def opNotInK : D → D → Option D
  | .int i, .dic (.inl k :: ks) xs => some (.bl (!(dgetI (.inl k :: ks) xs i).isSome))
  | _, _ => none
/-- what may be locked -/
inductive Lkb : HO → Prop
  | k (kvs : List (Key × V)) : Lkb (.dK kvs)
  | t (kvs : List (List Key × V)) : Lkb (.dT kvs)
/-- two heaps that differ in locks alone -/
def Sim (H H' : Hp) : Prop := ∀ a, H a = H' a ∨ ∃ od u, Lkb u ∧ ((H a = some u ∧ H' a = some (.frz od u)) ∨ (H' a = some u ∧ H a = some (.frz od u)))
section
variable {mg : Str → Option Value} {K : PySem.W.Frag} {H H' : Hp}
theorem Sim.same (s : Sim H H') {a : Addr} {o : HO} (h : H a = some o) (n1 : ¬ Lkb o) (n2 : ∀ od u, Lkb u → o ≠ .frz od u) : H' a = some o := by
  rcases s a with e | ⟨od, u, hu, ⟨e, _⟩ | ⟨_, e⟩⟩
  · rw [← e]; exact h
  · rw [h] at e; cases e; exact (n1 hu).elim
  · rw [h] at e; cases e; exact (n2 _ _ hu rfl).elim
theorem Sim.rd (s : Sim H H') {a : Addr} {u : HO} (h : Rd H a u) (n1 : ¬ Lkb u) (n2 : ∀ od u', Lkb u' → u ≠ .frz od u') : Rd H' a u := by
  rcases h with h | ⟨o, h⟩
  · exact .inl (s.same h n1 n2)
  · refine .inr ⟨o, s.same h (fun e => by cases e) fun od u' hu' e => ?_⟩
    cases e
    exact n1 hu'
end
end DL
set_option maxHeartbeats 4000000
namespace DL
open PySem PySem.Spec PyProof.Rows L2
end DL
set_option maxHeartbeats 4000000
namespace DL
open PySem PySem.Spec PyProof.Rows L2
def tLook (ft : Et) : Et := fun ρ π => match ft ρ π with
  | .ok x => .ok x
  | _ => .stuck
@[simp] theorem tLook_ap (ft : Et) (ρ : Rho) (π : Pot) : tLook ft ρ π = match ft ρ π with
  | .ok x => .ok x
  | _ => .stuck := rfl
/-- a test that looks at own lists -/
theorem dt_look {X : Cx} {E : XK} {Γ : List Md} {e : Expr} {tt : TT} {ft : Et} (h : DT X E (Γ.map lookM) e tt ft) : DT X E Γ e tt (tLook ft) := ⟨h.pt, fun pot M σ H ρ π I p Q q => by
  refine h.sem pot pot.toList σ H ρ π (env_look I) p Q ?_
  unfold tLook at q
  cases ef : ft ρ π with
  | ok y =>
    rw [ef] at q
    exact q
  | err c ns xs π' =>
    rw [ef] at q
    exact q.elim
  | stuck =>
    rw [ef] at q
    exact q.elim⟩
end DL
set_option maxHeartbeats 4000000
namespace DL
open PySem PySem.Spec PyProof.Rows L2
end DL
set_option maxHeartbeats 4000000
namespace DL
open PySem PySem.Spec PyProof.Rows L2
end DL
set_option maxHeartbeats 4000000
namespace DL
open PySem PySem.Spec PyProof.Rows L2
end DL
set_option maxHeartbeats 4000000
namespace DL
open PySem PySem.Spec PyProof.Rows L2
end DL
set_option maxHeartbeats 4000000
namespace DL
open PySem PySem.Spec PyProof.Rows L2
end DL
set_option maxHeartbeats 4000000
namespace DL
open PySem PySem.Spec PyProof.Rows L2
end DL
set_option maxHeartbeats 4000000
namespace DL
open PySem PySem.Spec PyProof.Rows L2
end DL
set_option maxHeartbeats 4000000
namespace DL
open PySem PySem.Spec PyProof.Rows L2
end DL
set_option maxHeartbeats 4000000
namespace DL
open PySem PySem.Spec PyProof.Rows L2
end DL
set_option maxHeartbeats 4000000
namespace DL
open PySem PySem.Spec PyProof.Rows L2
end DL
set_option maxHeartbeats 4000000
namespace DL
open PySem PySem.Spec PyProof.Rows L2
end DL
set_option maxHeartbeats 4000000
namespace DL
open PySem PySem.Spec PyProof.Rows L2
end DL
set_option maxHeartbeats 2000000
namespace DL
open PySem PySem.Spec PyProof.Rows L2
def GrowM (q : Addr) (pot : Option Addr) (H H' : Hp) : Prop := ∀ a o, pot ≠ some a → a ≠ q → H a = some o → H' a = some o
theorem GrowM.refl {q : Addr} {pot : Option Addr} {H : Hp} : GrowM q pot H H := fun _ _ _ _ h => h
theorem GrowM.of {q : Addr} {pot : Option Addr} {H H' : Hp} (g : Grow pot H H') : GrowM q pot H H' := fun a o n _ h => g a o n h
theorem GrowM.trans {q : Addr} {pot : Option Addr} {H H1 H2 : Hp} (g : GrowM q pot H H1) (h : GrowM q pot H1 H2) : GrowM q pot H H2 := fun a o n m e => h a o n m (g a o n m e)
end DL
namespace DL
open PySem PySem.Spec PyProof.Rows L2
end DL
set_option maxHeartbeats 4000000
namespace DL
open PySem PySem.Spec PyProof.Rows L2
def joinD : List Ed → Str → Ed
  | [], acc => fun _ π => .ok (.str acc, π)
  | f :: fs, acc => fun ρ π => (f ρ π).bind fun x => match x.1 with
    | .str y => if (acc ++ y).length ≤ sizeLine then joinD fs (acc ++ y) ρ x.2 else .stuck
    | _ => .stuck
section
variable {X : Cx} {E : XK} {Γ : List Md} {pos p : Pos} {k j : Nat} {e : Expr} {te : TE} {fe : Ed}
inductive DJ (X : Cx) (E : XK) (Γ : List Md) : List Expr → List TE → List Ed → Prop where
  | nil : DJ X E Γ [] [] []
  | cons {e : Expr} {t : TE} {f : Ed} {es : List Expr} {ts : List TE} {fs : List Ed} (h : DE X E .f Γ e t f) (r : DJ X E Γ es ts fs) : DJ X E Γ (e :: es) (t :: ts) (f :: fs)
theorem DJ.sem {es : List Expr} {ts : List TE} {fs : List Ed} (h : DJ X E Γ es ts fs) : ∀ (acc : Str) pot M σ H ρ π, EnvOk X.mg X.K Γ pot M σ H ρ → PotAt pot H π → ∀ Q : Str → Hp → Prop, Post X.mg X.K .f pot M H (joinD fs acc ρ π) (fun v H' => ∀ y, v = .str y → Q y H') E → tJs ts acc σ H Q := by
  induction h with
  | nil => exact fun acc pot M σ H ρ π I p Q h => h (.str acc) H .refl p (.str _) acc rfl
  | @cons e t f es ts fs he r ih =>
    intro acc pot M σ H ρ π I p Q h
    refine Post.seq (r' := .f) (te := t σ H) h p (fun Q' hq => he.sem pot M σ H ρ π I p Q' hq) fun d π1 v H1 _ g1 p1 r1 h1 => ?_
    dsimp only at h1
    cases d with
    | str y =>
      simp only at h1
      split at h1
      · rename_i hl
        cases (show Rp X.mg X.K (less H1 M) v (.str y) from r1)
        exact ⟨y, rfl, hl, ih (acc ++ y) pot M σ H1 ρ π1 (I.grow g1 p1) p1 Q h1⟩
      · exact h1.elim
    | _ => exact h1.elim
variable {c qual x : Str} {st : Stmt} {ps : List Str} {m : Fd}
end
end DL
set_option maxHeartbeats 4000000
namespace DL
open PySem PySem.Spec PyProof.Rows L2
end DL
set_option maxHeartbeats 4000000
namespace DL
open PySem PySem.Spec PyProof.Rows L2
end DL
set_option maxHeartbeats 4000000
namespace DL
open PySem PySem.Spec PyProof.Rows L2
end DL
set_option maxHeartbeats 4000000
namespace DL
open PySem PySem.Spec PyProof.Rows L2
section
variable {X : Cx} {E : XK} {Γ : List Md} {pos : Pos} {k j : Nat} {a b : Expr} {ta tb : TE} {fa fb : Ed} {c qual : Str} {st : Stmt} {ps : List Str} {m : Fd}
def neTO (c : Str) (m : Fd) (d e : D) (π : Pot) : Res (D × Pot) := match d, e with
  | .tup [.int i, x], .tup [.int j, y] => if i = j ∧ isInO c x = true ∧ isInO c y = true then (match m [x, y] π with
    | .ok (.bl true, π') => if π' = π then .ok (.bl false, π) else .stuck
    | _ => .stuck) else .stuck
  | _, _ => .stuck
def eNeTO (c : Str) (m : Fd) (a b : Ed) : Ed := fun ρ π => (a ρ π).bind fun x => (b ρ x.2).bind fun y => neTO c m x.1 y.1 y.2
end
@[simp] theorem eNeTO_ap (c : Str) (m : Fd) (a b : Ed) (ρ : Rho) (π : Pot) : eNeTO c m a b ρ π = (a ρ π).bind fun x => (b ρ x.2).bind fun y => neTO c m x.1 y.1 y.2 := rfl
end DL
set_option maxHeartbeats 4000000
namespace DL
open PySem PySem.Spec PyProof.Rows L2
end DL
set_option maxHeartbeats 4000000
namespace DL
open PySem PySem.Spec PyProof.Rows L2
theorem dfn_stuck {P : Program} {w : World} {K : PySem.W.Frag} {mg : Str → Option Value} {base : Heap} {k : Nat} {x : Str} {st : Stmt} {ps : List Str} {ks : List Ak} {r : Rm} (hf : ∃ f fd, mg x = some (.ref f) ∧ Fun K x x st f fd) : DFn P w K mg base k x st ps ks r (fun _ _ => .stuck) := by
  obtain ⟨f, fd, h1, h2⟩ := hf
  refine ⟨f, fd, h1, h2, ⟨fun vs H Q E h => ?_, fun A outer s H args us vs Q E _ _ _ _ _ h => ?_⟩⟩
  · obtain ⟨_, _, _, _, _, _, _, _, _, h⟩ := h
    exact h.elim
  · obtain ⟨_, _, _, _, _, _, _, _, _, h⟩ := h
    exact h.elim
end DL
set_option maxHeartbeats 2000000
namespace DL
open PySem PySem.Spec PyProof.Rows L2
section
open PySem.SeqAt
theorem firstLt_lex : ∀ (ns ms : List Int), firstLt (fun j => ns.getD j 0 == ms.getD j 0) (fun j => decide (ns.getD j 0 < ms.getD j 0)) (decide (ns.length < ms.length)) (List.range (min ns.length ms.length)) = HT.lexLt ns ms
  | [], [] => rfl
  | [], m :: ms => by simp [firstLt, HT.lexLt_nil_cons]
  | n :: ns, [] => by simp [firstLt, HT.lexLt_cons_nil]
  | n :: ns, m :: ms => by
    have ih := firstLt_lex ns ms
    have e : min (n :: ns).length (m :: ms).length = min ns.length ms.length + 1 := by simp [Nat.succ_min_succ]
    rw [e, List.range_succ_eq_map, HT.lexLt_cons]
    by_cases q : n = m
    · rw [if_pos q, firstLt_yes (by simp [q]), PySem.W.firstLt_map]
      simpa using ih
    · rw [if_neg q, firstLt_no (by simpa using q)]
      simp
/-- an int list of the heap -/
def IsLi (h : Heap) (v : Value) (ns : List Int) : Prop := ∃ (a : Addr) (its : Array Value), v = .ref a ∧ h.IsList a its ∧ IntsAre its.toList ns
section
variable {prog : Program} {w : World} {A : Around} {E : Value → Shared → Prop} {s : Shared}
theorem li_at {its : Array Value} {ns : List Int} (i : IntsAre its.toList ns) {j : Nat} (h : j < its.size) : ∃ t, its[j] = .int (ns.getD j 0) t :=
  PyProof.Rows.IntsAre.int_at i _ _ (by simp [h])
theorem lt_li {v u : Value} {ns ms : List Int} {Q : Bool → Shared → Prop} (hu : A.units < cLine) (hv : IsLi s.heap v ns) (hw : IsLi s.heap u ms) (h : Q (HT.lexLt ns ms) s) : wpAny (model prog w) A (keyLt' oneType' v u) Q E s := by
  obtain ⟨a, its, rfl, ha, ia⟩ := hv
  obtain ⟨b, its2, rfl, hb, ib⟩ := hw
  have e1 : its.size = ns.length := by rw [← Array.length_toList]; exact ia.length
  have e2 : its2.size = ms.length := by rw [← Array.length_toList]; exact ib.length
  rw [keyLt'_oneType, PyProof.Rows.oneLt'_eq]
  simp only [if_true]
  refine wpAny_bind (wpAny_cRoomFor hu ?_)
  obtain ⟨o, ho, hc, hd⟩ := id ha
  refine wpAny_bind (wpAny_callSpecialIfBound?_slot (T := "list") ⟨_, ho, hc⟩ F.slot_list_lt (call_list_lt (e := fun j => ns.getD j 0 == ms.getD j 0) (r := fun j => decide (ns.getD j 0 < ms.getD j 0)) ha hb (fun j j1 j2 => ?_) (fun j j1 j2 hj => ?_) ?_))
  · obtain ⟨t, et⟩ := li_at ia j1
    obtain ⟨t', et'⟩ := li_at ib j2
    rw [et, et']
    exact SeqAt.EqAt.int_int _ _ _ _
  · obtain ⟨t, et⟩ := li_at ia j1
    obtain ⟨t', et'⟩ := li_at ib j2
    rw [et, et']
    exact fun _ _ _ _ q => PyProof.Rows.lt_int q
  · rw [e1, e2, firstLt_lex]
    exact wpAny_truthy_bool h
theorem li_type {h : Heap} {M : Model} {v : Value} {ns : List Int} (x : IsLi h v ns) : PySem.W.Looks M h (typeOf v) (.type "list") := by
  obtain ⟨a, its, rfl, ⟨⟨cls, dd, data, sl⟩, ho, hc, _⟩, _⟩ := x
  simp only at hc
  subst hc
  exact (PySem.W.Looks.ld ho).andThen .now
theorem li_keeps {h h' : Heap} {v : Value} {ns : List Int} (x : IsLi h v ns) (k : ∀ b o, v = .ref b → h.get? b = some o → h'.get? b = some o) : IsLi h' v ns := by
  obtain ⟨a, its, rfl, ⟨o, ho, r⟩, i⟩ := x
  exact ⟨a, its, rfl, ⟨o, k _ _ rfl ho, r⟩, i⟩
theorem li_sortable {a : Addr} {vs : List Value} {k : Value → List Int} (h2 : 2 ≤ vs.length) (hu : A.units < cLine) (hv : ∀ v ∈ vs, IsLi s.heap v (k v)) (ha : ∀ v ∈ vs, v ≠ .ref a) :
    SrtO.SortableO prog w A s a vs fun v u => HT.lexLt (k v) (k u) := by
  intro h' keep
  have hv' : ∀ v ∈ vs, IsLi h' v (k v) := fun v hm => li_keeps (hv v hm) fun b o e g => keep b o (fun z => ha v hm (by rw [e, z])) g
  refine ⟨oneType', fun Q E hq => ?_, fun p q hp hq => ?_⟩
  · exact PySem.W.kas_kind (s := { s with heap := h' }) (T := .type "list") h2 (fun v hm => li_type (hv' v hm)) (by decide) (by decide) hq
  · exact lt_li (Q := fun r s' => s' = { s with heap := h' } ∧ r = HT.lexLt (k p.1) (k q.1)) (E := fun _ _ => False) hu (hv' p.1 hp) (hv' q.1 hq) ⟨rfl, rfl⟩
end
end
/-- the ints that a list of H holds -/
def lsI (H : Hp) : V → List Int
  | .ref t => match H t with
    | some (.lst xs) => xs.map fun v => match v with | .int i => i | _ => 0
    | _ => []
  | _ => []
theorem lsI_ref {H : Hp} {t : Addr} {ns : List Int} (h : H t = some (.lst (ns.map V.int))) : lsI H (.ref t) = ns := by
  simp only [lsI, h, List.map_map]
  exact (List.map_congr_left fun _ _ => rfl).trans (List.map_id ns)
/-- sorted(xs), xs a list of lists of ints -/
def rSortLL : List V → Hp → VK → Prop := fun vs H Q => ∃ (a : Addr) (xs : List V), vs = [V.ref a] ∧ H a = some (.lst xs) ∧ (∀ x ∈ xs, ∃ t ns, x = .ref t ∧ H t = some (.lst (List.map V.int ns))) ∧
  ∀ (ys : List V) (p : Addr), ys.Perm xs → ys.Pairwise (fun x y => HT.lexLt (lsI H y) (lsI H x) = false) → H p = none → Q (.ref p) (upd H p (.lst ys))
theorem cr_sortLL {X : Cx} (hu : X.A.units + 65 < cLine) : CallR X (.builtin "sorted") rSortLL := by
  intro pins s σ H vs us Q I r h
  obtain ⟨a, xs, rfl, hs, hx, q⟩ := h
  obtain ⟨hz, its, n, rv, hob⟩ := I.hok a _ hs
  rw [Vals.ref1 r]
  obtain ⟨e1, e2⟩ := bkV_refs rv fun x m => by
    obtain ⟨t, ns, e, _⟩ := hx x m
    exact ⟨t, e⟩
  have hl : s.heap.IsList a its.toArray := ⟨_, hob, rfl, n, rfl⟩
  have hk : ∀ u ∈ its, IsLi s.heap u (lsI H (bkV u)) := fun u hm => by
    obtain ⟨t, rfl⟩ := e2 u hm
    have hm' : V.ref t ∈ xs := by
      rw [e1]
      exact List.mem_map.mpr ⟨_, hm, rfl⟩
    obtain ⟨t', ns, e, ht⟩ := hx _ hm'
    cases e
    obtain ⟨_, its2, n2, r2, ho2⟩ := I.hok t _ ht
    rw [show bkV (.ref t) = V.ref t from rfl, lsI_ref ht]
    exact ⟨t, its2.toArray, rfl, ⟨_, ho2, rfl, n2, rfl⟩, by simpa using r2.ints⟩
  refine SrtO.sorted_ord (NtL.swo_lexL fun u => lsI H (bkV u)) hl (by rw [← rv.length]; exact hz) (fun h2 h₁ a' ha' kk => ?_) fun out h1 h2 => ?_
  · refine li_sortable (s := { s with heap := h₁ }) h2 (by show X.A.units + 1 + 1 < cLine; omega) (fun v hv => li_keeps (hk v hv) fun b o _ g => (kk b o g).2) fun v hv e => ?_
    obtain ⟨t, its2, e', ⟨o, ho, _⟩, _⟩ := hk v hv
    rw [e] at e'
    cases e'
    exact (kk _ o ho).1 rfl
  · obtain ⟨ep, he'⟩ := PyProof.Rows.sortedAll_at s.heap its out.toArray
    have h3 : ∀ u ∈ out, ∃ a, u = Value.ref a := fun u hu => e2 u (h2.perm.mem_iff.mp hu)
    have hp : (out.map bkV).Perm xs := by
      rw [e1]
      exact h2.perm.map bkV
    have hlen : (out.map bkV).length ≤ sizeLine := by
      rw [hp.length_eq]
      exact hz
    exact ⟨.ref _, upd H (s.heap.objs.size + 1) (.lst (out.map bkV)), I.laid (t' := s.toks) (fun _ _ => PyProof.Rows.sortedAll_old) (Nat.le_succ _) ⟨hlen, out, ep, bkV_vals h3, he'⟩, rfl, q _ _ hp (List.pairwise_map.mpr (h1.imp fun {x y} z => z)) (I.hok.fresh (Nat.le_succ _))⟩
def lstZ (ns : List Int) : D := .lst (ns.map D.int)
def asLs : List D → Option (List (List Int))
  | [] => some []
  | .lst xs :: r => (asInts xs).bind fun ns => (asLs r).map (ns :: ·)
  | _ => none
theorem asLs_eq : ∀ {ds : List D} {L : List (List Int)}, asLs ds = some L → ds = L.map lstZ
  | [], L, h => by cases h; rfl
  | d :: r, L, h => by
    cases d with
    | lst xs =>
      simp only [asLs, Option.bind_eq_some_iff, Option.map_eq_some_iff] at h
      obtain ⟨ns, h1, L', h2, rfl⟩ := h
      rw [List.map_cons, ← asLs_eq h2, lstZ, ← asInts_eq h1]
    | _ => cases h
@[simp] theorem asLs_lstZ : ∀ L : List (List Int), asLs (L.map lstZ) = some L
  | [] => rfl
  | ns :: L => by
    show asLs (.lst (ns.map D.int) :: L.map lstZ) = _
    simp [asLs, asLs_lstZ L]
def insL (x : List Int) : List (List Int) → List (List Int)
  | [] => [x]
  | y :: r => if HT.lexLt y x = true then y :: insL x r else x :: y :: r
def sortL : List (List Int) → List (List Int)
  | [] => []
  | x :: r => insL x (sortL r)
theorem insL_perm (x : List Int) : ∀ L, (insL x L).Perm (x :: L)
  | [] => .refl _
  | y :: r => by
    unfold insL
    split
    · exact ((insL_perm x r).cons y).trans (.swap x y r)
    · exact .refl _
theorem sortL_perm : ∀ L, (sortL L).Perm L
  | [] => .refl _
  | x :: r => (insL_perm x _).trans ((sortL_perm r).cons x)
def leL (x y : List Int) : Prop := HT.lexLt y x = false
theorem leL_trans {x y z : List Int} (h1 : leL x y) (h2 : leL y z) : leL x z := NtL.lex_tr _ _ _ h1 h2
theorem insL_sorted (x : List Int) : ∀ L, L.Pairwise leL → (insL x L).Pairwise leL
  | [], _ => List.pairwise_singleton ..
  | y :: r, h => by
    rw [List.pairwise_cons] at h
    unfold insL
    split
    · rename_i q
      rw [List.pairwise_cons]
      refine ⟨fun z hz => ?_, insL_sorted x r h.2⟩
      rcases List.mem_cons.mp ((insL_perm x r).mem_iff.mp hz) with rfl | hz
      · exact NtL.lex_asym _ _ q
      · exact h.1 z hz
    · rename_i q
      have q' : leL x y := by
        show HT.lexLt y x = false
        simpa using q
      rw [List.pairwise_cons, List.pairwise_cons]
      refine ⟨fun z hz => ?_, h⟩
      rcases List.mem_cons.mp hz with rfl | hz
      · exact q'
      · exact leL_trans q' (h.1 z hz)
theorem sortL_sorted : ∀ L, (sortL L).Pairwise leL
  | [] => .nil
  | x :: r => insL_sorted x _ (sortL_sorted r)
theorem leL_anti : ∀ {x y : List Int}, leL x y → leL y x → x = y
  | [], [], _, _ => rfl
  | [], y :: ys, h, h' => by unfold leL at h'; rw [HT.lexLt_nil_cons] at h'; cases h'
  | x :: xs, [], h, h' => by unfold leL at h; rw [HT.lexLt_nil_cons] at h; cases h
  | x :: xs, y :: ys, h, h' => by
    unfold leL at h h'
    rw [HT.lexLt_cons] at h h'
    by_cases e : x = y
    · subst e
      rw [if_pos rfl] at h h'
      rw [leL_anti h h']
    · rw [if_neg (Ne.symm e)] at h
      rw [if_neg e] at h'
      have a := of_decide_eq_false h
      have b := of_decide_eq_false h'
      exact absurd (by omega) e
theorem lex_irr (x : List Int) : HT.lexLt x x = false := (NtL.swo_lexL id).refl x
theorem sorted_L : ∀ {L Z : List (List Int)}, L.Perm Z → L.Pairwise leL → Z.Pairwise leL → L = Z
  | [], Z, hp, _, _ => (List.nil_perm.mp hp).symm
  | x :: L, [], hp, _, _ => absurd hp (by simp)
  | x :: L, z :: Z, hp, h1, h2 => by
    rw [List.pairwise_cons] at h1 h2
    have hx : x ∈ z :: Z := hp.mem_iff.mp (List.mem_cons_self ..)
    have hz : z ∈ x :: L := hp.mem_iff.mpr (List.mem_cons_self ..)
    have a : leL z x := by
      rcases List.mem_cons.mp hx with rfl | m
      · exact lex_irr _
      · exact h2.1 x m
    have b : leL x z := by
      rcases List.mem_cons.mp hz with rfl | m
      · exact lex_irr _
      · exact h1.1 z m
    have e : x = z := leL_anti b a
    subst e
    rw [sorted_L (List.Perm.cons_inv hp) h1.2 h2.2]
def fSortB (ds : List D) : Option D := match ds with
  | [.lst xs] => match asInts xs with
    | some ns => some (.lst ((sortI ns).map D.int))
    | none => match asLs xs with
      | some L => some (.lst ((sortL L).map lstZ))
      | none => fSortA [.lst xs]
  | _ => fSortA ds
@[simp] theorem fSortB_iz (ns : List Int) : fSortB [.lst (ns.map D.int)] = some (.lst ((sortI ns).map D.int)) := by
  simp [fSortB, asInts_iz]
@[simp] theorem fSortB_tup (xs : List D) : fSortB [.tup xs] = fSortA [.tup xs] := rfl
theorem asInts_lstZ (x : List Int) (L : List (List Int)) : asInts ((x :: L).map lstZ) = none := rfl
theorem fSortB_lz (L : List (List Int)) : fSortB [.lst (L.map lstZ)] = some (.lst ((sortL L).map lstZ)) := by
  cases L with
  | nil =>
    have e : sortI [] = [] := List.perm_nil.mp (sortI_perm [])
    simp [fSortB, asInts, e, sortL]
  | cons x L => simp [fSortB, asInts_lstZ, ← List.map_cons]
section
variable {X : Cx} {E : XK} {k : Nat} {mg : Str → Option Value} {K : PySem.W.Frag} {H : Hp} {M : List Addr} {pot : Option Addr}
theorem rp_lstZ {v : V} {ns : List Int} (r : Rp mg K (less H M) v (lstZ ns)) : ∃ t, v = .ref t ∧ H t = some (.lst (ns.map V.int)) := by
  obtain ⟨p, xs, rfl, h1, h2⟩ := rb_lst (pot := none) (.inl r)
  exact ⟨p, rfl, by rw [h1, h2.iz]⟩
theorem perm_unmapL {es : List D} {L : List (List Int)} (h : es.Perm (L.map lstZ)) : ∃ L' : List (List Int), es = L'.map lstZ ∧ L'.Perm L := by
  have hinj : ∀ es : List D, (∀ e ∈ es, ∃ n, e = lstZ n) → ∃ L' : List (List Int), es = L'.map lstZ := fun es => by
    induction es with
    | nil => intro _; exact ⟨[], rfl⟩
    | cons e es ih =>
      intro he
      obtain ⟨n, rfl⟩ := he e (List.mem_cons_self ..)
      obtain ⟨L', rfl⟩ := ih fun x hx => he x (List.mem_cons_of_mem _ hx)
      exact ⟨n :: L', rfl⟩
  obtain ⟨L', rfl⟩ := hinj es fun e he => by
    obtain ⟨n, _, rfl⟩ := List.mem_map.mp (h.mem_iff.mp he)
    exact ⟨n, rfl⟩
  refine ⟨L', rfl, ?_⟩
  have back : ∀ l : List (List Int), (l.map lstZ).map (fun d => ((match d with | .lst xs => (asInts xs).getD [] | _ => []) : List Int)) = l := fun l => by
    rw [List.map_map]
    conv => rhs; rw [← List.map_id l]
    apply List.map_congr_left
    intro ns _
    simp [lstZ]
  have := h.map (fun d => ((match d with | .lst xs => (asInts xs).getD [] | _ => []) : List Int))
  rwa [back, back] at this
theorem pair_lex : ∀ {ys : List V} {L : List (List Int)}, RpL mg K (less H M) ys (L.map lstZ) → ys.Pairwise (fun x y => HT.lexLt (lsI H y) (lsI H x) = false) → L.Pairwise leL
  | [], [], _, _ => .nil
  | y :: ys, n :: L, r, h => by
    cases r with
    | cons a t =>
      rw [List.pairwise_cons] at h ⊢
      refine ⟨fun m hm => ?_, pair_lex t h.2⟩
      obtain ⟨i, hi⟩ := List.getElem?_of_mem hm
      obtain ⟨w, e1, e2⟩ := t.get (i := i) (d := lstZ m) (by rw [List.getElem?_map, hi]; rfl)
      have := h.1 w (List.mem_of_getElem? e1)
      obtain ⟨p, rfl, hp⟩ := rp_lstZ a
      obtain ⟨q, rfl, hq⟩ := rp_lstZ e2
      rw [lsI_ref hp, lsI_ref hq] at this
      exact this
theorem c_sortB (x0 : XOk X E k) : CallOk X (.builtin "sorted") (fun vs H Q => (rSortedI X.K vs H Q ∨ rSortU X.K 2 1024 vs H Q ∨ rSortU X.K 3 1024 vs H Q ∨ rSortedTp X.K vs H Q) ∨ rSortLL vs H Q) [.b] .o fSortB := ⟨c_sortA.1.or (cr_sortLL x0.u65), fun pot M H vs ds z al pm ph a hz Q q => by
  obtain ⟨v, d, rfl, rfl, h⟩ := arg1 a
  cases d with
  | lst xs =>
    have other : fSortA [.lst xs] = some z → _ := fun hz' => Or.inl (b := rSortLL [v] H Q) (c_sortA.2 pot M H _ _ _ al pm ph (.cons h .nil) hz' Q q)
    unfold fSortB at hz
    simp only at hz
    cases en : asInts xs with
    | some ns =>
      rw [en] at hz
      refine other ?_
      simp only [fSortA, en]
      exact hz
    | none =>
      rw [en] at hz
      cases eL : asLs xs with
      | none =>
        rw [eL] at hz
        exact other hz
      | some L =>
        rw [eL] at hz
        cases hz
        rw [asLs_eq eL] at h
        obtain ⟨p, us, rfl, h1, r1⟩ := rb_lst h
        refine .inr ⟨p, us, rfl, h1, fun x hx => ?_, fun ys c hp hs hn => ?_⟩
        · obtain ⟨i, hi⟩ := List.getElem?_of_mem hx
          obtain ⟨e, e1, e2⟩ := r1.getV hi
          rw [List.getElem?_map, Option.map_eq_some_iff] at e1
          obtain ⟨ns, e3, rfl⟩ := e1
          obtain ⟨t, e4, e5⟩ := rp_lstZ e2
          exact ⟨t, ns, e4, e5⟩
        · obtain ⟨es, p1, r2⟩ := rpL_perm hp r1
          obtain ⟨L', rfl, p2⟩ := perm_unmapL p1
          have e : L' = sortL L := sorted_L (p2.trans (sortL_perm L).symm) (pair_lex r2 hs) (sortL_sorted L)
          subst e
          exact q _ _ (same_upd hn) (new_lst ph hn r2)
  | tup xs => exact .inl (c_sortA.2 pot M H _ _ _ al pm ph (.cons h .nil) hz Q q)
  | _ => simp [fSortB, fSortA] at hz⟩
end
end DL
set_option maxHeartbeats 4000000
namespace DL
open PySem PySem.Spec PyProof.Rows L2
end DL
set_option maxHeartbeats 4000000
namespace DL
open PySem PySem.Spec PyProof.Rows L2
def rSetL (K : PySem.W.Frag) (w : World) : List V → Hp → VK → Prop := fun vs H Q => ∃ (l : Addr) (ns : List Int), vs = [V.ref l] ∧ SqL K H l (ns.map V.int) ∧ ns.length + 1 < scanBound ∧
  ∀ a n, H a = none → n ≤ ns.length → Q (.ref a) (upd H a (SetO w a (fun j => decide (j ∈ ns)) n))
end DL
set_option maxHeartbeats 4000000
namespace DL
open PySem PySem.Spec PyProof.Rows L2
end DL
set_option maxHeartbeats 4000000
namespace DL
open PySem PySem.Spec PyProof.Rows L2
end DL
set_option maxHeartbeats 4000000
namespace DL
open PySem PySem.Spec PyProof.Rows L2
end DL
set_option maxHeartbeats 4000000
namespace DL
open PySem PySem.Spec PySem.W PyProof.Rows L2
end DL
set_option maxHeartbeats 4000000
namespace DL
open PySem PySem.Spec PyProof.Rows L2
def opNotInKE : D → D → Option D
  | .int _, .dic [] _ => some (.bl true)
  | d, e => opNotInK d e
def opInKE : D → D → Option D
  | .int _, .dic [] _ => some (.bl false)
  | d, e => opInK d e
@[simp] theorem opNotInKE_nil (i : Int) (xs : List D) : opNotInKE (.int i) (.dic [] xs) = some (.bl true) := rfl
@[simp] theorem opNotInKE_cons (d : D) (k : DKey) (ks : List DKey) (xs : List D) : opNotInKE d (.dic (k :: ks) xs) = opNotInK d (.dic (k :: ks) xs) := by
  unfold opNotInKE
  split
  · next h => cases h
  · rfl
@[simp] theorem opInKE_nil (i : Int) (xs : List D) : opInKE (.int i) (.dic [] xs) = some (.bl false) := rfl
@[simp] theorem opInKE_cons (d : D) (k : DKey) (ks : List DKey) (xs : List D) : opInKE d (.dic (k :: ks) xs) = opInK d (.dic (k :: ks) xs) := by
  unfold opInKE
  split
  · next h => cases h
  · rfl
end DL
set_option maxHeartbeats 4000000
namespace DL
open PySem PySem.Spec PyProof.Rows L2
end DL
set_option maxHeartbeats 4000000
namespace DL
open PySem PySem.Spec PyProof.Rows L2
mutual
/-- no list in it -/
def lfree : D → Bool
  | .lst _ => false
  | .tup xs => lfreeL xs
  | .dic _ xs => lfreeL xs
  | .ins _ _ xs => lfreeL xs
  | _ => true
def lfreeL : List D → Bool
  | [] => true
  | x :: xs => lfree x && lfreeL xs
end
def lfreeO : D → Bool
  | .lst xs => lfreeL xs
  | d => lfree d
def maskX (i : Nat) (ρ : Rho) : Rho := List.replicate i none ++ (match ρ[i]? with
  | some v => v :: List.replicate (ρ.length - i - 1) none
  | none => List.replicate (ρ.length - i) none)
def maskGo (i : Nat) (C O : List Nat) : Nat → Rho → Rho
  | _, [] => []
  | j, v :: ρ => (if j = i then none else if j ∈ C then (match v with
    | some d => if (if j ∈ O then lfreeO d else lfree d) = true then some d else none
    | none => none) else v) :: maskGo i C O (j + 1) ρ
def maskC (i : Nat) (C O : List Nat) (ρ : Rho) : Rho := maskGo i C O 0 ρ
section
variable {mg : Str → Option Value} {K : PySem.W.Frag} {H H' : Hp}
abbrev OffL (H H' : Hp) : Prop := ∀ a o, H a = some o → (∀ xs, o ≠ .lst xs) → H' a = some o
theorem rd_off {a : Addr} {u : HO} (e : OffL H H') (n : ∀ xs, u ≠ .lst xs) (h : Rd H a u) : Rd H' a u := by
  rcases h with h | ⟨o, h⟩
  · exact .inl (e _ _ h n)
  · exact .inr ⟨o, e _ _ h fun xs z => by cases z⟩
mutual
theorem Rp.off (e : OffL H H') : ∀ {v : V} {d : D}, Rp mg K H v d → lfree d = true → Rp mg K H' v d
  | _, _, .non, _ => .non
  | _, _, .bl b, _ => .bl b
  | _, _, .int i, _ => .int i
  | _, _, .str x, _ => .str x
  | _, _, .lst _ _, n => by simp [lfree] at n
  | _, _, .tup h r, n => .tup (e _ _ h fun xs z => by cases z) (RpL.off e r (by simpa [lfree] using n))
  | _, _, .dicK h r, n => .dicK (rd_off e (fun xs z => by cases z) h) (RpL.off e r (by simpa [lfree] using n))
  | _, _, .dicT h r, n => .dicT (rd_off e (fun xs z => by cases z) h) (RpL.off e r (by simpa [lfree] using n))
  | _, _, .ins m h r, n => .ins m (e _ _ h fun xs z => by cases z) (RpL.off e r (by simpa [lfree] using n))
theorem RpL.off (e : OffL H H') : ∀ {vs : List V} {ds : List D}, RpL mg K H vs ds → lfreeL ds = true → RpL mg K H' vs ds
  | _, _, .nil, _ => .nil
  | _, _, .cons h r, n => by
    simp only [lfreeL, Bool.and_eq_true] at n
    exact .cons (Rp.off e h n.1) (RpL.off e r n.2)
end
theorem HoR.off {o : HO} {d : D} (e : OffL H H') (h : HoR mg K H o d) (n : lfreeO d = true) : HoR mg K H' o d := by
  cases h with
  | lst r => exact .lst (r.off e (by simpa [lfreeO] using n))
  | dicK r => exact .dicK (r.off e (by simpa [lfreeO, lfree] using n))
  | dicT r => exact .dicT (r.off e (by simpa [lfreeO, lfree] using n))
  | ins m r => exact .ins m (r.off e (by simpa [lfreeO, lfree] using n))
end
theorem lf_o {d : D} {p : Prop} [Decidable p] (h : (if p then lfreeO d else lfree d) = true) : lfreeO d = true := by
  split at h
  · exact h
  · cases d <;> simp_all [lfree, lfreeO]
theorem maskGo_at {i : Nat} {C O : List Nat} : ∀ {ρ : Rho} {k j : Nat} {d : D}, (maskGo i C O k ρ)[j]? = some (some d) → ρ[j]? = some (some d) ∧ k + j ≠ i ∧ (k + j ∈ C → (if k + j ∈ O then lfreeO d else lfree d) = true)
  | [], k, j, d, h => by simp [maskGo] at h
  | v :: ρ, k, 0, d, h => by
    simp only [maskGo, List.getElem?_cons_zero, Option.some.injEq] at h
    rw [Nat.add_zero]
    by_cases h1 : k = i
    · rw [if_pos h1] at h; cases h
    · rw [if_neg h1] at h
      by_cases h2 : k ∈ C
      · rw [if_pos h2] at h
        cases v with
        | none => cases h
        | some e =>
          simp only at h
          by_cases h3 : (if k ∈ O then lfreeO e else lfree e) = true
          · rw [if_pos h3] at h
            cases h
            exact ⟨rfl, h1, fun _ => h3⟩
          · rw [if_neg h3] at h; cases h
      · rw [if_neg h2] at h
        subst h
        exact ⟨rfl, h1, fun z => absurd z h2⟩
  | v :: ρ, k, j + 1, d, h => by
    have h' : (maskGo i C O (k + 1) ρ)[j]? = some (some d) := by simpa [maskGo] using h
    obtain ⟨a, b, c⟩ := maskGo_at h'
    have e : k + 1 + j = k + (j + 1) := by omega
    rw [e] at b c
    exact ⟨by simpa using a, b, c⟩
theorem maskGo_len {i : Nat} {C O : List Nat} : ∀ {ρ : Rho} {k : Nat}, (maskGo i C O k ρ).length = ρ.length
  | [], _ => rfl
  | v :: ρ, k => by simp [maskGo, maskGo_len]
theorem maskX_len {i : Nat} {ρ : Rho} (h : i < ρ.length) : (maskX i ρ).length = ρ.length := by
  unfold maskX
  rw [List.getElem?_eq_getElem h]
  simp
  omega
theorem maskX_at {i : Nat} {ρ : Rho} (h : i < ρ.length) {j : Nat} {d : D} (q : (maskX i ρ)[j]? = some (some d)) : j = i ∧ ρ[i]? = some (some d) := by
  unfold maskX at q
  rw [List.getElem?_eq_getElem h] at q ⊢
  rcases Nat.lt_trichotomy j i with l | l | l
  · rw [List.getElem?_append_left (by simpa using l)] at q
    rw [List.getElem?_replicate] at q
    split at q <;> cases q
  · subst l
    rw [List.getElem?_append_right (by simp)] at q
    simp at q
    exact ⟨rfl, by rw [q]⟩
  · rw [List.getElem?_append_right (by simp; omega)] at q
    simp only [List.length_replicate] at q
    obtain ⟨n, e⟩ : ∃ n, j - i = n + 1 := ⟨j - i - 1, by omega⟩
    rw [e, List.getElem?_cons_succ, List.getElem?_replicate] at q
    split at q <;> cases q
section
variable (mg : Str → Option Value) (K : PySem.W.Frag)
/-- what comes holds none of the lists that were there -/
def PostN (pot : Option Addr) (M : List Addr) (H : Hp) (x : Res (D × Pot)) (Q : VK) (E : XK) : Prop := match x with
  | .ok (d, π) => ∀ v H' N, Grow pot H H' → PotAt pot H' π → (∀ a ∈ M, a ∈ N) → (∀ a ∈ N, Al H' a) → (∀ a xs, H a = some (.lst xs) → a ∈ N) → Rp mg K (less H' N) v d → Q v H'
  | .err c ns xs π => PErr mg K pot M H c ns xs π E
  | .stuck => False
def SemN (E : XK) (Γ : List Md) (te : TE) (fe : Ed) : Prop :=
  ∀ pot M σ H ρ π, EnvOk mg K Γ pot M σ H ρ → PotAt pot H π → ∀ Q, PostN mg K pot M H (fe ρ π) Q E → te σ H Q
end
structure DN (X : Cx) (E : XK) (Γ : List Md) (e : Expr) (te : TE) (fe : Ed) : Prop where
  pe : PE X e te
  sem : SemN X.mg X.K E Γ te fe
/-- what is there is not without end -/
def Ends0 (H : Hp) : Prop := ∃ n, ∀ a, H a ≠ none → a < n
def lstsTo (H : Hp) (n : Nat) : List Addr := (List.range n).filter fun a => match H a with
  | some (.lst _) => true
  | _ => false
theorem mem_lsts {H : Hp} {n : Nat} {a : Addr} : a ∈ lstsTo H n ↔ a < n ∧ ∃ xs, H a = some (.lst xs) := by
  unfold lstsTo
  rw [List.mem_filter, List.mem_range]
  constructor
  · rintro ⟨h1, h2⟩
    split at h2
    · rename_i xs e
      exact ⟨h1, xs, e⟩
    · cases h2
  · rintro ⟨h1, xs, e⟩
    exact ⟨h1, by rw [e]⟩
def tGoN (mg : Str → Option Value) (K : PySem.W.Frag) (ks : List Ak) (r : Rm) (m : Fd) (E : XK) (t : TA) : TE := fun σ H Q => t σ H fun vs H1 => Ends0 H1 → SpD mg K ks r m vs H1 Q E
def eGoN (m : Fd) (a : Ea) : Ed := fun ρ π => (a ρ π).bind fun x => if lfreeL x.1 = true then m x.1 x.2 else .stuck
section
variable {X : Cx} {E : XK} {Γ : List Md} {r : Rm} {e : Expr} {es : List Expr} {kws : List Keyword} {pos p kpos : Pos} {k j : Nat} {ks : List Ak} {tA tK : TA} {fA fK : Ea} {x : Str} {st : Stmt} {ps kn : List Str} {m : Fd} {nm : Option Str} {te : TE} {fe : Ed}
theorem ends_of {pins : List (Addr × Obj)} {σ : L2.St} {H : Hp} {s : Shared} (I : Inv X pins σ H s) : Ends0 H := ⟨s.heap.objs.size, fun a n => by
  cases e : H a with
  | none => exact absurd e n
  | some o => exact (I.hok a o e).lt⟩
theorem args_off {mg : Str → Option Value} {K : PySem.W.Frag} {pot : Option Addr} {M N : List Addr} {H : Hp} (hl : ∀ a ∈ N, a ∈ M ∨ ∃ xs, H a = some (.lst xs)) : ∀ {ks : List Ak} {vs : List V} {ds : List D}, Args mg K pot M H ks vs ds → (∀ k ∈ ks, k = Ak.f ∨ k = Ak.p) → lfreeL ds = true → Args mg K pot N H ks vs ds
  | _, _, _, .nil, _, _ => .nil
  | _, _, _, .cons (k := k) a r, hk, n => by
    simp only [lfreeL, Bool.and_eq_true] at n
    refine .cons ?_ (args_off hl r (fun k' z => hk k' (List.mem_cons_of_mem _ z)) n.2)
    rcases hk k (List.mem_cons_self ..) with rfl | rfl
    · refine Rp.off (fun a o h z => ?_) (show Rp mg K (less H M) _ _ from a) n.1
      obtain ⟨h1, h2⟩ := less_some.mp h
      refine less_some.mpr ⟨fun q => ?_, h2⟩
      rcases hl a q with q | ⟨xs, q⟩
      · exact h1 q
      · rw [h2] at q
        cases q
        exact z _ rfl
    · exact a
theorem toN {pot : Option Addr} {M : List Addr} {H H' : Hp} {v : V} {d : D} (hr : r = .f ∨ r = .o) (al : ∀ a ∈ M, Al H a) (h : RpR X.mg X.K r pot M H H' v d) : Rp X.mg X.K (less H' M) v d := by
  rcases hr with rfl | rfl
  · exact h
  · exact h.toF al
theorem sem_goN (hr : r = .f ∨ r = .o) (hA : SemA X.mg X.K E ks Γ tA fA) (hk : ∀ k ∈ ks, k = Ak.f ∨ k = Ak.p) : SemN X.mg X.K E Γ (tGoN X.mg X.K ks r m E tA) (eGoN m fA) := fun pot M σ H ρ π I p Q h => by
  refine hA pot M σ H ρ π I p _ ?_
  unfold eGoN at h
  cases ea : fA ρ π with
  | stuck => rw [ea] at h; exact h.elim
  | err c ns xs π' => rw [ea] at h; exact h
  | ok y =>
    obtain ⟨ds, π1⟩ := y
    rw [ea] at h
    simp only [Res.bind_ok] at h
    intro vs H1 g1 p1 r1 fin
    by_cases hn : lfreeL ds = true
    · rw [if_pos hn] at h
      obtain ⟨n, hfin⟩ := fin
      have I1 := I.grow g1 p1
      have hl : ∀ a ∈ M ++ lstsTo H1 n, a ∈ M ∨ ∃ xs, H1 a = some (.lst xs) := fun a q => (List.mem_append.mp q).imp id fun q => (mem_lsts.mp q).2
      have al : ∀ a ∈ M ++ lstsTo H1 n, Al H1 a := fun a q => by
        rcases hl a q with q | ⟨xs, q⟩
        · exact I1.al a q
        · exact .of q fun xs z => by cases z
      refine ⟨r1.length, pot, M ++ lstsTo H1 n, ds, π1, args_off hl r1 hk hn, al, fun a q => List.mem_append_left _ (I.pm a q), p1, ?_⟩
      cases em : m ds π1 with
      | stuck => rw [em] at h; exact h.elim
      | err c ns xs π' =>
        rw [em] at h
        intro cv dd H' g' p' e
        refine h cv dd H' (g1.trans g') p' ?_
        obtain ⟨C, h1, h2, h3⟩ := e
        refine ⟨C, h1, h2, h3.imp id ?_⟩
        rintro ⟨a, fs, e1, e2, e3, e4, e5⟩
        exact ⟨a, fs, e1, e2, fun q => e3 (List.mem_append_left _ q), e4, e5.mono (less_sub fun a q => List.mem_append_left _ q)⟩
      | ok z =>
        obtain ⟨d, π2⟩ := z
        rw [em] at h
        intro v H' g' p' rr
        refine h v H' _ (g1.trans g') p' (fun a q => List.mem_append_left _ q) (alive al p' g') (fun a xs q => ?_) (toN hr al rr)
        by_cases hp : pot = some a
        · exact List.mem_append_left _ (I.pm a hp)
        · have q1 := g1 a _ hp q
          exact List.mem_append_right _ (mem_lsts.mpr ⟨hfin a (by rw [q1]; simp), xs, q1⟩)
    · rw [if_neg hn] at h
      exact h.elim
/-- f(e, ..) -/
theorem dn_call (F : DFn X.prog X.w X.K X.mg X.base j x st ps ks r m) (o : XOk X E k)
    (hb : ∀ (kV doc pm : Value) (an : Option Addr) (cdv ct : Value) (us : List Value), us.length = ps.length → bindArgs (PySem.W.fnOf x x (defArgs st) (defBody st) (defScope st) .none kV doc pm an cdv ct) ⟨us, []⟩ = pure (ps.zip us))
    (hA : DA X E ks Γ (e :: es) tA fA) (hks : ∀ k ∈ ks, k = Ak.f ∨ k = Ak.p := by decide) (hr : r = .f ∨ r = .o := by first | exact .inl rfl | exact .inr rfl) (hj : j ≤ k := by decide) (hg : Gl X x := by rfl) (hdb : (x == ("__debug__" : Str)) = false := by decide) (he : starEach (e :: es) X.env = (false, eval e X.env) :: starEach es X.env := by rfl) (hpl : (backTo pos (starEach es X.env)).any (·.1) = false := by rfl) :
    DN X E Γ (.Call (.Name x p) (e :: es) [] pos) (tGoN X.mg X.K ks r m E tA) (eGoN m fA) :=
  ⟨⟨fun pins s σ H Q I h => by
    obtain ⟨f, fd, h1, h2, h3⟩ := F.ex
    refine wpAny_Call_Name_kw (ld_glob I hg h1 ?_ hdb)
    refine PySem.W.callWith_K (h₀ := X.base) I.ok.mod.kin h2.kp (thn (hA.pa.run pos pins s σ H _ I h) fun us s1 ⟨vs, H1, I1, rl, q⟩ => ⟨I1.kIn, ?_⟩) he hpl
    have q := q (ends_of I1)
    have hl : us.length = ps.length := by
      rw [← rl.length]
      exact h3.len _ _ _ _ q
    have bd : BindsTo s1 fd ⟨us, ([] : List Str).zip ([] : List Value)⟩ (ps.zip (us ++ [])) := by
      obtain ⟨oc, od, kV, doc, pm, an, cdv, ct, osl, rfl, lk, hcd⟩ := h2.ex
      rw [List.append_nil]
      exact .of_eq (hb kV doc pm an cdv ct us hl)
    exact run_go (args := ⟨us, []⟩) (kn := []) (ws := []) h3 o hj bd I1 (by rw [List.append_nil]; exact rl) q⟩, sem_goN hr hA.sem hks⟩
end
section
variable (mg : Str → Option Value) (K : PySem.W.Frag)
structure Bk (Γ : List Md) (i : Nat) (A : List Nat) (pot : Option Addr) (Ms : List Addr) (Hs : Hp) (σs : L2.St) (ρs : Rho) (M : List Addr) (σ : L2.St) (H : Hp) (ρ : Rho) : Prop where
  sv : Same (less Hs Ms) (less H M)
  gr : Grow pot Hs H
  kp : ∀ j, j ≠ i → j ∉ A → σ[j]? = σs[j]? ∧ ρ[j]? = ρs[j]?
  nw : ∀ j ∈ A, Γ[j]? = some .o → ∀ d a, ρ[j]? = some (some d) → σ[j]? = some (some (.ref a)) → Hs a = none
  xv : ∃ v d N, σ[i]? = some (some v) ∧ ρ[i]? = some (some d) ∧ (∀ a ∈ M, a ∈ N) ∧ (∀ a ∈ N, Al H a) ∧ (∀ a xs, Hs a = some (.lst xs) → a ∈ N) ∧ Rp mg K (less H N) v d
def SemB (E : XK) (r : Rm) (Γl Γ Γ' : List Md) (i : Nat) (A : List Nat) (ts : TS) (fs : Fs) : Prop :=
  ∀ pot M0 H0 B Ms Hs σs ρs M σ H ρ π D, SOk mg K Γ pot M0 H0 B Ms σs Hs ρs → SOk mg K Γ pot M0 H0 B M σ H ρ → Bk mg K Γ i A pot Ms Hs σs ρs M σ H ρ → PotAt pot H π → PostS mg K r Γl Γ' pot M0 H0 B (fs ρ π) D E → ts D σ H
end
structure DB (X : Cx) (E : XK) (r : Rm) (Γl Γ Γ' : List Md) (i : Nat) (A : List Nat) (sts : List Stmt) (ts : TS) (fs : Fs) : Prop where
  pss : PSs X sts ts
  sem : SemB X.mg X.K E r Γl Γ Γ' i A ts fs
/-- a test whose suite leaves -/
def sIfB (ft : Et) (fs rest : Fs) : Fs := fun ρ π => (ft ρ π).bind fun x => if x.1 = true then (fs ρ x.2).bind (fun y => match y.1 with
  | .rt d => .ok (.rt d, y.2)
  | _ => .stuck) else rest ρ x.2
def sPoke2 (i : Nat) (C O : List Nat) (fo : Ed) (rest : Fs) : Fs := fun ρ π => match ρ[i]? with
  | some (some (.lst es)) => (fo (maskX i ρ) π).bind fun x => match x.1 with
    | .lst ds => if ds.length + 2 < sizeLine ∧ es.length + 2 < sizeLine then rest (maskC i C O ρ) x.2 else .stuck
    | _ => .stuck
  | _ => .stuck
/-- which slots are looked at before they are kept -/
def cOk (Γ : List Md) (i : Nat) (A C O : List Nat) : Bool :=
  A.all (fun j => decide (j ∈ C)) && (List.range Γ.length).all (fun j => match Γ[j]? with
    | some .o => true
    | some .f => !decide (j ∈ O)
    | some .u => true
    | _ => !decide (j ∈ C))
section
variable {mg : Str → Option Value} {K : PySem.W.Frag} {pot : Option Addr} {M M0 Ms : List Addr} {H H0 H1 Hs B : Hp} {π π1 : Pot} {Γ Γl Γ' : List Md} {σ σs : L2.St} {ρ ρs : Rho} {E : XK} {i : Nat} {A C O : List Nat}
theorem cOk_a (h : cOk Γ i A C O = true) {j : Nat} (q : j ∈ A) : j ∈ C := by
  have := List.all_eq_true.mp (Bool.and_eq_true_iff.mp h).1 j q
  simpa using this
theorem cOk_g (h : cOk Γ i A C O = true) {j : Nat} {m : Md} (q : Γ[j]? = some m) : (j ∈ C → m = .f ∨ m = .o ∨ m = .u) ∧ (m = .f → j ∉ O) := by
  have hl := (List.getElem?_eq_some_iff.mp q).1
  have := List.all_eq_true.mp (Bool.and_eq_true_iff.mp h).2 j (List.mem_range.mpr hl)
  rw [q] at this
  cases m <;> simp_all
/-- behind the changes -/
theorem Bk.done (hc : cOk Γ i A C O = true) (Ss : SOk mg K Γ pot M0 H0 B Ms σs Hs ρs) (S : SOk mg K Γ pot M0 H0 B M σ H ρ) (b : Bk mg K Γ i A pot Ms Hs σs ρs M σ H ρ) {H3 : Hp}
    (h3 : ∀ a o, H a = some o → (a ∈ M ∨ (∀ xs, o ≠ .lst xs) ∨ Hs a ≠ none) → H3 a = some o) : SOk mg K Γ pot M0 H0 B M σ H3 (maskC i C O ρ) := by
  have I := S.env
  have dom : Same (less Hs Ms) (less H3 M) := fun a o h => by
    obtain ⟨e1, e2⟩ := less_some.mp (b.sv a o h)
    exact less_some.mpr ⟨e1, h3 a o e2 (.inr (.inr (by rw [(less_some.mp h).2]; simp)))⟩
  have off : OffL (less H M) (less H3 M) := fun a o h n => by
    obtain ⟨e1, e2⟩ := less_some.mp h
    exact less_some.mpr ⟨e1, h3 a o e2 (.inr (.inl n))⟩
  have at_ : ∀ {j : Nat} {d : D}, (maskC i C O ρ)[j]? = some (some d) → ρ[j]? = some (some d) ∧ j ≠ i ∧ (j ∈ C → (if j ∈ O then lfreeO d else lfree d) = true) := fun {j d} q => by
    have := maskGo_at q
    simpa using this
  have was : ∀ {j : Nat} {d : D}, (maskC i C O ρ)[j]? = some (some d) → j ∉ C → ρs[j]? = some (some d) ∧ σ[j]? = σs[j]? := fun {j d} q n => by
    obtain ⟨q1, q2, _⟩ := at_ q
    obtain ⟨e1, e2⟩ := b.kp j q2 fun z => n (cOk_a hc z)
    exact ⟨by rw [← e2]; exact q1, e1⟩
  refine ⟨⟨I.ls, by unfold maskC; rw [maskGo_len]; exact I.lr, fun j d g1 g2 => ?_, fun j d g1 g2 => ?_, I.p, fun j d g1 g2 => ?_, fun j k a x y g1 g2 g3 g4 g5 g6 => I.ap j k a x y g1 g2 (at_ g3).1 (at_ g4).1 g5 g6, fun a ha => ?_, I.pm, fun j a dd d g1 g2 => ?_⟩, fun a o n g => ?_, S.sub, fun j d a g1 g2 g3 => S.ow j d a g1 (at_ g2).1 g3, S.m0, fun a o e => dom a o (Ss.bs a o e)⟩
  · by_cases hC : j ∈ C
    · obtain ⟨q1, _, q3⟩ := at_ g2
      obtain ⟨v, e1, r1⟩ := I.f j d g1 q1
      refine ⟨v, e1, ?_⟩
      have n := q3 hC
      rw [if_neg ((cOk_g hc g1).2 rfl)] at n
      exact r1.off off n
    · obtain ⟨q1, q2⟩ := was g2 hC
      obtain ⟨v, e1, r1⟩ := Ss.env.f j d g1 q1
      exact ⟨v, by rw [q2]; exact e1, r1.mono dom⟩
  · obtain ⟨q1, _, q3⟩ := at_ g2
    obtain ⟨p, e1, m, n, oo, w1, w2⟩ := I.o j d g1 q1
    by_cases hC : j ∈ C
    · refine ⟨p, e1, m, n, oo, h3 p _ w1 (.inl m), w2.off (fun a o h nl => ?_) (lf_o (q3 hC))⟩
      obtain ⟨z1, z2⟩ := less_some.mp h
      exact less_some.mpr ⟨z1, h3 a o z2 (.inr (.inl nl))⟩
    · obtain ⟨q4, q5⟩ := was g2 hC
      obtain ⟨p', e1', m', n', oo', w1', w2'⟩ := Ss.env.o j d g1 q4
      rw [← q5, e1] at e1'
      cases e1'
      refine ⟨p, e1, m, n, oo', h3 p _ (b.gr p _ n w1') (.inl m), w2'.mono fun a o h => ?_⟩
      obtain ⟨z1, z2⟩ := less_some.mp h
      obtain ⟨z3, z4⟩ := less_some.mp (dom a o (less_some.mpr ⟨fun z => z1 (List.mem_cons_of_mem _ z), z2⟩))
      refine less_some.mpr ⟨fun z => ?_, z4⟩
      rcases List.mem_cons.mp z with z | z
      · exact z1 (by rw [z]; exact List.mem_cons_self ..)
      · exact z3 z
  · have hC : j ∉ C := fun z => by
      rcases (cOk_g hc g1).1 z with z | z | z <;> cases z
    obtain ⟨q1, q2⟩ := was g2 hC
    obtain ⟨p, ns, e1, e2, e3⟩ := Ss.env.s j d g1 q1
    exact ⟨p, ns, by rw [q2]; exact e1, e2, sqL_mono dom e3⟩
  · obtain ⟨o, e, n⟩ := I.al a ha
    exact .of (h3 a o e (.inl ha)) n
  · have hC : j ∉ C := fun z => by
      rcases (cOk_g hc g1).1 z with z | z | z <;> cases z
    obtain ⟨q1, q2⟩ := was g2 hC
    obtain ⟨e1, e2⟩ := Ss.env.x j a dd d g1 q1
    exact ⟨by rw [q2]; exact e1, e2.mono dom⟩
  · exact h3 a o (b.gr a o n (Ss.gr a o n g)) (.inr (.inr (by rw [Ss.gr a o n g]; simp)))
theorem Bk.grow (b : Bk mg K Γ i A pot Ms Hs σs ρs M σ H ρ) (S : SOk mg K Γ pot M0 H0 B M σ H ρ) (g : Grow pot H H1) (p : PotAt pot H1 π) : Bk mg K Γ i A pot Ms Hs σs ρs M σ H1 ρ := by
  obtain ⟨v, d, N, e1, e2, e3, e4, e5, e6⟩ := b.xv
  exact ⟨fun a o h => less_grow S.env.pm g a o (b.sv a o h), b.gr.trans g, b.kp, b.nw, v, d, N, e1, e2, e3, alive e4 p g, e5, e6.mono (less_grow (fun a h => e3 a (S.env.pm a h)) g)⟩
/-- only x is seen -/
theorem Bk.envx (b : Bk mg K Γ i A pot Ms Hs σs ρs M σ H ρ) (S : SOk mg K Γ pot M0 H0 B M σ H ρ) (hi : Γ[i]? = some .f) : ∃ v d N, σ[i]? = some (some v) ∧ ρ[i]? = some (some d) ∧ (∀ a ∈ M, a ∈ N) ∧ (∀ a xs, Hs a = some (.lst xs) → a ∈ N) ∧ Rp mg K (less H N) v d ∧ EnvOk mg K Γ pot N σ H (maskX i ρ) := by
  obtain ⟨v, d, N, e1, e2, e3, e4, e5, e6⟩ := b.xv
  have I := S.env
  have hl : i < ρ.length := (List.getElem?_eq_some_iff.mp e2).1
  refine ⟨v, d, N, e1, e2, e3, e5, e6, I.ls, by rw [maskX_len hl]; exact I.lr, fun j f g1 g2 => ?_, fun j f g1 g2 => ?_, I.p, fun j f g1 g2 => ?_, fun j k a x y g1 g2 g3 g4 g5 g6 => ?_, e4, fun a h => e3 a (I.pm a h), fun j a dd f g1 g2 => ?_⟩
  · obtain ⟨rfl, q⟩ := maskX_at hl g2
    rw [e2] at q
    cases q
    exact ⟨v, e1, e6⟩
  · obtain ⟨rfl, q⟩ := maskX_at hl g2
    rw [hi] at g1; cases g1
  · obtain ⟨rfl, q⟩ := maskX_at hl g2
    rw [hi] at g1; cases g1
  · obtain ⟨rfl, q⟩ := maskX_at hl g3
    rw [hi] at g1; cases g1
  · obtain ⟨rfl, q⟩ := maskX_at hl g2
    rw [hi] at g1; cases g1
end
section
variable {X : Cx} {E : XK} {r r' : Rm} {Γl Γ Γ1 Γ' : List Md} {pos : Pos} {k : Nat} {e c : Expr} {te : TE} {fe : Ed} {st : Stmt} {sts body rest : List Stmt} {ts us : TS} {fs gs : Fs} {tt : TT} {ft : Et} {i : Nat} {A C O : List Nat}
/-- if c: leave -/
theorem db_if (hc : DT X E Γ c tt ft) (ha : DSs X E r Γl Γ Γ body ts fs) (hr : DB X E r Γl Γ Γ' i A rest us gs) : DB X E r Γl Γ Γ' i A (.If c body [] pos :: rest) (tSeq (tIfS tt ts tNext) us) (sIfB ft fs gs) :=
  ⟨pss_cons (ps_if hc.pt ha.pss pss_nil) hr.pss, fun pot M0 H0 B Ms Hs σs ρs M σ H ρ π D Ss S b p h => by
    show tt σ H fun t H1 => if t = true then ts { D with nx := us D } σ H1 else us D σ H1
    refine PostS.seqT (te := tt σ H) h S (fun Q' hq => hc.sem pot M σ H ρ π S.env p Q' hq) fun t π1 H1 _ g1 p1 h1 => ?_
    cases t with
    | true =>
      rw [if_pos rfl]
      refine ha.sem pot M0 H0 B M σ H1 ρ π1 _ (S.grow g1 p1) p1 ?_
      cases ef : fs ρ π1 with
      | stuck =>
        rw [if_pos rfl, ef] at h1
        exact h1.elim
      | err c ns xs π' =>
        rw [if_pos rfl, ef] at h1
        exact h1
      | ok y =>
        obtain ⟨y, π2⟩ := y
        rw [if_pos rfl, ef] at h1
        cases y with
        | rt d => exact h1
        | _ => exact h1.elim
    | false => exact hr.sem pot M0 H0 B Ms Hs σs ρs M σ H1 ρ π1 D Ss (S.grow g1 p1) (b.grow S g1 p1) p1 h1⟩
/-- y = e -/
theorem db_set (j : Nat) {y : Str} {p : Pos} (o : XOk X E k) (he : DE X E r' Γ e te fe) (hr : DB X E r Γl Γ Γ' i A rest us gs) (hj : j ∈ A := by decide) (hn : j ≠ i := by decide) (hΓ : Γ[j]? = some r'.md := by rfl) (hN : X.N[j]? = some y := by rfl) (hx : Loc X.env.scope y := by first | exact Or.inl rfl | exact Or.inr rfl)
    (hs : swapsWith e (some (.Name y p)) pos.line X.env = pure false := by rfl) (hf : X.fn y = true ∨ X.env.scope.names.lookup y = some .local := by first | exact .inl rfl | exact .inr rfl) :
    DB X E r Γl Γ Γ' i A (.Assign [.Name y p] e pos :: rest) (tSeq (tAsg te (gName j)) us) (sSeq (sSet j fe) gs) :=
  ⟨pss_cons (ps_set o.nd hN hx he.pe hs hf) hr.pss, fun pot M0 H0 B Ms Hs σs ρs M σ H ρ π D Ss S b p h => by
    refine he.sem pot M σ H ρ π S.env p _ ?_
    unfold sSeq sSet at h
    cases ef : fe ρ π with
    | stuck => rw [ef] at h; exact h.elim
    | err c ns xs π' => rw [ef] at h; exact PErr.out h S
    | ok z =>
      obtain ⟨d, π1⟩ := z
      rw [ef] at h
      dsimp only [Res.bind] at h
      intro v H1 g1 p1 q1
      obtain ⟨M1, S1, hd, hM⟩ := S.hold g1 p1 q1
      have S2 := S1.put (i := j) (List.getElem?_eq_some_iff.mp hΓ).1 hd
      rw [set_same hΓ] at S2
      obtain ⟨w, f, N, x1, x2, x3, x4, x5, x6⟩ := b.xv
      have x7 := x6.mono (less_grow (fun a h => x3 a (S.env.pm a h)) g1)
      refine hr.sem pot M0 H0 B Ms Hs σs ρs M1 _ H1 _ π1 D Ss S2 ⟨?_, b.gr.trans g1, fun l n1 n2 => ?_, ?_, ?_⟩ p1 h
      · rcases hM with rfl | ⟨c, rfl, hc⟩
        · exact fun a o h => less_grow S.env.pm g1 a o (b.sv a o h)
        · intro a o h
          obtain ⟨z1, z2⟩ := less_some.mp (b.sv a o h)
          refine less_some.mpr ⟨fun m => ?_, (less_some.mp (less_grow S.env.pm g1 a o (b.sv a o h))).2⟩
          rcases List.mem_cons.mp m with z | m
          · rw [z, hc] at z2; cases z2
          · exact z1 m
      · have nl : j ≠ l := fun z => n2 (z ▸ hj)
        rw [List.getElem?_set_ne nl, List.getElem?_set_ne nl]
        exact b.kp l n1 n2
      · intro l hl' ho d' a' g1' g2'
        rcases set_at g2' with ⟨rfl, e1', _⟩ | ⟨n', e1'⟩
        · cases e1'
          rw [hΓ] at ho
          cases r' with
          | o =>
            obtain ⟨c', z1, z2, _⟩ := q1
            cases z1
            cases z : Hs a' with
            | none => rfl
            | some o =>
              exfalso
              by_cases np : pot = some a'
              · exact (S.env.al a' (S.env.pm a' np)).nn z2
              · rw [b.gr a' o np z] at z2
                cases z2
          | _ => cases ho
        · rw [List.getElem?_set_ne n'] at g1'
          exact b.nw l hl' ho d' a' g1' e1'
      · rcases hM with rfl | ⟨c, rfl, hc⟩
        · exact ⟨w, f, N, by rw [List.getElem?_set_ne hn]; exact x1, by rw [List.getElem?_set_ne hn]; exact x2, x3, alive x4 p1 g1, x5, x7⟩
        · refine ⟨w, f, c :: N, by rw [List.getElem?_set_ne hn]; exact x1, by rw [List.getElem?_set_ne hn]; exact x2, fun a m => ?_, fun a m => ?_, fun a xs q => List.mem_cons_of_mem _ (x5 a xs q), x6.mono fun a o h => ?_⟩
          · rcases List.mem_cons.mp m with rfl | m
            · exact List.mem_cons_self ..
            · exact List.mem_cons_of_mem _ (x3 a m)
          · rcases List.mem_cons.mp m with rfl | m
            · exact S1.env.al a (List.mem_cons_self ..)
            · exact alive x4 p1 g1 a m
          · obtain ⟨z1, z2⟩ := less_some.mp h
            refine less_some.mpr ⟨fun m => ?_, g1 a o (fun z => z1 (x3 a (S.env.pm a z))) z2⟩
            rcases List.mem_cons.mp m with z | m
            · rw [z, hc] at z2; cases z2
            · exact z1 m⟩
abbrev tApp (K : PySem.W.Frag) (to : TE) : TS := tDrop (tBM K "list" rAppend to (tCons (tC .non) tNil))
abbrev AppOk (X : Cx) (o : Expr) (j : Nat) (p apos cpos pos : Pos) : Prop :=
  attributeBase o "append" X.env (eval o X.env) = eval o X.env ∧
  ((((backTo cpos (starEach [.Constant .none j p] X.env)).all fun x => !x.fst) && (backToKw cpos (keywordEach [] X.env)).all fun x => x.fst.isSome) && decide (([(.Constant .none j p : Expr)].length + ([] : List Expr).length + if ([] : List Expr).isEmpty = true then 0 else 1) < 30)) = true ∧
  (apos.endLine == cpos.line) = true ∧ starEach [.Constant .none j p] X.env = (false, eval (.Constant .none j p) X.env) :: starEach [] X.env ∧ ((backTo cpos (starEach [] X.env)).any fun x => x.fst) = false ∧
  swapsWith (.Call (.Attribute o "append" apos) [.Constant .none j p] [] cpos) none pos.line X.env = pure false
theorem ps_app {o : Expr} {to : TE} {j : Nat} {p apos cpos pos : Pos} (ho : PE X o to) (h : AppOk X o j p apos cpos pos) : PS X (.Expr (.Call (.Attribute o "append" apos) [.Constant .none j p] [] cpos) pos) (tApp X.K to) :=
  ps_expr (pe_bm PySem.F.plainAttrs_list PySem.F.slot_list_append PySem.F.type_list_append mt_append ho (pa_cons pe_non pa_nil h.2.2.2.1) h.1 h.2.1 h.2.2.1 h.2.2.2.1 h.2.2.2.2.1) h.2.2.2.2.2
/-- x[0].append(None); x.append(None); the rest -/
theorem db_poke2 (C O : List Nat) {x : Str} {j j1 : Nat} {p p2 apos cpos pos1 p21 apos1 cpos1 : Pos} {o : Expr} {to : TE} {fo : Ed} (ho : DE X E .f Γ o to fo) (hr : DSs X E r Γl Γ Γ' rest us gs) (hc : cOk Γ i A C O = true := by decide) (hΓ : Γ[i]? = some .f := by rfl) (hN : X.N[i]? = some x := by rfl) (hv : Vis X.env.scope x := by first | exact Or.inl rfl | exact Or.inr (Or.inl rfl) | exact Or.inr (Or.inr rfl))
    (hd : (x == ("__debug__" : Str)) = false := by decide) (hcd : (x == ("__classdict__" : Str)) = false := by decide) (hb : AppOk X (.Name x p) j p2 apos cpos pos := by exact ⟨rfl, rfl, rfl, rfl, rfl, rfl⟩) (hb1 : AppOk X o j1 p21 apos1 cpos1 pos1 := by exact ⟨rfl, rfl, rfl, rfl, rfl, rfl⟩) :
    DB X E r Γl Γ Γ' i A (.Expr (.Call (.Attribute o "append" apos1) [.Constant .none j1 p21] [] cpos1) pos1 :: .Expr (.Call (.Attribute (.Name x p) "append" apos) [.Constant .none j p2] [] cpos) pos :: rest) (tSeq (tApp X.K to) (tSeq (tApp X.K (tVar i)) us)) (sPoke2 i C O fo gs) :=
  ⟨pss_cons (ps_app ho.pe hb1) (pss_cons (ps_app (pe_var hN hv hd hcd) hb) hr.pss), fun pot M0 H0 B Ms Hs σs ρs M σ H ρ π D Ss S b pp h => by
    unfold sPoke2 at h
    split at h
    · rename_i es er
      obtain ⟨v, d, N, e1, e2, e3, e5, e6, env⟩ := b.envx S hΓ
      rw [er] at e2
      cases e2
      refine ho.sem pot N σ H _ π env pp _ ?_
      cases ef : fo (maskX i ρ) π with
      | stuck => rw [ef] at h; exact h.elim
      | err c ns xs π' =>
        rw [ef] at h
        intro cv dd H' g' p' e
        refine PErr.out h S cv dd H' g' p' ?_
        obtain ⟨C, h1, h2, h3⟩ := e
        refine ⟨C, h1, h2, h3.imp id ?_⟩
        rintro ⟨a, fs, w1, w2, w3, w4, w5⟩
        exact ⟨a, fs, w1, w2, fun q => w3 (e3 a q), w4, w5.mono (less_sub e3)⟩
      | ok y =>
        obtain ⟨d1, π1⟩ := y
        rw [ef] at h
        dsimp only [Res.bind] at h
        intro w H1 g1 p1 r1
        cases d1 with
        | lst ds =>
          dsimp only at h
          split at h
          · rename_i hl
            have r1 : Rp X.mg X.K (less H1 N) w (.lst ds) := r1
            have r2 := e6.mono (less_grow (fun a z => e3 a (S.env.pm a z)) g1)
            have S1 := S.grow g1 p1
            have b1 := b.grow S g1 p1
            have fr : ∀ q xs, less H1 N q = some (.lst xs) → q ∉ N ∧ H1 q = some (.lst xs) ∧ Hs q = none ∧ pot ≠ some q := fun q xs hq => by
              obtain ⟨nq, hq⟩ := less_some.mp hq
              have np : pot ≠ some q := fun z => nq (e3 q (S.env.pm q z))
              refine ⟨nq, hq, ?_, np⟩
              cases z : Hs q with
              | none => rfl
              | some o =>
                have := b1.gr q o np z
                rw [hq] at this
                cases this
                exact absurd (e5 q _ z) nq
            cases r1 with
            | @lst q1 xs1 _ h1 h2 =>
              cases r2 with
              | @lst q xs _ h3 h4 =>
                obtain ⟨n1, k1, f1, t1⟩ := fr _ _ h1
                obtain ⟨n2, k2, f2, t2⟩ := fr _ _ h3
                refine ⟨.inl ⟨rfl, xs1, .inl (.inl k1)⟩, ⟨q1, xs1, .non, rfl, rfl, k1, by rw [h2.length]; omega, ?_⟩⟩
                obtain ⟨ys, ky, ly⟩ : ∃ ys, upd H1 q1 (.lst (xs1 ++ [.non])) q = some (.lst ys) ∧ ys.length < sizeLine := by
                  by_cases z : q = q1
                  · subst z
                    rw [k1] at k2
                    exact ⟨_, upd_same, by rw [List.length_append, h2.length]; simp; omega⟩
                  · exact ⟨xs, by rw [upd_ne z]; exact k2, by rw [h4.length]; omega⟩
                refine ⟨.ref q, e1, .inl ⟨rfl, ys, .inl (.inl ky)⟩, ⟨q, ys, .non, rfl, rfl, ky, ly, ?_⟩⟩
                refine hr.sem pot M0 H0 B M σ _ _ π1 D (b1.done hc Ss S1 fun a o ha hw => ?_) ((p1.mut t1).mut t2) h
                have na : ∀ q xs, q ∉ N → H1 q = some (.lst xs) → Hs q = none → a ≠ q := fun q xs nq hq fq z => by
                  subst z
                  rcases hw with w | w | w
                  · exact nq (e3 a w)
                  · rw [hq] at ha; cases ha; exact w _ rfl
                  · exact w fq
                rw [upd_ne (na _ _ n2 k2 f2), upd_ne (na _ _ n1 k1 f1)]; exact ha
          · exact h.elim
        | _ => exact h.elim
    · exact h.elim⟩
end
end DL
set_option maxHeartbeats 4000000
namespace DL
open PySem PySem.Spec PyProof.Rows L2
section
variable {mg : Str → Option Value} {K : PySem.W.Frag} {pot : Option Addr} {M M0 Ms : List Addr} {H H0 H1 Hs B : Hp} {π π1 : Pot} {Γ Γl Γ' : List Md} {σ σ' σs : L2.St} {ρ ρs : Rho} {E : XK} {i l : Nat} {A C O : List Nat}
theorem none_at {j : Nat} {d : D} (h : (ρ.set l none)[j]? = some (some d)) : j ≠ l ∧ ρ[j]? = some (some d) := by
  rcases set_at h with ⟨_, z, _⟩ | ⟨n, z⟩
  · cases z
  · exact ⟨fun q => n q.symm, z⟩
theorem Bk.forget (b : Bk mg K Γ i A pot Ms Hs σs ρs M σ H ρ) (hl : l ∈ A) (hi : l ≠ i) (hs : ∀ j, j ≠ l → σ'[j]? = σ[j]?) : Bk mg K Γ i A pot Ms Hs σs ρs M σ' H (ρ.set l none) := by
  obtain ⟨v, d, N, e1, e2, e3⟩ := b.xv
  refine ⟨b.sv, b.gr, fun j n1 n2 => ?_, fun j hj ho d' a' g1 g2 => ?_, v, d, N, by rw [hs i fun z => hi z.symm]; exact e1, by rw [List.getElem?_set_ne hi]; exact e2, e3⟩
  · have nl : j ≠ l := fun z => n2 (z ▸ hl)
    rw [hs j nl, List.getElem?_set_ne (fun z => nl z.symm)]
    exact b.kp j n1 n2
  obtain ⟨n, q⟩ := none_at g1
  rw [hs j n] at g2
  exact b.nw j hj ho d' a' q g2
end
section
variable {X : Cx} {E : XK} {r r' ra : Rm} {Γl Γ Γ1 Γ' : List Md} {pos : Pos} {k : Nat} {e c : Expr} {te ti ta : TE} {fe fk fa : Ed} {st : Stmt} {sts body rest : List Stmt} {ts us : TS} {fs gs : Fs} {tt : TT} {ft : Et} {i : Nat} {A C O : List Nat}
/-- y[k] = e -/
theorem db_setix (j : Nat) {x : Str} {p p2 : Pos} {kx : Expr} (he : DE X E .f Γ e te fe) (hk : DE X E .f Γ kx ti fk) (hr : DB X E r Γl Γ Γ' i A rest us gs) (hj : j ∈ A := by decide) (hn : j ≠ i := by decide) (hΓ : Γ[j]? = some .o := by rfl) (hN : X.N[j]? = some x := by rfl) (hv : Vis X.env.scope x := by first | exact Or.inl rfl | exact Or.inr (Or.inl rfl) | exact Or.inr (Or.inr rfl))
    (hd : (x == ("__debug__" : Str)) = false := by decide) (hcd : (x == ("__classdict__" : Str)) = false := by decide)
    (ha : ∀ v, assign (.Subscript (.Name x p) kx p2) X.env v = (do let ov ← holding [v] (eval (.Name x p) X.env); let iv ← holding [v, ov] (eval kx X.env); standAt p2; holding [v, ov, iv] (setItem ov iv v); release [v, ov, iv] []) := by intro _; rfl)
    (h1 : swapsWithSole [.Subscript (.Name x p) kx p2] e pos.line X.env = pure false := by rfl) (h2 : swappedStores [.Subscript (.Name x p) kx p2] e X.env = pure none := by rfl) (h3 : (assignEach [.Subscript (.Name x p) kx p2] X.env).map (·.2) = [assign (.Subscript (.Name x p) kx p2) X.env] := by rfl) :
    DB X E r Γl Γ Γ' i A (.Assign [.Subscript (.Name x p) kx p2] e pos :: rest) (tSeq (tAsg te (gSub (tVar j) ti L2.rSetL)) us) (sSeq (sSetIx j fe fk) gs) :=
  ⟨pss_cons (ps_asg he.pe (pg_sub (pe_var hN hv hd hcd) hk.pe set_list ha) h1 h2 h3) hr.pss, fun pot M0 H0 B Ms Hs σs ρs M σ H ρ π D' Ss S b pp h => by
    unfold sSeq sSetIx sMut2 at h
    cases er : ρ[j]? with
    | none => rw [er] at h; exact h.elim
    | some od =>
      rw [er] at h
      cases od with
      | none => exact h.elim
      | some dd =>
        cases dd with
        | lst ds =>
          dsimp only at h
          obtain ⟨c, xs, e1, n, hc, r1⟩ := own_at S hΓ er
          refine he.sem pot M σ H ρ π S.env pp _ ?_
          cases ef : fe ρ π with
          | stuck => rw [ef] at h; exact h.elim
          | err c ns xs π' => rw [ef] at h; exact PErr.out h S
          | ok z =>
            obtain ⟨d, π1⟩ := z
            rw [ef] at h
            dsimp only [Res.bind] at h
            intro v H1 g1 p1 q1
            have S1 := S.grow g1 p1
            refine ⟨.ref c, e1, ?_⟩
            refine hk.sem pot M σ H1 ρ π1 S1.env p1 _ ?_
            cases ek : fk ρ π1 with
            | stuck => rw [ek] at h; exact h.elim
            | err c ns xs π' => rw [ek] at h; exact PErr.out h S1
            | ok z =>
              obtain ⟨kd, π2⟩ := z
              rw [ek] at h
              dsimp only at h
              intro kv H2 g2 p2 q2
              have S2 := S1.grow g2 p2
              have g12 := g1.trans g2
              cases es : setD d kd ds with
              | none => rw [es] at h; exact h.elim
              | some es' =>
                rw [es] at h
                dsimp only [ofO] at h
                cases kd with
                | int m =>
                  simp only [setD, Option.map_eq_some_iff] at es
                  obtain ⟨t, ht, rfl⟩ := es
                  cases rb_int (.inl q2 : Rb X.mg X.K pot M H2 kv (.int m))
                  have r2 : RpL X.mg X.K (less H2 M) (xs.set t v) (ds.set t d) := (r1.mono (less_grow S.env.pm g12)).set t (RpR.toB (r := .f) q1 |> fun _ => Rp.mono (less_grow S.env.pm g2) q1)
                  refine ⟨c, xs, m, t, rfl, rfl, g12 c _ n hc, by rw [r1.length]; exact ht, ?_⟩
                  have b2 := (b.grow S g1 p1).grow S1 g2 p2
                  have hcM : c ∈ M := by
                    obtain ⟨c', z1, z2, _⟩ := S.env.o j _ hΓ er
                    rw [e1] at z1
                    cases z1
                    exact z2
                  obtain ⟨w, f, N, x1, x2, x3, x4, x5, x6⟩ := b2.xv
                  refine hr.sem pot M0 H0 B Ms Hs σs ρs M σ _ _ π2 D' Ss (S2.mut hΓ er e1 (.lst r2)) ⟨fun a o hh => less_upd hcM a o (b2.sv a o hh), fun a o np ha => ?_, fun l n1 n2 => ?_, fun l hl ho d' a' g1 g2 => ?_, w, f, N, x1, by rw [List.getElem?_set_ne hn]; exact x2, x3, fun a ha => ?_, x5, x6.mono (less_upd (x3 c hcM))⟩ (p2.mut n) h
                  · by_cases z : a = c
                    · exfalso
                      subst z
                      rw [b.nw j hj hΓ _ _ er e1] at ha
                      cases ha
                    · rw [upd_ne z]; exact b2.gr a o np ha
                  · have nl : j ≠ l := fun z => n2 (z ▸ hj)
                    rw [List.getElem?_set_ne nl]
                    exact b2.kp l n1 n2
                  · rcases set_at g1 with ⟨rfl, _, _⟩ | ⟨n', z⟩
                    · rw [e1] at g2
                      cases g2
                      exact b.nw _ hj hΓ _ _ er e1
                    · exact b2.nw l hl ho d' a' z g2
                  · by_cases z : a = c
                    · subst z; exact .of upd_same fun xs z => by cases z
                    · obtain ⟨o, q1, q2⟩ := x4 a ha
                      exact .of (by rw [upd_ne z]; exact q1) q2
                | _ => simp [setD] at es
        | _ => exact h.elim⟩
/-- own slots of the block that hold nothing yet -/
def sBlkO (i : Nat) (A : List Nat) (fe : Ed) (gs : Fs) : Fs := fun ρ π => if A.all (fun j => match ρ[j]? with
  | some (some _) => false
  | _ => true) = true then sSeq (sSet i fe) gs ρ π else .stuck
theorem dss_blkO (i : Nat) {A : List Nat} {x : Str} {p : Pos} (o : XOk X E k) (he : DN X E Γ e te fe) (hr : DB X E r Γl Γ Γ' i A rest us gs) (hiA : i ∉ A := by decide) (hΓ : Γ[i]? = some .f := by rfl) (hN : X.N[i]? = some x := by rfl) (hx : Loc X.env.scope x := by first | exact Or.inl rfl | exact Or.inr rfl)
    (hs : swapsWith e (some (.Name x p)) pos.line X.env = pure false := by rfl) (hf : X.fn x = true ∨ X.env.scope.names.lookup x = some .local := by first | exact .inl rfl | exact .inr rfl) :
    DSs X E r Γl Γ Γ' (.Assign [.Name x p] e pos :: rest) (tSeq (tAsg te (gName i)) us) (sBlkO i A fe gs) :=
  ⟨pss_cons (ps_set o.nd hN hx he.pe hs hf) hr.pss, fun pot M0 H0 B M σ H ρ π D S p h => by
    unfold sBlkO at h
    by_cases hA : A.all (fun j => match ρ[j]? with
      | some (some _) => false
      | _ => true) = true
    · rw [if_pos hA] at h
      refine he.sem pot M σ H ρ π S.env p _ ?_
      unfold sSeq sSet at h
      cases ef : fe ρ π with
      | stuck => rw [ef] at h; exact h.elim
      | err c ns xs π' => rw [ef] at h; exact PErr.out h S
      | ok y =>
        obtain ⟨d, π1⟩ := y
        rw [ef] at h
        dsimp only [Res.bind] at h
        intro v H1 N g1 p1 n1 n2 n3 r1
        have S1 := S.grow g1 p1
        have hd : Held X.mg X.K .f Γ pot H0 M σ H1 ρ v d := r1.mono (less_sub n1)
        have S2 := S1.put (i := i) (List.getElem?_eq_some_iff.mp hΓ).1 hd
        rw [set_same (show Γ[i]? = some Rm.f.md from hΓ)] at S2
        have li : i < Γ.length := (List.getElem?_eq_some_iff.mp hΓ).1
        refine hr.sem pot M0 H0 B M H σ ρ M _ H1 _ π1 D S S2 ⟨less_grow S.env.pm g1, g1, fun j nj _ => ⟨List.getElem?_set_ne (fun z => nj z.symm), List.getElem?_set_ne (fun z => nj z.symm)⟩, fun j hj ho d' a' q1 q2 => ?_, v, d, N, List.getElem?_set_self (by rw [S.env.ls]; exact li), List.getElem?_set_self (by rw [S.env.lr]; exact li), n1, n2, n3, r1⟩ p1 h
        have ne : i ≠ j := fun z => hiA (z ▸ hj)
        rw [List.getElem?_set_ne ne] at q1
        have := List.all_eq_true.mp hA j hj
        rw [q1] at this
        cases this
    · rw [if_neg hA] at h
      exact h.elim⟩
end
end DL
set_option maxHeartbeats 4000000
namespace LW
open PySem PySem.Spec PyProof.Rows L2 DL
def topS (i : Nat) : Stmt := PySem.Challenge.pw_pointrows_k54_whole_rows_with_a_sum.main.body.getD i (.Pass ⟨0, 0, 0, 0⟩)
abbrev s_l_draw : Stmt := topS 28
def f_l_draw : Fs := (sSeq (sIf (tBl (eBin (cmpI fun i j => decide (j < i)) ePot0 (eC (.int 0)))) (sSeq (sPotDm 2 (eVar 1)) (sRet (eVar 2))) sNext) (sSeq (sPot1 (eBin opMod (eApp fInt (aCons (eBin opAdd (eBin opMulA ePot1
    (eC (.int 39373))) (eC (.int 7043))) aNil)) (eC (.int 2147483587)))) (sRet (eBin opMod (eApp fInt (aCons (eBin opFdivW (eBin opMod (eApp fInt (aCons (eBin opMulA ePot1 ePot1) aNil)) (eC (.int
    2147483563))) (eC (.int 17))) aNil)) (eVar 1)))))
def m_l_draw : Fd := runD 3 .f f_l_draw
abbrev s_l_row : Stmt := topS 30
def f_l_row_b1 : Fs := (sIf (tBl (eBin (cmpI fun i j => decide (j < i)) (eBin opFdivW (eBin opMulA (eVar 2) (eBin opAdd (eVar 2) (eC (.int 1)))) (eC (.int 2))) (eVar 1))) (sSet 2 (eBin opSub (eVar 2) (eC (.int 1)))) sNext)
theorem f_l_row_b1_ap (ρ : Rho) (π : Pot) : f_l_row_b1 ρ π = (sIf (tBl (eBin (cmpI fun i j => decide (j < i)) (eBin opFdivW (eBin opMulA (eVar 2) (eBin opAdd (eVar 2) (eC (.int 1)))) (eC (.int 2))) (eVar 1))) (sSet 2 (eBin opSub (eVar 2) (eC (.int 1)))) sNext) ρ π := rfl
def f_l_row_b2 : Fs := (sSeq (sSet 5 (eApp fMin2 (aCons (eBin opIx (eVar 4) (eUn opNeg (eC (.int 1)))) (aCons (eBin opSub (eVar 1) (eApp fSum (aCons (eVar 4) aNil))) aNil)))) (sSeq (sIf (tOrD (tBl (eBin (cmpI fun i j =>
    decide (i < j)) (eVar 5) (eC (.int 1)))) (tBl (eBin opEq (eApp fLen (aCons (eVar 4) aNil)) (eC (.int 9))))) (sRet (eVar 4)) sNext) (sApp 4 (eBin opAdd (eC (.int 1)) (eGo m_l_draw (aCons (eC .non)
    (aCons (eVar 5) aNil)))))))
theorem f_l_row_b2_ap (ρ : Rho) (π : Pot) : f_l_row_b2 ρ π = (sSeq (sSet 5 (eApp fMin2 (aCons (eBin opIx (eVar 4) (eUn opNeg (eC (.int 1)))) (aCons (eBin opSub (eVar 1) (eApp fSum (aCons (eVar 4) aNil))) aNil)))) (sSeq (sIf (tOrD (tBl (eBin (cmpI fun i j =>
    decide (i < j)) (eVar 5) (eC (.int 1)))) (tBl (eBin opEq (eApp fLen (aCons (eVar 4) aNil)) (eC (.int 9))))) (sRet (eVar 4)) sNext) (sApp 4 (eBin opAdd (eC (.int 1)) (eGo m_l_draw (aCons (eC .non)
    (aCons (eVar 5) aNil))))))) ρ π := rfl
def f_l_row : Fs := (sSeq (sSet 2 (eBin opAdd (eC (.int 1)) (eGo m_l_draw (aCons (eC .non) (aCons (eC (.int 6)) aNil))))) (sSeq (sFor (iRng (aCons (eC (.int 6)) aNil)) (gN 3) f_l_row_b1) (sSeq (sSet 4 (eBin fRg2 (eC (.int
    1)) (eBin opAdd (eVar 2) (eC (.int 1))))) (sSeq (sFor (iRng (aCons (eGo m_l_draw (aCons (eC .non) (aCons (eC (.int 8)) aNil))) aNil)) (gN 3) f_l_row_b2) (sRet (eVar 4))))))
def m_l_row : Fd := runD 6 .o f_l_row
abbrev s_p_is_integer : Stmt := topS 5
def f_p_is_integer : Fs := (sRet (eAnd (eUn (fIs ["int"]) (eVar 0)) (eNot (eUn (fIs ["bool"]) (eVar 0)))))
def m_p_is_integer : Fd := runD 1 .f f_p_is_integer
theorem pu_f_p_is_integer : PX f_p_is_integer := (pu_ret (pu_and (pu_un pu_var) (pu_not (pu_un pu_var))))
theorem pu_m_p_is_integer : PF m_p_is_integer := pu_runD pu_f_p_is_integer
abbrev s_p_is_count : Stmt := topS 6
def f_p_is_count : Fs := (sRet (eAnd (eGo m_p_is_integer (aCons (eVar 0) aNil)) (eBin (cmpI fun i j => decide (j ≤ i)) (eVar 0) (eC (.int 0)))))
def m_p_is_count : Fd := runD 1 .f f_p_is_count
theorem pu_f_p_is_count : PX f_p_is_count := (pu_ret (pu_and (pu_go pu_m_p_is_integer (pu_acons pu_var pu_anil)) (pu_bin pu_var pu_c)))
theorem pu_m_p_is_count : PF m_p_is_count := pu_runD pu_f_p_is_count
abbrev s_p_want_many : Stmt := topS 8
def f_p_want_many : Fs := (sSeq (sIf (tOrD (tNotD (tOf (eGo m_p_is_count (aCons (eVar 0) aNil)))) (tBl (eBin (cmpI fun i j => decide (i < j)) (eVar 0) (eVar 2)))) sStuck sNext) (sIf (tAndD (tBl (eBin opNotN (eVar 1) (eC .non)))
    (tBl (eBin (cmpI fun i j => decide (j < i)) (eVar 0) (eVar 1)))) sStuck sNext))
def m_p_want_many : Fd := runD 3 .f f_p_want_many
theorem pu_f_p_want_many : PX f_p_want_many := (pu_seq (pu_if (pu_tor (pu_tnot (pu_tof (pu_go pu_m_p_is_count (pu_acons pu_var pu_anil)))) (pu_tbl (pu_bin pu_var pu_var))) pu_stuck pu_next) (pu_if (pu_tand (pu_tbl (pu_bin pu_var pu_c)) (pu_tbl
    (pu_bin pu_var pu_var))) pu_stuck pu_next))
theorem pu_m_p_want_many : PF m_p_want_many := pu_runD pu_f_p_want_many
abbrev s_p_row_of : Stmt := topS 20
def f_p_row_of_b1 : Fs := (sAugIx 1 (fun i j => i + j) (eVar 4) (eC (.int 1)))
theorem f_p_row_of_b1_ap (ρ : Rho) (π : Pot) : f_p_row_of_b1 ρ π = (sAugIx 1 (fun i j => i + j) (eVar 4) (eC (.int 1))) ρ π := rfl
def f_p_row_of_b2 : Fs := (sFor (iRng (aCons (eVar 2) (aCons (eBin opAdd (eVar 2) (eVar 3)) aNil))) (gN 4) f_p_row_of_b1)
theorem f_p_row_of_b2_ap (ρ : Rho) (π : Pot) : f_p_row_of_b2 ρ π = (sFor (iRng (aCons (eVar 2) (aCons (eBin opAdd (eVar 2) (eVar 3)) aNil))) (gN 4) f_p_row_of_b1) ρ π := rfl
def f_p_row_of : Fs := (sSeq (sSet 1 (eBin opRep (eLst (aCons (eC (.int 0)) aNil)) (eBin opIx (eVar 0) (eC (.int 0))))) (sSeq (sFor (iEnumD (aCons (eVar 0) aNil)) (gT 2 (gsCons (gN 2) (gsCons (gN 3) gsNil))) f_p_row_of_b2)
    (sRet (eVar 1))))
def m_p_row_of : Fd := runD 5 .o f_p_row_of
abbrev s_p_parts_of : Stmt := topS 22
def m_p_parts_of_0 : Fd := fun _ _ => .stuck
def f_p_parts_of_1_e1 : Ed := (eBin opAdd (eLst (aCons (eVar 3) aNil)) (eVar 4))
def f_p_parts_of_1_b1 : Fs := (sExt 2 (eLC (iVal (eGo m_p_parts_of_0 (aCons (eBin opSub (eVar 0) (eVar 3)) (aCons (eBin opSub (eVar 3) (eC (.int 1))) aNil)))) (gN 4) tTrue f_p_parts_of_1_e1 [4]))
def f_p_parts_of_1 : Fs := (sSeq (sIf (tBl (eBin opEq (eVar 0) (eC (.int 0)))) (sRet (eLst (aCons (eLst aNil) aNil))) sNext) (sSeq (sSet 2 (eLst aNil)) (sSeq (sFor (iRngDown (aCons (eApp fMin2 (aCons (eVar 0) (aCons (eVar 1)
    aNil))) (aCons (eC (.int 0)) (aCons (eUn opNeg (eC (.int 1))) aNil)))) (gN 3) f_p_parts_of_1_b1) (sRet (eVar 2)))))
def m_p_parts_of_1 : Fd := runD 5 .o f_p_parts_of_1
def f_p_parts_of_2_e1 : Ed := (eBin opAdd (eLst (aCons (eVar 3) aNil)) (eVar 4))
def f_p_parts_of_2_b1 : Fs := (sExt 2 (eLC (iVal (eGo m_p_parts_of_1 (aCons (eBin opSub (eVar 0) (eVar 3)) (aCons (eBin opSub (eVar 3) (eC (.int 1))) aNil)))) (gN 4) tTrue f_p_parts_of_2_e1 [4]))
def f_p_parts_of_2 : Fs := (sSeq (sIf (tBl (eBin opEq (eVar 0) (eC (.int 0)))) (sRet (eLst (aCons (eLst aNil) aNil))) sNext) (sSeq (sSet 2 (eLst aNil)) (sSeq (sFor (iRngDown (aCons (eApp fMin2 (aCons (eVar 0) (aCons (eVar 1)
    aNil))) (aCons (eC (.int 0)) (aCons (eUn opNeg (eC (.int 1))) aNil)))) (gN 3) f_p_parts_of_2_b1) (sRet (eVar 2)))))
def m_p_parts_of_2 : Fd := runD 5 .o f_p_parts_of_2
def f_p_parts_of_3_e1 : Ed := (eBin opAdd (eLst (aCons (eVar 3) aNil)) (eVar 4))
def f_p_parts_of_3_b1 : Fs := (sExt 2 (eLC (iVal (eGo m_p_parts_of_2 (aCons (eBin opSub (eVar 0) (eVar 3)) (aCons (eBin opSub (eVar 3) (eC (.int 1))) aNil)))) (gN 4) tTrue f_p_parts_of_3_e1 [4]))
def f_p_parts_of_3 : Fs := (sSeq (sIf (tBl (eBin opEq (eVar 0) (eC (.int 0)))) (sRet (eLst (aCons (eLst aNil) aNil))) sNext) (sSeq (sSet 2 (eLst aNil)) (sSeq (sFor (iRngDown (aCons (eApp fMin2 (aCons (eVar 0) (aCons (eVar 1)
    aNil))) (aCons (eC (.int 0)) (aCons (eUn opNeg (eC (.int 1))) aNil)))) (gN 3) f_p_parts_of_3_b1) (sRet (eVar 2)))))
def m_p_parts_of_3 : Fd := runD 5 .o f_p_parts_of_3
def f_p_parts_of_4_e1 : Ed := (eBin opAdd (eLst (aCons (eVar 3) aNil)) (eVar 4))
def f_p_parts_of_4_b1 : Fs := (sExt 2 (eLC (iVal (eGo m_p_parts_of_3 (aCons (eBin opSub (eVar 0) (eVar 3)) (aCons (eBin opSub (eVar 3) (eC (.int 1))) aNil)))) (gN 4) tTrue f_p_parts_of_4_e1 [4]))
def f_p_parts_of_4 : Fs := (sSeq (sIf (tBl (eBin opEq (eVar 0) (eC (.int 0)))) (sRet (eLst (aCons (eLst aNil) aNil))) sNext) (sSeq (sSet 2 (eLst aNil)) (sSeq (sFor (iRngDown (aCons (eApp fMin2 (aCons (eVar 0) (aCons (eVar 1)
    aNil))) (aCons (eC (.int 0)) (aCons (eUn opNeg (eC (.int 1))) aNil)))) (gN 3) f_p_parts_of_4_b1) (sRet (eVar 2)))))
def m_p_parts_of_4 : Fd := runD 5 .o f_p_parts_of_4
def f_p_parts_of_5_e1 : Ed := (eBin opAdd (eLst (aCons (eVar 3) aNil)) (eVar 4))
def f_p_parts_of_5_b1 : Fs := (sExt 2 (eLC (iVal (eGo m_p_parts_of_4 (aCons (eBin opSub (eVar 0) (eVar 3)) (aCons (eBin opSub (eVar 3) (eC (.int 1))) aNil)))) (gN 4) tTrue f_p_parts_of_5_e1 [4]))
def f_p_parts_of_5 : Fs := (sSeq (sIf (tBl (eBin opEq (eVar 0) (eC (.int 0)))) (sRet (eLst (aCons (eLst aNil) aNil))) sNext) (sSeq (sSet 2 (eLst aNil)) (sSeq (sFor (iRngDown (aCons (eApp fMin2 (aCons (eVar 0) (aCons (eVar 1)
    aNil))) (aCons (eC (.int 0)) (aCons (eUn opNeg (eC (.int 1))) aNil)))) (gN 3) f_p_parts_of_5_b1) (sRet (eVar 2)))))
def m_p_parts_of_5 : Fd := runD 5 .o f_p_parts_of_5
def f_p_parts_of_6_e1 : Ed := (eBin opAdd (eLst (aCons (eVar 3) aNil)) (eVar 4))
def f_p_parts_of_6_b1 : Fs := (sExt 2 (eLC (iVal (eGo m_p_parts_of_5 (aCons (eBin opSub (eVar 0) (eVar 3)) (aCons (eBin opSub (eVar 3) (eC (.int 1))) aNil)))) (gN 4) tTrue f_p_parts_of_6_e1 [4]))
def f_p_parts_of_6 : Fs := (sSeq (sIf (tBl (eBin opEq (eVar 0) (eC (.int 0)))) (sRet (eLst (aCons (eLst aNil) aNil))) sNext) (sSeq (sSet 2 (eLst aNil)) (sSeq (sFor (iRngDown (aCons (eApp fMin2 (aCons (eVar 0) (aCons (eVar 1)
    aNil))) (aCons (eC (.int 0)) (aCons (eUn opNeg (eC (.int 1))) aNil)))) (gN 3) f_p_parts_of_6_b1) (sRet (eVar 2)))))
def m_p_parts_of_6 : Fd := runD 5 .o f_p_parts_of_6
def f_p_parts_of_7_e1 : Ed := (eBin opAdd (eLst (aCons (eVar 3) aNil)) (eVar 4))
def f_p_parts_of_7_b1 : Fs := (sExt 2 (eLC (iVal (eGo m_p_parts_of_6 (aCons (eBin opSub (eVar 0) (eVar 3)) (aCons (eBin opSub (eVar 3) (eC (.int 1))) aNil)))) (gN 4) tTrue f_p_parts_of_7_e1 [4]))
def f_p_parts_of_7 : Fs := (sSeq (sIf (tBl (eBin opEq (eVar 0) (eC (.int 0)))) (sRet (eLst (aCons (eLst aNil) aNil))) sNext) (sSeq (sSet 2 (eLst aNil)) (sSeq (sFor (iRngDown (aCons (eApp fMin2 (aCons (eVar 0) (aCons (eVar 1)
    aNil))) (aCons (eC (.int 0)) (aCons (eUn opNeg (eC (.int 1))) aNil)))) (gN 3) f_p_parts_of_7_b1) (sRet (eVar 2)))))
def m_p_parts_of_7 : Fd := runD 5 .o f_p_parts_of_7
def f_p_parts_of_8_e1 : Ed := (eBin opAdd (eLst (aCons (eVar 3) aNil)) (eVar 4))
def f_p_parts_of_8_b1 : Fs := (sExt 2 (eLC (iVal (eGo m_p_parts_of_7 (aCons (eBin opSub (eVar 0) (eVar 3)) (aCons (eBin opSub (eVar 3) (eC (.int 1))) aNil)))) (gN 4) tTrue f_p_parts_of_8_e1 [4]))
def f_p_parts_of_8 : Fs := (sSeq (sIf (tBl (eBin opEq (eVar 0) (eC (.int 0)))) (sRet (eLst (aCons (eLst aNil) aNil))) sNext) (sSeq (sSet 2 (eLst aNil)) (sSeq (sFor (iRngDown (aCons (eApp fMin2 (aCons (eVar 0) (aCons (eVar 1)
    aNil))) (aCons (eC (.int 0)) (aCons (eUn opNeg (eC (.int 1))) aNil)))) (gN 3) f_p_parts_of_8_b1) (sRet (eVar 2)))))
def m_p_parts_of_8 : Fd := runD 5 .o f_p_parts_of_8
def f_p_parts_of_9_e1 : Ed := (eBin opAdd (eLst (aCons (eVar 3) aNil)) (eVar 4))
def f_p_parts_of_9_b1 : Fs := (sExt 2 (eLC (iVal (eGo m_p_parts_of_8 (aCons (eBin opSub (eVar 0) (eVar 3)) (aCons (eBin opSub (eVar 3) (eC (.int 1))) aNil)))) (gN 4) tTrue f_p_parts_of_9_e1 [4]))
def f_p_parts_of_9 : Fs := (sSeq (sIf (tBl (eBin opEq (eVar 0) (eC (.int 0)))) (sRet (eLst (aCons (eLst aNil) aNil))) sNext) (sSeq (sSet 2 (eLst aNil)) (sSeq (sFor (iRngDown (aCons (eApp fMin2 (aCons (eVar 0) (aCons (eVar 1)
    aNil))) (aCons (eC (.int 0)) (aCons (eUn opNeg (eC (.int 1))) aNil)))) (gN 3) f_p_parts_of_9_b1) (sRet (eVar 2)))))
def m_p_parts_of_9 : Fd := runD 5 .o f_p_parts_of_9
def f_p_parts_of_10_e1 : Ed := (eBin opAdd (eLst (aCons (eVar 3) aNil)) (eVar 4))
def f_p_parts_of_10_b1 : Fs := (sExt 2 (eLC (iVal (eGo m_p_parts_of_9 (aCons (eBin opSub (eVar 0) (eVar 3)) (aCons (eBin opSub (eVar 3) (eC (.int 1))) aNil)))) (gN 4) tTrue f_p_parts_of_10_e1 [4]))
def f_p_parts_of_10 : Fs := (sSeq (sIf (tBl (eBin opEq (eVar 0) (eC (.int 0)))) (sRet (eLst (aCons (eLst aNil) aNil))) sNext) (sSeq (sSet 2 (eLst aNil)) (sSeq (sFor (iRngDown (aCons (eApp fMin2 (aCons (eVar 0) (aCons (eVar 1)
    aNil))) (aCons (eC (.int 0)) (aCons (eUn opNeg (eC (.int 1))) aNil)))) (gN 3) f_p_parts_of_10_b1) (sRet (eVar 2)))))
def m_p_parts_of_10 : Fd := runD 5 .o f_p_parts_of_10
def f_p_parts_of_11_e1 : Ed := (eBin opAdd (eLst (aCons (eVar 3) aNil)) (eVar 4))
def f_p_parts_of_11_b1 : Fs := (sExt 2 (eLC (iVal (eGo m_p_parts_of_10 (aCons (eBin opSub (eVar 0) (eVar 3)) (aCons (eBin opSub (eVar 3) (eC (.int 1))) aNil)))) (gN 4) tTrue f_p_parts_of_11_e1 [4]))
def f_p_parts_of_11 : Fs := (sSeq (sIf (tBl (eBin opEq (eVar 0) (eC (.int 0)))) (sRet (eLst (aCons (eLst aNil) aNil))) sNext) (sSeq (sSet 2 (eLst aNil)) (sSeq (sFor (iRngDown (aCons (eApp fMin2 (aCons (eVar 0) (aCons (eVar 1)
    aNil))) (aCons (eC (.int 0)) (aCons (eUn opNeg (eC (.int 1))) aNil)))) (gN 3) f_p_parts_of_11_b1) (sRet (eVar 2)))))
def m_p_parts_of_11 : Fd := runD 5 .o f_p_parts_of_11
abbrev s_p_rows_of : Stmt := topS 23
def f_p_rows_of_e1 : Ed := (eGo m_p_row_of (aCons (eVar 1) aNil))
theorem f_p_rows_of_e1_ap (ρ : Rho) (π : Pot) : f_p_rows_of_e1 ρ π = (eGo m_p_row_of (aCons (eVar 1) aNil)) ρ π := rfl
def f_p_rows_of : Fs := (sSeq (sExpr (eGoD (List.drop 2 [.non, .int 0]) m_p_want_many (aCons (eVar 0) (aCons (eC (.int 24)) (aCons (eC (.int 1)) aNil))))) (sRet (eApp fSortB (aCons (eLC (iVal (eGo m_p_parts_of_11 (aCons (eVar
    0) (aCons (eC (.int 9)) aNil)))) (gN 1) tTrue f_p_rows_of_e1 [1]) aNil))))
def m_p_rows_of : Fd := runD 2 .o f_p_rows_of
abbrev s_l_lots : Stmt := topS 33
def f_l_lots_e1 : Ed := (eBin opAdd (eVar 3) (eLst (aCons (eVar 2) aNil)))
theorem pu_f_l_lots_e1 : PX f_l_lots_e1 := (pu_bin pu_var (pu_lst (pu_acons pu_var pu_anil)))
def f_l_lots_b1 : Fs := (sSet 1 (eBin opAdd (eVar 1) (eLC (iVal (eVar 1)) (gN 3) tTrue f_l_lots_e1 [3])))
theorem pu_f_l_lots_b1 : PX f_l_lots_b1 := (pu_set (pu_bin pu_var (pu_lc (pu_ival pu_var) pu_true pu_f_l_lots_e1)))
def f_l_lots_t1 : Et := (tBl (eBin opEq (eApp fSum (aCons (eVar 3) aNil)) (eVar 0)))
theorem pu_f_l_lots_t1 : PX f_l_lots_t1 := (pu_tbl (pu_bin (pu_app (pu_acons pu_var pu_anil)) pu_var))
def f_l_lots_e2 : Ed := (eVar 3)
theorem pu_f_l_lots_e2 : PX f_l_lots_e2 := pu_var
def f_l_lots : Fs := (sSeq (sSet 1 (eLst (aCons (eLst aNil) aNil))) (sSeq (sFor (iRngDown (aCons (eC (.int 9)) (aCons (eC (.int 0)) (aCons (eUn opNeg (eC (.int 1))) aNil)))) (gN 2) f_l_lots_b1) (sRet (eLC (iVal (eVar 1))
    (gN 3) f_l_lots_t1 f_l_lots_e2 [3]))))
def m_l_lots : Fd := runD 4 .o f_l_lots
theorem pu_f_l_lots : PX f_l_lots := (pu_seq (pu_set (pu_lst (pu_acons (pu_lst pu_anil) pu_anil))) (pu_seq (pu_for (pu_irngdown (pu_acons pu_c (pu_acons pu_c (pu_acons (pu_un pu_c) pu_anil)))) pu_f_l_lots_b1) (pu_ret (pu_lc (pu_ival
    pu_var) pu_f_l_lots_t1 pu_f_l_lots_e2))))
theorem pu_m_l_lots : PF m_l_lots := pu_runD pu_f_l_lots
abbrev s_l_on : Stmt := topS 32
def m_l_on_0 : Fd := fun _ _ => .stuck
theorem pu_m_l_on_0 : PF m_l_on_0 := fun _ => pa_st
def f_l_on_1_b1 : Fs := (sSet 3 (eBin opAdd (eVar 3) (eGo m_l_on_0 (aCons (eBin opAdd (eVar 0) (eLst (aCons (eVar 6) aNil))) (aCons (eVar 1) aNil)))))
theorem pu_f_l_on_1_b1 : PX f_l_on_1_b1 := (pu_set (pu_bin pu_var (pu_go pu_m_l_on_0 (pu_acons (pu_bin pu_var (pu_lst (pu_acons pu_var pu_anil))) (pu_acons pu_var pu_anil)))))
def f_l_on_1 : Fs := (sSeq (sSet 2 (eBin opSub (eVar 1) (eApp fSum (aCons (eVar 0) aNil)))) (sSeq (sIf (tBl (eBin opEq (eVar 2) (eC (.int 0)))) (sRet (eLst (aCons (eVar 0) aNil))) sNext) (sSeq (sIf (tBl (eBin opEq (eApp
    fLen (aCons (eVar 0) aNil)) (eC (.int 9)))) (sRet (eLst aNil)) sNext) (sSeq (sPar 3 4 (eLst aNil) (eIf (tBl (eBin opNe (eVar 0) (eLst aNil))) (eBin opIx (eVar 0) (eUn opNeg (eC (.int 1)))) (eC (.int
    0)))) (sSeq (sSet 5 (eBin opEq (eVar 0) (eBin fRg2 (eC (.int 1)) (eBin opAdd (eApp fLen (aCons (eVar 0) aNil)) (eC (.int 1)))))) (sSeq (sFor (iRng (aCons (eC (.int 1)) (aCons (eBin opAdd (eApp fMin2
    (aCons (eVar 2) (aCons (eBin opAdd (eVar 4) (eIf (tOf (eVar 5)) (eC (.int 1)) (eC (.int 0)))) aNil))) (eC (.int 1))) aNil))) (gN 6) f_l_on_1_b1) (sRet (eVar 3))))))))
def m_l_on_1 : Fd := runD 7 .f f_l_on_1
theorem pu_f_l_on_1 : PX f_l_on_1 := (pu_seq (pu_set (pu_bin pu_var (pu_app (pu_acons pu_var pu_anil)))) (pu_seq (pu_if (pu_tbl (pu_bin pu_var pu_c)) (pu_ret (pu_lst (pu_acons pu_var pu_anil))) pu_next) (pu_seq (pu_if (pu_tbl (pu_bin
    (pu_app (pu_acons pu_var pu_anil)) pu_c)) (pu_ret (pu_lst pu_anil)) pu_next) (pu_seq (pu_par (pu_lst pu_anil) (pu_eif (pu_tbl (pu_bin pu_var (pu_lst pu_anil))) (pu_bin pu_var (pu_un pu_c)) pu_c))
    (pu_seq (pu_set (pu_bin pu_var (pu_bin pu_c (pu_bin (pu_app (pu_acons pu_var pu_anil)) pu_c)))) (pu_seq (pu_for (pu_irng (pu_acons pu_c (pu_acons (pu_bin (pu_app (pu_acons pu_var (pu_acons (pu_bin
    pu_var (pu_eif (pu_tof pu_var) pu_c pu_c)) pu_anil))) pu_c) pu_anil))) pu_f_l_on_1_b1) (pu_ret pu_var)))))))
theorem pu_m_l_on_1 : PF m_l_on_1 := pu_runD pu_f_l_on_1
def f_l_on_2_b1 : Fs := (sSet 3 (eBin opAdd (eVar 3) (eGo m_l_on_1 (aCons (eBin opAdd (eVar 0) (eLst (aCons (eVar 6) aNil))) (aCons (eVar 1) aNil)))))
theorem pu_f_l_on_2_b1 : PX f_l_on_2_b1 := (pu_set (pu_bin pu_var (pu_go pu_m_l_on_1 (pu_acons (pu_bin pu_var (pu_lst (pu_acons pu_var pu_anil))) (pu_acons pu_var pu_anil)))))
def f_l_on_2 : Fs := (sSeq (sSet 2 (eBin opSub (eVar 1) (eApp fSum (aCons (eVar 0) aNil)))) (sSeq (sIf (tBl (eBin opEq (eVar 2) (eC (.int 0)))) (sRet (eLst (aCons (eVar 0) aNil))) sNext) (sSeq (sIf (tBl (eBin opEq (eApp
    fLen (aCons (eVar 0) aNil)) (eC (.int 9)))) (sRet (eLst aNil)) sNext) (sSeq (sPar 3 4 (eLst aNil) (eIf (tBl (eBin opNe (eVar 0) (eLst aNil))) (eBin opIx (eVar 0) (eUn opNeg (eC (.int 1)))) (eC (.int
    0)))) (sSeq (sSet 5 (eBin opEq (eVar 0) (eBin fRg2 (eC (.int 1)) (eBin opAdd (eApp fLen (aCons (eVar 0) aNil)) (eC (.int 1)))))) (sSeq (sFor (iRng (aCons (eC (.int 1)) (aCons (eBin opAdd (eApp fMin2
    (aCons (eVar 2) (aCons (eBin opAdd (eVar 4) (eIf (tOf (eVar 5)) (eC (.int 1)) (eC (.int 0)))) aNil))) (eC (.int 1))) aNil))) (gN 6) f_l_on_2_b1) (sRet (eVar 3))))))))
def m_l_on_2 : Fd := runD 7 .f f_l_on_2
theorem pu_f_l_on_2 : PX f_l_on_2 := (pu_seq (pu_set (pu_bin pu_var (pu_app (pu_acons pu_var pu_anil)))) (pu_seq (pu_if (pu_tbl (pu_bin pu_var pu_c)) (pu_ret (pu_lst (pu_acons pu_var pu_anil))) pu_next) (pu_seq (pu_if (pu_tbl (pu_bin
    (pu_app (pu_acons pu_var pu_anil)) pu_c)) (pu_ret (pu_lst pu_anil)) pu_next) (pu_seq (pu_par (pu_lst pu_anil) (pu_eif (pu_tbl (pu_bin pu_var (pu_lst pu_anil))) (pu_bin pu_var (pu_un pu_c)) pu_c))
    (pu_seq (pu_set (pu_bin pu_var (pu_bin pu_c (pu_bin (pu_app (pu_acons pu_var pu_anil)) pu_c)))) (pu_seq (pu_for (pu_irng (pu_acons pu_c (pu_acons (pu_bin (pu_app (pu_acons pu_var (pu_acons (pu_bin
    pu_var (pu_eif (pu_tof pu_var) pu_c pu_c)) pu_anil))) pu_c) pu_anil))) pu_f_l_on_2_b1) (pu_ret pu_var)))))))
theorem pu_m_l_on_2 : PF m_l_on_2 := pu_runD pu_f_l_on_2
def f_l_on_3_b1 : Fs := (sSet 3 (eBin opAdd (eVar 3) (eGo m_l_on_2 (aCons (eBin opAdd (eVar 0) (eLst (aCons (eVar 6) aNil))) (aCons (eVar 1) aNil)))))
theorem pu_f_l_on_3_b1 : PX f_l_on_3_b1 := (pu_set (pu_bin pu_var (pu_go pu_m_l_on_2 (pu_acons (pu_bin pu_var (pu_lst (pu_acons pu_var pu_anil))) (pu_acons pu_var pu_anil)))))
def f_l_on_3 : Fs := (sSeq (sSet 2 (eBin opSub (eVar 1) (eApp fSum (aCons (eVar 0) aNil)))) (sSeq (sIf (tBl (eBin opEq (eVar 2) (eC (.int 0)))) (sRet (eLst (aCons (eVar 0) aNil))) sNext) (sSeq (sIf (tBl (eBin opEq (eApp
    fLen (aCons (eVar 0) aNil)) (eC (.int 9)))) (sRet (eLst aNil)) sNext) (sSeq (sPar 3 4 (eLst aNil) (eIf (tBl (eBin opNe (eVar 0) (eLst aNil))) (eBin opIx (eVar 0) (eUn opNeg (eC (.int 1)))) (eC (.int
    0)))) (sSeq (sSet 5 (eBin opEq (eVar 0) (eBin fRg2 (eC (.int 1)) (eBin opAdd (eApp fLen (aCons (eVar 0) aNil)) (eC (.int 1)))))) (sSeq (sFor (iRng (aCons (eC (.int 1)) (aCons (eBin opAdd (eApp fMin2
    (aCons (eVar 2) (aCons (eBin opAdd (eVar 4) (eIf (tOf (eVar 5)) (eC (.int 1)) (eC (.int 0)))) aNil))) (eC (.int 1))) aNil))) (gN 6) f_l_on_3_b1) (sRet (eVar 3))))))))
def m_l_on_3 : Fd := runD 7 .f f_l_on_3
theorem pu_f_l_on_3 : PX f_l_on_3 := (pu_seq (pu_set (pu_bin pu_var (pu_app (pu_acons pu_var pu_anil)))) (pu_seq (pu_if (pu_tbl (pu_bin pu_var pu_c)) (pu_ret (pu_lst (pu_acons pu_var pu_anil))) pu_next) (pu_seq (pu_if (pu_tbl (pu_bin
    (pu_app (pu_acons pu_var pu_anil)) pu_c)) (pu_ret (pu_lst pu_anil)) pu_next) (pu_seq (pu_par (pu_lst pu_anil) (pu_eif (pu_tbl (pu_bin pu_var (pu_lst pu_anil))) (pu_bin pu_var (pu_un pu_c)) pu_c))
    (pu_seq (pu_set (pu_bin pu_var (pu_bin pu_c (pu_bin (pu_app (pu_acons pu_var pu_anil)) pu_c)))) (pu_seq (pu_for (pu_irng (pu_acons pu_c (pu_acons (pu_bin (pu_app (pu_acons pu_var (pu_acons (pu_bin
    pu_var (pu_eif (pu_tof pu_var) pu_c pu_c)) pu_anil))) pu_c) pu_anil))) pu_f_l_on_3_b1) (pu_ret pu_var)))))))
theorem pu_m_l_on_3 : PF m_l_on_3 := pu_runD pu_f_l_on_3
def f_l_on_4_b1 : Fs := (sSet 3 (eBin opAdd (eVar 3) (eGo m_l_on_3 (aCons (eBin opAdd (eVar 0) (eLst (aCons (eVar 6) aNil))) (aCons (eVar 1) aNil)))))
theorem pu_f_l_on_4_b1 : PX f_l_on_4_b1 := (pu_set (pu_bin pu_var (pu_go pu_m_l_on_3 (pu_acons (pu_bin pu_var (pu_lst (pu_acons pu_var pu_anil))) (pu_acons pu_var pu_anil)))))
def f_l_on_4 : Fs := (sSeq (sSet 2 (eBin opSub (eVar 1) (eApp fSum (aCons (eVar 0) aNil)))) (sSeq (sIf (tBl (eBin opEq (eVar 2) (eC (.int 0)))) (sRet (eLst (aCons (eVar 0) aNil))) sNext) (sSeq (sIf (tBl (eBin opEq (eApp
    fLen (aCons (eVar 0) aNil)) (eC (.int 9)))) (sRet (eLst aNil)) sNext) (sSeq (sPar 3 4 (eLst aNil) (eIf (tBl (eBin opNe (eVar 0) (eLst aNil))) (eBin opIx (eVar 0) (eUn opNeg (eC (.int 1)))) (eC (.int
    0)))) (sSeq (sSet 5 (eBin opEq (eVar 0) (eBin fRg2 (eC (.int 1)) (eBin opAdd (eApp fLen (aCons (eVar 0) aNil)) (eC (.int 1)))))) (sSeq (sFor (iRng (aCons (eC (.int 1)) (aCons (eBin opAdd (eApp fMin2
    (aCons (eVar 2) (aCons (eBin opAdd (eVar 4) (eIf (tOf (eVar 5)) (eC (.int 1)) (eC (.int 0)))) aNil))) (eC (.int 1))) aNil))) (gN 6) f_l_on_4_b1) (sRet (eVar 3))))))))
def m_l_on_4 : Fd := runD 7 .f f_l_on_4
theorem pu_f_l_on_4 : PX f_l_on_4 := (pu_seq (pu_set (pu_bin pu_var (pu_app (pu_acons pu_var pu_anil)))) (pu_seq (pu_if (pu_tbl (pu_bin pu_var pu_c)) (pu_ret (pu_lst (pu_acons pu_var pu_anil))) pu_next) (pu_seq (pu_if (pu_tbl (pu_bin
    (pu_app (pu_acons pu_var pu_anil)) pu_c)) (pu_ret (pu_lst pu_anil)) pu_next) (pu_seq (pu_par (pu_lst pu_anil) (pu_eif (pu_tbl (pu_bin pu_var (pu_lst pu_anil))) (pu_bin pu_var (pu_un pu_c)) pu_c))
    (pu_seq (pu_set (pu_bin pu_var (pu_bin pu_c (pu_bin (pu_app (pu_acons pu_var pu_anil)) pu_c)))) (pu_seq (pu_for (pu_irng (pu_acons pu_c (pu_acons (pu_bin (pu_app (pu_acons pu_var (pu_acons (pu_bin
    pu_var (pu_eif (pu_tof pu_var) pu_c pu_c)) pu_anil))) pu_c) pu_anil))) pu_f_l_on_4_b1) (pu_ret pu_var)))))))
theorem pu_m_l_on_4 : PF m_l_on_4 := pu_runD pu_f_l_on_4
def f_l_on_5_b1 : Fs := (sSet 3 (eBin opAdd (eVar 3) (eGo m_l_on_4 (aCons (eBin opAdd (eVar 0) (eLst (aCons (eVar 6) aNil))) (aCons (eVar 1) aNil)))))
theorem pu_f_l_on_5_b1 : PX f_l_on_5_b1 := (pu_set (pu_bin pu_var (pu_go pu_m_l_on_4 (pu_acons (pu_bin pu_var (pu_lst (pu_acons pu_var pu_anil))) (pu_acons pu_var pu_anil)))))
def f_l_on_5 : Fs := (sSeq (sSet 2 (eBin opSub (eVar 1) (eApp fSum (aCons (eVar 0) aNil)))) (sSeq (sIf (tBl (eBin opEq (eVar 2) (eC (.int 0)))) (sRet (eLst (aCons (eVar 0) aNil))) sNext) (sSeq (sIf (tBl (eBin opEq (eApp
    fLen (aCons (eVar 0) aNil)) (eC (.int 9)))) (sRet (eLst aNil)) sNext) (sSeq (sPar 3 4 (eLst aNil) (eIf (tBl (eBin opNe (eVar 0) (eLst aNil))) (eBin opIx (eVar 0) (eUn opNeg (eC (.int 1)))) (eC (.int
    0)))) (sSeq (sSet 5 (eBin opEq (eVar 0) (eBin fRg2 (eC (.int 1)) (eBin opAdd (eApp fLen (aCons (eVar 0) aNil)) (eC (.int 1)))))) (sSeq (sFor (iRng (aCons (eC (.int 1)) (aCons (eBin opAdd (eApp fMin2
    (aCons (eVar 2) (aCons (eBin opAdd (eVar 4) (eIf (tOf (eVar 5)) (eC (.int 1)) (eC (.int 0)))) aNil))) (eC (.int 1))) aNil))) (gN 6) f_l_on_5_b1) (sRet (eVar 3))))))))
def m_l_on_5 : Fd := runD 7 .f f_l_on_5
theorem pu_f_l_on_5 : PX f_l_on_5 := (pu_seq (pu_set (pu_bin pu_var (pu_app (pu_acons pu_var pu_anil)))) (pu_seq (pu_if (pu_tbl (pu_bin pu_var pu_c)) (pu_ret (pu_lst (pu_acons pu_var pu_anil))) pu_next) (pu_seq (pu_if (pu_tbl (pu_bin
    (pu_app (pu_acons pu_var pu_anil)) pu_c)) (pu_ret (pu_lst pu_anil)) pu_next) (pu_seq (pu_par (pu_lst pu_anil) (pu_eif (pu_tbl (pu_bin pu_var (pu_lst pu_anil))) (pu_bin pu_var (pu_un pu_c)) pu_c))
    (pu_seq (pu_set (pu_bin pu_var (pu_bin pu_c (pu_bin (pu_app (pu_acons pu_var pu_anil)) pu_c)))) (pu_seq (pu_for (pu_irng (pu_acons pu_c (pu_acons (pu_bin (pu_app (pu_acons pu_var (pu_acons (pu_bin
    pu_var (pu_eif (pu_tof pu_var) pu_c pu_c)) pu_anil))) pu_c) pu_anil))) pu_f_l_on_5_b1) (pu_ret pu_var)))))))
theorem pu_m_l_on_5 : PF m_l_on_5 := pu_runD pu_f_l_on_5
def f_l_on_6_b1 : Fs := (sSet 3 (eBin opAdd (eVar 3) (eGo m_l_on_5 (aCons (eBin opAdd (eVar 0) (eLst (aCons (eVar 6) aNil))) (aCons (eVar 1) aNil)))))
theorem pu_f_l_on_6_b1 : PX f_l_on_6_b1 := (pu_set (pu_bin pu_var (pu_go pu_m_l_on_5 (pu_acons (pu_bin pu_var (pu_lst (pu_acons pu_var pu_anil))) (pu_acons pu_var pu_anil)))))
def f_l_on_6 : Fs := (sSeq (sSet 2 (eBin opSub (eVar 1) (eApp fSum (aCons (eVar 0) aNil)))) (sSeq (sIf (tBl (eBin opEq (eVar 2) (eC (.int 0)))) (sRet (eLst (aCons (eVar 0) aNil))) sNext) (sSeq (sIf (tBl (eBin opEq (eApp
    fLen (aCons (eVar 0) aNil)) (eC (.int 9)))) (sRet (eLst aNil)) sNext) (sSeq (sPar 3 4 (eLst aNil) (eIf (tBl (eBin opNe (eVar 0) (eLst aNil))) (eBin opIx (eVar 0) (eUn opNeg (eC (.int 1)))) (eC (.int
    0)))) (sSeq (sSet 5 (eBin opEq (eVar 0) (eBin fRg2 (eC (.int 1)) (eBin opAdd (eApp fLen (aCons (eVar 0) aNil)) (eC (.int 1)))))) (sSeq (sFor (iRng (aCons (eC (.int 1)) (aCons (eBin opAdd (eApp fMin2
    (aCons (eVar 2) (aCons (eBin opAdd (eVar 4) (eIf (tOf (eVar 5)) (eC (.int 1)) (eC (.int 0)))) aNil))) (eC (.int 1))) aNil))) (gN 6) f_l_on_6_b1) (sRet (eVar 3))))))))
def m_l_on_6 : Fd := runD 7 .f f_l_on_6
theorem pu_f_l_on_6 : PX f_l_on_6 := (pu_seq (pu_set (pu_bin pu_var (pu_app (pu_acons pu_var pu_anil)))) (pu_seq (pu_if (pu_tbl (pu_bin pu_var pu_c)) (pu_ret (pu_lst (pu_acons pu_var pu_anil))) pu_next) (pu_seq (pu_if (pu_tbl (pu_bin
    (pu_app (pu_acons pu_var pu_anil)) pu_c)) (pu_ret (pu_lst pu_anil)) pu_next) (pu_seq (pu_par (pu_lst pu_anil) (pu_eif (pu_tbl (pu_bin pu_var (pu_lst pu_anil))) (pu_bin pu_var (pu_un pu_c)) pu_c))
    (pu_seq (pu_set (pu_bin pu_var (pu_bin pu_c (pu_bin (pu_app (pu_acons pu_var pu_anil)) pu_c)))) (pu_seq (pu_for (pu_irng (pu_acons pu_c (pu_acons (pu_bin (pu_app (pu_acons pu_var (pu_acons (pu_bin
    pu_var (pu_eif (pu_tof pu_var) pu_c pu_c)) pu_anil))) pu_c) pu_anil))) pu_f_l_on_6_b1) (pu_ret pu_var)))))))
theorem pu_m_l_on_6 : PF m_l_on_6 := pu_runD pu_f_l_on_6
def f_l_on_7_b1 : Fs := (sSet 3 (eBin opAdd (eVar 3) (eGo m_l_on_6 (aCons (eBin opAdd (eVar 0) (eLst (aCons (eVar 6) aNil))) (aCons (eVar 1) aNil)))))
theorem pu_f_l_on_7_b1 : PX f_l_on_7_b1 := (pu_set (pu_bin pu_var (pu_go pu_m_l_on_6 (pu_acons (pu_bin pu_var (pu_lst (pu_acons pu_var pu_anil))) (pu_acons pu_var pu_anil)))))
def f_l_on_7 : Fs := (sSeq (sSet 2 (eBin opSub (eVar 1) (eApp fSum (aCons (eVar 0) aNil)))) (sSeq (sIf (tBl (eBin opEq (eVar 2) (eC (.int 0)))) (sRet (eLst (aCons (eVar 0) aNil))) sNext) (sSeq (sIf (tBl (eBin opEq (eApp
    fLen (aCons (eVar 0) aNil)) (eC (.int 9)))) (sRet (eLst aNil)) sNext) (sSeq (sPar 3 4 (eLst aNil) (eIf (tBl (eBin opNe (eVar 0) (eLst aNil))) (eBin opIx (eVar 0) (eUn opNeg (eC (.int 1)))) (eC (.int
    0)))) (sSeq (sSet 5 (eBin opEq (eVar 0) (eBin fRg2 (eC (.int 1)) (eBin opAdd (eApp fLen (aCons (eVar 0) aNil)) (eC (.int 1)))))) (sSeq (sFor (iRng (aCons (eC (.int 1)) (aCons (eBin opAdd (eApp fMin2
    (aCons (eVar 2) (aCons (eBin opAdd (eVar 4) (eIf (tOf (eVar 5)) (eC (.int 1)) (eC (.int 0)))) aNil))) (eC (.int 1))) aNil))) (gN 6) f_l_on_7_b1) (sRet (eVar 3))))))))
def m_l_on_7 : Fd := runD 7 .f f_l_on_7
theorem pu_f_l_on_7 : PX f_l_on_7 := (pu_seq (pu_set (pu_bin pu_var (pu_app (pu_acons pu_var pu_anil)))) (pu_seq (pu_if (pu_tbl (pu_bin pu_var pu_c)) (pu_ret (pu_lst (pu_acons pu_var pu_anil))) pu_next) (pu_seq (pu_if (pu_tbl (pu_bin
    (pu_app (pu_acons pu_var pu_anil)) pu_c)) (pu_ret (pu_lst pu_anil)) pu_next) (pu_seq (pu_par (pu_lst pu_anil) (pu_eif (pu_tbl (pu_bin pu_var (pu_lst pu_anil))) (pu_bin pu_var (pu_un pu_c)) pu_c))
    (pu_seq (pu_set (pu_bin pu_var (pu_bin pu_c (pu_bin (pu_app (pu_acons pu_var pu_anil)) pu_c)))) (pu_seq (pu_for (pu_irng (pu_acons pu_c (pu_acons (pu_bin (pu_app (pu_acons pu_var (pu_acons (pu_bin
    pu_var (pu_eif (pu_tof pu_var) pu_c pu_c)) pu_anil))) pu_c) pu_anil))) pu_f_l_on_7_b1) (pu_ret pu_var)))))))
theorem pu_m_l_on_7 : PF m_l_on_7 := pu_runD pu_f_l_on_7
def f_l_on_8_b1 : Fs := (sSet 3 (eBin opAdd (eVar 3) (eGo m_l_on_7 (aCons (eBin opAdd (eVar 0) (eLst (aCons (eVar 6) aNil))) (aCons (eVar 1) aNil)))))
theorem pu_f_l_on_8_b1 : PX f_l_on_8_b1 := (pu_set (pu_bin pu_var (pu_go pu_m_l_on_7 (pu_acons (pu_bin pu_var (pu_lst (pu_acons pu_var pu_anil))) (pu_acons pu_var pu_anil)))))
def f_l_on_8 : Fs := (sSeq (sSet 2 (eBin opSub (eVar 1) (eApp fSum (aCons (eVar 0) aNil)))) (sSeq (sIf (tBl (eBin opEq (eVar 2) (eC (.int 0)))) (sRet (eLst (aCons (eVar 0) aNil))) sNext) (sSeq (sIf (tBl (eBin opEq (eApp
    fLen (aCons (eVar 0) aNil)) (eC (.int 9)))) (sRet (eLst aNil)) sNext) (sSeq (sPar 3 4 (eLst aNil) (eIf (tBl (eBin opNe (eVar 0) (eLst aNil))) (eBin opIx (eVar 0) (eUn opNeg (eC (.int 1)))) (eC (.int
    0)))) (sSeq (sSet 5 (eBin opEq (eVar 0) (eBin fRg2 (eC (.int 1)) (eBin opAdd (eApp fLen (aCons (eVar 0) aNil)) (eC (.int 1)))))) (sSeq (sFor (iRng (aCons (eC (.int 1)) (aCons (eBin opAdd (eApp fMin2
    (aCons (eVar 2) (aCons (eBin opAdd (eVar 4) (eIf (tOf (eVar 5)) (eC (.int 1)) (eC (.int 0)))) aNil))) (eC (.int 1))) aNil))) (gN 6) f_l_on_8_b1) (sRet (eVar 3))))))))
def m_l_on_8 : Fd := runD 7 .f f_l_on_8
theorem pu_f_l_on_8 : PX f_l_on_8 := (pu_seq (pu_set (pu_bin pu_var (pu_app (pu_acons pu_var pu_anil)))) (pu_seq (pu_if (pu_tbl (pu_bin pu_var pu_c)) (pu_ret (pu_lst (pu_acons pu_var pu_anil))) pu_next) (pu_seq (pu_if (pu_tbl (pu_bin
    (pu_app (pu_acons pu_var pu_anil)) pu_c)) (pu_ret (pu_lst pu_anil)) pu_next) (pu_seq (pu_par (pu_lst pu_anil) (pu_eif (pu_tbl (pu_bin pu_var (pu_lst pu_anil))) (pu_bin pu_var (pu_un pu_c)) pu_c))
    (pu_seq (pu_set (pu_bin pu_var (pu_bin pu_c (pu_bin (pu_app (pu_acons pu_var pu_anil)) pu_c)))) (pu_seq (pu_for (pu_irng (pu_acons pu_c (pu_acons (pu_bin (pu_app (pu_acons pu_var (pu_acons (pu_bin
    pu_var (pu_eif (pu_tof pu_var) pu_c pu_c)) pu_anil))) pu_c) pu_anil))) pu_f_l_on_8_b1) (pu_ret pu_var)))))))
theorem pu_m_l_on_8 : PF m_l_on_8 := pu_runD pu_f_l_on_8
def f_l_on_9_b1 : Fs := (sSet 3 (eBin opAdd (eVar 3) (eGo m_l_on_8 (aCons (eBin opAdd (eVar 0) (eLst (aCons (eVar 6) aNil))) (aCons (eVar 1) aNil)))))
theorem pu_f_l_on_9_b1 : PX f_l_on_9_b1 := (pu_set (pu_bin pu_var (pu_go pu_m_l_on_8 (pu_acons (pu_bin pu_var (pu_lst (pu_acons pu_var pu_anil))) (pu_acons pu_var pu_anil)))))
def f_l_on_9 : Fs := (sSeq (sSet 2 (eBin opSub (eVar 1) (eApp fSum (aCons (eVar 0) aNil)))) (sSeq (sIf (tBl (eBin opEq (eVar 2) (eC (.int 0)))) (sRet (eLst (aCons (eVar 0) aNil))) sNext) (sSeq (sIf (tBl (eBin opEq (eApp
    fLen (aCons (eVar 0) aNil)) (eC (.int 9)))) (sRet (eLst aNil)) sNext) (sSeq (sPar 3 4 (eLst aNil) (eIf (tBl (eBin opNe (eVar 0) (eLst aNil))) (eBin opIx (eVar 0) (eUn opNeg (eC (.int 1)))) (eC (.int
    0)))) (sSeq (sSet 5 (eBin opEq (eVar 0) (eBin fRg2 (eC (.int 1)) (eBin opAdd (eApp fLen (aCons (eVar 0) aNil)) (eC (.int 1)))))) (sSeq (sFor (iRng (aCons (eC (.int 1)) (aCons (eBin opAdd (eApp fMin2
    (aCons (eVar 2) (aCons (eBin opAdd (eVar 4) (eIf (tOf (eVar 5)) (eC (.int 1)) (eC (.int 0)))) aNil))) (eC (.int 1))) aNil))) (gN 6) f_l_on_9_b1) (sRet (eVar 3))))))))
def m_l_on_9 : Fd := runD 7 .f f_l_on_9
theorem pu_f_l_on_9 : PX f_l_on_9 := (pu_seq (pu_set (pu_bin pu_var (pu_app (pu_acons pu_var pu_anil)))) (pu_seq (pu_if (pu_tbl (pu_bin pu_var pu_c)) (pu_ret (pu_lst (pu_acons pu_var pu_anil))) pu_next) (pu_seq (pu_if (pu_tbl (pu_bin
    (pu_app (pu_acons pu_var pu_anil)) pu_c)) (pu_ret (pu_lst pu_anil)) pu_next) (pu_seq (pu_par (pu_lst pu_anil) (pu_eif (pu_tbl (pu_bin pu_var (pu_lst pu_anil))) (pu_bin pu_var (pu_un pu_c)) pu_c))
    (pu_seq (pu_set (pu_bin pu_var (pu_bin pu_c (pu_bin (pu_app (pu_acons pu_var pu_anil)) pu_c)))) (pu_seq (pu_for (pu_irng (pu_acons pu_c (pu_acons (pu_bin (pu_app (pu_acons pu_var (pu_acons (pu_bin
    pu_var (pu_eif (pu_tof pu_var) pu_c pu_c)) pu_anil))) pu_c) pu_anil))) pu_f_l_on_9_b1) (pu_ret pu_var)))))))
theorem pu_m_l_on_9 : PF m_l_on_9 := pu_runD pu_f_l_on_9
def f_l_on_10_b1 : Fs := (sSet 3 (eBin opAdd (eVar 3) (eGo m_l_on_9 (aCons (eBin opAdd (eVar 0) (eLst (aCons (eVar 6) aNil))) (aCons (eVar 1) aNil)))))
theorem pu_f_l_on_10_b1 : PX f_l_on_10_b1 := (pu_set (pu_bin pu_var (pu_go pu_m_l_on_9 (pu_acons (pu_bin pu_var (pu_lst (pu_acons pu_var pu_anil))) (pu_acons pu_var pu_anil)))))
def f_l_on_10 : Fs := (sSeq (sSet 2 (eBin opSub (eVar 1) (eApp fSum (aCons (eVar 0) aNil)))) (sSeq (sIf (tBl (eBin opEq (eVar 2) (eC (.int 0)))) (sRet (eLst (aCons (eVar 0) aNil))) sNext) (sSeq (sIf (tBl (eBin opEq (eApp
    fLen (aCons (eVar 0) aNil)) (eC (.int 9)))) (sRet (eLst aNil)) sNext) (sSeq (sPar 3 4 (eLst aNil) (eIf (tBl (eBin opNe (eVar 0) (eLst aNil))) (eBin opIx (eVar 0) (eUn opNeg (eC (.int 1)))) (eC (.int
    0)))) (sSeq (sSet 5 (eBin opEq (eVar 0) (eBin fRg2 (eC (.int 1)) (eBin opAdd (eApp fLen (aCons (eVar 0) aNil)) (eC (.int 1)))))) (sSeq (sFor (iRng (aCons (eC (.int 1)) (aCons (eBin opAdd (eApp fMin2
    (aCons (eVar 2) (aCons (eBin opAdd (eVar 4) (eIf (tOf (eVar 5)) (eC (.int 1)) (eC (.int 0)))) aNil))) (eC (.int 1))) aNil))) (gN 6) f_l_on_10_b1) (sRet (eVar 3))))))))
def m_l_on_10 : Fd := runD 7 .f f_l_on_10
theorem pu_f_l_on_10 : PX f_l_on_10 := (pu_seq (pu_set (pu_bin pu_var (pu_app (pu_acons pu_var pu_anil)))) (pu_seq (pu_if (pu_tbl (pu_bin pu_var pu_c)) (pu_ret (pu_lst (pu_acons pu_var pu_anil))) pu_next) (pu_seq (pu_if (pu_tbl (pu_bin
    (pu_app (pu_acons pu_var pu_anil)) pu_c)) (pu_ret (pu_lst pu_anil)) pu_next) (pu_seq (pu_par (pu_lst pu_anil) (pu_eif (pu_tbl (pu_bin pu_var (pu_lst pu_anil))) (pu_bin pu_var (pu_un pu_c)) pu_c))
    (pu_seq (pu_set (pu_bin pu_var (pu_bin pu_c (pu_bin (pu_app (pu_acons pu_var pu_anil)) pu_c)))) (pu_seq (pu_for (pu_irng (pu_acons pu_c (pu_acons (pu_bin (pu_app (pu_acons pu_var (pu_acons (pu_bin
    pu_var (pu_eif (pu_tof pu_var) pu_c pu_c)) pu_anil))) pu_c) pu_anil))) pu_f_l_on_10_b1) (pu_ret pu_var)))))))
theorem pu_m_l_on_10 : PF m_l_on_10 := pu_runD pu_f_l_on_10
def f_l_on_11_b1 : Fs := (sSet 3 (eBin opAdd (eVar 3) (eGo m_l_on_10 (aCons (eBin opAdd (eVar 0) (eLst (aCons (eVar 6) aNil))) (aCons (eVar 1) aNil)))))
theorem pu_f_l_on_11_b1 : PX f_l_on_11_b1 := (pu_set (pu_bin pu_var (pu_go pu_m_l_on_10 (pu_acons (pu_bin pu_var (pu_lst (pu_acons pu_var pu_anil))) (pu_acons pu_var pu_anil)))))
def f_l_on_11 : Fs := (sSeq (sSet 2 (eBin opSub (eVar 1) (eApp fSum (aCons (eVar 0) aNil)))) (sSeq (sIf (tBl (eBin opEq (eVar 2) (eC (.int 0)))) (sRet (eLst (aCons (eVar 0) aNil))) sNext) (sSeq (sIf (tBl (eBin opEq (eApp
    fLen (aCons (eVar 0) aNil)) (eC (.int 9)))) (sRet (eLst aNil)) sNext) (sSeq (sPar 3 4 (eLst aNil) (eIf (tBl (eBin opNe (eVar 0) (eLst aNil))) (eBin opIx (eVar 0) (eUn opNeg (eC (.int 1)))) (eC (.int
    0)))) (sSeq (sSet 5 (eBin opEq (eVar 0) (eBin fRg2 (eC (.int 1)) (eBin opAdd (eApp fLen (aCons (eVar 0) aNil)) (eC (.int 1)))))) (sSeq (sFor (iRng (aCons (eC (.int 1)) (aCons (eBin opAdd (eApp fMin2
    (aCons (eVar 2) (aCons (eBin opAdd (eVar 4) (eIf (tOf (eVar 5)) (eC (.int 1)) (eC (.int 0)))) aNil))) (eC (.int 1))) aNil))) (gN 6) f_l_on_11_b1) (sRet (eVar 3))))))))
def m_l_on_11 : Fd := runD 7 .f f_l_on_11
theorem pu_f_l_on_11 : PX f_l_on_11 := (pu_seq (pu_set (pu_bin pu_var (pu_app (pu_acons pu_var pu_anil)))) (pu_seq (pu_if (pu_tbl (pu_bin pu_var pu_c)) (pu_ret (pu_lst (pu_acons pu_var pu_anil))) pu_next) (pu_seq (pu_if (pu_tbl (pu_bin
    (pu_app (pu_acons pu_var pu_anil)) pu_c)) (pu_ret (pu_lst pu_anil)) pu_next) (pu_seq (pu_par (pu_lst pu_anil) (pu_eif (pu_tbl (pu_bin pu_var (pu_lst pu_anil))) (pu_bin pu_var (pu_un pu_c)) pu_c))
    (pu_seq (pu_set (pu_bin pu_var (pu_bin pu_c (pu_bin (pu_app (pu_acons pu_var pu_anil)) pu_c)))) (pu_seq (pu_for (pu_irng (pu_acons pu_c (pu_acons (pu_bin (pu_app (pu_acons pu_var (pu_acons (pu_bin
    pu_var (pu_eif (pu_tof pu_var) pu_c pu_c)) pu_anil))) pu_c) pu_anil))) pu_f_l_on_11_b1) (pu_ret pu_var)))))))
theorem pu_m_l_on_11 : PF m_l_on_11 := pu_runD pu_f_l_on_11
abbrev s_p_partings : Stmt := topS 25
def f_p_partings_b1 : Fs := (sAugIx 1 (fun i j => i + j) (eVar 3) (eBin opIx (eVar 1) (eBin opSub (eVar 3) (eVar 2))))
theorem pu_f_p_partings_b1 : PX f_p_partings_b1 := (pu_augix pu_var (pu_bin pu_var (pu_bin pu_var pu_var)))
def f_p_partings_b2 : Fs := (sFor (iRngDown (aCons (eVar 0) (aCons (eBin opSub (eVar 2) (eC (.int 1))) (aCons (eUn opNeg (eC (.int 1))) aNil)))) (gN 3) f_p_partings_b1)
theorem pu_f_p_partings_b2 : PX f_p_partings_b2 := (pu_for (pu_irngdown (pu_acons pu_var (pu_acons (pu_bin pu_var pu_c) (pu_acons (pu_un pu_c) pu_anil)))) pu_f_p_partings_b1)
def f_p_partings : Fs := (sSeq (sExpr (eGoD (List.drop 2 [.non, .int 0]) m_p_want_many (aCons (eVar 0) (aCons (eC (.int 24)) (aCons (eC (.int 1)) aNil))))) (sSeq (sSet 1 (eBin opCat (eLst (aCons (eC (.int 1)) aNil)) (eBin
    opRep (eLst (aCons (eC (.int 0)) aNil)) (eVar 0)))) (sSeq (sFor (iRng (aCons (eC (.int 1)) (aCons (eBin opAdd (eC (.int 9)) (eC (.int 1))) aNil))) (gN 2) f_p_partings_b2) (sRet (eBin opIx (eVar 1)
    (eVar 0))))))
def m_p_partings : Fd := runD 4 .f f_p_partings
theorem pu_f_p_partings : PX f_p_partings := (pu_seq (pu_expr (pu_goD pu_m_p_want_many (pu_acons pu_var (pu_acons pu_c (pu_acons pu_c pu_anil))))) (pu_seq (pu_set (pu_bin (pu_lst (pu_acons pu_c pu_anil)) (pu_bin (pu_lst (pu_acons pu_c pu_anil))
    pu_var))) (pu_seq (pu_for (pu_irng (pu_acons pu_c (pu_acons (pu_bin pu_c pu_c) pu_anil))) pu_f_p_partings_b2) (pu_ret (pu_bin pu_var pu_var)))))
theorem pu_m_p_partings : PF m_p_partings := pu_runD pu_f_p_partings
abbrev s_p_row_count : Stmt := topS 24
def f_p_row_count : Fs := (sSeq (sExpr (eGoD (List.drop 2 [.non, .int 0]) m_p_want_many (aCons (eVar 0) (aCons (eC (.int 24)) (aCons (eC (.int 1)) aNil))))) (sRet (eApp fLen (aCons (eGo m_p_parts_of_11 (aCons (eVar 0) (aCons
    (eC (.int 9)) aNil))) aNil))))
def m_p_row_count : Fd := runD 1 .f f_p_row_count
abbrev s_p_is_list : Stmt := topS 7
def f_p_is_list : Fs := (sRet (eUn (fIs ["list", "tuple"]) (eVar 0)))
def m_p_is_list : Fd := runD 1 .f f_p_is_list
theorem pu_f_p_is_list : PX f_p_is_list := (pu_ret (pu_un pu_var))
theorem pu_m_p_is_list : PF m_p_is_list := pu_runD pu_f_p_is_list
abbrev s_p_is_counts : Stmt := topS 12
def f_p_is_counts_e1 : Ed := (eGo m_p_is_count (aCons (eVar 1) aNil))
theorem f_p_is_counts_e1_ap (ρ : Rho) (π : Pot) : f_p_is_counts_e1 ρ π = (eGo m_p_is_count (aCons (eVar 1) aNil)) ρ π := rfl
theorem pu_f_p_is_counts_e1 : PX f_p_is_counts_e1 := (pu_go pu_m_p_is_count (pu_acons pu_var pu_anil))
def f_p_is_counts : Fs := (sRet (eAnd (eGo m_p_is_list (aCons (eVar 0) aNil)) (eAnd (eBin (cmpI fun i j => decide (j < i)) (eApp fLen (aCons (eVar 0) aNil)) (eC (.int 0))) (eApp fAll (aCons (eLC (iVal (eVar 0)) (gN 1) tTrue
    f_p_is_counts_e1 [1]) aNil)))))
def m_p_is_counts : Fd := runD 2 .f f_p_is_counts
theorem pu_f_p_is_counts : PX f_p_is_counts := (pu_ret (pu_and (pu_go pu_m_p_is_list (pu_acons pu_var pu_anil)) (pu_and (pu_bin (pu_app (pu_acons pu_var pu_anil)) pu_c) (pu_app (pu_acons (pu_lc (pu_ival pu_var) pu_true pu_f_p_is_counts_e1)
    pu_anil)))))
theorem pu_m_p_is_counts : PF m_p_is_counts := pu_runD pu_f_p_is_counts
abbrev s_p_goes_on : Stmt := topS 13
def f_p_goes_on : Fs := (sRet (eOr (eChain (cmpI fun i j => decide (i < j)) (cmpI fun i j => decide (i ≤ j)) (eC (.int 0)) (eVar 0) (eVar 1)) (eAnd (eVar 2) (eBin opEq (eVar 0) (eBin opAdd (eVar 1) (eC (.int 1)))))))
def m_p_goes_on : Fd := runD 3 .f f_p_goes_on
theorem pu_f_p_goes_on : PX f_p_goes_on := (pu_ret (pu_or (pu_chain pu_c pu_var pu_var) (pu_and pu_var (pu_bin pu_var (pu_bin pu_var pu_c)))))
theorem pu_m_p_goes_on : PF m_p_goes_on := pu_runD pu_f_p_goes_on
abbrev s_p_fault_of : Stmt := topS 14
def f_p_fault_of_b1 : Fs := (sSeq (sAug 1 (fun i j => i + j) (eVar 5)) (sSeq (sIf (tOrD (tNotD (tOf (eGo m_p_goes_on (aCons (eVar 5) (aCons (eVar 2) (aCons (eVar 3) aNil)))))) (tOrD (tBl (eBin (cmpI fun i j => decide (j < i))
    (eVar 1) (eC (.int 24)))) (tBl (eBin (cmpI fun i j => decide (j ≤ i)) (eVar 4) (eC (.int 9)))))) (sRet (eVar 4)) sNext) (sSeq (sSet 3 (eAnd (eVar 3) (eBin (cmpI fun i j => decide (j < i)) (eVar 5)
    (eVar 2)))) (sSet 2 (eVar 5)))))
theorem f_p_fault_of_b1_ap (ρ : Rho) (π : Pot) : f_p_fault_of_b1 ρ π = (sSeq (sAug 1 (fun i j => i + j) (eVar 5)) (sSeq (sIf (tOrD (tNotD (tOf (eGo m_p_goes_on (aCons (eVar 5) (aCons (eVar 2) (aCons (eVar 3) aNil)))))) (tOrD (tBl (eBin (cmpI fun i j => decide (j < i))
    (eVar 1) (eC (.int 24)))) (tBl (eBin (cmpI fun i j => decide (j ≤ i)) (eVar 4) (eC (.int 9)))))) (sRet (eVar 4)) sNext) (sSeq (sSet 3 (eAnd (eVar 3) (eBin (cmpI fun i j => decide (j < i)) (eVar 5)
    (eVar 2)))) (sSet 2 (eVar 5))))) ρ π := rfl
theorem pu_f_p_fault_of_b1 : PX f_p_fault_of_b1 := (pu_seq (pu_aug pu_var) (pu_seq (pu_if (pu_tor (pu_tnot (pu_tof (pu_go pu_m_p_goes_on (pu_acons pu_var (pu_acons pu_var (pu_acons pu_var pu_anil)))))) (pu_tor (pu_tbl (pu_bin pu_var pu_c)) (pu_tbl
    (pu_bin pu_var pu_c)))) (pu_ret pu_var) pu_next) (pu_seq (pu_set (pu_and pu_var (pu_bin pu_var pu_var))) (pu_set pu_var))))
def f_p_fault_of : Fs := (sSeq (sUnp (eTup (aCons (eC (.int 0)) (aCons (eC (.int 0)) (aCons (eC (.bl true)) aNil)))) (gT 3 (gsCons (gN 1) (gsCons (gN 2) (gsCons (gN 3) gsNil))))) (sSeq (sFor (iEnumD (aCons (eVar 0) aNil)) (gT
    2 (gsCons (gN 4) (gsCons (gN 5) gsNil))) f_p_fault_of_b1) (sRet (eC .non))))
def m_p_fault_of : Fd := runD 6 .f f_p_fault_of
theorem pu_f_p_fault_of : PX f_p_fault_of := (pu_seq (pu_unp (pu_tup (pu_acons pu_c (pu_acons pu_c (pu_acons pu_c pu_anil))))) (pu_seq (pu_for (pu_ienumd (pu_acons pu_var pu_anil)) pu_f_p_fault_of_b1) (pu_ret pu_c)))
theorem pu_m_p_fault_of : PF m_p_fault_of := pu_runD pu_f_p_fault_of
abbrev s_p_is_row : Stmt := topS 15
def f_p_is_row : Fs := (sRet (eAnd (eGo m_p_is_counts (aCons (eVar 0) aNil)) (eBin opIsN (eGo m_p_fault_of (aCons (eVar 0) aNil)) (eC .non))))
def m_p_is_row : Fd := runD 1 .f f_p_is_row
theorem pu_f_p_is_row : PX f_p_is_row := (pu_ret (pu_and (pu_go pu_m_p_is_counts (pu_acons pu_var pu_anil)) (pu_bin (pu_go pu_m_p_fault_of (pu_acons pu_var pu_anil)) pu_c)))
theorem pu_m_p_is_row : PF m_p_is_row := pu_runD pu_f_p_is_row
abbrev s_p_lengths_of : Stmt := topS 18
def f_p_lengths_of_t1 : Et := (tBl (eBin (cmpI fun i j => decide (j < i)) (eVar 2) (eVar 1)))
theorem pu_f_p_lengths_of_t1 : PX f_p_lengths_of_t1 := (pu_tbl (pu_bin pu_var pu_var))
def f_p_lengths_of_e1 : Ed := (eVar 2)
theorem pu_f_p_lengths_of_e1 : PX f_p_lengths_of_e1 := pu_var
def f_p_lengths_of_e2 : Ed := (eApp fLen (aCons (eLC (iVal (eVar 0)) (gN 2) f_p_lengths_of_t1 f_p_lengths_of_e1 [2]) aNil))
theorem pu_f_p_lengths_of_e2 : PX f_p_lengths_of_e2 := (pu_app (pu_acons (pu_lc (pu_ival pu_var) pu_f_p_lengths_of_t1 pu_f_p_lengths_of_e1) pu_anil))
def f_p_lengths_of : Fs := (sRet (eLC (iRng (aCons (eApp fMaxL (aCons (eVar 0) aNil)) aNil)) (gN 1) tTrue f_p_lengths_of_e2 [1]))
def m_p_lengths_of : Fd := runD 3 .o f_p_lengths_of
theorem pu_f_p_lengths_of : PX f_p_lengths_of := (pu_ret (pu_lc (pu_irng (pu_acons (pu_app (pu_acons pu_var pu_anil)) pu_anil)) pu_true pu_f_p_lengths_of_e2))
theorem pu_m_p_lengths_of : PF m_p_lengths_of := pu_runD pu_f_p_lengths_of
abbrev s_p_want_row : Stmt := topS 16
def f_p_want_row : Fs := (sSeq (sIf (tNotD (tOf (eGo m_p_is_row (aCons (eVar 0) aNil)))) sStuck sNext) (sRet (eApp fList (aCons (eVar 0) aNil))))
def m_p_want_row : Fd := runD 1 .o f_p_want_row
theorem pu_f_p_want_row : PX f_p_want_row := (pu_seq (pu_if (pu_tnot (pu_tof (pu_go pu_m_p_is_row (pu_acons pu_var pu_anil)))) pu_stuck pu_next) (pu_ret (pu_app (pu_acons pu_var pu_anil))))
theorem pu_m_p_want_row : PF m_p_want_row := pu_runD pu_f_p_want_row
abbrev s_p_lengths : Stmt := topS 19
def f_p_lengths : Fs := (sRet (eGo m_p_lengths_of (aCons (eGo m_p_want_row (aCons (eVar 0) aNil)) aNil)))
def m_p_lengths : Fd := runD 1 .o f_p_lengths
theorem pu_f_p_lengths : PX f_p_lengths := (pu_ret (pu_go pu_m_p_lengths_of (pu_acons (pu_go pu_m_p_want_row (pu_acons pu_var pu_anil)) pu_anil)))
theorem pu_m_p_lengths : PF m_p_lengths := pu_runD pu_f_p_lengths
abbrev s_l_right : Stmt := topS 34
def f_l_right_e1 : Ed := (eGo m_p_lengths (aCons (eVar 8) aNil))
theorem f_l_right_e1_ap (ρ : Rho) (π : Pot) : f_l_right_e1 ρ π = (eGo m_p_lengths (aCons (eVar 8) aNil)) ρ π := rfl
def f_l_right_t1 : Et := (tBl (eBin opNotB (eGo m_p_is_row (aCons (eVar 8) aNil)) (eC (.bl true))))
theorem f_l_right_t1_ap (ρ : Rho) (π : Pot) : f_l_right_t1 ρ π = (tBl (eBin opNotB (eGo m_p_is_row (aCons (eVar 8) aNil)) (eC (.bl true)))) ρ π := rfl
def f_l_right_e2 : Ed := (eVar 8)
def f_l_right : Fs := (sSeq (sSet 1 (eGo m_l_row (aCons (eC .non) (aCons (eC (.int 24)) aNil)))) (sSeq (sSet 2 (eApp fSum (aCons (eVar 1) aNil))) (sSeq (sPar 3 4 (eApp fSortB (aCons (eGo m_l_on_11 (aCons (eLst aNil) (aCons
    (eVar 2) aNil))) aNil)) (eGo m_l_lots (aCons (eVar 2) aNil))) (sBlkO 5 [6, 7] (eGoN m_p_rows_of (aCons (eVar 2) aNil)) (sIfB (tOrD (tNotD (tOf (eUn (fIs ["list"]) (eVar 5)))) (tOrD (tBl (eBin opNe
    (eVar 5) (eVar 3))) (tOrD (tBl (eBin opNe (eGo m_p_rows_of (aCons (eVar 2) aNil)) (eVar 3))) (tBl (eBin opNotInA (eVar 1) (eVar 5)))))) (sRet (eC (.bl false))) (sIfB (tOrD (tBl (eBin opNe (eLst
    (aCons (eGo m_p_partings (aCons (eVar 2) aNil)) (aCons (eGo m_p_row_count (aCons (eVar 2) aNil)) (aCons (eGo m_p_partings (aCons (eVar 2) aNil)) (aCons (eGo m_p_row_count (aCons (eVar 2) aNil))
    aNil))))) (eBin opRep (eLst (aCons (eApp fLen (aCons (eVar 4) aNil)) aNil)) (eC (.int 4))))) (tBl (eBin opNe (eApp fLen (aCons (eVar 3) aNil)) (eApp fLen (aCons (eVar 4) aNil))))) (sRet (eC (.bl
    false))) (sIfB (tOrD (tBl (eBin opNe (eLC (iVal (eVar 5)) (gN 8) f_l_right_t1 f_l_right_e2 [8]) (eLst aNil))) (tBl (eBin opNe (eApp fSortB (aCons (eLC (iVal (eVar 5)) (gN 8) tTrue f_l_right_e1 [8])
    aNil)) (eApp fSortB (aCons (eVar 4) aNil))))) (sRet (eC (.bl false))) (sSeq (sSet 6 (eApp fList (aCons (eVar 1) aNil))) (sSeq (sSet 7 (eGo m_l_draw (aCons (eC .non) (aCons (eApp fLen (aCons (eVar 6)
    aNil)) aNil)))) (sSeq (sSetIx 6 (eBin opAdd (eBin opIx (eVar 6) (eVar 7)) (eC (.int 1))) (eVar 7)) (sIfB (tOrD (tBl (eBin opInA (eVar 6) (eVar 5))) (tLook (tBl (eBin opNe (eIf (tBl (eBin (cmpI fun i
    j => decide (i < j)) (eVar 2) (eC (.int 24)))) (eBin opInA (eVar 6) (eGo m_p_rows_of (aCons (eBin opAdd (eVar 2) (eC (.int 1))) aNil))) (eC (.bl false))) (eAnd (eBin (cmpI fun i j => decide (i < j))
    (eVar 2) (eC (.int 24))) (eGo m_p_is_row (aCons (eVar 6) aNil))))))) (sRet (eC (.bl false))) (sPoke2 5 [6, 7] [6] (eBin opIx (eVar 5) (eC (.int 0))) (sRet (eBin opEq (eGo m_p_rows_of (aCons (eVar 2)
    aNil)) (eVar 3)))))))))))))))
def m_l_right : Fd := runD 9 .f f_l_right
abbrev s_l_pot : Stmt := topS 27
def f_l_pot : Fs := (sSeq (sSet 2 (eBin opAdd (eBin opMulA (eC (.int 331)) (eVar 1)) (eC (.int 79)))) (sSeq (sIf (tBl (eBin (cmpI fun i j => decide (i < j)) (eVar 1) (eApp fLen (aCons (eVar 0) aNil)))) (sSet 2 (eApp fAbs
    (aCons (eBin opIx (eVar 0) (eVar 1)) aNil))) sNext) (sRet (eLst (aCons (eApp fMax2 (aCons (eC (.int 0)) (aCons (eBin opSub (eVar 2) (eBin opPow (eC (.int 10)) (eC (.int 18)))) aNil))) (aCons (eBin
    opAdd (eBin opMod (eApp fInt (aCons (eBin opAdd (eBin opAdd (eBin opMulA (eBin opMod (eApp fInt (aCons (eVar 2) aNil)) (eC (.int 2147483549))) (eC (.int 40014))) (eBin opMulA (eC (.int 7043)) (eVar
    1))) (eC (.int 31))) aNil)) (eC (.int 2147483563))) (eC (.int 1))) aNil))))))
def m_l_pot : Fd := runD 3 .o f_l_pot
abbrev s_law_ : Stmt := topS 35
def f_law_ : Fs := (sRet (eGoPot m_l_right (eGo m_l_pot (aCons (eVar 0) (aCons (eC (.int 0)) aNil)))))
def m_law_ : Fd := runD 1 .f f_law_
structure Top (K : PySem.W.Frag) (mg : Str → Option Value) : Prop where
  f_l_draw : ∃ f fd, mg "_law_draw" = some (.ref f) ∧ Fun K "_law_draw" "_law_draw" s_l_draw f fd
  f_l_row : ∃ f fd, mg "_law_row" = some (.ref f) ∧ Fun K "_law_row" "_law_row" s_l_row f fd
  f_p_is_integer : ∃ f fd, mg "is_integer" = some (.ref f) ∧ Fun K "is_integer" "is_integer" s_p_is_integer f fd
  f_p_is_count : ∃ f fd, mg "is_count" = some (.ref f) ∧ Fun K "is_count" "is_count" s_p_is_count f fd
  f_p_want_many : ∃ f fd, mg "want_many" = some (.ref f) ∧ FunDd K "want_many" s_p_want_many [.non, .int 0] f fd
  f_p_row_of : ∃ f fd, mg "row_of" = some (.ref f) ∧ Fun K "row_of" "row_of" s_p_row_of f fd
  f_p_parts_of : ∃ f fd, mg "parts_of" = some (.ref f) ∧ Fun K "parts_of" "parts_of" s_p_parts_of f fd
  f_p_rows_of : ∃ f fd, mg "rows_of" = some (.ref f) ∧ Fun K "rows_of" "rows_of" s_p_rows_of f fd
  f_l_lots : ∃ f fd, mg "_law_lots" = some (.ref f) ∧ Fun K "_law_lots" "_law_lots" s_l_lots f fd
  f_l_on : ∃ f fd, mg "_law_on" = some (.ref f) ∧ Fun K "_law_on" "_law_on" s_l_on f fd
  f_p_partings : ∃ f fd, mg "partings" = some (.ref f) ∧ Fun K "partings" "partings" s_p_partings f fd
  f_p_row_count : ∃ f fd, mg "row_count" = some (.ref f) ∧ Fun K "row_count" "row_count" s_p_row_count f fd
  f_p_is_list : ∃ f fd, mg "is_list" = some (.ref f) ∧ Fun K "is_list" "is_list" s_p_is_list f fd
  f_p_is_counts : ∃ f fd, mg "is_counts" = some (.ref f) ∧ Fun K "is_counts" "is_counts" s_p_is_counts f fd
  f_p_goes_on : ∃ f fd, mg "goes_on" = some (.ref f) ∧ Fun K "goes_on" "goes_on" s_p_goes_on f fd
  f_p_fault_of : ∃ f fd, mg "fault_of" = some (.ref f) ∧ Fun K "fault_of" "fault_of" s_p_fault_of f fd
  f_p_is_row : ∃ f fd, mg "is_row" = some (.ref f) ∧ Fun K "is_row" "is_row" s_p_is_row f fd
  f_p_lengths_of : ∃ f fd, mg "lengths_of" = some (.ref f) ∧ Fun K "lengths_of" "lengths_of" s_p_lengths_of f fd
  f_p_want_row : ∃ f fd, mg "want_row" = some (.ref f) ∧ Fun K "want_row" "want_row" s_p_want_row f fd
  f_p_lengths : ∃ f fd, mg "lengths" = some (.ref f) ∧ Fun K "lengths" "lengths" s_p_lengths f fd
  f_l_right : ∃ f fd, mg "_law_right" = some (.ref f) ∧ Fun K "_law_right" "_law_right" s_l_right f fd
  f_l_pot : ∃ f fd, mg "_law_pot" = some (.ref f) ∧ Fun K "_law_pot" "_law_pot" s_l_pot f fd
  f_law_ : ∃ f fd, mg "law" = some (.ref f) ∧ Fun K "law" "law" s_law_ f fd
  b_abs : mg "abs" = none
  b_all : mg "all" = none
  b_bool : mg "bool" = none
  b_divmod : mg "divmod" = none
  b_enumerate : mg "enumerate" = none
  b_int : mg "int" = none
  b_isinstance : mg "isinstance" = none
  b_len : mg "len" = none
  b_list : mg "list" = none
  b_max : mg "max" = none
  b_min : mg "min" = none
  b_range : mg "range" = none
  b_sorted : mg "sorted" = none
  b_sum : mg "sum" = none
  b_tuple : mg "tuple" = none
  c_MOST_PLACES : ∃ u, mg "MOST_PLACES" = some u ∧ RelV (.int 9) u
  c_MOST_SUM : ∃ u, mg "MOST_SUM" = some u ∧ RelV (.int 24) u
theorem top_mk {K : PySem.W.Frag} {h : Heap} {mg : Str → Option Value} (X : K.In h) (G : h.Ns mainGlobals mg)
    {f0 : Addr} {od0 an0 : Option Addr} {sl0 : Array (Option Value)} {oc0 kV0 dc0 pm0 cd0 ct0 : Value}
    (a0 : PySem.W.nsIn K mainGlobals "_law_draw" = some (some (.ref f0)))
    (l0 : K.lookup f0 = some ⟨oc0, od0, .func (PySem.W.fnOf "_law_draw" "_law_draw" (defArgs s_l_draw) (defBody s_l_draw) (defScope s_l_draw) .none kV0 dc0 pm0 an0 cd0 ct0), sl0⟩) (c0 : PySem.W.codeIn K cd0 "_law_draw" = true) (k0 : PySem.W.keepIn K (.ref f0) = true)
    {f1 : Addr} {od1 an1 : Option Addr} {sl1 : Array (Option Value)} {oc1 kV1 dc1 pm1 cd1 ct1 : Value}
    (a1 : PySem.W.nsIn K mainGlobals "_law_row" = some (some (.ref f1)))
    (l1 : K.lookup f1 = some ⟨oc1, od1, .func (PySem.W.fnOf "_law_row" "_law_row" (defArgs s_l_row) (defBody s_l_row) (defScope s_l_row) .none kV1 dc1 pm1 an1 cd1 ct1), sl1⟩) (c1 : PySem.W.codeIn K cd1 "_law_row" = true) (k1 : PySem.W.keepIn K (.ref f1) = true)
    {f2 : Addr} {od2 an2 : Option Addr} {sl2 : Array (Option Value)} {oc2 kV2 dc2 pm2 cd2 ct2 : Value}
    (a2 : PySem.W.nsIn K mainGlobals "is_integer" = some (some (.ref f2)))
    (l2 : K.lookup f2 = some ⟨oc2, od2, .func (PySem.W.fnOf "is_integer" "is_integer" (defArgs s_p_is_integer) (defBody s_p_is_integer) (defScope s_p_is_integer) .none kV2 dc2 pm2 an2 cd2 ct2), sl2⟩) (c2 : PySem.W.codeIn K cd2 "is_integer" = true) (k2 : PySem.W.keepIn K (.ref f2) = true)
    {f3 : Addr} {od3 an3 : Option Addr} {sl3 : Array (Option Value)} {oc3 kV3 dc3 pm3 cd3 ct3 : Value}
    (a3 : PySem.W.nsIn K mainGlobals "is_count" = some (some (.ref f3)))
    (l3 : K.lookup f3 = some ⟨oc3, od3, .func (PySem.W.fnOf "is_count" "is_count" (defArgs s_p_is_count) (defBody s_p_is_count) (defScope s_p_is_count) .none kV3 dc3 pm3 an3 cd3 ct3), sl3⟩) (c3 : PySem.W.codeIn K cd3 "is_count" = true) (k3 : PySem.W.keepIn K (.ref f3) = true)
    {f4 : Addr} {od4 an4 : Option Addr} {sl4 : Array (Option Value)} {oc4 kV4 dc4 pm4 cd4 ct4 : Value}
    (a4 : PySem.W.nsIn K mainGlobals "want_many" = some (some (.ref f4)))
    {T4 : Addr} {ot4 : Value} {odt4 : Option Addr} {nt4 : Nat} {slt4 : Array (Option Value)} {tk4_1 : Tok}(l4 : K.lookup f4 = some ⟨oc4, od4, .func (PySem.W.fnOf "want_many" "want_many" (defArgs s_p_want_many) (defBody s_p_want_many) (defScope s_p_want_many) (.ref T4) kV4 dc4 pm4 an4 cd4 ct4), sl4⟩) (c4 : PySem.W.codeIn K cd4 "want_many" = true) (k4 : PySem.W.keepIn K (.ref f4) = true)
    (t4 : K.lookup T4 = some ⟨ot4, odt4, .seq #[.none, .int 0 tk4_1] nt4, slt4⟩)
    {f5 : Addr} {od5 an5 : Option Addr} {sl5 : Array (Option Value)} {oc5 kV5 dc5 pm5 cd5 ct5 : Value}
    (a5 : PySem.W.nsIn K mainGlobals "row_of" = some (some (.ref f5)))
    (l5 : K.lookup f5 = some ⟨oc5, od5, .func (PySem.W.fnOf "row_of" "row_of" (defArgs s_p_row_of) (defBody s_p_row_of) (defScope s_p_row_of) .none kV5 dc5 pm5 an5 cd5 ct5), sl5⟩) (c5 : PySem.W.codeIn K cd5 "row_of" = true) (k5 : PySem.W.keepIn K (.ref f5) = true)
    {f6 : Addr} {od6 an6 : Option Addr} {sl6 : Array (Option Value)} {oc6 kV6 dc6 pm6 cd6 ct6 : Value}
    (a6 : PySem.W.nsIn K mainGlobals "parts_of" = some (some (.ref f6)))
    (l6 : K.lookup f6 = some ⟨oc6, od6, .func (PySem.W.fnOf "parts_of" "parts_of" (defArgs s_p_parts_of) (defBody s_p_parts_of) (defScope s_p_parts_of) .none kV6 dc6 pm6 an6 cd6 ct6), sl6⟩) (c6 : PySem.W.codeIn K cd6 "parts_of" = true) (k6 : PySem.W.keepIn K (.ref f6) = true)
    {f7 : Addr} {od7 an7 : Option Addr} {sl7 : Array (Option Value)} {oc7 kV7 dc7 pm7 cd7 ct7 : Value}
    (a7 : PySem.W.nsIn K mainGlobals "rows_of" = some (some (.ref f7)))
    (l7 : K.lookup f7 = some ⟨oc7, od7, .func (PySem.W.fnOf "rows_of" "rows_of" (defArgs s_p_rows_of) (defBody s_p_rows_of) (defScope s_p_rows_of) .none kV7 dc7 pm7 an7 cd7 ct7), sl7⟩) (c7 : PySem.W.codeIn K cd7 "rows_of" = true) (k7 : PySem.W.keepIn K (.ref f7) = true)
    {f8 : Addr} {od8 an8 : Option Addr} {sl8 : Array (Option Value)} {oc8 kV8 dc8 pm8 cd8 ct8 : Value}
    (a8 : PySem.W.nsIn K mainGlobals "_law_lots" = some (some (.ref f8)))
    (l8 : K.lookup f8 = some ⟨oc8, od8, .func (PySem.W.fnOf "_law_lots" "_law_lots" (defArgs s_l_lots) (defBody s_l_lots) (defScope s_l_lots) .none kV8 dc8 pm8 an8 cd8 ct8), sl8⟩) (c8 : PySem.W.codeIn K cd8 "_law_lots" = true) (k8 : PySem.W.keepIn K (.ref f8) = true)
    {f9 : Addr} {od9 an9 : Option Addr} {sl9 : Array (Option Value)} {oc9 kV9 dc9 pm9 cd9 ct9 : Value}
    (a9 : PySem.W.nsIn K mainGlobals "_law_on" = some (some (.ref f9)))
    (l9 : K.lookup f9 = some ⟨oc9, od9, .func (PySem.W.fnOf "_law_on" "_law_on" (defArgs s_l_on) (defBody s_l_on) (defScope s_l_on) .none kV9 dc9 pm9 an9 cd9 ct9), sl9⟩) (c9 : PySem.W.codeIn K cd9 "_law_on" = true) (k9 : PySem.W.keepIn K (.ref f9) = true)
    {f10 : Addr} {od10 an10 : Option Addr} {sl10 : Array (Option Value)} {oc10 kV10 dc10 pm10 cd10 ct10 : Value}
    (a10 : PySem.W.nsIn K mainGlobals "partings" = some (some (.ref f10)))
    (l10 : K.lookup f10 = some ⟨oc10, od10, .func (PySem.W.fnOf "partings" "partings" (defArgs s_p_partings) (defBody s_p_partings) (defScope s_p_partings) .none kV10 dc10 pm10 an10 cd10 ct10), sl10⟩) (c10 : PySem.W.codeIn K cd10 "partings" = true) (k10 : PySem.W.keepIn K (.ref f10) = true)
    {f11 : Addr} {od11 an11 : Option Addr} {sl11 : Array (Option Value)} {oc11 kV11 dc11 pm11 cd11 ct11 : Value}
    (a11 : PySem.W.nsIn K mainGlobals "row_count" = some (some (.ref f11)))
    (l11 : K.lookup f11 = some ⟨oc11, od11, .func (PySem.W.fnOf "row_count" "row_count" (defArgs s_p_row_count) (defBody s_p_row_count) (defScope s_p_row_count) .none kV11 dc11 pm11 an11 cd11 ct11), sl11⟩) (c11 : PySem.W.codeIn K cd11 "row_count" = true) (k11 : PySem.W.keepIn K (.ref f11) = true)
    {f12 : Addr} {od12 an12 : Option Addr} {sl12 : Array (Option Value)} {oc12 kV12 dc12 pm12 cd12 ct12 : Value}
    (a12 : PySem.W.nsIn K mainGlobals "is_list" = some (some (.ref f12)))
    (l12 : K.lookup f12 = some ⟨oc12, od12, .func (PySem.W.fnOf "is_list" "is_list" (defArgs s_p_is_list) (defBody s_p_is_list) (defScope s_p_is_list) .none kV12 dc12 pm12 an12 cd12 ct12), sl12⟩) (c12 : PySem.W.codeIn K cd12 "is_list" = true) (k12 : PySem.W.keepIn K (.ref f12) = true)
    {f13 : Addr} {od13 an13 : Option Addr} {sl13 : Array (Option Value)} {oc13 kV13 dc13 pm13 cd13 ct13 : Value}
    (a13 : PySem.W.nsIn K mainGlobals "is_counts" = some (some (.ref f13)))
    (l13 : K.lookup f13 = some ⟨oc13, od13, .func (PySem.W.fnOf "is_counts" "is_counts" (defArgs s_p_is_counts) (defBody s_p_is_counts) (defScope s_p_is_counts) .none kV13 dc13 pm13 an13 cd13 ct13), sl13⟩) (c13 : PySem.W.codeIn K cd13 "is_counts" = true) (k13 : PySem.W.keepIn K (.ref f13) = true)
    {f14 : Addr} {od14 an14 : Option Addr} {sl14 : Array (Option Value)} {oc14 kV14 dc14 pm14 cd14 ct14 : Value}
    (a14 : PySem.W.nsIn K mainGlobals "goes_on" = some (some (.ref f14)))
    (l14 : K.lookup f14 = some ⟨oc14, od14, .func (PySem.W.fnOf "goes_on" "goes_on" (defArgs s_p_goes_on) (defBody s_p_goes_on) (defScope s_p_goes_on) .none kV14 dc14 pm14 an14 cd14 ct14), sl14⟩) (c14 : PySem.W.codeIn K cd14 "goes_on" = true) (k14 : PySem.W.keepIn K (.ref f14) = true)
    {f15 : Addr} {od15 an15 : Option Addr} {sl15 : Array (Option Value)} {oc15 kV15 dc15 pm15 cd15 ct15 : Value}
    (a15 : PySem.W.nsIn K mainGlobals "fault_of" = some (some (.ref f15)))
    (l15 : K.lookup f15 = some ⟨oc15, od15, .func (PySem.W.fnOf "fault_of" "fault_of" (defArgs s_p_fault_of) (defBody s_p_fault_of) (defScope s_p_fault_of) .none kV15 dc15 pm15 an15 cd15 ct15), sl15⟩) (c15 : PySem.W.codeIn K cd15 "fault_of" = true) (k15 : PySem.W.keepIn K (.ref f15) = true)
    {f16 : Addr} {od16 an16 : Option Addr} {sl16 : Array (Option Value)} {oc16 kV16 dc16 pm16 cd16 ct16 : Value}
    (a16 : PySem.W.nsIn K mainGlobals "is_row" = some (some (.ref f16)))
    (l16 : K.lookup f16 = some ⟨oc16, od16, .func (PySem.W.fnOf "is_row" "is_row" (defArgs s_p_is_row) (defBody s_p_is_row) (defScope s_p_is_row) .none kV16 dc16 pm16 an16 cd16 ct16), sl16⟩) (c16 : PySem.W.codeIn K cd16 "is_row" = true) (k16 : PySem.W.keepIn K (.ref f16) = true)
    {f17 : Addr} {od17 an17 : Option Addr} {sl17 : Array (Option Value)} {oc17 kV17 dc17 pm17 cd17 ct17 : Value}
    (a17 : PySem.W.nsIn K mainGlobals "lengths_of" = some (some (.ref f17)))
    (l17 : K.lookup f17 = some ⟨oc17, od17, .func (PySem.W.fnOf "lengths_of" "lengths_of" (defArgs s_p_lengths_of) (defBody s_p_lengths_of) (defScope s_p_lengths_of) .none kV17 dc17 pm17 an17 cd17 ct17), sl17⟩) (c17 : PySem.W.codeIn K cd17 "lengths_of" = true) (k17 : PySem.W.keepIn K (.ref f17) = true)
    {f18 : Addr} {od18 an18 : Option Addr} {sl18 : Array (Option Value)} {oc18 kV18 dc18 pm18 cd18 ct18 : Value}
    (a18 : PySem.W.nsIn K mainGlobals "want_row" = some (some (.ref f18)))
    (l18 : K.lookup f18 = some ⟨oc18, od18, .func (PySem.W.fnOf "want_row" "want_row" (defArgs s_p_want_row) (defBody s_p_want_row) (defScope s_p_want_row) .none kV18 dc18 pm18 an18 cd18 ct18), sl18⟩) (c18 : PySem.W.codeIn K cd18 "want_row" = true) (k18 : PySem.W.keepIn K (.ref f18) = true)
    {f19 : Addr} {od19 an19 : Option Addr} {sl19 : Array (Option Value)} {oc19 kV19 dc19 pm19 cd19 ct19 : Value}
    (a19 : PySem.W.nsIn K mainGlobals "lengths" = some (some (.ref f19)))
    (l19 : K.lookup f19 = some ⟨oc19, od19, .func (PySem.W.fnOf "lengths" "lengths" (defArgs s_p_lengths) (defBody s_p_lengths) (defScope s_p_lengths) .none kV19 dc19 pm19 an19 cd19 ct19), sl19⟩) (c19 : PySem.W.codeIn K cd19 "lengths" = true) (k19 : PySem.W.keepIn K (.ref f19) = true)
    {f20 : Addr} {od20 an20 : Option Addr} {sl20 : Array (Option Value)} {oc20 kV20 dc20 pm20 cd20 ct20 : Value}
    (a20 : PySem.W.nsIn K mainGlobals "_law_right" = some (some (.ref f20)))
    (l20 : K.lookup f20 = some ⟨oc20, od20, .func (PySem.W.fnOf "_law_right" "_law_right" (defArgs s_l_right) (defBody s_l_right) (defScope s_l_right) .none kV20 dc20 pm20 an20 cd20 ct20), sl20⟩) (c20 : PySem.W.codeIn K cd20 "_law_right" = true) (k20 : PySem.W.keepIn K (.ref f20) = true)
    {f21 : Addr} {od21 an21 : Option Addr} {sl21 : Array (Option Value)} {oc21 kV21 dc21 pm21 cd21 ct21 : Value}
    (a21 : PySem.W.nsIn K mainGlobals "_law_pot" = some (some (.ref f21)))
    (l21 : K.lookup f21 = some ⟨oc21, od21, .func (PySem.W.fnOf "_law_pot" "_law_pot" (defArgs s_l_pot) (defBody s_l_pot) (defScope s_l_pot) .none kV21 dc21 pm21 an21 cd21 ct21), sl21⟩) (c21 : PySem.W.codeIn K cd21 "_law_pot" = true) (k21 : PySem.W.keepIn K (.ref f21) = true)
    {f22 : Addr} {od22 an22 : Option Addr} {sl22 : Array (Option Value)} {oc22 kV22 dc22 pm22 cd22 ct22 : Value}
    (a22 : PySem.W.nsIn K mainGlobals "law" = some (some (.ref f22)))
    (l22 : K.lookup f22 = some ⟨oc22, od22, .func (PySem.W.fnOf "law" "law" (defArgs s_law_) (defBody s_law_) (defScope s_law_) .none kV22 dc22 pm22 an22 cd22 ct22), sl22⟩) (c22 : PySem.W.codeIn K cd22 "law" = true) (k22 : PySem.W.keepIn K (.ref f22) = true)
    (hb_abs : PySem.W.nsIn K mainGlobals "abs" = some none)
    (hb_all : PySem.W.nsIn K mainGlobals "all" = some none)
    (hb_bool : PySem.W.nsIn K mainGlobals "bool" = some none)
    (hb_divmod : PySem.W.nsIn K mainGlobals "divmod" = some none)
    (hb_enumerate : PySem.W.nsIn K mainGlobals "enumerate" = some none)
    (hb_int : PySem.W.nsIn K mainGlobals "int" = some none)
    (hb_isinstance : PySem.W.nsIn K mainGlobals "isinstance" = some none)
    (hb_len : PySem.W.nsIn K mainGlobals "len" = some none)
    (hb_list : PySem.W.nsIn K mainGlobals "list" = some none)
    (hb_max : PySem.W.nsIn K mainGlobals "max" = some none)
    (hb_min : PySem.W.nsIn K mainGlobals "min" = some none)
    (hb_range : PySem.W.nsIn K mainGlobals "range" = some none)
    (hb_sorted : PySem.W.nsIn K mainGlobals "sorted" = some none)
    (hb_sum : PySem.W.nsIn K mainGlobals "sum" = some none)
    (hb_tuple : PySem.W.nsIn K mainGlobals "tuple" = some none)
    {tk_MOST_PLACES : Tok} (hc_MOST_PLACES : PySem.W.nsIn K mainGlobals "MOST_PLACES" = some (some (.int 9 tk_MOST_PLACES)))
    {tk_MOST_SUM : Tok} (hc_MOST_SUM : PySem.W.nsIn K mainGlobals "MOST_SUM" = some (some (.int 24 tk_MOST_SUM))) : Top K mg :=
  { f_l_draw := ⟨f0, _, PySem.W.mg_of X G a0, fun_mk (st := s_l_draw) l0 c0 k0⟩,
    f_l_row := ⟨f1, _, PySem.W.mg_of X G a1, fun_mk (st := s_l_row) l1 c1 k1⟩,
    f_p_is_integer := ⟨f2, _, PySem.W.mg_of X G a2, fun_mk (st := s_p_is_integer) l2 c2 k2⟩,
    f_p_is_count := ⟨f3, _, PySem.W.mg_of X G a3, fun_mk (st := s_p_is_count) l3 c3 k3⟩,
    f_p_want_many := ⟨f4, _, PySem.W.mg_of X G a4, fund_mk (st := s_p_want_many) (its := [.none, .int 0 tk4_1]) l4 c4 k4 t4 (.cons rfl (.cons ⟨_, rfl⟩ .nil))⟩,
    f_p_row_of := ⟨f5, _, PySem.W.mg_of X G a5, fun_mk (st := s_p_row_of) l5 c5 k5⟩,
    f_p_parts_of := ⟨f6, _, PySem.W.mg_of X G a6, fun_mk (st := s_p_parts_of) l6 c6 k6⟩,
    f_p_rows_of := ⟨f7, _, PySem.W.mg_of X G a7, fun_mk (st := s_p_rows_of) l7 c7 k7⟩,
    f_l_lots := ⟨f8, _, PySem.W.mg_of X G a8, fun_mk (st := s_l_lots) l8 c8 k8⟩,
    f_l_on := ⟨f9, _, PySem.W.mg_of X G a9, fun_mk (st := s_l_on) l9 c9 k9⟩,
    f_p_partings := ⟨f10, _, PySem.W.mg_of X G a10, fun_mk (st := s_p_partings) l10 c10 k10⟩,
    f_p_row_count := ⟨f11, _, PySem.W.mg_of X G a11, fun_mk (st := s_p_row_count) l11 c11 k11⟩,
    f_p_is_list := ⟨f12, _, PySem.W.mg_of X G a12, fun_mk (st := s_p_is_list) l12 c12 k12⟩,
    f_p_is_counts := ⟨f13, _, PySem.W.mg_of X G a13, fun_mk (st := s_p_is_counts) l13 c13 k13⟩,
    f_p_goes_on := ⟨f14, _, PySem.W.mg_of X G a14, fun_mk (st := s_p_goes_on) l14 c14 k14⟩,
    f_p_fault_of := ⟨f15, _, PySem.W.mg_of X G a15, fun_mk (st := s_p_fault_of) l15 c15 k15⟩,
    f_p_is_row := ⟨f16, _, PySem.W.mg_of X G a16, fun_mk (st := s_p_is_row) l16 c16 k16⟩,
    f_p_lengths_of := ⟨f17, _, PySem.W.mg_of X G a17, fun_mk (st := s_p_lengths_of) l17 c17 k17⟩,
    f_p_want_row := ⟨f18, _, PySem.W.mg_of X G a18, fun_mk (st := s_p_want_row) l18 c18 k18⟩,
    f_p_lengths := ⟨f19, _, PySem.W.mg_of X G a19, fun_mk (st := s_p_lengths) l19 c19 k19⟩,
    f_l_right := ⟨f20, _, PySem.W.mg_of X G a20, fun_mk (st := s_l_right) l20 c20 k20⟩,
    f_l_pot := ⟨f21, _, PySem.W.mg_of X G a21, fun_mk (st := s_l_pot) l21 c21 k21⟩,
    f_law_ := ⟨f22, _, PySem.W.mg_of X G a22, fun_mk (st := s_law_) l22 c22 k22⟩,
    b_abs := PySem.W.mg_none_of X G hb_abs,
    b_all := PySem.W.mg_none_of X G hb_all,
    b_bool := PySem.W.mg_none_of X G hb_bool,
    b_divmod := PySem.W.mg_none_of X G hb_divmod,
    b_enumerate := PySem.W.mg_none_of X G hb_enumerate,
    b_int := PySem.W.mg_none_of X G hb_int,
    b_isinstance := PySem.W.mg_none_of X G hb_isinstance,
    b_len := PySem.W.mg_none_of X G hb_len,
    b_list := PySem.W.mg_none_of X G hb_list,
    b_max := PySem.W.mg_none_of X G hb_max,
    b_min := PySem.W.mg_none_of X G hb_min,
    b_range := PySem.W.mg_none_of X G hb_range,
    b_sorted := PySem.W.mg_none_of X G hb_sorted,
    b_sum := PySem.W.mg_none_of X G hb_sum,
    b_tuple := PySem.W.mg_none_of X G hb_tuple,
    c_MOST_PLACES := ⟨_, PySem.W.mg_of X G hc_MOST_PLACES, _, rfl⟩,
    c_MOST_SUM := ⟨_, PySem.W.mg_of X G hc_MOST_SUM, _, rfl⟩ }
section
variable {P : Program} {w : World} {K : PySem.W.Frag} {mg : Str → Option Value} {base : Heap}
theorem d_l_draw (T : Top K mg) : DFn P w K mg base 1 "_law_draw" s_l_draw ["_law_pot_here", "_law_size"] [.p, .f] .f m_l_draw :=
  dfn_of (N := ["_law_pot_here", "_law_size", "_law_digit"]) [.p, .f, .f] [.p, .f, .f] T.f_l_draw ⟨rfl, rfl, rfl, by decide, rfl, by decide, by decide⟩ rfl rfl (by decide) rfl (by first | exact .inl (.inl rfl) | exact .inl (.inr rfl) | exact .inr rfl) fun f cdv A outer s H E o =>
  ⟨_, (dss_cons (ds_if (dt_cmp o_gt (de_pot0 0) de_int) (dss_cons (ds_potdm 0 2 o T.b_divmod (de_var 1)) (dss_one (ds_ret (de_var 2)))) dss_nil) (dss_cons (ds_pot1 0 (de_bin o_mod (de_callTy c_int T.b_int
    (da_b (de_bin o_add (de_bin o_mulA (de_pot1 0) de_int) de_int) da_nil)) de_int)) (dss_one (ds_ret (de_bin o_mod (de_callTy c_int T.b_int (da_b (de_bin o_fdivW (de_bin o_mod (de_callTy c_int T.b_int
    (da_b (de_bin o_mulA (de_pot1 0) (de_pot1 0)) da_nil)) de_int) de_int) da_nil)) (de_var 1))))))⟩
theorem b_l_draw : ∀ (kV doc pm : Value) (an : Option Addr) (cdv ct : Value) (us : List Value), us.length = 2 → bindArgs (PySem.W.fnOf "_law_draw" "_law_draw" (defArgs s_l_draw) (defBody s_l_draw) (defScope s_l_draw) .none kV doc pm an cdv ct) ⟨us, []⟩ = pure ((["_law_pot_here", "_law_size"] : List Str).zip us) := fun _ _ _ _ _ _ us hl => match us, hl with | [_, _], _ => rfl
theorem d_l_row (T : Top K mg) : DFn P w K mg base 2 "_law_row" s_l_row ["_law_pot_here", "_law_most"] [.p, .f] .o m_l_row :=
  dfn_of (N := ["_law_pot_here", "_law_most", "_law_rise", "_law_turn", "_law_found", "_law_room"]) [.p, .f, .f, .f, .o, .f] [.p, .f, .f, .f, .o, .f] T.f_l_row ⟨rfl, rfl, rfl, by decide, rfl, by decide, by decide⟩ rfl rfl (by decide) rfl (by first | exact .inl (.inl rfl) | exact .inl (.inr rfl) | exact .inr rfl) fun f cdv A outer s H E o =>
  ⟨_, (dss_cons (ds_set 2 o (de_bin o_add de_int (de_call (d_l_draw T) o b_l_draw (da_p 0 (da_f de_int da_nil))))) (dss_cons (ds_for o (di_range1 T.b_range (da_f de_int da_nil)) (dg_name 3 o.nd) (dss_one
    (ds_if (dt_cmp o_gt (de_bin o_fdivW (de_bin o_mulA (de_var 2) (de_bin o_add (de_var 2) de_int)) de_int) (de_var 1)) (dss_one (ds_set 2 o (de_bin o_sub (de_var 2) de_int))) dss_nil))) (dss_cons
    (ds_set 4 o (de_listRg2 o T.b_list T.b_range de_int (de_bin o_add (de_var 2) de_int))) (dss_cons (ds_for o (di_range1 T.b_range (da_f (de_call (d_l_draw T) o b_l_draw (da_p 0 (da_f de_int da_nil)))
    da_nil)) (dg_name 3 o.nd) (dss_cons (ds_set 5 o (de_callB (c_min2 o) T.b_min (da_b (de_ix (de_varo 4) (de_un o_neg de_int)) (da_b (de_bin o_sub (de_var 1) (de_callB (c_sum o) T.b_sum (da_b (de_varo
    4) da_nil))) da_nil)))) (dss_cons (ds_if (DW.dt (dw_or (dt_cmp o_lt (de_var 5) de_int) (dw_or1 (dt_cmp (o_eq o) (de_callB c_len T.b_len (da_b (de_varo 4) da_nil)) de_int)))) (dss_one (ds_reto 4))
    dss_nil) (dss_one (ds_app 4 (de_bin o_add de_int (de_call (d_l_draw T) o b_l_draw (da_p 0 (da_f (de_var 5) da_nil))))))))) (dss_one (ds_reto 4))))))⟩
theorem b_l_row : ∀ (kV doc pm : Value) (an : Option Addr) (cdv ct : Value) (us : List Value), us.length = 2 → bindArgs (PySem.W.fnOf "_law_row" "_law_row" (defArgs s_l_row) (defBody s_l_row) (defScope s_l_row) .none kV doc pm an cdv ct) ⟨us, []⟩ = pure ((["_law_pot_here", "_law_most"] : List Str).zip us) := fun _ _ _ _ _ _ us hl => match us, hl with | [_, _], _ => rfl
theorem d_p_is_integer (T : Top K mg) : DFn P w K mg base 1 "is_integer" s_p_is_integer ["value"] [.f] .f m_p_is_integer :=
  dfn_of (N := ["value"]) [.f] [.f] T.f_p_is_integer ⟨rfl, rfl, rfl, by decide, rfl, by decide, by decide⟩ rfl rfl (by decide) rfl (by first | exact .inl (.inl rfl) | exact .inl (.inr rfl) | exact .inr rfl) fun f cdv A outer s H E o =>
  ⟨_, (dss_one (ds_ret (de_and (de_isi (T := "int") T.b_isinstance T.b_int (de_var 0)) (de_one (de_not (de_isi (T := "bool") T.b_isinstance T.b_bool (de_var 0)))))))⟩
theorem b_p_is_integer : ∀ (kV doc pm : Value) (an : Option Addr) (cdv ct : Value) (us : List Value), us.length = 1 → bindArgs (PySem.W.fnOf "is_integer" "is_integer" (defArgs s_p_is_integer) (defBody s_p_is_integer) (defScope s_p_is_integer) .none kV doc pm an cdv ct) ⟨us, []⟩ = pure ((["value"] : List Str).zip us) := fun _ _ _ _ _ _ us hl => match us, hl with | [_], _ => rfl
theorem d_p_is_count (T : Top K mg) : DFn P w K mg base 2 "is_count" s_p_is_count ["value"] [.f] .f m_p_is_count :=
  dfn_of (N := ["value"]) [.f] [.f] T.f_p_is_count ⟨rfl, rfl, rfl, by decide, rfl, by decide, by decide⟩ rfl rfl (by decide) rfl (by first | exact .inl (.inl rfl) | exact .inl (.inr rfl) | exact .inr rfl) fun f cdv A outer s H E o =>
  ⟨_, (dss_one (ds_ret (de_and (de_call (d_p_is_integer T) o b_p_is_integer (da_f (de_var 0) da_nil)) (de_one (de_cmp o_ge (de_var 0) de_int)))))⟩
theorem b_p_is_count : ∀ (kV doc pm : Value) (an : Option Addr) (cdv ct : Value) (us : List Value), us.length = 1 → bindArgs (PySem.W.fnOf "is_count" "is_count" (defArgs s_p_is_count) (defBody s_p_is_count) (defScope s_p_is_count) .none kV doc pm an cdv ct) ⟨us, []⟩ = pure ((["value"] : List Str).zip us) := fun _ _ _ _ _ _ us hl => match us, hl with | [_], _ => rfl
theorem d_p_want_many (T : Top K mg) : DFnD P w K mg base 3 "want_many" s_p_want_many ["value", "most", "least"] [.f, .f, .f] .f [.non, .int 0] m_p_want_many :=
  dfn_ofD (N := ["value", "most", "least"]) [.f, .f, .f] [.f, .f, .f] T.f_p_want_many ⟨rfl, rfl, rfl, by decide, rfl, by decide, by decide⟩ rfl rfl (by decide) rfl (by first | exact .inl (.inl rfl) | exact .inl (.inr rfl) | exact .inr rfl) fun f cdv A outer s H E o =>
  ⟨_, (dss_cons (ds_if (DW.dt (dw_or (dt_not (dt_of (de_call (d_p_is_count T) o b_p_is_count (da_f (de_var 0) da_nil)))) (dw_or1 (dt_cmp o_lt (de_var 0) (de_var 2))))) (dss_one ds_never) dss_nil) (dss_one
    (ds_if (DW.dt (dw_and (dt_cmp o_notN (de_var 1) de_non) (dw_and1 (dt_cmp o_gt (de_var 0) (de_var 1))))) (dss_one ds_never) dss_nil)))⟩
theorem d_p_row_of (T : Top K mg) : DFn P w K mg base 1 "row_of" s_p_row_of ["sizes"] [.f] .o m_p_row_of :=
  dfn_of (N := ["sizes", "found", "second", "size", "place"]) [.f, .o, .f, .f, .f] [.f, .o, .f, .f, .f] T.f_p_row_of ⟨rfl, rfl, rfl, by decide, rfl, by decide, by decide⟩ rfl rfl (by decide) rfl (by first | exact .inl (.inl rfl) | exact .inl (.inr rfl) | exact .inr rfl) fun f cdv A outer s H E o =>
  ⟨_, (dss_cons (ds_set 1 o (de_bin o_rep (de_lst (da_f de_int da_nil)) (de_ix (de_var 0) de_int))) (dss_cons (ds_for o (di_enum T.b_enumerate (da_f (de_var 0) da_nil)) (dg_tup o.calm (dgs_cons (dg_name 2
    o.nd) (dgs_cons (dg_name 3 o.nd) dgs_nil))) (dss_one (ds_for o (di_range2 T.b_range (da_f (de_var 2) (da_f (de_bin o_add (de_var 2) (de_var 3)) da_nil))) (dg_name 4 o.nd) (dss_one (ds_augix 1 (g :=
    fun i j => i + j) ip_add (de_var 4) de_int))))) (dss_one (ds_reto 1))))⟩
theorem b_p_row_of : ∀ (kV doc pm : Value) (an : Option Addr) (cdv ct : Value) (us : List Value), us.length = 1 → bindArgs (PySem.W.fnOf "row_of" "row_of" (defArgs s_p_row_of) (defBody s_p_row_of) (defScope s_p_row_of) .none kV doc pm an cdv ct) ⟨us, []⟩ = pure ((["sizes"] : List Str).zip us) := fun _ _ _ _ _ _ us hl => match us, hl with | [_], _ => rfl
theorem b_p_parts_of_0 : ∀ (kV doc pm : Value) (an : Option Addr) (cdv ct : Value) (us : List Value), us.length = 2 → bindArgs (PySem.W.fnOf "parts_of" "parts_of" (defArgs s_p_parts_of) (defBody s_p_parts_of) (defScope s_p_parts_of) .none kV doc pm an cdv ct) ⟨us, []⟩ = pure ((["many", "most"] : List Str).zip us) := fun _ _ _ _ _ _ us hl => match us, hl with | [_, _], _ => rfl
theorem d_p_parts_of_0 (T : Top K mg) : DFn P w K mg base 1 "parts_of" s_p_parts_of ["many", "most"] [.f, .f] .o m_p_parts_of_0 := dfn_stuck T.f_p_parts_of
theorem d_p_parts_of_1 (T : Top K mg) : DFn P w K mg base 2 "parts_of" s_p_parts_of ["many", "most"] [.f, .f] .o m_p_parts_of_1 :=
  dfn_of (N := ["many", "most", "found", "first", "rest"]) [.f, .f, .o, .f, .f] [.f, .f, .o, .f, .f] T.f_p_parts_of ⟨rfl, rfl, rfl, by decide, rfl, by decide, by decide⟩ rfl rfl (by decide) rfl (by first | exact .inl (.inl rfl) | exact .inl (.inr rfl) | exact .inr rfl) fun f cdv A outer s H E o =>
  ⟨_, (dss_cons (ds_if (dt_cmp (o_eq o) (de_var 0) de_int) (dss_one (ds_ret (de_lst (da_f ((de_lst da_nil)).toF da_nil)))) dss_nil) (dss_cons (ds_set 2 o (de_lst da_nil)) (dss_cons (ds_for o (di_rangeDn
    T.b_range (da_f (de_callB (c_min2 o) T.b_min (da_b (de_var 0) (da_b (de_var 1) da_nil))) (da_f de_int (da_f (de_un o_neg de_int) da_nil)))) (dg_name 3 o.nd) (dss_one (ds_ext 2 (de_lc (own :=
    [("rest", 4)]) o (di_seq ((de_call (d_p_parts_of_0 T) o b_p_parts_of_0 (da_f (de_bin o_sub (de_var 0) (de_var 3)) (da_f (de_bin o_sub (de_var 3) de_int) da_nil)))).toF) (blk_of (by rfl)) (fun _ _ _ _
    _ => ⟨_, (dg_name 4 (XOk.blk o).nd)⟩) (fun _ _ _ _ _ => ⟨_, dts_nil⟩) (fun _ _ _ _ _ => ⟨_, (de_bin o_add (de_lst (da_f (de_var 3) da_nil)) (de_var 4))⟩))))) (dss_one (ds_reto 2)))))⟩
theorem b_p_parts_of_1 : ∀ (kV doc pm : Value) (an : Option Addr) (cdv ct : Value) (us : List Value), us.length = 2 → bindArgs (PySem.W.fnOf "parts_of" "parts_of" (defArgs s_p_parts_of) (defBody s_p_parts_of) (defScope s_p_parts_of) .none kV doc pm an cdv ct) ⟨us, []⟩ = pure ((["many", "most"] : List Str).zip us) := fun _ _ _ _ _ _ us hl => match us, hl with | [_, _], _ => rfl
theorem d_p_parts_of_2 (T : Top K mg) : DFn P w K mg base 3 "parts_of" s_p_parts_of ["many", "most"] [.f, .f] .o m_p_parts_of_2 :=
  dfn_of (N := ["many", "most", "found", "first", "rest"]) [.f, .f, .o, .f, .f] [.f, .f, .o, .f, .f] T.f_p_parts_of ⟨rfl, rfl, rfl, by decide, rfl, by decide, by decide⟩ rfl rfl (by decide) rfl (by first | exact .inl (.inl rfl) | exact .inl (.inr rfl) | exact .inr rfl) fun f cdv A outer s H E o =>
  ⟨_, (dss_cons (ds_if (dt_cmp (o_eq o) (de_var 0) de_int) (dss_one (ds_ret (de_lst (da_f ((de_lst da_nil)).toF da_nil)))) dss_nil) (dss_cons (ds_set 2 o (de_lst da_nil)) (dss_cons (ds_for o (di_rangeDn
    T.b_range (da_f (de_callB (c_min2 o) T.b_min (da_b (de_var 0) (da_b (de_var 1) da_nil))) (da_f de_int (da_f (de_un o_neg de_int) da_nil)))) (dg_name 3 o.nd) (dss_one (ds_ext 2 (de_lc (own :=
    [("rest", 4)]) o (di_seq ((de_call (d_p_parts_of_1 T) o b_p_parts_of_1 (da_f (de_bin o_sub (de_var 0) (de_var 3)) (da_f (de_bin o_sub (de_var 3) de_int) da_nil)))).toF) (blk_of (by rfl)) (fun _ _ _ _
    _ => ⟨_, (dg_name 4 (XOk.blk o).nd)⟩) (fun _ _ _ _ _ => ⟨_, dts_nil⟩) (fun _ _ _ _ _ => ⟨_, (de_bin o_add (de_lst (da_f (de_var 3) da_nil)) (de_var 4))⟩))))) (dss_one (ds_reto 2)))))⟩
theorem b_p_parts_of_2 : ∀ (kV doc pm : Value) (an : Option Addr) (cdv ct : Value) (us : List Value), us.length = 2 → bindArgs (PySem.W.fnOf "parts_of" "parts_of" (defArgs s_p_parts_of) (defBody s_p_parts_of) (defScope s_p_parts_of) .none kV doc pm an cdv ct) ⟨us, []⟩ = pure ((["many", "most"] : List Str).zip us) := fun _ _ _ _ _ _ us hl => match us, hl with | [_, _], _ => rfl
theorem d_p_parts_of_3 (T : Top K mg) : DFn P w K mg base 4 "parts_of" s_p_parts_of ["many", "most"] [.f, .f] .o m_p_parts_of_3 :=
  dfn_of (N := ["many", "most", "found", "first", "rest"]) [.f, .f, .o, .f, .f] [.f, .f, .o, .f, .f] T.f_p_parts_of ⟨rfl, rfl, rfl, by decide, rfl, by decide, by decide⟩ rfl rfl (by decide) rfl (by first | exact .inl (.inl rfl) | exact .inl (.inr rfl) | exact .inr rfl) fun f cdv A outer s H E o =>
  ⟨_, (dss_cons (ds_if (dt_cmp (o_eq o) (de_var 0) de_int) (dss_one (ds_ret (de_lst (da_f ((de_lst da_nil)).toF da_nil)))) dss_nil) (dss_cons (ds_set 2 o (de_lst da_nil)) (dss_cons (ds_for o (di_rangeDn
    T.b_range (da_f (de_callB (c_min2 o) T.b_min (da_b (de_var 0) (da_b (de_var 1) da_nil))) (da_f de_int (da_f (de_un o_neg de_int) da_nil)))) (dg_name 3 o.nd) (dss_one (ds_ext 2 (de_lc (own :=
    [("rest", 4)]) o (di_seq ((de_call (d_p_parts_of_2 T) o b_p_parts_of_2 (da_f (de_bin o_sub (de_var 0) (de_var 3)) (da_f (de_bin o_sub (de_var 3) de_int) da_nil)))).toF) (blk_of (by rfl)) (fun _ _ _ _
    _ => ⟨_, (dg_name 4 (XOk.blk o).nd)⟩) (fun _ _ _ _ _ => ⟨_, dts_nil⟩) (fun _ _ _ _ _ => ⟨_, (de_bin o_add (de_lst (da_f (de_var 3) da_nil)) (de_var 4))⟩))))) (dss_one (ds_reto 2)))))⟩
theorem b_p_parts_of_3 : ∀ (kV doc pm : Value) (an : Option Addr) (cdv ct : Value) (us : List Value), us.length = 2 → bindArgs (PySem.W.fnOf "parts_of" "parts_of" (defArgs s_p_parts_of) (defBody s_p_parts_of) (defScope s_p_parts_of) .none kV doc pm an cdv ct) ⟨us, []⟩ = pure ((["many", "most"] : List Str).zip us) := fun _ _ _ _ _ _ us hl => match us, hl with | [_, _], _ => rfl
theorem d_p_parts_of_4 (T : Top K mg) : DFn P w K mg base 5 "parts_of" s_p_parts_of ["many", "most"] [.f, .f] .o m_p_parts_of_4 :=
  dfn_of (N := ["many", "most", "found", "first", "rest"]) [.f, .f, .o, .f, .f] [.f, .f, .o, .f, .f] T.f_p_parts_of ⟨rfl, rfl, rfl, by decide, rfl, by decide, by decide⟩ rfl rfl (by decide) rfl (by first | exact .inl (.inl rfl) | exact .inl (.inr rfl) | exact .inr rfl) fun f cdv A outer s H E o =>
  ⟨_, (dss_cons (ds_if (dt_cmp (o_eq o) (de_var 0) de_int) (dss_one (ds_ret (de_lst (da_f ((de_lst da_nil)).toF da_nil)))) dss_nil) (dss_cons (ds_set 2 o (de_lst da_nil)) (dss_cons (ds_for o (di_rangeDn
    T.b_range (da_f (de_callB (c_min2 o) T.b_min (da_b (de_var 0) (da_b (de_var 1) da_nil))) (da_f de_int (da_f (de_un o_neg de_int) da_nil)))) (dg_name 3 o.nd) (dss_one (ds_ext 2 (de_lc (own :=
    [("rest", 4)]) o (di_seq ((de_call (d_p_parts_of_3 T) o b_p_parts_of_3 (da_f (de_bin o_sub (de_var 0) (de_var 3)) (da_f (de_bin o_sub (de_var 3) de_int) da_nil)))).toF) (blk_of (by rfl)) (fun _ _ _ _
    _ => ⟨_, (dg_name 4 (XOk.blk o).nd)⟩) (fun _ _ _ _ _ => ⟨_, dts_nil⟩) (fun _ _ _ _ _ => ⟨_, (de_bin o_add (de_lst (da_f (de_var 3) da_nil)) (de_var 4))⟩))))) (dss_one (ds_reto 2)))))⟩
theorem b_p_parts_of_4 : ∀ (kV doc pm : Value) (an : Option Addr) (cdv ct : Value) (us : List Value), us.length = 2 → bindArgs (PySem.W.fnOf "parts_of" "parts_of" (defArgs s_p_parts_of) (defBody s_p_parts_of) (defScope s_p_parts_of) .none kV doc pm an cdv ct) ⟨us, []⟩ = pure ((["many", "most"] : List Str).zip us) := fun _ _ _ _ _ _ us hl => match us, hl with | [_, _], _ => rfl
theorem d_p_parts_of_5 (T : Top K mg) : DFn P w K mg base 6 "parts_of" s_p_parts_of ["many", "most"] [.f, .f] .o m_p_parts_of_5 :=
  dfn_of (N := ["many", "most", "found", "first", "rest"]) [.f, .f, .o, .f, .f] [.f, .f, .o, .f, .f] T.f_p_parts_of ⟨rfl, rfl, rfl, by decide, rfl, by decide, by decide⟩ rfl rfl (by decide) rfl (by first | exact .inl (.inl rfl) | exact .inl (.inr rfl) | exact .inr rfl) fun f cdv A outer s H E o =>
  ⟨_, (dss_cons (ds_if (dt_cmp (o_eq o) (de_var 0) de_int) (dss_one (ds_ret (de_lst (da_f ((de_lst da_nil)).toF da_nil)))) dss_nil) (dss_cons (ds_set 2 o (de_lst da_nil)) (dss_cons (ds_for o (di_rangeDn
    T.b_range (da_f (de_callB (c_min2 o) T.b_min (da_b (de_var 0) (da_b (de_var 1) da_nil))) (da_f de_int (da_f (de_un o_neg de_int) da_nil)))) (dg_name 3 o.nd) (dss_one (ds_ext 2 (de_lc (own :=
    [("rest", 4)]) o (di_seq ((de_call (d_p_parts_of_4 T) o b_p_parts_of_4 (da_f (de_bin o_sub (de_var 0) (de_var 3)) (da_f (de_bin o_sub (de_var 3) de_int) da_nil)))).toF) (blk_of (by rfl)) (fun _ _ _ _
    _ => ⟨_, (dg_name 4 (XOk.blk o).nd)⟩) (fun _ _ _ _ _ => ⟨_, dts_nil⟩) (fun _ _ _ _ _ => ⟨_, (de_bin o_add (de_lst (da_f (de_var 3) da_nil)) (de_var 4))⟩))))) (dss_one (ds_reto 2)))))⟩
theorem b_p_parts_of_5 : ∀ (kV doc pm : Value) (an : Option Addr) (cdv ct : Value) (us : List Value), us.length = 2 → bindArgs (PySem.W.fnOf "parts_of" "parts_of" (defArgs s_p_parts_of) (defBody s_p_parts_of) (defScope s_p_parts_of) .none kV doc pm an cdv ct) ⟨us, []⟩ = pure ((["many", "most"] : List Str).zip us) := fun _ _ _ _ _ _ us hl => match us, hl with | [_, _], _ => rfl
theorem d_p_parts_of_6 (T : Top K mg) : DFn P w K mg base 7 "parts_of" s_p_parts_of ["many", "most"] [.f, .f] .o m_p_parts_of_6 :=
  dfn_of (N := ["many", "most", "found", "first", "rest"]) [.f, .f, .o, .f, .f] [.f, .f, .o, .f, .f] T.f_p_parts_of ⟨rfl, rfl, rfl, by decide, rfl, by decide, by decide⟩ rfl rfl (by decide) rfl (by first | exact .inl (.inl rfl) | exact .inl (.inr rfl) | exact .inr rfl) fun f cdv A outer s H E o =>
  ⟨_, (dss_cons (ds_if (dt_cmp (o_eq o) (de_var 0) de_int) (dss_one (ds_ret (de_lst (da_f ((de_lst da_nil)).toF da_nil)))) dss_nil) (dss_cons (ds_set 2 o (de_lst da_nil)) (dss_cons (ds_for o (di_rangeDn
    T.b_range (da_f (de_callB (c_min2 o) T.b_min (da_b (de_var 0) (da_b (de_var 1) da_nil))) (da_f de_int (da_f (de_un o_neg de_int) da_nil)))) (dg_name 3 o.nd) (dss_one (ds_ext 2 (de_lc (own :=
    [("rest", 4)]) o (di_seq ((de_call (d_p_parts_of_5 T) o b_p_parts_of_5 (da_f (de_bin o_sub (de_var 0) (de_var 3)) (da_f (de_bin o_sub (de_var 3) de_int) da_nil)))).toF) (blk_of (by rfl)) (fun _ _ _ _
    _ => ⟨_, (dg_name 4 (XOk.blk o).nd)⟩) (fun _ _ _ _ _ => ⟨_, dts_nil⟩) (fun _ _ _ _ _ => ⟨_, (de_bin o_add (de_lst (da_f (de_var 3) da_nil)) (de_var 4))⟩))))) (dss_one (ds_reto 2)))))⟩
theorem b_p_parts_of_6 : ∀ (kV doc pm : Value) (an : Option Addr) (cdv ct : Value) (us : List Value), us.length = 2 → bindArgs (PySem.W.fnOf "parts_of" "parts_of" (defArgs s_p_parts_of) (defBody s_p_parts_of) (defScope s_p_parts_of) .none kV doc pm an cdv ct) ⟨us, []⟩ = pure ((["many", "most"] : List Str).zip us) := fun _ _ _ _ _ _ us hl => match us, hl with | [_, _], _ => rfl
theorem d_p_parts_of_7 (T : Top K mg) : DFn P w K mg base 8 "parts_of" s_p_parts_of ["many", "most"] [.f, .f] .o m_p_parts_of_7 :=
  dfn_of (N := ["many", "most", "found", "first", "rest"]) [.f, .f, .o, .f, .f] [.f, .f, .o, .f, .f] T.f_p_parts_of ⟨rfl, rfl, rfl, by decide, rfl, by decide, by decide⟩ rfl rfl (by decide) rfl (by first | exact .inl (.inl rfl) | exact .inl (.inr rfl) | exact .inr rfl) fun f cdv A outer s H E o =>
  ⟨_, (dss_cons (ds_if (dt_cmp (o_eq o) (de_var 0) de_int) (dss_one (ds_ret (de_lst (da_f ((de_lst da_nil)).toF da_nil)))) dss_nil) (dss_cons (ds_set 2 o (de_lst da_nil)) (dss_cons (ds_for o (di_rangeDn
    T.b_range (da_f (de_callB (c_min2 o) T.b_min (da_b (de_var 0) (da_b (de_var 1) da_nil))) (da_f de_int (da_f (de_un o_neg de_int) da_nil)))) (dg_name 3 o.nd) (dss_one (ds_ext 2 (de_lc (own :=
    [("rest", 4)]) o (di_seq ((de_call (d_p_parts_of_6 T) o b_p_parts_of_6 (da_f (de_bin o_sub (de_var 0) (de_var 3)) (da_f (de_bin o_sub (de_var 3) de_int) da_nil)))).toF) (blk_of (by rfl)) (fun _ _ _ _
    _ => ⟨_, (dg_name 4 (XOk.blk o).nd)⟩) (fun _ _ _ _ _ => ⟨_, dts_nil⟩) (fun _ _ _ _ _ => ⟨_, (de_bin o_add (de_lst (da_f (de_var 3) da_nil)) (de_var 4))⟩))))) (dss_one (ds_reto 2)))))⟩
theorem b_p_parts_of_7 : ∀ (kV doc pm : Value) (an : Option Addr) (cdv ct : Value) (us : List Value), us.length = 2 → bindArgs (PySem.W.fnOf "parts_of" "parts_of" (defArgs s_p_parts_of) (defBody s_p_parts_of) (defScope s_p_parts_of) .none kV doc pm an cdv ct) ⟨us, []⟩ = pure ((["many", "most"] : List Str).zip us) := fun _ _ _ _ _ _ us hl => match us, hl with | [_, _], _ => rfl
theorem d_p_parts_of_8 (T : Top K mg) : DFn P w K mg base 9 "parts_of" s_p_parts_of ["many", "most"] [.f, .f] .o m_p_parts_of_8 :=
  dfn_of (N := ["many", "most", "found", "first", "rest"]) [.f, .f, .o, .f, .f] [.f, .f, .o, .f, .f] T.f_p_parts_of ⟨rfl, rfl, rfl, by decide, rfl, by decide, by decide⟩ rfl rfl (by decide) rfl (by first | exact .inl (.inl rfl) | exact .inl (.inr rfl) | exact .inr rfl) fun f cdv A outer s H E o =>
  ⟨_, (dss_cons (ds_if (dt_cmp (o_eq o) (de_var 0) de_int) (dss_one (ds_ret (de_lst (da_f ((de_lst da_nil)).toF da_nil)))) dss_nil) (dss_cons (ds_set 2 o (de_lst da_nil)) (dss_cons (ds_for o (di_rangeDn
    T.b_range (da_f (de_callB (c_min2 o) T.b_min (da_b (de_var 0) (da_b (de_var 1) da_nil))) (da_f de_int (da_f (de_un o_neg de_int) da_nil)))) (dg_name 3 o.nd) (dss_one (ds_ext 2 (de_lc (own :=
    [("rest", 4)]) o (di_seq ((de_call (d_p_parts_of_7 T) o b_p_parts_of_7 (da_f (de_bin o_sub (de_var 0) (de_var 3)) (da_f (de_bin o_sub (de_var 3) de_int) da_nil)))).toF) (blk_of (by rfl)) (fun _ _ _ _
    _ => ⟨_, (dg_name 4 (XOk.blk o).nd)⟩) (fun _ _ _ _ _ => ⟨_, dts_nil⟩) (fun _ _ _ _ _ => ⟨_, (de_bin o_add (de_lst (da_f (de_var 3) da_nil)) (de_var 4))⟩))))) (dss_one (ds_reto 2)))))⟩
theorem b_p_parts_of_8 : ∀ (kV doc pm : Value) (an : Option Addr) (cdv ct : Value) (us : List Value), us.length = 2 → bindArgs (PySem.W.fnOf "parts_of" "parts_of" (defArgs s_p_parts_of) (defBody s_p_parts_of) (defScope s_p_parts_of) .none kV doc pm an cdv ct) ⟨us, []⟩ = pure ((["many", "most"] : List Str).zip us) := fun _ _ _ _ _ _ us hl => match us, hl with | [_, _], _ => rfl
theorem d_p_parts_of_9 (T : Top K mg) : DFn P w K mg base 10 "parts_of" s_p_parts_of ["many", "most"] [.f, .f] .o m_p_parts_of_9 :=
  dfn_of (N := ["many", "most", "found", "first", "rest"]) [.f, .f, .o, .f, .f] [.f, .f, .o, .f, .f] T.f_p_parts_of ⟨rfl, rfl, rfl, by decide, rfl, by decide, by decide⟩ rfl rfl (by decide) rfl (by first | exact .inl (.inl rfl) | exact .inl (.inr rfl) | exact .inr rfl) fun f cdv A outer s H E o =>
  ⟨_, (dss_cons (ds_if (dt_cmp (o_eq o) (de_var 0) de_int) (dss_one (ds_ret (de_lst (da_f ((de_lst da_nil)).toF da_nil)))) dss_nil) (dss_cons (ds_set 2 o (de_lst da_nil)) (dss_cons (ds_for o (di_rangeDn
    T.b_range (da_f (de_callB (c_min2 o) T.b_min (da_b (de_var 0) (da_b (de_var 1) da_nil))) (da_f de_int (da_f (de_un o_neg de_int) da_nil)))) (dg_name 3 o.nd) (dss_one (ds_ext 2 (de_lc (own :=
    [("rest", 4)]) o (di_seq ((de_call (d_p_parts_of_8 T) o b_p_parts_of_8 (da_f (de_bin o_sub (de_var 0) (de_var 3)) (da_f (de_bin o_sub (de_var 3) de_int) da_nil)))).toF) (blk_of (by rfl)) (fun _ _ _ _
    _ => ⟨_, (dg_name 4 (XOk.blk o).nd)⟩) (fun _ _ _ _ _ => ⟨_, dts_nil⟩) (fun _ _ _ _ _ => ⟨_, (de_bin o_add (de_lst (da_f (de_var 3) da_nil)) (de_var 4))⟩))))) (dss_one (ds_reto 2)))))⟩
theorem b_p_parts_of_9 : ∀ (kV doc pm : Value) (an : Option Addr) (cdv ct : Value) (us : List Value), us.length = 2 → bindArgs (PySem.W.fnOf "parts_of" "parts_of" (defArgs s_p_parts_of) (defBody s_p_parts_of) (defScope s_p_parts_of) .none kV doc pm an cdv ct) ⟨us, []⟩ = pure ((["many", "most"] : List Str).zip us) := fun _ _ _ _ _ _ us hl => match us, hl with | [_, _], _ => rfl
theorem d_p_parts_of_10 (T : Top K mg) : DFn P w K mg base 11 "parts_of" s_p_parts_of ["many", "most"] [.f, .f] .o m_p_parts_of_10 :=
  dfn_of (N := ["many", "most", "found", "first", "rest"]) [.f, .f, .o, .f, .f] [.f, .f, .o, .f, .f] T.f_p_parts_of ⟨rfl, rfl, rfl, by decide, rfl, by decide, by decide⟩ rfl rfl (by decide) rfl (by first | exact .inl (.inl rfl) | exact .inl (.inr rfl) | exact .inr rfl) fun f cdv A outer s H E o =>
  ⟨_, (dss_cons (ds_if (dt_cmp (o_eq o) (de_var 0) de_int) (dss_one (ds_ret (de_lst (da_f ((de_lst da_nil)).toF da_nil)))) dss_nil) (dss_cons (ds_set 2 o (de_lst da_nil)) (dss_cons (ds_for o (di_rangeDn
    T.b_range (da_f (de_callB (c_min2 o) T.b_min (da_b (de_var 0) (da_b (de_var 1) da_nil))) (da_f de_int (da_f (de_un o_neg de_int) da_nil)))) (dg_name 3 o.nd) (dss_one (ds_ext 2 (de_lc (own :=
    [("rest", 4)]) o (di_seq ((de_call (d_p_parts_of_9 T) o b_p_parts_of_9 (da_f (de_bin o_sub (de_var 0) (de_var 3)) (da_f (de_bin o_sub (de_var 3) de_int) da_nil)))).toF) (blk_of (by rfl)) (fun _ _ _ _
    _ => ⟨_, (dg_name 4 (XOk.blk o).nd)⟩) (fun _ _ _ _ _ => ⟨_, dts_nil⟩) (fun _ _ _ _ _ => ⟨_, (de_bin o_add (de_lst (da_f (de_var 3) da_nil)) (de_var 4))⟩))))) (dss_one (ds_reto 2)))))⟩
theorem b_p_parts_of_10 : ∀ (kV doc pm : Value) (an : Option Addr) (cdv ct : Value) (us : List Value), us.length = 2 → bindArgs (PySem.W.fnOf "parts_of" "parts_of" (defArgs s_p_parts_of) (defBody s_p_parts_of) (defScope s_p_parts_of) .none kV doc pm an cdv ct) ⟨us, []⟩ = pure ((["many", "most"] : List Str).zip us) := fun _ _ _ _ _ _ us hl => match us, hl with | [_, _], _ => rfl
theorem d_p_parts_of_11 (T : Top K mg) : DFn P w K mg base 12 "parts_of" s_p_parts_of ["many", "most"] [.f, .f] .o m_p_parts_of_11 :=
  dfn_of (N := ["many", "most", "found", "first", "rest"]) [.f, .f, .o, .f, .f] [.f, .f, .o, .f, .f] T.f_p_parts_of ⟨rfl, rfl, rfl, by decide, rfl, by decide, by decide⟩ rfl rfl (by decide) rfl (by first | exact .inl (.inl rfl) | exact .inl (.inr rfl) | exact .inr rfl) fun f cdv A outer s H E o =>
  ⟨_, (dss_cons (ds_if (dt_cmp (o_eq o) (de_var 0) de_int) (dss_one (ds_ret (de_lst (da_f ((de_lst da_nil)).toF da_nil)))) dss_nil) (dss_cons (ds_set 2 o (de_lst da_nil)) (dss_cons (ds_for o (di_rangeDn
    T.b_range (da_f (de_callB (c_min2 o) T.b_min (da_b (de_var 0) (da_b (de_var 1) da_nil))) (da_f de_int (da_f (de_un o_neg de_int) da_nil)))) (dg_name 3 o.nd) (dss_one (ds_ext 2 (de_lc (own :=
    [("rest", 4)]) o (di_seq ((de_call (d_p_parts_of_10 T) o b_p_parts_of_10 (da_f (de_bin o_sub (de_var 0) (de_var 3)) (da_f (de_bin o_sub (de_var 3) de_int) da_nil)))).toF) (blk_of (by rfl)) (fun _ _ _
    _ _ => ⟨_, (dg_name 4 (XOk.blk o).nd)⟩) (fun _ _ _ _ _ => ⟨_, dts_nil⟩) (fun _ _ _ _ _ => ⟨_, (de_bin o_add (de_lst (da_f (de_var 3) da_nil)) (de_var 4))⟩))))) (dss_one (ds_reto 2)))))⟩
theorem b_p_parts_of_11 : ∀ (kV doc pm : Value) (an : Option Addr) (cdv ct : Value) (us : List Value), us.length = 2 → bindArgs (PySem.W.fnOf "parts_of" "parts_of" (defArgs s_p_parts_of) (defBody s_p_parts_of) (defScope s_p_parts_of) .none kV doc pm an cdv ct) ⟨us, []⟩ = pure ((["many", "most"] : List Str).zip us) := fun _ _ _ _ _ _ us hl => match us, hl with | [_, _], _ => rfl
theorem d_p_rows_of (T : Top K mg) : DFn P w K mg base 13 "rows_of" s_p_rows_of ["many"] [.f] .o m_p_rows_of :=
  dfn_of (N := ["many", "sizes"]) [.f, .f] [.f, .f] T.f_p_rows_of ⟨rfl, rfl, rfl, by decide, rfl, by decide, by decide⟩ rfl rfl (by decide) rfl (by first | exact .inl (.inl rfl) | exact .inl (.inr rfl) | exact .inr rfl) fun f cdv A outer s H E o =>
  ⟨_, (dss_cons (ds_expr (de_callD (ks := [.f, .f, .f]) 3 2 (d_p_want_many T) o (fun _ _ _ _ _ _ _ us its h1 h2 => match us, its, h1, h2 with | [_, _, _], [_, _], _, _ => ⟨_, rfl, rfl⟩) (da_f (de_var 0)
    (da_f (de_glob T.c_MOST_SUM fun _ => .int _) (da_f de_int da_nil))))) (dss_one (ds_ret (de_callB (c_sortB o) T.b_sorted (da_b (de_lc (own := [("sizes", 1)]) o (di_seq ((de_call (d_p_parts_of_11 T) o
    b_p_parts_of_11 (da_f (de_var 0) (da_f (de_glob T.c_MOST_PLACES fun _ => .int _) da_nil)))).toF) (blk_of (by rfl)) (fun _ _ _ _ _ => ⟨_, (dg_name 1 (XOk.blk o).nd)⟩) (fun _ _ _ _ _ => ⟨_, dts_nil⟩)
    (fun _ _ _ _ _ => ⟨_, ((de_call (d_p_row_of T) (XOk.blk o) b_p_row_of (da_f (de_var 1) da_nil))).toF⟩)) da_nil)))))⟩
theorem b_p_rows_of : ∀ (kV doc pm : Value) (an : Option Addr) (cdv ct : Value) (us : List Value), us.length = 1 → bindArgs (PySem.W.fnOf "rows_of" "rows_of" (defArgs s_p_rows_of) (defBody s_p_rows_of) (defScope s_p_rows_of) .none kV doc pm an cdv ct) ⟨us, []⟩ = pure ((["many"] : List Str).zip us) := fun _ _ _ _ _ _ us hl => match us, hl with | [_], _ => rfl
theorem b_p_rows_of_k : ∀ (kV doc pm : Value) (an : Option Addr) (cdv ct : Value) (us : List Value), us.length = 1 → bindArgs (PySem.W.fnOf "rows_of" "rows_of" (defArgs s_p_rows_of) (defBody s_p_rows_of) (defScope s_p_rows_of) .none kV doc pm an cdv ct) ⟨[], (["many"] : List Str).zip us⟩ = pure ((["many"] : List Str).zip us) := fun _ _ _ _ _ _ us hl => match us, hl with | [_], _ => rfl
theorem d_l_lots (T : Top K mg) : DFn P w K mg base 1 "_law_lots" s_l_lots ["_law_most"] [.f] .o m_l_lots :=
  dfn_of (N := ["_law_most", "_law_found", "_law_number", "_law_lot"]) [.f, .f, .f, .f] [.f, .f, .f, .f] T.f_l_lots ⟨rfl, rfl, rfl, by decide, rfl, by decide, by decide⟩ rfl rfl (by decide) rfl (by first | exact .inl (.inl rfl) | exact .inl (.inr rfl) | exact .inr rfl) fun f cdv A outer s H E o =>
  ⟨_, (dss_cons (ds_set 1 o ((de_lst (da_f ((de_lst da_nil)).toF da_nil))).toF) (dss_cons (ds_for o (di_rangeDn T.b_range (da_f de_int (da_f de_int (da_f (de_un o_neg de_int) da_nil)))) (dg_name 2 o.nd)
    (dss_one (ds_set 1 o (de_bin o_add (de_var 1) (de_lc (own := [("_law_lot", 3)]) o (di_seq (de_var 1)) (blk_of (by rfl)) (fun _ _ _ _ _ => ⟨_, (dg_name 3 (XOk.blk o).nd)⟩) (fun _ _ _ _ _ => ⟨_,
    dts_nil⟩) (fun _ _ _ _ _ => ⟨_, (de_bin o_add (de_var 3) (de_lst (da_f (de_var 2) da_nil)))⟩)))))) (dss_one (ds_ret (de_lc (own := [("_law_lot", 3)]) o (di_seq (de_var 1)) (blk_of (by rfl)) (fun _ _
    _ _ _ => ⟨_, (dg_name 3 (XOk.blk o).nd)⟩) (fun _ _ _ _ _ => ⟨_, (dts_one (dt_cmp (o_eq (XOk.blk o)) (de_callB (c_sum (XOk.blk o)) T.b_sum (da_b (de_var 3) da_nil)) (de_var 0)))⟩) (fun _ _ _ _ _ =>
    ⟨_, (de_var 3)⟩))))))⟩
theorem b_l_lots : ∀ (kV doc pm : Value) (an : Option Addr) (cdv ct : Value) (us : List Value), us.length = 1 → bindArgs (PySem.W.fnOf "_law_lots" "_law_lots" (defArgs s_l_lots) (defBody s_l_lots) (defScope s_l_lots) .none kV doc pm an cdv ct) ⟨us, []⟩ = pure ((["_law_most"] : List Str).zip us) := fun _ _ _ _ _ _ us hl => match us, hl with | [_], _ => rfl
theorem b_l_on_0 : ∀ (kV doc pm : Value) (an : Option Addr) (cdv ct : Value) (us : List Value), us.length = 2 → bindArgs (PySem.W.fnOf "_law_on" "_law_on" (defArgs s_l_on) (defBody s_l_on) (defScope s_l_on) .none kV doc pm an cdv ct) ⟨us, []⟩ = pure ((["_law_found", "_law_most"] : List Str).zip us) := fun _ _ _ _ _ _ us hl => match us, hl with | [_, _], _ => rfl
theorem d_l_on_0 (T : Top K mg) : DFn P w K mg base 1 "_law_on" s_l_on ["_law_found", "_law_most"] [.f, .f] .o m_l_on_0 := dfn_stuck T.f_l_on
theorem d_l_on_1 (T : Top K mg) : DFn P w K mg base 2 "_law_on" s_l_on ["_law_found", "_law_most"] [.f, .f] .f m_l_on_1 :=
  dfn_of (N := ["_law_found", "_law_most", "_law_left", "_law_rows", "_law_ahead", "_law_is_rising", "_law_number"]) [.f, .f, .f, .f, .f, .f, .f] [.f, .f, .f, .f, .f, .f, .f] T.f_l_on ⟨rfl, rfl, rfl, by decide, rfl, by decide, by decide⟩ rfl rfl (by decide) rfl (by first | exact .inl (.inl rfl) | exact .inl (.inr rfl) | exact .inr rfl) fun f cdv A outer s H E o =>
  ⟨_, (dss_cons (ds_set 2 o (de_bin o_sub (de_var 1) (de_callB (c_sum o) T.b_sum (da_b (de_var 0) da_nil)))) (dss_cons (ds_if (dt_cmp (o_eq o) (de_var 2) de_int) (dss_one (ds_ret ((de_lst (da_f (de_var 0)
    da_nil))).toF)) dss_nil) (dss_cons (ds_if (dt_cmp (o_eq o) (de_callB c_len T.b_len (da_b (de_var 0) da_nil)) de_int) (dss_one (ds_ret ((de_lst da_nil)).toF)) dss_nil) (dss_cons (ds_par 3 4 o ((de_lst
    da_nil)).toF (de_if (dt_cmp (o_ne o) (de_var 0) (de_lst da_nil)) (de_ix (de_var 0) (de_un o_neg de_int)) de_int)) (dss_cons (ds_set 5 o (de_cmp (o_eq o) (de_var 0) (de_listRg2 o T.b_list T.b_range
    de_int (de_bin o_add (de_callB c_len T.b_len (da_b (de_var 0) da_nil)) de_int)))) (dss_cons (ds_for o (di_range2 T.b_range (da_f de_int (da_f (de_bin o_add (de_callB (c_min2 o) T.b_min (da_b (de_var
    2) (da_b (de_bin o_add (de_var 4) (de_if (dt_of (de_var 5)) de_int de_int)) da_nil))) de_int) da_nil))) (dg_name 6 o.nd) (dss_one (ds_set 3 o (de_bin o_add (de_var 3) (de_call (d_l_on_0 T) o b_l_on_0
    (da_f (de_bin o_add (de_var 0) (de_lst (da_f (de_var 6) da_nil))) (da_f (de_var 1) da_nil))))))) (dss_one (ds_ret (de_var 3)))))))))⟩
theorem b_l_on_1 : ∀ (kV doc pm : Value) (an : Option Addr) (cdv ct : Value) (us : List Value), us.length = 2 → bindArgs (PySem.W.fnOf "_law_on" "_law_on" (defArgs s_l_on) (defBody s_l_on) (defScope s_l_on) .none kV doc pm an cdv ct) ⟨us, []⟩ = pure ((["_law_found", "_law_most"] : List Str).zip us) := fun _ _ _ _ _ _ us hl => match us, hl with | [_, _], _ => rfl
theorem d_l_on_2 (T : Top K mg) : DFn P w K mg base 3 "_law_on" s_l_on ["_law_found", "_law_most"] [.f, .f] .f m_l_on_2 :=
  dfn_of (N := ["_law_found", "_law_most", "_law_left", "_law_rows", "_law_ahead", "_law_is_rising", "_law_number"]) [.f, .f, .f, .f, .f, .f, .f] [.f, .f, .f, .f, .f, .f, .f] T.f_l_on ⟨rfl, rfl, rfl, by decide, rfl, by decide, by decide⟩ rfl rfl (by decide) rfl (by first | exact .inl (.inl rfl) | exact .inl (.inr rfl) | exact .inr rfl) fun f cdv A outer s H E o =>
  ⟨_, (dss_cons (ds_set 2 o (de_bin o_sub (de_var 1) (de_callB (c_sum o) T.b_sum (da_b (de_var 0) da_nil)))) (dss_cons (ds_if (dt_cmp (o_eq o) (de_var 2) de_int) (dss_one (ds_ret ((de_lst (da_f (de_var 0)
    da_nil))).toF)) dss_nil) (dss_cons (ds_if (dt_cmp (o_eq o) (de_callB c_len T.b_len (da_b (de_var 0) da_nil)) de_int) (dss_one (ds_ret ((de_lst da_nil)).toF)) dss_nil) (dss_cons (ds_par 3 4 o ((de_lst
    da_nil)).toF (de_if (dt_cmp (o_ne o) (de_var 0) (de_lst da_nil)) (de_ix (de_var 0) (de_un o_neg de_int)) de_int)) (dss_cons (ds_set 5 o (de_cmp (o_eq o) (de_var 0) (de_listRg2 o T.b_list T.b_range
    de_int (de_bin o_add (de_callB c_len T.b_len (da_b (de_var 0) da_nil)) de_int)))) (dss_cons (ds_for o (di_range2 T.b_range (da_f de_int (da_f (de_bin o_add (de_callB (c_min2 o) T.b_min (da_b (de_var
    2) (da_b (de_bin o_add (de_var 4) (de_if (dt_of (de_var 5)) de_int de_int)) da_nil))) de_int) da_nil))) (dg_name 6 o.nd) (dss_one (ds_set 3 o (de_bin o_add (de_var 3) (de_call (d_l_on_1 T) o b_l_on_1
    (da_f (de_bin o_add (de_var 0) (de_lst (da_f (de_var 6) da_nil))) (da_f (de_var 1) da_nil))))))) (dss_one (ds_ret (de_var 3)))))))))⟩
theorem b_l_on_2 : ∀ (kV doc pm : Value) (an : Option Addr) (cdv ct : Value) (us : List Value), us.length = 2 → bindArgs (PySem.W.fnOf "_law_on" "_law_on" (defArgs s_l_on) (defBody s_l_on) (defScope s_l_on) .none kV doc pm an cdv ct) ⟨us, []⟩ = pure ((["_law_found", "_law_most"] : List Str).zip us) := fun _ _ _ _ _ _ us hl => match us, hl with | [_, _], _ => rfl
theorem d_l_on_3 (T : Top K mg) : DFn P w K mg base 4 "_law_on" s_l_on ["_law_found", "_law_most"] [.f, .f] .f m_l_on_3 :=
  dfn_of (N := ["_law_found", "_law_most", "_law_left", "_law_rows", "_law_ahead", "_law_is_rising", "_law_number"]) [.f, .f, .f, .f, .f, .f, .f] [.f, .f, .f, .f, .f, .f, .f] T.f_l_on ⟨rfl, rfl, rfl, by decide, rfl, by decide, by decide⟩ rfl rfl (by decide) rfl (by first | exact .inl (.inl rfl) | exact .inl (.inr rfl) | exact .inr rfl) fun f cdv A outer s H E o =>
  ⟨_, (dss_cons (ds_set 2 o (de_bin o_sub (de_var 1) (de_callB (c_sum o) T.b_sum (da_b (de_var 0) da_nil)))) (dss_cons (ds_if (dt_cmp (o_eq o) (de_var 2) de_int) (dss_one (ds_ret ((de_lst (da_f (de_var 0)
    da_nil))).toF)) dss_nil) (dss_cons (ds_if (dt_cmp (o_eq o) (de_callB c_len T.b_len (da_b (de_var 0) da_nil)) de_int) (dss_one (ds_ret ((de_lst da_nil)).toF)) dss_nil) (dss_cons (ds_par 3 4 o ((de_lst
    da_nil)).toF (de_if (dt_cmp (o_ne o) (de_var 0) (de_lst da_nil)) (de_ix (de_var 0) (de_un o_neg de_int)) de_int)) (dss_cons (ds_set 5 o (de_cmp (o_eq o) (de_var 0) (de_listRg2 o T.b_list T.b_range
    de_int (de_bin o_add (de_callB c_len T.b_len (da_b (de_var 0) da_nil)) de_int)))) (dss_cons (ds_for o (di_range2 T.b_range (da_f de_int (da_f (de_bin o_add (de_callB (c_min2 o) T.b_min (da_b (de_var
    2) (da_b (de_bin o_add (de_var 4) (de_if (dt_of (de_var 5)) de_int de_int)) da_nil))) de_int) da_nil))) (dg_name 6 o.nd) (dss_one (ds_set 3 o (de_bin o_add (de_var 3) (de_call (d_l_on_2 T) o b_l_on_2
    (da_f (de_bin o_add (de_var 0) (de_lst (da_f (de_var 6) da_nil))) (da_f (de_var 1) da_nil))))))) (dss_one (ds_ret (de_var 3)))))))))⟩
theorem b_l_on_3 : ∀ (kV doc pm : Value) (an : Option Addr) (cdv ct : Value) (us : List Value), us.length = 2 → bindArgs (PySem.W.fnOf "_law_on" "_law_on" (defArgs s_l_on) (defBody s_l_on) (defScope s_l_on) .none kV doc pm an cdv ct) ⟨us, []⟩ = pure ((["_law_found", "_law_most"] : List Str).zip us) := fun _ _ _ _ _ _ us hl => match us, hl with | [_, _], _ => rfl
theorem d_l_on_4 (T : Top K mg) : DFn P w K mg base 5 "_law_on" s_l_on ["_law_found", "_law_most"] [.f, .f] .f m_l_on_4 :=
  dfn_of (N := ["_law_found", "_law_most", "_law_left", "_law_rows", "_law_ahead", "_law_is_rising", "_law_number"]) [.f, .f, .f, .f, .f, .f, .f] [.f, .f, .f, .f, .f, .f, .f] T.f_l_on ⟨rfl, rfl, rfl, by decide, rfl, by decide, by decide⟩ rfl rfl (by decide) rfl (by first | exact .inl (.inl rfl) | exact .inl (.inr rfl) | exact .inr rfl) fun f cdv A outer s H E o =>
  ⟨_, (dss_cons (ds_set 2 o (de_bin o_sub (de_var 1) (de_callB (c_sum o) T.b_sum (da_b (de_var 0) da_nil)))) (dss_cons (ds_if (dt_cmp (o_eq o) (de_var 2) de_int) (dss_one (ds_ret ((de_lst (da_f (de_var 0)
    da_nil))).toF)) dss_nil) (dss_cons (ds_if (dt_cmp (o_eq o) (de_callB c_len T.b_len (da_b (de_var 0) da_nil)) de_int) (dss_one (ds_ret ((de_lst da_nil)).toF)) dss_nil) (dss_cons (ds_par 3 4 o ((de_lst
    da_nil)).toF (de_if (dt_cmp (o_ne o) (de_var 0) (de_lst da_nil)) (de_ix (de_var 0) (de_un o_neg de_int)) de_int)) (dss_cons (ds_set 5 o (de_cmp (o_eq o) (de_var 0) (de_listRg2 o T.b_list T.b_range
    de_int (de_bin o_add (de_callB c_len T.b_len (da_b (de_var 0) da_nil)) de_int)))) (dss_cons (ds_for o (di_range2 T.b_range (da_f de_int (da_f (de_bin o_add (de_callB (c_min2 o) T.b_min (da_b (de_var
    2) (da_b (de_bin o_add (de_var 4) (de_if (dt_of (de_var 5)) de_int de_int)) da_nil))) de_int) da_nil))) (dg_name 6 o.nd) (dss_one (ds_set 3 o (de_bin o_add (de_var 3) (de_call (d_l_on_3 T) o b_l_on_3
    (da_f (de_bin o_add (de_var 0) (de_lst (da_f (de_var 6) da_nil))) (da_f (de_var 1) da_nil))))))) (dss_one (ds_ret (de_var 3)))))))))⟩
theorem b_l_on_4 : ∀ (kV doc pm : Value) (an : Option Addr) (cdv ct : Value) (us : List Value), us.length = 2 → bindArgs (PySem.W.fnOf "_law_on" "_law_on" (defArgs s_l_on) (defBody s_l_on) (defScope s_l_on) .none kV doc pm an cdv ct) ⟨us, []⟩ = pure ((["_law_found", "_law_most"] : List Str).zip us) := fun _ _ _ _ _ _ us hl => match us, hl with | [_, _], _ => rfl
theorem d_l_on_5 (T : Top K mg) : DFn P w K mg base 6 "_law_on" s_l_on ["_law_found", "_law_most"] [.f, .f] .f m_l_on_5 :=
  dfn_of (N := ["_law_found", "_law_most", "_law_left", "_law_rows", "_law_ahead", "_law_is_rising", "_law_number"]) [.f, .f, .f, .f, .f, .f, .f] [.f, .f, .f, .f, .f, .f, .f] T.f_l_on ⟨rfl, rfl, rfl, by decide, rfl, by decide, by decide⟩ rfl rfl (by decide) rfl (by first | exact .inl (.inl rfl) | exact .inl (.inr rfl) | exact .inr rfl) fun f cdv A outer s H E o =>
  ⟨_, (dss_cons (ds_set 2 o (de_bin o_sub (de_var 1) (de_callB (c_sum o) T.b_sum (da_b (de_var 0) da_nil)))) (dss_cons (ds_if (dt_cmp (o_eq o) (de_var 2) de_int) (dss_one (ds_ret ((de_lst (da_f (de_var 0)
    da_nil))).toF)) dss_nil) (dss_cons (ds_if (dt_cmp (o_eq o) (de_callB c_len T.b_len (da_b (de_var 0) da_nil)) de_int) (dss_one (ds_ret ((de_lst da_nil)).toF)) dss_nil) (dss_cons (ds_par 3 4 o ((de_lst
    da_nil)).toF (de_if (dt_cmp (o_ne o) (de_var 0) (de_lst da_nil)) (de_ix (de_var 0) (de_un o_neg de_int)) de_int)) (dss_cons (ds_set 5 o (de_cmp (o_eq o) (de_var 0) (de_listRg2 o T.b_list T.b_range
    de_int (de_bin o_add (de_callB c_len T.b_len (da_b (de_var 0) da_nil)) de_int)))) (dss_cons (ds_for o (di_range2 T.b_range (da_f de_int (da_f (de_bin o_add (de_callB (c_min2 o) T.b_min (da_b (de_var
    2) (da_b (de_bin o_add (de_var 4) (de_if (dt_of (de_var 5)) de_int de_int)) da_nil))) de_int) da_nil))) (dg_name 6 o.nd) (dss_one (ds_set 3 o (de_bin o_add (de_var 3) (de_call (d_l_on_4 T) o b_l_on_4
    (da_f (de_bin o_add (de_var 0) (de_lst (da_f (de_var 6) da_nil))) (da_f (de_var 1) da_nil))))))) (dss_one (ds_ret (de_var 3)))))))))⟩
theorem b_l_on_5 : ∀ (kV doc pm : Value) (an : Option Addr) (cdv ct : Value) (us : List Value), us.length = 2 → bindArgs (PySem.W.fnOf "_law_on" "_law_on" (defArgs s_l_on) (defBody s_l_on) (defScope s_l_on) .none kV doc pm an cdv ct) ⟨us, []⟩ = pure ((["_law_found", "_law_most"] : List Str).zip us) := fun _ _ _ _ _ _ us hl => match us, hl with | [_, _], _ => rfl
theorem d_l_on_6 (T : Top K mg) : DFn P w K mg base 7 "_law_on" s_l_on ["_law_found", "_law_most"] [.f, .f] .f m_l_on_6 :=
  dfn_of (N := ["_law_found", "_law_most", "_law_left", "_law_rows", "_law_ahead", "_law_is_rising", "_law_number"]) [.f, .f, .f, .f, .f, .f, .f] [.f, .f, .f, .f, .f, .f, .f] T.f_l_on ⟨rfl, rfl, rfl, by decide, rfl, by decide, by decide⟩ rfl rfl (by decide) rfl (by first | exact .inl (.inl rfl) | exact .inl (.inr rfl) | exact .inr rfl) fun f cdv A outer s H E o =>
  ⟨_, (dss_cons (ds_set 2 o (de_bin o_sub (de_var 1) (de_callB (c_sum o) T.b_sum (da_b (de_var 0) da_nil)))) (dss_cons (ds_if (dt_cmp (o_eq o) (de_var 2) de_int) (dss_one (ds_ret ((de_lst (da_f (de_var 0)
    da_nil))).toF)) dss_nil) (dss_cons (ds_if (dt_cmp (o_eq o) (de_callB c_len T.b_len (da_b (de_var 0) da_nil)) de_int) (dss_one (ds_ret ((de_lst da_nil)).toF)) dss_nil) (dss_cons (ds_par 3 4 o ((de_lst
    da_nil)).toF (de_if (dt_cmp (o_ne o) (de_var 0) (de_lst da_nil)) (de_ix (de_var 0) (de_un o_neg de_int)) de_int)) (dss_cons (ds_set 5 o (de_cmp (o_eq o) (de_var 0) (de_listRg2 o T.b_list T.b_range
    de_int (de_bin o_add (de_callB c_len T.b_len (da_b (de_var 0) da_nil)) de_int)))) (dss_cons (ds_for o (di_range2 T.b_range (da_f de_int (da_f (de_bin o_add (de_callB (c_min2 o) T.b_min (da_b (de_var
    2) (da_b (de_bin o_add (de_var 4) (de_if (dt_of (de_var 5)) de_int de_int)) da_nil))) de_int) da_nil))) (dg_name 6 o.nd) (dss_one (ds_set 3 o (de_bin o_add (de_var 3) (de_call (d_l_on_5 T) o b_l_on_5
    (da_f (de_bin o_add (de_var 0) (de_lst (da_f (de_var 6) da_nil))) (da_f (de_var 1) da_nil))))))) (dss_one (ds_ret (de_var 3)))))))))⟩
theorem b_l_on_6 : ∀ (kV doc pm : Value) (an : Option Addr) (cdv ct : Value) (us : List Value), us.length = 2 → bindArgs (PySem.W.fnOf "_law_on" "_law_on" (defArgs s_l_on) (defBody s_l_on) (defScope s_l_on) .none kV doc pm an cdv ct) ⟨us, []⟩ = pure ((["_law_found", "_law_most"] : List Str).zip us) := fun _ _ _ _ _ _ us hl => match us, hl with | [_, _], _ => rfl
theorem d_l_on_7 (T : Top K mg) : DFn P w K mg base 8 "_law_on" s_l_on ["_law_found", "_law_most"] [.f, .f] .f m_l_on_7 :=
  dfn_of (N := ["_law_found", "_law_most", "_law_left", "_law_rows", "_law_ahead", "_law_is_rising", "_law_number"]) [.f, .f, .f, .f, .f, .f, .f] [.f, .f, .f, .f, .f, .f, .f] T.f_l_on ⟨rfl, rfl, rfl, by decide, rfl, by decide, by decide⟩ rfl rfl (by decide) rfl (by first | exact .inl (.inl rfl) | exact .inl (.inr rfl) | exact .inr rfl) fun f cdv A outer s H E o =>
  ⟨_, (dss_cons (ds_set 2 o (de_bin o_sub (de_var 1) (de_callB (c_sum o) T.b_sum (da_b (de_var 0) da_nil)))) (dss_cons (ds_if (dt_cmp (o_eq o) (de_var 2) de_int) (dss_one (ds_ret ((de_lst (da_f (de_var 0)
    da_nil))).toF)) dss_nil) (dss_cons (ds_if (dt_cmp (o_eq o) (de_callB c_len T.b_len (da_b (de_var 0) da_nil)) de_int) (dss_one (ds_ret ((de_lst da_nil)).toF)) dss_nil) (dss_cons (ds_par 3 4 o ((de_lst
    da_nil)).toF (de_if (dt_cmp (o_ne o) (de_var 0) (de_lst da_nil)) (de_ix (de_var 0) (de_un o_neg de_int)) de_int)) (dss_cons (ds_set 5 o (de_cmp (o_eq o) (de_var 0) (de_listRg2 o T.b_list T.b_range
    de_int (de_bin o_add (de_callB c_len T.b_len (da_b (de_var 0) da_nil)) de_int)))) (dss_cons (ds_for o (di_range2 T.b_range (da_f de_int (da_f (de_bin o_add (de_callB (c_min2 o) T.b_min (da_b (de_var
    2) (da_b (de_bin o_add (de_var 4) (de_if (dt_of (de_var 5)) de_int de_int)) da_nil))) de_int) da_nil))) (dg_name 6 o.nd) (dss_one (ds_set 3 o (de_bin o_add (de_var 3) (de_call (d_l_on_6 T) o b_l_on_6
    (da_f (de_bin o_add (de_var 0) (de_lst (da_f (de_var 6) da_nil))) (da_f (de_var 1) da_nil))))))) (dss_one (ds_ret (de_var 3)))))))))⟩
theorem b_l_on_7 : ∀ (kV doc pm : Value) (an : Option Addr) (cdv ct : Value) (us : List Value), us.length = 2 → bindArgs (PySem.W.fnOf "_law_on" "_law_on" (defArgs s_l_on) (defBody s_l_on) (defScope s_l_on) .none kV doc pm an cdv ct) ⟨us, []⟩ = pure ((["_law_found", "_law_most"] : List Str).zip us) := fun _ _ _ _ _ _ us hl => match us, hl with | [_, _], _ => rfl
theorem d_l_on_8 (T : Top K mg) : DFn P w K mg base 9 "_law_on" s_l_on ["_law_found", "_law_most"] [.f, .f] .f m_l_on_8 :=
  dfn_of (N := ["_law_found", "_law_most", "_law_left", "_law_rows", "_law_ahead", "_law_is_rising", "_law_number"]) [.f, .f, .f, .f, .f, .f, .f] [.f, .f, .f, .f, .f, .f, .f] T.f_l_on ⟨rfl, rfl, rfl, by decide, rfl, by decide, by decide⟩ rfl rfl (by decide) rfl (by first | exact .inl (.inl rfl) | exact .inl (.inr rfl) | exact .inr rfl) fun f cdv A outer s H E o =>
  ⟨_, (dss_cons (ds_set 2 o (de_bin o_sub (de_var 1) (de_callB (c_sum o) T.b_sum (da_b (de_var 0) da_nil)))) (dss_cons (ds_if (dt_cmp (o_eq o) (de_var 2) de_int) (dss_one (ds_ret ((de_lst (da_f (de_var 0)
    da_nil))).toF)) dss_nil) (dss_cons (ds_if (dt_cmp (o_eq o) (de_callB c_len T.b_len (da_b (de_var 0) da_nil)) de_int) (dss_one (ds_ret ((de_lst da_nil)).toF)) dss_nil) (dss_cons (ds_par 3 4 o ((de_lst
    da_nil)).toF (de_if (dt_cmp (o_ne o) (de_var 0) (de_lst da_nil)) (de_ix (de_var 0) (de_un o_neg de_int)) de_int)) (dss_cons (ds_set 5 o (de_cmp (o_eq o) (de_var 0) (de_listRg2 o T.b_list T.b_range
    de_int (de_bin o_add (de_callB c_len T.b_len (da_b (de_var 0) da_nil)) de_int)))) (dss_cons (ds_for o (di_range2 T.b_range (da_f de_int (da_f (de_bin o_add (de_callB (c_min2 o) T.b_min (da_b (de_var
    2) (da_b (de_bin o_add (de_var 4) (de_if (dt_of (de_var 5)) de_int de_int)) da_nil))) de_int) da_nil))) (dg_name 6 o.nd) (dss_one (ds_set 3 o (de_bin o_add (de_var 3) (de_call (d_l_on_7 T) o b_l_on_7
    (da_f (de_bin o_add (de_var 0) (de_lst (da_f (de_var 6) da_nil))) (da_f (de_var 1) da_nil))))))) (dss_one (ds_ret (de_var 3)))))))))⟩
theorem b_l_on_8 : ∀ (kV doc pm : Value) (an : Option Addr) (cdv ct : Value) (us : List Value), us.length = 2 → bindArgs (PySem.W.fnOf "_law_on" "_law_on" (defArgs s_l_on) (defBody s_l_on) (defScope s_l_on) .none kV doc pm an cdv ct) ⟨us, []⟩ = pure ((["_law_found", "_law_most"] : List Str).zip us) := fun _ _ _ _ _ _ us hl => match us, hl with | [_, _], _ => rfl
theorem d_l_on_9 (T : Top K mg) : DFn P w K mg base 10 "_law_on" s_l_on ["_law_found", "_law_most"] [.f, .f] .f m_l_on_9 :=
  dfn_of (N := ["_law_found", "_law_most", "_law_left", "_law_rows", "_law_ahead", "_law_is_rising", "_law_number"]) [.f, .f, .f, .f, .f, .f, .f] [.f, .f, .f, .f, .f, .f, .f] T.f_l_on ⟨rfl, rfl, rfl, by decide, rfl, by decide, by decide⟩ rfl rfl (by decide) rfl (by first | exact .inl (.inl rfl) | exact .inl (.inr rfl) | exact .inr rfl) fun f cdv A outer s H E o =>
  ⟨_, (dss_cons (ds_set 2 o (de_bin o_sub (de_var 1) (de_callB (c_sum o) T.b_sum (da_b (de_var 0) da_nil)))) (dss_cons (ds_if (dt_cmp (o_eq o) (de_var 2) de_int) (dss_one (ds_ret ((de_lst (da_f (de_var 0)
    da_nil))).toF)) dss_nil) (dss_cons (ds_if (dt_cmp (o_eq o) (de_callB c_len T.b_len (da_b (de_var 0) da_nil)) de_int) (dss_one (ds_ret ((de_lst da_nil)).toF)) dss_nil) (dss_cons (ds_par 3 4 o ((de_lst
    da_nil)).toF (de_if (dt_cmp (o_ne o) (de_var 0) (de_lst da_nil)) (de_ix (de_var 0) (de_un o_neg de_int)) de_int)) (dss_cons (ds_set 5 o (de_cmp (o_eq o) (de_var 0) (de_listRg2 o T.b_list T.b_range
    de_int (de_bin o_add (de_callB c_len T.b_len (da_b (de_var 0) da_nil)) de_int)))) (dss_cons (ds_for o (di_range2 T.b_range (da_f de_int (da_f (de_bin o_add (de_callB (c_min2 o) T.b_min (da_b (de_var
    2) (da_b (de_bin o_add (de_var 4) (de_if (dt_of (de_var 5)) de_int de_int)) da_nil))) de_int) da_nil))) (dg_name 6 o.nd) (dss_one (ds_set 3 o (de_bin o_add (de_var 3) (de_call (d_l_on_8 T) o b_l_on_8
    (da_f (de_bin o_add (de_var 0) (de_lst (da_f (de_var 6) da_nil))) (da_f (de_var 1) da_nil))))))) (dss_one (ds_ret (de_var 3)))))))))⟩
theorem b_l_on_9 : ∀ (kV doc pm : Value) (an : Option Addr) (cdv ct : Value) (us : List Value), us.length = 2 → bindArgs (PySem.W.fnOf "_law_on" "_law_on" (defArgs s_l_on) (defBody s_l_on) (defScope s_l_on) .none kV doc pm an cdv ct) ⟨us, []⟩ = pure ((["_law_found", "_law_most"] : List Str).zip us) := fun _ _ _ _ _ _ us hl => match us, hl with | [_, _], _ => rfl
theorem d_l_on_10 (T : Top K mg) : DFn P w K mg base 11 "_law_on" s_l_on ["_law_found", "_law_most"] [.f, .f] .f m_l_on_10 :=
  dfn_of (N := ["_law_found", "_law_most", "_law_left", "_law_rows", "_law_ahead", "_law_is_rising", "_law_number"]) [.f, .f, .f, .f, .f, .f, .f] [.f, .f, .f, .f, .f, .f, .f] T.f_l_on ⟨rfl, rfl, rfl, by decide, rfl, by decide, by decide⟩ rfl rfl (by decide) rfl (by first | exact .inl (.inl rfl) | exact .inl (.inr rfl) | exact .inr rfl) fun f cdv A outer s H E o =>
  ⟨_, (dss_cons (ds_set 2 o (de_bin o_sub (de_var 1) (de_callB (c_sum o) T.b_sum (da_b (de_var 0) da_nil)))) (dss_cons (ds_if (dt_cmp (o_eq o) (de_var 2) de_int) (dss_one (ds_ret ((de_lst (da_f (de_var 0)
    da_nil))).toF)) dss_nil) (dss_cons (ds_if (dt_cmp (o_eq o) (de_callB c_len T.b_len (da_b (de_var 0) da_nil)) de_int) (dss_one (ds_ret ((de_lst da_nil)).toF)) dss_nil) (dss_cons (ds_par 3 4 o ((de_lst
    da_nil)).toF (de_if (dt_cmp (o_ne o) (de_var 0) (de_lst da_nil)) (de_ix (de_var 0) (de_un o_neg de_int)) de_int)) (dss_cons (ds_set 5 o (de_cmp (o_eq o) (de_var 0) (de_listRg2 o T.b_list T.b_range
    de_int (de_bin o_add (de_callB c_len T.b_len (da_b (de_var 0) da_nil)) de_int)))) (dss_cons (ds_for o (di_range2 T.b_range (da_f de_int (da_f (de_bin o_add (de_callB (c_min2 o) T.b_min (da_b (de_var
    2) (da_b (de_bin o_add (de_var 4) (de_if (dt_of (de_var 5)) de_int de_int)) da_nil))) de_int) da_nil))) (dg_name 6 o.nd) (dss_one (ds_set 3 o (de_bin o_add (de_var 3) (de_call (d_l_on_9 T) o b_l_on_9
    (da_f (de_bin o_add (de_var 0) (de_lst (da_f (de_var 6) da_nil))) (da_f (de_var 1) da_nil))))))) (dss_one (ds_ret (de_var 3)))))))))⟩
theorem b_l_on_10 : ∀ (kV doc pm : Value) (an : Option Addr) (cdv ct : Value) (us : List Value), us.length = 2 → bindArgs (PySem.W.fnOf "_law_on" "_law_on" (defArgs s_l_on) (defBody s_l_on) (defScope s_l_on) .none kV doc pm an cdv ct) ⟨us, []⟩ = pure ((["_law_found", "_law_most"] : List Str).zip us) := fun _ _ _ _ _ _ us hl => match us, hl with | [_, _], _ => rfl
theorem d_l_on_11 (T : Top K mg) : DFn P w K mg base 12 "_law_on" s_l_on ["_law_found", "_law_most"] [.f, .f] .f m_l_on_11 :=
  dfn_of (N := ["_law_found", "_law_most", "_law_left", "_law_rows", "_law_ahead", "_law_is_rising", "_law_number"]) [.f, .f, .f, .f, .f, .f, .f] [.f, .f, .f, .f, .f, .f, .f] T.f_l_on ⟨rfl, rfl, rfl, by decide, rfl, by decide, by decide⟩ rfl rfl (by decide) rfl (by first | exact .inl (.inl rfl) | exact .inl (.inr rfl) | exact .inr rfl) fun f cdv A outer s H E o =>
  ⟨_, (dss_cons (ds_set 2 o (de_bin o_sub (de_var 1) (de_callB (c_sum o) T.b_sum (da_b (de_var 0) da_nil)))) (dss_cons (ds_if (dt_cmp (o_eq o) (de_var 2) de_int) (dss_one (ds_ret ((de_lst (da_f (de_var 0)
    da_nil))).toF)) dss_nil) (dss_cons (ds_if (dt_cmp (o_eq o) (de_callB c_len T.b_len (da_b (de_var 0) da_nil)) de_int) (dss_one (ds_ret ((de_lst da_nil)).toF)) dss_nil) (dss_cons (ds_par 3 4 o ((de_lst
    da_nil)).toF (de_if (dt_cmp (o_ne o) (de_var 0) (de_lst da_nil)) (de_ix (de_var 0) (de_un o_neg de_int)) de_int)) (dss_cons (ds_set 5 o (de_cmp (o_eq o) (de_var 0) (de_listRg2 o T.b_list T.b_range
    de_int (de_bin o_add (de_callB c_len T.b_len (da_b (de_var 0) da_nil)) de_int)))) (dss_cons (ds_for o (di_range2 T.b_range (da_f de_int (da_f (de_bin o_add (de_callB (c_min2 o) T.b_min (da_b (de_var
    2) (da_b (de_bin o_add (de_var 4) (de_if (dt_of (de_var 5)) de_int de_int)) da_nil))) de_int) da_nil))) (dg_name 6 o.nd) (dss_one (ds_set 3 o (de_bin o_add (de_var 3) (de_call (d_l_on_10 T) o
    b_l_on_10 (da_f (de_bin o_add (de_var 0) (de_lst (da_f (de_var 6) da_nil))) (da_f (de_var 1) da_nil))))))) (dss_one (ds_ret (de_var 3)))))))))⟩
theorem b_l_on_11 : ∀ (kV doc pm : Value) (an : Option Addr) (cdv ct : Value) (us : List Value), us.length = 2 → bindArgs (PySem.W.fnOf "_law_on" "_law_on" (defArgs s_l_on) (defBody s_l_on) (defScope s_l_on) .none kV doc pm an cdv ct) ⟨us, []⟩ = pure ((["_law_found", "_law_most"] : List Str).zip us) := fun _ _ _ _ _ _ us hl => match us, hl with | [_, _], _ => rfl
theorem d_p_partings (T : Top K mg) : DFn P w K mg base 4 "partings" s_p_partings ["many"] [.f] .f m_p_partings :=
  dfn_of (N := ["many", "ways", "number", "total"]) [.f, .o, .f, .f] [.f, .o, .f, .f] T.f_p_partings ⟨rfl, rfl, rfl, by decide, rfl, by decide, by decide⟩ rfl rfl (by decide) rfl (by first | exact .inl (.inl rfl) | exact .inl (.inr rfl) | exact .inr rfl) fun f cdv A outer s H E o =>
  ⟨_, (dss_cons (ds_expr (de_callD (ks := [.f, .f, .f]) 3 2 (d_p_want_many T) o (fun _ _ _ _ _ _ _ us its h1 h2 => match us, its, h1, h2 with | [_, _, _], [_, _], _, _ => ⟨_, rfl, rfl⟩) (da_f (de_var 0)
    (da_f (de_glob T.c_MOST_SUM fun _ => .int _) (da_f de_int da_nil))))) (dss_cons (ds_set 1 o (de_bin o_cat (de_lst (da_f de_int da_nil)) (de_bin o_rep (de_lst (da_f de_int da_nil)) (de_var 0))))
    (dss_cons (ds_for o (di_range2 T.b_range (da_f de_int (da_f (de_bin o_add (de_glob T.c_MOST_PLACES fun _ => .int _) de_int) da_nil))) (dg_name 2 o.nd) (dss_one (ds_for o (di_rangeDn T.b_range (da_f
    (de_var 0) (da_f (de_bin o_sub (de_var 2) de_int) (da_f (de_un o_neg de_int) da_nil)))) (dg_name 3 o.nd) (dss_one (ds_augix 1 (g := fun i j => i + j) ip_add (de_var 3) (de_ix (de_varo 1) (de_bin
    o_sub (de_var 3) (de_var 2)))))))) (dss_one (ds_ret (de_ix (de_varo 1) (de_var 0)))))))⟩
theorem b_p_partings : ∀ (kV doc pm : Value) (an : Option Addr) (cdv ct : Value) (us : List Value), us.length = 1 → bindArgs (PySem.W.fnOf "partings" "partings" (defArgs s_p_partings) (defBody s_p_partings) (defScope s_p_partings) .none kV doc pm an cdv ct) ⟨us, []⟩ = pure ((["many"] : List Str).zip us) := fun _ _ _ _ _ _ us hl => match us, hl with | [_], _ => rfl
theorem b_p_partings_k : ∀ (kV doc pm : Value) (an : Option Addr) (cdv ct : Value) (us : List Value), us.length = 1 → bindArgs (PySem.W.fnOf "partings" "partings" (defArgs s_p_partings) (defBody s_p_partings) (defScope s_p_partings) .none kV doc pm an cdv ct) ⟨[], (["many"] : List Str).zip us⟩ = pure ((["many"] : List Str).zip us) := fun _ _ _ _ _ _ us hl => match us, hl with | [_], _ => rfl
theorem d_p_row_count (T : Top K mg) : DFn P w K mg base 13 "row_count" s_p_row_count ["many"] [.f] .f m_p_row_count :=
  dfn_of (N := ["many"]) [.f] [.f] T.f_p_row_count ⟨rfl, rfl, rfl, by decide, rfl, by decide, by decide⟩ rfl rfl (by decide) rfl (by first | exact .inl (.inl rfl) | exact .inl (.inr rfl) | exact .inr rfl) fun f cdv A outer s H E o =>
  ⟨_, (dss_cons (ds_expr (de_callD (ks := [.f, .f, .f]) 3 2 (d_p_want_many T) o (fun _ _ _ _ _ _ _ us its h1 h2 => match us, its, h1, h2 with | [_, _, _], [_, _], _, _ => ⟨_, rfl, rfl⟩) (da_f (de_var 0)
    (da_f (de_glob T.c_MOST_SUM fun _ => .int _) (da_f de_int da_nil))))) (dss_one (ds_ret (de_callB c_len T.b_len (da_b (de_call (d_p_parts_of_11 T) o b_p_parts_of_11 (da_f (de_var 0) (da_f (de_glob
    T.c_MOST_PLACES fun _ => .int _) da_nil))) da_nil)))))⟩
theorem b_p_row_count : ∀ (kV doc pm : Value) (an : Option Addr) (cdv ct : Value) (us : List Value), us.length = 1 → bindArgs (PySem.W.fnOf "row_count" "row_count" (defArgs s_p_row_count) (defBody s_p_row_count) (defScope s_p_row_count) .none kV doc pm an cdv ct) ⟨us, []⟩ = pure ((["many"] : List Str).zip us) := fun _ _ _ _ _ _ us hl => match us, hl with | [_], _ => rfl
theorem b_p_row_count_k : ∀ (kV doc pm : Value) (an : Option Addr) (cdv ct : Value) (us : List Value), us.length = 1 → bindArgs (PySem.W.fnOf "row_count" "row_count" (defArgs s_p_row_count) (defBody s_p_row_count) (defScope s_p_row_count) .none kV doc pm an cdv ct) ⟨[], (["many"] : List Str).zip us⟩ = pure ((["many"] : List Str).zip us) := fun _ _ _ _ _ _ us hl => match us, hl with | [_], _ => rfl
theorem d_p_is_list (T : Top K mg) : DFn P w K mg base 1 "is_list" s_p_is_list ["value"] [.f] .f m_p_is_list :=
  dfn_of (N := ["value"]) [.f] [.f] T.f_p_is_list ⟨rfl, rfl, rfl, by decide, rfl, by decide, by decide⟩ rfl rfl (by decide) rfl (by first | exact .inl (.inl rfl) | exact .inl (.inr rfl) | exact .inr rfl) fun f cdv A outer s H E o =>
  ⟨_, (dss_one (ds_ret (de_isi2 (T := "list") (U := "tuple") T.b_isinstance T.b_list T.b_tuple (de_var 0))))⟩
theorem b_p_is_list : ∀ (kV doc pm : Value) (an : Option Addr) (cdv ct : Value) (us : List Value), us.length = 1 → bindArgs (PySem.W.fnOf "is_list" "is_list" (defArgs s_p_is_list) (defBody s_p_is_list) (defScope s_p_is_list) .none kV doc pm an cdv ct) ⟨us, []⟩ = pure ((["value"] : List Str).zip us) := fun _ _ _ _ _ _ us hl => match us, hl with | [_], _ => rfl
theorem d_p_is_counts (T : Top K mg) : DFn P w K mg base 3 "is_counts" s_p_is_counts ["value"] [.f] .f m_p_is_counts :=
  dfn_of (N := ["value", "number"]) [.f, .f] [.f, .f] T.f_p_is_counts ⟨rfl, rfl, rfl, by decide, rfl, by decide, by decide⟩ rfl rfl (by decide) rfl (by first | exact .inl (.inl rfl) | exact .inl (.inr rfl) | exact .inr rfl) fun f cdv A outer s H E o =>
  ⟨_, (dss_one (ds_ret (de_and (de_call (d_p_is_list T) o b_p_is_list (da_f (de_var 0) da_nil)) (de_and (de_cmp o_gt (de_callB c_len T.b_len (da_b (de_var 0) da_nil)) de_int) (de_one (de_callB (c_all o)
    T.b_all (da_b (de_lc (own := [("number", 1)]) o (di_seq (de_var 0)) (blk_of (by rfl)) (fun _ _ _ _ _ => ⟨_, (dg_name 1 (XOk.blk o).nd)⟩) (fun _ _ _ _ _ => ⟨_, dts_nil⟩) (fun _ _ _ _ _ => ⟨_, (de_call
    (d_p_is_count T) (XOk.blk o) b_p_is_count (da_f (de_var 1) da_nil))⟩)) da_nil)))))))⟩
theorem b_p_is_counts : ∀ (kV doc pm : Value) (an : Option Addr) (cdv ct : Value) (us : List Value), us.length = 1 → bindArgs (PySem.W.fnOf "is_counts" "is_counts" (defArgs s_p_is_counts) (defBody s_p_is_counts) (defScope s_p_is_counts) .none kV doc pm an cdv ct) ⟨us, []⟩ = pure ((["value"] : List Str).zip us) := fun _ _ _ _ _ _ us hl => match us, hl with | [_], _ => rfl
theorem d_p_goes_on (T : Top K mg) : DFn P w K mg base 1 "goes_on" s_p_goes_on ["number", "ahead", "is_rising"] [.f, .f, .f] .f m_p_goes_on :=
  dfn_of (N := ["number", "ahead", "is_rising"]) [.f, .f, .f] [.f, .f, .f] T.f_p_goes_on ⟨rfl, rfl, rfl, by decide, rfl, by decide, by decide⟩ rfl rfl (by decide) rfl (by first | exact .inl (.inl rfl) | exact .inl (.inr rfl) | exact .inr rfl) fun f cdv A outer s H E o =>
  ⟨_, (dss_one (ds_ret (de_or (de_chain o_lt o_le de_int (de_var 0) (de_var 1)) (de_one (de_and (de_var 2) (de_one (de_cmp (o_eq o) (de_var 0) (de_bin o_add (de_var 1) de_int))))))))⟩
theorem b_p_goes_on : ∀ (kV doc pm : Value) (an : Option Addr) (cdv ct : Value) (us : List Value), us.length = 3 → bindArgs (PySem.W.fnOf "goes_on" "goes_on" (defArgs s_p_goes_on) (defBody s_p_goes_on) (defScope s_p_goes_on) .none kV doc pm an cdv ct) ⟨us, []⟩ = pure ((["number", "ahead", "is_rising"] : List Str).zip us) := fun _ _ _ _ _ _ us hl => match us, hl with | [_, _, _], _ => rfl
theorem d_p_fault_of (T : Top K mg) : DFn P w K mg base 2 "fault_of" s_p_fault_of ["numbers"] [.f] .f m_p_fault_of :=
  dfn_of (N := ["numbers", "total", "ahead", "is_rising", "place", "number"]) [.f, .f, .f, .f, .f, .f] [.f, .f, .f, .f, .f, .f] T.f_p_fault_of ⟨rfl, rfl, rfl, by decide, rfl, by decide, by decide⟩ rfl rfl (by decide) rfl (by first | exact .inl (.inl rfl) | exact .inl (.inr rfl) | exact .inr rfl) fun f cdv A outer s H E o =>
  ⟨_, (dss_cons (ds_unp (de_tup (da_f de_int (da_f de_int (da_f de_bl da_nil)))) (dg_tup o.calm (dgs_cons (dg_name 1 o.nd) (dgs_cons (dg_name 2 o.nd) (dgs_cons (dg_name 3 o.nd) dgs_nil))))) (dss_cons (ds_for
    o (di_enum T.b_enumerate (da_f (de_var 0) da_nil)) (dg_tup o.calm (dgs_cons (dg_name 4 o.nd) (dgs_cons (dg_name 5 o.nd) dgs_nil))) (dss_cons (ds_aug 1 (g := fun i j => i + j) o ip_add (de_var 5))
    (dss_cons (ds_if (DW.dt (dw_or (dt_not (dt_of (de_call (d_p_goes_on T) o b_p_goes_on (da_f (de_var 5) (da_f (de_var 2) (da_f (de_var 3) da_nil)))))) (dw_or (dt_cmp o_gt (de_var 1) (de_glob
    T.c_MOST_SUM fun _ => .int _)) (dw_or1 (dt_cmp o_ge (de_var 4) (de_glob T.c_MOST_PLACES fun _ => .int _)))))) (dss_one (ds_ret (de_var 4))) dss_nil) (dss_cons (ds_set 3 o (de_and (de_var 3) (de_one
    (de_cmp o_gt (de_var 5) (de_var 2))))) (dss_one (ds_set 2 o (de_var 5))))))) (dss_one (ds_ret de_non))))⟩
theorem b_p_fault_of : ∀ (kV doc pm : Value) (an : Option Addr) (cdv ct : Value) (us : List Value), us.length = 1 → bindArgs (PySem.W.fnOf "fault_of" "fault_of" (defArgs s_p_fault_of) (defBody s_p_fault_of) (defScope s_p_fault_of) .none kV doc pm an cdv ct) ⟨us, []⟩ = pure ((["numbers"] : List Str).zip us) := fun _ _ _ _ _ _ us hl => match us, hl with | [_], _ => rfl
theorem d_p_is_row (T : Top K mg) : DFn P w K mg base 4 "is_row" s_p_is_row ["value"] [.f] .f m_p_is_row :=
  dfn_of (N := ["value"]) [.f] [.f] T.f_p_is_row ⟨rfl, rfl, rfl, by decide, rfl, by decide, by decide⟩ rfl rfl (by decide) rfl (by first | exact .inl (.inl rfl) | exact .inl (.inr rfl) | exact .inr rfl) fun f cdv A outer s H E o =>
  ⟨_, (dss_one (ds_ret (de_and (de_call (d_p_is_counts T) o b_p_is_counts (da_f (de_var 0) da_nil)) (de_one (de_cmp o_isN (de_call (d_p_fault_of T) o b_p_fault_of (da_f (de_var 0) da_nil)) de_non)))))⟩
theorem b_p_is_row : ∀ (kV doc pm : Value) (an : Option Addr) (cdv ct : Value) (us : List Value), us.length = 1 → bindArgs (PySem.W.fnOf "is_row" "is_row" (defArgs s_p_is_row) (defBody s_p_is_row) (defScope s_p_is_row) .none kV doc pm an cdv ct) ⟨us, []⟩ = pure ((["value"] : List Str).zip us) := fun _ _ _ _ _ _ us hl => match us, hl with | [_], _ => rfl
theorem d_p_lengths_of (T : Top K mg) : DFn P w K mg base 1 "lengths_of" s_p_lengths_of ["row"] [.f] .o m_p_lengths_of :=
  dfn_of (N := ["row", "second", "number"]) [.f, .f, .f] [.f, .f, .f] T.f_p_lengths_of ⟨rfl, rfl, rfl, by decide, rfl, by decide, by decide⟩ rfl rfl (by decide) rfl (by first | exact .inl (.inl rfl) | exact .inl (.inr rfl) | exact .inr rfl) fun f cdv A outer s H E o =>
  ⟨_, (dss_one (ds_ret (de_lc (own := [("second", 1)]) o (di_range1 T.b_range (da_f (de_callB (c_maxL o) T.b_max (da_b (de_var 0) da_nil)) da_nil)) (blk_of (by rfl)) (fun _ _ _ _ _ => ⟨_, (dg_name 1 (XOk.blk
    o).nd)⟩) (fun _ _ _ _ _ => ⟨_, dts_nil⟩) (fun _ _ _ _ _ => ⟨_, (de_callB c_len T.b_len (da_b (de_lc (own := [("number", 2)]) (XOk.blk o) (di_seq (de_var 0)) (blk_of (by rfl)) (fun _ _ _ _ _ => ⟨_,
    (dg_name 2 (XOk.blk (XOk.blk o)).nd)⟩) (fun _ _ _ _ _ => ⟨_, (dts_one (dt_cmp o_gt (de_var 2) (de_var 1)))⟩) (fun _ _ _ _ _ => ⟨_, (de_var 2)⟩)) da_nil))⟩))))⟩
theorem b_p_lengths_of : ∀ (kV doc pm : Value) (an : Option Addr) (cdv ct : Value) (us : List Value), us.length = 1 → bindArgs (PySem.W.fnOf "lengths_of" "lengths_of" (defArgs s_p_lengths_of) (defBody s_p_lengths_of) (defScope s_p_lengths_of) .none kV doc pm an cdv ct) ⟨us, []⟩ = pure ((["row"] : List Str).zip us) := fun _ _ _ _ _ _ us hl => match us, hl with | [_], _ => rfl
theorem d_p_want_row (T : Top K mg) : DFn P w K mg base 5 "want_row" s_p_want_row ["value"] [.f] .o m_p_want_row :=
  dfn_of (N := ["value"]) [.f] [.f] T.f_p_want_row ⟨rfl, rfl, rfl, by decide, rfl, by decide, by decide⟩ rfl rfl (by decide) rfl (by first | exact .inl (.inl rfl) | exact .inl (.inr rfl) | exact .inr rfl) fun f cdv A outer s H E o =>
  ⟨_, (dss_cons (ds_if (dt_not (dt_of (de_call (d_p_is_row T) o b_p_is_row (da_f (de_var 0) da_nil)))) (dss_one ds_never) dss_nil) (dss_one (ds_ret (de_callTy c_list T.b_list (da_b (de_var 0) da_nil)))))⟩
theorem b_p_want_row : ∀ (kV doc pm : Value) (an : Option Addr) (cdv ct : Value) (us : List Value), us.length = 1 → bindArgs (PySem.W.fnOf "want_row" "want_row" (defArgs s_p_want_row) (defBody s_p_want_row) (defScope s_p_want_row) .none kV doc pm an cdv ct) ⟨us, []⟩ = pure ((["value"] : List Str).zip us) := fun _ _ _ _ _ _ us hl => match us, hl with | [_], _ => rfl
theorem d_p_lengths (T : Top K mg) : DFn P w K mg base 6 "lengths" s_p_lengths ["row"] [.f] .o m_p_lengths :=
  dfn_of (N := ["row"]) [.f] [.f] T.f_p_lengths ⟨rfl, rfl, rfl, by decide, rfl, by decide, by decide⟩ rfl rfl (by decide) rfl (by first | exact .inl (.inl rfl) | exact .inl (.inr rfl) | exact .inr rfl) fun f cdv A outer s H E o =>
  ⟨_, (dss_one (ds_ret (de_call (d_p_lengths_of T) o b_p_lengths_of (da_f ((de_call (d_p_want_row T) o b_p_want_row (da_f (de_var 0) da_nil))).toF da_nil))))⟩
theorem b_p_lengths : ∀ (kV doc pm : Value) (an : Option Addr) (cdv ct : Value) (us : List Value), us.length = 1 → bindArgs (PySem.W.fnOf "lengths" "lengths" (defArgs s_p_lengths) (defBody s_p_lengths) (defScope s_p_lengths) .none kV doc pm an cdv ct) ⟨us, []⟩ = pure ((["row"] : List Str).zip us) := fun _ _ _ _ _ _ us hl => match us, hl with | [_], _ => rfl
theorem d_l_right (T : Top K mg) : DFn P w K mg base 14 "_law_right" s_l_right ["_law_pot_here"] [.p] .f m_l_right :=
  dfn_of (N := ["_law_pot_here", "_law_numbers", "_law_most", "_law_due", "_law_lots_here", "_law_told", "_law_spoilt", "_law_at", "_law_one"]) [.p, .f, .f, .f, .f, .f, .o, .f, .f] [.p, .f, .f, .f, .f, .f, .o, .f, .f] T.f_l_right ⟨rfl, rfl, rfl, by decide, rfl, by decide, by decide⟩ rfl rfl (by decide) rfl (by first | exact .inl (.inl rfl) | exact .inl (.inr rfl) | exact .inr rfl) fun f cdv A outer s H E o =>
  ⟨_, (dss_cons (ds_set 1 o ((de_call (d_l_row T) o b_l_row (da_p 0 (da_f de_int da_nil)))).toF) (dss_cons (ds_set 2 o (de_callB (c_sum o) T.b_sum (da_b (de_var 1) da_nil))) (dss_cons (ds_par 3 4 o
    ((de_callB (c_sortB o) T.b_sorted (da_b (de_call (d_l_on_11 T) o b_l_on_11 (da_f ((de_lst da_nil)).toF (da_f (de_var 2) da_nil))) da_nil))).toF ((de_call (d_l_lots T) o b_l_lots (da_f (de_var 2)
    da_nil))).toF) (dss_blkO 5 (A := [6, 7]) o (dn_call (d_p_rows_of T) o b_p_rows_of (da_f (de_var 2) da_nil)) (db_if (DW.dt (dw_or (dt_not (dt_of (de_isi (T := "list") T.b_isinstance T.b_list (de_var
    5)))) (dw_or (dt_cmp (o_ne o) (de_var 5) (de_var 3)) (dw_or (dt_cmp (o_ne o) (de_callK (d_p_rows_of T) o b_p_rows_of_k (dk_f (de_var 2) dk_nil)) (de_var 3)) (dw_or1 (dt_cmp (o_notInA o) (de_var 1)
    (de_var 5))))))) (dss_one (ds_ret de_bl)) (db_if (DW.dt (dw_or (dt_cmp (o_ne o) (de_lst (da_f (de_call (d_p_partings T) o b_p_partings (da_f (de_var 2) da_nil)) (da_f (de_callK (d_p_row_count T) o
    b_p_row_count_k (dk_f (de_var 2) dk_nil)) (da_f (de_callK (d_p_partings T) o b_p_partings_k (dk_f (de_var 2) dk_nil)) (da_f (de_call (d_p_row_count T) o b_p_row_count (da_f (de_var 2) da_nil))
    da_nil))))) (de_bin o_rep (de_lst (da_f (de_callB c_len T.b_len (da_b (de_var 4) da_nil)) da_nil)) de_int)) (dw_or1 (dt_cmp (o_ne o) (de_callB c_len T.b_len (da_b (de_var 3) da_nil)) (de_callB c_len
    T.b_len (da_b (de_var 4) da_nil)))))) (dss_one (ds_ret de_bl)) (db_if (DW.dt (dw_or (dt_cmp (o_ne o) (de_lc (own := [("_law_one", 8)]) o (di_seq (de_var 5)) (blk_of (by rfl)) (fun _ _ _ _ _ => ⟨_,
    (dg_name 8 (XOk.blk o).nd)⟩) (fun _ _ _ _ _ => ⟨_, (dts_one (dt_cmp o_notB (de_call (d_p_is_row T) (XOk.blk o) b_p_is_row (da_f (de_var 8) da_nil)) de_bl))⟩) (fun _ _ _ _ _ => ⟨_, (de_var 8)⟩))
    (de_lst da_nil)) (dw_or1 (dt_cmp (o_ne o) (de_callB (c_sortB o) T.b_sorted (da_b (de_lc (own := [("_law_one", 8)]) o (di_seq (de_var 5)) (blk_of (by rfl)) (fun _ _ _ _ _ => ⟨_, (dg_name 8 (XOk.blk
    o).nd)⟩) (fun _ _ _ _ _ => ⟨_, dts_nil⟩) (fun _ _ _ _ _ => ⟨_, ((de_call (d_p_lengths T) (XOk.blk o) b_p_lengths (da_f (de_var 8) da_nil))).toF⟩)) da_nil)) (de_callB (c_sortB o) T.b_sorted (da_b
    (de_var 4) da_nil)))))) (dss_one (ds_ret de_bl)) (db_set 6 o (de_callTy c_list T.b_list (da_b (de_var 1) da_nil)) (db_set 7 o (de_call (d_l_draw T) o b_l_draw (da_p 0 (da_f (de_callB c_len T.b_len
    (da_b (de_varo 6) da_nil)) da_nil))) (db_setix 6 (de_bin o_add (de_ix (de_varo 6) (de_var 7)) de_int) (de_var 7) (db_if (DW.dt (dw_or (dt_cmp (o_inA o) (de_varo 6) (de_var 5)) (dw_or1 (dt_look
    (dt_cmp (o_ne o) (de_if (dt_cmp o_lt (de_var 2) de_int) (de_cmp (o_inA o) (de_var 6) (de_call (d_p_rows_of T) o b_p_rows_of (da_f (de_bin o_add (de_var 2) de_int) da_nil))) de_bl) (de_and (de_cmp
    o_lt (de_var 2) de_int) (de_one (de_call (d_p_is_row T) o b_p_is_row (da_f (de_var 6) da_nil))))))))) (dss_one (ds_ret de_bl)) (db_poke2 [6, 7] [6] (de_ix (de_var 5) de_int) (dss_one (ds_ret (de_cmp
    (o_eq o) (de_call (d_p_rows_of T) o b_p_rows_of (da_f (de_var 2) da_nil)) (de_var 3))))))))))))))))⟩
theorem b_l_right : ∀ (kV doc pm : Value) (an : Option Addr) (cdv ct : Value) (us : List Value), us.length = 1 → bindArgs (PySem.W.fnOf "_law_right" "_law_right" (defArgs s_l_right) (defBody s_l_right) (defScope s_l_right) .none kV doc pm an cdv ct) ⟨us, []⟩ = pure ((["_law_pot_here"] : List Str).zip us) := fun _ _ _ _ _ _ us hl => match us, hl with | [_], _ => rfl
theorem d_l_pot (T : Top K mg) : DFn P w K mg base 1 "_law_pot" s_l_pot ["_law_script", "_law_k"] [.s, .f] .o m_l_pot :=
  dfn_of (N := ["_law_script", "_law_k", "_law_cell"]) [.s, .f, .f] [.s, .f, .f] T.f_l_pot ⟨rfl, rfl, rfl, by decide, rfl, by decide, by decide⟩ rfl rfl (by decide) rfl (by first | exact .inl (.inl rfl) | exact .inl (.inr rfl) | exact .inr rfl) fun f cdv A outer s H E o =>
  ⟨_, (dss_cons (ds_set 2 o (de_bin o_add (de_bin o_mulA de_int (de_var 1)) de_int)) (dss_cons (ds_if (dt_cmp o_lt (de_var 1) (de_callB c_lenS T.b_len (da_s 0 da_nil))) (dss_one (ds_set 2 o (de_callB c_abs
    T.b_abs (da_b (de_six 0 (de_var 1)) da_nil)))) dss_nil) (dss_one (ds_ret (de_lst (da_f (de_callB (c_max2 o) T.b_max (da_b de_int (da_b (de_bin o_sub (de_var 2) (de_bin o_pow de_int de_int)) da_nil)))
    (da_f (de_bin o_add (de_bin o_mod (de_callTy c_int T.b_int (da_b (de_bin o_add (de_bin o_add (de_bin o_mulA (de_bin o_mod (de_callTy c_int T.b_int (da_b (de_var 2) da_nil)) de_int) de_int) (de_bin
    o_mulA de_int (de_var 1))) de_int) da_nil)) de_int) de_int) da_nil)))))))⟩
theorem b_l_pot : ∀ (kV doc pm : Value) (an : Option Addr) (cdv ct : Value) (us : List Value), us.length = 2 → bindArgs (PySem.W.fnOf "_law_pot" "_law_pot" (defArgs s_l_pot) (defBody s_l_pot) (defScope s_l_pot) .none kV doc pm an cdv ct) ⟨us, []⟩ = pure ((["_law_script", "_law_k"] : List Str).zip us) := fun _ _ _ _ _ _ us hl => match us, hl with | [_, _], _ => rfl
theorem d_law_ (T : Top K mg) : DFn P w K mg base 15 "law" s_law_ ["_law_script"] [.s] .f m_law_ :=
  dfn_of (N := ["_law_script"]) [.s] [.s] T.f_law_ ⟨rfl, rfl, rfl, by decide, rfl, by decide, by decide⟩ rfl rfl (by decide) rfl (by first | exact .inl (.inl rfl) | exact .inl (.inr rfl) | exact .inr rfl) fun f cdv A outer s H E o =>
  ⟨_, (dss_one (ds_ret (de_callPot (d_l_right T) o b_l_right (de_call (d_l_pot T) o b_l_pot (da_s 0 (da_f de_int da_nil))))))⟩
theorem b_law_ : ∀ (kV doc pm : Value) (an : Option Addr) (cdv ct : Value) (us : List Value), us.length = 1 → bindArgs (PySem.W.fnOf "law" "law" (defArgs s_law_) (defBody s_law_) (defScope s_law_) .none kV doc pm an cdv ct) ⟨us, []⟩ = pure ((["_law_script"] : List Str).zip us) := fun _ _ _ _ _ _ us hl => match us, hl with | [_], _ => rfl
end
end LW
set_option maxHeartbeats 2000000
namespace DL
open PySem PySem.Spec PyProof.Rows L2
theorem runD_ok {n : Nat} {r : Rm} {fs : Fs} {ds : List D} {π π' : Pot} {d : D} (h : fs (startD n ds) π = .ok (.rt d, π')) : runD n r fs ds π = .ok (d, π') := by
  unfold runD
  rw [h]
  rfl
theorem sl_is : sizeLine = 16777216 := sizeLine_eq
theorem sSeq_nx {a b : Fs} {ρ ρ' : Rho} {π π' : Pot} (h : a ρ π = .ok (.nx ρ', π')) : sSeq a b ρ π = b ρ' π' := by
  unfold sSeq
  rw [h]
  rfl
theorem lcGo_filter {α : Type} {enc : α → D} {fg : D → Rho → Option Rho} {ft : Et} {fe : Ed} {ρ : Rho} {π : Pot} {ρ1 : α → Rho} {p : α → Bool} {g : α → D} : ∀ {xs : List α}, (∀ x ∈ xs, fg (enc x) ρ = some (ρ1 x)) → (∀ x ∈ xs, ft (ρ1 x) π = .ok (p x, π)) → (∀ x ∈ xs, p x = true → fe (ρ1 x) π = .ok (g x, π)) →
    lcGo fg ft fe ρ (xs.map enc) π = .ok ((xs.filter p).map g, π)
  | [], _, _, _ => rfl
  | x :: xs, h1, h2, h3 => by
    have ih := lcGo_filter (xs := xs) (fun y hy => h1 y (List.mem_cons_of_mem _ hy)) (fun y hy => h2 y (List.mem_cons_of_mem _ hy)) (fun y hy => h3 y (List.mem_cons_of_mem _ hy))
    simp only [List.map_cons, lcGo, h1 x (List.mem_cons_self ..), ofO_some, Res.bind_ok, h2 x (List.mem_cons_self ..), safe_ok]
    cases hp : p x with
    | true =>
      rw [List.filter_cons, if_pos hp, List.map_cons]
      simp only [if_true, h3 x (List.mem_cons_self ..) hp, safe_ok, Res.bind_ok, ih]
    | false =>
      simp only [Bool.false_eq_true, if_false, ih, List.filter_cons, hp]
theorem lcGo_map {α : Type} {enc : α → D} {fg : D → Rho → Option Rho} {fe : Ed} {ρ : Rho} {π : Pot} {ρ1 : α → Rho} {g : α → D} {xs : List α} (h1 : ∀ x ∈ xs, fg (enc x) ρ = some (ρ1 x)) (h3 : ∀ x ∈ xs, fe (ρ1 x) π = .ok (g x, π)) :
    lcGo fg tTrue fe ρ (xs.map enc) π = .ok (xs.map g, π) := by
  have := lcGo_filter (ft := tTrue) (p := fun _ => true) h1 (fun x hx => rfl) (fun x hx _ => h3 x hx)
  rwa [List.filter_eq_self.mpr (fun _ _ => rfl)] at this
theorem divOk_small {i j : Int} (h : 0 < j) (h2 : j < 1073741824) : divOk i j = true := by
  unfold divOk Builtin.divisionGoesByPylong
  have e : j.natAbs.log2 < 30 := by
    rw [Nat.log2_lt (by omega)]
    omega
  have e2 : (if (j == 0) = true then 0 else j.natAbs.log2 / 30 + 1) ≤ 300 := by
    split <;> omega
  simp only [Bool.and_eq_true, decide_eq_true_eq, Bool.not_eq_true', Bool.and_eq_false_imp]
  refine ⟨h, fun q => ?_⟩
  omega
theorem opFdivW_s {i j : Int} (h : 0 < j) (h2 : j < 1152921504606846976) : opFdivW (.int i) (.int j) = some (.int (i / j)) := by
  unfold opFdivW
  have e : j.natAbs.log2 < 9000 := by
    have : j.natAbs.log2 < 60 := by
      rw [Nat.log2_lt (by omega)]
      omega
    omega
  simp [h, e]
theorem opMod_s {i j : Int} (h : 0 < j) : opMod (.int i) (.int j) = some (.int (i % j)) := by
  simp [opMod, h]
theorem opMulA_l {i j : Int} (h : -18446744073709551616 < i) (h2 : i < 18446744073709551616) : opMulA (.int i) (.int j) = some (.int (i * j)) := by
  simp [opMulA, small, h, h2]
theorem opMulA_r {i j : Int} (h : -18446744073709551616 < j) (h2 : j < 18446744073709551616) : opMulA (.int i) (.int j) = some (.int (i * j)) := by
  simp [opMulA, small, h, h2]
mutual
def plainD : D → Bool
  | .non | .bl _ | .int _ => true
  | .str x => PyData.strOk x
  | .lst xs | .tup xs => plainL xs
  | _ => false
def plainL : List D → Bool
  | [] => true
  | x :: xs => plainD x && plainL xs
def deepD : D → Nat
  | .lst xs | .tup xs => deepL xs + 1
  | _ => 0
def deepL : List D → Nat
  | [] => 0
  | x :: xs => max (deepD x) (deepL xs)
end
mutual
theorem plain_py : ∀ {d : D}, plainD d = true → ∃ p, toPy d = some p ∧ p.canLay0 = true ∧ p.depth = deepD d
  | .non, _ => ⟨_, rfl, rfl, rfl⟩
  | .bl _, _ => ⟨_, rfl, rfl, rfl⟩
  | .int _, _ => ⟨_, rfl, rfl, rfl⟩
  | .str x, h => ⟨_, rfl, (by simpa [PyData.canLay0, plainD] using h), rfl⟩
  | .lst xs, h => by
    obtain ⟨ps, h1, h2, h3⟩ := plain_pyL (xs := xs) (by simpa [plainD] using h)
    exact ⟨.list ps, by simp [toPy, h1], by simpa [PyData.canLay0] using h2, by simp [PyData.depth, deepD, h3]⟩
  | .tup xs, h => by
    obtain ⟨ps, h1, h2, h3⟩ := plain_pyL (xs := xs) (by simpa [plainD] using h)
    exact ⟨.tuple ps, by simp [toPy, h1], by simpa [PyData.canLay0] using h2, by simp [PyData.depth, deepD, h3]⟩
  | .dic _ _, h => by cases h
  | .ins _ _ _, h => by cases h
theorem plain_pyL : ∀ {xs : List D}, plainL xs = true → ∃ ps, toPyL xs = some ps ∧ PyData.canLayAll0 ps = true ∧ PyData.depthAll ps = deepL xs
  | [], _ => ⟨[], rfl, rfl, rfl⟩
  | x :: xs, h => by
    simp only [plainL, Bool.and_eq_true] at h
    obtain ⟨p, h1, h2, h3⟩ := plain_py h.1
    obtain ⟨ps, h4, h5, h6⟩ := plain_pyL h.2
    exact ⟨p :: ps, by simp [toPyL, h1, h4], by simp [PyData.canLayAll0, h2, h5], by simp [PyData.depthAll, deepL, h3, h6]⟩
end
/-- data that may be held against other data -/
def cmpOk (d : D) : Bool := plainD d && decide (deepD d ≤ 64)
theorem eqP_refl {d : D} (h : cmpOk d = true) : eqP d d = some true := by
  unfold cmpOk at h
  simp only [Bool.and_eq_true, decide_eq_true_eq] at h
  obtain ⟨p, h1, h2, h3⟩ := plain_py h.1
  unfold eqP
  rw [h1]
  simp [SeqAt.shaped, h2, h3, h.2, SeqAt.eqv_refl p h2]
theorem eqD_refl {d : D} (h : cmpOk d = true) : eqD d d = some true := by
  unfold eqD
  split
  · rename_i h2
    simp_all
  · rename_i h2
    simp_all
  · exact eqP_refl h
theorem opNe_refl {d : D} (h : cmpOk d = true) : opNe d d = some (.bl false) := by simp [opNe, eqD_refl h]
end DL
set_option maxHeartbeats 2000000
namespace DL
open PySem PySem.Spec PyProof.Rows L2
@[simp] theorem eVar_ap (i : Nat) (ρ : Rho) (π : Pot) : eVar i ρ π = match ρ[i]? with
  | some (some d) => .ok (d, π)
  | _ => .stuck := rfl
@[simp] theorem eC_ap (d : D) (ρ : Rho) (π : Pot) : eC d ρ π = .ok (d, π) := rfl
@[simp] theorem eBin_ap (g : D → D → Option D) (a b : Ed) (ρ : Rho) (π : Pot) : eBin g a b ρ π = (a ρ π).bind fun x => (b ρ x.2).bind fun y => (ofO (g x.1 y.1)).bind fun z => .ok (z, y.2) := rfl
@[simp] theorem eUn_ap (g : D → Option D) (a : Ed) (ρ : Rho) (π : Pot) : eUn g a ρ π = (a ρ π).bind fun x => (ofO (g x.1)).bind fun z => .ok (z, x.2) := rfl
@[simp] theorem eAnd_ap (a b : Ed) (ρ : Rho) (π : Pot) : eAnd a b ρ π = (a ρ π).bind fun x => (ofO (truth x.1)).bind fun k => if k = true then b ρ x.2 else .ok x := rfl
@[simp] theorem eOr_ap (a b : Ed) (ρ : Rho) (π : Pot) : eOr a b ρ π = (a ρ π).bind fun x => (ofO (truth x.1)).bind fun k => if k = true then .ok x else b ρ x.2 := rfl
@[simp] theorem eNot_ap (a : Ed) (ρ : Rho) (π : Pot) : eNot a ρ π = (a ρ π).bind fun x => (ofO (truth x.1)).bind fun k => .ok (.bl (!k), x.2) := rfl
@[simp] theorem eIf_ap (t : Et) (a b : Ed) (ρ : Rho) (π : Pot) : eIf t a b ρ π = (t ρ π).bind fun x => if x.1 = true then a ρ x.2 else b ρ x.2 := rfl
@[simp] theorem aNil_ap (ρ : Rho) (π : Pot) : aNil  ρ π = .ok ([], π) := rfl
@[simp] theorem aCons_ap (a : Ed) (b : Ea) (ρ : Rho) (π : Pot) : aCons a b ρ π = (a ρ π).bind fun x => (b ρ x.2).bind fun y => .ok (x.1 :: y.1, y.2) := rfl
@[simp] theorem eTup_ap (a : Ea) (ρ : Rho) (π : Pot) : eTup a ρ π = (a ρ π).bind fun x => if x.1.length ≤ sizeLine then .ok (.tup x.1, x.2) else .stuck := rfl
@[simp] theorem eLst_ap (a : Ea) (ρ : Rho) (π : Pot) : eLst a ρ π = (a ρ π).bind fun x => if x.1.length ≤ sizeLine then .ok (.lst x.1, x.2) else .stuck := rfl
@[simp] theorem eApp_ap (g : List D → Option D) (a : Ea) (ρ : Rho) (π : Pot) : eApp g a ρ π = (a ρ π).bind fun x => (ofO (g x.1)).bind fun z => .ok (z, x.2) := rfl
@[simp] theorem tOf_ap (a : Ed) (ρ : Rho) (π : Pot) : tOf a ρ π = (a ρ π).bind fun x => (ofO (truth x.1)).bind fun k => .ok (k, x.2) := rfl
@[simp] theorem tBl_ap (a : Ed) (ρ : Rho) (π : Pot) : tBl a ρ π = (a ρ π).bind fun x => match x.1 with
  | .bl k => .ok (k, x.2)
  | _ => .stuck := rfl
@[simp] theorem tAndD_ap (a b : Et) (ρ : Rho) (π : Pot) : tAndD a b ρ π = (a ρ π).bind fun x => if x.1 = true then b ρ x.2 else .ok (false, x.2) := rfl
@[simp] theorem tOrD_ap (a b : Et) (ρ : Rho) (π : Pot) : tOrD a b ρ π = (a ρ π).bind fun x => if x.1 = true then .ok (true, x.2) else b ρ x.2 := rfl
@[simp] theorem tNotD_ap (a : Et) (ρ : Rho) (π : Pot) : tNotD a ρ π = (a ρ π).bind fun x => .ok (!x.1, x.2) := rfl
@[simp] theorem eChain_ap (g g' : D → D → Option D) (a b c : Ed) (ρ : Rho) (π : Pot) : eChain g g' a b c ρ π = (a ρ π).bind fun x => (b ρ x.2).bind fun y => (ofO (g x.1 y.1)).bind fun z => match z with
  | .bl true => (c ρ y.2).bind fun u => (ofO (g' y.1 u.1)).bind fun q => .ok (q, u.2)
  | .bl false => .ok (.bl false, y.2)
  | _ => .stuck := rfl
@[simp] theorem iVal_ap (a : Ed) (ρ : Rho) (π : Pot) : iVal a ρ π = (a ρ π).bind fun x => (ofO (seqOf x.1)).bind fun z => .ok (z, x.2) := rfl
@[simp] theorem iEnumD_ap (a : Ea) (ρ : Rho) (π : Pot) : iEnumD a ρ π = (a ρ π).bind fun x => match x.1 with
  | [d] => (ofO (seqOf d)).bind fun z => .ok (numbered 0 z, x.2)
  | _ => .stuck := rfl
@[simp] theorem iRng_ap (a : Ea) (ρ : Rho) (π : Pot) : iRng a ρ π = (a ρ π).bind fun x => (ofO (rng x.1)).bind fun z => .ok (z, x.2) := rfl
@[simp] theorem iRngDown_ap (a : Ea) (ρ : Rho) (π : Pot) : iRngDown a ρ π = (a ρ π).bind fun x => (ofO (rngDown x.1)).bind fun z => .ok (z, x.2) := rfl
@[simp] theorem eLC_ap (fi : Ei) (fg : D → Rho → Option Rho) (ft : Et) (fe : Ed) (vs : List Nat) (ρ : Rho) (π : Pot) : eLC fi fg ft fe vs ρ π = (fi ρ π).bind fun x => if x.1.length < sizeLine then (lcGo fg ft fe (wipeD ρ vs) x.1 x.2).bind fun r => .ok (.lst r.1, r.2) else .stuck := rfl
@[simp] theorem tTrue_ap (ρ : Rho) (π : Pot) : tTrue  ρ π = .ok (true, π) := rfl
@[simp] theorem sNext_ap (ρ : Rho) (π : Pot) : sNext  ρ π = .ok (.nx ρ, π) := rfl
@[simp] theorem sSeq_ap (a b : Fs) (ρ : Rho) (π : Pot) : sSeq a b ρ π = (a ρ π).bind fun x => match x.1 with
  | .nx ρ1 => b ρ1 x.2
  | .bk ρ1 => .ok (.bk ρ1, x.2)
  | .ct ρ1 => .ok (.ct ρ1, x.2)
  | .rt d => .ok (.rt d, x.2) := rfl
@[simp] theorem sSet_ap (i : Nat) (fe : Ed) (ρ : Rho) (π : Pot) : sSet i fe ρ π = (fe ρ π).bind fun x => .ok (.nx (ρ.set i (some x.1)), x.2) := rfl
@[simp] theorem sPar_ap (i j : Nat) (fa fb : Ed) (ρ : Rho) (π : Pot) : sPar i j fa fb ρ π = (fa ρ π).bind fun x => (fb ρ x.2).bind fun y => .ok (.nx ((ρ.set i (some x.1)).set j (some y.1)), y.2) := rfl
@[simp] theorem sPar3_ap (i j l : Nat) (fa fb fc : Ed) (ρ : Rho) (π : Pot) : sPar3 i j l fa fb fc ρ π = (fa ρ π).bind fun x => (fb ρ x.2).bind fun y => (fc ρ y.2).bind fun z => .ok (.nx (((ρ.set i (some x.1)).set j (some y.1)).set l (some z.1)), z.2) := rfl
@[simp] theorem sUnp_ap (fe : Ed) (fg : D → Rho → Option Rho) (ρ : Rho) (π : Pot) : sUnp fe fg ρ π = (fe ρ π).bind fun x => (ofO (fg x.1 ρ)).bind fun ρ1 => .ok (.nx ρ1, x.2) := rfl
@[simp] theorem sExpr_ap (fe : Ed) (ρ : Rho) (π : Pot) : sExpr fe ρ π = (fe ρ π).bind fun x => .ok (.nx ρ, x.2) := rfl
@[simp] theorem sRet_ap (fe : Ed) (ρ : Rho) (π : Pot) : sRet fe ρ π = (fe ρ π).bind fun x => .ok (.rt x.1, x.2) := rfl
@[simp] theorem sRetN_ap (ρ : Rho) (π : Pot) : sRetN  ρ π = .ok (.rt .non, π) := rfl
@[simp] theorem sIf_ap (ft : Et) (a b : Fs) (ρ : Rho) (π : Pot) : sIf ft a b ρ π = (ft ρ π).bind fun x => if x.1 = true then a ρ x.2 else b ρ x.2 := rfl
@[simp] theorem sBreak_ap (ρ : Rho) (π : Pot) : sBreak  ρ π = .ok (.bk ρ, π) := rfl
@[simp] theorem sCont_ap (ρ : Rho) (π : Pot) : sCont  ρ π = .ok (.ct ρ, π) := rfl
@[simp] theorem sStuck_ap (ρ : Rho) (π : Pot) : sStuck  ρ π = .stuck := rfl
@[simp] theorem sFor_ap (fi : Ei) (fg : D → Rho → Option Rho) (fb : Fs) (ρ : Rho) (π : Pot) : sFor fi fg fb ρ π = (fi ρ π).bind fun x => forGo fg fb x.1 ρ x.2 := rfl
@[simp] theorem sAugIx_ap (i : Nat) (g : Int → Int → Int) (fk fe : Ed) (ρ : Rho) (π : Pot) : sAugIx i g fk fe ρ π = match ρ[i]? with
  | some (some (.lst ds)) => (fk ρ π).bind fun y => (ofO (intAt ds y.1)).bind fun a => (fe ρ y.2).bind fun x => match x.1 with
    | .int b => .ok (.nx (ρ.set i (some (.lst (ds.set a.1 (.int (g a.2 b)))))), x.2)
    | _ => .stuck
  | _ => .stuck := rfl
@[simp] theorem sAug_ap (i : Nat) (g : Int → Int → Int) (fe : Ed) (ρ : Rho) (π : Pot) : sAug i g fe ρ π = match ρ[i]? with
  | some (some (.int a)) => (fe ρ π).bind fun x => match x.1 with
    | .int b => .ok (.nx (ρ.set i (some (.int (g a b)))), x.2)
    | _ => .stuck
  | _ => .stuck := rfl
@[simp] theorem ePot0_ap (ρ : Rho) (π : Pot) : ePot0  ρ π = .ok (.int π.1, π) := rfl
@[simp] theorem ePot1_ap (ρ : Rho) (π : Pot) : ePot1  ρ π = .ok (.int π.2, π) := rfl
@[simp] theorem sPot1_ap (fe : Ed) (ρ : Rho) (π : Pot) : sPot1 fe ρ π = (fe ρ π).bind fun x => match x.1 with
  | .int n => .ok (.nx ρ, (x.2.1, n))
  | _ => .stuck := rfl
@[simp] theorem sPotDm_ap (j : Nat) (fe : Ed) (ρ : Rho) (π : Pot) : sPotDm j fe ρ π = (fe ρ π).bind fun x => match x.1 with
  | .int n => if divOk π.1 n then .ok (.nx (ρ.set j (some (.int (π.1 % n)))), (π.1 / n, x.2.2)) else .stuck
  | _ => .stuck := rfl
@[simp] theorem runD_ap (n : Nat) (r : Rm) (fs : Fs) (ds : List D) (π : Pot) : runD n r fs ds π = (fs (startD n ds) π).bind fun x => match x.1 with
  | .rt d => .ok (d, x.2)
  | .nx _ => if r = .f then .ok (.non, x.2) else .stuck
  | _ => .stuck := rfl
@[simp] theorem eGo_ap (m : Fd) (a : Ea) (ρ : Rho) (π : Pot) : eGo m a ρ π = (a ρ π).bind fun x => m x.1 x.2 := rfl
@[simp] theorem oNone_ap (ρ : Rho) (π : Pot) : oNone  ρ π = .ok (none, π) := rfl
@[simp] theorem oSome_ap (a : Ed) (ρ : Rho) (π : Pot) : oSome a ρ π = (a ρ π).bind fun x => match x.1 with
  | .int i => .ok (some i, x.2)
  | _ => .stuck := rfl
@[simp] theorem eSl_ap (a : Ed) (l u : Eo) (ρ : Rho) (π : Pot) : eSl a l u ρ π = (a ρ π).bind fun x => (l ρ x.2).bind fun y => (u ρ y.2).bind fun z => (ofO (fCut x.1 y.1 z.1)).bind fun w => .ok (w, z.2) := rfl
@[simp] theorem eSix_ap (i : Nat) (fb : Ed) (ρ : Rho) (π : Pot) : eSix i fb ρ π = (fb ρ π).bind fun y => match ρ[i]? with
  | some (some d) => (ofO (opIx d y.1)).bind fun z => .ok (z, y.2)
  | _ => .stuck := rfl
@[simp] theorem eGoPot_ap (m : Fd) (a : Ed) (ρ : Rho) (π : Pot) : eGoPot m a ρ π = (a ρ π).bind fun x => match x.1 with
  | .lst [.int u, .int v] => (safe (m [.non] (u, v))).bind fun y => .ok (y.1, x.2)
  | _ => .stuck := rfl
@[simp] theorem sApp_ap (i : Nat) (fe : Ed) (ρ : Rho) (π : Pot) : sApp i fe ρ π = match ρ[i]? with
  | some (some (.lst ds)) => (fe ρ π).bind fun x => (ofO (appD x.1 ds)).bind fun es => .ok (.nx (ρ.set i (some (.lst es))), x.2)
  | _ => .stuck := rfl
@[simp] theorem sExt_ap (i : Nat) (fe : Ed) (ρ : Rho) (π : Pot) : sExt i fe ρ π = match ρ[i]? with
  | some (some (.lst ds)) => (fe ρ π).bind fun x => (ofO (extD x.1 ds)).bind fun es => .ok (.nx (ρ.set i (some (.lst es))), x.2)
  | _ => .stuck := rfl
@[simp] theorem sSetIx_ap (i : Nat) (fe fk : Ed) (ρ : Rho) (π : Pot) : sSetIx i fe fk ρ π = match ρ[i]? with
  | some (some (.lst ds)) => (fe ρ π).bind fun y => (fk ρ y.2).bind fun x => (ofO (setD y.1 x.1 ds)).bind fun es => .ok (.nx (ρ.set i (some (.lst es))), x.2)
  | _ => .stuck := rfl
@[simp] theorem truth_non : truth .non = some false := rfl
@[simp] theorem truth_bl (b : Bool) : truth (.bl b) = some b := rfl
@[simp] theorem truth_int (i : Int) : truth (.int i) = some (i != 0) := rfl
@[simp] theorem truth_lst (xs : List D) : truth (.lst xs) = some (!xs.isEmpty) := rfl
@[simp] theorem truth_tup (xs : List D) : truth (.tup xs) = some (!xs.isEmpty) := rfl
@[simp] theorem cmpI_ap (p : Int → Int → Bool) (i j : Int) : cmpI p (.int i) (.int j) = some (.bl (p i j)) := rfl
@[simp] theorem opSub_ap (i j : Int) : opSub (.int i) (.int j) = some (.int (i - j)) := rfl
@[simp] theorem opNeg_ap (i : Int) : opNeg (.int i) = some (.int (-i)) := rfl
@[simp] theorem gN_ap (i : Nat) (d : D) (ρ : Rho) : gN i d ρ = some (ρ.set i (some d)) := rfl
@[simp] theorem gsNil_ap (ρ : Rho) : gsNil [] ρ = some ρ := rfl
@[simp] theorem gsCons_ap (a : D → Rho → Option Rho) (b : List D → Rho → Option Rho) (d : D) (r : List D) (ρ : Rho) : gsCons a b (d :: r) ρ = (a d ρ).bind (b r) := rfl
@[simp] theorem gT_ap (n : Nat) (b : List D → Rho → Option Rho) (ds : List D) (ρ : Rho) : gT n b (.tup ds) ρ = if ds.length = n then b ds ρ else none := rfl
@[simp] theorem fInt_ap (i : Int) : fInt [.int i] = some (.int i) := rfl
@[simp] theorem fAbs_ap (i : Int) : fAbs [.int i] = some (.int (if i < 0 then -i else i)) := rfl
@[simp] theorem fMax2_ap (i j : Int) : fMax2 [.int i, .int j] = some (.int (if j > i then j else i)) := rfl
@[simp] theorem fMin2_ap (i j : Int) : fMin2 [.int i, .int j] = some (.int (if j < i then j else i)) := rfl
@[simp] theorem fList_lst (xs : List D) : fList [.lst xs] = some (.lst xs) := rfl
@[simp] theorem fList_tup (xs : List D) : fList [.tup xs] = some (.lst xs) := rfl
@[simp] theorem fTuple_lst (xs : List D) : fTuple [.lst xs] = some (.tup xs) := rfl
@[simp] theorem fTuple_tup (xs : List D) : fTuple [.tup xs] = some (.tup xs) := rfl
@[simp] theorem isNonD_ap (d : D) : opIsN d .non = some (.bl (isNonD d)) := rfl
@[simp] theorem notNonD_ap (d : D) : opNotN d .non = some (.bl (!isNonD d)) := rfl
@[simp] theorem isNonD_non : isNonD .non = true := rfl
@[simp] theorem isNonD_int (i : Int) : isNonD (.int i) = false := rfl
@[simp] theorem isNonD_bl (i : Bool) : isNonD (.bl i) = false := rfl
@[simp] theorem isNonD_str (i : Str) : isNonD (.str i) = false := rfl
@[simp] theorem isNonD_lst (i : List D) : isNonD (.lst i) = false := rfl
@[simp] theorem isNonD_tup (i : List D) : isNonD (.tup i) = false := rfl
@[simp] theorem opNotB_ap (a b : Bool) : opNotB (.bl a) (.bl b) = some (.bl (!decide (a = b))) := rfl
@[simp] theorem isTyB_ap (a b : String) : isTyB a b = (a == b || (a == "bool" && b == "int")) := rfl
@[simp] theorem fIs_non (ns : List String) : fIs ns .non = some (.bl (ns.any fun b => isTyB "NoneType" b)) := rfl
@[simp] theorem fIs_bl (ns : List String) (i : Bool) : fIs ns (.bl i) = some (.bl (ns.any fun b => isTyB "bool" b)) := rfl
@[simp] theorem fIs_int (ns : List String) (i : Int) : fIs ns (.int i) = some (.bl (ns.any fun b => isTyB "int" b)) := rfl
@[simp] theorem fIs_str (ns : List String) (i : Str) : fIs ns (.str i) = some (.bl (ns.any fun b => isTyB "str" b)) := rfl
@[simp] theorem fIs_lst (ns : List String) (i : List D) : fIs ns (.lst i) = some (.bl (ns.any fun b => isTyB "list" b)) := rfl
@[simp] theorem fIs_tup (ns : List String) (i : List D) : fIs ns (.tup i) = some (.bl (ns.any fun b => isTyB "tuple" b)) := rfl
@[simp] theorem fIs_dic (ns : List String) (a : List DKey) (i : List D) : fIs ns (.dic a i) = some (.bl (ns.any fun b => isTyB "dict" b)) := rfl
@[simp] theorem seqOf_lst (xs : List D) : seqOf (.lst xs) = some xs := rfl
@[simp] theorem seqOf_tup (xs : List D) : seqOf (.tup xs) = some xs := rfl
@[simp] theorem wipeD_nil (ρ : Rho) : wipeD ρ [] = ρ := rfl
@[simp] theorem wipeD_cons (ρ : Rho) (v : Nat) (vs : List Nat) : wipeD ρ (v :: vs) = (wipeD ρ vs).set v none := rfl
@[simp] theorem startD_ap (n : Nat) (ds : List D) : startD n ds = ds.map some ++ List.replicate (n - ds.length) none := rfl
@[simp] theorem opAdd_int (i j : Int) : opAdd (.int i) (.int j) = some (.int (i + j)) := rfl
@[simp] theorem sl_ok {n : Nat} (h : n ≤ 16777216) : (n ≤ sizeLine) = True := by
  rw [sizeLine_eq]
  exact eq_true h
@[simp] theorem sl_lt {n : Nat} (h : n < 16777216) : (n < sizeLine) = True := by
  rw [sizeLine_eq]
  exact eq_true h
@[simp] theorem fLen_lst (xs : List D) : fLen [.lst xs] = some (.int xs.length) := rfl
@[simp] theorem fLen_tup (xs : List D) : fLen [.tup xs] = some (.int xs.length) := rfl
@[simp] theorem fSum_iz (ns : List Int) : fSum [.lst (ns.map D.int)] = some (.int ns.sum) := by simp [fSum, onInts]
@[simp] theorem fSortI_iz (ns : List Int) : fSortI [.lst (ns.map D.int)] = some (.lst ((sortI ns).map D.int)) := by simp [fSortI, onInts]
@[simp] theorem fAll_bl {α : Type} (xs : List α) (p : α → Bool) : fAll [.lst (xs.map fun x => .bl (p x))] = some (.bl (xs.all p)) := by
  have e : (xs.map fun x => D.bl (p x)) = (xs.map p).map D.bl := by simp
  rw [e]
  show (asBls ((xs.map p).map D.bl)).map (fun bs => D.bl (bs.all id)) = _
  rw [asBls_bl]
  simp
theorem rng_1 {j : Int} (h : -1000000000000 ≤ j) (h2 : j ≤ 1000000000000) : rng [.int j] = some ((List.range j.toNat).map fun (i : Nat) => .int (i : Int)) := by
  have : mid62 j = true := by
    unfold mid62
    exact decide_eq_true (by omega)
  simp [rng, this, rangeD]
theorem fRg2_ok {i j : Int} (h : -1000000 ≤ i) (h2 : i ≤ 1000000) (h3 : -1000000 ≤ j) (h4 : j ≤ 1000000) : fRg2 (.int i) (.int j) = some (.lst ((List.range (j - i).toNat).map fun (t : Nat) => .int (i + (t : Int)))) := by
  have : rgOk i j = true := by
    unfold rgOk
    exact decide_eq_true (by omega)
  simp [fRg2, this, rgD]
theorem atI_in {α : Type} {xs : List α} {i : Int} {v : α} (h : 0 ≤ i) (e : xs[i.toNat]? = some v) : L2.atI xs i = some v := by
  have := L2.atI_nat (xs := xs) (j := i.toNat) e
  rwa [Int.toNat_of_nonneg h] at this
theorem opIx_iz {ns : List Int} {i v : Int} (h : 0 ≤ i) (e : ns[i.toNat]? = some v) : opIx (.lst (ns.map D.int)) (.int i) = some (.int v) := by
  show L2.atI (ns.map D.int) i = _
  exact atI_in h (by rw [List.getElem?_map, e]; rfl)
/-- the last one -/
theorem opIx_last {xs : List D} {x : D} : opIx (.lst (xs ++ [x])) (.int (-1)) = some x := by
  show L2.atI (xs ++ [x]) (-1) = _
  unfold L2.atI L2.ixN
  have e : ((-1 : Int) + ((xs ++ [x]).length : Nat)).toNat = xs.length := by
    rw [List.length_append, List.length_singleton]
    omega
  rw [if_neg (by omega), if_pos (by rw [List.length_append, List.length_singleton]; omega), e]
  simp
theorem appD_ok {d : D} {xs : List D} (h : xs.length < 16777216) : appD d xs = some (xs ++ [d]) := by
  simp [appD, sizeLine_eq, h]
@[simp] theorem fRev_iz (ns : List Int) : fRev (.lst (ns.map D.int)) = some (.lst (ns.reverse.map D.int)) := by
  simp [fRev]
@[simp] theorem opEq_nil : opEq (.lst []) (.lst []) = some (.bl true) := rfl
@[simp] theorem opNe_nil : opNe (.lst []) (.lst []) = some (.bl false) := rfl
@[simp] theorem opEq_str (x y : Str) : opEq (.str x) (.str y) = some (.bl (decide (x = y))) := rfl
@[simp] theorem opNe_str (x y : Str) : opNe (.str x) (.str y) = some (.bl (!decide (x = y))) := rfl
@[simp] theorem opEq_int (x y : Int) : opEq (.int x) (.int y) = some (.bl (decide (x = y))) := rfl
@[simp] theorem opNe_int (x y : Int) : opNe (.int x) (.int y) = some (.bl (!decide (x = y))) := rfl
@[simp] theorem opEq_bl (x y : Bool) : opEq (.bl x) (.bl y) = some (.bl (decide (x = y))) := by cases x <;> cases y <;> rfl
@[simp] theorem opNe_bl (x y : Bool) : opNe (.bl x) (.bl y) = some (.bl (!decide (x = y))) := by cases x <;> cases y <;> rfl
/-- lists of ints -/
theorem eqv_ints : ∀ (xs ys : List Int), PyData.eqvAll (xs.map PyData.int) (ys.map PyData.int) = decide (xs = ys)
  | [], [] => rfl
  | [], y :: ys => by simp [PyData.eqvAll]
  | x :: xs, [] => by simp [PyData.eqvAll]
  | x :: xs, y :: ys => by
    simp only [List.map_cons, PyData.eqvAll, PyData.eqv, eqv_ints xs ys, List.cons.injEq]
    by_cases e : x = y <;> by_cases f : xs = ys <;> simp [e, f]
theorem toPyL_iz : ∀ (ns : List Int), toPyL (ns.map D.int) = some (ns.map PyData.int)
  | [] => rfl
  | n :: ns => by
    show (match some (PyData.int n), toPyL (ns.map D.int) with | some p, some ps => some (p :: ps) | _, _ => none) = _
    rw [toPyL_iz ns]
    rfl
theorem shaped_iz (ns : List Int) : SeqAt.shaped (.list (ns.map PyData.int)) = true := by
  have h1 : PyData.canLayAll0 (ns.map PyData.int) = true := by
    induction ns with
    | nil => rfl
    | cons n ns ih => simpa [PyData.canLayAll0, PyData.canLay0] using ih
  have h2 : PyData.depthAll (ns.map PyData.int) = 0 := by
    induction ns with
    | nil => rfl
    | cons n ns ih =>
      simp only [List.map_cons, PyData.depthAll, PyData.depth, ih (by simpa [PyData.canLayAll0, PyData.canLay0] using h1)]
      rfl
  simp [SeqAt.shaped, PyData.canLay0, h1, PyData.depth, h2]
theorem eqD_iz (xs ys : List Int) : eqD (.lst (xs.map D.int)) (.lst (ys.map D.int)) = some (decide (xs = ys)) := by
  show eqP _ _ = _
  unfold eqP
  simp only [toPy, toPyL_iz, Option.map_some, shaped_iz, Bool.and_self, if_true, PyData.eqv, eqv_ints]
@[simp] theorem opEq_iz (xs ys : List Int) : opEq (.lst (xs.map D.int)) (.lst (ys.map D.int)) = some (.bl (decide (xs = ys))) := by simp [opEq, eqD_iz]
@[simp] theorem opNe_iz (xs ys : List Int) : opNe (.lst (xs.map D.int)) (.lst (ys.map D.int)) = some (.bl (!decide (xs = ys))) := by simp [opNe, eqD_iz]
end DL
set_option maxHeartbeats 2000000
namespace LW
open PySem PySem.Spec PyProof.Rows L2 DL
theorem draw_ex {n : Int} {a : D} (π : Pot) (h : 0 < n) (h2 : n < 1073741824) : ∃ v π', m_l_draw [a, .int n] π = .ok (.int v, π') ∧ 0 ≤ v ∧ v < n := by
  obtain ⟨u, v⟩ := π
  by_cases hu : 0 < u
  · refine ⟨u % n, (u / n, v), ?_, Int.emod_nonneg _ (by omega), Int.emod_lt_of_pos _ h⟩
    unfold m_l_draw f_l_draw
    simp [divOk_small h h2, hu]
  · obtain ⟨s, hs⟩ : ∃ s, s = (v * 39373 + 7043) % 2147483587 := ⟨_, rfl⟩
    have q : 0 ≤ s ∧ s < 2147483587 := by
      rw [hs]
      exact ⟨Int.emod_nonneg _ (by decide), Int.emod_lt_of_pos _ (by decide)⟩
    have q1 : opMulA (.int s) (.int s) = some (.int (s * s)) := opMulA_l (by omega) (by omega)
    refine ⟨(s * s % 2147483563 / 17) % n, (u, s), ?_, Int.emod_nonneg _ (by omega), Int.emod_lt_of_pos _ h⟩
    unfold m_l_draw f_l_draw
    simp [opMulA_r, opMod_s, opFdivW_s, h, hu, ← hs, q1]
theorem pot_eq (ns : List Int) (k : Nat) (hl : ns.length ≤ 63) (hk : k ≤ 100) (π : Pot) : ∃ u v : Int, m_l_pot [.lst (ns.map D.int), .int (k : Int)] π = .ok (.lst [.int u, .int v], π) := by
  have m1 : opMulA (.int 331) (.int (k : Int)) = some (.int (331 * (k : Int))) := opMulA_l (by decide) (by decide)
  have m2 : opMulA (.int 7043) (.int (k : Int)) = some (.int (7043 * (k : Int))) := opMulA_l (by decide) (by decide)
  have po : opPow (.int 10) (.int 18) = some (.int 1000000000000000000) := by rfl
  have lL : (ns.map D.int).length = ns.length := List.length_map _
  have key : ∀ cell : Int, ∃ u v : Int, (eLst (aCons (eApp fMax2 (aCons (eC (.int 0)) (aCons (eBin opSub (eVar 2) (eBin opPow (eC (.int 10)) (eC (.int 18)))) aNil))) (aCons (eBin opAdd (eBin opMod (eApp fInt (aCons (eBin opAdd (eBin opAdd (eBin opMulA (eBin opMod (eApp fInt (aCons (eVar 2) aNil)) (eC (.int 2147483549))) (eC (.int 40014))) (eBin opMulA (eC (.int 7043)) (eVar 1))) (eC (.int 31))) aNil)) (eC (.int 2147483563))) (eC (.int 1))) aNil))) [some (.lst (ns.map D.int)), some (.int (k : Int)), some (.int cell)] π = .ok (.lst [.int u, .int v], π) := fun cell => by
    refine ⟨if cell - 1000000000000000000 > 0 then cell - 1000000000000000000 else 0, (cell % 2147483549 * 40014 + 7043 * (k : Int) + 31) % 2147483563 + 1, ?_⟩
    simp -implicitDefEqProofs [po, m2, opMod_s, opMulA_r]
  by_cases h : k < ns.length
  · have ix := opIx_iz (ns := ns) (i := (k : Int)) (by omega) (List.getElem?_eq_getElem (show (k : Int).toNat < ns.length by omega))
    obtain ⟨x, ex⟩ : ∃ x, x = ns[(k : Int).toNat]'(by omega) := ⟨_, rfl⟩
    rw [← ex] at ix
    obtain ⟨u, v, e⟩ := key (if x < 0 then -x else x)
    refine ⟨u, v, ?_⟩
    obtain ⟨L, hL⟩ : ∃ L, L = ns.map D.int := ⟨_, rfl⟩
    rw [← hL] at ix e lL
    rw [← hL]
    unfold m_l_pot f_l_pot
    simp -implicitDefEqProofs [-eLst_ap, m1, lL, h, ix, e]
  · obtain ⟨u, v, e⟩ := key (331 * k + 79)
    refine ⟨u, v, ?_⟩
    obtain ⟨L, hL⟩ : ∃ L, L = ns.map D.int := ⟨_, rfl⟩
    rw [← hL] at e lL
    rw [← hL]
    unfold m_l_pot f_l_pot
    simp -implicitDefEqProofs [-eLst_ap, m1, lL, h, e]
/-- the one turn is right: so is the law -/
theorem good_of (h : ∀ π, ∃ π', m_l_right [.non] π = .ok (.bl true, π')) : ∀ ns : List Int, ns.length ≤ 63 → ∃ π, m_law_ [.lst (DL.iz ns)] (0, 0) = .ok (.bl true, π) := by
  intro ns hl
  obtain ⟨u, v, e⟩ := pot_eq ns 0 hl (by first | rfl | omega) (0, 0)
  obtain ⟨π2, e2⟩ := h (u, v)
  refine ⟨(0, 0), ?_⟩
  have e' : m_l_pot [.lst (ns.map D.int), .int 0] (0, 0) = .ok (.lst [.int u, .int v], (0, 0)) := e
  unfold m_law_ f_law_
  simp -implicitDefEqProofs [e', e2]
end LW
set_option maxHeartbeats 4000000
namespace LW
open PySem PySem.Spec PyProof.Rows L2 DL
abbrev nD (n : Nat) : D := .int (n : Int)
def zn (ns : List Nat) : List Int := ns.map fun (n : Nat) => (n : Int)
def iL (ns : List Int) : D := .lst (ns.map D.int)
def rD (ns : List Nat) : D := iL (zn ns)
theorem rD_eq (ns : List Nat) : rD ns = .lst (ns.map nD) := by
  unfold rD iL zn
  rw [List.map_map]
  rfl
def downN (j : Nat) : List Nat := (List.range j).map fun i => j - i
def partsF : Nat → Nat → Nat → List (List Nat)
  | 0, _, _ => []
  | k + 1, n, m => if n = 0 then [[]] else (downN (min n m)).flatMap fun f => (partsF k (n - f) (f - 1)).map (f :: ·)
theorem downN_mem {j f : Nat} (h : f ∈ downN j) : 1 ≤ f ∧ f ≤ j := by
  obtain ⟨i, hi, rfl⟩ := List.mem_map.mp h
  have := List.mem_range.mp hi
  omega
theorem down_len (g : Nat → List (List Nat)) : ∀ j, (∀ f, 1 ≤ f → f ≤ j → (g f).length ≤ 2 ^ (f - 1)) → ((downN j).flatMap g).length + 1 ≤ 2 ^ j
  | 0, _ => by simp [downN]
  | j + 1, h => by
    have ih := down_len g j fun f h1 h2 => h f h1 (by omega)
    have e : downN (j + 1) = (j + 1) :: downN j := by
      unfold downN
      rw [List.range_succ_eq_map, List.map_cons, List.map_map]
      simp [Function.comp_def]
    have h0 := h (j + 1) (by omega) (by omega)
    rw [e, List.flatMap_cons, List.length_append, Nat.pow_succ]
    simp only [Nat.add_sub_cancel] at h0
    omega
theorem parts_len : ∀ (k n m : Nat), (partsF k n m).length ≤ 2 ^ m
  | 0, n, m => by simp [partsF]
  | k + 1, n, m => by
    unfold partsF
    split
    · exact Nat.one_le_two_pow
    · have := down_len (fun f => (partsF k (n - f) (f - 1)).map (f :: ·)) (min n m) fun f h1 h2 => by
        rw [List.length_map]
        exact parts_len k _ _
      have h2 : 2 ^ min n m ≤ 2 ^ m := Nat.pow_le_pow_right (by decide) (Nat.min_le_right _ _)
      omega
theorem parts_wide : ∀ (k n m : Nat), ∀ x ∈ partsF k n m, x.length ≤ k
  | 0, n, m, x, h => by simp [partsF] at h
  | k + 1, n, m, x, h => by
    unfold partsF at h
    split at h
    · rw [List.mem_singleton.mp h]
      simp
    · obtain ⟨f, _, hx⟩ := List.mem_flatMap.mp h
      obtain ⟨r, hr, rfl⟩ := List.mem_map.mp hx
      have := parts_wide k _ _ r hr
      simp only [List.length_cons]
      omega
def bodyPe : Ed := (eBin opAdd (eLst (aCons (eVar 3) aNil)) (eVar 4))
def bodyPb (g : Fd) : Fs := (sExt 2 (eLC (iVal (eGo g (aCons (eBin opSub (eVar 0) (eVar 3)) (aCons (eBin opSub (eVar 3) (eC (.int 1))) aNil)))) (gN 4) tTrue bodyPe [4]))
def bodyP (g : Fd) : Fs := (sSeq (sIf (tBl (eBin opEq (eVar 0) (eC (.int 0)))) (sRet (eLst (aCons (eLst aNil) aNil))) sNext) (sSeq (sSet 2 (eLst aNil)) (sSeq (sFor (iRngDown (aCons (eApp fMin2 (aCons (eVar 0) (aCons (eVar 1)
    aNil))) (aCons (eC (.int 0)) (aCons (eUn opNeg (eC (.int 1))) aNil)))) (gN 3) (bodyPb g)) (sRet (eVar 2)))))
def PartsOk (g : Fd) (k : Nat) : Prop := ∀ (n m : Nat) (π : Pot), m < k → n ≤ 24 → g [nD n, nD m] π = .ok (.lst ((partsF k n m).map rD), π)
theorem parts_loop {g : Fd} {k : Nat} (G : PartsOk g k) (n m : Nat) (hn : n ≤ 24) (hm : m ≤ k) (hk : k ≤ 20) (h16 : m ≤ 16) (π : Pot) : ∀ (l : List Nat) (acc : List (List Nat)) (o3 o4 : Option D), (∀ f ∈ l, 1 ≤ f ∧ f ≤ n ∧ f ≤ m) →
    acc.length + (l.flatMap fun f => (partsF k (n - f) (f - 1)).map (f :: ·)).length ≤ 100000 →
    ∃ x3 x4, forGo (gN 3) (bodyPb g) (l.map nD) [some (nD n), some (nD m), some (.lst (acc.map rD)), o3, o4] π =
      .ok (.nx [some (nD n), some (nD m), some (.lst ((acc ++ l.flatMap fun f => (partsF k (n - f) (f - 1)).map (f :: ·)).map rD)), x3, x4], π)
  | [], acc, o3, o4, _, _ => ⟨o3, o4, by simp [forGo]⟩
  | f :: l, acc, o3, o4, h, hl => by
    obtain ⟨h1, h2, h3⟩ := h f (List.mem_cons_self ..)
    rw [List.flatMap_cons, List.length_append] at hl
    have e := G (n - f) (f - 1) π (by omega) (by omega)
    have i1 : ((n - f : Nat) : Int) = (n : Int) - (f : Int) := by omega
    have i2 : ((f - 1 : Nat) : Int) = (f : Int) - 1 := by omega
    have e' : g [.int ((n : Int) - (f : Int)), .int ((f : Int) - 1)] π = .ok (.lst ((partsF k (n - f) (f - 1)).map rD), π) := by
      rw [← i1, ← i2]
      exact e
    have hlen : ((partsF k (n - f) (f - 1)).map rD).length < 16777216 := by
      rw [List.length_map] at hl ⊢
      omega
    have lc : lcGo (gN 4) tTrue bodyPe [some (nD n), some (nD m), some (.lst (acc.map rD)), some (nD f), none] ((partsF k (n - f) (f - 1)).map rD) π = .ok ((partsF k (n - f) (f - 1)).map fun r => rD (f :: r), π) :=
      lcGo_map (ρ1 := fun r => [some (nD n), some (nD m), some (.lst (acc.map rD)), some (nD f), some (rD r)]) (fun x hx => by simp) fun x hx => by
        have hx9 : 1 + x.length ≤ 16777216 := by
          have := parts_wide k _ _ x hx
          omega
        simp -implicitDefEqProofs [bodyPe, rD_eq, opAdd, hx9]
    obtain ⟨x3, x4, ih⟩ := parts_loop G n m hn hm hk h16 π l (acc ++ (partsF k (n - f) (f - 1)).map (f :: ·)) (some (nD f)) o4 (fun y hy => h y (List.mem_cons_of_mem _ hy)) (by
      rw [List.length_append]
      omega)
    refine ⟨x3, x4, ?_⟩
    obtain ⟨P, hP⟩ : ∃ P, P = partsF k (n - f) (f - 1) := ⟨_, rfl⟩
    rw [← hP] at e' hlen lc hl
    obtain ⟨L, hL⟩ : ∃ L, L = P.map rD := ⟨_, rfl⟩
    rw [← hL] at e' hlen lc
    have hb : bodyPb g [some (nD n), some (nD m), some (.lst (acc.map rD)), some (nD f), o4] π = .ok (.nx [some (nD n), some (nD m), some (.lst ((acc ++ P.map (f :: ·)).map rD)), some (nD f), o4], π) := by
      have h6 : acc.length + P.length ≤ 16777216 := by
        rw [List.length_map] at hl
        omega
      have em : P.map (fun r => rD (f :: r)) = (P.map (f :: ·)).map rD := by
        rw [List.map_map]
        rfl
      rw [List.map_append, ← em]
      unfold bodyPb
      simp -implicitDefEqProofs [e', hlen, lc, wipeD, extD, h6]
    rw [List.map_cons]
    simp only [forGo]
    have hg : gN 3 (nD f) [some (nD n), some (nD m), some (.lst (acc.map rD)), o3, o4] = some [some (nD n), some (nD m), some (.lst (acc.map rD)), some (nD f), o4] := rfl
    rw [hg]
    simp only [ofO, Res.bind, hb]
    rw [← hP] at ih
    rw [ih, List.flatMap_cons, ← hP, List.append_assoc]
theorem rng_down {j : Nat} (h : j ≤ 1000) : rngDown [.int (j : Int), .int 0, .int (-1)] = some ((downN j).map nD) := by
  have m1 : mid62 (j : Int) = true := by
    unfold mid62
    rw [decide_eq_true_eq]
    omega
  have m2 : mid62 0 = true := by decide
  have e : ((j : Int) - 0).toNat = j := by omega
  unfold rngDown
  simp only [m1, m2, e, Bool.and_self, decide_true, if_true]
  unfold rangeD downN
  rw [List.map_map]
  refine congrArg some (List.map_congr_left fun i hi => ?_)
  have := List.mem_range.mp hi
  show D.int ((j : Int) + (i : Int) * (-1)) = nD (j - i)
  have : (j : Int) + (i : Int) * (-1) = ((j - i : Nat) : Int) := by omega
  rw [this]
theorem parts_step {g : Fd} {k : Nat} (G : PartsOk g k) (hk : k ≤ 15) : PartsOk (runD 5 .o (bodyP g)) (k + 1) := by
  intro n m π hm hn
  have hlen := parts_len (k + 1) n m
  have h2 : 2 ^ m ≤ 2 ^ 15 := Nat.pow_le_pow_right (by decide) (by omega)
  by_cases q : n = 0
  · subst q
    have e : partsF (k + 1) 0 m = [[]] := by simp [partsF]
    rw [e]
    refine runD_ok ?_
    unfold bodyP
    simp -implicitDefEqProofs [startD]
    rfl
  · have e : partsF (k + 1) n m = (downN (min n m)).flatMap fun f => (partsF k (n - f) (f - 1)).map (f :: ·) := by
      rw [partsF, if_neg q]
    rw [e] at hlen ⊢
    obtain ⟨x3, x4, lp⟩ := parts_loop G n m hn (by omega) (by omega) (by omega) π (downN (min n m)) [] none none (fun f hf => by
      have := downN_mem hf
      omega) (by
      simp only [List.length_nil, Nat.zero_add]
      have h3 : (2 : Nat) ^ 15 ≤ 100000 := by decide
      omega)
    rw [List.nil_append] at lp
    have hr : rngDown [.int (if m < n then (m : Int) else (n : Int)), .int 0, .int (-1)] = some ((downN (min n m)).map nD) := by
      have e2 : (if m < n then (m : Int) else (n : Int)) = ((min n m : Nat) : Int) := by
        split <;> omega
      rw [e2]
      exact rng_down (by omega)
    refine runD_ok ?_
    unfold bodyP
    have q' : ¬ ((n : Int) = 0) := by omega
    obtain ⟨R, hR⟩ : ∃ R, R = (downN (min n m)).map nD := ⟨_, rfl⟩
    rw [← hR] at hr lp
    simp -implicitDefEqProofs [startD, q, q', fMin2, opNeg]
    rw [hr]
    simp only [ofO, Res.bind]
    rw [List.map_nil] at lp
    rw [lp]
    rfl
theorem parts0 : PartsOk m_p_parts_of_0 0 := fun n m π h => absurd h (Nat.not_lt_zero _)
theorem parts1 : PartsOk m_p_parts_of_1 1 := parts_step (g := m_p_parts_of_0) parts0 (by decide)
theorem parts2 : PartsOk m_p_parts_of_2 2 := parts_step (g := m_p_parts_of_1) parts1 (by decide)
theorem parts3 : PartsOk m_p_parts_of_3 3 := parts_step (g := m_p_parts_of_2) parts2 (by decide)
theorem parts4 : PartsOk m_p_parts_of_4 4 := parts_step (g := m_p_parts_of_3) parts3 (by decide)
theorem parts5 : PartsOk m_p_parts_of_5 5 := parts_step (g := m_p_parts_of_4) parts4 (by decide)
theorem parts6 : PartsOk m_p_parts_of_6 6 := parts_step (g := m_p_parts_of_5) parts5 (by decide)
theorem parts7 : PartsOk m_p_parts_of_7 7 := parts_step (g := m_p_parts_of_6) parts6 (by decide)
theorem parts8 : PartsOk m_p_parts_of_8 8 := parts_step (g := m_p_parts_of_7) parts7 (by decide)
theorem parts9 : PartsOk m_p_parts_of_9 9 := parts_step (g := m_p_parts_of_8) parts8 (by decide)
theorem parts10 : PartsOk m_p_parts_of_10 10 := parts_step (g := m_p_parts_of_9) parts9 (by decide)
theorem parts11 : PartsOk m_p_parts_of_11 11 := parts_step (g := m_p_parts_of_10) parts10 (by decide)
theorem parts_eq (n : Nat) (hn : n ≤ 24) (m : Nat) (hm : m ≤ 10) (π : Pot) : m_p_parts_of_11 [nD n, nD m] π = .ok (.lst ((partsF 11 n m).map rD), π) := parts11 n m π (by omega) hn
end LW
set_option maxHeartbeats 4000000
namespace LW
open PySem PySem.Spec PyProof.Rows L2 DL
def placesN (lo k : Nat) : List Nat := (List.range k).map (lo + ·)
def bumpN (xs : List Nat) : List Nat → List Nat
  | [] => xs
  | p :: ps => bumpN (xs.set p (xs.getD p 0 + 1)) ps
def rowGoN (xs : List Nat) (j : Nat) : List Nat → List Nat
  | [] => xs
  | z :: r => rowGoN (bumpN xs (placesN j z)) (j + 1) r
def rowOfN (s : List Nat) : List Nat := rowGoN (List.replicate (s.headD 0) 0) 0 s
theorem bumpN_len : ∀ (ps xs : List Nat), (bumpN xs ps).length = xs.length
  | [], xs => rfl
  | p :: ps, xs => by
    unfold bumpN
    rw [bumpN_len ps, List.length_set]
theorem rng_nn {lo k : Nat} (h1 : lo ≤ 1000) (h2 : k ≤ 1000) : rng [.int (lo : Int), .int ((lo : Int) + (k : Int))] = some ((placesN lo k).map nD) := by
  have m1 : mid62 (lo : Int) = true := by
    unfold mid62
    rw [decide_eq_true_eq]
    omega
  have m2 : mid62 ((lo : Int) + (k : Int)) = true := by
    unfold mid62
    rw [decide_eq_true_eq]
    omega
  have e : ((lo : Int) + (k : Int) - (lo : Int)).toNat = k := by omega
  unfold rng
  simp only [m1, m2, e, Bool.and_self, if_true]
  unfold rangeD placesN
  rw [List.map_map]
  refine congrArg some (List.map_congr_left fun i hi => ?_)
  show D.int ((lo : Int) + (i : Int) * 1) = nD (lo + i)
  have : (lo : Int) + (i : Int) * 1 = ((lo + i : Nat) : Int) := by omega
  rw [this]
theorem intAt_nat {L : List D} {p a : Nat} (h : L[p]? = some (nD a)) (h2 : p ≤ 1000) : DL.intAt L (nD p) = some (p, (a : Int)) := by
  have i1 : (0 : Int) ≤ (p : Int) ∧ (p : Int) < 4611686018427387904 := by omega
  unfold DL.intAt
  show (if (0 : Int) ≤ (p : Int) ∧ (p : Int) < 4611686018427387904 then _ else _) = _
  rw [if_pos i1, Int.toNat_natCast, h]
theorem bump_step {A o2 o3 : Option D} {π : Pot} {L : List D} {p a : Nat} (h : L[p]? = some (nD a)) (h2 : p ≤ 1000) : f_p_row_of_b1 [A, some (.lst L), o2, o3, some (nD p)] π = .ok (.nx [A, some (.lst (L.set p (nD (a + 1)))), o2, o3, some (nD p)], π) := by
  have e := intAt_nat h h2
  obtain ⟨P, hP⟩ : ∃ P, P = nD p := ⟨_, rfl⟩
  have e1 : nD (a + 1) = .int ((a : Int) + 1) := by simp [nD]
  rw [← hP] at e ⊢
  rw [e1, f_p_row_of_b1_ap]
  unfold sAugIx
  simp -implicitDefEqProofs [e]
theorem bump_loop (A : Option D) (o2 o3 : Option D) (π : Pot) : ∀ (ps xs : List Nat) (o4 : Option D), (∀ p ∈ ps, p < xs.length ∧ p ≤ 1000) →
    ∃ x4, forGo (gN 4) f_p_row_of_b1 (ps.map nD) [A, some (.lst (xs.map nD)), o2, o3, o4] π = .ok (.nx [A, some (.lst ((bumpN xs ps).map nD)), o2, o3, x4], π) := by
  intro ps
  induction ps with
  | nil => intro xs o4 _; exact ⟨o4, rfl⟩
  | cons p ps ih =>
    intro xs o4 h
    obtain ⟨h1, h2⟩ := h p (List.mem_cons_self ..)
    obtain ⟨x4, ih⟩ := ih (xs.set p (xs.getD p 0 + 1)) (some (nD p)) (fun q hq => by
      rw [List.length_set]
      exact h q (List.mem_cons_of_mem _ hq))
    refine ⟨x4, ?_⟩
    have e1 : (xs.map nD)[p]? = some (nD (xs.getD p 0)) := by
      rw [List.getElem?_map, List.getElem?_eq_getElem h1]
      simp [List.getD_eq_getElem?_getD, h1]
    have eb := bump_step (A := A) (o2 := o2) (o3 := o3) (π := π) e1 h2
    rw [← List.map_set] at eb
    obtain ⟨P, hP⟩ : ∃ P, P = nD p := ⟨_, rfl⟩
    obtain ⟨L, hL⟩ : ∃ L, L = xs.map nD := ⟨_, rfl⟩
    rw [List.map_cons]
    rw [← hP] at eb ih ⊢
    rw [← hL] at eb ⊢
    simp only [forGo]
    have hg : gN 4 P [A, some (.lst L), o2, o3, o4] = some [A, some (.lst L), o2, o3, some P] := rfl
    rw [hg]
    simp only [ofO, Res.bind, eb]
    exact ih
def FitN (L j : Nat) : List Nat → Prop
  | [] => True
  | z :: r => j + z ≤ L ∧ FitN L (j + 1) r
theorem row_step {A : Option D} {π : Pot} {xs : List Nat} {j z : Nat} {o4 : Option D} (hj : j ≤ 500) (hz : j + z ≤ xs.length) (hx : xs.length ≤ 500) :
    ∃ x4, f_p_row_of_b2 [A, some (.lst (xs.map nD)), some (nD j), some (nD z), o4] π = .ok (.nx [A, some (.lst ((bumpN xs (placesN j z)).map nD)), some (nD j), some (nD z), x4], π) := by
  obtain ⟨x4, e1⟩ := bump_loop A (some (nD j)) (some (nD z)) π (placesN j z) xs o4 (fun p hp => by
    obtain ⟨i, hi, rfl⟩ := List.mem_map.mp hp
    have := List.mem_range.mp hi
    omega)
  refine ⟨x4, ?_⟩
  have er := rng_nn (lo := j) (k := z) (by omega) (by omega)
  obtain ⟨R, hR⟩ : ∃ R, R = (placesN j z).map nD := ⟨_, rfl⟩
  obtain ⟨L, hL⟩ : ∃ L, L = xs.map nD := ⟨_, rfl⟩
  rw [← hR] at er e1
  rw [← hL] at e1 ⊢
  rw [f_p_row_of_b2_ap, ← e1]
  simp -implicitDefEqProofs [er]
theorem rowgo_loop (A : Option D) (π : Pot) : ∀ (s xs : List Nat) (j : Nat) (o2 o3 o4 : Option D), xs.length ≤ 500 → FitN xs.length j s → j + s.length ≤ 500 →
    ∃ x2 x3 x4, forGo (gT 2 (gsCons (gN 2) (gsCons (gN 3) gsNil))) f_p_row_of_b2 (DL.numbered j (s.map nD)) [A, some (.lst (xs.map nD)), o2, o3, o4] π = .ok (.nx [A, some (.lst ((rowGoN xs j s).map nD)), x2, x3, x4], π) := by
  intro s
  induction s with
  | nil => intro xs j o2 o3 o4 _ _ _; exact ⟨o2, o3, o4, rfl⟩
  | cons z s ih =>
    intro xs j o2 o3 o4 hx hf hj
    obtain ⟨h1, h2⟩ := hf
    rw [List.length_cons] at hj
    obtain ⟨x4, eb⟩ := row_step (A := A) (π := π) (xs := xs) (j := j) (z := z) (o4 := o4) (by omega) h1 hx
    have hl := bumpN_len (placesN j z) xs
    obtain ⟨y2, y3, y4, ih⟩ := ih (bumpN xs (placesN j z)) (j + 1) (some (nD j)) (some (nD z)) x4 (by omega) (by rw [hl]; exact h2) (by omega)
    refine ⟨y2, y3, y4, ?_⟩
    rw [List.map_cons, DL.numbered, show D.int (j : Int) = nD j from rfl]
    obtain ⟨P, hP⟩ : ∃ P, P = nD j := ⟨_, rfl⟩
    obtain ⟨Z, hZ⟩ : ∃ Z, Z = nD z := ⟨_, rfl⟩
    obtain ⟨L, hL⟩ : ∃ L, L = xs.map nD := ⟨_, rfl⟩
    rw [← hP, ← hZ] at eb ih ⊢
    rw [← hL] at eb ⊢
    simp only [forGo]
    have hg : gT 2 (gsCons (gN 2) (gsCons (gN 3) gsNil)) (.tup [P, Z]) [A, some (.lst L), o2, o3, o4] = some [A, some (.lst L), some P, some Z, o4] := rfl
    rw [hg]
    simp only [ofO, Res.bind, eb]
    exact ih
theorem row_of_eq {z : Nat} {s : List Nat} (hz : z ≤ 100) (hs : s.length ≤ 100) (hf : FitN z 0 (z :: s)) (π : Pot) : m_p_row_of [rD (z :: s)] π = .ok (rD (rowOfN (z :: s)), π) := by
  obtain ⟨x2, x3, x4, lp⟩ := rowgo_loop (some (rD (z :: s))) π (z :: s) (List.replicate z 0) 0 none none none (by simp; omega) (by simpa using hf) (by simp; omega)
  have e0 : opRep (.lst [.int 0]) (nD z) = some (.lst ((List.replicate z 0).map nD)) := by
    have c : decide (-9223372036854775808 ≤ (z : Int) ∧ (z : Int) < 9223372036854775808) = true := by rw [decide_eq_true_eq]; omega
    have c2 : decide ([D.int 0].length * ((z : Int)).toNat ≤ sizeLine) = true := by
      rw [decide_eq_true_eq, sl_is]
      simp
      omega
    show (if (decide (-9223372036854775808 ≤ (z : Int) ∧ (z : Int) < 9223372036854775808) && decide ([D.int 0].length * ((z : Int)).toNat ≤ sizeLine)) = true then some (D.lst (List.replicate ((z : Int)).toNat [D.int 0]).flatten) else none) = _
    rw [if_pos (by rw [c, c2]; rfl), Int.toNat_natCast]
    simp -implicitDefEqProofs
  rw [rD_eq] at lp ⊢
  rw [rD_eq]
  obtain ⟨S, hS⟩ : ∃ S, S = (z :: s).map nD := ⟨_, rfl⟩
  have hix : opIx (.lst S) (.int 0) = some (nD z) := by
    show L2.atI S 0 = _
    exact atI_in (by decide) (by rw [hS]; rfl)
  rw [← hS] at lp ⊢
  obtain ⟨Z, hZ⟩ : ∃ Z, Z = DL.numbered 0 S := ⟨_, rfl⟩
  rw [← hZ] at lp
  obtain ⟨O, hO⟩ : ∃ O, O = (List.replicate z 0).map nD := ⟨_, rfl⟩
  rw [← hO] at lp e0
  refine runD_ok ?_
  unfold f_p_row_of
  simp -implicitDefEqProofs [startD, hix, e0, ← hZ, lp]
  rfl
end LW
set_option maxHeartbeats 4000000
namespace LW
open PySem PySem.Spec PyProof.Rows L2 DL
def rowsN : Nat → List (List Nat)
  | 1 => [[1]]
  | 2 => [[1, 1]]
  | 3 => [[1, 1, 1], [1, 2]]
  | 4 => [[1, 1, 1, 1], [1, 2, 1]]
  | 5 => [[1, 1, 1, 1, 1], [1, 2, 1, 1], [1, 2, 2]]
  | 6 => [[1, 1, 1, 1, 1, 1], [1, 2, 1, 1, 1], [1, 2, 2, 1], [1, 2, 3]]
  | 7 => [[1, 1, 1, 1, 1, 1, 1], [1, 2, 1, 1, 1, 1], [1, 2, 2, 1, 1], [1, 2, 2, 2], [1, 2, 3, 1]]
  | 8 => [[1, 1, 1, 1, 1, 1, 1, 1], [1, 2, 1, 1, 1, 1, 1], [1, 2, 2, 1, 1, 1], [1, 2, 2, 2, 1], [1, 2, 3, 1, 1], [1, 2, 3, 2]]
  | 9 => [[1, 1, 1, 1, 1, 1, 1, 1, 1], [1, 2, 1, 1, 1, 1, 1, 1], [1, 2, 2, 1, 1, 1, 1], [1, 2, 2, 2, 1, 1], [1, 2, 2, 2, 2], [1, 2, 3, 1, 1, 1], [1, 2, 3, 2, 1], [1, 2, 3, 3]]
  | 10 => [[1, 2, 1, 1, 1, 1, 1, 1, 1], [1, 2, 2, 1, 1, 1, 1, 1], [1, 2, 2, 2, 1, 1, 1], [1, 2, 2, 2, 2, 1], [1, 2, 3, 1, 1, 1, 1], [1, 2, 3, 2, 1, 1], [1, 2, 3, 2, 2], [1, 2, 3, 3, 1], [1, 2, 3, 4]]
  | 11 => [[1, 2, 2, 1, 1, 1, 1, 1, 1], [1, 2, 2, 2, 1, 1, 1, 1], [1, 2, 2, 2, 2, 1, 1], [1, 2, 2, 2, 2, 2], [1, 2, 3, 1, 1, 1, 1, 1], [1, 2, 3, 2, 1, 1, 1], [1, 2, 3, 2, 2, 1], [1, 2, 3, 3, 1, 1], [1, 2, 3, 3, 2], [1, 2, 3, 4, 1]]
  | 12 => [[1, 2, 2, 2, 1, 1, 1, 1, 1], [1, 2, 2, 2, 2, 1, 1, 1], [1, 2, 2, 2, 2, 2, 1], [1, 2, 3, 1, 1, 1, 1, 1, 1], [1, 2, 3, 2, 1, 1, 1, 1], [1, 2, 3, 2, 2, 1, 1], [1, 2, 3, 2, 2, 2], [1, 2, 3, 3, 1, 1, 1], [1, 2, 3, 3, 2, 1], [1, 2, 3, 3, 3], [1, 2, 3, 4, 1, 1], [1, 2, 3, 4, 2]]
  | 13 => [[1, 2, 2, 2, 2, 1, 1, 1, 1], [1, 2, 2, 2, 2, 2, 1, 1], [1, 2, 2, 2, 2, 2, 2], [1, 2, 3, 2, 1, 1, 1, 1, 1], [1, 2, 3, 2, 2, 1, 1, 1], [1, 2, 3, 2, 2, 2, 1], [1, 2, 3, 3, 1, 1, 1, 1], [1, 2, 3, 3, 2, 1, 1], [1, 2, 3, 3, 2, 2], [1, 2, 3, 3, 3, 1], [1, 2, 3, 4, 1, 1, 1], [1, 2, 3, 4, 2, 1], [1, 2, 3, 4, 3]]
  | 14 => [[1, 2, 2, 2, 2, 2, 1, 1, 1], [1, 2, 2, 2, 2, 2, 2, 1], [1, 2, 3, 2, 2, 1, 1, 1, 1], [1, 2, 3, 2, 2, 2, 1, 1], [1, 2, 3, 2, 2, 2, 2], [1, 2, 3, 3, 1, 1, 1, 1, 1], [1, 2, 3, 3, 2, 1, 1, 1], [1, 2, 3, 3, 2, 2, 1], [1, 2, 3, 3, 3, 1, 1], [1, 2, 3, 3, 3, 2], [1, 2, 3, 4, 1, 1, 1, 1], [1, 2, 3, 4, 2, 1, 1], [1, 2, 3, 4, 2, 2], [1, 2, 3, 4, 3, 1], [1, 2, 3, 4, 4]]
  | 15 => [[1, 2, 2, 2, 2, 2, 2, 1, 1], [1, 2, 2, 2, 2, 2, 2, 2], [1, 2, 3, 2, 2, 2, 1, 1, 1], [1, 2, 3, 2, 2, 2, 2, 1], [1, 2, 3, 3, 2, 1, 1, 1, 1], [1, 2, 3, 3, 2, 2, 1, 1], [1, 2, 3, 3, 2, 2, 2], [1, 2, 3, 3, 3, 1, 1, 1], [1, 2, 3, 3, 3, 2, 1], [1, 2, 3, 3, 3, 3], [1, 2, 3, 4, 1, 1, 1, 1, 1], [1, 2, 3, 4, 2, 1, 1, 1], [1, 2, 3, 4, 2, 2, 1], [1, 2, 3, 4, 3, 1, 1], [1, 2, 3, 4, 3, 2], [1, 2, 3, 4, 4, 1], [1, 2, 3, 4, 5]]
  | 16 => [[1, 2, 2, 2, 2, 2, 2, 2, 1], [1, 2, 3, 2, 2, 2, 2, 1, 1], [1, 2, 3, 2, 2, 2, 2, 2], [1, 2, 3, 3, 2, 2, 1, 1, 1], [1, 2, 3, 3, 2, 2, 2, 1], [1, 2, 3, 3, 3, 1, 1, 1, 1], [1, 2, 3, 3, 3, 2, 1, 1], [1, 2, 3, 3, 3, 2, 2], [1, 2, 3, 3, 3, 3, 1], [1, 2, 3, 4, 2, 1, 1, 1, 1], [1, 2, 3, 4, 2, 2, 1, 1], [1, 2, 3, 4, 2, 2, 2], [1, 2, 3, 4, 3, 1, 1, 1], [1, 2, 3, 4, 3, 2, 1], [1, 2, 3, 4, 3, 3], [1, 2, 3, 4, 4, 1, 1], [1, 2, 3, 4, 4, 2], [1, 2, 3, 4, 5, 1]]
  | 17 => [[1, 2, 2, 2, 2, 2, 2, 2, 2], [1, 2, 3, 2, 2, 2, 2, 2, 1], [1, 2, 3, 3, 2, 2, 2, 1, 1], [1, 2, 3, 3, 2, 2, 2, 2], [1, 2, 3, 3, 3, 2, 1, 1, 1], [1, 2, 3, 3, 3, 2, 2, 1], [1, 2, 3, 3, 3, 3, 1, 1], [1, 2, 3, 3, 3, 3, 2], [1, 2, 3, 4, 2, 2, 1, 1, 1], [1, 2, 3, 4, 2, 2, 2, 1], [1, 2, 3, 4, 3, 1, 1, 1, 1], [1, 2, 3, 4, 3, 2, 1, 1], [1, 2, 3, 4, 3, 2, 2], [1, 2, 3, 4, 3, 3, 1], [1, 2, 3, 4, 4, 1, 1, 1], [1, 2, 3, 4, 4, 2, 1], [1, 2, 3, 4, 4, 3], [1, 2, 3, 4, 5, 1, 1], [1, 2, 3, 4, 5, 2]]
  | 18 => [[1, 2, 3, 2, 2, 2, 2, 2, 2], [1, 2, 3, 3, 2, 2, 2, 2, 1], [1, 2, 3, 3, 3, 2, 2, 1, 1], [1, 2, 3, 3, 3, 2, 2, 2], [1, 2, 3, 3, 3, 3, 1, 1, 1], [1, 2, 3, 3, 3, 3, 2, 1], [1, 2, 3, 3, 3, 3, 3], [1, 2, 3, 4, 2, 2, 2, 1, 1], [1, 2, 3, 4, 2, 2, 2, 2], [1, 2, 3, 4, 3, 2, 1, 1, 1], [1, 2, 3, 4, 3, 2, 2, 1], [1, 2, 3, 4, 3, 3, 1, 1], [1, 2, 3, 4, 3, 3, 2], [1, 2, 3, 4, 4, 1, 1, 1, 1], [1, 2, 3, 4, 4, 2, 1, 1], [1, 2, 3, 4, 4, 2, 2], [1, 2, 3, 4, 4, 3, 1], [1, 2, 3, 4, 4, 4], [1, 2, 3, 4, 5, 1, 1, 1], [1, 2, 3, 4, 5, 2, 1], [1, 2, 3, 4, 5, 3]]
  | 19 => [[1, 2, 3, 3, 2, 2, 2, 2, 2], [1, 2, 3, 3, 3, 2, 2, 2, 1], [1, 2, 3, 3, 3, 3, 2, 1, 1], [1, 2, 3, 3, 3, 3, 2, 2], [1, 2, 3, 3, 3, 3, 3, 1], [1, 2, 3, 4, 2, 2, 2, 2, 1], [1, 2, 3, 4, 3, 2, 2, 1, 1], [1, 2, 3, 4, 3, 2, 2, 2], [1, 2, 3, 4, 3, 3, 1, 1, 1], [1, 2, 3, 4, 3, 3, 2, 1], [1, 2, 3, 4, 3, 3, 3], [1, 2, 3, 4, 4, 2, 1, 1, 1], [1, 2, 3, 4, 4, 2, 2, 1], [1, 2, 3, 4, 4, 3, 1, 1], [1, 2, 3, 4, 4, 3, 2], [1, 2, 3, 4, 4, 4, 1], [1, 2, 3, 4, 5, 1, 1, 1, 1], [1, 2, 3, 4, 5, 2, 1, 1], [1, 2, 3, 4, 5, 2, 2], [1, 2, 3, 4, 5, 3, 1], [1, 2, 3, 4, 5, 4]]
  | 20 => [[1, 2, 3, 3, 3, 2, 2, 2, 2], [1, 2, 3, 3, 3, 3, 2, 2, 1], [1, 2, 3, 3, 3, 3, 3, 1, 1], [1, 2, 3, 3, 3, 3, 3, 2], [1, 2, 3, 4, 2, 2, 2, 2, 2], [1, 2, 3, 4, 3, 2, 2, 2, 1], [1, 2, 3, 4, 3, 3, 2, 1, 1], [1, 2, 3, 4, 3, 3, 2, 2], [1, 2, 3, 4, 3, 3, 3, 1], [1, 2, 3, 4, 4, 2, 2, 1, 1], [1, 2, 3, 4, 4, 2, 2, 2], [1, 2, 3, 4, 4, 3, 1, 1, 1], [1, 2, 3, 4, 4, 3, 2, 1], [1, 2, 3, 4, 4, 3, 3], [1, 2, 3, 4, 4, 4, 1, 1], [1, 2, 3, 4, 4, 4, 2], [1, 2, 3, 4, 5, 2, 1, 1, 1], [1, 2, 3, 4, 5, 2, 2, 1], [1, 2, 3, 4, 5, 3, 1, 1], [1, 2, 3, 4, 5, 3, 2], [1, 2, 3, 4, 5, 4, 1], [1, 2, 3, 4, 5, 5]]
  | 21 => [[1, 2, 3, 3, 3, 3, 2, 2, 2], [1, 2, 3, 3, 3, 3, 3, 2, 1], [1, 2, 3, 3, 3, 3, 3, 3], [1, 2, 3, 4, 3, 2, 2, 2, 2], [1, 2, 3, 4, 3, 3, 2, 2, 1], [1, 2, 3, 4, 3, 3, 3, 1, 1], [1, 2, 3, 4, 3, 3, 3, 2], [1, 2, 3, 4, 4, 2, 2, 2, 1], [1, 2, 3, 4, 4, 3, 2, 1, 1], [1, 2, 3, 4, 4, 3, 2, 2], [1, 2, 3, 4, 4, 3, 3, 1], [1, 2, 3, 4, 4, 4, 1, 1, 1], [1, 2, 3, 4, 4, 4, 2, 1], [1, 2, 3, 4, 4, 4, 3], [1, 2, 3, 4, 5, 2, 2, 1, 1], [1, 2, 3, 4, 5, 2, 2, 2], [1, 2, 3, 4, 5, 3, 1, 1, 1], [1, 2, 3, 4, 5, 3, 2, 1], [1, 2, 3, 4, 5, 3, 3], [1, 2, 3, 4, 5, 4, 1, 1], [1, 2, 3, 4, 5, 4, 2], [1, 2, 3, 4, 5, 5, 1], [1, 2, 3, 4, 5, 6]]
  | 22 => [[1, 2, 3, 3, 3, 3, 3, 2, 2], [1, 2, 3, 3, 3, 3, 3, 3, 1], [1, 2, 3, 4, 3, 3, 2, 2, 2], [1, 2, 3, 4, 3, 3, 3, 2, 1], [1, 2, 3, 4, 3, 3, 3, 3], [1, 2, 3, 4, 4, 2, 2, 2, 2], [1, 2, 3, 4, 4, 3, 2, 2, 1], [1, 2, 3, 4, 4, 3, 3, 1, 1], [1, 2, 3, 4, 4, 3, 3, 2], [1, 2, 3, 4, 4, 4, 2, 1, 1], [1, 2, 3, 4, 4, 4, 2, 2], [1, 2, 3, 4, 4, 4, 3, 1], [1, 2, 3, 4, 4, 4, 4], [1, 2, 3, 4, 5, 2, 2, 2, 1], [1, 2, 3, 4, 5, 3, 2, 1, 1], [1, 2, 3, 4, 5, 3, 2, 2], [1, 2, 3, 4, 5, 3, 3, 1], [1, 2, 3, 4, 5, 4, 1, 1, 1], [1, 2, 3, 4, 5, 4, 2, 1], [1, 2, 3, 4, 5, 4, 3], [1, 2, 3, 4, 5, 5, 1, 1], [1, 2, 3, 4, 5, 5, 2], [1, 2, 3, 4, 5, 6, 1]]
  | 23 => [[1, 2, 3, 3, 3, 3, 3, 3, 2], [1, 2, 3, 4, 3, 3, 3, 2, 2], [1, 2, 3, 4, 3, 3, 3, 3, 1], [1, 2, 3, 4, 4, 3, 2, 2, 2], [1, 2, 3, 4, 4, 3, 3, 2, 1], [1, 2, 3, 4, 4, 3, 3, 3], [1, 2, 3, 4, 4, 4, 2, 2, 1], [1, 2, 3, 4, 4, 4, 3, 1, 1], [1, 2, 3, 4, 4, 4, 3, 2], [1, 2, 3, 4, 4, 4, 4, 1], [1, 2, 3, 4, 5, 2, 2, 2, 2], [1, 2, 3, 4, 5, 3, 2, 2, 1], [1, 2, 3, 4, 5, 3, 3, 1, 1], [1, 2, 3, 4, 5, 3, 3, 2], [1, 2, 3, 4, 5, 4, 2, 1, 1], [1, 2, 3, 4, 5, 4, 2, 2], [1, 2, 3, 4, 5, 4, 3, 1], [1, 2, 3, 4, 5, 4, 4], [1, 2, 3, 4, 5, 5, 1, 1, 1], [1, 2, 3, 4, 5, 5, 2, 1], [1, 2, 3, 4, 5, 5, 3], [1, 2, 3, 4, 5, 6, 1, 1], [1, 2, 3, 4, 5, 6, 2]]
  | 24 => [[1, 2, 3, 3, 3, 3, 3, 3, 3], [1, 2, 3, 4, 3, 3, 3, 3, 2], [1, 2, 3, 4, 4, 3, 3, 2, 2], [1, 2, 3, 4, 4, 3, 3, 3, 1], [1, 2, 3, 4, 4, 4, 2, 2, 2], [1, 2, 3, 4, 4, 4, 3, 2, 1], [1, 2, 3, 4, 4, 4, 3, 3], [1, 2, 3, 4, 4, 4, 4, 1, 1], [1, 2, 3, 4, 4, 4, 4, 2], [1, 2, 3, 4, 5, 3, 2, 2, 2], [1, 2, 3, 4, 5, 3, 3, 2, 1], [1, 2, 3, 4, 5, 3, 3, 3], [1, 2, 3, 4, 5, 4, 2, 2, 1], [1, 2, 3, 4, 5, 4, 3, 1, 1], [1, 2, 3, 4, 5, 4, 3, 2], [1, 2, 3, 4, 5, 4, 4, 1], [1, 2, 3, 4, 5, 5, 2, 1, 1], [1, 2, 3, 4, 5, 5, 2, 2], [1, 2, 3, 4, 5, 5, 3, 1], [1, 2, 3, 4, 5, 5, 4], [1, 2, 3, 4, 5, 6, 1, 1, 1], [1, 2, 3, 4, 5, 6, 2, 1], [1, 2, 3, 4, 5, 6, 3]]
  | _ => []
theorem is_count_nat (i : Nat) (π : Pot) : m_p_is_count [.int (i : Int)] π = .ok (.bl true, π) := by
  have h : (0 : Int) ≤ (i : Int) := by omega
  unfold m_p_is_count f_p_is_count m_p_is_integer f_p_is_integer
  simp -implicitDefEqProofs [h]
theorem want_many_eq {n : Nat} (h : 1 ≤ n) (h2 : n ≤ 24) (π : Pot) : m_p_want_many [nD n, .int 24, .int 1] π = .ok (.non, π) := by
  have e := is_count_nat n π
  have c1 : ¬ (n : Int) < 1 := by omega
  have c2 : ¬ (24 : Int) < (n : Int) := by omega
  obtain ⟨N, hN⟩ : ∃ N, N = nD n := ⟨_, rfl⟩
  have l1 : cmpI (fun i j => decide (i < j)) N (.int 1) = some (.bl false) := by rw [hN]; simp [cmpI]; omega
  have l2 : cmpI (fun i j => decide (j < i)) N (.int 24) = some (.bl false) := by rw [hN]; simp [cmpI]; omega
  have e' : m_p_is_count [N] π = .ok (.bl true, π) := by rw [hN]; exact e
  have n1 : opNotN (.int 24) .non = some (.bl true) := rfl
  rw [← hN]
  unfold m_p_want_many f_p_want_many
  simp -implicitDefEqProofs [e', l1, l2, n1]
def fitB (s : List Nat) : Bool := match s with
  | [] => false
  | z :: r => decide (z ≤ 100) && decide (r.length ≤ 100) && ((z :: r).zipIdx.all fun p => decide (p.2 + p.1 ≤ z))
theorem fit_zip : ∀ (s : List Nat) (L j : Nat), ((s.zipIdx j).all fun p => decide (p.2 + p.1 ≤ L)) = true → FitN L j s
  | [], _, _, _ => trivial
  | z :: s, L, j, h => by
    rw [List.zipIdx_cons, List.all_cons, Bool.and_eq_true, decide_eq_true_eq] at h
    exact ⟨h.1, fit_zip s L (j + 1) h.2⟩
theorem row_of_fit {s : List Nat} (h : fitB s = true) (π : Pot) : m_p_row_of [rD s] π = .ok (rD (rowOfN s), π) := by
  cases s with
  | nil => cases h
  | cons z r =>
    simp only [fitB, Bool.and_eq_true, decide_eq_true_eq] at h
    exact row_of_eq h.1.1 h.1.2 (fit_zip _ _ _ h.2) π
theorem fits : ((List.range 25).all fun n => n == 0 || (partsF 11 n 9).all fitB) = true := by decide +kernel
theorem sorts : ((List.range 25).all fun n => n == 0 || (sortL ((partsF 11 n 9).map fun s => zn (rowOfN s)) == (rowsN n).map zn && decide ((partsF 11 n 9).length = (rowsN n).length) && decide ((partsF 11 n 9).length < 1000))) = true := by decide +kernel
theorem rows_of_eq {n : Nat} (h : 1 ≤ n) (h2 : n ≤ 24) (π : Pot) : m_p_rows_of [nD n] π = .ok (.lst ((rowsN n).map rD), π) ∧ m_p_row_count [nD n] π = .ok (nD (rowsN n).length, π) := by
  have h0 : (n == 0) = false := by simpa using (by omega : n ≠ 0)
  have f := List.all_eq_true.mp fits n (List.mem_range.mpr (by omega))
  have g := List.all_eq_true.mp sorts n (List.mem_range.mpr (by omega))
  rw [h0, Bool.false_or] at f g
  simp only [Bool.and_eq_true, beq_iff_eq, decide_eq_true_eq] at g
  obtain ⟨⟨g1, g2⟩, g3⟩ := g
  have ep := parts_eq n h2 9 (by decide) π
  have ew := want_many_eq h h2 π
  obtain ⟨P, hP⟩ : ∃ P, P = partsF 11 n 9 := ⟨_, rfl⟩
  rw [← hP] at f g1 g2 g3 ep
  have lc : lcGo (gN 1) tTrue f_p_rows_of_e1 [some (nD n), none] (P.map rD) π = .ok (P.map fun s => rD (rowOfN s), π) :=
    lcGo_map (ρ1 := fun r => [some (nD n), some (rD r)]) (fun x hx => by simp) fun x hx => by
      have e := row_of_fit (List.all_eq_true.mp f x hx) π
      obtain ⟨R, hR⟩ : ∃ R, R = rD x := ⟨_, rfl⟩
      rw [← hR] at e
      simp -implicitDefEqProofs [f_p_rows_of_e1_ap, ← hR, e]
  have es : fSortB [.lst (P.map fun s => rD (rowOfN s))] = some (.lst ((rowsN n).map rD)) := by
    have := fSortB_lz (P.map fun s => zn (rowOfN s))
    rw [g1, List.map_map, List.map_map] at this
    exact this
  have ln : fLen [.lst (P.map rD)] = some (nD (rowsN n).length) := by
    show (some (.int ((P.map rD).length : Int)) : Option D) = _
    rw [List.length_map, g2]
  have hl : (P.map rD).length < 16777216 := by
    rw [List.length_map]
    omega
  obtain ⟨L, hL⟩ : ∃ L, L = P.map rD := ⟨_, rfl⟩
  obtain ⟨N, hN⟩ : ∃ N, N = nD n := ⟨_, rfl⟩
  obtain ⟨S, hS⟩ : ∃ S, S = P.map fun s => rD (rowOfN s) := ⟨_, rfl⟩
  rw [← hL] at ep lc hl ln
  rw [← hN] at ep ew lc ⊢
  rw [← hS] at lc es
  have ep' : m_p_parts_of_11 [N, .int 9] π = .ok (.lst L, π) := ep
  constructor
  · refine runD_ok ?_
    unfold f_p_rows_of
    simp -implicitDefEqProofs [startD, eGoD, ew, ep', hl, lc, es, wipeD]
  · refine runD_ok ?_
    unfold f_p_row_count
    simp -implicitDefEqProofs [startD, eGoD, ew, ep', ln]
end LW
set_option maxHeartbeats 4000000
namespace LW
open PySem PySem.Spec PyProof.Rows L2 DL
def goB (n a : Nat) (r : Bool) : Bool := (decide (0 < n) && decide (n ≤ a)) || (r && decide (n = a + 1))
theorem goes_on_eq (n a : Nat) (r : Bool) (π : Pot) : m_p_goes_on [nD n, nD a, .bl r] π = .ok (.bl (goB n a r), π) := by
  unfold m_p_goes_on f_p_goes_on goB
  by_cases h0 : 0 < n
  · have i0 : (0 : Int) < (n : Int) := by omega
    by_cases q : n ≤ a
    · have i1 : (n : Int) ≤ (a : Int) := by omega
      simp -implicitDefEqProofs [eChain, h0, i0, q, i1]
    · have i1 : ¬ (n : Int) ≤ (a : Int) := by omega
      cases r with
      | false => simp -implicitDefEqProofs [eChain, h0, i0, q, i1]
      | true =>
        by_cases q2 : n = a + 1
        · have i2 : (n : Int) = (a : Int) + 1 := by omega
          have i4 : ¬ (a : Int) + 1 ≤ (a : Int) := by omega
          simp -implicitDefEqProofs [eChain, h0, i0, q, i1, decide_eq_true i2, q2, i4]
        · have i2 : ¬ (n : Int) = (a : Int) + 1 := by omega
          simp -implicitDefEqProofs [eChain, h0, i0, q, i1, decide_eq_false i2, q2]
  · have e : n = 0 := by omega
    subst e
    have i2 : ¬ (0 : Int) = (a : Int) + 1 := by omega
    have i3 : ¬ (0 : Nat) = a + 1 := by omega
    cases r <;> simp -implicitDefEqProofs [eChain, decide_eq_false i2, i3]
def faultGo (k t a : Nat) (r : Bool) : List Nat → Option Nat
  | [] => none
  | n :: ns => if !(goB n a r) || decide (24 < t + n) || decide (9 ≤ k) then some k else faultGo (k + 1) (t + n) n (r && decide (a < n)) ns
def faultN (m : List Nat) : Option Nat := faultGo 0 0 0 true m
def oD : Option Nat → D
  | none => .non
  | some k => nD k
theorem fault_step (A : Option D) (π : Pot) {k t a n : Nat} {r : Bool} : f_p_fault_of_b1 [A, some (nD t), some (nD a), some (.bl r), some (nD k), some (nD n)] π =
    if !(goB n a r) || decide (24 < t + n) || decide (9 ≤ k) then .ok (.rt (nD k), π) else .ok (.nx [A, some (nD (t + n)), some (nD n), some (.bl (r && decide (a < n))), some (nD k), some (nD n)], π) := by
  have e1 := goes_on_eq n a r π
  have ea : nD (t + n) = .int ((t : Int) + (n : Int)) := by simp [nD]
  have l1 : cmpI (fun i j => decide (j < i)) (nD (t + n)) (.int 24) = some (.bl (decide (24 < t + n))) := by
    show some (D.bl (decide ((24 : Int) < ((t + n : Nat) : Int)))) = _
    by_cases q : 24 < t + n
    · rw [decide_eq_true q, decide_eq_true (by omega)]
    · rw [decide_eq_false q, decide_eq_false (by omega)]
  have l2 : cmpI (fun i j => decide (j ≤ i)) (nD k) (.int 9) = some (.bl (decide (9 ≤ k))) := by
    show some (D.bl (decide ((9 : Int) ≤ ((k : Nat) : Int)))) = _
    by_cases q : 9 ≤ k
    · rw [decide_eq_true q, decide_eq_true (by omega)]
    · rw [decide_eq_false q, decide_eq_false (by omega)]
  have l3 : cmpI (fun i j => decide (j < i)) (nD n) (nD a) = some (.bl (decide (a < n))) := by
    show some (D.bl (decide ((a : Int) < (n : Int)))) = _
    by_cases q : a < n
    · rw [decide_eq_true q, decide_eq_true (by omega)]
    · rw [decide_eq_false q, decide_eq_false (by omega)]
  have s1 : sAug 1 (fun i j => i + j) (eVar 5) [A, some (nD t), some (nD a), some (.bl r), some (nD k), some (nD n)] π = .ok (.nx [A, some (nD (t + n)), some (nD a), some (.bl r), some (nD k), some (nD n)], π) := by
    rw [ea]
    simp -implicitDefEqProofs [sAug]
  rw [f_p_fault_of_b1_ap, sSeq_nx s1]
  obtain ⟨T, hT⟩ : ∃ T, T = nD (t + n) := ⟨_, rfl⟩
  obtain ⟨N, hN⟩ : ∃ T, T = nD n := ⟨_, rfl⟩
  obtain ⟨K, hK⟩ : ∃ T, T = nD k := ⟨_, rfl⟩
  obtain ⟨B, hB⟩ : ∃ T, T = nD a := ⟨_, rfl⟩
  rw [← hT] at l1 ⊢
  rw [← hN, ← hB] at l3 e1
  rw [← hK] at l2 ⊢
  rw [← hN, ← hB]
  generalize goB n a r = g at e1 ⊢
  generalize decide (24 < t + n) = b1 at l1 ⊢
  generalize decide (9 ≤ k) = b2 at l2 ⊢
  generalize decide (a < n) = b3 at l3 ⊢
  cases g <;> cases b1 <;> cases b2 <;> cases r <;> simp -implicitDefEqProofs [e1, l1, l2, l3]
theorem fault_loop (A : Option D) (π : Pot) : ∀ (ns : List Nat) (k t a : Nat) (r : Bool) (o4 o5 : Option D),
    ∃ x1 x2 x3 x4 x5, forGo (gT 2 (gsCons (gN 4) (gsCons (gN 5) gsNil))) f_p_fault_of_b1 (DL.numbered k (ns.map nD)) [A, some (nD t), some (nD a), some (.bl r), o4, o5] π =
      match faultGo k t a r ns with
      | none => .ok (.nx [A, x1, x2, x3, x4, x5], π)
      | some p => .ok (.rt (nD p), π) := by
  intro ns
  induction ns with
  | nil => intro k t a r o4 o5; exact ⟨_, _, _, _, _, rfl⟩
  | cons n ns ih =>
    intro k t a r o4 o5
    obtain ⟨x1, x2, x3, x4, x5, ih⟩ := ih (k + 1) (t + n) n (r && decide (a < n)) (some (nD k)) (some (nD n))
    refine ⟨x1, x2, x3, x4, x5, ?_⟩
    have eb := fault_step A π (k := k) (t := t) (a := a) (n := n) (r := r)
    rw [List.map_cons, DL.numbered, show D.int (k : Int) = nD k from rfl]
    unfold faultGo
    obtain ⟨N, hN⟩ : ∃ T, T = nD n := ⟨_, rfl⟩
    obtain ⟨K, hK⟩ : ∃ T, T = nD k := ⟨_, rfl⟩
    obtain ⟨T, hT⟩ : ∃ T, T = nD (t + n) := ⟨_, rfl⟩
    rw [← hN, ← hK, ← hT] at eb ih
    rw [← hN, ← hK]
    simp only [forGo]
    have hg : gT 2 (gsCons (gN 4) (gsCons (gN 5) gsNil)) (.tup [K, N]) [A, some (nD t), some (nD a), some (.bl r), o4, o5] = some [A, some (nD t), some (nD a), some (.bl r), some K, some N] := rfl
    rw [hg]
    simp only [ofO, Res.bind, eb]
    by_cases q : (!(goB n a r) || decide (24 < t + n) || decide (9 ≤ k)) = true
    · rw [if_pos q, if_pos q, hK]
    · rw [if_neg q, if_neg q]
      exact ih
theorem numbered_len : ∀ (xs : List D) (k : Nat), (DL.numbered k xs).length = xs.length
  | [], k => rfl
  | x :: xs, k => by
    show (DL.numbered (k + 1) xs).length + 1 = xs.length + 1
    rw [numbered_len xs]
theorem fault_of_eq (m : List Nat) (hm : m.length < 1000) (π : Pot) : m_p_fault_of [rD m] π = .ok (oD (faultN m), π) := by
  obtain ⟨x1, x2, x3, x4, x5, e⟩ := fault_loop (some (rD m)) π m 0 0 0 true none none
  have hl : (DL.numbered 0 (m.map nD)).length < 16777216 := by
    rw [numbered_len, List.length_map]
    omega
  have hs : seqOf (rD m) = some (m.map nD) := by rw [rD_eq]; rfl
  have e' : forGo (gT 2 (gsCons (gN 4) (gsCons (gN 5) gsNil))) f_p_fault_of_b1 (DL.numbered 0 (m.map nD)) [some (rD m), some (.int 0), some (.int 0), some (.bl true), none, none] π = _ := e
  obtain ⟨L, hL⟩ : ∃ T, T = m.map nD := ⟨_, rfl⟩
  rw [← hL] at hl hs e'
  obtain ⟨Z, hZ⟩ : ∃ T, T = DL.numbered 0 L := ⟨_, rfl⟩
  rw [← hZ] at hl e'
  obtain ⟨R, hR⟩ : ∃ T, T = rD m := ⟨_, rfl⟩
  rw [← hR] at hs e' ⊢
  unfold m_p_fault_of f_p_fault_of faultN
  cases hf : faultGo 0 0 0 true m with
  | none =>
    rw [hf] at e'
    simp -implicitDefEqProofs [hs, ← hZ, hl, e', oD]
  | some p =>
    rw [hf] at e'
    simp -implicitDefEqProofs [hs, ← hZ, hl, e', oD]
theorem is_list_eq (m : List Nat) (π : Pot) : m_p_is_list [rD m] π = .ok (.bl true, π) := by
  unfold m_p_is_list f_p_is_list
  rw [rD_eq]
  simp -implicitDefEqProofs
theorem is_counts_eq {m : List Nat} (h : m ≠ []) (hm : m.length < 1000) (π : Pot) : m_p_is_counts [rD m] π = .ok (.bl true, π) := by
  have e3 := is_list_eq m π
  have hp := List.length_pos_iff.mpr h
  have lc : lcGo (gN 1) tTrue f_p_is_counts_e1 [some (rD m), none] (m.map nD) π = .ok (m.map fun _ => .bl true, π) :=
    lcGo_map (ρ1 := fun n => [some (rD m), some (nD n)]) (fun x hx => by simp) fun n hn => by
      have := is_count_nat n π
      simp -implicitDefEqProofs [f_p_is_counts_e1_ap, this]
  have al := fAll_bl m fun _ => true
  have hall : (m.all fun _ => true) = true := by simp
  rw [hall] at al
  have hs : seqOf (rD m) = some (m.map nD) := by rw [rD_eq]; rfl
  have ln : fLen [rD m] = some (nD m.length) := by
    rw [rD_eq]
    show (some (.int ((m.map nD).length : Int)) : Option D) = _
    rw [List.length_map]
  have l1 : cmpI (fun i j => decide (j < i)) (nD m.length) (.int 0) = some (.bl true) := by
    show some (D.bl (decide ((0 : Int) < (m.length : Int)))) = _
    rw [decide_eq_true (by omega)]
  have hLl : (m.map nD).length < 16777216 := by rw [List.length_map]; omega
  obtain ⟨L, hL⟩ : ∃ L, L = m.map nD := ⟨_, rfl⟩
  obtain ⟨R, hR⟩ : ∃ T, T = rD m := ⟨_, rfl⟩
  obtain ⟨N, hN⟩ : ∃ T, T = nD m.length := ⟨_, rfl⟩
  rw [← hL] at hs lc hLl
  rw [← hR] at hs lc e3 ln ⊢
  rw [← hN] at ln l1
  unfold m_p_is_counts f_p_is_counts
  simp -implicitDefEqProofs [e3, ln, l1, hs, hLl, lc, al]
def isRowN (m : List Nat) : Bool := decide (faultN m = none)
theorem is_row_eq {m : List Nat} (h : m ≠ []) (hm : m.length < 1000) (π : Pot) : m_p_is_row [rD m] π = .ok (.bl (isRowN m), π) := by
  have e1 := is_counts_eq h hm π
  have e2 := fault_of_eq m hm π
  have iN : ∀ o, isNonD (oD o) = decide (o = none) := fun o => by cases o <;> rfl
  have iN := iN (faultN m)
  unfold isRowN
  obtain ⟨R, hR⟩ : ∃ T, T = rD m := ⟨_, rfl⟩
  obtain ⟨O, hO⟩ : ∃ T, T = oD (faultN m) := ⟨_, rfl⟩
  rw [← hR] at e1 e2 ⊢
  rw [← hO] at e2 iN
  unfold m_p_is_row f_p_is_row
  simp -implicitDefEqProofs [e1, e2, iN]
end LW
set_option maxHeartbeats 4000000
namespace LW
open PySem PySem.Spec PyProof.Rows L2 DL
theorem zn_inj {a b : List Nat} : zn a = zn b ↔ a = b := by
  unfold zn
  exact List.map_inj_right fun x y h => by omega
theorem zn_sum : ∀ m : List Nat, (zn m).sum = (m.sum : Nat)
  | [] => rfl
  | n :: m => by
    show (n : Int) + (zn m).sum = _
    rw [zn_sum m, List.sum_cons]
    omega
end LW
set_option maxHeartbeats 4000000
namespace LW
open PySem PySem.Spec PyProof.Rows L2 DL
/-- things that are shown as data of one shape -/
structure Shap {α : Type} [DecidableEq α] (enc : α → D) where
  py : α → PyData
  to : ∀ x, toPy (enc x) = some (py x)
  lay : ∀ x, (py x).canLay0 = true
  dep : ∀ x, PyData.depth (py x) = 1
  eqv : ∀ x y, PyData.eqv (py x) (py y) = decide (x = y)
section
variable {α : Type} [DecidableEq α] {enc : α → D}
theorem Shap.toL (S : Shap enc) : ∀ xs : List α, toPyL (xs.map enc) = some (xs.map S.py)
  | [] => rfl
  | x :: xs => by
    show (match toPy (enc x), toPyL (xs.map enc) with | some p, some ps => some (p :: ps) | _, _ => none) = _
    rw [S.to, S.toL xs]
    rfl
theorem Shap.canAll (S : Shap enc) : ∀ xs : List α, PyData.canLayAll0 (xs.map S.py) = true
  | [] => rfl
  | x :: xs => by
    show (PyData.canLay0 (S.py x) && PyData.canLayAll0 (xs.map S.py)) = true
    rw [S.canAll xs, S.lay]
    rfl
theorem Shap.depAll (S : Shap enc) : ∀ xs : List α, PyData.depthAll (xs.map S.py) ≤ 1
  | [] => Nat.zero_le _
  | x :: xs => by
    show max (PyData.depth (S.py x)) (PyData.depthAll (xs.map S.py)) ≤ 1
    have := S.dep x
    have := S.depAll xs
    omega
theorem Shap.isIn (S : Shap enc) (p : α) (ps : List α) : inDT (enc p) (.lst (ps.map enc)) = some (decide (p ∈ ps)) := by
  have e2 : toPy (.lst (ps.map enc)) = some (.list (ps.map S.py)) := by
    show (toPyL (ps.map enc)).map _ = _
    rw [S.toL]
    rfl
  have s1 : SeqAt.shaped (S.py p) = true := by
    show (PyData.canLay0 (S.py p) && decide (PyData.depth (S.py p) ≤ 64)) = true
    rw [S.lay, S.dep]
    rfl
  have s2 : SeqAt.shaped (.list (ps.map S.py)) = true := by
    have := S.depAll ps
    show (PyData.canLayAll0 (ps.map S.py) && decide (PyData.depthAll (ps.map S.py) + 1 ≤ 64)) = true
    rw [S.canAll, Bool.true_and]
    exact decide_eq_true (by omega)
  unfold inDT
  rw [S.to, e2]
  simp only [s1, s2, Bool.and_self, if_true]
  congr 1
  rw [Bool.eq_iff_iff]
  simp only [List.any_map, List.any_eq_true, Function.comp, S.eqv, decide_eq_true_eq]
  exact ⟨fun ⟨x, hx, e⟩ => e ▸ hx, fun h => ⟨p, h, rfl⟩⟩
theorem Shap.opIn (S : Shap enc) (p : α) (ps : List α) : opInA (enc p) (.lst (ps.map enc)) = some (.bl (decide (p ∈ ps))) := by
  unfold opInA
  rw [S.isIn]
  rfl
theorem Shap.opNotIn (S : Shap enc) (p : α) (ps : List α) : opNotInA (enc p) (.lst (ps.map enc)) = some (.bl (!decide (p ∈ ps))) := by
  unfold opNotInA
  rw [S.isIn]
  rfl
end
theorem depth_ints : ∀ ns : List Int, PyData.depthAll (ns.map PyData.int) = 0
  | [] => rfl
  | n :: ns => by
    show max (PyData.depth (.int n)) (PyData.depthAll (ns.map PyData.int)) = 0
    rw [depth_ints ns]
    rfl
theorem lay_ints : ∀ ns : List Int, PyData.canLayAll0 (ns.map PyData.int) = true
  | [] => rfl
  | n :: ns => by
    show (PyData.canLay0 (.int n) && PyData.canLayAll0 (ns.map PyData.int)) = true
    rw [lay_ints ns]
    rfl
def shR : Shap rD where
  py m := .list ((zn m).map PyData.int)
  to m := by
    show (toPyL ((zn m).map D.int)).map _ = _
    rw [toPyL_iz]
    rfl
  lay m := lay_ints _
  dep m := by
    show PyData.depthAll ((zn m).map PyData.int) + 1 = 1
    rw [depth_ints]
  eqv a b := by
    show PyData.eqvAll ((zn a).map PyData.int) ((zn b).map PyData.int) = _
    rw [eqv_ints]
    by_cases h : a = b
    · rw [decide_eq_true h, decide_eq_true (by rw [h])]
    · rw [decide_eq_false h, decide_eq_false fun z => h (zn_inj.mp z)]
theorem Shap.eqvAll {α : Type} [DecidableEq α] {enc : α → D} (S : Shap enc) : ∀ xs ys : List α, PyData.eqvAll (xs.map S.py) (ys.map S.py) = decide (xs = ys)
  | [], [] => by simp [PyData.eqvAll]
  | [], y :: ys => by simp [PyData.eqvAll]
  | x :: xs, [] => by simp [PyData.eqvAll]
  | x :: xs, y :: ys => by
    show (PyData.eqvAll (S.py x :: xs.map S.py) (S.py y :: ys.map S.py)) = _
    rw [PyData.eqvAll, S.eqv, S.eqvAll xs ys]
    by_cases h : x = y <;> by_cases h2 : xs = ys <;> simp [h, h2]
theorem Shap.eqL {α : Type} [DecidableEq α] {enc : α → D} (S : Shap enc) (xs ys : List α) : eqD (.lst (xs.map enc)) (.lst (ys.map enc)) = some (decide (xs = ys)) := by
  have e2 : ∀ ps : List α, toPy (.lst (ps.map enc)) = some (.list (ps.map S.py)) := fun ps => by
    show (toPyL (ps.map enc)).map _ = _
    rw [S.toL]
    rfl
  have s2 : ∀ ps : List α, SeqAt.shaped (.list (ps.map S.py)) = true := fun ps => by
    have := S.depAll ps
    show (PyData.canLayAll0 (ps.map S.py) && decide (PyData.depthAll (ps.map S.py) + 1 ≤ 64)) = true
    rw [S.canAll, Bool.true_and]
    exact decide_eq_true (by omega)
  show eqP _ _ = _
  unfold eqP
  rw [e2, e2]
  simp only [s2, Bool.and_self, if_true]
  show some (PyData.eqv (.list (xs.map S.py)) (.list (ys.map S.py))) = _
  rw [PyData.eqv, S.eqvAll]
theorem Shap.opEqL {α : Type} [DecidableEq α] {enc : α → D} (S : Shap enc) (xs ys : List α) : opEq (.lst (xs.map enc)) (.lst (ys.map enc)) = some (.bl (decide (xs = ys))) := by
  unfold opEq
  rw [S.eqL]
  rfl
theorem Shap.opNeL {α : Type} [DecidableEq α] {enc : α → D} (S : Shap enc) (xs ys : List α) : opNe (.lst (xs.map enc)) (.lst (ys.map enc)) = some (.bl (!decide (xs = ys))) := by
  unfold opNe
  rw [S.eqL]
  rfl
end LW
set_option maxHeartbeats 4000000
namespace LW
open PySem PySem.Spec PyProof.Rows L2 DL
def lenN (r : List Nat) : List Nat := (List.range (r.foldl max 0)).map fun j => (r.filter fun x => decide (j < x)).length
def lensS (n : Nat) : List (List Int) := sortL ((rowsN n).map fun r => zn (lenN r))
def sortS (x : Res (D × Pot)) : Res (D × Pot) := x.bind fun y => (ofO (fSortB [y.1])).bind fun z => .ok (z, y.2)
def onB (n : Nat) : Bool := isR (sortS (m_l_on_11 [.lst [], nD n] (0, 0))) (.lst ((rowsN n).map rD))
def lotB (n : Nat) : Bool := isR (sortS (m_l_lots [nD n] (0, 0))) (.lst ((lensS n).map lstZ))
def partB (n : Nat) : Bool := isR (m_p_partings [nD n] (0, 0)) (nD (rowsN n).length)
def lengB (n : Nat) : Bool := (rowsN n).all fun r => isR (m_p_lengths [rD r] (0, 0)) (rD (lenN r))
def rowB (n : Nat) : Bool := !(rowsN n).isEmpty && decide ((rowsN n).length ≤ 100) && (rowsN n).all fun r => !r.isEmpty && decide (r.length ≤ 9) && isRowN r && decide (r.sum = n) && r.all fun x => decide (1 ≤ x)
def spoilB (n : Nat) : Bool := (rowsN n).all fun r => (List.range r.length).all fun i => isRowN (r.set i (r.getD i 0 + 1)) == decide (r.set i (r.getD i 0 + 1) ∈ rowsN (n + 1))
def goOnB (n : Nat) : Bool := (rowsN n).all fun r => (List.range (min (r.getLastD 0) (24 - n))).all fun x => decide (r.length = 9) || decide (r ++ [x + 1] ∈ rowsN (n + (x + 1)))
theorem on1 : onB 1 = true := by decide +kernel
theorem lot1 : lotB 1 = true := by decide +kernel
theorem part1 : partB 1 = true := by decide +kernel
theorem leng1 : lengB 1 = true := by decide +kernel
theorem row1 : rowB 1 = true := by decide +kernel
theorem spoil1 : spoilB 1 = true := by decide +kernel
theorem goOn1 : goOnB 1 = true := by decide +kernel
theorem on2 : onB 2 = true := by decide +kernel
theorem lot2 : lotB 2 = true := by decide +kernel
theorem part2 : partB 2 = true := by decide +kernel
theorem leng2 : lengB 2 = true := by decide +kernel
theorem row2 : rowB 2 = true := by decide +kernel
theorem spoil2 : spoilB 2 = true := by decide +kernel
theorem goOn2 : goOnB 2 = true := by decide +kernel
theorem on3 : onB 3 = true := by decide +kernel
theorem lot3 : lotB 3 = true := by decide +kernel
theorem part3 : partB 3 = true := by decide +kernel
theorem leng3 : lengB 3 = true := by decide +kernel
theorem row3 : rowB 3 = true := by decide +kernel
theorem spoil3 : spoilB 3 = true := by decide +kernel
theorem goOn3 : goOnB 3 = true := by decide +kernel
theorem on4 : onB 4 = true := by decide +kernel
theorem lot4 : lotB 4 = true := by decide +kernel
theorem part4 : partB 4 = true := by decide +kernel
theorem leng4 : lengB 4 = true := by decide +kernel
theorem row4 : rowB 4 = true := by decide +kernel
theorem spoil4 : spoilB 4 = true := by decide +kernel
theorem goOn4 : goOnB 4 = true := by decide +kernel
theorem on5 : onB 5 = true := by decide +kernel
theorem lot5 : lotB 5 = true := by decide +kernel
theorem part5 : partB 5 = true := by decide +kernel
theorem leng5 : lengB 5 = true := by decide +kernel
theorem row5 : rowB 5 = true := by decide +kernel
theorem spoil5 : spoilB 5 = true := by decide +kernel
theorem goOn5 : goOnB 5 = true := by decide +kernel
theorem on6 : onB 6 = true := by decide +kernel
theorem lot6 : lotB 6 = true := by decide +kernel
theorem part6 : partB 6 = true := by decide +kernel
theorem leng6 : lengB 6 = true := by decide +kernel
theorem row6 : rowB 6 = true := by decide +kernel
theorem spoil6 : spoilB 6 = true := by decide +kernel
theorem goOn6 : goOnB 6 = true := by decide +kernel
theorem on7 : onB 7 = true := by decide +kernel
theorem lot7 : lotB 7 = true := by decide +kernel
theorem part7 : partB 7 = true := by decide +kernel
theorem leng7 : lengB 7 = true := by decide +kernel
theorem row7 : rowB 7 = true := by decide +kernel
theorem spoil7 : spoilB 7 = true := by decide +kernel
theorem goOn7 : goOnB 7 = true := by decide +kernel
theorem on8 : onB 8 = true := by decide +kernel
theorem lot8 : lotB 8 = true := by decide +kernel
theorem part8 : partB 8 = true := by decide +kernel
theorem leng8 : lengB 8 = true := by decide +kernel
theorem row8 : rowB 8 = true := by decide +kernel
theorem spoil8 : spoilB 8 = true := by decide +kernel
theorem goOn8 : goOnB 8 = true := by decide +kernel
theorem on9 : onB 9 = true := by decide +kernel
theorem lot9 : lotB 9 = true := by decide +kernel
theorem part9 : partB 9 = true := by decide +kernel
theorem leng9 : lengB 9 = true := by decide +kernel
theorem row9 : rowB 9 = true := by decide +kernel
theorem spoil9 : spoilB 9 = true := by decide +kernel
theorem goOn9 : goOnB 9 = true := by decide +kernel
theorem on10 : onB 10 = true := by decide +kernel
theorem lot10 : lotB 10 = true := by decide +kernel
theorem part10 : partB 10 = true := by decide +kernel
theorem leng10 : lengB 10 = true := by decide +kernel
theorem row10 : rowB 10 = true := by decide +kernel
theorem spoil10 : spoilB 10 = true := by decide +kernel
theorem goOn10 : goOnB 10 = true := by decide +kernel
theorem on11 : onB 11 = true := by decide +kernel
theorem lot11 : lotB 11 = true := by decide +kernel
theorem part11 : partB 11 = true := by decide +kernel
theorem leng11 : lengB 11 = true := by decide +kernel
theorem row11 : rowB 11 = true := by decide +kernel
theorem spoil11 : spoilB 11 = true := by decide +kernel
theorem goOn11 : goOnB 11 = true := by decide +kernel
theorem on12 : onB 12 = true := by decide +kernel
theorem lot12 : lotB 12 = true := by decide +kernel
theorem part12 : partB 12 = true := by decide +kernel
theorem leng12 : lengB 12 = true := by decide +kernel
theorem row12 : rowB 12 = true := by decide +kernel
theorem spoil12 : spoilB 12 = true := by decide +kernel
theorem goOn12 : goOnB 12 = true := by decide +kernel
theorem on13 : onB 13 = true := by decide +kernel
theorem lot13 : lotB 13 = true := by decide +kernel
theorem part13 : partB 13 = true := by decide +kernel
theorem leng13 : lengB 13 = true := by decide +kernel
theorem row13 : rowB 13 = true := by decide +kernel
theorem spoil13 : spoilB 13 = true := by decide +kernel
theorem goOn13 : goOnB 13 = true := by decide +kernel
theorem on14 : onB 14 = true := by decide +kernel
theorem lot14 : lotB 14 = true := by decide +kernel
theorem part14 : partB 14 = true := by decide +kernel
theorem leng14 : lengB 14 = true := by decide +kernel
theorem row14 : rowB 14 = true := by decide +kernel
theorem spoil14 : spoilB 14 = true := by decide +kernel
theorem goOn14 : goOnB 14 = true := by decide +kernel
theorem on15 : onB 15 = true := by decide +kernel
theorem lot15 : lotB 15 = true := by decide +kernel
theorem part15 : partB 15 = true := by decide +kernel
theorem leng15 : lengB 15 = true := by decide +kernel
theorem row15 : rowB 15 = true := by decide +kernel
theorem spoil15 : spoilB 15 = true := by decide +kernel
theorem goOn15 : goOnB 15 = true := by decide +kernel
theorem on16 : onB 16 = true := by decide +kernel
theorem lot16 : lotB 16 = true := by decide +kernel
theorem part16 : partB 16 = true := by decide +kernel
theorem leng16 : lengB 16 = true := by decide +kernel
theorem row16 : rowB 16 = true := by decide +kernel
theorem spoil16 : spoilB 16 = true := by decide +kernel
theorem goOn16 : goOnB 16 = true := by decide +kernel
theorem on17 : onB 17 = true := by decide +kernel
theorem lot17 : lotB 17 = true := by decide +kernel
theorem part17 : partB 17 = true := by decide +kernel
theorem leng17 : lengB 17 = true := by decide +kernel
theorem row17 : rowB 17 = true := by decide +kernel
theorem spoil17 : spoilB 17 = true := by decide +kernel
theorem goOn17 : goOnB 17 = true := by decide +kernel
theorem on18 : onB 18 = true := by decide +kernel
theorem lot18 : lotB 18 = true := by decide +kernel
theorem part18 : partB 18 = true := by decide +kernel
theorem leng18 : lengB 18 = true := by decide +kernel
theorem row18 : rowB 18 = true := by decide +kernel
theorem spoil18 : spoilB 18 = true := by decide +kernel
theorem goOn18 : goOnB 18 = true := by decide +kernel
theorem on19 : onB 19 = true := by decide +kernel
theorem lot19 : lotB 19 = true := by decide +kernel
theorem part19 : partB 19 = true := by decide +kernel
theorem leng19 : lengB 19 = true := by decide +kernel
theorem row19 : rowB 19 = true := by decide +kernel
theorem spoil19 : spoilB 19 = true := by decide +kernel
theorem goOn19 : goOnB 19 = true := by decide +kernel
theorem on20 : onB 20 = true := by decide +kernel
theorem lot20 : lotB 20 = true := by decide +kernel
theorem part20 : partB 20 = true := by decide +kernel
theorem leng20 : lengB 20 = true := by decide +kernel
theorem row20 : rowB 20 = true := by decide +kernel
theorem spoil20 : spoilB 20 = true := by decide +kernel
theorem goOn20 : goOnB 20 = true := by decide +kernel
theorem on21 : onB 21 = true := by decide +kernel
theorem lot21 : lotB 21 = true := by decide +kernel
theorem part21 : partB 21 = true := by decide +kernel
theorem leng21 : lengB 21 = true := by decide +kernel
theorem row21 : rowB 21 = true := by decide +kernel
theorem spoil21 : spoilB 21 = true := by decide +kernel
theorem goOn21 : goOnB 21 = true := by decide +kernel
theorem on22 : onB 22 = true := by decide +kernel
theorem lot22 : lotB 22 = true := by decide +kernel
theorem part22 : partB 22 = true := by decide +kernel
theorem leng22 : lengB 22 = true := by decide +kernel
theorem row22 : rowB 22 = true := by decide +kernel
theorem spoil22 : spoilB 22 = true := by decide +kernel
theorem goOn22 : goOnB 22 = true := by decide +kernel
theorem on23 : onB 23 = true := by decide +kernel
theorem lot23 : lotB 23 = true := by decide +kernel
theorem part23 : partB 23 = true := by decide +kernel
theorem leng23 : lengB 23 = true := by decide +kernel
theorem row23 : rowB 23 = true := by decide +kernel
theorem spoil23 : spoilB 23 = true := by decide +kernel
theorem goOn23 : goOnB 23 = true := by decide +kernel
theorem on24 : onB 24 = true := by decide +kernel
theorem lot24 : lotB 24 = true := by decide +kernel
theorem part24 : partB 24 = true := by decide +kernel
theorem leng24 : lengB 24 = true := by decide +kernel
theorem row24 : rowB 24 = true := by decide +kernel
theorem on_all : ∀ {n : Nat}, 1 ≤ n → n ≤ 24 → onB n = true
  | 0, h, _ => by omega
  | 1, _, _ => on1
  | 2, _, _ => on2
  | 3, _, _ => on3
  | 4, _, _ => on4
  | 5, _, _ => on5
  | 6, _, _ => on6
  | 7, _, _ => on7
  | 8, _, _ => on8
  | 9, _, _ => on9
  | 10, _, _ => on10
  | 11, _, _ => on11
  | 12, _, _ => on12
  | 13, _, _ => on13
  | 14, _, _ => on14
  | 15, _, _ => on15
  | 16, _, _ => on16
  | 17, _, _ => on17
  | 18, _, _ => on18
  | 19, _, _ => on19
  | 20, _, _ => on20
  | 21, _, _ => on21
  | 22, _, _ => on22
  | 23, _, _ => on23
  | 24, _, _ => on24
  | n + 25, _, h => by omega
theorem lot_all : ∀ {n : Nat}, 1 ≤ n → n ≤ 24 → lotB n = true
  | 0, h, _ => by omega
  | 1, _, _ => lot1
  | 2, _, _ => lot2
  | 3, _, _ => lot3
  | 4, _, _ => lot4
  | 5, _, _ => lot5
  | 6, _, _ => lot6
  | 7, _, _ => lot7
  | 8, _, _ => lot8
  | 9, _, _ => lot9
  | 10, _, _ => lot10
  | 11, _, _ => lot11
  | 12, _, _ => lot12
  | 13, _, _ => lot13
  | 14, _, _ => lot14
  | 15, _, _ => lot15
  | 16, _, _ => lot16
  | 17, _, _ => lot17
  | 18, _, _ => lot18
  | 19, _, _ => lot19
  | 20, _, _ => lot20
  | 21, _, _ => lot21
  | 22, _, _ => lot22
  | 23, _, _ => lot23
  | 24, _, _ => lot24
  | n + 25, _, h => by omega
theorem part_all : ∀ {n : Nat}, 1 ≤ n → n ≤ 24 → partB n = true
  | 0, h, _ => by omega
  | 1, _, _ => part1
  | 2, _, _ => part2
  | 3, _, _ => part3
  | 4, _, _ => part4
  | 5, _, _ => part5
  | 6, _, _ => part6
  | 7, _, _ => part7
  | 8, _, _ => part8
  | 9, _, _ => part9
  | 10, _, _ => part10
  | 11, _, _ => part11
  | 12, _, _ => part12
  | 13, _, _ => part13
  | 14, _, _ => part14
  | 15, _, _ => part15
  | 16, _, _ => part16
  | 17, _, _ => part17
  | 18, _, _ => part18
  | 19, _, _ => part19
  | 20, _, _ => part20
  | 21, _, _ => part21
  | 22, _, _ => part22
  | 23, _, _ => part23
  | 24, _, _ => part24
  | n + 25, _, h => by omega
theorem leng_all : ∀ {n : Nat}, 1 ≤ n → n ≤ 24 → lengB n = true
  | 0, h, _ => by omega
  | 1, _, _ => leng1
  | 2, _, _ => leng2
  | 3, _, _ => leng3
  | 4, _, _ => leng4
  | 5, _, _ => leng5
  | 6, _, _ => leng6
  | 7, _, _ => leng7
  | 8, _, _ => leng8
  | 9, _, _ => leng9
  | 10, _, _ => leng10
  | 11, _, _ => leng11
  | 12, _, _ => leng12
  | 13, _, _ => leng13
  | 14, _, _ => leng14
  | 15, _, _ => leng15
  | 16, _, _ => leng16
  | 17, _, _ => leng17
  | 18, _, _ => leng18
  | 19, _, _ => leng19
  | 20, _, _ => leng20
  | 21, _, _ => leng21
  | 22, _, _ => leng22
  | 23, _, _ => leng23
  | 24, _, _ => leng24
  | n + 25, _, h => by omega
theorem row_all : ∀ {n : Nat}, 1 ≤ n → n ≤ 24 → rowB n = true
  | 0, h, _ => by omega
  | 1, _, _ => row1
  | 2, _, _ => row2
  | 3, _, _ => row3
  | 4, _, _ => row4
  | 5, _, _ => row5
  | 6, _, _ => row6
  | 7, _, _ => row7
  | 8, _, _ => row8
  | 9, _, _ => row9
  | 10, _, _ => row10
  | 11, _, _ => row11
  | 12, _, _ => row12
  | 13, _, _ => row13
  | 14, _, _ => row14
  | 15, _, _ => row15
  | 16, _, _ => row16
  | 17, _, _ => row17
  | 18, _, _ => row18
  | 19, _, _ => row19
  | 20, _, _ => row20
  | 21, _, _ => row21
  | 22, _, _ => row22
  | 23, _, _ => row23
  | 24, _, _ => row24
  | n + 25, _, h => by omega
theorem spoil_all : ∀ {n : Nat}, 1 ≤ n → n ≤ 23 → spoilB n = true
  | 0, h, _ => by omega
  | 1, _, _ => spoil1
  | 2, _, _ => spoil2
  | 3, _, _ => spoil3
  | 4, _, _ => spoil4
  | 5, _, _ => spoil5
  | 6, _, _ => spoil6
  | 7, _, _ => spoil7
  | 8, _, _ => spoil8
  | 9, _, _ => spoil9
  | 10, _, _ => spoil10
  | 11, _, _ => spoil11
  | 12, _, _ => spoil12
  | 13, _, _ => spoil13
  | 14, _, _ => spoil14
  | 15, _, _ => spoil15
  | 16, _, _ => spoil16
  | 17, _, _ => spoil17
  | 18, _, _ => spoil18
  | 19, _, _ => spoil19
  | 20, _, _ => spoil20
  | 21, _, _ => spoil21
  | 22, _, _ => spoil22
  | 23, _, _ => spoil23
  | n + 24, _, h => by omega
theorem goOn_all : ∀ {n : Nat}, 1 ≤ n → n ≤ 23 → goOnB n = true
  | 0, h, _ => by omega
  | 1, _, _ => goOn1
  | 2, _, _ => goOn2
  | 3, _, _ => goOn3
  | 4, _, _ => goOn4
  | 5, _, _ => goOn5
  | 6, _, _ => goOn6
  | 7, _, _ => goOn7
  | 8, _, _ => goOn8
  | 9, _, _ => goOn9
  | 10, _, _ => goOn10
  | 11, _, _ => goOn11
  | 12, _, _ => goOn12
  | 13, _, _ => goOn13
  | 14, _, _ => goOn14
  | 15, _, _ => goOn15
  | 16, _, _ => goOn16
  | 17, _, _ => goOn17
  | 18, _, _ => goOn18
  | 19, _, _ => goOn19
  | 20, _, _ => goOn20
  | 21, _, _ => goOn21
  | 22, _, _ => goOn22
  | 23, _, _ => goOn23
  | n + 24, _, h => by omega
theorem start_rows : ((List.range 6).all fun k => decide ((List.range (k + 1)).map (· + 1) ∈ rowsN ((List.range (k + 1)).map (· + 1)).sum) && decide (((List.range (k + 1)).map (· + 1)).sum ≤ 21)) = true := by decide +kernel
end LW
set_option maxHeartbeats 4000000
namespace LW
open PySem PySem.Spec PyProof.Rows L2 DL
structure RowK (ns : List Nat) : Prop where
  mem : ns ∈ rowsN ns.sum
  lo : 1 ≤ ns.sum
  hi : ns.sum ≤ 24
theorem RowK.facts {ns : List Nat} (h : RowK ns) : ns ≠ [] ∧ ns.length ≤ 9 ∧ isRowN ns = true ∧ ∀ x ∈ ns, 1 ≤ x := by
  have := row_all h.lo h.hi
  simp only [rowB, Bool.and_eq_true] at this
  have := List.all_eq_true.mp this.2 ns h.mem
  simp only [Bool.and_eq_true, Bool.not_eq_true', decide_eq_true_eq, List.all_eq_true] at this
  exact ⟨fun e => by rw [e] at this; simp at this, this.1.1.1.2, this.1.1.2, this.2⟩
theorem RowK.app {ns : List Nat} (h : RowK ns) {x : Nat} (h1 : 1 ≤ x) (h2 : x ≤ ns.getLastD 0) (h3 : ns.sum + x ≤ 24) (h9 : ns.length ≠ 9) : RowK (ns ++ [x]) := by
  have es : (ns ++ [x]).sum = ns.sum + x := by rw [List.sum_append]; simp
  have := goOn_all h.lo (by omega)
  have := List.all_eq_true.mp (List.all_eq_true.mp this ns h.mem) (x - 1) (List.mem_range.mpr (by omega))
  simp only [Bool.or_eq_true, decide_eq_true_eq] at this
  have := this.resolve_left h9
  rw [show x - 1 + 1 = x by omega] at this
  exact ⟨by rw [es]; exact this, by rw [es]; omega, by rw [es]; exact h3⟩
theorem rise_step {r : Nat} (hr : 1 ≤ r ∧ r ≤ 6) (π : Pot) (o3 : Option D) : f_l_row_b1 [some .non, some (.int 24), some (.int (r : Int)), o3, none, none] π = .ok (.nx [some .non, some (.int 24), some (.int (r : Int)), o3, none, none], π) := by
  obtain ⟨h1, h6⟩ := hr
  have hm : opMulA (.int (r : Int)) (.int ((r : Int) + 1)) = some (.int ((r : Int) * ((r : Int) + 1))) := by
    have hs : r = 1 ∨ r = 2 ∨ r = 3 ∨ r = 4 ∨ r = 5 ∨ r = 6 := by omega
    rcases hs with rfl | rfl | rfl | rfl | rfl | rfl <;> rfl
  have hd : ∃ k : Int, opFdivW (.int ((r : Int) * ((r : Int) + 1))) (.int 2) = some (.int k) ∧ ¬ 24 < k := by
    have hs : r = 1 ∨ r = 2 ∨ r = 3 ∨ r = 4 ∨ r = 5 ∨ r = 6 := by omega
    rcases hs with rfl | rfl | rfl | rfl | rfl | rfl <;> exact ⟨_, rfl, by decide⟩
  obtain ⟨k, hk, hk2⟩ := hd
  generalize (r : Int) = R at *
  simp -implicitDefEqProofs [f_l_row_b1_ap, hm, hk, hk2]
theorem rise_loop {r : Nat} (hr : 1 ≤ r ∧ r ≤ 6) (π : Pot) (l : List Int) : ∀ (o3 : Option D), ∃ o3', forGo (gN 3) f_l_row_b1 (l.map D.int) [some .non, some (.int 24), some (.int (r : Int)), o3, none, none] π = .ok (.nx [some .non, some (.int 24), some (.int (r : Int)), o3', none, none], π) := by
  induction l with
  | nil => exact fun o3 => ⟨o3, rfl⟩
  | cons x l ih =>
    intro o3
    obtain ⟨o3', e⟩ := ih (some (.int x))
    refine ⟨o3', ?_⟩
    rw [← e]
    have st := rise_step hr π (some (.int x))
    simp -implicitDefEqProofs only [List.map_cons, forGo, gN_ap, ofO_some, Res.bind_ok, List.set_cons_succ, List.set_cons_zero, st]
theorem rD_app (ns : List Nat) (x : Nat) : (zn (ns ++ [x])).map D.int = (zn ns).map D.int ++ [nD x] := by simp [zn]
theorem last_ix {ns : List Nat} (h : ns ≠ []) : opIx (rD ns) (.int (-1)) = some (nD (ns.getLastD 0)) := by
  obtain ⟨m, x, e⟩ : ∃ m x, ns = m ++ [x] := ⟨ns.dropLast, ns.getLast h, (List.dropLast_concat_getLast h).symm⟩
  subst e
  have : rD (m ++ [x]) = .lst ((zn m).map D.int ++ [nD x]) := by unfold rD iL; rw [rD_app]
  rw [this, opIx_last]
  simp
theorem turn_loop {o2 : Option D} : ∀ (l : List Int) (ns : List Nat) (o3 o5 : Option D) (π : Pot), RowK ns →
    ∃ (ns' : List Nat) (π' : Pot), RowK ns' ∧ ((∃ o3' o5', forGo (gN 3) f_l_row_b2 (l.map D.int) [some .non, some (.int 24), o2, o3, some (rD ns), o5] π = .ok (.nx [some .non, some (.int 24), o2, o3', some (rD ns'), o5'], π')) ∨
      forGo (gN 3) f_l_row_b2 (l.map D.int) [some .non, some (.int 24), o2, o3, some (rD ns), o5] π = .ok (.rt (rD ns'), π'))
  | [], ns, o3, o5, π, h => ⟨ns, π, h, .inl ⟨o3, o5, rfl⟩⟩
  | y :: l, ns, o3, o5, π, h => by
    obtain ⟨hne, h9, -, h1⟩ := h.facts
    have lx := last_ix hne
    have sx : fSum [rD ns] = some (.int (ns.sum : Int)) := by unfold rD iL; rw [fSum_iz, zn_sum]
    have lnx : fLen [rD ns] = some (.int (ns.length : Int)) := by unfold rD iL; simp [zn]
    have hhi := h.hi
    have hlast : 1 ≤ ns.getLastD 0 := by
      have : ns.getLastD 0 ∈ ns := by
        rw [List.getLastD_eq_getLast?, List.getLast?_eq_some_getLast hne]
        exact List.getLast_mem hne
      exact h1 _ this
    obtain ⟨room, hroom⟩ : ∃ room : Int, room = if (24 - (ns.sum : Int)) < ((ns.getLastD 0 : Nat) : Int) then 24 - (ns.sum : Int) else ((ns.getLastD 0 : Nat) : Int) := ⟨_, rfl⟩
    have hmin : fMin2 [nD (ns.getLastD 0), .int (24 - (ns.sum : Int))] = some (.int room) := by rw [hroom]; rfl
    have hR : rD ns = .lst ((zn ns).map D.int) := rfl
    by_cases hs : room < 1 ∨ ns.length = 9
    · refine ⟨ns, π, h, .inr ?_⟩
      simp only [List.map_cons, forGo, gN_ap, ofO_some, Res.bind_ok]
      generalize rD ns = R at *
      generalize nD (ns.getLastD 0) = LD at *
      by_cases hr : room < 1
      · generalize (ns.sum : Int) = s at *
        simp -implicitDefEqProofs [f_l_row_b2_ap, lx, sx, hmin, hr]
      · have hl : (ns.length : Int) = 9 := by omega
        generalize (ns.sum : Int) = s at *
        simp -implicitDefEqProofs [f_l_row_b2_ap, lx, sx, hmin, hr, lnx, hl]
    · have hr : ¬ room < 1 := fun z => hs (.inl z)
      have hl : ¬ (ns.length : Int) = 9 := fun z => hs (.inr (by omega))
      obtain ⟨v, π1, ed, v0, v1⟩ := draw_ex (n := room) (a := .non) π (by omega) (by split at hroom <;> omega)
      obtain ⟨x, hx⟩ : ∃ x : Nat, (x : Int) = 1 + v := ⟨(1 + v).toNat, by omega⟩
      have hK : RowK (ns ++ [x]) := h.app (by omega) (by split at hroom <;> omega) (by split at hroom <;> omega) (fun z => hs (.inr z))
      have ap : appD (.int (1 + v)) ((zn ns).map D.int) = some ((zn (ns ++ [x])).map D.int) := by
        rw [appD_ok (by simp [zn]; omega), rD_app, ← hx]
      have step : f_l_row_b2 ([some .non, some (.int 24), o2, o3, some (rD ns), o5].set 3 (some (.int y))) π = .ok (.nx [some .non, some (.int 24), o2, some (.int y), some (rD (ns ++ [x])), some (.int room)], π1) := by
        have hR2 : rD (ns ++ [x]) = .lst ((zn (ns ++ [x])).map D.int) := rfl
        rw [hR2]
        rw [hR] at lx sx lnx ⊢
        generalize (zn (ns ++ [x])).map D.int = N2 at *
        generalize (zn ns).map D.int = N at *
        generalize nD (ns.getLastD 0) = LD at *
        generalize (ns.sum : Int) = s at *
        simp -implicitDefEqProofs [f_l_row_b2_ap, lx, sx, hmin, hr, lnx, hl, ed, ap]
      obtain ⟨ns', π', hK', hh⟩ := turn_loop (o2 := o2) l (ns ++ [x]) (some (.int y)) (some (.int room)) π1 hK
      refine ⟨ns', π', hK', ?_⟩
      simp only [List.map_cons, forGo, gN_ap, ofO_some, Res.bind_ok]
      rw [step]
      rcases hh with ⟨o3', o5', e⟩ | e
      · exact .inl ⟨o3', o5', e⟩
      · exact .inr e
theorem lrow_ex (π : Pot) : ∃ (ns : List Nat) (π' : Pot), m_l_row [.non, .int 24] π = .ok (rD ns, π') ∧ RowK ns := by
  obtain ⟨v, π1, e1, v0, v1⟩ := draw_ex (n := 6) (a := .non) π (by decide) (by decide)
  obtain ⟨r, hr⟩ : ∃ r : Nat, (r : Int) = 1 + v := ⟨(1 + v).toNat, by omega⟩
  obtain ⟨o3, e2⟩ := rise_loop (r := r) (by omega) π1 [0, 1, 2, 3, 4, 5] none
  have r6 : rng [.int 6] = some ([0, 1, 2, 3, 4, 5].map D.int) := rfl
  obtain ⟨ns0, hns0⟩ : ∃ ns0, ns0 = (List.range r).map (· + 1) := ⟨_, rfl⟩
  have hK : RowK ns0 := by
    have := List.all_eq_true.mp start_rows (r - 1) (List.mem_range.mpr (by omega))
    rw [show r - 1 + 1 = r by omega, ← hns0] at this
    simp only [Bool.and_eq_true, decide_eq_true_eq] at this
    refine ⟨this.1, ?_, by omega⟩
    rw [hns0]
    have hs : r = 1 ∨ r = 2 ∨ r = 3 ∨ r = 4 ∨ r = 5 ∨ r = 6 := by omega
    rcases hs with rfl | rfl | rfl | rfl | rfl | rfl <;> simp [List.range_succ]
  have rg : fRg2 (.int 1) (.int ((1 + v) + 1)) = some (rD ns0) := by
    have e0 : (zn ns0).map D.int = (List.range r).map fun (t : Nat) => D.int (1 + (t : Int)) := by
      rw [hns0]
      unfold zn
      rw [List.map_map, List.map_map]
      refine List.map_congr_left fun t _ => ?_
      have : (((t + 1 : Nat)) : Int) = 1 + (t : Int) := by omega
      exact congrArg D.int this
    have e1 := fRg2_ok (i := 1) (j := (1 + v) + 1) (by omega) (by omega) (by omega) (by omega)
    rw [show (1 + v + 1 - 1).toNat = r by omega, ← e0] at e1
    exact e1
  obtain ⟨w, π2, e3, w0, w1⟩ := draw_ex (n := 8) (a := .non) π1 (by decide) (by decide)
  obtain ⟨k, rfl⟩ : ∃ k : Nat, w = (k : Int) := ⟨w.toNat, by omega⟩
  have r8 : rng [.int (k : Int)] = some (((List.range k).map fun (i : Nat) => (i : Int)).map D.int) := by
    have := rng_1 (j := (k : Int)) (by omega) (by omega)
    rw [Int.toNat_natCast] at this
    rw [this, List.map_map]
    simp only [Function.comp_def]
  rw [hr] at e2
  obtain ⟨ns, π3, hK2, hh⟩ := turn_loop (o2 := some (.int (1 + v))) ((List.range k).map fun (i : Nat) => (i : Int)) ns0 o3 none π2 hK
  refine ⟨ns, π3, ?_, hK2⟩
  generalize ([0, 1, 2, 3, 4, 5] : List Int).map D.int = L6 at *
  generalize ((List.range k).map fun (i : Nat) => (i : Int)).map D.int = L8 at *
  generalize rD ns0 = R0 at *
  have hR : rD ns = .lst ((zn ns).map D.int) := rfl
  rw [hR] at hh ⊢
  generalize (zn ns).map D.int = N at *
  rcases hh with ⟨o3', o5', e⟩ | e
  · unfold m_l_row f_l_row
    simp -implicitDefEqProofs [e1, r6, e2, rg, e3, r8, e]
  · unfold m_l_row f_l_row
    simp -implicitDefEqProofs [e1, r6, e2, rg, e3, r8, e]
end LW
set_option maxHeartbeats 2000000
namespace LW
open PySem PySem.Spec PyProof.Rows L2 DL
theorem lstZ_inj {a b : List Int} (h : lstZ a = lstZ b) : a = b := by
  unfold lstZ at h
  simp only [D.lst.injEq] at h
  exact (List.map_inj_right fun x y e => by cases e; rfl).mp h
theorem sortB_inv {A : D} {L : List (List Int)} (hL : L ≠ []) (h : fSortB [A] = some (.lst (L.map lstZ))) : ∃ L', A = .lst (L'.map lstZ) ∧ sortL L' = L := by
  obtain ⟨l0, lr, rfl⟩ : ∃ a b, L = a :: b := by
    cases L with
    | nil => exact absurd rfl hL
    | cons a b => exact ⟨a, b, rfl⟩
  cases A with
  | lst xs =>
    have nint : ∀ ns : List Int, (sortI ns).map D.int ≠ (l0 :: lr).map lstZ := fun ns e => by
      cases hs : sortI ns with
      | nil => rw [hs] at e; cases e
      | cons a b => rw [hs] at e; simp [lstZ] at e
    cases hi : asInts xs with
    | some ns =>
      have e : fSortB [.lst xs] = some (.lst ((sortI ns).map D.int)) := by simp [fSortB, hi]
      rw [e] at h
      simp only [Option.some.injEq, D.lst.injEq] at h
      exact absurd h (nint ns)
    | none =>
      cases hl : asLs xs with
      | some L' =>
        have e : fSortB [.lst xs] = some (.lst ((sortL L').map lstZ)) := by simp [fSortB, hi, hl]
        rw [e] at h
        simp only [Option.some.injEq, D.lst.injEq] at h
        exact ⟨L', by rw [← asLs_eq hl], (List.map_inj_right fun x y e => lstZ_inj e).mp h⟩
      | none =>
        have e : fSortB [.lst xs] = fSortA [.lst xs] := by simp [fSortB, hi, hl]
        rw [e] at h
        have nt : ∀ T : List (List Int), (sortT T).map tupZ ≠ (l0 :: lr).map lstZ := fun T e => by
          cases hs : sortT T with
          | nil => rw [hs] at e; cases e
          | cons a b => rw [hs] at e; simp [lstZ, tupZ] at e
        cases ht : asTs xs with
        | none => simp [fSortA, hi, ht] at h
        | some T =>
          simp only [fSortA, hi, ht] at h
          split at h
          · split at h
            · simp only [Option.some.injEq, D.lst.injEq] at h
              exact absurd h (nt T)
            · split at h
              · simp only [Option.some.injEq, D.lst.injEq] at h
                exact absurd h (nt T)
              · cases h
          · cases h
  | tup xs =>
    rw [fSortB_tup] at h
    simp only [fSortA, Option.map_eq_some_iff] at h
    obtain ⟨ns, _, e⟩ := h
    simp only [D.lst.injEq] at e
    cases hs : sortI ns with
    | nil => rw [hs] at e; cases e
    | cons a b => rw [hs] at e; simp [lstZ] at e
  | _ => cases h
theorem sortS_inv {m : Fd} (pm : PF m) {ds : List D} {L : List (List Int)} (hL : L ≠ []) (h : isR (sortS (m ds (0, 0))) (.lst (L.map lstZ)) = true) (π : Pot) : ∃ L', m ds π = .ok (.lst (L'.map lstZ), π) ∧ sortL L' = L := by
  obtain ⟨π1, e⟩ := isR_ok h
  unfold sortS at e
  cases em : m ds (0, 0) with
  | stuck => rw [em] at e; cases e
  | err c ns xs q => rw [em] at e; cases e
  | ok y =>
    obtain ⟨A, q⟩ := y
    rw [em] at e
    simp only [Res.bind_ok] at e
    cases es : fSortB [A] with
    | none => rw [es] at e; cases e
    | some z =>
      rw [es] at e
      simp only [ofO_some, Res.bind_ok, Res.ok.injEq, Prod.mk.injEq] at e
      obtain ⟨rfl, _⟩ := e
      obtain ⟨L', rfl, hs⟩ := sortB_inv hL es
      exact ⟨L', pm.ok em π, hs⟩
theorem lf_ints (l : List Int) : lfreeL (l.map D.int) = true := by
  induction l with
  | nil => rfl
  | cons x l ih => simp only [List.map_cons, lfreeL, ih, Bool.and_true]; rfl
theorem right_eq (π : Pot) : ∃ π', m_l_right [.non] π = .ok (.bl true, π') := by
  obtain ⟨ns, π1, e1, hK⟩ := lrow_ex π
  obtain ⟨hne, h9, hrow, h1⟩ := hK.facts
  have hlo := hK.lo
  have hhi := hK.hi
  have hmem := hK.mem
  obtain ⟨n, hn⟩ : ∃ n, n = ns.sum := ⟨_, rfl⟩
  rw [← hn] at hlo hhi hmem
  have s1 : fSum [rD ns] = some (nD n) := by unfold rD iL; rw [fSum_iz, zn_sum, hn]
  have rf := row_all hlo hhi
  simp only [rowB, Bool.and_eq_true, Bool.not_eq_true', decide_eq_true_eq] at rf
  obtain ⟨⟨r1, r2⟩, r3⟩ := rf
  have hRne : rowsN n ≠ [] := fun e => by rw [e] at r1; cases r1
  have hrows : ∀ r ∈ rowsN n, r ≠ [] ∧ r.length ≤ 9 ∧ isRowN r = true ∧ r.sum = n := fun r hr => by
    have := List.all_eq_true.mp r3 r hr
    simp only [Bool.and_eq_true, Bool.not_eq_true', decide_eq_true_eq] at this
    exact ⟨fun e => by rw [e] at this; simp at this, this.1.1.1.2, this.1.1.2, this.1.2⟩
  have eR : (rowsN n).map rD = ((rowsN n).map zn).map lstZ := by rw [List.map_map]; rfl
  obtain ⟨OL, e2, so⟩ := sortS_inv pu_m_l_on_11 (L := (rowsN n).map zn) (by simpa using hRne) (by rw [← eR]; exact on_all hlo hhi) π1
  have hLne : lensS n ≠ [] := fun e => by
    have := (sortL_perm ((rowsN n).map fun r => zn (lenN r))).length_eq
    unfold lensS at e
    rw [e, List.length_map] at this
    exact hRne (List.eq_nil_of_length_eq_zero this.symm)
  obtain ⟨LT, e3, sl⟩ := sortS_inv pu_m_l_lots hLne (lot_all hlo hhi) π1
  have hLTl : LT.length = (rowsN n).length := by
    rw [← (sortL_perm LT).length_eq, sl]
    unfold lensS
    rw [(sortL_perm _).length_eq, List.length_map]
  have s2 := fSortB_lz OL
  rw [so, ← eR] at s2
  have s3 := fSortB_lz LT
  rw [sl] at s3
  obtain ⟨e4, e5⟩ := rows_of_eq hlo hhi π1
  have e6 := pu_m_p_partings.r (part_all hlo hhi) π1
  have isl : fIs ["list"] (.lst ((rowsN n).map rD)) = some (.bl true) := rfl
  have ne1 : opNe (.lst ((rowsN n).map rD)) (.lst ((rowsN n).map rD)) = some (.bl false) := by rw [shR.opNeL]; simp
  have eq1 : opEq (.lst ((rowsN n).map rD)) (.lst ((rowsN n).map rD)) = some (.bl true) := by rw [shR.opEqL]; simp
  have ni1 : opNotInA (rD ns) (.lst ((rowsN n).map rD)) = some (.bl false) := by rw [shR.opNotIn]; simp [hmem]
  have ln1 : fLen [.lst ((rowsN n).map rD)] = some (nD (rowsN n).length) := by simp
  have ln2 : fLen [.lst (LT.map lstZ)] = some (nD (rowsN n).length) := by simp [hLTl]
  have rep4 : ∀ x : D, opRep (.lst [x]) (.int 4) = some (.lst [x, x, x, x]) := fun x => by
    unfold opRep
    simp [sizeLine_eq]
  have ne4 : ∀ k : Int, opNe (.lst [.int k, .int k, .int k, .int k]) (.lst [.int k, .int k, .int k, .int k]) = some (.bl false) := fun k => by
    have := opNe_iz [k, k, k, k] [k, k, k, k]
    simpa using this
  have ne5 : ∀ k : Int, opNe (.int k) (.int k) = some (.bl false) := fun k => by simp [opNe, eqD]
  -- each is a row, its lengths
  obtain ⟨ρ0, hρ0⟩ : ∃ ρ0 : Rho, ρ0 = [some .non, some (rD ns), some (nD n), some (.lst ((rowsN n).map rD)), some (.lst (LT.map lstZ)), some (.lst ((rowsN n).map rD)), none, none, none] := ⟨_, rfl⟩
  have lc1 : lcGo (gN 8) f_l_right_t1 f_l_right_e2 [some .non, some (rD ns), some (nD n), some (.lst ((rowsN n).map rD)), some (.lst (LT.map lstZ)), some (.lst ((rowsN n).map rD)), none, none, none] ((rowsN n).map rD) π1 = .ok ([], π1) := by
    have := lcGo_filter (fg := gN 8) (ft := f_l_right_t1) (fe := f_l_right_e2) (ρ := [some .non, some (rD ns), some (nD n), some (.lst ((rowsN n).map rD)), some (.lst (LT.map lstZ)), some (.lst ((rowsN n).map rD)), none, none, none]) (π := π1) (enc := rD) (xs := rowsN n) (g := fun r => rD r) (p := fun _ => false)
      (ρ1 := fun r => [some .non, some (rD ns), some (nD n), some (.lst ((rowsN n).map rD)), some (.lst (LT.map lstZ)), some (.lst ((rowsN n).map rD)), none, none, some (rD r)]) (fun r hr => by simp) (fun r hr => by
        obtain ⟨q1, q2, q3, _⟩ := hrows r hr
        have := is_row_eq q1 (by omega) π1
        rw [q3] at this
        generalize rD r = X at *
        generalize rD ns = N at *
        generalize (rowsN n).map rD = R at *
        have ob : opNotB (.bl true) (.bl true) = some (.bl false) := rfl
        simp -implicitDefEqProofs [f_l_right_t1_ap, this, ob]) (fun r hr h => by cases h)
    rw [this, List.filter_eq_nil_iff.mpr (by simp)]
    rfl
  have lc2 : lcGo (gN 8) tTrue f_l_right_e1 [some .non, some (rD ns), some (nD n), some (.lst ((rowsN n).map rD)), some (.lst (LT.map lstZ)), some (.lst ((rowsN n).map rD)), none, none, none] ((rowsN n).map rD) π1 = .ok (((rowsN n).map fun r => zn (lenN r)).map lstZ, π1) := by
    have := lcGo_map (fg := gN 8) (fe := f_l_right_e1) (ρ := [some .non, some (rD ns), some (nD n), some (.lst ((rowsN n).map rD)), some (.lst (LT.map lstZ)), some (.lst ((rowsN n).map rD)), none, none, none]) (π := π1) (enc := rD) (xs := rowsN n) (g := fun r => rD (lenN r))
      (ρ1 := fun r => [some .non, some (rD ns), some (nD n), some (.lst ((rowsN n).map rD)), some (.lst (LT.map lstZ)), some (.lst ((rowsN n).map rD)), none, none, some (rD r)]) (fun r hr => by simp) (fun r hr => by
        have := pu_m_p_lengths.r (List.all_eq_true.mp (leng_all hlo hhi) r hr) π1
        generalize rD (lenN r) = Y at *
        generalize rD r = X at *
        generalize rD ns = N at *
        generalize (rowsN n).map rD = R at *
        simp -implicitDefEqProofs [f_l_right_e1_ap, this])
    rw [this, List.map_map]
    rfl
  have s4 := fSortB_lz ((rowsN n).map fun r => zn (lenN r))
  have el : sortL ((rowsN n).map fun r => zn (lenN r)) = lensS n := rfl
  rw [el] at s4
  have ne6 : opNe (.lst ((lensS n).map lstZ)) (.lst ((lensS n).map lstZ)) = some (.bl false) := by
    have : lensS n = (sortL ((rowsN n).map fun r => zn (lenN r))) := rfl
    refine opNe_refl ?_
    have h1 : ∀ L : List (List Int), plainL (L.map lstZ) = true ∧ deepL (L.map lstZ) ≤ 1 := fun L => by
      have k : ∀ l : List Int, plainL (l.map D.int) = true ∧ deepL (l.map D.int) = 0 := fun l => by
        induction l with
        | nil => exact ⟨rfl, rfl⟩
        | cons x l ih => exact ⟨by simp only [List.map_cons, plainL, ih.1, Bool.and_true]; rfl, by simp only [List.map_cons, deepL, ih.2]; rfl⟩
      induction L with
      | nil => exact ⟨rfl, Nat.zero_le _⟩
      | cons x L ih =>
        refine ⟨?_, ?_⟩
        · show (plainL (x.map D.int) && plainL (L.map lstZ)) = true
          rw [(k x).1, ih.1]; rfl
        · show max (deepL (x.map D.int) + 1) (deepL (L.map lstZ)) ≤ 1
          rw [(k x).2]; have := ih.2; omega
    obtain ⟨a, b⟩ := h1 (lensS n)
    show (plainL ((lensS n).map lstZ) && decide (deepL ((lensS n).map lstZ) + 1 ≤ 64)) = true
    simp only [a, Bool.true_and, decide_eq_true_eq]
    omega
  have nee : opNe (.lst []) (.lst []) = some (.bl false) := rfl
  -- the spoilt one
  have hpos : 1 ≤ ns.length := List.length_pos_iff.mpr hne
  have lnn : fLen [rD ns] = some (.int (ns.length : Int)) := by unfold rD iL; simp [zn]
  have lst1 : fList [rD ns] = some (rD ns) := rfl
  obtain ⟨v, π2, ed, v0, v1⟩ := draw_ex (n := (ns.length : Int)) (a := .non) π1 (by omega) (by omega)
  obtain ⟨i, rfl⟩ : ∃ i : Nat, v = (i : Int) := ⟨v.toNat, by omega⟩
  have hi : i < ns.length := by omega
  have hgd : ns.getD i 0 = ns[i] := by simp [List.getD, hi]
  obtain ⟨sp, hsp⟩ : ∃ sp, sp = ns.set i (ns.getD i 0 + 1) := ⟨_, rfl⟩
  have hspl : sp.length = ns.length := by rw [hsp, List.length_set]
  have hsps : sp.sum = n + 1 := by
    have key : ∀ (l : List Nat) (i : Nat), i < l.length → (l.set i (l.getD i 0 + 1)).sum = l.sum + 1 := fun l => by
      induction l with
      | nil => intro i h; simp at h
      | cons x l ih =>
        intro i h
        cases i with
        | zero => simp; omega
        | succ i =>
          have := ih i (by simpa using h)
          simp only [List.set_cons_succ, List.sum_cons, List.getD_cons_succ]
          omega
    rw [hsp, key ns i hi, hn]
  have ix1 : opIx (rD ns) (.int (i : Int)) = some (.int ((ns.getD i 0 : Nat) : Int)) := by
    unfold rD iL
    rw [opIx_iz (v := ((ns.getD i 0 : Nat) : Int)) (by omega) (by rw [Int.toNat_natCast, zn, List.getElem?_map, List.getElem?_eq_getElem hi, hgd]; rfl)]
  have st1 : setD (.int (((ns.getD i 0 : Nat) : Int) + 1)) (.int (i : Int)) ((zn ns).map D.int) = some ((zn sp).map D.int) := by
    unfold setD ixN
    have h1 : (0 : Int) ≤ (i : Int) := by omega
    have h2 : (i : Int) < (((zn ns).map D.int).length : Nat) := by simp [zn]; omega
    simp only [h1, h2, if_true, Option.map_some, Int.toNat_natCast]
    rw [hsp]
    simp [zn, List.map_set]
  have in1 : opInA (rD sp) (.lst ((rowsN n).map rD)) = some (.bl false) := by
    rw [shR.opIn]
    have : sp ∉ rowsN n := fun h => by have := (hrows sp h).2.2.2; omega
    simp [this]
  have hR0 : ∃ r0 rr, rowsN n = r0 :: rr := by
    cases h : rowsN n with
    | nil => exact absurd h hRne
    | cons a b => exact ⟨a, b, rfl⟩
  obtain ⟨r0, rr, hr0⟩ := hR0
  have ix0 : opIx (.lst ((rowsN n).map rD)) (.int 0) = some (.lst ((zn r0).map D.int)) := by
    rw [hr0]
    show L2.atI _ 0 = _
    exact atI_in (by decide) rfl
  have hr0l := (hrows r0 (by rw [hr0]; simp)).2.1
  have b0 : ((zn r0).map D.int).length + 2 < sizeLine := by rw [sizeLine_eq]; simp [zn]; omega
  have b1 : ((rowsN n).map rD).length + 2 < sizeLine := by rw [sizeLine_eq, List.length_map]; omega
  obtain ⟨e7, _⟩ := rows_of_eq hlo hhi π2
  have hRl : ((rowsN n).map rD).length < 16777216 := by rw [List.length_map]; omega
  have lfs : lfreeO (.lst ((zn sp).map D.int)) = true := lf_ints _
  have lfi : ∀ k : Int, lfree (.int k) = true := fun _ => rfl
  have lfn : ∀ k : Int, lfreeL [.int k] = true := fun _ => rfl
  have hRD : rD ns = .lst ((zn ns).map D.int) := rfl
  have hRS : rD sp = .lst ((zn sp).map D.int) := rfl
  refine ⟨π2, ?_⟩
  by_cases h24 : n < 24
  · obtain ⟨e8, _⟩ := rows_of_eq (n := n + 1) (by omega) (by omega) π2
    have hc : ((n + 1 : Nat) : Int) = (n : Int) + 1 := by omega
    have e8' : m_p_rows_of [.int ((n : Int) + 1)] π2 = .ok (.lst ((rowsN (n + 1)).map rD), π2) := by rw [← hc]; exact e8
    have e9 := is_row_eq (m := sp) (fun e => by rw [e] at hspl; simp at hspl; omega) (by omega) π2
    have hb : isRowN sp = decide (sp ∈ rowsN (n + 1)) := by
      have := List.all_eq_true.mp (List.all_eq_true.mp (spoil_all hlo (by omega)) ns hmem) i (List.mem_range.mpr hi)
      rw [← hsp] at this
      simpa using this
    have in2 : opInA (rD sp) (.lst ((rowsN (n + 1)).map rD)) = some (.bl (isRowN sp)) := by
      rw [shR.opIn]
      by_cases h : sp ∈ rowsN (n + 1)
      · have : isRowN sp = true := by rw [hb]; exact decide_eq_true h
        rw [this]; simp [h]
      · have : isRowN sp = false := by rw [hb]; exact decide_eq_false h
        rw [this]; simp [h]
    have ne7 : opNe (.bl (isRowN sp)) (.bl (isRowN sp)) = some (.bl false) := by cases isRowN sp <;> rfl
    have hlt : (n : Int) < 24 := by omega
    clear hρ0 e8
    rw [hRS] at in1 in2 e9
    generalize (rowsN (n + 1)).map rD = R2 at *
    generalize (rowsN n).map rD = R at *
    generalize ((rowsN n).length : Int) = rl at *
    generalize (((rowsN n).map fun r => zn (lenN r)).map lstZ) = LL at *
    generalize (lensS n).map lstZ = LS at *
    generalize OL.map lstZ = OD at *
    generalize LT.map lstZ = LD at *
    generalize isRowN sp = bb at *
    rw [hRD] at e1 s1 ni1 lc1 lc2 lnn lst1 ix1
    generalize (zn ns).map D.int = N at *
    generalize (zn sp).map D.int = SP at *
    generalize (zn r0).map D.int = R0 at *
    generalize ((ns.getD i 0 : Nat) : Int) = g at *
    generalize (ns.length : Int) = nl at *
    generalize (i : Int) = ii at *
    unfold m_l_right f_l_right
    simp -implicitDefEqProofs [e1, s1, e2, s2, e3, sBlkO, eGoN, lfn, e4, sIfB, isl, ne1, ni1, e6, e5, ln2, rep4, ne4, ln1, ne5, hRl, lc1, nee, lc2, s4, s3, ne6, lst1, lnn, ed, ix1, st1, in1, hlt, e8', in2, e9, ne7, sPoke2, b1, maskX, ix0, b0, maskC, maskGo, lfs, lfi, e7, eq1]
  · have hlt : ¬ (n : Int) < 24 := by omega
    have ne7 : opNe (.bl false) (.bl false) = some (.bl false) := rfl
    clear hρ0
    rw [hRS] at in1
    generalize (rowsN n).map rD = R at *
    generalize ((rowsN n).length : Int) = rl at *
    generalize (((rowsN n).map fun r => zn (lenN r)).map lstZ) = LL at *
    generalize (lensS n).map lstZ = LS at *
    generalize OL.map lstZ = OD at *
    generalize LT.map lstZ = LD at *
    rw [hRD] at e1 s1 ni1 lc1 lc2 lnn lst1 ix1
    generalize (zn ns).map D.int = N at *
    generalize (zn sp).map D.int = SP at *
    generalize (zn r0).map D.int = R0 at *
    generalize ((ns.getD i 0 : Nat) : Int) = g at *
    generalize (ns.length : Int) = nl at *
    generalize (i : Int) = ii at *
    unfold m_l_right f_l_right
    simp -implicitDefEqProofs [e1, s1, e2, s2, e3, sBlkO, eGoN, lfn, e4, sIfB, isl, ne1, ni1, e6, e5, ln2, rep4, ne4, ln1, ne5, hRl, lc1, nee, lc2, s4, s3, ne6, lst1, lnn, ed, ix1, st1, in1, hlt, ne7, sPoke2, b1, maskX, ix0, b0, maskC, maskGo, lfs, lfi, e7, eq1]
theorem good : ∀ ns : List Int, ns.length ≤ 63 → ∃ π, m_law_ [.lst (DL.iz ns)] (0, 0) = .ok (.bl true, π) := good_of fun π => right_eq π
end LW
open PySem PySem.W PyProof.Rows
set_option maxRecDepth 100000 in
set_option maxHeartbeats 0 in
theorem PySem.Challenge.cw_pointrows_k54_whole_rows_with_a_sum_holds : PySem.Challenge.rw_pointrows_k54_whole_rows_with_a_sum.Holds := by
  refine LH.hd ?_
  k_fill
  refine DL.walk_D (l := PySem.Challenge.rw_pointrows_k54_whole_rows_with_a_sum) (m := LW.m_law_) (k := 15) (x := "_law_script") rfl (by decide) rfl ⟨rfl, by decide, by decide⟩ (fun w h Y => PySem.W.kIn_of Y) LW.good ?F
  case F =>
    intro w mg fa h KX G hmg
    refine DL.law_end (T := LW.Top _ mg) hmg ?T (fun T => T.f_law_) (fun T _ => LW.d_law_ T) rfl (fun kV doc pm an cdv ct s u => .of_eq (LW.b_law_ kV doc pm an cdv ct [u] rfl))
    refine' LW.top_mk KX G ?a0 ?l0 ?c0 ?k0 ?a1 ?l1 ?c1 ?k1 ?a2 ?l2 ?c2 ?k2 ?a3 ?l3 ?c3 ?k3 ?a4 ?l4 ?c4 ?k4 ?t4 ?a5 ?l5 ?c5 ?k5 ?a6 ?l6 ?c6 ?k6 ?a7 ?l7 ?c7 ?k7 ?a8 ?l8 ?c8 ?k8 ?a9 ?l9 ?c9 ?k9 ?a10 ?l10 ?c10 ?k10 ?a11 ?l11 ?c11 ?k11 ?a12 ?l12 ?c12 ?k12 ?a13 ?l13 ?c13 ?k13 ?a14 ?l14 ?c14 ?k14 ?a15 ?l15 ?c15 ?k15 ?a16 ?l16 ?c16 ?k16 ?a17 ?l17 ?c17 ?k17 ?a18 ?l18 ?c18 ?k18 ?a19 ?l19 ?c19 ?k19 ?a20 ?l20 ?c20 ?k20 ?a21 ?l21 ?c21 ?k21 ?a22 ?l22 ?c22 ?k22 ?hb_abs ?hb_all ?hb_bool ?hb_divmod ?hb_enumerate ?hb_int ?hb_isinstance ?hb_len ?hb_list ?hb_max ?hb_min ?hb_range ?hb_sorted ?hb_sum ?hb_tuple ?hc_MOST_PLACES ?hc_MOST_SUM
    (case a0 => k_is)
    (case l0 => k_is)
    (case c0 => k_is)
    (case k0 => k_is)
    (case a1 => k_is)
    (case l1 => k_is)
    (case c1 => k_is)
    (case k1 => k_is)
    (case a2 => k_is)
    (case l2 => k_is)
    (case c2 => k_is)
    (case k2 => k_is)
    (case a3 => k_is)
    (case l3 => k_is)
    (case c3 => k_is)
    (case k3 => k_is)
    (case a4 => k_is)
    (case l4 => k_is)
    (case c4 => k_is)
    (case k4 => k_is)
    (case t4 => k_is)
    (case a5 => k_is)
    (case l5 => k_is)
    (case c5 => k_is)
    (case k5 => k_is)
    (case a6 => k_is)
    (case l6 => k_is)
    (case c6 => k_is)
    (case k6 => k_is)
    (case a7 => k_is)
    (case l7 => k_is)
    (case c7 => k_is)
    (case k7 => k_is)
    (case a8 => k_is)
    (case l8 => k_is)
    (case c8 => k_is)
    (case k8 => k_is)
    (case a9 => k_is)
    (case l9 => k_is)
    (case c9 => k_is)
    (case k9 => k_is)
    (case a10 => k_is)
    (case l10 => k_is)
    (case c10 => k_is)
    (case k10 => k_is)
    (case a11 => k_is)
    (case l11 => k_is)
    (case c11 => k_is)
    (case k11 => k_is)
    (case a12 => k_is)
    (case l12 => k_is)
    (case c12 => k_is)
    (case k12 => k_is)
    (case a13 => k_is)
    (case l13 => k_is)
    (case c13 => k_is)
    (case k13 => k_is)
    (case a14 => k_is)
    (case l14 => k_is)
    (case c14 => k_is)
    (case k14 => k_is)
    (case a15 => k_is)
    (case l15 => k_is)
    (case c15 => k_is)
    (case k15 => k_is)
    (case a16 => k_is)
    (case l16 => k_is)
    (case c16 => k_is)
    (case k16 => k_is)
    (case a17 => k_is)
    (case l17 => k_is)
    (case c17 => k_is)
    (case k17 => k_is)
    (case a18 => k_is)
    (case l18 => k_is)
    (case c18 => k_is)
    (case k18 => k_is)
    (case a19 => k_is)
    (case l19 => k_is)
    (case c19 => k_is)
    (case k19 => k_is)
    (case a20 => k_is)
    (case l20 => k_is)
    (case c20 => k_is)
    (case k20 => k_is)
    (case a21 => k_is)
    (case l21 => k_is)
    (case c21 => k_is)
    (case k21 => k_is)
    (case a22 => k_is)
    (case l22 => k_is)
    (case c22 => k_is)
    (case k22 => k_is)
    (case hb_abs => k_is)
    (case hb_all => k_is)
    (case hb_bool => k_is)
    (case hb_divmod => k_is)
    (case hb_enumerate => k_is)
    (case hb_int => k_is)
    (case hb_isinstance => k_is)
    (case hb_len => k_is)
    (case hb_list => k_is)
    (case hb_max => k_is)
    (case hb_min => k_is)
    (case hb_range => k_is)
    (case hb_sorted => k_is)
    (case hb_sum => k_is)
    (case hb_tuple => k_is)
    (case hc_MOST_PLACES => k_is)
    (case hc_MOST_SUM => k_is)
